import PyProof.Rows.All
import Wide.All
import OpenK.AllK
import Wide.FinOn
import HandS.ForMost
import HandS.ForExc
import HandS.TupAny
import HandS.TupMul
import HandS.Deep
import HandS.Lambda
import KE.KeyNested
import HandS.Dict
import HandS.Style
import KE.DataCmp
import PyProof.CollectStr
import HandS.Conv
import HandS.More
import KE.KDictList
import HandS.IsInst
import HandS.SortInts
import HandS.RevRange
import HandS.Rev
import HandS.CallSlots
import HandS.ExcCtx
import HandS.SortKw
import KE.DatumOrd
import KE.SortData
import HandS.HeadHook3
import PyProof.StrOps2
import KE.DataMinKey
import HandS.Property
import HandS.CallRecv
import HandS.ExcInit
import KE.KExcSuper
import HandS.ExcInitHot
import KE.SortKeyHeap
import HandS.Iter
import HandS.DictComp
import HandS.Keys
import HandS.TupSets
import HandS.Strs
import PyProof.AssignAttr
import KE.KDictKeyed
import HandS.ExcOwn
import HandS.TryOnly
import PyProof.ExcBaseAll.ValueError
import KE.KIsAll
import HandS.List
import KE.KExcIs
import HandS.ExcField
import HandS.Defaults
import PyProof.TableCode
import PySem.Challenge.RW_shiptrace_k08_common_match
import HandS.Head0
import HandS.HeadEnd
import HandS.EndTab
import KE.KNestM
/-! ## Ev1 -/
set_option Elab.async false
set_option linter.all false
set_option maxRecDepth 100000
namespace Ev
open PySem PySem.Spec PyProof.Rows L2

inductive D where
  | non | bl (b : Bool) | int (i : Int) | str (s : List Nat) | tup (l : List D) | rol (l : List D) | ref (n : Nat)
inductive Cell where
  | lst (l : List D)
  | dict (t : Bool) (kvs : List (D × D))
  | frd (kvs : List (D × D))
  | dxt (kvs : List (D × D))
  | ins (c : Str) (fs : List (Str × D))
abbrev Store := List Cell
inductive RV where
  | v (d : D) | t (l : List D)
structure Exn where
  cls : Str
  fs : List (Str × D)
inductive R (α : Type) where
  | ok (a : α) (st : Store) | exc (x : Exn) (st : Store) | bad
abbrev SEnv := List (Option D)

def R.bind {α β : Type} (r : R α) (f : α → Store → R β) : R β := match r with
  | .ok a st => f a st
  | .exc x st => .exc x st
  | .bad => .bad
@[simp] theorem R.bind_ok {α β : Type} (a : α) (st : Store) (f : α → Store → R β) : (R.ok a st).bind f = f a st := .trans rfl rfl
@[simp] theorem R.bind_exc {α β : Type} (x : Exn) (st : Store) (f : α → Store → R β) : (R.exc x st : R α).bind f = .exc x st := .trans rfl rfl
@[simp] theorem R.bind_bad {α β : Type} (f : α → Store → R β) : (R.bad : R α).bind f = .bad := .trans rfl rfl

mutual
def D.toPy : D → PyData
  | .non => .none
  | .bl b => .bool b
  | .int i => .int i
  | .str s => .str ⟨s.toArray⟩
  | .tup l => .tuple (D.toPys l)
  | .rol l => .list (D.toPys l)
  | .ref _ => .none
def D.toPys : List D → List PyData
  | [] => []
  | d :: l => D.toPy d :: D.toPys l
end
mutual
def D.pure : D → Bool
  | .tup l => D.pures l
  | .rol l => D.pures l
  | .ref _ => false
  | _ => true
def D.pures : List D → Bool
  | [] => true
  | d :: l => D.pure d && D.pures l
end
-- every reference is below n
mutual
def D.low (n : Nat) : D → Bool
  | .tup l => D.lows n l
  | .rol l => D.lows n l
  | .ref m => decide (m < n)
  | _ => true
def D.lows (n : Nat) : List D → Bool
  | [] => true
  | d :: l => D.low n d && D.lows n l
end
mutual
theorem D.low_of_pure (n : Nat) : ∀ d : D, D.pure d = true → D.low n d = true
  | .tup l, h => by rw [D.low]; exact D.lows_of_pures n l (by simpa [D.pure] using h)
  | .rol l, h => by rw [D.low]; exact D.lows_of_pures n l (by simpa [D.pure] using h)
  | .ref m, h => by simp [D.pure] at h
  | .non, _ => by simp [D.low]
  | .bl _, _ => by simp [D.low]
  | .int _, _ => by simp [D.low]
  | .str _, _ => by simp [D.low]
theorem D.lows_of_pures (n : Nat) : ∀ l : List D, D.pures l = true → D.lows n l = true
  | [], _ => by simp [D.lows]
  | d :: l, h => by
    simp only [D.pures, Bool.and_eq_true] at h
    simp only [D.lows, Bool.and_eq_true]
    exact ⟨D.low_of_pure n d h.1, D.lows_of_pures n l h.2⟩
end

structure CT where
  f : Str → Option Addr
  tabs : List (Addr × Str)
  hs : NestedKey → Int
instance : CoeFun CT fun _ => Str → Option Addr := ⟨CT.f⟩
mutual
def nkD : D → Option NestedKey
  | .non => some .none
  | .bl _ => none
  | .int i => some (.num i)
  | .str s => some (.text ⟨s.toArray⟩)
  | .tup l => (nkDs l).map .tup
  | .rol _ => none
  | .ref _ => none
def nkDs : List D → Option (List NestedKey)
  | [] => some []
  | d :: l => match nkD d, nkDs l with
    | some k, some r => some (k :: r)
    | _, _ => none
end
def dxP (hs : NestedKey → Int) (a : Addr) (xs : List (NestedKey × Addr × Value)) : Heap → Prop := fun h =>
  ∃ (o : Obj) (es : Array DictEntry) (ep : Nat), h.get? a = some o ∧ o.ExactDict ∧ o.data = .dict es ep ∧ es.toList = xs.map fun x => ⟨hs x.1, .ref x.2.1, x.2.2⟩
theorem dxP_code {hs : NestedKey → Int} {a : Addr} {xs : List (NestedKey × Addr × Value)} {q : Str} (e : HO.ext (dxP hs a xs) = LamX.CodeO a q) : False := by
  have e' := HO.ext.inj e
  let h0 : Heap := { objs := Array.replicate a default }
  let ob : Obj := { cls := .type "dict", data := .dict (xs.map fun x => (⟨hs x.1, .ref x.2.1, x.2.2⟩ : DictEntry)).toArray 0 }
  have hz : h0.objs.size = a := by simp [h0]
  have g : (h0.push ob).get? a = some ob := by
    have := Heap.get?_push_size h0 (o := ob) rfl
    rw [hz] at this
    exact this
  have p : dxP hs a xs (h0.push ob) := ⟨ob, _, 0, g, ⟨rfl, rfl, rfl⟩, rfl, by simp⟩
  rw [e'] at p
  obtain ⟨oc, vs, t, h1, h2, _⟩ := p
  rw [g] at h1
  cases h1
  cases h2
section
variable (K : PySem.W.Frag) (ρ : List Addr) (H : Hp)
def RoL (a : Addr) (vs : List V) : Prop := (∃ o, H a = some (.frz o (.lst vs))) ∨
    ∃ (o : Obj) (its : Array Value) (n : Nat), K.lookup a = some o ∧ o.cls = .type "list" ∧ o.dict = none ∧ o.data = .seq its n ∧ its.size ≤ sizeLine ∧ Vals vs its.toList
mutual
def RD : D → V → Prop
  | .non, v => v = .non
  | .bl b, v => v = .bl b
  | .int i, v => v = .int i
  | .str s, v => v = .str ⟨s.toArray⟩
  | .tup l, v => ∃ a vs, v = .ref a ∧ SqT K H a vs ∧ RDs l vs
  | .rol l, v => ∃ a vs, v = .ref a ∧ RoL K H a vs ∧ RDs l vs
  | .ref n, v => ∃ a, v = .ref a ∧ ρ[n]? = some a
def RDs : List D → List V → Prop
  | [], vs => vs = []
  | d :: l, vs => ∃ v r, vs = v :: r ∧ RD d v ∧ RDs l r
end
def RRV (H0 : Hp) : RV → V → Prop
  | .v d, v => RD K ρ H d v
  | .t l, v => ∃ a vs, v = .ref a ∧ H a = some (.lst vs) ∧ a ∉ ρ ∧ H0 a = none ∧ RDs K ρ H l vs
inductive RKey : D → Key → Prop
  | int (i : Int) : RKey (.int i) (.inl i)
  | str (s : List Nat) : RKey (.str s) (.inr ⟨s.toArray⟩)
inductive RKeys : List D → List Key → Prop
  | nil : RKeys [] []
  | cons {d l k ks} : RKey d k → RKeys l ks → RKeys (d :: l) (k :: ks)
inductive RKT : D → List Key → Prop
  | tup {l ks} : RKeys l ks → RKT (.tup l) ks
def RKV : List (D × D) → List (Key × V) → Prop
  | [], kvs => kvs = []
  | (k, d) :: r, kvs => ∃ k' v r', kvs = (k', v) :: r' ∧ RKey k k' ∧ RD K ρ H d v ∧ RKV r r'
def RKVT : List (D × D) → List (List Key × V) → Prop
  | [], kvs => kvs = []
  | (k, d) :: r, kvs => ∃ k' v r', kvs = (k', v) :: r' ∧ RKT k k' ∧ RD K ρ H d v ∧ RKVT r r'
def RFs : List (Str × D) → List (Str × V) → Prop
  | [], fs => fs = []
  | (f, d) :: r, fs => ∃ v r', fs = (f, v) :: r' ∧ RD K ρ H d v ∧ RFs r r'
def RKX : List (D × D) → List (NestedKey × Addr × Value) → Prop
  | [], xs => xs = []
  | (k, d) :: r, xs => ∃ nk b u v r', xs = (nk, b, u) :: r' ∧ nkD k = some nk ∧ nk.depth ≤ 8 ∧ RD K ρ H k (.ref b) ∧ RelV v u ∧ RD K ρ H d v ∧ RKX r r'
-- where the classes of the program stand
variable (cl : CT)
def RC (a : Addr) : Cell → Prop
  | .lst l => ∃ vs, H a = some (.lst vs) ∧ RDs K ρ H l vs
  | .dict t kvs => (t = false ∧ ∃ vs, H a = some (.dK vs) ∧ RKV K ρ H kvs vs) ∨ (t = true ∧ ∃ vs, H a = some (.dT vs) ∧ RKVT K ρ H kvs vs)
  | .frd kvs => ∃ o vs, H a = some (.frz o (.dK vs)) ∧ RKV K ρ H kvs vs
  | .dxt kvs => ∃ xs, (a == sysModules) = false ∧ (xs.map (·.1)).Nodup ∧ H a = some (.ext (dxP cl.hs a xs)) ∧ RKX K ρ H kvs xs
  | .ins c fs => ∃ C dx vs, cl c = some C ∧ H a = some (.ins C dx vs) ∧ RFs K ρ H fs vs
structure RS (st : Store) : Prop where
  len : ρ.length = st.length
  nd : ρ.Nodup
  at_ : ∀ (n : Nat) (c : Cell) (a : Addr), st[n]? = some c → ρ[n]? = some a → RC K ρ H cl a c
  tab : LamX.Tabs cl.tabs H
def KpT (o : HO) (z : Option HO) : Prop := z = some o ∨ ∃ ps ps', o = .tbl ps ∧ z = some (.tbl ps')
structure Ext (ρ : List Addr) (H : Hp) (ρ' : List Addr) (H' : Hp) : Prop where
  pre : ∃ more, ρ' = ρ ++ more
  same : ∀ a o, H a = some o → a ∉ ρ → KpT o (H' a) ∧ a ∉ ρ'
  frz : ∀ a o u, H a = some (.frz o u) → H' a = some (.frz o u)
structure RE (σ : L2.St) (env : SEnv) : Prop where
  len : σ.length = env.length
  at_ : ∀ (i : Nat) (d : D), env[i]? = some (some d) → ∃ v, σ[i]? = some (some v) ∧ RD K ρ H d v
end

theorem Ext.keep {ρ ρ' : List Addr} {H H' : Hp} (x : Ext ρ H ρ' H') {a : Addr} {o : HO} (h : H a = some o) (n : a ∉ ρ) (nt : ∀ ps, o ≠ .tbl ps) : H' a = some o ∧ a ∉ ρ' := by
  obtain ⟨h1, n1⟩ := x.same a o h n
  rcases h1 with h1 | ⟨ps, _, h1, _⟩
  · exact ⟨h1, n1⟩
  · exact absurd h1 (nt ps)
theorem Ext.refl (ρ : List Addr) (H : Hp) : Ext ρ H ρ H := ⟨⟨[], by simp⟩, fun _ _ h n => ⟨.inl h, n⟩, fun _ _ _ h => h⟩
theorem Ext.trans {ρ ρ1 ρ2 : List Addr} {H H1 H2 : Hp} (a : Ext ρ H ρ1 H1) (b : Ext ρ1 H1 ρ2 H2) : Ext ρ H ρ2 H2 := by
  obtain ⟨m1, e1⟩ := a.pre
  obtain ⟨m2, e2⟩ := b.pre
  refine ⟨⟨m1 ++ m2, by rw [e2, e1, List.append_assoc]⟩, fun c o h n => ?_, fun c o u h => b.frz c o u (a.frz c o u h)⟩
  obtain ⟨h1, n1⟩ := a.same c o h n
  rcases h1 with h1 | ⟨ps, ps', rfl, h1⟩
  · exact b.same c o h1 n1
  · obtain ⟨h2, n2⟩ := b.same c _ h1 n1
    rcases h2 with h2 | ⟨_, ps2, _, h2⟩
    · exact ⟨.inr ⟨ps, ps', rfl, h2⟩, n2⟩
    · exact ⟨.inr ⟨ps, ps2, rfl, h2⟩, n2⟩
theorem Ext.new {ρ : List Addr} {H : Hp} {p : Addr} {o : HO} (hp : H p = none) : Ext ρ H ρ (upd H p o) :=
  ⟨⟨[], by simp⟩, fun a u h n => ⟨.inl (by rw [upd_ne (ne_of_none h hp)]; exact h), n⟩, fun a o' u h => by rw [upd_ne (ne_of_none h hp)]; exact h⟩
theorem Ext.put {ρ : List Addr} {H : Hp} {p : Addr} {o : HO} (hp : p ∈ ρ) {w : HO} (hw : H p = some w) (hn : ∀ o' u, w ≠ .frz o' u) : Ext ρ H ρ (upd H p o) :=
  ⟨⟨[], by simp⟩, fun a u h n => ⟨.inl (by rw [upd_ne (fun e => n (by rw [e]; exact hp))]; exact h), n⟩, fun a o' u h => by rw [upd_ne (fun e => by rw [e, hw] at h; exact hn o' u (Option.some.inj h))]; exact h⟩

section
variable {K : PySem.W.Frag} {cl : CT} {ρ ρ' : List Addr} {H H' H0 : Hp} {st : Store}
theorem RS.obj (S : RS K ρ H cl st) {a : Addr} (ha : a ∈ ρ) : ∃ o, H a = some o ∧ (∀ xs, o ≠ .tup xs) ∧ ∀ b xs, o ≠ .frz b (.tup xs) ∧ o ≠ .frz b (.lst xs) := by
  obtain ⟨n, hn⟩ := List.getElem?_of_mem ha
  have hlt : n < st.length := by rw [← S.len]; exact (List.getElem?_eq_some_iff.mp hn).1
  have hc := S.at_ n st[n] a (List.getElem?_eq_getElem hlt) hn
  cases e : st[n] with
  | lst l => rw [e] at hc; obtain ⟨vs, h, _⟩ := hc; exact ⟨_, h, (fun _ z => by cases z), fun _ _ => ⟨(fun z => by cases z), (fun z => by cases z)⟩⟩
  | dict t l => rw [e] at hc; obtain ⟨_, vs, h, _⟩ | ⟨_, vs, h, _⟩ := hc <;> exact ⟨_, h, (fun _ z => by cases z), fun _ _ => ⟨(fun z => by cases z), (fun z => by cases z)⟩⟩
  | frd l => rw [e] at hc; obtain ⟨o, vs, h, _⟩ := hc; exact ⟨_, h, (fun _ z => by cases z), fun _ _ => ⟨(fun z => by cases z), (fun z => by cases z)⟩⟩
  | dxt l => rw [e] at hc; obtain ⟨xs, _, _, h, _⟩ := hc; exact ⟨_, h, (fun _ z => by cases z), fun _ _ => ⟨(fun z => by cases z), (fun z => by cases z)⟩⟩
  | ins c fs => rw [e] at hc; obtain ⟨C, dx, vs, _, h, _⟩ := hc; exact ⟨_, h, (fun _ z => by cases z), fun _ _ => ⟨(fun z => by cases z), (fun z => by cases z)⟩⟩
theorem RS.obj2 (S : RS K ρ H cl st) {a : Addr} (ha : a ∈ ρ) : ∃ o, H a = some o ∧ (∀ ps, o ≠ .tbl ps) ∧ ∀ q, o ≠ LamX.CodeO a q := by
  obtain ⟨n, hn⟩ := List.getElem?_of_mem ha
  have hlt : n < st.length := by rw [← S.len]; exact (List.getElem?_eq_some_iff.mp hn).1
  have hc := S.at_ n st[n] a (List.getElem?_eq_getElem hlt) hn
  cases e : st[n] with
  | lst l => rw [e] at hc; obtain ⟨vs, h, _⟩ := hc; exact ⟨_, h, (fun _ z => by cases z), fun _ z => by unfold LamX.CodeO at z; cases z⟩
  | dict t l => rw [e] at hc; obtain ⟨_, vs, h, _⟩ | ⟨_, vs, h, _⟩ := hc <;> exact ⟨_, h, (fun _ z => by cases z), fun _ z => by unfold LamX.CodeO at z; cases z⟩
  | frd l => rw [e] at hc; obtain ⟨o, vs, h, _⟩ := hc; exact ⟨_, h, (fun _ z => by cases z), fun _ z => by unfold LamX.CodeO at z; cases z⟩
  | dxt l => rw [e] at hc; obtain ⟨xs, _, _, h, _⟩ := hc; exact ⟨_, h, (fun _ z => by cases z), fun _ z => dxP_code z⟩
  | ins c fs => rw [e] at hc; obtain ⟨C, dx, vs, _, h, _⟩ := hc; exact ⟨_, h, (fun _ z => by cases z), fun _ z => by unfold LamX.CodeO at z; cases z⟩
theorem tabs_upd {T : List (Addr × Str)} {H : Hp} {p : Addr} {u o : HO} (t : LamX.Tabs T H) (hu : H p = some u) (n1 : ∀ ps, u ≠ .tbl ps) (n2 : ∀ q, u ≠ LamX.CodeO p q) : LamX.Tabs T (upd H p o) := by
  intro q hq
  obtain ⟨ps, h1, h2, h3⟩ := t q hq
  have np : q.1 ≠ p := fun z => by rw [z, hu] at h1; exact n1 _ (Option.some.inj h1)
  refine ⟨ps, by rw [upd_ne np]; exact h1, h2, fun pos cv hc => ?_⟩
  obtain ⟨c, e1, e2⟩ := h3 pos cv hc
  have nc : c ≠ p := fun z => by rw [z, hu] at e2; exact n2 q.2 (Option.some.inj e2)
  exact ⟨c, e1, by rw [upd_ne nc]; exact e2⟩
theorem RS.tabPut (S : RS K ρ H cl st) {p : Addr} {o : HO} (hp : p ∈ ρ) : LamX.Tabs cl.tabs (upd H p o) := by
  obtain ⟨u, hu, n1, n2⟩ := S.obj2 hp
  exact tabs_upd S.tab hu n1 n2
theorem RS.cell (S : RS K ρ H cl st) {n : Nat} {a : Addr} (h : ρ[n]? = some a) : ∃ c, st[n]? = some c ∧ RC K ρ H cl a c := by
  have hlt : n < st.length := by rw [← S.len]; exact (List.getElem?_eq_some_iff.mp h).1
  exact ⟨st[n], List.getElem?_eq_getElem hlt, S.at_ n st[n] a (List.getElem?_eq_getElem hlt) h⟩
theorem RS.addr (S : RS K ρ H cl st) {n : Nat} {c : Cell} (h : st[n]? = some c) : ∃ a, ρ[n]? = some a ∧ RC K ρ H cl a c := by
  have hlt : n < ρ.length := by rw [S.len]; exact (List.getElem?_eq_some_iff.mp h).1
  exact ⟨ρ[n], List.getElem?_eq_getElem hlt, S.at_ n c _ h (List.getElem?_eq_getElem hlt)⟩
structure Mono (K : PySem.W.Frag) (ρ : List Addr) (H : Hp) (ρ' : List Addr) (H' : Hp) : Prop where
  pre : ∃ more, ρ' = ρ ++ more
  tup : ∀ a vs, SqT K H a vs → SqT K H' a vs
  rol : ∀ a vs, RoL K H a vs → RoL K H' a vs
theorem Ext.mono (S : RS K ρ H cl st) (x : Ext ρ H ρ' H') : Mono K ρ H ρ' H' := by
  refine ⟨x.pre, fun a vs h => ?_, fun a vs h => ?_⟩
  · rcases h with (h | ⟨o, h⟩) | h
    · refine .inl (.inl (x.keep h (fun ha => ?_) (fun _ z => by cases z)).1)
      obtain ⟨o, e, n, _⟩ := S.obj ha
      rw [h] at e; cases e; exact n _ rfl
    · refine .inl (.inr ⟨o, (x.keep h (fun ha => ?_) (fun _ z => by cases z)).1⟩)
      obtain ⟨o, e, _, n⟩ := S.obj ha
      rw [h] at e; cases e; first | exact (n _ _).1 rfl | exact (n _ _).2 rfl
    · exact .inr h
  · rcases h with ⟨o, h⟩ | h
    · refine .inl ⟨o, (x.keep h (fun ha => ?_) (fun _ z => by cases z)).1⟩
      obtain ⟨o, e, _, n⟩ := S.obj ha
      rw [h] at e; cases e; first | exact (n _ _).1 rfl | exact (n _ _).2 rfl
    · exact .inr h
theorem Mono.put (S : RS K ρ H cl st) {p : Addr} {o : HO} (hp : p ∈ ρ) : Mono K ρ H ρ (upd H p o) := by
  obtain ⟨u, e, n1, n2⟩ := S.obj hp
  refine ⟨⟨[], by simp⟩, fun a vs h => ?_, fun a vs h => ?_⟩
  · rcases h with (h | ⟨o, h⟩) | h
    · exact .inl (.inl (by rw [upd_ne (fun z => by rw [z, e] at h; exact n1 _ (Option.some.inj h))]; exact h))
    · exact .inl (.inr ⟨o, by rw [upd_ne (fun z => by rw [z, e] at h; exact (n2 _ _).1 (Option.some.inj h))]; exact h⟩)
    · exact .inr h
  · rcases h with ⟨o, h⟩ | h
    · exact .inl ⟨o, by rw [upd_ne (fun z => by rw [z, e] at h; exact (n2 _ _).2 (Option.some.inj h))]; exact h⟩
    · exact .inr h
theorem Mono.grow (m : List Addr) : Mono K ρ H (ρ ++ m) H := ⟨⟨m, rfl⟩, fun _ _ h => h, fun _ _ h => h⟩
theorem RoL.sq {a : Addr} {vs : List V} (h : RoL K H a vs) : SqL K H a vs := by
  rcases h with ⟨o, h⟩ | h
  · exact .inl (.inr ⟨o, h⟩)
  · exact .inr h
mutual
theorem RD.mono (x : Mono K ρ H ρ' H') : ∀ (d : D) (v : V), RD K ρ H d v → RD K ρ' H' d v
  | .non, _, h => h
  | .bl _, _, h => h
  | .int _, _, h => h
  | .str _, _, h => h
  | .tup l, _, h => by
    obtain ⟨a, vs, rfl, h1, h2⟩ := h
    exact ⟨a, vs, rfl, x.tup _ _ h1, RDs.mono x l vs h2⟩
  | .rol l, _, h => by
    obtain ⟨a, vs, rfl, h1, h2⟩ := h
    exact ⟨a, vs, rfl, x.rol _ _ h1, RDs.mono x l vs h2⟩
  | .ref n, _, h => by
    obtain ⟨a, rfl, h1⟩ := h
    obtain ⟨m, e⟩ := x.pre
    refine ⟨a, rfl, ?_⟩
    have hlt : n < ρ.length := (List.getElem?_eq_some_iff.mp h1).1
    rw [e, List.getElem?_append_left hlt]
    exact h1
theorem RDs.mono (x : Mono K ρ H ρ' H') : ∀ (l : List D) (vs : List V), RDs K ρ H l vs → RDs K ρ' H' l vs
  | [], _, h => h
  | d :: l, _, h => by
    obtain ⟨v, r, rfl, h1, h2⟩ := h
    exact ⟨v, r, rfl, RD.mono x d v h1, RDs.mono x l r h2⟩
end
theorem RE.mono {σ : L2.St} {env : SEnv} (x : Mono K ρ H ρ' H') (h : RE K ρ H σ env) : RE K ρ' H' σ env :=
  ⟨h.len, fun i d e => let ⟨v, h1, h2⟩ := h.at_ i d e; ⟨v, h1, RD.mono x d v h2⟩⟩
theorem RKV.mono (x : Mono K ρ H ρ' H') : ∀ (l : List (D × D)) (vs : List (Key × V)), RKV K ρ H l vs → RKV K ρ' H' l vs
  | [], _, h => h
  | (k, d) :: l, _, h => by
    obtain ⟨k', v, r, rfl, h0, h1, h2⟩ := h
    exact ⟨k', v, r, rfl, h0, RD.mono x d v h1, RKV.mono x l r h2⟩
theorem RKVT.mono (x : Mono K ρ H ρ' H') : ∀ (l : List (D × D)) (vs : List (List Key × V)), RKVT K ρ H l vs → RKVT K ρ' H' l vs
  | [], _, h => h
  | (k, d) :: l, _, h => by
    obtain ⟨k', v, r, rfl, h0, h1, h2⟩ := h
    exact ⟨k', v, r, rfl, h0, RD.mono x d v h1, RKVT.mono x l r h2⟩
theorem RKX.mono (x : Mono K ρ H ρ' H') : ∀ (l : List (D × D)) (vs : List (NestedKey × Addr × Value)), RKX K ρ H l vs → RKX K ρ' H' l vs
  | [], _, h => h
  | (k, d) :: l, _, h => by
    obtain ⟨nk, b, u, v, r, rfl, h0, h1, h2, h3, h4, h5⟩ := h
    exact ⟨nk, b, u, v, r, rfl, h0, h1, RD.mono x k _ h2, h3, RD.mono x d v h4, RKX.mono x l r h5⟩
theorem RFs.mono (x : Mono K ρ H ρ' H') : ∀ (l : List (Str × D)) (vs : List (Str × V)), RFs K ρ H l vs → RFs K ρ' H' l vs
  | [], _, h => h
  | (k, d) :: l, _, h => by
    obtain ⟨v, r, rfl, h1, h2⟩ := h
    exact ⟨v, r, rfl, RD.mono x d v h1, RFs.mono x l r h2⟩
theorem RC.mono (x : Mono K ρ H ρ' H') {a : Addr} {c : Cell} (e : H' a = H a) (h : RC K ρ H cl a c) : RC K ρ' H' cl a c := by
  cases c with
  | lst l => obtain ⟨vs, h1, h2⟩ := h; exact ⟨vs, e.trans h1, RDs.mono x l vs h2⟩
  | dict t l =>
    obtain ⟨ht, vs, h1, h2⟩ | ⟨ht, vs, h1, h2⟩ := h
    · exact .inl ⟨ht, vs, e.trans h1, RKV.mono x l vs h2⟩
    · exact .inr ⟨ht, vs, e.trans h1, RKVT.mono x l vs h2⟩
  | frd l => obtain ⟨o, vs, h1, h2⟩ := h; exact ⟨o, vs, e.trans h1, RKV.mono x l vs h2⟩
  | dxt l => obtain ⟨xs, h0, hn, h1, h2⟩ := h; exact ⟨xs, h0, hn, e.trans h1, RKX.mono x l xs h2⟩
  | ins c fs => obtain ⟨C, dx, vs, h0, h1, h2⟩ := h; exact ⟨C, dx, vs, h0, e.trans h1, RFs.mono x fs vs h2⟩
theorem RRV.ext (S : RS K ρ H cl st) (x : Ext ρ H ρ' H') {a : RV} {v : V} (h : RRV K ρ H H0 a v) : RRV K ρ' H' H0 a v := by
  cases a with
  | v d => exact RD.mono (x.mono S) d v h
  | t l =>
    obtain ⟨a, vs, rfl, h1, h2, h0, h3⟩ := h
    exact ⟨a, vs, rfl, (x.keep h1 h2 (fun _ z => by cases z)).1, (x.keep h1 h2 (fun _ z => by cases z)).2, h0, RDs.mono (x.mono S) l vs h3⟩
theorem Ext.free {st' : Store} (S' : RS K ρ' H' cl st') (x : Ext ρ H ρ' H') {a : Addr} (h : H' a = none) : H a = none := by
  cases e : H a with
  | none => rfl
  | some o =>
    by_cases ha : a ∈ ρ
    · obtain ⟨m, em⟩ := x.pre
      obtain ⟨u, hu, _⟩ := S'.obj (a := a) (by rw [em]; exact List.mem_append_left _ ha)
      rw [h] at hu; cases hu
    · rcases (x.same a o e ha).1 with z | ⟨_, _, _, z⟩ <;> (rw [z] at h; cases h)
theorem RRV.back {st' : Store} {H1 : Hp} {ρ1 : List Addr} (S1 : RS K ρ1 H1 cl st') (x : Ext ρ H ρ1 H1) {a : RV} {v : V} (h : RRV K ρ' H' H1 a v) : RRV K ρ' H' H a v := by
  cases a with
  | v d => exact h
  | t l =>
    obtain ⟨a, vs, rfl, h1, h2, h0, h3⟩ := h
    exact ⟨a, vs, rfl, h1, h2, x.free S1 h0, h3⟩
theorem RS.new (S : RS K ρ H cl st) {p : Addr} {o : HO} (hp : H p = none) : RS K ρ (upd H p o) cl st := by
  refine ⟨S.len, S.nd, fun n c a h1 h2 => (S.at_ n c a h1 h2).mono ((Ext.new hp).mono S) ?_, S.tab.ext fun b o e => by rw [upd_ne (ne_of_none e hp)]; exact e⟩
  obtain ⟨u, e, _⟩ := S.obj (List.mem_of_getElem? h2)
  rw [upd_ne (ne_of_none e hp)]
theorem nodup_at : ∀ {l : List Addr} {i j : Nat} {x : Addr}, l.Nodup → l[i]? = some x → l[j]? = some x → i = j
  | [], _, _, _, _, h, _ => by simp at h
  | y :: l, 0, 0, _, _, _, _ => rfl
  | y :: l, 0, j + 1, x, nd, h1, h2 => by
    simp only [List.getElem?_cons_zero, Option.some.injEq] at h1
    simp only [List.getElem?_cons_succ] at h2
    subst h1
    exact absurd (List.mem_of_getElem? h2) (List.nodup_cons.mp nd).1
  | y :: l, i + 1, 0, x, nd, h1, h2 => by
    simp only [List.getElem?_cons_zero, Option.some.injEq] at h2
    simp only [List.getElem?_cons_succ] at h1
    subst h2
    exact absurd (List.mem_of_getElem? h1) (List.nodup_cons.mp nd).1
  | y :: l, i + 1, j + 1, x, nd, h1, h2 => by
    simp only [List.getElem?_cons_succ] at h1 h2
    rw [nodup_at (List.nodup_cons.mp nd).2 h1 h2]
theorem RS.put (S : RS K ρ H cl st) {n : Nat} {p : Addr} {o : HO} {c : Cell} (hn : ρ[n]? = some p) (h : RC K ρ (upd H p o) cl p c) : RS K ρ (upd H p o) cl (st.set n c) := by
  refine ⟨by rw [List.length_set]; exact S.len, S.nd, fun m c' a h1 h2 => ?_, S.tabPut (List.mem_of_getElem? hn)⟩
  by_cases e : m = n
  · subst e
    have hlt : m < st.length := by rw [← S.len]; exact (List.getElem?_eq_some_iff.mp hn).1
    rw [List.getElem?_set_self hlt] at h1
    cases h1
    rw [hn] at h2; cases h2
    exact h
  · rw [List.getElem?_set_ne (Ne.symm e)] at h1
    refine (S.at_ m c' a h1 h2).mono (Mono.put S (List.mem_of_getElem? hn)) ?_
    refine upd_ne fun z => e ?_
    subst z
    exact nodup_at S.nd h2 hn
theorem RS.grow (S : RS K ρ H cl st) {p : Addr} {c : Cell} (np : p ∉ ρ) (h : RC K (ρ ++ [p]) H cl p c) : RS K (ρ ++ [p]) H cl (st ++ [c]) := by
  refine ⟨by rw [List.length_append, List.length_append, S.len]; rfl, ?_, fun m c' a h1 h2 => ?_, S.tab⟩
  · refine List.nodup_append.mpr ⟨S.nd, by simp, fun x hx y hy e => ?_⟩
    simp only [List.mem_singleton] at hy
    subst hy; subst e
    exact np hx
  · by_cases e : m < st.length
    · rw [List.getElem?_append_left e] at h1
      rw [List.getElem?_append_left (by rw [S.len]; exact e)] at h2
      exact (S.at_ m c' a h1 h2).mono (Mono.grow _) rfl
    · have hm : m < (st ++ [c]).length := (List.getElem?_eq_some_iff.mp h1).1
      rw [List.length_append, List.length_singleton] at hm
      have : m = st.length := by omega
      subst this
      rw [List.getElem?_append_right (Nat.le_refl _)] at h1
      rw [← S.len, List.getElem?_append_right (Nat.le_refl _)] at h2
      simp at h1 h2
      subst h1; subst h2
      exact h
theorem Ext.grow {ρ1 : List Addr} {H1 : Hp} (x : Ext ρ H ρ1 H1) {p : Addr} (hp : H p = none) : Ext ρ H (ρ1 ++ [p]) H1 := by
  obtain ⟨m, e⟩ := x.pre
  refine ⟨⟨m ++ [p], by rw [e, List.append_assoc]⟩, fun a o h n => ?_, x.frz⟩
  obtain ⟨h1, n1⟩ := x.same a o h n
  refine ⟨h1, fun z => ?_⟩
  rcases List.mem_append.mp z with z | z
  · exact n1 z
  · simp only [List.mem_singleton] at z
    subst z
    rw [hp] at h; cases h
end

def mat (a : RV) (st : Store) : R D := match a with
  | .v d => .ok d st
  | .t l => .ok (.ref st.length) (st ++ [.lst l])
@[simp] theorem mat_v (d : D) (st : Store) : mat (.v d) st = .ok d st := .trans rfl rfl
@[simp] theorem mat_t (l : List D) (st : Store) : mat (.t l) st = .ok (.ref st.length) (st ++ [.lst l]) := .trans rfl rfl
section
variable {K : PySem.W.Frag} {cl : CT} {ρ ρ1 : List Addr} {H H1 : Hp} {st : Store}
theorem mat_ok (S : RS K ρ1 H1 cl st) (x : Ext ρ H ρ1 H1) {a : RV} {v : V} (h : RRV K ρ1 H1 H a v) :
    ∃ d st' ρ', mat a st = .ok d st' ∧ Ext ρ H ρ' H1 ∧ RS K ρ' H1 cl st' ∧ RD K ρ' H1 d v ∧ Mono K ρ1 H1 ρ' H1 := by
  cases a with
  | v d => exact ⟨d, st, ρ1, rfl, x, S, h, ⟨⟨[], by simp⟩, fun _ _ z => z, fun _ _ z => z⟩⟩
  | t l =>
    obtain ⟨p, vs, rfl, h1, h2, h0, h3⟩ := h
    refine ⟨_, _, ρ1 ++ [p], rfl, x.grow h0, S.grow h2 ⟨vs, h1, RDs.mono (Mono.grow _) l vs h3⟩, ⟨p, rfl, ?_⟩, Mono.grow _⟩
    rw [← S.len, List.getElem?_append_right (Nat.le_refl _)]
    simp
end
end Ev

/-! ## Ev2 -/
set_option Elab.async false
set_option linter.all false
set_option maxRecDepth 100000
/-! Ev2: readings by evaluation: Post, tG, names, constants, operators. -/
namespace Ev
open PySem PySem.Spec PyProof.Rows L2

/-- an exception as it lies -/
def RX (K : PySem.W.Frag) (ρ : List Addr) (H : Hp) (cl : CT) (c : Value) (d : Option Addr) (x : Exn) : Prop :=
  ∃ C, cl x.cls = some C ∧ c = .ref C ∧ ((x.fs = [] ∧ d = none) ∨ ∃ dx vs, d = some dx ∧ H dx = some (.xd vs) ∧ RFs K ρ H x.fs vs)
abbrev Rel (α β : Type) := Hp → List Addr → Hp → α → β → Prop
section
variable (K : PySem.W.Frag) (cl : CT) (W : WX) (σ : L2.St)
def relV : Rel RV V := fun H0 ρ H a v => RRV K ρ H H0 a v
def relB : Rel Bool Bool := fun _ _ _ a b => a = b
def relA : Rel (List D) (List V) := fun _ ρ H l vs => RDs K ρ H l vs
def Post {α β : Type} (rel : Rel α β) (ρ : List Addr) (H : Hp) (r : R α) (Q : β → Hp → Prop) : Prop := match r with
  | .ok a st' => ∀ ρ' H' v, Ext ρ H ρ' H' → RS K ρ' H' cl st' → rel H ρ' H' a v → Q v H'
  | .exc x st' => ∀ ρ' H' c d, Ext ρ H ρ' H' → RS K ρ' H' cl st' → RX K ρ' H' cl c d x → W c d σ H'
  | .bad => False
end
/-- the reading of a construct whose value f reckons -/
def tG (K : PySem.W.Frag) (cl : CT) (W : WX) {α β : Type} (rel : Rel α β) (f : SEnv → Store → R α) : L2.St → Hp → (β → Hp → Prop) → Prop :=
  fun σ H Q => ∃ ρ env st, RS K ρ H cl st ∧ RE K ρ H σ env ∧ Post K cl W σ rel ρ H (f env st) Q
abbrev tF (K : PySem.W.Frag) (cl : CT) (W : WX) (f : SEnv → Store → R RV) : TE := tG K cl W (relV K) f
abbrev tB1 (K : PySem.W.Frag) (cl : CT) (W : WX) (f : SEnv → Store → R Bool) : TT := tG K cl W relB f
abbrev tA1 (K : PySem.W.Frag) (cl : CT) (W : WX) (f : SEnv → Store → R (List D)) : TA := tG K cl W (relA K) f
/-- what is new relative to a later heap is new relative to an earlier one -/
structure Back (K : PySem.W.Frag) (cl : CT) {α β : Type} (rel : Rel α β) : Prop where
  back : ∀ {ρ ρ1 ρ' : List Addr} {H H1 H' : Hp} {st1 : Store} {a : α} {v : β}, RS K ρ1 H1 cl st1 → Ext ρ H ρ1 H1 → rel H1 ρ' H' a v → rel H ρ' H' a v
section
variable {K : PySem.W.Frag} {cl : CT} {W : WX} {σ : L2.St}
theorem backV : Back K cl (relV K) := ⟨fun S x h => RRV.back S x h⟩
theorem backB : Back K cl relB := ⟨fun _ _ h => h⟩
theorem backA : Back K cl (relA K) := ⟨fun _ _ h => h⟩
theorem Post.mono {α β : Type} {rel : Rel α β} {ρ : List Addr} {H : Hp} {r : R α} {Q Q' : β → Hp → Prop} (h : Post K cl W σ rel ρ H r Q) (hq : ∀ v H', Q v H' → Q' v H') : Post K cl W σ rel ρ H r Q' := by
  cases r with
  | ok a st => exact fun ρ' H' v x S r => hq _ _ (h ρ' H' v x S r)
  | exc x st => exact h
  | bad => exact h
theorem Post.from {α β : Type} {rel : Rel α β} (hb : Back K cl rel) {ρ ρ1 : List Addr} {H H1 : Hp} {st1 : Store} {r : R α} {Q : β → Hp → Prop} (S1 : RS K ρ1 H1 cl st1) (x1 : Ext ρ H ρ1 H1) (h : Post K cl W σ rel ρ H r Q) : Post K cl W σ rel ρ1 H1 r Q := by
  cases r with
  | ok a st => exact fun ρ' H' v x S r => h ρ' H' v (x1.trans x) S (hb.back S1 x1 r)
  | exc e st => exact fun ρ' H' c d x S r => h ρ' H' c d (x1.trans x) S r
  | bad => exact h
theorem Post.bind {α β γ δ : Type} {relα : Rel α β} {relγ : Rel γ δ} (hb : Back K cl relγ) {ρ : List Addr} {H : Hp} {r : R α} {g : α → Store → R γ} {Q : δ → Hp → Prop}
    (h : Post K cl W σ relγ ρ H (r.bind g) Q) : Post K cl W σ relα ρ H r fun v H1 => ∃ ρ1 st1 a, Ext ρ H ρ1 H1 ∧ RS K ρ1 H1 cl st1 ∧ relα H ρ1 H1 a v ∧ Post K cl W σ relγ ρ1 H1 (g a st1) Q := by
  cases r with
  | ok a st1 => exact fun ρ1 H1 v x S r => ⟨ρ1, st1, a, x, S, r, Post.from hb S x h⟩
  | exc e st => exact h
  | bad => exact h
/-- the same, what follows reckoned from the start -/
theorem Post.bind0 {α β γ δ : Type} {relα : Rel α β} {relγ : Rel γ δ} {ρ : List Addr} {H : Hp} {r : R α} {g : α → Store → R γ} {Q : δ → Hp → Prop}
    (h : Post K cl W σ relγ ρ H (r.bind g) Q) : Post K cl W σ relα ρ H r fun v H1 => ∃ ρ1 st1 a, Ext ρ H ρ1 H1 ∧ RS K ρ1 H1 cl st1 ∧ relα H ρ1 H1 a v ∧ Post K cl W σ relγ ρ H (g a st1) Q := by
  cases r with
  | ok a st1 => exact fun ρ1 H1 v x S r => ⟨ρ1, st1, a, x, S, r, h⟩
  | exc e st => exact h
  | bad => exact h
end
/-- weaken a reading -/
theorem PEw {X : Cx} {e : Expr} {t t' : TE} (h : PE X e t) (w : ∀ σ H Q, t' σ H Q → t σ H Q) : PE X e t' := ⟨fun pins s σ H Q I q => h.run pins s σ H Q I (w _ _ _ q)⟩
theorem PTw {X : Cx} {e : Expr} {t t' : TT} (h : PT X e t) (w : ∀ σ H Q, t' σ H Q → t σ H Q) : PT X e t' := ⟨fun pins s σ H Q I q => h.run pins s σ H Q I (w _ _ _ q)⟩
theorem PWw {X : Cx} {e : Expr} {t t' : TT} (h : PW X e t) (w : ∀ σ H Q, t' σ H Q → t σ H Q) : PW X e t' := ⟨fun wh pins s σ H Q I q => h.run wh pins s σ H Q I (w _ _ _ q)⟩
theorem PAw {X : Cx} {e : List Expr} {t t' : TA} (h : PA X e t) (w : ∀ σ H Q, t' σ H Q → t σ H Q) : PA X e t' := ⟨fun p pins s σ H Q I q => h.run p pins s σ H Q I (w _ _ _ q)⟩
theorem PSw {X : Cx} {e : Stmt} {t t' : TS} (h : PS X e t) (w : ∀ D σ H, t' D σ H → t D σ H) : PS X e t' := ⟨fun pins s σ H D I q => h.run pins s σ H D I (w _ _ _ q)⟩
theorem PSsw {X : Cx} {e : List Stmt} {t t' : TS} (h : PSs X e t) (w : ∀ D σ H, t' D σ H → t D σ H) : PSs X e t' := ⟨fun pins s σ H D I q => h.run pins s σ H D I (w _ _ _ q)⟩

/-! ### names and constants -/
def eVar (i : Nat) : SEnv → Store → R RV := fun env st => match env[i]? with
  | some (some d) => .ok (.v d) st
  | _ => .bad
def eC (d : D) : SEnv → Store → R RV := fun _ st => .ok (.v d) st
def lift (o : Option RV) (st : Store) : R RV := match o with
  | some c => .ok c st
  | none => .bad
@[simp] theorem lift_some (c : RV) (st : Store) : lift (some c) st = .ok c st := rfl
@[simp] theorem lift_none (st : Store) : lift none st = .bad := rfl
def e1 (g : RV → Store → Option RV) (fa : SEnv → Store → R RV) : SEnv → Store → R RV := fun env st => (fa env st).bind fun a st1 => lift (g a st1) st1
def e2 (g : RV → RV → Store → Option RV) (fa fb : SEnv → Store → R RV) : SEnv → Store → R RV := fun env st => (fa env st).bind fun a st1 => (fb env st1).bind fun b st2 => lift (g a b st2) st2
def e3 (g : RV → RV → RV → Store → Option RV) (fa fb fc : SEnv → Store → R RV) : SEnv → Store → R RV := fun env st => (fa env st).bind fun a st1 => (fb env st1).bind fun b st2 => (fc env st2).bind fun c st3 => lift (g a b c st3) st3
section
variable {X : Cx} {cl : CT} {W : WX}
theorem de_var {i : Nat} {x : Str} {pos : Pos} (h : PE X (.Name x pos) (tVar i)) : PE X (.Name x pos) (tF X.K cl W (eVar i)) := by
  refine PEw h fun σ H Q ⟨ρ, env, st, S, E, P⟩ => ?_
  unfold eVar at P
  split at P
  · rename_i d e
    obtain ⟨v, h1, h2⟩ := E.at_ i d e
    exact ⟨v, h1, P ρ H v (Ext.refl _ _) S h2⟩
  · exact P.elim
theorem de_c {e : Expr} {v : V} {d : D} (h : PE X e (tC v)) (hd : ∀ ρ H, RD X.K ρ H d v) : PE X e (tF X.K cl W (eC d)) :=
  PEw h fun σ H Q ⟨ρ, env, st, S, E, P⟩ => P ρ H v (Ext.refl _ _) S (hd ρ H)

/-! ### operators on values -/
/-- what a primitive wants: it gives c and leaves the store -/
def Prim (K : PySem.W.Frag) (cl : CT) (st : Store) (ρ : List Addr) (H : Hp) (o : Option RV) (Q : VK) : Prop :=
  ∃ c, o = some c ∧ ∀ ρ' H' v, Ext ρ H ρ' H' → RS K ρ' H' cl st → RRV K ρ' H' H c v → Q v H'
theorem Post.prim {K : PySem.W.Frag} {σ : L2.St} {ρ : List Addr} {H : Hp} {o : Option RV} {st : Store} {Q : VK} (h : Post K cl W σ (relV K) ρ H (lift o st) Q) : Prim K cl st ρ H o Q := by
  cases o with
  | some c => exact ⟨c, rfl, h⟩
  | none => exact h.elim
def rP2 (K : PySem.W.Frag) (cl : CT) (g : RV → RV → Store → Option RV) : R2 := fun x y H Q =>
  ∃ ρ st a b H0 H1, RS K ρ H cl st ∧ RRV K ρ H H0 a x ∧ RRV K ρ H H1 b y ∧ Prim K cl st ρ H (g a b st) Q
def rP1 (K : PySem.W.Frag) (cl : CT) (g : RV → Store → Option RV) : V → Hp → VK → Prop := fun x H Q =>
  ∃ ρ st a H0, RS K ρ H cl st ∧ RRV K ρ H H0 a x ∧ Prim K cl st ρ H (g a st) Q
variable {a b c : Expr} {fa fb fc : SEnv → Store → R RV} {g : RV → RV → Store → Option RV} {pos : Pos}
theorem w_op2 {K : PySem.W.Frag} (σ : L2.St) (H : Hp) (Q : VK) (h : tF K cl W (e2 g fa fb) σ H Q) : tOp (rP2 K cl g) (tF K cl W fa) (tF K cl W fb) σ H Q := by
  obtain ⟨ρ, env, st, S, E, P⟩ := h
  refine ⟨ρ, env, st, S, E, (Post.bind backV P).mono ?_⟩
  rintro x H1 ⟨ρ1, st1, a, x1, S1, r1, P1⟩
  refine ⟨ρ1, env, st1, S1, E.mono (x1.mono S), (Post.bind backV P1).mono ?_⟩
  rintro y H2 ⟨ρ2, st2, b, x2, S2, r2, P2⟩
  exact ⟨ρ2, st2, a, b, H, H1, S2, RRV.ext S1 x2 r1, r2, P2.prim⟩
theorem de_op {op : Operator} (ho : OpR X (binaryOp op) (rP2 X.K cl g)) (ha : PE X a (tF X.K cl W fa)) (hb : PE X b (tF X.K cl W fb)) : PE X (.BinOp a op b pos) (tF X.K cl W (e2 g fa fb)) :=
  PEw (pe_op ho ha hb) w_op2
theorem de_cmp {op : CmpOp} (ho : OpR X (compareOp op) (rP2 X.K cl g)) (ha : PE X a (tF X.K cl W fa)) (hb : PE X b (tF X.K cl W fb)) (hm : behindInMarks op b = false) : PE X (.Compare a [op] [b] pos) (tF X.K cl W (e2 g fa fb)) :=
  PEw (pe_cmpR ho ha hb hm) w_op2
theorem w_op1 {K : PySem.W.Frag} {g : RV → Store → Option RV} (σ : L2.St) (H : Hp) (Q : VK) (h : tF K cl W (e1 g fa) σ H Q) : tUn (rP1 K cl g) (tF K cl W fa) σ H Q := by
  obtain ⟨ρ, env, st, S, E, P⟩ := h
  refine ⟨ρ, env, st, S, E, (Post.bind backV P).mono ?_⟩
  rintro x H1 ⟨ρ1, st1, a, x1, S1, r1, P1⟩
  exact ⟨ρ1, st1, a, H, S1, r1, P1.prim⟩
theorem de_un {op : UnaryOp} {g : RV → Store → Option RV} (ho : UnR X (unaryOp op) (rP1 X.K cl g)) (ha : PE X a (tF X.K cl W fa)) : PE X (.UnaryOp op a pos) (tF X.K cl W (e1 g fa)) :=
  PEw (pe_un ho ha) w_op1
end

/-! ### views of values -/
/-- a list that may be written -/
def lstM (st : Store) : RV → Option (List D)
  | .t l => some l
  | .v (.ref n) => match st[n]? with
    | some (.lst l) => some l
    | _ => none
  | _ => none
/-- a list -/
def lstV (st : Store) : RV → Option (List D)
  | .v (.rol l) => some l
  | a => lstM st a
section
variable {K : PySem.W.Frag} {cl : CT} {ρ : List Addr} {H H0 : Hp} {st : Store} {a : RV} {x : V} {l : List D}
theorem lstM_ok (S : RS K ρ H cl st) (r : RRV K ρ H H0 a x) (h : lstM st a = some l) : ∃ p vs, x = .ref p ∧ H p = some (.lst vs) ∧ RDs K ρ H l vs := by
  cases a with
  | t l' =>
    obtain ⟨p, vs, rfl, h1, _, _, h3⟩ := r
    cases h
    exact ⟨p, vs, rfl, h1, h3⟩
  | v d =>
    cases d with
    | ref n =>
      obtain ⟨p, rfl, hp⟩ := r
      obtain ⟨c, hc, rc⟩ := S.cell hp
      simp only [lstM, hc] at h
      cases c with
      | lst l' =>
        simp only [Option.some.injEq] at h
        subst h
        obtain ⟨vs, h1, h2⟩ := rc
        exact ⟨p, vs, rfl, h1, h2⟩
      | _ => cases h
    | _ => cases h
theorem lstV_ok (S : RS K ρ H cl st) (r : RRV K ρ H H0 a x) (h : lstV st a = some l) : ∃ p vs, x = .ref p ∧ SqL K H p vs ∧ RDs K ρ H l vs := by
  cases a with
  | t l' =>
    obtain ⟨p, vs, e, h1, h2⟩ := lstM_ok S r h
    exact ⟨p, vs, e, SqL.of h1, h2⟩
  | v d =>
    cases d with
    | rol l' =>
      obtain ⟨p, vs, rfl, h1, h2⟩ := r
      cases h
      exact ⟨p, vs, rfl, h1.sq, h2⟩
    | ref n =>
      obtain ⟨p, vs, e, h1, h2⟩ := lstM_ok S r h
      exact ⟨p, vs, e, SqL.of h1, h2⟩
    | _ => cases h
end
theorem RDs.length {K : PySem.W.Frag} {ρ : List Addr} {H : Hp} : ∀ {l : List D} {vs : List V}, RDs K ρ H l vs → l.length = vs.length
  | [], _, h => by
    have : _ = [] := h
    subst this; rfl
  | d :: l, _, h => by
    obtain ⟨v, r, rfl, _, h2⟩ := h
    rw [List.length_cons, List.length_cons, RDs.length h2]
theorem RDs.append {K : PySem.W.Frag} {ρ : List Addr} {H : Hp} : ∀ {l m : List D} {vs ws : List V}, RDs K ρ H l vs → RDs K ρ H m ws → RDs K ρ H (l ++ m) (vs ++ ws)
  | [], _, _, _, h, h' => by
    have : _ = [] := h
    subst this; exact h'
  | d :: l, _, _, _, h, h' => by
    obtain ⟨v, r, rfl, h1, h2⟩ := h
    exact ⟨v, _, rfl, h1, RDs.append h2 h'⟩
theorem RDs.get {K : PySem.W.Frag} {ρ : List Addr} {H : Hp} : ∀ {l : List D} {vs : List V} {i : Nat} {d : D}, RDs K ρ H l vs → l[i]? = some d → ∃ v, vs[i]? = some v ∧ RD K ρ H d v
  | [], _, _, _, _, e => by simp at e
  | d :: l, _, 0, _, h, e => by
    obtain ⟨v, r, rfl, h1, h2⟩ := h
    simp at e; subst e
    exact ⟨v, rfl, h1⟩
  | d :: l, _, i + 1, _, h, e => by
    obtain ⟨v, r, rfl, h1, h2⟩ := h
    obtain ⟨w, e1, e2⟩ := RDs.get (i := i) h2 (by simpa using e)
    exact ⟨w, by simpa using e1, e2⟩
theorem RDs.take {K : PySem.W.Frag} {ρ : List Addr} {H : Hp} : ∀ {l : List D} {vs : List V} (n : Nat), RDs K ρ H l vs → RDs K ρ H (l.take n) (vs.take n)
  | [], _, n, h => by
    have : _ = [] := h
    subst this; simp [RDs]
  | d :: l, _, 0, h => by simp [RDs]
  | d :: l, _, n + 1, h => by
    obtain ⟨v, r, rfl, h1, h2⟩ := h
    exact ⟨v, _, rfl, h1, RDs.take n h2⟩
theorem RDs.drop {K : PySem.W.Frag} {ρ : List Addr} {H : Hp} : ∀ {l : List D} {vs : List V} (n : Nat), RDs K ρ H l vs → RDs K ρ H (l.drop n) (vs.drop n)
  | [], _, n, h => by
    have : _ = [] := h
    subst this; simp [RDs]
  | d :: l, _, 0, h => h
  | d :: l, _, n + 1, h => by
    obtain ⟨v, r, rfl, h1, h2⟩ := h
    exact RDs.drop n h2
theorem RDs.set {K : PySem.W.Frag} {ρ : List Addr} {H : Hp} {d' : D} {v' : V} (hd : RD K ρ H d' v') : ∀ {l : List D} {vs : List V} (n : Nat), RDs K ρ H l vs → RDs K ρ H (l.set n d') (vs.set n v')
  | [], _, n, h => by
    have : _ = [] := h
    subst this; simp [RDs]
  | d :: l, _, 0, h => by
    obtain ⟨v, r, rfl, h1, h2⟩ := h
    exact ⟨v', r, rfl, hd, h2⟩
  | d :: l, _, n + 1, h => by
    obtain ⟨v, r, rfl, h1, h2⟩ := h
    exact ⟨v, _, rfl, h1, RDs.set hd n h2⟩
theorem RDs.nil_iff {K : PySem.W.Frag} {ρ : List Addr} {H : Hp} {l : List D} {vs : List V} (h : RDs K ρ H l vs) : vs = [] ↔ l = [] := by
  have e := RDs.length h
  cases l <;> cases vs <;> simp_all

/-! ### + -/
def sLine : Nat := 16777216
theorem sLine_eq : sizeLine = sLine := sizeLine_eq
def dAdd (a b : RV) (st : Store) : Option RV := match a, b with
  | .v (.int i), .v (.int j) => some (.v (.int (i + j)))
  | .v (.str s), .v (.str t) => if s.length + t.length ≤ sLine then some (.v (.str (s ++ t))) else none
  | .v (.tup s), .v (.tup t) => if s.length + t.length ≤ sLine then some (.v (.tup (s ++ t))) else none
  | a, b => match lstM st a, lstM st b with
    | some s, some t => if s.length + t.length ≤ sLine then some (.t (s ++ t)) else none
    | _, _ => none
section
variable {X : Cx} {cl : CT}
theorem strapp (s t : List Nat) : (⟨s.toArray⟩ : Str) ++ (⟨t.toArray⟩ : Str) = ⟨(s ++ t).toArray⟩ := by
  show (⟨s.toArray ++ t.toArray⟩ : Str) = _
  rw [List.append_toArray]
theorem strlen (s : List Nat) : (⟨s.toArray⟩ : Str).length = s.length := by
  show s.toArray.size = _
  simp
theorem opd_add : OpR X (binaryOp .Add) (rP2 X.K cl dAdd) := by
  rintro pins s σ H x y v u Q I rx ry ⟨ρ, st, a, b, H0, H1, S, ra, rb, c, hc, q⟩
  have lists : ∀ la lb, lstM st a = some la → lstM st b = some lb → (if la.length + lb.length ≤ sLine then some (RV.t (la ++ lb)) else none) = some c → wpAny (model X.prog X.w) X.A (binaryOp .Add v u) (EP X pins σ Q) X.xe s := by
    intro la lb ha hb hc
    split at hc
    · rename_i hz
      cases hc
      obtain ⟨p, vs, rfl, h1, h2⟩ := lstM_ok S ra ha
      obtain ⟨p', vs', rfl, h1', h2'⟩ := lstM_ok S rb hb
      refine op_cat pins s σ H _ _ v u Q I rx ry ⟨p, p', vs, vs', rfl, rfl, h1, h1', ?_, fun n hn => q ρ _ _ (Ext.new hn) (S.new hn) ⟨n, _, rfl, upd_same, fun z => ?_, hn, RDs.mono ((Ext.new hn).mono S) _ _ (h2.append h2')⟩⟩
      · rw [← h2.length, ← h2'.length, sLine_eq]; exact hz
      · obtain ⟨o, e, _⟩ := S.obj z
        rw [hn] at e; cases e
    · cases hc
  unfold dAdd at hc
  split at hc
  · cases hc
    cases ra; cases rb
    exact op_add pins s σ H _ _ v u Q I rx ry ⟨_, _, rfl, rfl, q ρ H _ (Ext.refl _ _) S rfl⟩
  · split at hc
    · rename_i hz
      cases hc
      cases ra; cases rb
      refine op_add_str pins s σ H _ _ v u Q I rx ry ⟨_, _, rfl, rfl, ?_, q ρ H _ (Ext.refl _ _) S ?_⟩
      · rw [strlen, strlen, sLine_eq]; exact hz
      · exact congrArg V.str (strapp _ _)
    · cases hc
  · rename_i l m
    split at hc
    · rename_i hz
      cases hc
      obtain ⟨p, vs, rfl, h1, h2⟩ := ra
      obtain ⟨p', vs', rfl, h1', h2'⟩ := rb
      refine op_catA pins s σ H _ _ v u Q I rx ry ⟨p, p', vs, vs', rfl, rfl, h1, h1', ?_, fun e => ?_, fun e1 e2 => ?_, fun e1 e2 n hn => ?_⟩
      · rw [← h2.length, ← h2'.length, sLine_eq]; exact hz
      · have : l = [] := h2.nil_iff.mp e
        subst this
        exact q ρ H _ (Ext.refl _ _) S ⟨p', vs', rfl, h1', h2'⟩
      · have : m = [] := h2'.nil_iff.mp e2
        subst this
        rw [List.append_nil] at q
        exact q ρ H _ (Ext.refl _ _) S ⟨p, vs, rfl, h1, h2⟩
      · exact q ρ _ _ (Ext.new hn) (S.new hn) ⟨n, _, rfl, SqT.of upd_same, RDs.mono ((Ext.new hn).mono S) _ _ (h2.append h2')⟩
    · cases hc
  · split at hc
    · rename_i h1 h2
      exact lists _ _ h1 h2 hc
    · cases hc
end
end Ev

/-! ## Ev2k -/
set_option Elab.async false
set_option linter.all false
set_option maxRecDepth 100000
/-! Ev2k: keys of dicts; dicts whose keys are ints and texts. -/
namespace Ev
open PySem PySem.Spec PyProof.Rows L2
open Classical in
noncomputable def dvV (kvs : List (D × D)) (k : D) : Option D := (kvs.find? fun p => decide (p.1 = k)).map (·.2)
open Classical in
noncomputable def dputD (kvs : List (D × D)) (k v : D) : List (D × D) := if (kvs.any fun p => decide (p.1 = k)) = true then kvs.map (fun p => if p.1 = k then (p.1, v) else p) else kvs ++ [(k, v)]
/-- a key's parts -/
def keyD : D → Option Key
  | .int i => some (.inl i)
  | .str s => some (.inr ⟨s.toArray⟩)
  | _ => none
def keysD : List D → Option (List Key)
  | [] => some []
  | d :: l => match keyD d, keysD l with
    | some k, some r => some (k :: r)
    | _, _ => none
theorem keyD_rel {d : D} {k : Key} (h : keyD d = some k) : RKey d k := by
  cases d with
  | int i => cases h; exact .int i
  | str s => cases h; exact .str s
  | _ => cases h
theorem keysD_rel : ∀ {l : List D} {ks : List Key}, keysD l = some ks → RKeys l ks
  | [], _, h => by cases h; exact .nil
  | d :: l, ks, h => by
    simp only [keysD] at h
    split at h
    · rename_i k r h1 h2
      cases h
      exact .cons (keyD_rel h1) (keysD_rel h2)
    · cases h
theorem RKey.fn {d : D} {k k' : Key} (h : RKey d k) (h' : RKey d k') : k = k' := by cases h <;> cases h' <;> rfl
theorem RKey.inj {d d' : D} {k : Key} (h : RKey d k) (h' : RKey d' k) : d = d' := by cases h <;> cases h' <;> rfl
theorem RKeys.fn : ∀ {l : List D} {k k' : List Key}, RKeys l k → RKeys l k' → k = k'
  | _, _, _, .nil, .nil => rfl
  | _, _, _, .cons h t, .cons h' t' => by rw [h.fn h', RKeys.fn t t']
theorem RKeys.inj : ∀ {l l' : List D} {k : List Key}, RKeys l k → RKeys l' k → l = l'
  | _, _, _, .nil, .nil => rfl
  | _, _, _, .cons h t, .cons h' t' => by rw [h.inj h', RKeys.inj t t']
theorem RKT.same {d d' : D} {k k' : List Key} (h : RKT d k) (h' : RKT d' k') : d = d' ↔ k = k' := by
  cases h with
  | tup h =>
    cases h' with
    | tup h' =>
      constructor
      · intro e; cases e; exact h.fn h'
      · intro e; subst e; rw [h.inj h']
theorem RKey.same {d d' : D} {k k' : Key} (h : RKey d k) (h' : RKey d' k') : d = d' ↔ k = k' := by
  constructor
  · rintro rfl; exact h.fn h'
  · rintro rfl; exact h.inj h'
section
variable {K : PySem.W.Frag} {cl : CT} {ρ : List Addr} {H : Hp}
theorem RKey.val {d : D} {k : Key} {x : V} (h : RKey d k) (r : RD K ρ H d x) : x = kV k := by
  cases h <;> exact r
theorem RKV.val {k : D} {ks : Key} (hk : RKey k ks) : ∀ {kvs : List (D × D)} {vs : List (Key × V)}, RKV K ρ H kvs vs → (∀ {d}, dvV kvs k = some d → ∃ v, valV vs ks = some v ∧ RD K ρ H d v) ∧ (valV vs ks).isSome = (dvV kvs k).isSome
  | [], _, h => by
    subst h
    exact ⟨fun h => (by cases h), rfl⟩
  | (k1, d1) :: r, _, ⟨k', v, r', e, h0, h1, h2⟩ => by
    subst e
    have ih := RKV.val hk h2
    by_cases q : k1 = k
    · have q' : k' = ks := (h0.same hk).mp q
      have e1 : dvV ((k1, d1) :: r) k = some d1 := by simp only [dvV, List.find?_cons, q, decide_true, Option.map_some]
      rw [valV_pos (p := (k', v)) q', e1]
      exact ⟨fun h => (by cases h; exact ⟨v, rfl, h1⟩), rfl⟩
    · have q' : ¬ k' = ks := fun z => q ((h0.same hk).mpr z)
      have e1 : dvV ((k1, d1) :: r) k = dvV r k := by simp only [dvV, List.find?_cons, q, decide_false]
      rw [valV_neg (p := (k', v)) q', e1]
      exact ih
theorem RKV.len : ∀ {kvs : List (D × D)} {vs : List (Key × V)}, RKV K ρ H kvs vs → vs.length = kvs.length
  | [], _, h => by subst h; rfl
  | (k1, d1) :: r, _, ⟨k', v, r', e, h0, h1, h2⟩ => by subst e; simp [RKV.len h2]
theorem RKV.any {k : D} {ks : Key} (hk : RKey k ks) : ∀ {kvs : List (D × D)} {vs : List (Key × V)}, RKV K ρ H kvs vs → (vs.any fun p => decide (p.1 = ks)) = (kvs.any fun p => @decide (p.1 = k) (Classical.propDecidable _))
  | [], _, h => by subst h; rfl
  | (k1, d1) :: r, _, ⟨k', v, r', e, h0, h1, h2⟩ => by
    subst e
    simp only [List.any_cons]
    rw [RKV.any hk h2]
    congr 1
    have := h0.same hk
    by_cases q : k1 = k
    · simp [q, this.mp q]
    · simp only [q, decide_false, decide_eq_false_iff_not, fun z => q (this.mpr z)]
      exact fun z => q (this.mpr z)
theorem RKV.snoc {k d : D} {ks : Key} {v : V} (hk : RKey k ks) (hv : RD K ρ H d v) : ∀ {kvs : List (D × D)} {vs : List (Key × V)}, RKV K ρ H kvs vs → RKV K ρ H (kvs ++ [(k, d)]) (vs ++ [(ks, v)])
  | [], _, h => by subst h; exact ⟨ks, v, [], rfl, hk, hv, rfl⟩
  | (k1, d1) :: r, _, ⟨k', v', r', e, h0, h1, h2⟩ => by subst e; exact ⟨k', v', _, rfl, h0, h1, RKV.snoc hk hv h2⟩
theorem RKV.rep {k d : D} {ks : Key} {v : V} (hk : RKey k ks) (hv : RD K ρ H d v) : ∀ {kvs : List (D × D)} {vs : List (Key × V)}, RKV K ρ H kvs vs → RKV K ρ H (kvs.map fun p => @ite _ (p.1 = k) (Classical.propDecidable _) (p.1, d) p) (vs.map fun p => if p.1 = ks then (p.1, v) else p)
  | [], _, h => by subst h; rfl
  | (k1, d1) :: r, _, ⟨k', v', r', e, h0, h1, h2⟩ => by
    subst e
    have := h0.same hk
    have ih := RKV.rep hk hv h2
    by_cases q : k1 = k
    · simp only [List.map_cons, q, this.mp q, if_true]
      exact ⟨ks, v, _, rfl, hk, hv, ih⟩
    · simp only [List.map_cons, if_neg q, if_neg fun z => q (this.mpr z)]
      exact ⟨k', v', _, rfl, h0, h1, ih⟩
theorem RKV.put {k d : D} {ks : Key} {v : V} (hk : RKey k ks) (hv : RD K ρ H d v) {kvs : List (D × D)} {vs : List (Key × V)} (h : RKV K ρ H kvs vs) : RKV K ρ H (dputD kvs k d) (putK vs ks v) := by
  unfold dputD putK
  rw [h.any hk]
  split
  · exact h.rep hk hv
  · exact h.snoc hk hv
open Classical in
noncomputable def ddrop (kvs : List (D × D)) (k : D) : List (D × D) := kvs.filter fun p => decide (p.1 ≠ k)
theorem RKV.drop {k : D} {ks : Key} (hk : RKey k ks) : ∀ {kvs : List (D × D)} {vs : List (Key × V)}, RKV K ρ H kvs vs → RKV K ρ H (ddrop kvs k) (dropK vs ks)
  | [], _, h => by subst h; rfl
  | (k1, d1) :: r, _, ⟨k', v', r', e, h0, h1, h2⟩ => by
    subst e
    have := h0.same hk
    have ih := RKV.drop hk h2
    unfold ddrop dropK at *
    by_cases q : k1 = k
    · rw [List.filter_cons_of_neg (by simpa using q), List.filter_cons_of_neg (by simpa using this.mp q)]
      exact ih
    · rw [List.filter_cons_of_pos (by simpa using q), List.filter_cons_of_pos (by simpa using fun z => q (this.mpr z))]
      exact ⟨k', v', _, rfl, h0, h1, ih⟩
end
/-! ### d[k], k in d -/
/-- the dict's pairs, locked or not -/
def kvO : Option Cell → Option (List (D × D))
  | some (.dict false kvs) => some kvs
  | some (.frd kvs) => some kvs
  | _ => none
noncomputable def ixK (a b : RV) (st : Store) : Option RV := match a, b with
  | .v (.ref n), .v k => match kvO st[n]? with
    | some kvs => match keyD k with
      | some _ => (dvV kvs k).map .v
      | none => none
    | _ => none
  | _, _ => none
noncomputable def inK (a b : RV) (st : Store) : Option Bool := match a, b with
  | .v k, .v (.ref n) => match kvO st[n]? with
    | some kvs => match keyD k with
      | some _ => some (dvV kvs k).isSome
      | none => none
    | _ => none
  | _, _ => none
section
variable {K : PySem.W.Frag} {cl : CT} {ρ : List Addr} {H H0 H1 : Hp} {st : Store} {a b : RV} {x y : V}
theorem kvO_ok (S : RS K ρ H cl st) {n : Nat} {q : Addr} {kvs : List (D × D)} (hq : ρ[n]? = some q) (e : kvO st[n]? = some kvs) : ∃ vs, Rd H q (.dK vs) ∧ RKV K ρ H kvs vs := by
  unfold kvO at e
  split at e
  · rename_i e1
    cases e
    obtain ⟨_, vs, h1, h2⟩ | ⟨z, _⟩ := S.at_ _ _ _ e1 hq
    · exact ⟨vs, .inl h1, h2⟩
    · cases z
  · rename_i e1
    cases e
    obtain ⟨o, vs, h1, h2⟩ := S.at_ _ _ _ e1 hq
    exact ⟨vs, .inr ⟨o, h1⟩, h2⟩
  · cases e
theorem ixK_ok {c : RV} (S : RS K ρ H cl st) (ra : RRV K ρ H H0 a x) (rb : RRV K ρ H H1 b y) (h : ixK a b st = some c) : ∃ q v d, x = .ref q ∧ c = .v d ∧ DGet H q y (some v) ∧ RD K ρ H d v := by
  unfold ixK at h
  split at h
  · rename_i n k
    split at h
    · rename_i kvs e
      split at h
      · rename_i ks hk
        cases e2 : dvV kvs k with
        | none => rw [e2] at h; cases h
        | some d =>
          rw [e2] at h
          cases h
          obtain ⟨q, rfl, hq⟩ := ra
          have kr := keyD_rel hk
          obtain ⟨vs, h1, h2⟩ := kvO_ok S hq e
          obtain ⟨v, hv, rv⟩ := (h2.val kr).1 e2
          refine ⟨q, v, d, rfl, rfl, ?_, rv⟩
          rw [kr.val rb, ← hv]
          exact .inl ⟨vs, ks, h1, rfl, rfl⟩
      · cases h
    · cases h
  · cases h
theorem inK_ok {k : Bool} (S : RS K ρ H cl st) (ra : RRV K ρ H H0 a x) (rb : RRV K ρ H H1 b y) (h : inK a b st = some k) : ∃ q o, y = .ref q ∧ DGet H q x o ∧ o.isSome = k := by
  unfold inK at h
  split at h
  · rename_i ky n
    split at h
    · rename_i kvs e
      split at h
      · rename_i ks hk
        cases h
        obtain ⟨q, rfl, hq⟩ := rb
        have kr := keyD_rel hk
        obtain ⟨vs, h1, h2⟩ := kvO_ok S hq e
        refine ⟨q, valV vs ks, rfl, ?_, (h2.val kr).2⟩
        rw [kr.val ra]
        exact .inl ⟨vs, ks, h1, rfl, rfl⟩
      · cases h
    · cases h
  · cases h
end
end Ev

/-! ## Ev3 -/
set_option Elab.async false
set_option linter.all false
set_option maxRecDepth 100000
/-! Ev3: primitives: arithmetic, comparisons, truth, places, slices. -/
namespace Ev
open PySem PySem.Spec PyProof.Rows L2
section
variable {K : PySem.W.Frag} {cl : CT} {st : Store} {ρ : List Addr} {H : Hp} {Q : VK}
/-- an answer that makes nothing new -/
theorem fin_v {d : D} {v : V} {o : Option RV} (S : RS K ρ H cl st) (q : Prim K cl st ρ H o Q) (e : o = some (.v d)) (r : RD K ρ H d v) : Q v H := by
  obtain ⟨c, h, q⟩ := q
  rw [h] at e
  cases e
  exact q ρ H v (Ext.refl _ _) S r
theorem fin_tup {l : List D} {vs : List V} {o : Option RV} {n : Addr} (S : RS K ρ H cl st) (q : Prim K cl st ρ H o Q) (e : o = some (.v (.tup l))) (r : RDs K ρ H l vs) (hn : H n = none) : Q (.ref n) (upd H n (.tup vs)) := by
  obtain ⟨c, h, q⟩ := q
  rw [h] at e
  cases e
  exact q ρ _ _ (Ext.new hn) (S.new hn) ⟨n, _, rfl, SqT.of upd_same, RDs.mono ((Ext.new hn).mono S) _ _ r⟩
theorem fin_lst {l : List D} {vs : List V} {o : Option RV} {n : Addr} (S : RS K ρ H cl st) (q : Prim K cl st ρ H o Q) (e : o = some (.t l)) (r : RDs K ρ H l vs) (hn : H n = none) : Q (.ref n) (upd H n (.lst vs)) := by
  obtain ⟨c, h, q⟩ := q
  rw [h] at e
  cases e
  refine q ρ _ _ (Ext.new hn) (S.new hn) ⟨n, _, rfl, upd_same, fun z => ?_, hn, RDs.mono ((Ext.new hn).mono S) _ _ r⟩
  obtain ⟨o, e, _⟩ := S.obj z
  rw [hn] at e; cases e
end
/-! ### - * // % ** -/
def dSub (a b : RV) (_ : Store) : Option RV := match a, b with
  | .v (.int i), .v (.int j) => some (.v (.int (i - j)))
  | _, _ => none
def mOk (i j : Int) : Prop := (-(2 ^ 64) < i ∧ i < 2 ^ 64) ∨ (-(2 ^ 64) < j ∧ j < 2 ^ 64)
open Classical in
noncomputable def dMul (a b : RV) (st : Store) : Option RV := match a, b with
  | .v (.int i), .v (.int j) => if mOk i j then some (.v (.int (i * j))) else none
  | _, _ => none
def dDiv (a b : RV) (_ : Store) : Option RV := match a, b with
  | .v (.int i), .v (.int j) => if 0 < j ∧ j < 1073741824 then some (.v (.int (i / j))) else none
  | _, _ => none
def dMod (a b : RV) (_ : Store) : Option RV := match a, b with
  | .v (.int i), .v (.int j) => if 0 < j then some (.v (.int (i % j))) else none
  | _, _ => none
def dPow (a b : RV) (_ : Store) : Option RV := match a, b with
  | .v (.int i), .v (.int j) => if 0 ≤ j ∧ j ≤ 1000000 ∧ i.natAbs < 2 ^ 64 then some (.v (.int (i ^ j.toNat))) else none
  | _, _ => none
def dNeg (a : RV) (_ : Store) : Option RV := match a with
  | .v (.int i) => some (.v (.int (-i)))
  | _ => none
section
variable {X : Cx} {cl : CT}
/-- an operator on two ints -/
theorem opd_int {f : Value → Value → Sem Value} {C : Int → Int → Prop} {h : Int → Int → V} {k : Int → Int → D} {g : RV → RV → Store → Option RV} (ho : OpR X f (rI C h)) (hk : ∀ (ρ : List Addr) (H : Hp) i j, RD X.K ρ H (k i j) (h i j))
    (hg : ∀ a b st c, g a b st = some c → ∃ i j, a = .v (.int i) ∧ b = .v (.int j) ∧ C i j ∧ c = .v (k i j)) : OpR X f (rP2 X.K cl g) := by
  rintro pins s σ H x y v u Q I rx ry ⟨ρ, st, a, b, H0, H1, S, ra, rb, c, hc, q⟩
  obtain ⟨i, j, rfl, rfl, hC, rfl⟩ := hg _ _ _ _ hc
  cases ra; cases rb
  exact ho pins s σ H _ _ v u Q I rx ry ⟨i, j, rfl, rfl, hC, q ρ H _ (Ext.refl _ _) S (hk ρ H i j)⟩
theorem opd_int0 {f : Value → Value → Sem Value} {h : Int → Int → V} {k : Int → Int → D} {g : RV → RV → Store → Option RV} (ho : OpR X f (rI0 h)) (hk : ∀ (ρ : List Addr) (H : Hp) i j, RD X.K ρ H (k i j) (h i j))
    (hg : ∀ a b st c, g a b st = some c → ∃ i j, a = .v (.int i) ∧ b = .v (.int j) ∧ c = .v (k i j)) : OpR X f (rP2 X.K cl g) :=
  opd_int (C := fun _ _ => True) (h := h) (k := k) (fun pins s σ H x y v u Q I rx ry q => by
    obtain ⟨i, j, e1, e2, _, q⟩ := q
    exact ho pins s σ H x y v u Q I rx ry ⟨i, j, e1, e2, q⟩) hk fun a b st c e => by
    obtain ⟨i, j, e1, e2, e3⟩ := hg a b st c e
    exact ⟨i, j, e1, e2, trivial, e3⟩
theorem opd_sub : OpR X (binaryOp .Sub) (rP2 X.K cl dSub) := opd_int0 (k := fun i j => .int (i - j)) op_sub (fun _ _ _ _ => rfl) fun a b st c e => by
  unfold dSub at e; split at e
  · cases e; exact ⟨_, _, rfl, rfl, rfl⟩
  · cases e
theorem opd_mul : OpR X (binaryOp .Mult) (rP2 X.K cl dMul) := opd_int (k := fun i j => .int (i * j)) op_mul (fun _ _ _ _ => rfl) fun a b st c e => by
  unfold dMul at e; split at e
  · split at e
    · rename_i hC
      cases e; exact ⟨_, _, rfl, rfl, hC, rfl⟩
    · cases e
  · cases e
theorem opd_div : OpR X (binaryOp .FloorDiv) (rP2 X.K cl dDiv) := opd_int (k := fun i j => .int (i / j)) op_fdiv (fun _ _ _ _ => rfl) fun a b st c e => by
  unfold dDiv at e; split at e
  · split at e
    · rename_i hC
      cases e; exact ⟨_, _, rfl, rfl, hC, rfl⟩
    · cases e
  · cases e
theorem opd_mod : OpR X (binaryOp .Mod) (rP2 X.K cl dMod) := opd_int (k := fun i j => .int (i % j)) op_mod (fun _ _ _ _ => rfl) fun a b st c e => by
  unfold dMod at e; split at e
  · split at e
    · rename_i hC
      cases e; exact ⟨_, _, rfl, rfl, hC, rfl⟩
    · cases e
  · cases e
theorem opd_pow : OpR X (binaryOp .Pow) (rP2 X.K cl dPow) := opd_int (k := fun i j => .int (i ^ j.toNat)) op_pow (fun _ _ _ _ => rfl) fun a b st c e => by
  unfold dPow at e; split at e
  · split at e
    · rename_i hC
      cases e; exact ⟨_, _, rfl, rfl, hC, rfl⟩
    · cases e
  · cases e
theorem und_neg : UnR X (unaryOp .USub) (rP1 X.K cl dNeg) := by
  rintro pins s σ H x v Q I rx ⟨ρ, st, a, H0, S, ra, c, hc, q⟩
  unfold dNeg at hc
  split at hc
  · cases hc; cases ra
    exact un_neg pins s σ H _ v Q I rx ⟨_, rfl, q ρ H _ (Ext.refl _ _) S rfl⟩
  · cases hc
end

/-! ### == != -/
section
variable {K : PySem.W.Frag} {ρ : List Addr} {H : Hp}
mutual
theorem dp_of : ∀ (d : D) (v : V), D.pure d = true → RD K ρ H d v → Dp K H v d.toPy
  | .non, _, _, h => by cases h; rw [D.toPy]; exact .non
  | .bl b, _, _, h => by cases h; rw [D.toPy]; exact .bl b
  | .int i, _, _, h => by cases h; rw [D.toPy]; exact .int i
  | .str s, _, _, h => by cases h; rw [D.toPy]; exact .str _
  | .tup l, _, hp, h => by
    obtain ⟨a, vs, rfl, h1, h2⟩ := h
    rw [D.toPy]
    exact .tup h1 (dps_of l vs (by simpa [D.pure] using hp) h2)
  | .rol l, _, hp, h => by
    obtain ⟨a, vs, rfl, h1, h2⟩ := h
    rw [D.toPy]
    exact .lst h1.sq (dps_of l vs (by simpa [D.pure] using hp) h2)
  | .ref n, _, hp, h => by simp [D.pure] at hp
theorem dps_of : ∀ (l : List D) (vs : List V), D.pures l = true → RDs K ρ H l vs → DpAll K H vs (D.toPys l)
  | [], _, _, h => by
    have : _ = [] := h
    subst this
    rw [D.toPys]; exact .nil
  | d :: l, _, hp, h => by
    obtain ⟨v, r, rfl, h1, h2⟩ := h
    simp only [D.pures, Bool.and_eq_true] at hp
    rw [D.toPys]
    exact .cons (dp_of d v hp.1 h1) (dps_of l r hp.2 h2)
end
end
/-- data as == sees it: a value, or a list that may be written -/
def dat (st : Store) (a : RV) : Option PyData := match a with
  | .v (.ref n) => match st[n]? with
    | some (.lst l) => if D.pures l then some (.list (D.toPys l)) else none
    | _ => none
  | .v d => if D.pure d then some d.toPy else none
  | .t l => if D.pures l then some (.list (D.toPys l)) else none
def eqB (a b : RV) (st : Store) : Option Bool := match a, b with
  | .v (.int i), .v (.int j) => some (i == j)
  | .v (.str s), .v (.str t) => some (decide (s = t))
  | .v (.bl s), .v (.bl t) => some (s == t)
  | .v .non, .v .non => some true
  | .v .non, .v (.int _) => some false
  | .v (.int _), .v .non => some false
  | .v .non, .v (.str _) => some false
  | .v (.str _), .v .non => some false
  | a, b => match dat st a, dat st b with
    | some x, some y => if SeqAt.shaped x && SeqAt.shaped y then some (PyData.eqv x y) else none
    | _, _ => none
def dEq (a b : RV) (st : Store) : Option RV := (eqB a b st).map fun k => .v (.bl k)
def dNe (a b : RV) (st : Store) : Option RV := (eqB a b st).map fun k => .v (.bl (!k))
section
variable {X : Cx} {cl : CT} {ρ : List Addr} {H H0 H1 : Hp} {st : Store} {a b : RV} {x y : V}
theorem dat_ok {p : PyData} (S : RS X.K ρ H cl st) (r : RRV X.K ρ H H0 a x) (h : dat st a = some p) : Dp X.K H x p := by
  unfold dat at h
  split at h
  · split at h
    · rename_i n l e
      split at h
      · rename_i hp
        cases h
        obtain ⟨a, rfl, ha⟩ := r
        obtain ⟨vs, h1, h2⟩ := S.at_ _ _ _ e ha
        exact .lst (SqL.of h1) (dps_of _ _ hp h2)
      · cases h
    · cases h
  · split at h
    · rename_i hp
      cases h
      exact dp_of _ _ hp r
    · cases h
  · split at h
    · rename_i hp
      cases h
      obtain ⟨p, vs, rfl, h1, _, _, h3⟩ := r
      exact .lst (SqL.of h1) (dps_of _ _ hp h3)
    · cases h
theorem dec_V {α : Type} [DecidableEq α] {f : α → V} (hf : ∀ a b, f a = f b → a = b) (a b : α) : decide (f a = f b) = decide (a = b) := by
  by_cases h : a = b
  · subst h; simp
  · rw [decide_eq_false h, decide_eq_false fun e => h (hf _ _ e)]
theorem eqB_ok {k : Bool} (S : RS X.K ρ H cl st) (ra : RRV X.K ρ H H0 a x) (rb : RRV X.K ρ H H1 b y) (h : eqB a b st = some k) :
    (scal x y = true ∧ decide (x = y) = k) ∨ ∃ d e, Dp X.K H x d ∧ Dp X.K H y e ∧ SeqAt.shaped d = true ∧ SeqAt.shaped e = true ∧ PyData.eqv d e = k := by
  unfold eqB at h
  split at h
  · cases h; cases ra; cases rb
    refine .inl ⟨rfl, ?_⟩
    rw [dec_V (f := V.int) (fun _ _ e => by cases e; rfl), Bool.beq_eq_decide_eq]
  · cases h; cases ra; cases rb
    refine .inl ⟨rfl, ?_⟩
    rw [dec_V (f := fun s : List Nat => V.str ⟨s.toArray⟩) (fun _ _ e => by
      injection e with e
      injection e with e
      simpa using e)]
  · cases h; cases ra; cases rb
    refine .inl ⟨rfl, ?_⟩
    rw [dec_V (f := V.bl) (fun _ _ e => by cases e; rfl), Bool.beq_eq_decide_eq]
  · cases h; cases ra; cases rb; exact .inl ⟨rfl, rfl⟩
  · cases h; cases ra; cases rb; exact .inl ⟨rfl, rfl⟩
  · cases h; cases ra; cases rb; exact .inl ⟨rfl, rfl⟩
  · cases h; cases ra; cases rb; exact .inl ⟨rfl, rfl⟩
  · cases h; cases ra; cases rb; exact .inl ⟨rfl, rfl⟩
  · split at h
    · rename_i p q h1 h2
      split at h
      · rename_i hs
        cases h
        simp only [Bool.and_eq_true] at hs
        exact .inr ⟨_, _, dat_ok S ra h1, dat_ok S rb h2, hs.1, hs.2, rfl⟩
      · cases h
    · cases h
theorem opd_eq (hu : X.A.units + 64 < cLine) : OpR X (compareOp .Eq) (rP2 X.K cl dEq) := by
  rintro pins s σ H x y v u Q I rx ry ⟨ρ, st, a, b, H0, H1, S, ra, rb, q⟩
  cases e : eqB a b st with
  | none =>
    obtain ⟨c, h, _⟩ := q
    simp [dEq, e] at h
  | some k =>
    have fin : Q (.bl k) H := fin_v (d := .bl k) S q (by simp [dEq, e]) rfl
    rcases eqB_ok S ra rb e with ⟨h1, h2⟩ | ⟨d, e', h1, h2, h3, h4, h5⟩
    · exact op_eq pins s σ H x y v u Q I rx ry ⟨h1, by rw [h2]; exact fin⟩
    · exact op_eqD hu pins s σ H x y v u Q I rx ry ⟨d, e', h1, h2, h3, h4, by rw [h5]; exact fin⟩
theorem opd_ne (hu : X.A.units + 64 < cLine) : OpR X (compareOp .NotEq) (rP2 X.K cl dNe) := by
  rintro pins s σ H x y v u Q I rx ry ⟨ρ, st, a, b, H0, H1, S, ra, rb, q⟩
  cases e : eqB a b st with
  | none =>
    obtain ⟨c, h, _⟩ := q
    simp [dNe, e] at h
  | some k =>
    have fin : Q (.bl (!k)) H := fin_v (d := .bl (!k)) S q (by simp [dNe, e]) rfl
    rcases eqB_ok S ra rb e with ⟨h1, h2⟩ | ⟨d, e', h1, h2, h3, h4, h5⟩
    · exact op_ne pins s σ H x y v u Q I rx ry ⟨h1, by rw [h2]; exact fin⟩
    · exact op_neD hu pins s σ H x y v u Q I rx ry ⟨d, e', h1, h2, h3, h4, by rw [h5]; exact fin⟩
end

/-! ### in, not in -/
noncomputable def inB (a b : RV) (st : Store) : Option Bool := match a, b with
  | .v (.str [c]), .v (.str s) => some (decide (c ∈ s))
  | a, b => match dat st a, dat st b with
    | some x, some (.list ys) => if SeqAt.shaped x && SeqAt.shaped (.list ys) then some (ys.any fun z => PyData.eqv z x) else none
    | some x, some (.tuple ys) => if SeqAt.shaped x && SeqAt.shaped (.tuple ys) then some (ys.any fun z => PyData.eqv z x) else none
    | _, _ => inK a b st
noncomputable def dIn (a b : RV) (st : Store) : Option RV := (inB a b st).map fun k => .v (.bl k)
noncomputable def dNotIn (a b : RV) (st : Store) : Option RV := (inB a b st).map fun k => .v (.bl (!k))
section
variable {X : Cx} {cl : CT}
theorem inB_ok {k : Bool} {ρ : List Addr} {H H0 H1 : Hp} {st : Store} {a b : RV} {x y : V} (S : RS X.K ρ H cl st) (ra : RRV X.K ρ H H0 a x) (rb : RRV X.K ρ H H1 b y) (h : inB a b st = some k) :
    (∃ (c : Nat) (z : Str), x = .str ⟨#[c]⟩ ∧ y = .str z ∧ decide (c ∈ z.cps.toList) = k) ∨
    (∃ d ds, Dp X.K H x d ∧ SeqAt.shaped d = true ∧ (ds.any fun z => PyData.eqv z d) = k ∧ ((Dp X.K H y (.list ds) ∧ SeqAt.shaped (.list ds) = true) ∨ (Dp X.K H y (.tuple ds) ∧ SeqAt.shaped (.tuple ds) = true))) ∨
    ∃ q o, y = .ref q ∧ DGet H q x o ∧ o.isSome = k := by
  unfold inB at h
  split at h
  · rename_i c s
    cases h; cases ra; cases rb
    exact .inl ⟨c, _, rfl, rfl, rfl⟩
  · split at h
    · rename_i d ds h1 h2
      split at h
      · rename_i hs
        cases h
        simp only [Bool.and_eq_true] at hs
        exact .inr (.inl ⟨_, _, dat_ok S ra h1, hs.1, rfl, .inl ⟨dat_ok S rb h2, hs.2⟩⟩)
      · cases h
    · rename_i d ds h1 h2
      split at h
      · rename_i hs
        cases h
        simp only [Bool.and_eq_true] at hs
        exact .inr (.inl ⟨_, _, dat_ok S ra h1, hs.1, rfl, .inr ⟨dat_ok S rb h2, hs.2⟩⟩)
      · cases h
    · exact .inr (.inr (inK_ok S ra rb h))
theorem opd_in (hu : X.A.units + 65 < cLine) : OpR X (compareOp .In) (rP2 X.K cl dIn) := by
  rintro pins s σ H x y v u Q I rx ry ⟨ρ, st, a, b, H0, H1, S, ra, rb, q⟩
  cases e : inB a b st with
  | none =>
    obtain ⟨c, h, _⟩ := q
    simp [dIn, e] at h
  | some k =>
    have fin : Q (.bl k) H := fin_v (d := .bl k) S q (by simp [dIn, e]) rfl
    rcases inB_ok S ra rb e with ⟨c, z, rfl, rfl, h⟩ | ⟨d, ds, h1, h2, h3, h4⟩ | ⟨q, o, rfl, h1, h2⟩
    · exact op_in_sign pins s σ H _ _ v u Q I rx ry ⟨c, z, rfl, rfl, by rw [h]; exact fin⟩
    · obtain ⟨as, r1⟩ := Dp.reads I d x v h1 rx
      rcases h4 with ⟨h4, h5⟩ | ⟨h4, h5⟩
      · obtain ⟨bs, r2⟩ := Dp.reads I (.list ds) y u h4 ry
        exact SeqAt.in_list_reads r2 r1 (SeqAt.canLay_of_shaped h5) (SeqAt.canLay_of_shaped h2) (room_in_shaped h2 hu) ⟨.bl _, H, I, rfl, by rw [h3]; exact fin⟩
      · obtain ⟨bs, r2⟩ := Dp.reads I (.tuple ds) y u h4 ry
        exact SeqAt.in_tuple_reads r2 r1 (SeqAt.canLay_of_shaped h5) (SeqAt.canLay_of_shaped h2) (room_in_shaped h2 hu) ⟨.bl _, H, I, rfl, by rw [h3]; exact fin⟩
    · cases ry
      exact d_in (by omega) I h1 rx fun s' I' => ⟨.bl _, H, I', rfl, by rw [h2]; exact fin⟩
theorem opd_notIn (hu : X.A.units + 65 < cLine) : OpR X (compareOp .NotIn) (rP2 X.K cl dNotIn) := by
  rintro pins s σ H x y v u Q I rx ry ⟨ρ, st, a, b, H0, H1, S, ra, rb, q⟩
  cases e : inB a b st with
  | none =>
    obtain ⟨c, h, _⟩ := q
    simp [dNotIn, e] at h
  | some k =>
    have fin : Q (.bl (!k)) H := fin_v (d := .bl (!k)) S q (by simp [dNotIn, e]) rfl
    rcases inB_ok S ra rb e with ⟨c, z, rfl, rfl, h⟩ | ⟨d, ds, h1, h2, h3, h4⟩ | ⟨q, o, rfl, h1, h2⟩
    · exact op_notIn_sign pins s σ H _ _ v u Q I rx ry ⟨c, z, rfl, rfl, by rw [h]; exact fin⟩
    · obtain ⟨as, r1⟩ := Dp.reads I d x v h1 rx
      rcases h4 with ⟨h4, h5⟩ | ⟨h4, h5⟩
      · obtain ⟨bs, r2⟩ := Dp.reads I (.list ds) y u h4 ry
        exact SeqAt.notIn_list_reads r2 r1 (SeqAt.canLay_of_shaped h5) (SeqAt.canLay_of_shaped h2) (room_in_shaped h2 hu) ⟨.bl _, H, I, rfl, by rw [h3]; exact fin⟩
      · obtain ⟨bs, r2⟩ := Dp.reads I (.tuple ds) y u h4 ry
        exact SeqAt.notIn_tuple_reads r2 r1 (SeqAt.canLay_of_shaped h5) (SeqAt.canLay_of_shaped h2) (room_in_shaped h2 hu) ⟨.bl _, H, I, rfl, by rw [h3]; exact fin⟩
    · cases ry
      exact d_notIn (by omega) I h1 rx fun s' I' => ⟨.bl _, H, I', rfl, by rw [h2]; exact fin⟩
end

/-! ### < <= > >= -/
def strLt (s t : List Nat) : Bool := decide (s < t)
/-- tuples of plain data, the first less than the second -/
def ltD (l m : List D) : Option Bool :=
  if D.pures l && D.pures m && SeqAt.shaped (.tuple (D.toPys l)) && PySem.W.alike (.tuple (D.toPys l)) (.tuple (D.toPys m)) then some (PySem.W.dataLt (.tuple (D.toPys l)) (.tuple (D.toPys m))) else none
def dLt (a b : RV) (_ : Store) : Option RV := match a, b with
  | .v (.int i), .v (.int j) => some (.v (.bl (decide (i < j))))
  | .v (.str s), .v (.str t) => some (.v (.bl (strLt s t)))
  | .v (.tup l), .v (.tup m) => (ltD l m).map fun k => .v (.bl k)
  | _, _ => none
def dLe (a b : RV) (_ : Store) : Option RV := match a, b with
  | .v (.int i), .v (.int j) => some (.v (.bl (decide (i ≤ j))))
  | .v (.str s), .v (.str t) => some (.v (.bl (!strLt t s)))
  | _, _ => none
def dGt (a b : RV) (_ : Store) : Option RV := match a, b with
  | .v (.int i), .v (.int j) => some (.v (.bl (decide (j < i))))
  | .v (.str s), .v (.str t) => some (.v (.bl (strLt t s)))
  | _, _ => none
def dGe (a b : RV) (_ : Store) : Option RV := match a, b with
  | .v (.int i), .v (.int j) => some (.v (.bl (decide (j ≤ i))))
  | .v (.str s), .v (.str t) => some (.v (.bl (!strLt s t)))
  | _, _ => none
section
variable {X : Cx} {cl : CT}
theorem opd_lt (hu : X.A.units + 64 < cLine) : OpR X (compareOp .Lt) (rP2 X.K cl dLt) := by
  rintro pins s σ H x y v u Q I rx ry ⟨ρ, st, a, b, H0, H1, S, ra, rb, c, hc, q⟩
  unfold dLt at hc
  split at hc
  · cases hc; cases ra; cases rb
    exact op_lt pins s σ H _ _ v u Q I rx ry ⟨_, _, rfl, rfl, q ρ H _ (Ext.refl _ _) S rfl⟩
  · cases hc; cases ra; cases rb
    exact op_lt_str pins s σ H _ _ v u Q I rx ry ⟨_, _, rfl, rfl, q ρ H _ (Ext.refl _ _) S rfl⟩
  · rename_i l m
    unfold ltD at hc
    split at hc
    · rename_i hp
      cases hc
      simp only [Bool.and_eq_true] at hp
      have hd : dat st (.v (.tup l)) = some (.tuple (D.toPys l)) := by simp only [dat, D.pure, hp.1.1.1, if_true, D.toPy]
      have he : dat st (.v (.tup m)) = some (.tuple (D.toPys m)) := by simp only [dat, D.pure, hp.1.1.2, if_true, D.toPy]
      obtain ⟨as, r1⟩ := Dp.reads I _ x v (dat_ok S ra hd) rx
      obtain ⟨bs, r2⟩ := Dp.reads I _ y u (dat_ok S rb he) ry
      have hdep : (PyData.tuple (D.toPys l)).depth ≤ 64 := by
        have := hp.1.2
        simp only [SeqAt.shaped, Bool.and_eq_true, decide_eq_true_eq] at this
        exact this.2
      refine PySem.W.lt_data r1 r2 hp.2 (fun e => by cases e) (by omega) ?_
      exact ⟨.bl _, H, I, rfl, q ρ H _ (Ext.refl _ _) S rfl⟩
    · cases hc
  · cases hc
theorem opd_le : OpR X (compareOp .LtE) (rP2 X.K cl dLe) := by
  rintro pins s σ H x y v u Q I rx ry ⟨ρ, st, a, b, H0, H1, S, ra, rb, c, hc, q⟩
  unfold dLe at hc
  split at hc
  · cases hc; cases ra; cases rb
    exact op_le pins s σ H _ _ v u Q I rx ry ⟨_, _, rfl, rfl, q ρ H _ (Ext.refl _ _) S rfl⟩
  · cases hc; cases ra; cases rb
    exact op_le_str pins s σ H _ _ v u Q I rx ry ⟨_, _, rfl, rfl, q ρ H _ (Ext.refl _ _) S rfl⟩
  · cases hc
theorem opd_gt : OpR X (compareOp .Gt) (rP2 X.K cl dGt) := by
  rintro pins s σ H x y v u Q I rx ry ⟨ρ, st, a, b, H0, H1, S, ra, rb, c, hc, q⟩
  unfold dGt at hc
  split at hc
  · cases hc; cases ra; cases rb
    exact op_gt pins s σ H _ _ v u Q I rx ry ⟨_, _, rfl, rfl, q ρ H _ (Ext.refl _ _) S rfl⟩
  · cases hc; cases ra; cases rb
    exact op_gt_str pins s σ H _ _ v u Q I rx ry ⟨_, _, rfl, rfl, q ρ H _ (Ext.refl _ _) S rfl⟩
  · cases hc
theorem opd_ge : OpR X (compareOp .GtE) (rP2 X.K cl dGe) := by
  rintro pins s σ H x y v u Q I rx ry ⟨ρ, st, a, b, H0, H1, S, ra, rb, c, hc, q⟩
  unfold dGe at hc
  split at hc
  · cases hc; cases ra; cases rb
    exact op_ge pins s σ H _ _ v u Q I rx ry ⟨_, _, rfl, rfl, q ρ H _ (Ext.refl _ _) S rfl⟩
  · cases hc; cases ra; cases rb
    exact op_ge_str pins s σ H _ _ v u Q I rx ry ⟨_, _, rfl, rfl, q ρ H _ (Ext.refl _ _) S rfl⟩
  · cases hc
end

/-! ### is None -/
def dIsN (a b : RV) (_ : Store) : Option RV := match a, b with
  | .v .non, .v .non => some (.v (.bl true))
  | _, .v .non => some (.v (.bl false))
  | .v (.bl i), .v (.bl j) => some (.v (.bl (decide (i = j))))
  | _, _ => none
def dNotN (a b : RV) (_ : Store) : Option RV := match a, b with
  | .v .non, .v .non => some (.v (.bl false))
  | _, .v .non => some (.v (.bl true))
  | .v (.bl i), .v (.bl j) => some (.v (.bl (!decide (i = j))))
  | _, _ => none
section
variable {X : Cx} {cl : CT}
theorem isN_ok {K : PySem.W.Frag} {ρ : List Addr} {H H0 : Hp} {a : RV} {x : V} (r : RRV K ρ H H0 a x) : decide (x = .non) = match a with
  | .v .non => true
  | _ => false := by
  cases a with
  | t l => obtain ⟨p, vs, rfl, _⟩ := r; rfl
  | v d =>
    cases d with
    | non => cases r; rfl
    | bl b => cases r; rfl
    | int b => cases r; rfl
    | str b => cases r; rfl
    | tup l => obtain ⟨a, vs, rfl, _⟩ := r; rfl
    | rol l => obtain ⟨a, vs, rfl, _⟩ := r; rfl
    | ref l => obtain ⟨a, rfl, _⟩ := r; rfl
theorem opd_isN : OpR X (compareOp .Is) (rP2 X.K cl dIsN) := by
  rintro pins s σ H x y v u Q I rx ry ⟨ρ, st, a, b, H0, H1, S, ra, rb, c, hc, q⟩
  have e := isN_ok ra
  unfold dIsN at hc
  split at hc
  · cases hc; cases rb
    exact op_isN pins s σ H _ _ v u Q I rx ry ⟨rfl, by rw [e]; exact q ρ H _ (Ext.refl _ _) S rfl⟩
  · rename_i h
    cases hc; cases rb
    refine op_isN pins s σ H _ _ v u Q I rx ry ⟨rfl, ?_⟩
    have e2 : decide (x = .non) = false := by
      rw [e]
      split
      · exact absurd rfl h
      · rfl
    rw [e2]
    exact q ρ H _ (Ext.refl _ _) S rfl
  · cases hc; cases ra; cases rb
    exact op_isBl pins s σ H _ _ v u Q I rx ry ⟨_, _, rfl, rfl, q ρ H _ (Ext.refl _ _) S rfl⟩
  · cases hc
theorem opd_notN : OpR X (compareOp .IsNot) (rP2 X.K cl dNotN) := by
  rintro pins s σ H x y v u Q I rx ry ⟨ρ, st, a, b, H0, H1, S, ra, rb, c, hc, q⟩
  have e := isN_ok ra
  unfold dNotN at hc
  split at hc
  · cases hc; cases rb
    exact op_notN pins s σ H _ _ v u Q I rx ry ⟨rfl, by rw [e]; exact q ρ H _ (Ext.refl _ _) S rfl⟩
  · rename_i h
    cases hc; cases rb
    refine op_notN pins s σ H _ _ v u Q I rx ry ⟨rfl, ?_⟩
    have e2 : decide (x = .non) = false := by
      rw [e]
      split
      · exact absurd rfl h
      · rfl
    rw [e2]
    exact q ρ H _ (Ext.refl _ _) S rfl
  · cases hc; cases ra; cases rb
    exact op_notBl pins s σ H _ _ v u Q I rx ry ⟨_, _, rfl, rfl, q ρ H _ (Ext.refl _ _) S rfl⟩
  · cases hc
end
end Ev

/-! ## Ev4 -/
set_option Elab.async false
set_option linter.all false
set_option maxRecDepth 100000
namespace Ev
open PySem PySem.Spec PyProof.Rows L2

def aNil : SEnv → Store → R (List D) := fun _ st => .ok [] st
def aCons (fa : SEnv → Store → R RV) (fr : SEnv → Store → R (List D)) : SEnv → Store → R (List D) := fun env st =>
  (fa env st).bind fun a st1 => (mat a st1).bind fun d st2 => (fr env st2).bind fun ds st3 => .ok (d :: ds) st3
def bNil : SEnv → Store → R (List RV) := fun _ st => .ok [] st
def bCons (fa : SEnv → Store → R RV) (fr : SEnv → Store → R (List RV)) : SEnv → Store → R (List RV) := fun env st =>
  (fa env st).bind fun a st1 => (fr env st1).bind fun as st2 => .ok (a :: as) st2
def RRVs (K : PySem.W.Frag) (ρ : List Addr) (H H0 : Hp) : List RV → List V → Prop
  | [], vs => vs = []
  | a :: l, vs => ∃ v r, vs = v :: r ∧ RRV K ρ H H0 a v ∧ RRVs K ρ H H0 l r
def relR (K : PySem.W.Frag) : Rel (List RV) (List V) := fun H0 ρ H l vs => RRVs K ρ H H0 l vs
section
variable {K : PySem.W.Frag} {cl : CT} {ρ ρ' : List Addr} {H H' H0 : Hp} {st : Store}
theorem RRVs.ext (S : RS K ρ H cl st) (x : Ext ρ H ρ' H') : ∀ {l : List RV} {vs : List V}, RRVs K ρ H H0 l vs → RRVs K ρ' H' H0 l vs
  | [], _, h => h
  | a :: l, _, h => by
    obtain ⟨v, r, rfl, h1, h2⟩ := h
    exact ⟨v, r, rfl, RRV.ext S x h1, RRVs.ext S x h2⟩
theorem RRVs.back {ρ1 : List Addr} {H1 : Hp} (S1 : RS K ρ1 H1 cl st) (x : Ext ρ H ρ1 H1) : ∀ {l : List RV} {vs : List V}, RRVs K ρ' H' H1 l vs → RRVs K ρ' H' H l vs
  | [], _, h => h
  | a :: l, _, h => by
    obtain ⟨v, r, rfl, h1, h2⟩ := h
    exact ⟨v, r, rfl, RRV.back S1 x h1, RRVs.back S1 x h2⟩
end
section
variable {X : Cx} {cl : CT} {W : WX} {e : Expr} {es : List Expr} {fa : SEnv → Store → R RV} {fr : SEnv → Store → R (List D)} {gr : SEnv → Store → R (List RV)} {pos : Pos}
theorem da_nil : PA X [] (tA1 X.K cl W aNil) := PAw pa_nil fun σ H Q ⟨ρ, env, st, S, E, P⟩ => P ρ H [] (Ext.refl _ _) S rfl
theorem db_nil : PA X [] (tG X.K cl W (relR X.K) bNil) := PAw pa_nil fun σ H Q ⟨ρ, env, st, S, E, P⟩ => P ρ H [] (Ext.refl _ _) S rfl
theorem da_cons (ha : PE X e (tF X.K cl W fa)) (hr : PA X es (tA1 X.K cl W fr)) (hs : starEach (e :: es) X.env = (false, eval e X.env) :: starEach es X.env) : PA X (e :: es) (tA1 X.K cl W (aCons fa fr)) := by
  refine PAw (pa_cons ha hr hs) fun σ H Q ⟨ρ, env, st, S, E, P⟩ => ?_
  refine ⟨ρ, env, st, S, E, (Post.bind0 P).mono ?_⟩
  rintro x H1 ⟨ρ1, st1, a, x1, S1, r1, P1⟩
  obtain ⟨d, st2, ρ2, e2, x2, S2, r2, m2⟩ := mat_ok S1 x1 r1
  rw [e2, R.bind_ok] at P1
  refine ⟨ρ2, env, st2, S2, (E.mono (x1.mono S)).mono m2, (Post.bind0 (relα := relA X.K) (Post.from backA S2 x2 P1)).mono ?_⟩
  rintro xs H3 ⟨ρ3, st3, ds, x3, S3, r3, P3⟩
  exact P3 ρ3 H3 (x :: xs) x3 S3 ⟨x, xs, rfl, RD.mono (x3.mono S2) _ _ r2, r3⟩
theorem db_cons (ha : PE X e (tF X.K cl W fa)) (hr : PA X es (tG X.K cl W (relR X.K) gr)) (hs : starEach (e :: es) X.env = (false, eval e X.env) :: starEach es X.env) : PA X (e :: es) (tG X.K cl W (relR X.K) (bCons fa gr)) := by
  refine PAw (pa_cons ha hr hs) fun σ H Q ⟨ρ, env, st, S, E, P⟩ => ?_
  refine ⟨ρ, env, st, S, E, (Post.bind0 P).mono ?_⟩
  rintro x H1 ⟨ρ1, st1, a, x1, S1, r1, P1⟩
  refine ⟨ρ1, env, st1, S1, E.mono (x1.mono S), ?_⟩
  cases hg : gr env st1 with
  | ok as st2 =>
    rw [hg] at P1
    intro ρ2 H2 xs x2 S2 r2
    exact P1 ρ2 H2 (x :: xs) (x1.trans x2) S2 ⟨x, xs, rfl, RRV.ext S1 x2 r1, RRVs.back S1 x1 r2⟩
  | exc x' st2 =>
    rw [hg] at P1
    exact fun ρ2 H2 c d x2 S2 r2 => P1 ρ2 H2 c d (x1.trans x2) S2 r2
  | bad =>
    rw [hg] at P1
    exact P1
def eTup (fr : SEnv → Store → R (List D)) : SEnv → Store → R RV := fun env st => (fr env st).bind fun ds st1 => if ds.length ≤ sLine then .ok (.v (.tup ds)) st1 else .bad
def eLst (fr : SEnv → Store → R (List D)) : SEnv → Store → R RV := fun env st => (fr env st).bind fun ds st1 => if ds.length ≤ sLine then .ok (.t ds) st1 else .bad
theorem de_tup {x1} (h : PA X es (tA1 X.K cl W fr)) : PE X (.Tuple es x1 pos) (tF X.K cl W (eTup fr)) := by
  refine PEw (pe_tup h) fun σ H Q ⟨ρ, env, st, S, E, P⟩ => ?_
  refine ⟨ρ, env, st, S, E, (Post.bind backV P).mono ?_⟩
  rintro xs H1 ⟨ρ1, st1, ds, x1, S1, r1, P1⟩
  split at P1
  · rename_i hz
    refine ⟨by rw [← RDs.length r1, sLine_eq]; exact hz, fun p hp => ?_⟩
    exact P1 ρ1 _ _ (Ext.new hp) (S1.new hp) ⟨p, xs, rfl, SqT.of upd_same, RDs.mono ((Ext.new hp).mono S1) _ _ r1⟩
  · exact P1.elim
theorem de_lst (h : PA X es (tA1 X.K cl W fr)) : PE X (.List es pos) (tF X.K cl W (eLst fr)) := by
  refine PEw (pe_lst h) fun σ H Q ⟨ρ, env, st, S, E, P⟩ => ?_
  refine ⟨ρ, env, st, S, E, (Post.bind backV P).mono ?_⟩
  rintro xs H1 ⟨ρ1, st1, ds, x1, S1, r1, P1⟩
  split at P1
  · rename_i hz
    refine ⟨by rw [← RDs.length r1, sLine_eq]; exact hz, fun p hp => ?_⟩
    refine P1 ρ1 _ _ (Ext.new hp) (S1.new hp) ⟨p, xs, rfl, upd_same, fun z => ?_, hp, RDs.mono ((Ext.new hp).mono S1) _ _ r1⟩
    obtain ⟨o, e, _⟩ := S1.obj z
    rw [hp] at e; cases e
  · exact P1.elim
end

noncomputable def dIx (a b : RV) (st : Store) : Option RV := match b with
  | .v (.int i) => match a with
    | .v (.tup l) => (atI l i).map .v
    | .v (.str s) => if s.length ≤ sLine then (atI s i).map fun c => .v (.str [c]) else none
    | a => match lstV st a with
      | some l => (atI l i).map .v
      | none => ixK a b st
  | _ => ixK a b st
theorem atI_rds {K : PySem.W.Frag} {ρ : List Addr} {H : Hp} {l : List D} {vs : List V} {i : Int} {d : D} (r : RDs K ρ H l vs) (h : atI l i = some d) : ∃ v, atI vs i = some v ∧ RD K ρ H d v := by
  unfold atI at h ⊢
  rw [← r.length]
  cases e : ixN l.length i with
  | none => rw [e] at h; cases h
  | some j =>
    rw [e] at h
    exact r.get h
section
variable {X : Cx} {cl : CT} {W : WX} {a b : Expr} {fa fb : SEnv → Store → R RV} {pos : Pos}
theorem ixd (hu : X.A.units + 1 < cLine) : IxR X (rP2 X.K cl dIx) := by
  rintro value slice pins s σ H x y v u Q I rx ry ⟨ρ, st, a, b, H0, H1, S, ra, rb, q⟩ hs
  have hq : ∃ c, dIx a b st = some c := ⟨_, q.choose_spec.1⟩
  obtain ⟨c, hc⟩ := hq
  have dict : ixK a b st = some c → wpAny (model X.prog X.w) X.A (subscriptTail value slice v u) (EP X pins σ Q) X.xe s := by
    intro hk
    obtain ⟨q', w, d, rfl, rfl, g, rd⟩ := ixK_ok S ra rb hk
    cases rx
    exact tail_any (ops := [.ref q', u]) (dict_typeIs I g) PySem.F.slot_dict_getitem.lookup (d_getItem hu I g ry fun w' s' I' rw' => ⟨w, H, I', rw', fin_v S q hc rd⟩) hs
  cases b with
  | t l => exact dict (by simpa only [dIx] using hc)
  | v d =>
    cases d with
    | int i =>
      have rb0 := rb
      cases rb
      have lists : ∀ l, lstV st a = some l → (atI l i).map RV.v = some c → wpAny (model X.prog X.w) X.A (subscriptTail value slice v u) (EP X pins σ Q) X.xe s := by
        intro l hl hc'
        obtain ⟨p, vs, rfl, h1, h2⟩ := lstV_ok S ra hl
        cases e : atI l i with
        | none => rw [e] at hc'; cases hc'
        | some d =>
          rw [e] at hc'
          cases hc'
          obtain ⟨w, hw, rw'⟩ := atI_rds h2 e
          exact ix_list value slice pins s σ H _ _ v u Q I rx ry ⟨p, vs, i, w, rfl, rfl, h1, hw, fin_v S q hc rw'⟩ hs
      cases a with
      | t l => exact lists l rfl hc
      | v d =>
        cases d with
        | tup l =>
          obtain ⟨p, vs, rfl, h1, h2⟩ := ra
          cases e : atI l i with
          | none => simp [dIx, e] at hc
          | some d =>
            obtain ⟨w, hw, rw'⟩ := atI_rds h2 e
            exact ix_tup value slice pins s σ H _ _ v u Q I rx ry ⟨p, vs, i, w, rfl, rfl, h1, hw, fin_v S q (by simp [dIx, e]) rw'⟩ hs
        | str z =>
          cases ra
          simp only [dIx] at hc
          split at hc
          · rename_i hz
            cases e : atI z i with
            | none => rw [e] at hc; cases hc
            | some ch => exact ix_str value slice pins s σ H _ _ v u Q I rx ry ⟨_, i, ch, rfl, rfl, by rw [strlen, sLine_eq]; exact hz, by simpa using e, fin_v (d := .str [ch]) S q (by simp [dIx, e, hz]) rfl⟩ hs
          · cases hc
        | ref n =>
          have hc2 := hc
          simp only [dIx] at hc2
          cases e : lstV st (.v (.ref n)) with
          | none => rw [e] at hc2; exact dict hc2
          | some l => rw [e] at hc2; exact lists l e hc2
        | rol l => exact lists l rfl hc
        | _ => simp [dIx, lstV, lstM, ixK] at hc
    | _ => exact dict (by simpa only [dIx] using hc)
theorem de_ix (hu : X.A.units + 1 < cLine) (ha : PE X a (tF X.K cl W fa)) (hb : PE X b (tF X.K cl W fb)) (hs : PlainIx b) : PE X (.Subscript a b pos) (tF X.K cl W (e2 dIx fa fb)) := PEw (pe_ix (ixd hu) ha hb hs) w_op2
end

def sPart : Option (SEnv → Store → R RV) → SEnv → Store → R (Option Int)
  | none => fun _ st => .ok none st
  | some f => fun env st => (f env st).bind fun a st1 => match a with
    | .v (.int i) => .ok (some i) st1
    | _ => .bad
def relO : Rel (Option Int) (Option Int) := fun _ _ _ a b => a = b
def cut {α : Type} (l : List α) (lo hi : Option Int) : List α := (l.drop (HT.sIx l.length 0 lo)).take (HT.sIx l.length l.length hi - HT.sIx l.length 0 lo)
def dSl (a : RV) (lo hi : Option Int) (st : Store) : Option RV := match a with
  | .v (.tup l) => some (.v (.tup (cut l lo hi)))
  | .v (.str s) => if s.length ≤ sLine then some (.v (.str (cut s lo hi))) else none
  | a => match lstV st a with
    | some l => some (.t (cut l lo hi))
    | none => none
def eSl (fa : SEnv → Store → R RV) (lo hi : Option (SEnv → Store → R RV)) : SEnv → Store → R RV := fun env st =>
  (fa env st).bind fun a st1 => (sPart lo env st1).bind fun l st2 => (sPart hi env st2).bind fun u st3 => lift (dSl a l u st3) st3
theorem RDs.cut {K : PySem.W.Frag} {ρ : List Addr} {H : Hp} {l : List D} {vs : List V} {lo hi : Option Int} (r : RDs K ρ H l vs) : RDs K ρ H (cut l lo hi) (cutV vs lo hi) := by
  unfold Ev.cut cutV
  rw [r.length]
  exact RDs.take _ (RDs.drop _ r)
theorem cut_whole {α : Type} {l : List α} {lo hi : Option Int} (h : HT.sIx l.length 0 lo = 0 ∧ HT.sIx l.length l.length hi = l.length) : cut l lo hi = l := by
  unfold cut
  rw [h.1, h.2]
  simp
section
variable {X : Cx} {cl : CT} {W : WX} {a : Expr} {fa : SEnv → Store → R RV} {pos p2 : Pos}
theorem dpo_none : PO X none (tG X.K cl W relO (sPart none)) := ⟨fun pins s σ H Q I ⟨ρ, env, st, S, E, P⟩ => (po_none (X := X)).run pins s σ H Q I (P ρ H none (Ext.refl _ _) S rfl)⟩
theorem dpo_some {e : Expr} {f : SEnv → Store → R RV} (h : PE X e (tF X.K cl W f)) : PO X (some e) (tG X.K cl W relO (sPart (some f))) := by
  refine ⟨fun pins s σ H Q I ⟨ρ, env, st, S, E, P⟩ => (po_some h).run pins s σ H Q I ⟨ρ, env, st, S, E, (Post.bind0 P).mono ?_⟩⟩
  rintro x H1 ⟨ρ1, st1, a, x1, S1, r1, P1⟩
  split at P1
  · cases r1
    exact ⟨_, rfl, P1 ρ1 H1 _ x1 S1 rfl⟩
  · exact P1.elim
def rPS (K : PySem.W.Frag) (cl : CT) : V → Option Int → Option Int → Hp → VK → Prop := fun x lo hi H Q =>
  ∃ ρ st a H0, RS K ρ H cl st ∧ RRV K ρ H H0 a x ∧ Prim K cl st ρ H (dSl a lo hi st) Q
theorem sld : SlR X (rPS X.K cl) := by
  rintro pins s σ H x v vl vu lo hi sl Q I rx hs pl pu ⟨ρ, st, a, H0, S, ra, q⟩
  have hq : ∃ c, dSl a lo hi st = some c := ⟨_, q.choose_spec.1⟩
  obtain ⟨c, hc⟩ := hq
  have lists : ∀ l, lstV st a = some l → dSl a lo hi st = some (.t (cut l lo hi)) → ∃ T id, typeLookup (.type T) "__getitem__" = pure (some (.builtin id)) ∧ s.TypeIs v T ∧ wpAny (model X.prog X.w) X.A (getItem v (.ref sl)) (EP X pins σ Q) X.xe s := by
    intro l hl e
    obtain ⟨p, vs, rfl, h1, h2⟩ := lstV_ok S ra hl
    exact sl_list pins s σ H _ v vl vu lo hi sl Q I rx hs pl pu ⟨p, vs, rfl, h1, fun n hn => fin_lst S q e h2.cut hn⟩
  cases a with
  | t l => exact lists l rfl rfl
  | v d =>
    cases d with
    | tup l =>
      obtain ⟨p, vs, rfl, h1, h2⟩ := ra
      refine sl_tupA pins s σ H _ v vl vu lo hi sl Q I rx hs pl pu ⟨p, vs, rfl, h1, fun hw => ?_, fun hw n hn => fin_tup S q rfl h2.cut hn⟩
      refine fin_v S q rfl ⟨p, vs, rfl, h1, ?_⟩
      rw [cut_whole (by rw [h2.length]; exact hw)]
      exact h2
    | str z =>
      cases ra
      simp only [dSl] at hc
      split at hc
      · rename_i hz
        refine sl_str pins s σ H _ v vl vu lo hi sl Q I rx hs pl pu ⟨_, rfl, by rw [strlen, sLine_eq]; exact hz, fin_v (d := .str (cut z lo hi)) S q (by simp [dSl, hz]) ?_⟩
        unfold cutS Ev.cut
        rw [strlen]
        rfl
      · cases hc
    | ref n =>
      have hc2 := hc
      simp only [dSl] at hc2
      cases e : lstV st (.v (.ref n)) with
      | none => rw [e] at hc2; cases hc2
      | some l => exact lists l e (by simp [dSl, e])
    | rol l => exact lists l rfl rfl
    | _ => simp [dSl, lstV, lstM] at hc
theorem de_sl {lo hi : Option Expr} {flo fhi : Option (SEnv → Store → R RV)} (ha : PE X a (tF X.K cl W fa)) (hl : PO X lo (tG X.K cl W relO (sPart flo))) (hh : PO X hi (tG X.K cl W relO (sPart fhi))) :
    PE X (.Subscript a (.Slice lo hi none p2) pos) (tF X.K cl W (eSl fa flo fhi)) := by
  refine PEw (pe_slice (sld (cl := cl)) ha hl hh) fun σ H Q ⟨ρ, env, st, S, E, P⟩ => ?_
  refine ⟨ρ, env, st, S, E, (Post.bind backV P).mono ?_⟩
  rintro x H1 ⟨ρ1, st1, a, x1, S1, r1, P1⟩
  have E1 := E.mono (x1.mono S)
  refine ⟨ρ1, env, st1, S1, E1, (Post.bind (relα := relO) backV P1).mono ?_⟩
  rintro l H2 ⟨ρ2, st2, l', x2, S2, rfl, P2⟩
  refine ⟨ρ2, env, st2, S2, E1.mono (x2.mono S1), (Post.bind (relα := relO) backV P2).mono ?_⟩
  rintro u H3 ⟨ρ3, st3, u', x3, S3, rfl, P3⟩
  exact ⟨ρ3, st3, a, H, S3, RRV.ext S2 x3 (RRV.ext S1 x2 r1), P3.prim⟩
end

def dTru (a : RV) (st : Store) : Option Bool := match a with
  | .v .non => some false
  | .v (.bl b) => some b
  | .v (.int i) => some (i != 0)
  | .v (.str s) => if s.length ≤ sLine then some (!s.isEmpty) else none
  | .v (.tup l) => some (!l.isEmpty)
  | a => match lstV st a with
    | some l => some (!l.isEmpty)
    | none => none
def eTru (fa : SEnv → Store → R RV) : SEnv → Store → R Bool := fun env st => (fa env st).bind fun a st1 => match dTru a st1 with
  | some b => .ok b st1
  | none => .bad
theorem empty_rds {K : PySem.W.Frag} {ρ : List Addr} {H : Hp} {l : List D} {vs : List V} (r : RDs K ρ H l vs) : (!l.isEmpty) = !vs.isEmpty := by
  have := r.length
  cases l <;> cases vs <;> simp_all
section
variable {X : Cx} {cl : CT} {W : WX} {a : Expr} {fa : SEnv → Store → R RV}
theorem tru_d {K : PySem.W.Frag} {ρ : List Addr} {H H0 : Hp} {st : Store} {a : RV} {x : V} {b : Bool} (S : RS K ρ H cl st) (r : RRV K ρ H H0 a x) (h : dTru a st = some b) : TruV K x H b := by
  have lists : ∀ l, lstV st a = some l → b = (!l.isEmpty) → TruV K x H b := by
    intro l hl e
    obtain ⟨p, vs, rfl, h1, h2⟩ := lstV_ok S r hl
    exact .inl ⟨vs, h1, by rw [e, empty_rds h2]⟩
  cases a with
  | t l => exact lists l rfl (Option.some.inj h).symm
  | v d =>
    cases d with
    | non => cases r; exact (Option.some.inj h).symm
    | bl _ => cases r; exact (Option.some.inj h).symm
    | int _ => cases r; exact (Option.some.inj h).symm
    | str z =>
      cases r
      simp only [dTru] at h
      split at h
      · rename_i hz
        cases h
        refine ⟨by rw [strlen, sLine_eq]; exact hz, ?_⟩
        rw [strlen]
        cases z <;> simp
        omega
      · cases h
    | tup l =>
      obtain ⟨p, vs, rfl, h1, h2⟩ := r
      exact .inr (.inl ⟨vs, h1, by rw [← empty_rds h2]; exact (Option.some.inj h).symm⟩)
    | rol l => exact lists l rfl (Option.some.inj h).symm
    | ref n =>
      simp only [dTru] at h
      cases e : lstV st (.v (.ref n)) with
      | none => rw [e] at h; cases h
      | some l => rw [e] at h; exact lists l e (Option.some.inj h).symm
theorem dt_truth (ha : PE X a (tF X.K cl W fa)) (he : ∀ whole, isTrue a X.env whole = (do let v ← whole; standAt a.pos; holding [v] (truthy v))) : PT X a (tB1 X.K cl W (eTru fa)) := by
  refine PTw (pt_truth ha he) fun σ H Q ⟨ρ, env, st, S, E, P⟩ => ?_
  refine ⟨ρ, env, st, S, E, (Post.bind backB P).mono ?_⟩
  rintro x H1 ⟨ρ1, st1, a, x1, S1, r1, P1⟩
  cases e : dTru a st1 with
  | none => rw [e] at P1; exact P1.elim
  | some b =>
    rw [e] at P1
    exact ⟨b, tru_d S1 r1 e, P1 ρ1 H1 b (Ext.refl _ _) S1 rfl⟩
def eBool (fa : SEnv → Store → R RV) : SEnv → Store → R Bool := fun env st => (fa env st).bind fun a st1 => match a with
  | .v (.bl b) => .ok b st1
  | _ => .bad
theorem w_bool {K : PySem.W.Frag} {t : TE} (ht : ∀ σ H Q, tF K cl W fa σ H Q → t σ H Q) (σ : L2.St) (H : Hp) (Q : Bool → Hp → Prop) (h : tB1 K cl W (eBool fa) σ H Q) : tTest t σ H Q := by
  obtain ⟨ρ, env, st, S, E, P⟩ := h
  refine ht σ H _ ⟨ρ, env, st, S, E, (Post.bind backB P).mono ?_⟩
  rintro x H1 ⟨ρ1, st1, a, x1, S1, r1, P1⟩
  split at P1
  · cases r1
    exact ⟨_, rfl, P1 ρ1 H1 _ (Ext.refl _ _) S1 rfl⟩
  · exact P1.elim
theorem dt_cmp {op : CmpOp} {b : Expr} {fb : SEnv → Store → R RV} {g : RV → RV → Store → Option RV} {pos : Pos} (ho : OpR X (compareOp op) (rP2 X.K cl g)) (ha : PE X a (tF X.K cl W fa)) (hb : PE X b (tF X.K cl W fb)) (hm : behindInMarks op b = false) : PT X (.Compare a [op] [b] pos) (tB1 X.K cl W (eBool (e2 g fa fb))) :=
  PTw (pt_cmpR ho ha hb hm) (w_bool w_op2)
variable {b : Expr} {rest : List Expr} {ga gb : SEnv → Store → R Bool} {pos : Pos}
def tNotB (ga : SEnv → Store → R Bool) : SEnv → Store → R Bool := fun env st => (ga env st).bind fun c st1 => .ok (!c) st1
def tAndB (ga gb : SEnv → Store → R Bool) : SEnv → Store → R Bool := fun env st => (ga env st).bind fun c st1 => if c = true then gb env st1 else .ok false st1
def tOrB (ga gb : SEnv → Store → R Bool) : SEnv → Store → R Bool := fun env st => (ga env st).bind fun c st1 => if c = true then .ok true st1 else gb env st1
theorem dt_not (ha : PT X a (tB1 X.K cl W ga)) : PT X (.UnaryOp .Not a pos) (tB1 X.K cl W (tNotB ga)) := by
  refine PTw (pt_not ha) fun σ H Q ⟨ρ, env, st, S, E, P⟩ => ?_
  refine ⟨ρ, env, st, S, E, (Post.bind backB P).mono ?_⟩
  rintro x H1 ⟨ρ1, st1, a, x1, S1, rfl, P1⟩
  exact P1 ρ1 H1 _ (Ext.refl _ _) S1 rfl
theorem dw_and (ha : PT X a (tB1 X.K cl W ga)) (hb : PW X (.BoolOp .And (b :: rest) pos) (tB1 X.K cl W gb)) : PW X (.BoolOp .And (a :: b :: rest) pos) (tB1 X.K cl W (tAndB ga gb)) := by
  refine PWw (pw_and ha hb) fun σ H Q ⟨ρ, env, st, S, E, P⟩ => ?_
  refine ⟨ρ, env, st, S, E, (Post.bind backB P).mono ?_⟩
  rintro x H1 ⟨ρ1, st1, a, x1, S1, rfl, P1⟩
  split at P1
  · rename_i h
    subst h
    exact iteT ⟨ρ1, env, st1, S1, E.mono (x1.mono S), P1⟩
  · rename_i h
    have h : a = false := by simpa using h
    subst h
    exact iteF (P1 ρ1 H1 _ (Ext.refl _ _) S1 rfl)
theorem dw_or (ha : PT X a (tB1 X.K cl W ga)) (hb : PW X (.BoolOp .Or (b :: rest) pos) (tB1 X.K cl W gb)) : PW X (.BoolOp .Or (a :: b :: rest) pos) (tB1 X.K cl W (tOrB ga gb)) := by
  refine PWw (pw_or ha hb) fun σ H Q ⟨ρ, env, st, S, E, P⟩ => ?_
  refine ⟨ρ, env, st, S, E, (Post.bind backB P).mono ?_⟩
  rintro x H1 ⟨ρ1, st1, a, x1, S1, rfl, P1⟩
  split at P1
  · rename_i h
    subst h
    exact iteT (P1 ρ1 H1 _ (Ext.refl _ _) S1 rfl)
  · rename_i h
    have h : a = false := by simpa using h
    subst h
    exact iteF ⟨ρ1, env, st1, S1, E.mono (x1.mono S), P1⟩
def eAnd (fa fb : SEnv → Store → R RV) : SEnv → Store → R RV := fun env st => (fa env st).bind fun a st1 => match a with
  | .v (.bl c) => if c = true then fb env st1 else .ok (.v (.bl false)) st1
  | _ => .bad
def eOr (fa fb : SEnv → Store → R RV) : SEnv → Store → R RV := fun env st => (fa env st).bind fun a st1 => match a with
  | .v (.bl c) => if c = true then .ok (.v (.bl true)) st1 else fb env st1
  | _ => .bad
def eNot (fa : SEnv → Store → R RV) : SEnv → Store → R RV := fun env st => (fa env st).bind fun a st1 => match a with
  | .v (.bl c) => .ok (.v (.bl (!c))) st1
  | _ => .bad
def eIf (g : SEnv → Store → R Bool) (fa fb : SEnv → Store → R RV) : SEnv → Store → R RV := fun env st => (g env st).bind fun c st1 => if c = true then fa env st1 else fb env st1
variable {fb : SEnv → Store → R RV} {c : Expr}
theorem de_and (ha : PE X a (tF X.K cl W fa)) (hb : PE X (.BoolOp .And (b :: rest) pos) (tF X.K cl W fb)) : PE X (.BoolOp .And (a :: b :: rest) pos) (tF X.K cl W (eAnd fa fb)) := by
  refine PEw (pe_and ha hb) fun σ H Q ⟨ρ, env, st, S, E, P⟩ => ?_
  refine ⟨ρ, env, st, S, E, (Post.bind backV P).mono ?_⟩
  rintro x H1 ⟨ρ1, st1, a, x1, S1, r1, P1⟩
  split at P1
  · rename_i k
    cases r1
    refine ⟨k, rfl, ?_⟩
    cases k with
    | true => exact iteT ⟨ρ1, env, st1, S1, E.mono (x1.mono S), by simpa using P1⟩
    | false => exact iteF (P1 ρ1 H1 _ (Ext.refl _ _) S1 rfl)
  · exact P1.elim
theorem de_or (ha : PE X a (tF X.K cl W fa)) (hb : PE X (.BoolOp .Or (b :: rest) pos) (tF X.K cl W fb)) : PE X (.BoolOp .Or (a :: b :: rest) pos) (tF X.K cl W (eOr fa fb)) := by
  refine PEw (pe_or ha hb) fun σ H Q ⟨ρ, env, st, S, E, P⟩ => ?_
  refine ⟨ρ, env, st, S, E, (Post.bind backV P).mono ?_⟩
  rintro x H1 ⟨ρ1, st1, a, x1, S1, r1, P1⟩
  split at P1
  · rename_i k
    cases r1
    refine ⟨k, rfl, ?_⟩
    cases k with
    | true => exact iteT (P1 ρ1 H1 _ (Ext.refl _ _) S1 rfl)
    | false => exact iteF ⟨ρ1, env, st1, S1, E.mono (x1.mono S), by simpa using P1⟩
  · exact P1.elim
theorem de_not (ha : PE X a (tF X.K cl W fa)) : PE X (.UnaryOp .Not a pos) (tF X.K cl W (eNot fa)) := by
  refine PEw (pe_not ha) fun σ H Q ⟨ρ, env, st, S, E, P⟩ => ?_
  refine ⟨ρ, env, st, S, E, (Post.bind backV P).mono ?_⟩
  rintro x H1 ⟨ρ1, st1, a, x1, S1, r1, P1⟩
  split at P1
  · cases r1
    exact ⟨_, rfl, P1 ρ1 H1 _ (Ext.refl _ _) S1 rfl⟩
  · exact P1.elim
theorem de_if (hc : PT X c (tB1 X.K cl W ga)) (ha : PE X a (tF X.K cl W fa)) (hb : PE X b (tF X.K cl W fb)) : PE X (.IfExp c a b pos) (tF X.K cl W (eIf ga fa fb)) := by
  refine PEw (pe_ifExp hc ha hb) fun σ H Q ⟨ρ, env, st, S, E, P⟩ => ?_
  refine ⟨ρ, env, st, S, E, (Post.bind backV P).mono ?_⟩
  rintro x H1 ⟨ρ1, st1, a, x1, S1, rfl, P1⟩
  split at P1
  · rename_i h
    subst h
    exact iteT ⟨ρ1, env, st1, S1, E.mono (x1.mono S), P1⟩
  · rename_i h
    have h : a = false := by simpa using h
    subst h
    exact iteF ⟨ρ1, env, st1, S1, E.mono (x1.mono S), P1⟩
end
end Ev

/-! ## Ev4t -/
set_option Elab.async false
set_option linter.all false
set_option maxRecDepth 100000
/-! Ev4t: tuple(text). -/
namespace Ev
open PySem PySem.Spec PyProof.Rows L2
section
variable {prog : Program} {w : World} {A : Around} {E : Value → Shared → Prop} {s : Shared}
theorem code_tuple_str {Q₁ : Value → Shared → Prop} (hh : A.handled = none) (x : Str) (t : Tok) (hn : x.cps.size ≤ sizeLine)
    (h : ∀ (s' : Shared) (acc : Array Value), (∀ b o, s.heap.get? b = some o → s'.heap.get? b = some o) → s'.gens = s.gens → s'.drawn = s.drawn → s'.os = s.os → ItemsOf (SignAt x) acc x.cps.size → Q₁ (.ref s'.heap.objs.size) { s' with heap := s'.heap.push { cls := .type "tuple", data := .seq acc } }) :
    codeAny (model prog w) A (.call (.builtin "tuple.__new__") ⟨[.type "tuple", .str x t], []⟩) (wants Q₁ E) s := by
  refine codeAny_of_tree ?_
  show wpAny _ A.in1 (do checkBuiltinCall "tuple.__new__" ⟨[.type "tuple", .str x t], []⟩; again (.builtin "tuple.__new__" ⟨[.type "tuple", .str x t], []⟩)) _ _ s
  refine wpAny_bind (wpAny_of_eq (F.newCall_tuple_1 _) (wpAny_pure ⟨plainId_quiet F.plain_tuple_new _, codeAny_builtin F.entry_tuple_new ?_⟩))
  rw [Around.under_plainId F.plain_tuple_new _]
  have hsub := sub_tuple_self
  have hinit := init_tuple_lookup
  have hmh := madeHere_tuple
  have hTI : s.TypeIs (.str x t) "str" := rfl
  have hh1 : A.in1.handled = none := hh
  wp_walk using wpAny_typeOf hTI, wpAny_collect_str (A := A.in1) hh1 x t
  intro s' acc hk hg hd ho hacc
  show wpAny _ _ (Builtin.Tuple.tupleExact acc.toList.toArray >>= fun v => ret v) _ _ _
  unfold Builtin.Tuple.tupleExact
  obtain ⟨h', g', d', t', o'⟩ := s'
  refine wpAny_bind (wpAny_newObj_type ?_ (by show acc.toList.toArray.size ≤ sizeLine; simp only [Array.toArray_toList]; rw [hacc.1]; exact hn))
  refine wpAny_pure ?_
  have e : acc.toList.toArray = acc := by simp
  rw [e]
  exact h ⟨h', g', d', t', o'⟩ acc hk hg hd ho hacc
end
theorem vals_signs : ∀ {l : List Nat} {vs : List Value}, vs.length = l.length → (∀ (j : Nat) (v : Value), vs[j]? = some v → ∃ c u, l[j]? = some c ∧ v = .str ⟨#[c]⟩ u) → Vals (l.map fun c => V.str ⟨#[c]⟩) vs
  | [], [], _, _ => .nil
  | [], _ :: _, h, _ => by cases h
  | _ :: _, [], h, _ => by cases h
  | c :: l, v :: vs, h, hv => by
    obtain ⟨c', u, e1, rfl⟩ := hv 0 v rfl
    cases e1
    exact .cons ⟨u, rfl⟩ (vals_signs (by simpa using h) fun j v hj => hv (j + 1) v hj)
theorem call_tupleS {X : Cx} (hc : X.calm = true) : CallR X (.type "tuple") (fun xs H Q => ∃ x : Str, xs = [.str x] ∧ x.cps.size ≤ sizeLine ∧ ∀ p, H p = none → Q (.ref p) (upd H p (.tup (x.cps.toList.map fun c => .str ⟨#[c]⟩)))) := by
  intro pins s σ H xs us Q I r h
  obtain ⟨x, rfl, hn, q⟩ := h
  obtain ⟨u, rfl, t, rfl⟩ := Vals.one r
  refine callType_codes (Q₁ := fun obj s₁ => s₁.TypeIs obj "tuple" ∧ EP X pins σ Q obj s₁) F.called_tuple (F.typeCall_tuple_1 _) F.entry_object_init
    (code_tuple_str (A := X.A.in1) (I.ok.hd hc) x t hn fun s' acc hk hg hd ho hacc => ⟨⟨_, Heap.get?_push_size _ rfl, rfl⟩, ?_⟩) fun obj s₁ h₁ => ⟨h₁.1, F.args_object_init_2 obj _, object_init_meets F.called_tuple.init.lookup F.called_tuple.made (by decide) X.prog X.w X.A.in1 _ s₁ ⟨h₁.1, rfl, h₁.2⟩⟩
  obtain ⟨h', g', d', t', o'⟩ := s'
  simp only at hg hd ho hk
  subst hg hd ho
  have I1 : Inv X pins σ H { s with heap := h', toks := t' } := I.kept (t' := t') hk
  have rv : Vals (x.cps.toList.map fun c => V.str ⟨#[c]⟩) acc.toList := by
    refine vals_signs (by simp [hacc.1]) fun j v hj => ?_
    obtain ⟨c, u, e1, e2⟩ := hacc.2 j v (by rw [← Array.getElem?_toList]; exact hj)
    exact ⟨c, u, by rw [← e1, Array.getElem?_toList], e2⟩
  have hz : (x.cps.toList.map fun c => V.str ⟨#[c]⟩).length ≤ sizeLine := by simpa using hn
  have I2 : Inv X pins σ (upd H h'.objs.size (.tup (x.cps.toList.map fun c => .str ⟨#[c]⟩))) { s with heap := h'.push { cls := .type "tuple", data := .seq acc.toList.toArray }, toks := t' } :=
    I1.laid (t' := t') (fun b o e => Heap.get?_push_of_some _ e) (Nat.le_refl _) (show ObjOk X.prog X.w _ _ _ (.tup _) from ⟨hz, acc.toList, rv, IsTup.new _ _⟩)
  have e : acc.toList.toArray = acc := by simp
  rw [e] at I2
  exact ⟨.ref h'.objs.size, _, I2, rfl, q _ (I1.hok.fresh (Nat.le_refl _))⟩
end Ev

/-! ## Ev4u -/
set_option Elab.async false
set_option linter.all false
set_option maxRecDepth 100000
/-! Ev4u: tuple(dict): its keys. -/
namespace Ev
open PySem PySem.Spec PyProof.Rows L2
section
variable {prog : Program} {w : World} {A : Around} {E : Value → Shared → Prop} {s : Shared} {T : String} {r d : Addr} {n : Nat} {P : Nat → Value → Prop} {OK : Heap → Prop}
theorem wpAny_collect_kdl {Q : List Value → Shared → Prop} (K : PySem.W.KdlSrc prog w T r d n P OK) (hh : A.handled = none) (hok : OK s.heap) (hn : n ≤ sizeLine)
    (hQ : ∀ h' tk acc, (∀ b o, s.heap.get? b = some o → h'.get? b = some o) → ItemsOf P acc n → Q acc.toList { s with heap := h', toks := tk }) : wpAny (model prog w) A (collect (.ref r)) Q E s := by
  have hlt := K.there _ hok
  obtain ⟨R, hR⟩ : ∃ R : Result → Shared → Prop, R = fun r' s' => ∃ h' tk acc c', r' = .ok (.ret (.ref s.heap.objs.size)) ∧ s' = { s with heap := h', toks := tk } ∧ h'.get? s.heap.objs.size = some { cls := .type "list", dict := none, data := .seq acc c', slots := #[] } ∧
    (∀ b o, s.heap.get? b = some o → h'.get? b = some o) ∧ ItemsOf P acc n := ⟨_, rfl⟩
  have hS : (s.heap.push { cls := .type "list", data := .seq ([] : List Value).toArray }).get? s.heap.objs.size = some { cls := .type "list", data := .seq ([] : List Value).toArray } := Heap.get?_push_size _ rfl
  have key : codeAny (model prog w) A (.builtin "proto.collect" ⟨[.ref r], []⟩) R s := by
    refine codeAny_builtin F.entry_proto_collect ?_
    rw [Around.under_plainId F.plain_proto_collect _]
    show wpAny _ A.in1 (newList [] >>= fun l => again (.builtin "list.__iadd__" ⟨[l, .ref r], []⟩)) _ _ s
    refine wpAny_bind (wpAny_newObj_type ?_)
    refine wpAny_pure ⟨plainId_quiet F.plain_list_iadd _, codeAny_builtin F.entry_list_iadd ?_⟩
    rw [Around.under_plainId F.plain_list_iadd _]
    show wpAny _ A.in1 (Builtin.List.listExtendWith (.ref s.heap.objs.size) (.ref r) (.ref s.heap.objs.size)) _ _ _
    refine PySem.W.kdl_extend (R := R) (s := { s with heap := s.heap.push { cls := .type "list", data := .seq ([] : List Value).toArray } }) (A := A) K hh (K.keep _ _ hok fun b _ o e => Heap.get?_push_of_some _ e) _ (Nat.ne_of_gt hlt.1) (Nat.ne_of_gt hlt.2) (.ref s.heap.objs.size) 0 hS (fun h' tk acc' c' hk hS' hacc => ?_) hn
    rw [hR]
    exact ⟨h', tk, acc', c', rfl, rfl, hS', fun b o e => hk b o (Nat.ne_of_lt (Heap.lt_size e)) (Heap.get?_push_of_some _ e), hacc⟩
  unfold collect
  refine wpAny_bind (wpAny_runValue (codeAny_mono key fun r' s' h => ?_))
  rw [hR] at h
  obtain ⟨h', tk, acc, c', rfl, rfl, hS', hk, hacc⟩ := h
  show wpAny _ A (load s.heap.objs.size >>= _) _ _ _
  refine wpAny_bind (wpAny_load hS' ?_)
  exact wpAny_pure (hQ h' tk acc hk hacc)
theorem code_tuple_kdl {Q₁ : Value → Shared → Prop} (K : PySem.W.KdlSrc prog w "dict" r d n P OK) (hh : A.handled = none) (hok : OK s.heap) (hn : n ≤ sizeLine)
    (h : ∀ (h' : Heap) (tk : Nat) (acc : Array Value), (∀ b o, s.heap.get? b = some o → h'.get? b = some o) → ItemsOf P acc n → Q₁ (.ref h'.objs.size) { s with heap := h'.push { cls := .type "tuple", data := .seq acc }, toks := tk }) :
    codeAny (model prog w) A (.call (.builtin "tuple.__new__") ⟨[.type "tuple", .ref r], []⟩) (wants Q₁ E) s := by
  refine codeAny_of_tree ?_
  show wpAny _ A.in1 (do checkBuiltinCall "tuple.__new__" ⟨[.type "tuple", .ref r], []⟩; again (.builtin "tuple.__new__" ⟨[.type "tuple", .ref r], []⟩)) _ _ s
  refine wpAny_bind (wpAny_of_eq (F.newCall_tuple_1 _) (wpAny_pure ⟨plainId_quiet F.plain_tuple_new _, codeAny_builtin F.entry_tuple_new ?_⟩))
  rw [Around.under_plainId F.plain_tuple_new _]
  have hsub := sub_tuple_self
  have hinit := init_tuple_lookup
  have hmh := madeHere_tuple
  have hTI : s.TypeIs (.ref r) "dict" := K.type _ hok
  have hh1 : A.in1.handled = none := hh
  wp_walk using wpAny_typeOf hTI, wpAny_collect_kdl (A := A.in1) K hh1 hok hn
  intro h' tk acc hk hacc
  show wpAny _ _ (Builtin.Tuple.tupleExact acc.toList.toArray >>= fun v => ret v) _ _ _
  unfold Builtin.Tuple.tupleExact
  refine wpAny_bind (wpAny_newObj_type ?_ (by show acc.toList.toArray.size ≤ sizeLine; simp only [Array.toArray_toList]; rw [hacc.1]; exact hn))
  refine wpAny_pure ?_
  have e : acc.toList.toArray = acc := by simp
  rw [e]
  exact h h' tk acc hk hacc
end
theorem call_tupleD {X : Cx} (hcalm : X.calm = true) : CallR X (.type "tuple") (fun xs H Q => ∃ (a : Addr) (kvs : List (Key × V)), xs = [.ref a] ∧ Rd H a (.dK kvs) ∧ ∀ p, H p = none → Q (.ref p) (upd H p (.tup (kvs.map fun kv => kV kv.1)))) := by
  intro pins s σ H xs us Q I r q
  obtain ⟨a, kvs, ex, hd, q⟩ := q
  subst ex
  obtain ⟨u, eu, rx⟩ := vals1 r
  subst eu
  cases rx
  obtain ⟨z, lo, vs, rel, dd⟩ := dk_rd I.hok hd
  obtain ⟨ep, hat⟩ := dd.dictAt
  have ek : (kvs.map fun kv => kV kv.1) = vs.map fun p => kV p.1 := by
    have e := congrArg (List.map kV) rel.keys
    rw [List.map_map, List.map_map] at e
    exact e
  refine callType_codes (Q₁ := fun obj s₁ => s₁.TypeIs obj "tuple" ∧ EP X pins σ Q obj s₁) F.called_tuple (F.typeCall_tuple_1 _) F.entry_object_init
    (code_tuple_kdl (A := X.A.in1) (PySem.W.kdl_dict (knd := mixKind X.prog X.w) (kvs := vs) (ep := ep) lo) (I.ok.hd hcalm) hat (by rw [← rel.length]; exact z) fun h' tk acc hk hacc => ⟨⟨_, Heap.get?_push_size _ rfl, rfl⟩, ?_⟩)
    fun obj s₁ h₁ => ⟨h₁.1, F.args_object_init_2 obj _, object_init_meets F.called_tuple.init.lookup F.called_tuple.made (by decide) X.prog X.w X.A.in1 _ s₁ ⟨h₁.1, rfl, h₁.2⟩⟩
  have hv : Vals (vs.map fun p => kV p.1) acc.toList := keys_at (by rw [Array.length_toList]; exact hacc.1) fun j v e => hacc.2 j v (by rw [← Array.getElem?_toList]; exact e)
  have I1 : Inv X pins σ H { s with heap := h', toks := tk } := I.kept (t' := tk) hk
  have hz : (kvs.map fun kv => kV kv.1).length ≤ sizeLine := by rw [List.length_map]; exact z
  have I2 : Inv X pins σ (upd H h'.objs.size (.tup (kvs.map fun kv => kV kv.1))) { s with heap := h'.push { cls := .type "tuple", data := .seq acc.toList.toArray }, toks := tk } :=
    I1.laid (t' := tk) (fun b o e => Heap.get?_push_of_some _ e) (Nat.le_refl _) (show ObjOk X.prog X.w _ _ _ (.tup _) from ⟨hz, acc.toList, by rw [ek]; exact hv, IsTup.new _ _⟩)
  have e : acc.toList.toArray = acc := by simp
  rw [e] at I2
  exact ⟨.ref h'.objs.size, _, I2, rfl, q _ (I1.hok.fresh (Nat.le_refl _))⟩
end Ev

/-! ## Ev5 -/
set_option Elab.async false
set_option linter.all false
set_option maxRecDepth 100000
/-! Ev5: calls of built-ins. -/
namespace Ev
open PySem PySem.Spec PyProof.Rows L2

def eN (g : List RV → Store → Option RV) (fs : SEnv → Store → R (List RV)) : SEnv → Store → R RV := fun env st => (fs env st).bind fun as st1 => lift (g as st1) st1
def rPN (K : PySem.W.Frag) (cl : CT) (g : List RV → Store → Option RV) : List V → Hp → VK → Prop := fun xs H Q =>
  ∃ ρ st as H0, RS K ρ H cl st ∧ RRVs K ρ H H0 as xs ∧ Prim K cl st ρ H (g as st) Q
section
variable {X : Cx} {cl : CT} {W : WX} {e : Expr} {es : List Expr} {fs : SEnv → Store → R (List RV)} {g : List RV → Store → Option RV} {x : Str} {p pos : Pos} {id T : String}
theorem w_N {K : PySem.W.Frag} (σ : L2.St) (H : Hp) (Q : VK) (h : tF K cl W (eN g fs) σ H Q) : tCB (rPN K cl g) (tG K cl W (relR K) fs) σ H Q := by
  obtain ⟨ρ, env, st, S, E, P⟩ := h
  refine ⟨ρ, env, st, S, E, (Post.bind backV P).mono ?_⟩
  rintro xs H1 ⟨ρ1, st1, as, x1, S1, r1, P1⟩
  exact ⟨ρ1, st1, as, H, S1, r1, P1.prim⟩
theorem de_callB (hc : CallR X (.builtin id) (rPN X.K cl g)) (hg : Gl X x) (hm : X.mg x = none) (hv : bootBuiltins x = some (.builtin id)) (ha : PA X (e :: es) (tG X.K cl W (relR X.K) fs)) (hn : x ≠ "__name__") (hdb : (x == ("__debug__" : Str)) = false)
    (he : starEach (e :: es) X.env = (false, eval e X.env) :: starEach es X.env) (hpl : (backTo pos (starEach es X.env)).any (·.1) = false) : PE X (.Call (.Name x p) (e :: es) [] pos) (tF X.K cl W (eN g fs)) :=
  PEw (pe_callB hc hg hm hv ha hn hdb he hpl) w_N
theorem de_callT (hc : CallR X (.type T) (rPN X.K cl g)) (hg : Gl X x) (hm : X.mg x = none) (hv : bootBuiltins x = some (.type T)) (ha : PA X (e :: es) (tG X.K cl W (relR X.K) fs)) (hn : x ≠ "__name__") (hdb : (x == ("__debug__" : Str)) = false)
    (he : starEach (e :: es) X.env = (false, eval e X.env) :: starEach es X.env) (hpl : (backTo pos (starEach es X.env)).any (·.1) = false) : PE X (.Call (.Name x p) (e :: es) [] pos) (tF X.K cl W (eN g fs)) :=
  PEw (pe_callTy hc hg hm hv ha hn hdb he hpl) w_N
/-- a built-in of one argument, of two -/
theorem cd_1 {f : Value} {g1 : RV → Store → Option RV} (h : ∀ (pins : List (Addr × Obj)) (s : Shared) (σ : L2.St) (H : Hp) (x : V) (u : Value) (Q : VK) (ρ : List Addr) (st : Store) (a : RV) (H0 : Hp), Inv X pins σ H s → RelV x u → RS X.K ρ H cl st → RRV X.K ρ H H0 a x → Prim X.K cl st ρ H (g1 a st) Q →
      wpAny (model X.prog X.w) X.A (call f [u]) (EP X pins σ Q) X.xe s) : CallR X f (rPN X.K cl fun as st => match as with
    | [a] => g1 a st
    | _ => none) := by
  rintro pins s σ H xs us Q I r ⟨ρ, st, as, H0, S, ra, q⟩
  rcases as with _ | ⟨a, _ | ⟨b, l⟩⟩
  · obtain ⟨c, h, _⟩ := q; cases h
  · obtain ⟨v, r', rfl, ra', rn⟩ := ra
    have : r' = [] := rn
    subst this
    obtain ⟨u, rfl, ru⟩ := Vals.one r
    exact h pins s σ H v u Q ρ st a H0 I ru S ra' q
  · obtain ⟨c, h, _⟩ := q; cases h
theorem cd_2 {f : Value} {g2 : RV → RV → Store → Option RV} (h : ∀ (pins : List (Addr × Obj)) (s : Shared) (σ : L2.St) (H : Hp) (x y : V) (u w : Value) (Q : VK) (ρ : List Addr) (st : Store) (a b : RV) (H0 : Hp), Inv X pins σ H s → RelV x u → RelV y w → RS X.K ρ H cl st → RRV X.K ρ H H0 a x → RRV X.K ρ H H0 b y → Prim X.K cl st ρ H (g2 a b st) Q →
      wpAny (model X.prog X.w) X.A (call f [u, w]) (EP X pins σ Q) X.xe s) : CallR X f (rPN X.K cl fun as st => match as with
    | [a, b] => g2 a b st
    | _ => none) := by
  rintro pins s σ H xs us Q I r ⟨ρ, st, as, H0, S, ra, q⟩
  rcases as with _ | ⟨a, _ | ⟨b, _ | ⟨c, l⟩⟩⟩
  · obtain ⟨c, h, _⟩ := q; cases h
  · obtain ⟨c, h, _⟩ := q; cases h
  · obtain ⟨v, r', rfl, ra', w, r2, rfl, rb, rn⟩ := ra
    have : r2 = [] := rn
    subst this
    obtain ⟨u, w', rfl, ru, rw'⟩ := Vals.two r
    exact h pins s σ H v w u w' Q ρ st a b H0 I ru rw' S ra' rb q
  · obtain ⟨c, h, _⟩ := q; cases h
end
def g1 (g : RV → Store → Option RV) : List RV → Store → Option RV := fun as st => match as with
    | [a] => g a st
    | _ => none
def g2 (g : RV → RV → Store → Option RV) : List RV → Store → Option RV := fun as st => match as with
    | [a, b] => g a b st
    | _ => none

/-! ### len abs int max min -/
/-- how many keys a dict has -/
def lenK (a : RV) (st : Store) : Option RV := match a with
  | .v (.ref n) => match kvO st[n]? with
    | some kvs => some (.v (.int ((kvs.length : Nat) : Int)))
    | none => none
  | _ => none
def dLen (a : RV) (st : Store) : Option RV := match a with
  | .v (.str s) => if s.length ≤ sLine then some (.v (.int s.length)) else none
  | .v (.tup l) => some (.v (.int l.length))
  | a => match lstV st a with
    | some l => some (.v (.int l.length))
    | none => lenK a st
def dAbs (a : RV) (_ : Store) : Option RV := match a with
  | .v (.int i) => some (.v (.int (if i < 0 then -i else i)))
  | _ => none
def dInt (a : RV) (_ : Store) : Option RV := match a with
  | .v (.int i) => some (.v (.int i))
  | .v (.bl b) => some (.v (.int (if b then 1 else 0)))
  | _ => none
def dMax2 (a b : RV) (_ : Store) : Option RV := match a, b with
  | .v (.int i), .v (.int j) => some (.v (.int (if j > i then j else i)))
  | _, _ => none
def dMin2 (a b : RV) (_ : Store) : Option RV := match a, b with
  | .v (.int i), .v (.int j) => some (.v (.int (if j < i then j else i)))
  | _, _ => none
/-- a dict's keys -/
def keysV (st : Store) (a : RV) : Option (List D) := match a with
  | .v (.ref n) => match st[n]? with
    | some (.dict false kvs) => some (kvs.map (·.1))
    | _ => none
  | _ => none
theorem rkv_keys {K : PySem.W.Frag} {ρ : List Addr} {H : Hp} : ∀ {kvs : List (D × D)} {vs : List (Key × V)}, RKV K ρ H kvs vs → RDs K ρ H (kvs.map (·.1)) (vs.map fun kv => kV kv.1)
  | [], _, h => by cases h; rfl
  | (k, d) :: r, _, h => by
    obtain ⟨k', v, r', rfl, h1, h2, h3⟩ := h
    refine ⟨kV k', _, rfl, ?_, rkv_keys h3⟩
    cases h1 <;> rfl
def dTuple (a : RV) (st : Store) : Option RV := match a with
  | .v (.tup l) => some (.v (.tup l))
  | .v (.str s) => if s.length ≤ sLine then some (.v (.tup (s.map fun c => .str [c]))) else none
  | a => match lstV st a with
    | some l => some (.v (.tup l))
    | none => (keysV st a).map fun l => .v (.tup l)
def dList (a : RV) (st : Store) : Option RV := match a with
  | .v (.tup l) => some (.t l)
  | a => match lstV st a with
    | some l => some (.t l)
    | none => none
def dRepr (a : RV) (st : Store) : Option RV := match dat st a with
  | some p => if p.showable = true ∧ p.hasDict = false ∧ p.depth ≤ 64 ∧ p.shown.length ≤ sLine then some (.v (.str p.shown.cps.toList)) else none
  | none => none
section
variable {X : Cx} {cl : CT}
theorem cd_len : CallR X (.builtin "len") (rPN X.K cl (g1 dLen)) := cd_1 (g1 := dLen) fun pins s σ H x u Q ρ st a H0 I ru S ra q => by
  obtain ⟨c, hc⟩ : ∃ c, dLen a st = some c := ⟨_, q.choose_spec.1⟩
  have lists : ∀ l, lstV st a = some l → dLen a st = some (.v (.int l.length)) → wpAny (model X.prog X.w) X.A (call (.builtin "len") [u]) (EP X pins σ Q) X.xe s := by
    intro l hl e
    obtain ⟨p, vs, rfl, h1, h2⟩ := lstV_ok S ra hl
    exact call_len_seq pins s σ H [_] [u] Q I (.cons ru .nil) ⟨p, vs, rfl, .inl h1, by rw [← h2.length]; exact fin_v S q e rfl⟩
  cases a with
  | t l => exact lists l rfl rfl
  | v d =>
    cases d with
    | str z =>
      cases ra
      simp only [dLen] at hc
      split at hc
      · rename_i hz
        exact call_len_str pins s σ H [_] [u] Q I (.cons ru .nil) ⟨_, rfl, by rw [strlen, sLine_eq]; exact hz, by rw [strlen]; exact fin_v (d := .int z.length) S q (by simp [dLen, hz]) rfl⟩
      · cases hc
    | tup l =>
      obtain ⟨p, vs, rfl, h1, h2⟩ := ra
      exact call_len_seq pins s σ H [_] [u] Q I (.cons ru .nil) ⟨p, vs, rfl, .inr h1, by rw [← h2.length]; exact fin_v S q rfl rfl⟩
    | ref n =>
      have hc2 := hc
      simp only [dLen] at hc2
      cases e : lstV st (.v (.ref n)) with
      | none =>
        rw [e] at hc2
        simp only [lenK] at hc2
        split at hc2
        · rename_i kvs ek
          obtain ⟨p, rfl, hp⟩ := ra
          obtain ⟨vs, h1, h2⟩ := kvO_ok S hp ek
          obtain rfl : u = Value.ref p := ru
          refine d_len I h1 fun t s' I' => ⟨.int ((vs.length : Nat) : Int), _, I', ⟨_, rfl⟩, ?_⟩
          rw [h2.len]
          exact fin_v (d := .int ((kvs.length : Nat) : Int)) S q (by simp only [dLen, e, lenK, ek]) rfl
        · cases hc2
      | some l => exact lists l e (by simp [dLen, e])
    | rol l => exact lists l rfl rfl
    | _ => simp [dLen, lstV, lstM, lenK] at hc
theorem cd_abs : CallR X (.builtin "abs") (rPN X.K cl (g1 dAbs)) := cd_1 (g1 := dAbs) fun pins s σ H x u Q ρ st a H0 I ru S ra q => by
  obtain ⟨c, hc, q⟩ := q
  unfold dAbs at hc
  split at hc
  · cases hc; cases ra
    exact call_abs pins s σ H [_] [u] Q I (.cons ru .nil) ⟨_, rfl, q ρ H _ (Ext.refl _ _) S rfl⟩
  · cases hc
theorem cd_int : CallR X (.type "int") (rPN X.K cl (g1 dInt)) := cd_1 (g1 := dInt) fun pins s σ H x u Q ρ st a H0 I ru S ra q => by
  obtain ⟨c, hc, q⟩ := q
  unfold dInt at hc
  split at hc
  · cases hc; cases ra
    exact call_int1 pins s σ H [_] [u] Q I (.cons ru .nil) (.inl ⟨_, rfl, q ρ H _ (Ext.refl _ _) S rfl⟩)
  · cases hc; cases ra
    exact call_int1 pins s σ H [_] [u] Q I (.cons ru .nil) (.inr ⟨_, rfl, q ρ H _ (Ext.refl _ _) S rfl⟩)
  · cases hc
theorem cd_max2 (hc : X.calm = true) : CallR X (.builtin "max") (rPN X.K cl (g2 dMax2)) := cd_2 (g2 := dMax2) fun pins s σ H x y u w Q ρ st a b H0 I ru rw' S ra rb q => by
  obtain ⟨c, h, q⟩ := q
  unfold dMax2 at h
  split at h
  · cases h; cases ra; cases rb
    exact call_max2 hc pins s σ H [_, _] [u, w] Q I (.cons ru (.cons rw' .nil)) ⟨_, _, rfl, q ρ H _ (Ext.refl _ _) S rfl⟩
  · cases h
theorem cd_min2 (hc : X.calm = true) : CallR X (.builtin "min") (rPN X.K cl (g2 dMin2)) := cd_2 (g2 := dMin2) fun pins s σ H x y u w Q ρ st a b H0 I ru rw' S ra rb q => by
  obtain ⟨c, h, q⟩ := q
  unfold dMin2 at h
  split at h
  · cases h; cases ra; cases rb
    exact call_min2 hc pins s σ H [_, _] [u, w] Q I (.cons ru (.cons rw' .nil)) ⟨_, _, rfl, q ρ H _ (Ext.refl _ _) S rfl⟩
  · cases h
theorem rds_signs {K : PySem.W.Frag} {ρ : List Addr} {H : Hp} : ∀ s : List Nat, RDs K ρ H (s.map fun c => .str [c]) (s.map fun c => V.str ⟨#[c]⟩)
  | [] => rfl
  | c :: s => ⟨_, _, rfl, rfl, rds_signs s⟩
theorem cd_tuple (hc' : X.calm = true) : CallR X (.type "tuple") (rPN X.K cl (g1 dTuple)) := cd_1 (g1 := dTuple) fun pins s σ H x u Q ρ st a H0 I ru S ra q => by
  obtain ⟨c, hc⟩ : ∃ c, dTuple a st = some c := ⟨_, q.choose_spec.1⟩
  have lists : ∀ l, lstV st a = some l → dTuple a st = some (.v (.tup l)) → wpAny (model X.prog X.w) X.A (call (.type "tuple") [u]) (EP X pins σ Q) X.xe s := by
    intro l hl e
    obtain ⟨p, vs, rfl, h1, h2⟩ := lstV_ok S ra hl
    exact call_tuple_of pins s σ H [_] [u] Q I (.cons ru .nil) ⟨p, vs, rfl, .inl ⟨h1, fun n hn => fin_tup S q e h2 hn⟩⟩
  cases a with
  | t l => exact lists l rfl rfl
  | v d =>
    cases d with
    | tup l =>
      obtain ⟨p, vs, rfl, h1, h2⟩ := ra
      exact call_tuple_of pins s σ H [_] [u] Q I (.cons ru .nil) ⟨p, vs, rfl, .inr ⟨h1, fin_v S q rfl ⟨p, vs, rfl, h1, h2⟩⟩⟩
    | ref n =>
      have hc2 := hc
      simp only [dTuple] at hc2
      cases e : lstV st (.v (.ref n)) with
      | none =>
        rw [e] at hc2
        cases e3 : keysV st (.v (.ref n)) with
        | none => rw [e3] at hc2; cases hc2
        | some l =>
          have hd : dTuple (.v (.ref n)) st = some (.v (.tup l)) := by simp [dTuple, e, e3]
          have e4 := e3
          unfold keysV at e4
          simp only at e4
          split at e4
          · rename_i kvs e5
            cases e4
            obtain ⟨p, rfl, hp⟩ := ra
            rcases S.at_ _ _ _ e5 hp with ⟨_, vs, g1, g2⟩ | ⟨z, _⟩
            · exact call_tupleD hc' pins s σ H [_] [u] Q I (.cons ru .nil) ⟨p, vs, rfl, .inl g1, fun m hm => fin_tup S q hd (rkv_keys g2) hm⟩
            · cases z
          · cases e4
      | some l => exact lists l e (by simp [dTuple, e])
    | rol l => exact lists l rfl rfl
    | str z =>
      cases ra
      have hc2 := hc
      simp only [dTuple] at hc2
      split at hc2
      · rename_i hz
        refine call_tupleS hc' pins s σ H [_] [u] Q I (.cons ru .nil) ⟨_, rfl, by rw [sLine_eq]; simpa using hz, fun n hn => ?_⟩
        exact fin_tup S q (l := z.map fun c => .str [c]) (by simp [dTuple, hz]) (rds_signs z) hn
      · cases hc2
    | _ => simp [dTuple, lstV, lstM, keysV] at hc
theorem cd_list : CallR X (.type "list") (rPN X.K cl (g1 dList)) := cd_1 (g1 := dList) fun pins s σ H x u Q ρ st a H0 I ru S ra q => by
  obtain ⟨c, hc⟩ : ∃ c, dList a st = some c := ⟨_, q.choose_spec.1⟩
  have lists : ∀ l, lstV st a = some l → dList a st = some (.t l) → wpAny (model X.prog X.w) X.A (call (.type "list") [u]) (EP X pins σ Q) X.xe s := by
    intro l hl e
    obtain ⟨p, vs, rfl, h1, h2⟩ := lstV_ok S ra hl
    exact call_list_of pins s σ H [_] [u] Q I (.cons ru .nil) ⟨p, vs, rfl, .inl h1, fun n hn => fin_lst S q e h2 hn⟩
  cases a with
  | t l => exact lists l rfl rfl
  | v d =>
    cases d with
    | tup l =>
      obtain ⟨p, vs, rfl, h1, h2⟩ := ra
      exact call_list_of pins s σ H [_] [u] Q I (.cons ru .nil) ⟨p, vs, rfl, .inr h1, fun n hn => fin_lst S q rfl h2 hn⟩
    | ref n =>
      have hc2 := hc
      simp only [dList] at hc2
      cases e : lstV st (.v (.ref n)) with
      | none => rw [e] at hc2; cases hc2
      | some l => exact lists l e (by simp [dList, e])
    | rol l => exact lists l rfl rfl
    | _ => simp [dList, lstV, lstM] at hc
theorem str_eta (x : Str) : (⟨x.cps.toList.toArray⟩ : Str) = x := by
  cases x; simp
theorem cd_repr (hg : X.A.guards = some []) (hu : X.A.units + 66 < cLine) : CallR X (.builtin "repr") (rPN X.K cl (g1 dRepr)) := cd_1 (g1 := dRepr) fun pins s σ H x u Q ρ st a H0 I ru S ra q => by
  obtain ⟨c, hc⟩ : ∃ c, dRepr a st = some c := ⟨_, q.choose_spec.1⟩
  cases e : dat st a with
  | none => simp [dRepr, e] at hc
  | some p =>
    simp only [dRepr, e] at hc
    split at hc
    · rename_i hz
      obtain ⟨h1, h2, h3, h4⟩ := hz
      have h4' : p.shown.length ≤ sizeLine := by rw [sLine_eq]; exact h4
      have dp := dat_ok S ra e
      have fin : Q (.str p.shown) H := fin_v (d := .str p.shown.cps.toList) S q (by simp only [dRepr, e]; rw [if_pos ⟨h1, h2, h3, h4⟩]) (by
        show V.str p.shown = V.str ⟨p.shown.cps.toList.toArray⟩
        rw [str_eta])
      obtain ⟨as, rd⟩ := Dp.reads I p x u dp ru
      cases dp with
      | non =>
        cases ru
        have fin' : Q (.str "None") H := by simpa only [PyData.shown] using fin
        exact PySem.P.repr_of_none ⟨.str "None", H, I.tok _, ⟨_, rfl⟩, fin'⟩
      | bl b =>
        cases ru
        have fin' : Q (.str (if b then "True" else "False")) H := by simpa only [PyData.shown] using fin
        exact PySem.P.repr_of_bool ⟨.str _, H, I.tok _, ⟨_, rfl⟩, fin'⟩
      | int i =>
        obtain ⟨t, rfl⟩ := ru
        have fin' : Q (.str (toString i)) H := by simpa only [PyData.shown] using fin
        exact PySem.P.repr_of_int (by simpa [PyData.showable] using h1) ⟨.str _, H, I.tok _, ⟨_, rfl⟩, fin'⟩
      | str z =>
        obtain ⟨t, rfl⟩ := ru
        have fin' : Q (.str (reprText z)) H := by simpa only [PyData.shown] using fin
        exact PySem.P.repr_of_str ⟨.str _, H, I.tok _, ⟨_, rfl⟩, fin'⟩ (by simpa only [PyData.shown] using h4')
      | lst _ _ =>
        cases ru
        exact repr_of_reads' rd h1 (fun z => by rw [h2] at z; cases z) hg (by omega) (fun _ _ z => z) (fun h' w tk hk => ⟨.str _, H, I.kept (t' := tk) hk, ⟨_, rfl⟩, fin⟩) h4'
      | tup _ _ =>
        cases ru
        exact repr_of_reads' rd h1 (fun z => by rw [h2] at z; cases z) hg (by omega) (fun _ _ z => z) (fun h' w tk hk => ⟨.str _, H, I.kept (t' := tk) hk, ⟨_, rfl⟩, fin⟩) h4'
    · cases hc
end

/-! ### isinstance of a built-in class -/
def tyName (st : Store) (a : RV) : Option String := match a with
  | .t _ => some "list"
  | .v .non => some "NoneType"
  | .v (.bl _) => some "bool"
  | .v (.int _) => some "int"
  | .v (.str _) => some "str"
  | .v (.tup _) => some "tuple"
  | .v (.rol _) => some "list"
  | .v (.ref n) => match st[n]? with
    | some (.lst _) => some "list"
    | some (.dict _ _) => some "dict"
    | _ => none
def isiB (t T : String) : Bool := t == T || (t == "bool" && T == "int")
def dIsi (T : String) (a : RV) (st : Store) : Option RV := (tyName st a).map fun t => .v (.bl (isiB t T))
section
variable {X : Cx} {cl : CT} {W : WX} {e : Expr} {fa : SEnv → Store → R RV} {x : Str} {p pos p2 : Pos} {T : String} {y : Str}
theorem ty_ok {K : PySem.W.Frag} {ρ : List Addr} {H H0 : Hp} {st : Store} {a : RV} {x : V} {t : String} (S : RS K ρ H cl st) (r : RRV K ρ H H0 a x) (h : tyName st a = some t) : TyX K H x (.type t) := by
  unfold tyName at h
  split at h
  · cases h; obtain ⟨p, vs, rfl, h1, _⟩ := r; exact .base (.lst h1)
  · cases h; cases r; exact .base .non
  · cases h; cases r; exact .base (.bl _)
  · cases h; cases r; exact .base (.int _)
  · cases h; cases r; exact .base (.str _)
  · cases h
    obtain ⟨p, vs, rfl, h1, _⟩ := r
    rcases h1 with (h1 | ⟨o, h1⟩) | ⟨o, its, n, h1, h2, _⟩
    · exact .base (.tup h1)
    · exact .fTuple h1
    · exact .kTuple h1 h2
  · cases h
    obtain ⟨p, vs, rfl, h1, _⟩ := r
    rcases h1 with ⟨o, h1⟩ | ⟨o, its, n, h1, h2, _⟩
    · exact .base (.frz h1)
    · exact .kList h1 h2
  · split at h
    · rename_i n l e
      cases h
      obtain ⟨p, rfl, hp⟩ := r
      obtain ⟨vs, h1, _⟩ := S.at_ _ _ _ e hp
      exact .base (.lst h1)
    · rename_i n t l e
      cases h
      obtain ⟨p, rfl, hp⟩ := r
      obtain ⟨_, vs, h1, _⟩ | ⟨_, vs, h1, _⟩ := S.at_ _ _ _ e hp
      · exact .base (.dK h1)
      · exact .base (.dT h1)
    · cases h
def isiKnown (T : String) : Prop := ∀ (K : PySem.W.Frag) (t : String), t ∈ ["list", "NoneType", "bool", "int", "str", "tuple", "dict"] → PySem.W.kitOne K (.type t) (.type T) = some (isiB t T)
theorem ty_in {st : Store} {a : RV} {t : String} (h : tyName st a = some t) : t ∈ ["list", "NoneType", "bool", "int", "str", "tuple", "dict"] := by
  unfold tyName at h
  repeat' split at h
  all_goals first | (cases h; simp) | cases h
theorem isi_int : isiKnown "int" := by
  intro K t ht
  simp only [List.mem_cons, List.not_mem_nil, or_false] at ht
  rcases ht with rfl | rfl | rfl | rfl | rfl | rfl | rfl <;> rfl
theorem isi_str : isiKnown "str" := by
  intro K t ht
  simp only [List.mem_cons, List.not_mem_nil, or_false] at ht
  rcases ht with rfl | rfl | rfl | rfl | rfl | rfl | rfl <;> rfl
theorem isi_tuple : isiKnown "tuple" := by
  intro K t ht
  simp only [List.mem_cons, List.not_mem_nil, or_false] at ht
  rcases ht with rfl | rfl | rfl | rfl | rfl | rfl | rfl <;> rfl
theorem isi_list : isiKnown "list" := by
  intro K t ht
  simp only [List.mem_cons, List.not_mem_nil, or_false] at ht
  rcases ht with rfl | rfl | rfl | rfl | rfl | rfl | rfl <;> rfl
theorem isi_bool : isiKnown "bool" := by
  intro K t ht
  simp only [List.mem_cons, List.not_mem_nil, or_false] at ht
  rcases ht with rfl | rfl | rfl | rfl | rfl | rfl | rfl <;> rfl
theorem de_isi (hk : isiKnown T) (hg : Gl X x) (hm : X.mg x = none) (hv : bootBuiltins x = some (.builtin "isinstance")) (hn : x ≠ "__name__") (hdb : (x == ("__debug__" : Str)) = false)
    (hg2 : Gl X y) (hm2 : X.mg y = none) (hv2 : bootBuiltins y = some (.type T)) (hn2 : y ≠ "__name__") (hdb2 : (y == ("__debug__" : Str)) = false) (ha : PE X e (tF X.K cl W fa))
    (hs : ∀ es, starEach (e :: es) X.env = (false, eval e X.env) :: starEach es X.env) :
    PE X (.Call (.Name x p) [e, .Name y p2] [] pos) (tF X.K cl W (e1 (dIsi T) fa)) := by
  have hT : PE X (.Name y p2) (tC (.ty T)) := pe_bltn hg2 hm2 hv2 rfl hn2 hdb2
  refine PEw (pe_callB call_isi hg hm hv (pa_cons ha (pa_cons hT pa_nil) (hs _)) hn hdb (hs _)) fun σ H Q ⟨ρ, env, st, S, E, P⟩ => ?_
  refine ⟨ρ, env, st, S, E, (Post.bind backV P).mono ?_⟩
  rintro x H1 ⟨ρ1, st1, a, x1, S1, r1, P1⟩
  cases e : tyName st1 a with
  | none => simp [dIsi, e] at P1; exact P1.elim
  | some t => exact ⟨x, .ty T, .type t, .type T, isiB t T, rfl, .ty T, ty_ok S1 r1 e, hk X.K t (ty_in e), fin_v (d := .bl (isiB t T)) S1 P1.prim (by simp [dIsi, e]) rfl⟩
end
end Ev

/-! ## Ev6 -/
set_option Elab.async false
set_option linter.all false
set_option maxRecDepth 100000
/-! Ev6: statements, loops. -/
namespace Ev
open PySem PySem.Spec PyProof.Rows L2

inductive SR where
  | nx (env : SEnv) (st : Store) | brk (env : SEnv) (st : Store) | ct (env : SEnv) (st : Store) | ret (a : RV) (st : Store) | exc (x : Exn) (env : SEnv) (st : Store) | bad
def R.toS {α : Type} (r : R α) (env : SEnv) (k : α → Store → SR) : SR := match r with
  | .ok a st => k a st
  | .exc x st => .exc x env st
  | .bad => .bad
@[simp] theorem R.toS_ok {α : Type} (a : α) (st : Store) (env : SEnv) (k : α → Store → SR) : (R.ok a st).toS env k = k a st := .trans rfl rfl
@[simp] theorem R.toS_exc {α : Type} (x : Exn) (st : Store) (env : SEnv) (k : α → Store → SR) : (R.exc x st : R α).toS env k = .exc x env st := .trans rfl rfl
@[simp] theorem R.toS_bad {α : Type} (env : SEnv) (k : α → Store → SR) : (R.bad : R α).toS env k = .bad := .trans rfl rfl
def SR.seq (r : SR) (k : SEnv → Store → SR) : SR := match r with
  | .nx env st => k env st
  | r => r
@[simp] theorem SR.seq_nx (env : SEnv) (st : Store) (k : SEnv → Store → SR) : (SR.nx env st).seq k = k env st := .trans rfl rfl
@[simp] theorem SR.seq_brk (env : SEnv) (st : Store) (k : SEnv → Store → SR) : (SR.brk env st).seq k = .brk env st := .trans rfl rfl
@[simp] theorem SR.seq_ct (env : SEnv) (st : Store) (k : SEnv → Store → SR) : (SR.ct env st).seq k = .ct env st := .trans rfl rfl
@[simp] theorem SR.seq_ret (a : RV) (st : Store) (k : SEnv → Store → SR) : (SR.ret a st).seq k = .ret a st := .trans rfl rfl
@[simp] theorem SR.seq_exc (x : Exn) (env : SEnv) (st : Store) (k : SEnv → Store → SR) : (SR.exc x env st).seq k = .exc x env st := .trans rfl rfl
@[simp] theorem SR.seq_bad (k : SEnv → Store → SR) : SR.bad.seq k = .bad := .trans rfl rfl
/-- a loop's body done: on to the next turn -/
def SR.loop (r : SR) (k : SEnv → Store → SR) : SR := match r with
  | .nx env st => k env st
  | .ct env st => k env st
  | .brk env st => .nx env st
  | r => r
@[simp] theorem SR.loop_nx (env : SEnv) (st : Store) (k : SEnv → Store → SR) : (SR.nx env st).loop k = k env st := .trans rfl rfl
@[simp] theorem SR.loop_brk (env : SEnv) (st : Store) (k : SEnv → Store → SR) : (SR.brk env st).loop k = .nx env st := .trans rfl rfl
@[simp] theorem SR.loop_ct (env : SEnv) (st : Store) (k : SEnv → Store → SR) : (SR.ct env st).loop k = k env st := .trans rfl rfl
@[simp] theorem SR.loop_ret (a : RV) (st : Store) (k : SEnv → Store → SR) : (SR.ret a st).loop k = .ret a st := .trans rfl rfl
@[simp] theorem SR.loop_exc (x : Exn) (env : SEnv) (st : Store) (k : SEnv → Store → SR) : (SR.exc x env st).loop k = .exc x env st := .trans rfl rfl
@[simp] theorem SR.loop_bad (k : SEnv → Store → SR) : SR.bad.loop k = .bad := .trans rfl rfl
abbrev SS := SEnv → Store → SR

def PostS (K : PySem.W.Frag) (cl : CT) (W : WX) (ρ : List Addr) (H : Hp) (r : SR) (D : Ends) : Prop := match r with
  | .nx env' st' => ∀ ρ' H' σ', Ext ρ H ρ' H' → RS K ρ' H' cl st' → RE K ρ' H' σ' env' → D.nx σ' H'
  | .brk env' st' => ∀ ρ' H' σ', Ext ρ H ρ' H' → RS K ρ' H' cl st' → RE K ρ' H' σ' env' → D.bk σ' H'
  | .ct env' st' => ∀ ρ' H' σ', Ext ρ H ρ' H' → RS K ρ' H' cl st' → RE K ρ' H' σ' env' → D.ct σ' H'
  | .ret a st' => ∀ ρ' H' v, Ext ρ H ρ' H' → RS K ρ' H' cl st' → RRV K ρ' H' H a v → D.rt v H'
  | .exc x env' st' => ∀ ρ' H' σ' c d, Ext ρ H ρ' H' → RS K ρ' H' cl st' → RE K ρ' H' σ' env' → RX K ρ' H' cl c d x → W c d σ' H'
  | .bad => False
def tS (K : PySem.W.Frag) (cl : CT) (W : WX) (f : SS) : TS := fun D σ H => ∃ ρ env st, RS K ρ H cl st ∧ RE K ρ H σ env ∧ PostS K cl W ρ H (f env st) D
section
variable {K : PySem.W.Frag} {cl : CT} {W : WX} {ρ ρ1 : List Addr} {H H1 : Hp} {st1 : Store}
theorem PostS.from {r : SR} {D : Ends} (S1 : RS K ρ1 H1 cl st1) (x1 : Ext ρ H ρ1 H1) (h : PostS K cl W ρ H r D) : PostS K cl W ρ1 H1 r D := by
  cases r with
  | nx env st => exact fun ρ' H' σ' x S E => h ρ' H' σ' (x1.trans x) S E
  | brk env st => exact fun ρ' H' σ' x S E => h ρ' H' σ' (x1.trans x) S E
  | ct env st => exact fun ρ' H' σ' x S E => h ρ' H' σ' (x1.trans x) S E
  | ret a st => exact fun ρ' H' v x S r => h ρ' H' v (x1.trans x) S (RRV.back S1 x1 r)
  | exc e env st => exact fun ρ' H' σ' c d x S E r => h ρ' H' σ' c d (x1.trans x) S E r
  | bad => exact h
/-- an expression within a statement -/
theorem PostS.toS {α β : Type} {rel : Rel α β} {σ : L2.St} {env : SEnv} {st : Store} {r : R α} {k : α → Store → SR} {D : Ends} (S : RS K ρ H cl st) (E : RE K ρ H σ env) (h : PostS K cl W ρ H (r.toS env k) D) :
    Post K cl W σ rel ρ H r fun v H1 => ∃ ρ1 st1 a, Ext ρ H ρ1 H1 ∧ RS K ρ1 H1 cl st1 ∧ rel H ρ1 H1 a v ∧ PostS K cl W ρ H (k a st1) D := by
  cases r with
  | ok a st1 => exact fun ρ1 H1 v x S1 r => ⟨ρ1, st1, a, x, S1, r, h⟩
  | exc e st1 => exact fun ρ1 H1 c d x S1 r => h ρ1 H1 σ c d x S1 (E.mono (x.mono S)) r
  | bad => exact h
end
theorem RE.set {K : PySem.W.Frag} {ρ : List Addr} {H : Hp} {σ : L2.St} {env : SEnv} {d : D} {v : V} (E : RE K ρ H σ env) (i : Nat) (r : RD K ρ H d v) : RE K ρ H (σ.set i (some v)) (env.set i (some d)) := by
  refine ⟨by rw [List.length_set, List.length_set]; exact E.len, fun j e h => ?_⟩
  by_cases hj : i = j
  · subst hj
    by_cases hl : i < env.length
    · rw [List.getElem?_set_self hl] at h
      cases h
      exact ⟨v, List.getElem?_set_self (by rw [E.len]; exact hl), r⟩
    · rw [List.getElem?_eq_none (by rw [List.length_set]; omega)] at h
      cases h
  · rw [List.getElem?_set_ne hj] at h
    obtain ⟨w, h1, h2⟩ := E.at_ j e h
    exact ⟨w, by rw [List.getElem?_set_ne hj]; exact h1, h2⟩
def sNil : SS := fun env st => .nx env st
def sSeq (f g : SS) : SS := fun env st => (f env st).seq g
def sSet (i : Nat) (fa : SEnv → Store → R RV) : SS := fun env st => (fa env st).toS env fun a st1 => (mat a st1).toS env fun d st2 => .nx (env.set i (some d)) st2
def sExpr (fa : SEnv → Store → R RV) : SS := fun env st => (fa env st).toS env fun _ st1 => .nx env st1
def sRet (fa : SEnv → Store → R RV) : SS := fun env st => (fa env st).toS env fun a st1 => .ret a st1
def sRetN : SS := fun _ st => .ret (.v .non) st
def sIf (g : SEnv → Store → R Bool) (f1 f2 : SS) : SS := fun env st => (g env st).toS env fun c st1 => if c = true then f1 env st1 else f2 env st1
def sBrk : SS := fun env st => .brk env st
def sCt : SS := fun env st => .ct env st
section
variable {X : Cx} {cl : CT} {W : WX} {s : Stmt} {rest : List Stmt} {f g : SS} {e : Expr} {fa : SEnv → Store → R RV} {ga : SEnv → Store → R Bool} {pos : Pos}
theorem ds_nil : PSs X [] (tS X.K cl W sNil) := PSsw pss_nil fun D σ H ⟨ρ, env, st, S, E, P⟩ => P ρ H σ (Ext.refl _ _) S E
theorem w_seq {K : PySem.W.Frag} (D : Ends) (σ : L2.St) (H : Hp) (h : tS K cl W (sSeq f g) D σ H) : tSeq (tS K cl W f) (tS K cl W g) D σ H := by
  obtain ⟨ρ, env, st, S, E, P⟩ := h
  refine ⟨ρ, env, st, S, E, ?_⟩
  unfold sSeq at P
  cases hf : f env st with
  | nx env1 st1 =>
    rw [hf] at P
    exact fun ρ1 H1 σ1 x1 S1 E1 => ⟨ρ1, env1, st1, S1, E1, PostS.from S1 x1 P⟩
  | brk env1 st1 => rw [hf] at P; exact P
  | ct env1 st1 => rw [hf] at P; exact P
  | ret a st1 => rw [hf] at P; exact P
  | exc x env1 st1 => rw [hf] at P; exact P
  | bad => rw [hf] at P; exact P
theorem ds_cons (h1 : PS X s (tS X.K cl W f)) (h2 : PSs X rest (tS X.K cl W g)) : PSs X (s :: rest) (tS X.K cl W (sSeq f g)) := PSsw (pss_cons h1 h2) w_seq
theorem w_set {K : PySem.W.Frag} {i : Nat} {g : TG} (hg : ∀ v σ H (Q : L2.St → Hp → Prop), Q (σ.set i (some v)) H → g v σ H Q) (D : Ends) (σ : L2.St) (H : Hp) (h : tS K cl W (sSet i fa) D σ H) : tAsg (tF K cl W fa) g D σ H := by
  obtain ⟨ρ, env, st, S, E, P⟩ := h
  refine ⟨ρ, env, st, S, E, (PostS.toS (rel := relV K) S E P).mono ?_⟩
  rintro x H1 ⟨ρ1, st1, a, x1, S1, r1, P1⟩
  obtain ⟨d, st2, ρ2, e2, x2, S2, r2, m2⟩ := mat_ok S1 x1 r1
  rw [e2, R.toS_ok] at P1
  exact hg _ _ _ _ (P1 ρ2 H1 _ x2 S2 (((E.mono (x1.mono S)).mono m2).set i r2))
theorem ds_expr (he : PE X e (tF X.K cl W fa)) (hs : swapsWith e none pos.line X.env = pure false) : PS X (.Expr e pos) (tS X.K cl W (sExpr fa)) := by
  refine PSw (ps_expr he hs) fun D σ H ⟨ρ, env, st, S, E, P⟩ => ?_
  refine ⟨ρ, env, st, S, E, (PostS.toS (rel := relV X.K) S E P).mono ?_⟩
  rintro x H1 ⟨ρ1, st1, a, x1, S1, r1, P1⟩
  exact P1 ρ1 H1 σ x1 S1 (E.mono (x1.mono S))
theorem ds_ret (he : PE X e (tF X.K cl W fa)) : PS X (.Return (some e) pos) (tS X.K cl W (sRet fa)) := by
  refine PSw (ps_ret he) fun D σ H ⟨ρ, env, st, S, E, P⟩ => ?_
  refine ⟨ρ, env, st, S, E, (PostS.toS (rel := relV X.K) S E P).mono ?_⟩
  rintro x H1 ⟨ρ1, st1, a, x1, S1, r1, P1⟩
  exact P1 ρ1 H1 x x1 S1 r1
theorem ds_retN : PS X (.Return none pos) (tS X.K cl W sRetN) := PSw ps_retN fun D σ H ⟨ρ, env, st, S, E, P⟩ => P ρ H .non (Ext.refl _ _) S rfl
theorem ds_pass : PS X (.Pass pos) (tS X.K cl W sNil) := PSw ps_pass fun D σ H ⟨ρ, env, st, S, E, P⟩ => P ρ H σ (Ext.refl _ _) S E
theorem ds_brk : PS X (.Break pos) (tS X.K cl W sBrk) := PSw ps_break fun D σ H ⟨ρ, env, st, S, E, P⟩ => P ρ H σ (Ext.refl _ _) S E
theorem ds_ct : PS X (.Continue pos) (tS X.K cl W sCt) := PSw ps_continue fun D σ H ⟨ρ, env, st, S, E, P⟩ => P ρ H σ (Ext.refl _ _) S E
theorem ds_if {a b : List Stmt} (hc : PT X e (tB1 X.K cl W ga)) (ha : PSs X a (tS X.K cl W f)) (hb : PSs X b (tS X.K cl W g)) : PS X (.If e a b pos) (tS X.K cl W (sIf ga f g)) := by
  refine PSw (ps_if hc ha hb) fun D σ H ⟨ρ, env, st, S, E, P⟩ => ?_
  refine ⟨ρ, env, st, S, E, (PostS.toS (rel := relB) S E P).mono ?_⟩
  rintro x H1 ⟨ρ1, st1, a, x1, S1, rfl, P1⟩
  have P2 := PostS.from S1 x1 P1
  split at P2
  · rename_i h
    subst h
    exact iteT ⟨ρ1, env, st1, S1, E.mono (x1.mono S), P2⟩
  · rename_i h
    have h : a = false := by simpa using h
    subst h
    exact iteF ⟨ρ1, env, st1, S1, E.mono (x1.mono S), P2⟩
end
/-! ### targets of several names -/
def setAll : List Nat → List D → SEnv → SEnv
  | i :: is, d :: ds, env => setAll is ds (env.set i (some d))
  | _, _, env => env
/-- assign a value to names: one name, or as many as the tuple has -/
inductive Tg where
  | one (i : Nat) | many (is : List Nat)
def Tg.put (t : Tg) (d : D) (env : SEnv) : Option SEnv := match t with
  | .one i => some (env.set i (some d))
  | .many is => match d with
    | .tup l => if l.length = is.length then some (setAll is l env) else none
    | _ => none
def gNames : List Nat → TGs
  | [] => gNil
  | i :: is => gCons (gName i) (gNames is)
def Tg.g (K : PySem.W.Frag) : Tg → TG
  | .one i => gName i
  | .many is => gTup K is.length (gNames is)
section
variable {K : PySem.W.Frag} {ρ : List Addr} {H : Hp}
theorem gNames_ok : ∀ (is : List Nat) (ds : List D) (vs : List V) {σ : L2.St} {env : SEnv} {Q : L2.St → Hp → Prop}, RE K ρ H σ env → RDs K ρ H ds vs → ds.length = is.length → (∀ σ', RE K ρ H σ' (setAll is ds env) → Q σ' H) → gNames is vs σ H Q
  | [], ds, vs, σ, env, Q, E, r, hl, q => by
    have : ds = [] := List.length_eq_zero_iff.mp hl
    subst this
    have : vs = [] := r
    subst this
    exact ⟨rfl, q _ E⟩
  | i :: is, ds, vs, σ, env, Q, E, r, hl, q => by
    cases ds with
    | nil => cases hl
    | cons d ds =>
      obtain ⟨v, vr, rfl, h1, h2⟩ := r
      exact ⟨v, vr, rfl, gNames_ok is ds vr (E.set i h1) h2 (by simpa using hl) q⟩
theorem Tg.ok {t : Tg} {d : D} {v : V} {σ : L2.St} {env env' : SEnv} {Q : L2.St → Hp → Prop} (E : RE K ρ H σ env) (r : RD K ρ H d v) (h : t.put d env = some env') (q : ∀ σ', RE K ρ H σ' env' → Q σ' H) : t.g K v σ H Q := by
  cases t with
  | one i =>
    cases h
    exact q _ (E.set i r)
  | many is =>
    cases d with
    | tup l =>
      simp only [Tg.put] at h
      split at h
      · rename_i hl
        cases h
        obtain ⟨a, vs, rfl, h1, h2⟩ := r
        exact ⟨a, vs, rfl, h1, by rw [← h2.length]; exact hl, gNames_ok is l vs E h2 hl q⟩
      · cases h
    | _ => cases h
end
def sTg (t : Tg) (fa : SEnv → Store → R RV) : SS := fun env st => (fa env st).toS env fun a st1 => (mat a st1).toS env fun d st2 => match t.put d env with
  | some env' => .nx env' st2
  | none => .bad
section
variable {X : Cx} {cl : CT} {W : WX} {e : Expr} {fa : SEnv → Store → R RV} {pos : Pos} {t : Tg}
theorem w_tg {K : PySem.W.Frag} (D : Ends) (σ : L2.St) (H : Hp) (h : tS K cl W (sTg t fa) D σ H) : tAsg (tF K cl W fa) (t.g K) D σ H := by
  obtain ⟨ρ, env, st, S, E, P⟩ := h
  refine ⟨ρ, env, st, S, E, (PostS.toS (rel := relV K) S E P).mono ?_⟩
  rintro x H1 ⟨ρ1, st1, a, x1, S1, r1, P1⟩
  obtain ⟨d, st2, ρ2, e2, x2, S2, r2, m2⟩ := mat_ok S1 x1 r1
  rw [e2, R.toS_ok] at P1
  split at P1
  · rename_i env' he
    exact Tg.ok ((E.mono (x1.mono S)).mono m2) r2 he fun σ' E' => P1 ρ2 H1 σ' x2 S2 E'
  · exact P1.elim
end
/-! ### while -/
def whileF (g : SEnv → Store → R Bool) (f : SS) : Nat → SS
  | 0 => fun _ _ => .bad
  | n + 1 => fun env st => (g env st).toS env fun c st1 => if c = true then (f env st1).loop (whileF g f n) else .nx env st1
def fuel : Nat := 1000000
def sWhile (g : SEnv → Store → R Bool) (f : SS) : SS := whileF g f fuel
section
variable {X : Cx} {cl : CT} {W : WX} {e : Expr} {ga : SEnv → Store → R Bool} {f : SS} {body : List Stmt} {pos : Pos}
theorem ds_while (hp : PassesOwn (model X.prog X.w) X.A X.env X.xe) (hc : PT X e (tB1 X.K cl W ga)) (hb : PSs X body (tS X.K cl W f)) : PS X (.While e body [] pos) (tS X.K cl W (sWhile ga f)) := by
  refine PSw (ps_while hp hc hb) fun D σ H ⟨ρ, env, st, S, E, P⟩ => ?_
  refine ⟨fun m σ H => ∃ ρ env st, RS X.K ρ H cl st ∧ RE X.K ρ H σ env ∧ PostS X.K cl W ρ H (whileF ga f m env st) D, ⟨fuel, ρ, env, st, S, E, P⟩, ?_⟩
  rintro m σ H ⟨ρ, env, st, S, E, P⟩
  cases m with
  | zero => exact P.elim
  | succ m =>
    refine ⟨ρ, env, st, S, E, (PostS.toS (rel := relB) S E P).mono ?_⟩
    rintro x H1 ⟨ρ1, st1, a, x1, S1, rfl, P1⟩
    have P2 := PostS.from S1 x1 P1
    have E1 := E.mono (x1.mono S)
    split at P2
    · rename_i h
      subst h
      refine iteT ⟨fun σ' H' => ∃ ρ env st, RS X.K ρ H' cl st ∧ RE X.K ρ H' σ' env ∧ PostS X.K cl W ρ H' (whileF ga f m env st) D, fun σ' H' h => ⟨m, Nat.lt_succ_self m, h⟩, ρ1, env, st1, S1, E1, ?_⟩
      cases hf : f env st1 with
      | nx env2 st2 => rw [hf] at P2; exact fun ρ2 H2 σ2 x2 S2 E2 => ⟨ρ2, env2, st2, S2, E2, PostS.from S2 x2 P2⟩
      | ct env2 st2 => rw [hf] at P2; exact fun ρ2 H2 σ2 x2 S2 E2 => ⟨ρ2, env2, st2, S2, E2, PostS.from S2 x2 P2⟩
      | brk env2 st2 => rw [hf] at P2; exact fun ρ2 H2 σ2 x2 S2 E2 => P2 ρ2 H2 σ2 x2 S2 E2
      | ret a st2 => rw [hf] at P2; exact P2
      | exc x env2 st2 => rw [hf] at P2; exact P2
      | bad => rw [hf] at P2; exact P2
    · rename_i h
      have h : a = false := by simpa using h
      subst h
      exact iteF (P2 ρ1 H1 σ (Ext.refl _ _) S1 E1)
end
/-! ### what a loop walks -/
structure Src (K : PySem.W.Frag) (cl : CT) (J : It) (base : List Addr → Hp → Prop) (gd : Store → Prop) (l : List D) : Prop where
  keep : ∀ {ρ H st ρ' H'}, RS K ρ H cl st → base ρ H → Ext ρ H ρ' H' → base ρ' H'
  go : ∀ {ρ H st} {i : Nat}, RS K ρ H cl st → base ρ H → gd st → i < l.length → J.go i H
  stop : ∀ {ρ H st} {i : Nat}, RS K ρ H cl st → base ρ H → gd st → l.length ≤ i → J.stop i H
  yld : ∀ {ρ H st} {i : Nat} {x : V} {H' : Hp}, RS K ρ H cl st → base ρ H → gd st → J.yld i H x H' → i < l.length → ∃ d, l[i]? = some d ∧ Ext ρ H ρ H' ∧ RS K ρ H' cl st ∧ RD K ρ H' d x
structure Walk where
  l : List D
  gd : Store → Prop
def PostI (K : PySem.W.Frag) (cl : CT) (W : WX) (σ : L2.St) (ρ : List Addr) (H : Hp) (r : R Walk) (Q : It → Hp → Prop) : Prop := match r with
  | .ok w st' => ∀ ρ' H' J base, Ext ρ H ρ' H' → RS K ρ' H' cl st' → Src K cl J base w.gd w.l → base ρ' H' → w.gd st' → Q J H'
  | .exc x st' => ∀ ρ' H' c d, Ext ρ H ρ' H' → RS K ρ' H' cl st' → RX K ρ' H' cl c d x → W c d σ H'
  | .bad => False
def tI (K : PySem.W.Frag) (cl : CT) (W : WX) (f : SEnv → Store → R Walk) : TI := fun σ H Q => ∃ ρ env st, RS K ρ H cl st ∧ RE K ρ H σ env ∧ PostI K cl W σ ρ H (f env st) Q
theorem PIw {X : Cx} {tg e : Expr} {t t' : TI} (h : PI X tg e t) (w : ∀ σ H Q, t' σ H Q → t σ H Q) : PI X tg e t' := ⟨fun pins s σ H Q I q => h.run pins s σ H Q I (w _ _ _ q)⟩
theorem PIor {X : Cx} {tg e : Expr} {t t' : TI} (h : PI X tg e t) (h' : PI X tg e t') : PI X tg e (fun σ H Q => t σ H Q ∨ t' σ H Q) :=
  ⟨fun pins s σ H Q I q => q.elim (fun q => h.run pins s σ H Q I q) fun q => h'.run pins s σ H Q I q⟩
/-- the items of a value that is walked -/
def itV (st : Store) (a : RV) : Option (List D) := match a with
  | .v (.tup l) => some l
  | .v (.str s) => some (s.map fun c => .str [c])
  | a => lstV st a
def wVal (fa : SEnv → Store → R RV) : SEnv → Store → R Walk := fun env st => (fa env st).bind fun a st1 => match itV st1 a with
  | some l => .ok ⟨l, fun st => itV st a = some l⟩ st1
  | none => .bad
section
variable {X : Cx} {cl : CT} {W : WX} {tg e : Expr} {fa : SEnv → Store → R RV}
theorem src_list {K : PySem.W.Frag} {a : RV} {p : Addr} {l : List D} {H0 : Hp} (hn : ∀ st, itV st a = lstV st a) : Src K cl (Itl K p) (fun ρ H => RRV K ρ H H0 a (.ref p)) (fun st => itV st a = some l) l := by
  have key : ∀ {ρ H st}, RS K ρ H cl st → RRV K ρ H H0 a (.ref p) → itV st a = some l → ∃ vs, SqL K H p vs ∧ RDs K ρ H l vs := by
    intro ρ H st S r g
    rw [hn] at g
    obtain ⟨p', vs, e, h1, h2⟩ := lstV_ok S r g
    cases e
    exact ⟨vs, h1, h2⟩
  refine ⟨fun S r x => RRV.ext S x r, fun {ρ H st i} S r g hi => ?_, fun {ρ H st i} S r g hi => ?_, fun {ρ H st i x H'} S r g y hi => ?_⟩
  · obtain ⟨vs, h1, h2⟩ := key S r g
    obtain ⟨v, hv, _⟩ := h2.get (List.getElem?_eq_getElem hi)
    exact ⟨vs, v, h1, hv⟩
  · obtain ⟨vs, h1, h2⟩ := key S r g
    exact ⟨vs, h1, by rw [← h2.length]; exact hi⟩
  · obtain ⟨vs, h1, h2⟩ := key S r g
    obtain ⟨rfl, y⟩ := y
    obtain ⟨v, hv, rv⟩ := h2.get (List.getElem?_eq_getElem hi)
    have := y vs h1
    rw [hv] at this; cases this
    exact ⟨l[i], List.getElem?_eq_getElem hi, Ext.refl _ _, S, rv⟩
theorem src_tup {K : PySem.W.Frag} {p : Addr} {l : List D} {gd : Store → Prop} : Src K cl (Itt K p) (fun ρ H => RD K ρ H (.tup l) (.ref p)) gd l := by
  have key : ∀ {ρ H}, RD K ρ H (.tup l) (.ref p) → ∃ vs, SqT K H p vs ∧ RDs K ρ H l vs := by
    rintro ρ H ⟨p', vs, e, h1, h2⟩
    cases e
    exact ⟨vs, h1, h2⟩
  refine ⟨fun S r x => RD.mono (x.mono S) _ _ r, fun {ρ H st i} S r g hi => ?_, fun {ρ H st i} S r g hi => ?_, fun {ρ H st i x H'} S r g y hi => ?_⟩
  · obtain ⟨vs, h1, h2⟩ := key r
    obtain ⟨v, hv, _⟩ := h2.get (List.getElem?_eq_getElem hi)
    exact ⟨vs, v, h1, hv⟩
  · obtain ⟨vs, h1, h2⟩ := key r
    exact ⟨vs, h1, by rw [← h2.length]; exact hi⟩
  · obtain ⟨vs, h1, h2⟩ := key r
    obtain ⟨rfl, y⟩ := y
    obtain ⟨v, hv, rv⟩ := h2.get (List.getElem?_eq_getElem hi)
    have := y vs h1
    rw [hv] at this; cases this
    exact ⟨l[i], List.getElem?_eq_getElem hi, Ext.refl _ _, S, rv⟩
theorem src_str {K : PySem.W.Frag} {s : List Nat} {gd : Store → Prop} : Src K cl (Its ⟨s.toArray⟩) (fun _ _ => True) gd (s.map fun c => .str [c]) := by
  refine ⟨fun _ _ _ => trivial, fun {ρ H st i} S r g hi => ?_, fun {ρ H st i} S r g hi => ?_, fun {ρ H st i x H'} S r g y hi => ?_⟩
  · show i < s.toArray.size
    simpa using hi
  · show s.toArray.size ≤ i
    simpa using hi
  · obtain ⟨rfl, c, hc, rfl⟩ := y
    refine ⟨.str [c], ?_, Ext.refl _ _, S, rfl⟩
    rw [List.getElem?_map]
    have hc : s.toArray[i]? = some c := hc
    rw [List.getElem?_toArray] at hc
    rw [hc]; rfl
theorem di_val (he : PE X e (tF X.K cl W fa)) : PI X tg e (tI X.K cl W (wVal fa)) := by
  refine PIw (PIor (pi_list he) (PIor (pi_tup he) (pi_str he))) fun σ H Q ⟨ρ, env, st, S, E, P⟩ => ?_
  unfold wVal at P
  have both : ∀ {R' : V → Hp → Prop}, (∀ v H1, (∃ ρ1 st1 a, fa env st = .ok a st1 ∧ Ext ρ H ρ1 H1 ∧ RS X.K ρ1 H1 cl st1 ∧ RRV X.K ρ1 H1 H a v) → R' v H1) → (∀ x st1, fa env st = .exc x st1 → Post X.K cl W σ (relV X.K) ρ H (.exc x st1 : R RV) R') → fa env st ≠ .bad → tF X.K cl W fa σ H R' := by
    intro R' h1 h2 h3
    refine ⟨ρ, env, st, S, E, ?_⟩
    cases hf : fa env st with
    | ok a st1 => exact fun ρ1 H1 v x1 S1 r1 => h1 v H1 ⟨ρ1, st1, a, hf, x1, S1, r1⟩
    | exc x st1 => exact h2 x st1 hf
    | bad => exact absurd hf h3
  cases hf : fa env st with
  | bad => rw [hf] at P; exact P.elim
  | exc x st1 =>
    rw [hf] at P
    refine .inl (both (fun v H1 ⟨_, _, _, e, _⟩ => by rw [hf] at e; cases e) (fun x' st' e => ?_) (by rw [hf]; exact fun z => by cases z))
    rw [hf] at e; cases e
    exact fun ρ' H' c d x S r => P ρ' H' c d x S r
  | ok a st1 =>
    rw [hf] at P
    have nox : ∀ {R' : V → Hp → Prop} x st', fa env st = .exc x st' → Post X.K cl W σ (relV X.K) ρ H (.exc x st' : R RV) R' := fun x st' e => by rw [hf] at e; cases e
    have nobad : fa env st ≠ .bad := by rw [hf]; exact fun z => by cases z
    rw [R.bind_ok] at P
    cases hi : itV st1 a with
    | none => rw [hi] at P; exact P.elim
    | some l =>
      rw [hi] at P
      have lists : (∀ st, itV st a = lstV st a) → iList X.K (tF X.K cl W fa) σ H Q := fun hn => by
        refine both (fun v H1 ⟨ρ1, st1', a', e, x1, S1, r1⟩ => ?_) nox nobad
        rw [hf] at e; cases e
        have hi' := hi
        rw [hn] at hi'
        obtain ⟨p, vs, rfl, h1, h2⟩ := lstV_ok S1 r1 hi'
        exact ⟨p, rfl, ⟨vs, h1⟩, P ρ1 H1 _ _ x1 S1 (src_list hn) r1 hi⟩
      cases a with
      | t l' => exact .inl (lists fun _ => rfl)
      | v d =>
        cases d with
        | tup l' =>
          cases hi
          refine .inr (.inl (both (fun v H1 ⟨ρ1, st1', a', e, x1, S1, r1⟩ => ?_) nox nobad))
          rw [hf] at e; cases e
          obtain ⟨p, vs, rfl, h1, h2⟩ := r1
          exact ⟨p, rfl, ⟨vs, h1⟩, P ρ1 H1 _ _ x1 S1 src_tup ⟨p, vs, rfl, h1, h2⟩ rfl⟩
        | str z =>
          cases hi
          refine .inr (.inr (both (fun v H1 ⟨ρ1, st1', a', e, x1, S1, r1⟩ => ?_) nox nobad))
          rw [hf] at e; cases e
          cases r1
          exact ⟨_, rfl, P ρ1 H1 _ _ x1 S1 src_str trivial rfl⟩
        | rol l' => exact .inl (lists fun _ => rfl)
        | ref n => exact .inl (lists fun _ => rfl)
        | _ => cases hi
/-! ### range -/
def rngL (lo : Int) (n : Nat) : List D := (List.range n).map fun (i : Nat) => .int (lo + i)
theorem src_rng {K : PySem.W.Frag} {lo : Int} {n : Nat} {gd : Store → Prop} : Src K cl (Itr lo n) (fun _ _ => True) gd (rngL lo n) := by
  have hl : (rngL lo n).length = n := by simp [rngL]
  refine ⟨fun _ _ _ => trivial, fun {ρ H st i} S r g hi => ?_, fun {ρ H st i} S r g hi => ?_, fun {ρ H st i x H'} S r g y hi => ?_⟩
  · rw [hl] at hi; exact hi
  · rw [hl] at hi; exact hi
  · obtain ⟨rfl, rfl⟩ := y
    rw [hl] at hi
    exact ⟨.int (lo + i), by simp [rngL, hi], Ext.refl _ _, S, rfl⟩
def rOk (j : Int) : Prop := -(2 ^ 62) ≤ j ∧ j < 2 ^ 62
def rOk2 (i j : Int) : Prop := -(2 ^ 62) ≤ i ∧ i < 2 ^ 62 ∧ -(2 ^ 62) ≤ j ∧ j < 2 ^ 62
open Classical in
noncomputable def wRng1 (fs : SEnv → Store → R (List RV)) : SEnv → Store → R Walk := fun env st => (fs env st).bind fun as st1 => match as with
  | [.v (.int j)] => if rOk j then .ok ⟨rngL 0 j.toNat, fun _ => True⟩ st1 else .bad
  | _ => .bad
open Classical in
noncomputable def wRng2 (fs : SEnv → Store → R (List RV)) : SEnv → Store → R Walk := fun env st => (fs env st).bind fun as st1 => match as with
  | [.v (.int i), .v (.int j)] => if rOk2 i j then .ok ⟨rngL i (j - i).toNat, fun _ => True⟩ st1 else .bad
  | _ => .bad
theorem PostI.bind {K : PySem.W.Frag} {σ : L2.St} {ρ : List Addr} {H : Hp} {α β : Type} {rel : Rel α β} {r : R α} {k : α → Store → R Walk} {Q : It → Hp → Prop} (h : PostI K cl W σ ρ H (r.bind k) Q) :
    Post K cl W σ rel ρ H r fun v H1 => ∃ ρ1 st1 a, Ext ρ H ρ1 H1 ∧ RS K ρ1 H1 cl st1 ∧ rel H ρ1 H1 a v ∧ PostI K cl W σ ρ H (k a st1) Q := by
  cases r with
  | ok a st1 => exact fun ρ1 H1 v x S1 r => ⟨ρ1, st1, a, x, S1, r, h⟩
  | exc e st1 => exact fun ρ1 H1 c d x S1 r => h ρ1 H1 c d x S1 r
  | bad => exact h
theorem di_rng1 {a : Expr} {fs : SEnv → Store → R (List RV)} {p pos : Pos} (hg : Gl X "range") (hm : X.mg "range" = none) (ha : PA X [a] (tG X.K cl W (relR X.K) fs)) (hs : starEach [a] X.env = [(false, eval a X.env)]) :
    PI X tg (.Call (.Name "range" p) [a] [] pos) (tI X.K cl W (wRng1 fs)) := by
  refine PIw (pi_range1 hg hm ha hs) fun σ H Q ⟨ρ, env, st, S, E, P⟩ => ?_
  refine ⟨ρ, env, st, S, E, (PostI.bind (rel := relR X.K) P).mono ?_⟩
  rintro xs H1 ⟨ρ1, st1, as, x1, S1, r1, P1⟩
  split at P1
  · rename_i j
    split at P1
    · rename_i hj
      obtain ⟨v, r, rfl, rv, rn⟩ := r1
      cases rv
      have : r = [] := rn
      subst this
      exact ⟨j, rfl, hj.1, hj.2, P1 ρ1 H1 _ _ x1 S1 src_rng trivial trivial⟩
    · exact P1.elim
  · exact P1.elim
theorem di_rng2 {a b : Expr} {fs : SEnv → Store → R (List RV)} {p pos : Pos} (hg : Gl X "range") (hm : X.mg "range" = none) (ha : PA X [a, b] (tG X.K cl W (relR X.K) fs)) (hs : starEach [a, b] X.env = [(false, eval a X.env), (false, eval b X.env)]) (hs2 : starEach [b] X.env = [(false, eval b X.env)]) :
    PI X tg (.Call (.Name "range" p) [a, b] [] pos) (tI X.K cl W (wRng2 fs)) := by
  refine PIw (pi_range2 hg hm ha hs hs2) fun σ H Q ⟨ρ, env, st, S, E, P⟩ => ?_
  refine ⟨ρ, env, st, S, E, (PostI.bind (rel := relR X.K) P).mono ?_⟩
  rintro xs H1 ⟨ρ1, st1, as, x1, S1, r1, P1⟩
  split at P1
  · rename_i i j
    split at P1
    · rename_i hj
      obtain ⟨v, r, rfl, rv, w, r', rfl, rw', rn⟩ := r1
      cases rv; cases rw'
      have : r' = [] := rn
      subst this
      exact ⟨i, j, rfl, hj, P1 ρ1 H1 _ _ x1 S1 src_rng trivial trivial⟩
    · exact P1.elim
  · exact P1.elim
end
/-! ### for -/
open Classical in
noncomputable def forL (gd : Store → Prop) (t : Tg) (f : SS) : List D → SS
  | [] => fun env st => .nx env st
  | d :: ds => fun env st => match t.put d env with
    | some env1 => (f env1 st).loop fun env2 st2 => if gd st2 then forL gd t f ds env2 st2 else .bad
    | none => .bad
noncomputable def sFor (w : SEnv → Store → R Walk) (t : Tg) (f : SS) : SS := fun env st => (w env st).toS env fun k st1 => forL k.gd t f k.l env st1
section
variable {X : Cx} {cl : CT} {W : WX} {tg iter : Expr} {body : List Stmt} {w : SEnv → Store → R Walk} {t : Tg} {f : SS} {pos : Pos}
theorem ds_for (hp : PassesOwn (model X.prog X.w) X.A X.env X.xe) (hc : X.calm = true) (hi : PI X tg iter (tI X.K cl W w)) (hg : PG X tg (t.g X.K)) (hb : PSs X body (tS X.K cl W f)) (hs : ∀ x, foldedSetIterable iter X.env x = pure x) :
    PS X (.For tg iter body [] pos) (tS X.K cl W (sFor w t f)) := by
  refine PSw (ps_for hp hc hi hg hb hs) fun D σ H ⟨ρ, env, st, S, E, P⟩ => ?_
  refine ⟨ρ, env, st, S, E, ?_⟩
  unfold sFor at P
  cases hw : w env st with
  | bad => rw [hw] at P; exact P
  | exc x st1 =>
    rw [hw] at P
    exact fun ρ' H' c d x S1 r => P ρ' H' σ c d x S1 (E.mono (x.mono S)) r
  | ok k st1 =>
    rw [hw] at P
    rw [R.toS_ok] at P
    intro ρ1 H1 J base x1 S1 so b1 g1
    have P1 := PostS.from S1 x1 P
    refine ⟨fun i m σ H => m = k.l.length - i ∧ i ≤ k.l.length ∧ ∃ ρ env st, RS X.K ρ H cl st ∧ RE X.K ρ H σ env ∧ base ρ H ∧ k.gd st ∧ PostS X.K cl W ρ H (forL k.gd t f (k.l.drop i) env st) D,
      ⟨k.l.length, by simp, Nat.zero_le _, ρ1, env, st1, S1, E.mono (x1.mono S), b1, g1, P1⟩, ?_⟩
    rintro i m σ2 H2 ⟨rfl, hi2, ρ2, env2, st2, S2, E2, b2, g2, P2⟩
    by_cases hlt : i < k.l.length
    · refine .inr ⟨so.go S2 b2 g2 hlt, fun σ' H' => ∃ ρ env st, RS X.K ρ H' cl st ∧ RE X.K ρ H' σ' env ∧ base ρ H' ∧ k.gd st ∧ PostS X.K cl W ρ H' (forL k.gd t f (k.l.drop (i + 1)) env st) D, fun σ' H' h => ⟨k.l.length - (i + 1), by omega, rfl, hlt, h⟩, fun x H3 y => ?_⟩
      obtain ⟨d, hd, x3, S3, r3⟩ := so.yld S2 b2 g2 y hlt
      have e1 : k.l.drop i = d :: k.l.drop (i + 1) := by
        rw [List.drop_eq_getElem_cons hlt]
        rw [List.getElem?_eq_getElem hlt] at hd
        cases hd; rfl
      rw [e1] at P2
      have P3 := PostS.from S3 x3 P2
      simp only [forL] at P3
      split at P3
      · rename_i env3 he
        refine Tg.ok (E2.mono (x3.mono S2)) r3 he fun σ' E' => ?_
        refine ⟨ρ2, env3, st2, S3, E', ?_⟩
        have b3 := so.keep S2 b2 x3
        cases hf : f env3 st2 with
        | nx env4 st4 =>
          rw [hf] at P3
          intro ρ4 H4 σ4 x4 S4 E4
          rw [SR.loop_nx] at P3
          split at P3
          · rename_i hgd
            exact ⟨ρ4, env4, st4, S4, E4, so.keep S3 b3 x4, hgd, PostS.from S4 x4 P3⟩
          · exact P3.elim
        | ct env4 st4 =>
          rw [hf] at P3
          intro ρ4 H4 σ4 x4 S4 E4
          rw [SR.loop_ct] at P3
          split at P3
          · rename_i hgd
            exact ⟨ρ4, env4, st4, S4, E4, so.keep S3 b3 x4, hgd, PostS.from S4 x4 P3⟩
          · exact P3.elim
        | brk env4 st4 => rw [hf] at P3; exact fun ρ4 H4 σ4 x4 S4 E4 => P3 ρ4 H4 σ4 x4 S4 E4
        | ret a st4 => rw [hf] at P3; exact P3
        | exc x env4 st4 => rw [hf] at P3; exact P3
        | bad => rw [hf] at P3; exact P3
      · exact P3.elim
    · have hi3 : i = k.l.length := by omega
      subst hi3
      rw [List.drop_length] at P2
      exact .inl ⟨so.stop S2 b2 g2 (Nat.le_refl _), P2 ρ2 H2 σ2 (Ext.refl _ _) S2 E2⟩
end
end Ev

/-! ## Ev7 -/
set_option Elab.async false
set_option linter.all false
set_option maxRecDepth 100000
/-! Ev7: list comprehensions. -/
namespace Ev
open PySem PySem.Spec PyProof.Rows L2

/-- what raises is not served -/
def R.bindN {α β : Type} (r : R α) (f : α → Store → R β) : R β := match r with
  | .ok a st => f a st
  | _ => .bad
@[simp] theorem R.bindN_ok {α β : Type} (a : α) (st : Store) (f : α → Store → R β) : (R.ok a st).bindN f = f a st := rfl
@[simp] theorem R.bindN_exc {α β : Type} (x : Exn) (st : Store) (f : α → Store → R β) : (R.exc x st : R α).bindN f = .bad := rfl
@[simp] theorem R.bindN_bad {α β : Type} (f : α → Store → R β) : (R.bad : R α).bindN f = .bad := rfl
def Tg.ix : Tg → List Nat
  | .one i => [i]
  | .many is => is
def wipeE (env : SEnv) : List Nat → SEnv
  | [] => env
  | v :: vs => (wipeE env vs).set v none
open Classical in
noncomputable def compL (gd : Store → Prop) (t : Tg) (tt : SEnv → Store → R Bool) (fe : SEnv → Store → R RV) (env : SEnv) : List D → Store → R (List D)
  | [] => fun st => .ok [] st
  | d :: ds => fun st => match t.put d env with
    | some env1 => (tt env1 st).bindN fun c st1 => if c = true then (fe env1 st1).bindN fun a st2 => (mat a st2).bind fun d' st3 => if gd st3 then (compL gd t tt fe env ds st3).bind fun r st4 => .ok (d' :: r) st4 else .bad
      else if gd st1 then compL gd t tt fe env ds st1 else .bad
    | none => .bad
noncomputable def eComp (w : SEnv → Store → R Walk) (t : Tg) (tt : SEnv → Store → R Bool) (own : List Nat) (fe : SEnv → Store → R RV) : SEnv → Store → R RV := fun env st =>
  (w env st).bind fun k st1 => if k.l.length ≤ sLine then (compL k.gd t tt fe (wipeE env own) k.l st1).bind fun r st2 => .ok (.t r) st2 else .bad
def ttYes : SEnv → Store → R Bool := fun _ st => .ok true st
abbrev W0 : WX := fun _ _ _ _ => False
section
variable {K : PySem.W.Frag} {ρ : List Addr} {H : Hp} {cl : CT}
theorem wipe_set_out {σ : L2.St} {i : Nat} {v : Option V} : ∀ {vs : List Nat}, i ∈ vs → wipe (σ.set i v) vs = wipe σ vs
  | w :: vs, h => by
    unfold wipe
    by_cases hv : i ∈ vs
    · rw [wipe_set_out hv]
    · have : i = w := by
        rcases List.mem_cons.mp h with e | e
        · exact e
        · exact absurd e hv
      subst this
      clear h
      have : ∀ {vs : List Nat}, i ∉ vs → wipe (σ.set i v) vs = (wipe σ vs).set i v := by
        intro vs
        induction vs with
        | nil => intro _; rfl
        | cons w' vs ih =>
          intro h
          unfold wipe
          rw [ih (fun z => h (List.mem_cons_of_mem _ z)), List.set_comm _ _ (fun z => h (by rw [z]; exact List.mem_cons_self))]
      rw [this hv, List.set_set]
theorem wipe_wipe {σ : L2.St} {vs : List Nat} : wipe (wipe σ vs) vs = wipe σ vs := by
  have key : ∀ (us : List Nat), (∀ u ∈ us, u ∈ vs) → wipe (wipe σ us) vs = wipe σ vs := by
    intro us
    induction us with
    | nil => intro _; rfl
    | cons u us ih =>
      intro h
      show wipe ((wipe σ us).set u none) vs = _
      rw [wipe_set_out (h u List.mem_cons_self), ih fun z hz => h z (List.mem_cons_of_mem _ hz)]
  exact key vs fun _ h => h
theorem RE.wipe {σ : L2.St} {env : SEnv} (E : RE K ρ H σ env) : ∀ vs : List Nat, RE K ρ H (L2.wipe σ vs) (wipeE env vs)
  | [] => E
  | v :: vs => by
    have ih := E.wipe vs
    refine ⟨?_, fun j d h => ?_⟩
    · show ((L2.wipe σ vs).set v none).length = ((wipeE env vs).set v none).length
      rw [List.length_set, List.length_set]
      exact ih.len
    · have h : ((wipeE env vs).set v none)[j]? = some (some d) := h
      by_cases hj : v = j
      · subst hj
        by_cases hl : v < (wipeE env vs).length
        · rw [List.getElem?_set_self hl] at h; cases h
        · rw [List.getElem?_eq_none (by rw [List.length_set]; omega)] at h; cases h
      · rw [List.getElem?_set_ne hj] at h
        obtain ⟨w, h1, h2⟩ := ih.at_ j d h
        exact ⟨w, by show ((L2.wipe σ vs).set v none)[j]? = _; rw [List.getElem?_set_ne hj]; exact h1, h2⟩
theorem gNames_okW : ∀ (is : List Nat) (ds : List D) (vs : List V) {σ : L2.St} {env : SEnv} {Q : L2.St → Hp → Prop} {own : List Nat}, (∀ i ∈ is, i ∈ own) → RE K ρ H σ env → RDs K ρ H ds vs → ds.length = is.length →
    (∀ σ', RE K ρ H σ' (setAll is ds env) → L2.wipe σ' own = L2.wipe σ own → Q σ' H) → gNames is vs σ H Q
  | [], ds, vs, σ, env, Q, own, ho, E, r, hl, q => by
    have : ds = [] := List.length_eq_zero_iff.mp hl
    subst this
    have : vs = [] := r
    subst this
    exact ⟨rfl, q _ E rfl⟩
  | i :: is, ds, vs, σ, env, Q, own, ho, E, r, hl, q => by
    cases ds with
    | nil => cases hl
    | cons d ds =>
      obtain ⟨v, vr, rfl, h1, h2⟩ := r
      exact ⟨v, vr, rfl, gNames_okW is ds vr (fun z hz => ho z (List.mem_cons_of_mem _ hz)) (E.set i h1) h2 (by simpa using hl) fun σ' E' e => q σ' E' (e.trans (wipe_set_out (ho i List.mem_cons_self)))⟩
theorem Tg.okW {t : Tg} {d : D} {v : V} {σ : L2.St} {env env' : SEnv} {Q : L2.St → Hp → Prop} {own : List Nat} (ho : ∀ i ∈ t.ix, i ∈ own) (E : RE K ρ H σ env) (r : RD K ρ H d v) (h : t.put d env = some env')
    (q : ∀ σ', RE K ρ H σ' env' → L2.wipe σ' own = L2.wipe σ own → Q σ' H) : t.g K v σ H Q := by
  cases t with
  | one i =>
    cases h
    exact q _ (E.set i r) (wipe_set_out (ho i (List.mem_singleton.mpr rfl)))
  | many is =>
    cases d with
    | tup l =>
      simp only [Tg.put] at h
      split at h
      · rename_i hl
        cases h
        obtain ⟨a, vs, rfl, h1, h2⟩ := r
        exact ⟨a, vs, rfl, h1, by rw [← h2.length]; exact hl, gNames_okW is l vs ho E h2 hl q⟩
      · cases h
    | _ => cases h
/-- a tracked list that is no cell is written -/
theorem RS.other {st : Store} (S : RS K ρ H cl st) {p : Addr} {vs ws : List V} (hp : H p = some (.lst vs)) (n : p ∉ ρ) : RS K ρ (upd H p (.lst ws)) cl st ∧ Mono K ρ H ρ (upd H p (.lst ws)) := by
  have m : Mono K ρ H ρ (upd H p (.lst ws)) := by
    refine ⟨⟨[], by simp⟩, fun a xs h => ?_, fun a xs h => ?_⟩
    · rcases h with (h | ⟨o, h⟩) | h
      · exact .inl (.inl (by rw [upd_ne (ne_of h hp fun z => by cases z)]; exact h))
      · exact .inl (.inr ⟨o, by rw [upd_ne (ne_of h hp fun z => by cases z)]; exact h⟩)
      · exact .inr h
    · rcases h with ⟨o, h⟩ | h
      · exact .inl ⟨o, by rw [upd_ne (ne_of h hp fun z => by cases z)]; exact h⟩
      · exact .inr h
  refine ⟨⟨S.len, S.nd, fun i c a h1 h2 => (S.at_ i c a h1 h2).mono m ?_, tabs_upd S.tab hp (fun _ z => by cases z) fun _ z => by unfold LamX.CodeO at z; cases z⟩, m⟩
  rw [upd_ne]
  intro z
  subst z
  exact n (List.mem_of_getElem? h2)
theorem R.bind_push {d' : D} {accl : List D} {r : R (List D)} : ((r.bind fun r s => .ok (d' :: r) s).bind fun r s => (.ok (.t (accl ++ r)) s : R RV)) = r.bind fun r s => .ok (.t ((accl ++ [d']) ++ r)) s := by
  cases r <;> simp
end
section
variable {X : Cx} {cl : CT} {W : WX} {elt tg iter : Expr} {ifs : List Expr} {scope : Scope} {own : List (Str × Nat)} {pos : Pos} {w : SEnv → Store → R Walk} {t : Tg} {tt : SEnv → Store → R Bool} {fe : SEnv → Store → R RV}
theorem w_comp {K : PySem.W.Frag} (ho : ∀ i ∈ t.ix, i ∈ own.map (·.2)) (σ : L2.St) (H : Hp) (Q : VK) (h : tF K cl W (eComp w t tt (own.map (·.2)) fe) σ H Q) :
    tLc (tI K cl W w) (t.g K) (tB1 K cl W0 tt) (tF K cl W0 fe) (own.map (·.2)) σ H Q := by
  obtain ⟨ρ, env, st, S, E, P⟩ := h
  refine ⟨ρ, env, st, S, E, ?_⟩
  unfold eComp at P
  cases hw : w env st with
  | bad => rw [hw] at P; exact P
  | exc x st1 => rw [hw] at P; exact P
  | ok k st1 =>
    rw [hw, R.bind_ok] at P
    split at P
    rotate_left
    · exact P.elim
    rename_i hlen
    intro ρ1 H1 J base x1 S1 so b1 g1 D hD
    have nD : ∀ {ρ' : List Addr} {H' : Hp}, Ext ρ1 (upd H1 D (.lst [])) ρ' H' → D ∉ ρ' := fun x => (x.same D _ upd_same (fun z => by
      obtain ⟨o, e, _⟩ := S1.obj z
      rw [hD] at e; cases e)).2
    have nD1 : D ∉ ρ1 := fun z => by
      obtain ⟨o, e, _⟩ := S1.obj z
      rw [hD] at e; cases e
    have D0 : H D = none := x1.free S1 hD
    generalize hwv : own.map (·.2) = vs at *
    refine ⟨fun i m H' => m = k.l.length - i ∧ i ≤ k.l.length ∧ ∃ ρ' st' acc accl, RS K ρ' H' cl st' ∧ Ext ρ1 H1 ρ' H' ∧ H' D = some (.lst acc) ∧ D ∉ ρ' ∧ RDs K ρ' H' accl acc ∧ accl.length ≤ i ∧ k.gd st' ∧
        Post K cl W σ (relV K) ρ H ((compL k.gd t tt fe (wipeE env vs) (k.l.drop i) st').bind fun r st2 => .ok (.t (accl ++ r)) st2) Q,
      ⟨k.l.length, by simp, Nat.zero_le _, ρ1, st1, [], [], S1.new hD, Ext.new hD, upd_same, nD1, rfl, Nat.le_refl _, g1, P⟩, ?_⟩
    rintro i m H2 ⟨rfl, hi2, ρ2, st2, acc, accl, S2, x2, hD2, nD2, ra, hacc, g2, P2⟩
    have b2 := so.keep S1 b1 x2
    have E2 : RE K ρ2 H2 (L2.wipe σ vs) (wipeE env vs) := ((E.mono (x1.mono S)).mono (x2.mono S1)).wipe vs
    by_cases hlt : i < k.l.length
    rotate_left
    · have hi3 : i = k.l.length := by omega
      subst hi3
      rw [List.drop_length] at P2
      refine .inl ⟨so.stop S2 b2 g2 (Nat.le_refl _), ?_⟩
      simp only [compL, R.bind_ok, List.append_nil] at P2
      exact P2 ρ2 H2 _ (x1.trans x2) S2 ⟨D, acc, rfl, hD2, nD2, D0, ra⟩
    refine .inr ⟨so.go S2 b2 g2 hlt, fun H' => ∃ ρ' st' acc accl, RS K ρ' H' cl st' ∧ Ext ρ1 H1 ρ' H' ∧ H' D = some (.lst acc) ∧ D ∉ ρ' ∧ RDs K ρ' H' accl acc ∧ accl.length ≤ i + 1 ∧ k.gd st' ∧
        Post K cl W σ (relV K) ρ H ((compL k.gd t tt fe (wipeE env vs) (k.l.drop (i + 1)) st').bind fun r st2 => .ok (.t (accl ++ r)) st2) Q, fun H' h => ⟨k.l.length - (i + 1), by omega, rfl, hlt, h⟩, fun x H3 y => ?_⟩
    obtain ⟨d, hd, x3, S3, r3⟩ := so.yld S2 b2 g2 y hlt
    have hD3 := x3.keep hD2 nD2 (fun _ z => by cases z)
    have x13 := x2.trans x3
    have ra3 := RDs.mono (x3.mono S2) _ _ ra
    have e1 : k.l.drop i = d :: k.l.drop (i + 1) := by
      rw [List.drop_eq_getElem_cons hlt]
      rw [List.getElem?_eq_getElem hlt] at hd
      cases hd; rfl
    rw [e1] at P2
    simp only [compL] at P2
    split at P2
    rotate_left
    · exact P2.elim
    rename_i env3 he
    refine Tg.okW ho (E2.mono (x3.mono S2)) r3 he fun σ3 E3 hw3 => ⟨hw3.trans wipe_wipe, ?_⟩
    refine ⟨ρ2, env3, st2, S3, E3, ?_⟩
    cases ht : tt env3 st2 with
    | bad => rw [ht] at P2; exact P2.elim
    | exc x st4 => rw [ht] at P2; exact P2.elim
    | ok c st4 =>
      rw [ht, R.bindN_ok] at P2
      intro ρ4 H4 c' x4 S4 hc
      have hc : c = c' := hc
      subst hc
      have hD4 := x4.keep hD3.1 hD3.2 (fun _ z => by cases z)
      have x14 := x13.trans x4
      have ra4 := RDs.mono (x4.mono S3) _ _ ra3
      cases c with
      | false =>
        rw [if_neg Bool.false_ne_true] at P2 ⊢
        split at P2
        · rename_i hg
          exact ⟨ρ4, st4, acc, accl, S4, x14, hD4.1, hD4.2, ra4, by omega, hg, P2⟩
        · exact P2.elim
      | true =>
        rw [if_pos rfl] at P2 ⊢
        refine ⟨ρ4, env3, st4, S4, E3.mono (x4.mono S3), ?_⟩
        cases hf : fe env3 st4 with
        | bad => rw [hf] at P2; exact P2.elim
        | exc x st5 => rw [hf] at P2; exact P2.elim
        | ok a st5 =>
          rw [hf, R.bindN_ok] at P2
          intro ρ5 H5 v x5 S5 r5
          obtain ⟨d', st6, ρ6, e6, x6, S6, r6, m6⟩ := mat_ok S5 x5 r5
          rw [e6, R.bind_ok] at P2
          have hD6 := x6.keep hD4.1 hD4.2 (fun _ z => by cases z)
          have ra6 := RDs.mono (x6.mono S4) _ _ ra4
          split at P2
          · rename_i hg
            obtain ⟨S7, m7⟩ := S6.other (ws := acc ++ [v]) hD6.1 hD6.2
            refine ⟨acc, hD6.1, ?_, ρ6, st6, acc ++ [v], accl ++ [d'], S7, ⟨(x14.trans x6).pre, fun b o hb nb => ?_, fun b o u hb => by rw [upd_ne (fun z => by rw [z, hD] at hb; cases hb)]; exact (x14.trans x6).frz b o u hb⟩, upd_same, hD6.2, RDs.mono m7 _ _ (ra6.append ⟨v, [], rfl, r6, rfl⟩), by rw [List.length_append]; show accl.length + 1 ≤ _; omega, hg, ?_⟩
            · rw [← RDs.length ra4, sLine_eq]; omega
            · obtain ⟨h1, h2⟩ := (x14.trans x6).same b o hb nb
              exact ⟨by rw [upd_ne (ne_of_none hb hD)]; exact h1, h2⟩
            · rw [R.bind_push] at P2
              exact P2
          · exact P2.elim
theorem de_comp (hc : X.calm = true) (hN : X.N.Nodup) (hi : PI X tg iter (tI X.K cl W w)) (ok : BlkOk X.N X.env.scope scope own) (ho : ∀ i ∈ t.ix, i ∈ own.map (·.2))
    (hg : ∀ (s : Shared) (H : Hp) (C : Addr) (c : List (Str × Addr)) (fp : List Addr), PG (X.blk s H scope (compEnvC scope c C X.env) fp) tg (t.g X.K))
    (ht : ∀ (s : Shared) (H : Hp) (C : Addr) (c : List (Str × Addr)) (fp : List Addr), PTs (X.blk s H scope (compEnvC scope c C X.env) fp) ifs (tB1 X.K cl W0 tt))
    (he : ∀ (s : Shared) (H : Hp) (C : Addr) (c : List (Str × Addr)) (fp : List Addr), PE (X.blk s H scope (compEnvC scope c C X.env) fp) elt (tF X.K cl W0 fe)) (hs : ∀ x, foldedSetIterable iter X.env x = pure x) :
    PE X (.ListComp elt [⟨tg, iter, ifs, 0⟩] scope pos) (tF X.K cl W (eComp w t tt (own.map (·.2)) fe)) :=
  PEw (pe_lc hc hN hi ok hg ht he hs) (w_comp ho)
theorem ds_setComp {i : Nat} {y : Str} {py spos : Pos} (hc : X.calm = true) (hN : X.N.Nodup) (hy : X.N[i]? = some y) (hyl : X.env.scope.names.lookup y = some .local)
    (hsw : swapsWith (.ListComp elt [⟨tg, iter, ifs, 0⟩] scope pos) (some (.Name y py)) spos.line X.env = pure true) (hi : PI X tg iter (tI X.K cl W w)) (ok : BlkOk X.N X.env.scope scope own) (ho : ∀ i ∈ t.ix, i ∈ own.map (·.2))
    (hg : ∀ (s : Shared) (H : Hp) (C : Addr) (c : List (Str × Addr)) (fp : List Addr), PG (X.blk s H scope (compEnvC scope c C X.env) fp) tg (t.g X.K))
    (ht : ∀ (s : Shared) (H : Hp) (C : Addr) (c : List (Str × Addr)) (fp : List Addr), PTs (X.blk s H scope (compEnvC scope c C X.env) fp) ifs (tB1 X.K cl W0 tt))
    (he : ∀ (s : Shared) (H : Hp) (C : Addr) (c : List (Str × Addr)) (fp : List Addr), PE (X.blk s H scope (compEnvC scope c C X.env) fp) elt (tF X.K cl W0 fe)) (hs : ∀ x, foldedSetIterable iter X.env x = pure x) :
    PS X (.Assign [.Name y py] (.ListComp elt [⟨tg, iter, ifs, 0⟩] scope pos) spos) (tS X.K cl W (sSet i (eComp w t tt (own.map (·.2)) fe))) := by
  refine PSw (ps_setLc hc hN hy hyl hsw hi ok hg ht he hs) fun D σ H h => ?_
  exact w_comp ho σ H _ (by
    obtain ⟨ρ, env, st, S, E, P⟩ := h
    refine ⟨ρ, env, st, S, E, (PostS.toS (rel := relV X.K) S E P).mono ?_⟩
    rintro x H1 ⟨ρ1, st1, a, x1, S1, r1, P1⟩
    obtain ⟨d, st2, ρ2, e2, x2, S2, r2, m2⟩ := mat_ok S1 x1 r1
    rw [e2, R.toS_ok] at P1
    exact P1 ρ2 H1 _ x2 S2 (((E.mono (x1.mono S)).mono m2).set i r2))
theorem dts_nil : PTs X [] (tB1 X.K cl W ttYes) := ⟨fun pins s σ H Q I ⟨ρ, env, st, S, E, P⟩ => (pts_nil (X := X)).run pins s σ H Q I (P ρ H true (Ext.refl _ _) S rfl)⟩
theorem dts_one {c : Expr} {g : SEnv → Store → R Bool} (h : PT X c (tB1 X.K cl W g)) : PTs X [c] (tB1 X.K cl W g) := pts_one h
end
end Ev

/-! ## Ev8 -/
set_option Elab.async false
set_option linter.all false
set_option maxRecDepth 100000
/-! Ev8: calls of the text's own defs. -/
namespace Ev
open PySem PySem.Spec PyProof.Rows L2

/-! ### leaving a def: what it made for itself is forgotten -/
def Cell.low (n : Nat) : Cell → Bool
  | .lst l => D.lows n l
  | .dict _ kvs => kvs.all fun p => D.low n p.1 && D.low n p.2
  | .frd kvs => kvs.all fun p => D.low n p.1 && D.low n p.2
  | .dxt kvs => kvs.all fun p => D.low n p.1 && D.low n p.2
  | .ins _ fs => fs.all fun p => D.low n p.2
def Exn.low (n : Nat) (x : Exn) : Bool := x.fs.all fun p => D.low n p.2
def outV (n : Nat) (st' : Store) : RV → Option RV
  | .t l => if D.lows n l then some (.t l) else none
  | .v (.ref m) => if m < n then some (.v (.ref m)) else match st'[m]? with
    | some (.lst l) => if D.lows n l then some (.t l) else none
    | _ => none
  | .v d => if D.low n d then some (.v d) else none
/-- the older cells hold nothing new -/
def Keeps (st st' : Store) : Prop := ∀ (i : Nat) (c : Cell), i < st.length → st'[i]? = some c → st[i]? = some c ∨ Cell.low st.length c = true
open Classical in
noncomputable def leave (st : Store) (r : R RV) : R RV := match r with
  | .ok a st' => match outV st.length st' a with
    | some a' => if Keeps st st' then .ok a' (st'.take st.length) else .ok a st'
    | none => .ok a st'
  | .exc x st' => if Exn.low st.length x = true ∧ Keeps st st' then .exc x (st'.take st.length) else .exc x st'
  | .bad => .bad
def SR.toR (r : SR) : R RV := match r with
  | .nx _ st => .ok (.v .non) st
  | .ret a st => .ok a st
  | .exc x _ st => .exc x st
  | _ => .bad
def startE (n : Nat) (ds : List D) : SEnv := ds.map some ++ List.replicate (n - ds.length) none
noncomputable def callB (n : Nat) (g : SS) : List D → Store → R RV := fun ds st => leave st (g (startE n ds) st).toR
section
variable {K : PySem.W.Frag} {cl : CT} {ρ m : List Addr} {H : Hp} {st : Store}
mutual
theorem RD.down : ∀ (d : D) (v : V), RD K (ρ ++ m) H d v → D.low ρ.length d = true → RD K ρ H d v
  | .non, _, h, _ => h
  | .bl _, _, h, _ => h
  | .int _, _, h, _ => h
  | .str _, _, h, _ => h
  | .tup l, _, h, hl => by
    obtain ⟨a, vs, rfl, h1, h2⟩ := h
    exact ⟨a, vs, rfl, h1, RDs.down l vs h2 (by simpa [D.low] using hl)⟩
  | .rol l, _, h, hl => by
    obtain ⟨a, vs, rfl, h1, h2⟩ := h
    exact ⟨a, vs, rfl, h1, RDs.down l vs h2 (by simpa [D.low] using hl)⟩
  | .ref n, _, h, hl => by
    obtain ⟨a, rfl, h1⟩ := h
    have hn : n < ρ.length := by simpa [D.low] using hl
    rw [List.getElem?_append_left hn] at h1
    exact ⟨a, rfl, h1⟩
theorem RDs.down : ∀ (l : List D) (vs : List V), RDs K (ρ ++ m) H l vs → D.lows ρ.length l = true → RDs K ρ H l vs
  | [], _, h, _ => h
  | d :: l, _, h, hl => by
    obtain ⟨v, r, rfl, h1, h2⟩ := h
    simp only [D.lows, Bool.and_eq_true] at hl
    exact ⟨v, r, rfl, RD.down d v h1 hl.1, RDs.down l r h2 hl.2⟩
end
mutual
theorem RD.low : ∀ (d : D) (v : V), RD K ρ H d v → D.low ρ.length d = true
  | .non, _, h => by simp [D.low]
  | .bl _, _, h => by simp [D.low]
  | .int _, _, h => by simp [D.low]
  | .str _, _, h => by simp [D.low]
  | .tup l, _, h => by
    obtain ⟨a, vs, rfl, h1, h2⟩ := h
    simp only [D.low]; exact RDs.low l vs h2
  | .rol l, _, h => by
    obtain ⟨a, vs, rfl, h1, h2⟩ := h
    simp only [D.low]; exact RDs.low l vs h2
  | .ref n, _, h => by
    obtain ⟨a, rfl, h1⟩ := h
    simpa [D.low] using (List.getElem?_eq_some_iff.mp h1).1
theorem RDs.low : ∀ (l : List D) (vs : List V), RDs K ρ H l vs → D.lows ρ.length l = true
  | [], _, h => by simp [D.lows]
  | d :: l, _, h => by
    obtain ⟨v, r, rfl, h1, h2⟩ := h
    simp only [D.lows, Bool.and_eq_true]
    exact ⟨RD.low d v h1, RDs.low l r h2⟩
end
theorem RKey.low {d : D} {k : Key} {n : Nat} (h : RKey d k) : D.low n d = true := by cases h <;> simp [D.low]
theorem RKeys.low {n : Nat} : ∀ {l : List D} {ks : List Key}, RKeys l ks → D.lows n l = true
  | _, _, .nil => by simp [D.lows]
  | _, _, .cons h t => by simp only [D.lows, Bool.and_eq_true]; exact ⟨h.low, RKeys.low t⟩
theorem RKT.low {d : D} {k : List Key} {n : Nat} (h : RKT d k) : D.low n d = true := by
  cases h with
  | tup h => simp only [D.low]; exact h.low
mutual
theorem nkD_low {n : Nat} : ∀ {d : D} {k : NestedKey}, nkD d = some k → D.low n d = true
  | .non, _, _ => by simp [D.low]
  | .bl _, _, _ => by simp [D.low]
  | .int _, _, _ => by simp [D.low]
  | .str _, _, _ => by simp [D.low]
  | .tup l, _, h => by
    cases e : nkDs l with
    | none => simp [nkD, e] at h
    | some ks => simp only [D.low]; exact nkDs_low e
  | .rol _, _, h => by simp [nkD] at h
  | .ref _, _, h => by simp [nkD] at h
theorem nkDs_low {n : Nat} : ∀ {l : List D} {ks : List NestedKey}, nkDs l = some ks → D.lows n l = true
  | [], _, _ => by simp [D.lows]
  | d :: l, _, h => by
    cases e1 : nkD d with
    | none => simp [nkDs, e1] at h
    | some k =>
      cases e2 : nkDs l with
      | none => simp [nkDs, e1, e2] at h
      | some ks => simp only [D.lows, Bool.and_eq_true]; exact ⟨nkD_low e1, nkDs_low e2⟩
end
theorem RC.low {a : Addr} : ∀ {c : Cell}, RC K ρ H cl a c → Cell.low ρ.length c = true
  | .lst l, h => by obtain ⟨vs, _, h⟩ := h; exact RDs.low l vs h
  | .dict t l, h => by
    have k1 : ∀ (l : List (D × D)) vs, RKV K ρ H l vs → Cell.low ρ.length (.dict t l) = true := by
      intro l
      induction l with
      | nil => intro _ _; rfl
      | cons p l ih =>
        rintro _ ⟨k', v, r, rfl, h0, h1, h2⟩
        have := ih _ h2
        simp only [Cell.low, List.all_cons, Bool.and_eq_true] at this ⊢
        exact ⟨⟨h0.low, RD.low _ _ h1⟩, this⟩
    have k2 : ∀ (l : List (D × D)) vs, RKVT K ρ H l vs → Cell.low ρ.length (.dict t l) = true := by
      intro l
      induction l with
      | nil => intro _ _; rfl
      | cons p l ih =>
        rintro _ ⟨k', v, r, rfl, h0, h1, h2⟩
        have := ih _ h2
        simp only [Cell.low, List.all_cons, Bool.and_eq_true] at this ⊢
        exact ⟨⟨h0.low, RD.low _ _ h1⟩, this⟩
    obtain ⟨_, vs, _, h⟩ | ⟨_, vs, _, h⟩ := h
    · exact k1 _ _ h
    · exact k2 _ _ h
  | .frd l, h => by
    have k1 : ∀ (l : List (D × D)) vs, RKV K ρ H l vs → Cell.low ρ.length (.frd l) = true := by
      intro l
      induction l with
      | nil => intro _ _; rfl
      | cons p l ih =>
        rintro _ ⟨k', v, r, rfl, h0, h1, h2⟩
        have := ih _ h2
        simp only [Cell.low, List.all_cons, Bool.and_eq_true] at this ⊢
        exact ⟨⟨h0.low, RD.low _ _ h1⟩, this⟩
    obtain ⟨_, vs, _, h⟩ := h
    exact k1 _ _ h
  | .dxt l, h => by
    have k1 : ∀ (l : List (D × D)) vs, RKX K ρ H l vs → Cell.low ρ.length (.dxt l) = true := by
      intro l
      induction l with
      | nil => intro _ _; rfl
      | cons p l ih =>
        rintro _ ⟨nk, b, u, v, r, rfl, h0, _, _, _, h1, h2⟩
        have := ih _ h2
        simp only [Cell.low, List.all_cons, Bool.and_eq_true] at this ⊢
        exact ⟨⟨nkD_low h0, RD.low _ _ h1⟩, this⟩
    obtain ⟨xs, _, _, _, h⟩ := h
    exact k1 _ _ h
  | .ins c fs, h => by
    obtain ⟨C, dx, vs, _, _, h⟩ := h
    have k1 : ∀ (l : List (Str × D)) vs, RFs K ρ H l vs → Cell.low ρ.length (.ins c l) = true := by
      intro l
      induction l with
      | nil => intro _ _; rfl
      | cons p l ih =>
        rintro _ ⟨v, r, rfl, h1, h2⟩
        have := ih _ h2
        simp only [Cell.low, List.all_cons, Bool.and_eq_true] at this ⊢
        exact ⟨RD.low _ _ h1, this⟩
    exact k1 _ _ h
theorem RFs.down : ∀ {l : List (Str × D)} {vs : List (Str × V)}, RFs K (ρ ++ m) H l vs → (l.all fun p => D.low ρ.length p.2) = true → RFs K ρ H l vs
  | [], _, h, _ => h
  | (f, d) :: l, _, h, hl => by
    obtain ⟨v, r, rfl, h1, h2⟩ := h
    simp only [List.all_cons, Bool.and_eq_true] at hl
    exact ⟨v, r, rfl, RD.down d v h1 hl.1, RFs.down h2 hl.2⟩
theorem RC.down {a : Addr} : ∀ {c : Cell}, RC K (ρ ++ m) H cl a c → Cell.low ρ.length c = true → RC K ρ H cl a c
  | .lst l, h, hl => by obtain ⟨vs, e, h⟩ := h; exact ⟨vs, e, RDs.down l vs h hl⟩
  | .dict t l, h, hl => by
    have k1 : ∀ (l : List (D × D)) vs, RKV K (ρ ++ m) H l vs → Cell.low ρ.length (.dict t l) = true → RKV K ρ H l vs := by
      intro l
      induction l with
      | nil => intro _ h _; exact h
      | cons p l ih =>
        rintro _ ⟨k', v, r, rfl, h0, h1, h2⟩ hl
        simp only [Cell.low, List.all_cons, Bool.and_eq_true] at hl
        exact ⟨k', v, r, rfl, h0, RD.down _ _ h1 hl.1.2, ih _ h2 hl.2⟩
    have k2 : ∀ (l : List (D × D)) vs, RKVT K (ρ ++ m) H l vs → Cell.low ρ.length (.dict t l) = true → RKVT K ρ H l vs := by
      intro l
      induction l with
      | nil => intro _ h _; exact h
      | cons p l ih =>
        rintro _ ⟨k', v, r, rfl, h0, h1, h2⟩ hl
        simp only [Cell.low, List.all_cons, Bool.and_eq_true] at hl
        exact ⟨k', v, r, rfl, h0, RD.down _ _ h1 hl.1.2, ih _ h2 hl.2⟩
    obtain ⟨ht, vs, e, h⟩ | ⟨ht, vs, e, h⟩ := h
    · exact .inl ⟨ht, vs, e, k1 _ _ h hl⟩
    · exact .inr ⟨ht, vs, e, k2 _ _ h hl⟩
  | .frd l, h, hl => by
    have k1 : ∀ (l : List (D × D)) vs, RKV K (ρ ++ m) H l vs → Cell.low ρ.length (.frd l) = true → RKV K ρ H l vs := by
      intro l
      induction l with
      | nil => intro _ h _; exact h
      | cons p l ih =>
        rintro _ ⟨k', v, r, rfl, h0, h1, h2⟩ hl
        simp only [Cell.low, List.all_cons, Bool.and_eq_true] at hl
        exact ⟨k', v, r, rfl, h0, RD.down _ _ h1 hl.1.2, ih _ h2 hl.2⟩
    obtain ⟨o, vs, e, h⟩ := h
    exact ⟨o, vs, e, k1 _ _ h hl⟩
  | .dxt l, h, hl => by
    have k1 : ∀ (l : List (D × D)) vs, RKX K (ρ ++ m) H l vs → Cell.low ρ.length (.dxt l) = true → RKX K ρ H l vs := by
      intro l
      induction l with
      | nil => intro _ h _; exact h
      | cons p l ih =>
        rintro _ ⟨nk, b, u, v, r, rfl, h0, h3, h4, h5, h1, h2⟩ hl
        simp only [Cell.low, List.all_cons, Bool.and_eq_true] at hl
        exact ⟨nk, b, u, v, r, rfl, h0, h3, RD.down _ _ h4 hl.1.1, h5, RD.down _ _ h1 hl.1.2, ih _ h2 hl.2⟩
    obtain ⟨xs, h0, hn, e, h⟩ := h
    exact ⟨xs, h0, hn, e, k1 _ _ h hl⟩
  | .ins c fs, h, hl => by
    obtain ⟨C, dx, vs, e0, e, h⟩ := h
    exact ⟨C, dx, vs, e0, e, RFs.down h hl⟩
theorem RS.cut {ρ' : List Addr} {H' : Hp} {st' : Store} (S : RS K ρ H cl st) (x : Ext ρ H ρ' H') (S' : RS K ρ' H' cl st') (k : Keeps st st') : RS K ρ H' cl (st'.take st.length) := by
  obtain ⟨more, rfl⟩ := x.pre
  have hl : st.length ≤ st'.length := by
    rw [← S'.len, ← S.len, List.length_append]
    omega
  refine ⟨by rw [List.length_take, S.len]; omega, S.nd, fun i c a h1 h2 => ?_, S'.tab⟩
  have hi : i < st.length := by rw [← S.len]; exact (List.getElem?_eq_some_iff.mp h2).1
  rw [List.getElem?_take_of_lt hi] at h1
  have h3 : (ρ ++ more)[i]? = some a := by rw [List.getElem?_append_left (by rw [S.len]; exact hi)]; exact h2
  refine RC.down (S'.at_ i c a h1 h3) ?_
  rcases k i c hi h1 with e | e
  · exact RC.low (S.at_ i c a e h2)
  · rw [S.len]; exact e
theorem Ext.cut {ρ' : List Addr} {H' : Hp} (x : Ext ρ H ρ' H') : Ext ρ H ρ H' := by
  obtain ⟨more, rfl⟩ := x.pre
  exact ⟨⟨[], by simp⟩, fun a o h n => ⟨(x.same a o h n).1, n⟩, x.frz⟩
theorem outV_ok {ρ' : List Addr} {H' : Hp} {st' : Store} {a a' : RV} {v : V} (S : RS K ρ H cl st) (x : Ext ρ H ρ' H') (S' : RS K ρ' H' cl st') (r : RRV K ρ' H' H a v) (h : outV st.length st' a = some a') : RRV K ρ H' H a' v := by
  obtain ⟨more, rfl⟩ := x.pre
  rw [← S.len] at h
  cases a with
  | t l =>
    simp only [outV] at h
    split at h
    · rename_i hl
      cases h
      obtain ⟨p, vs, rfl, h1, h2, h3, h4⟩ := r
      exact ⟨p, vs, rfl, h1, fun z => h2 (List.mem_append_left _ z), h3, RDs.down l vs h4 hl⟩
    · cases h
  | v d =>
    cases d with
    | ref n =>
      simp only [outV] at h
      split at h
      · rename_i hl
        cases h
        exact RD.down _ _ r (by simpa [D.low] using hl)
      · rename_i hn
        split at h
        · rename_i l e
          split at h
          · rename_i hl
            cases h
            obtain ⟨p, rfl, hp⟩ := r
            obtain ⟨vs, h1, h2⟩ := S'.at_ _ _ _ e hp
            have np : p ∉ ρ := fun z => by
              rw [List.getElem?_append_right (by omega)] at hp
              exact (List.nodup_append.mp S'.nd).2.2 p z p (List.mem_of_getElem? hp) rfl
            refine ⟨p, vs, rfl, h1, np, ?_, RDs.down l vs h2 hl⟩
            cases q : H p with
            | none => rfl
            | some o => exact absurd (List.mem_of_getElem? hp) (x.same p o q np).2
          · cases h
        · cases h
    | _ =>
      simp only [outV] at h
      split at h
      · rename_i hl
        cases h
        exact RD.down (m := more) _ _ r hl
      · cases h
end
/-! ### what a call leaves -/
def PostC (K : PySem.W.Frag) (cl : CT) (ρ : List Addr) (H : Hp) (r : R RV) (Q : VK) (E : XK) : Prop := match r with
  | .ok a st' => ∀ ρ' H' v, Ext ρ H ρ' H' → RS K ρ' H' cl st' → RRV K ρ' H' H a v → Q v H'
  | .exc x st' => ∀ ρ' H' c d, Ext ρ H ρ' H' → RS K ρ' H' cl st' → RX K ρ' H' cl c d x → E c d H'
  | .bad => False
/-- the promise of a def that c describes -/
def spD (K : PySem.W.Frag) (cl : CT) (n : Nat) (c : List D → Store → R RV) : Sp := fun vs H Q E => ∃ ρ st ds, RS K ρ H cl st ∧ RDs K ρ H ds vs ∧ ds.length = n ∧ PostC K cl ρ H (c ds st) Q E
theorem PostC.body {K : PySem.W.Frag} {cl : CT} {ρ : List Addr} {H : Hp} {st : Store} {r : SR} {Q : VK} {E : XK} (S : RS K ρ H cl st) (h : PostC K cl ρ H (leave st r.toR) Q E) :
    PostS K cl (fun c d _ H => E c d H) ρ H r { nx := fun _ H' => Q .non H', rt := Q } := by
  have ret : ∀ a st', PostC K cl ρ H (leave st (.ok a st')) Q E → ∀ ρ' H' v, Ext ρ H ρ' H' → RS K ρ' H' cl st' → RRV K ρ' H' H a v → Q v H' := by
    intro a st' h ρ' H' v x S' r
    simp only [leave] at h
    split at h
    · rename_i a' e
      split at h
      · rename_i hk
        exact h ρ H' v x.cut (S.cut x S' hk) (outV_ok S x S' r e)
      · exact h ρ' H' v x S' r
    · exact h ρ' H' v x S' r
  cases r with
  | nx env st' => exact fun ρ' H' σ' x S' E' => ret (.v .non) st' h ρ' H' .non x S' rfl
  | ret a st' => exact fun ρ' H' v x S' r => ret a st' h ρ' H' v x S' r
  | exc e env st' =>
    intro ρ' H' σ' c d x S' E' r
    have h : PostC K cl ρ H (leave st (.exc e st')) Q E := h
    simp only [leave] at h
    split at h
    · rename_i hk
      refine h ρ H' c d x.cut (S.cut x S' hk.2) ?_
      obtain ⟨more, rfl⟩ := x.pre
      obtain ⟨C, h1, h2, h3⟩ := r
      refine ⟨C, h1, h2, ?_⟩
      rcases h3 with h3 | ⟨dx, vs, e1, e2, e3⟩
      · exact .inl h3
      · exact .inr ⟨dx, vs, e1, e2, RFs.down e3 (by rw [S.len]; exact hk.1)⟩
    · exact h ρ' H' c d x S' r
  | brk env st' => exact h.elim
  | ct env st' => exact h.elim
  | bad => exact h.elim
/-- what a def may let out: true: exceptions without a context alone -/
def CXm (μ : Bool) (P : Program) (w : World) : CXT := match μ with
  | true => L2N.CX P w
  | false => L2.CX P w
def TakesM (μ : Bool) (X : Cx) (W : WX) : Prop := match μ with
  | true => L2N.Takes X W
  | false => L2.Takes X W
theorem takesM_of {μ : Bool} {X : Cx} {E : XK} (hs : X.stack = X.env :: X.outer) (hf : X.env.frame = some X.env.locals) (hex : X.ex = []) {E₁ : Value → Shared → Prop}
    (hx : X.xe = fun e s' => wpAny (model X.prog X.w) X.A (leaving X.env e) (fun _ s'' => CXm μ X.prog X.w X.outer X.H_0 X.s_0 E e s'') E₁ s') : TakesM μ X (fun cls d _ H => E cls d H) := by
  cases μ with
  | true => exact L2N.takes_of hs hf hex hx
  | false => exact L2.takes_of hs hf hex hx
theorem takes0M {μ : Bool} {X : Cx} : TakesM μ X W0 := by
  cases μ with
  | true => exact fun u s' ⟨_, _, _, _, _, _, _, _, _, _, _, _, _, _, _, _, w⟩ => w.elim
  | false => exact takes0
/-- a def's promise, where no object is being shown -/
structure FnG (μ : Bool) (P : Program) (w : World) (K : PySem.W.Frag) (mg : Str → Option Value) (base : Heap) (k : Nat) (f : Addr) (fd : FuncData) (ps : List Str) (sp : Sp) : Prop where
  cnt : ∀ vs H Q E, sp vs H Q E → vs.length = ps.length
  go : ∀ (A : Around) (fr : List Env) (z : Shared) (H : Hp) (as : Args) (us : List Value) (vs : List V) (Q : VK) (E : XK), A.guards = some [] → Room k A → Env0 P w K mg base A fr z H → BindsTo z fd as (ps.zip us) → Vals vs us → sp vs H Q E →
    codeAny (model P w) A (.call (.ref f) as) (CR (CXm μ P w) fr P w H z Q E) z
theorem FnG.up {P : Program} {w : World} {K : PySem.W.Frag} {mg : Str → Option Value} {base : Heap} {j k : Nat} {f : Addr} {fd : FuncData} {ps : List Str} {sp : Sp} (F : FnG μ P w K mg base j f fd ps sp) (h : j ≤ k) : FnG μ P w K mg base k f fd ps sp :=
  ⟨F.cnt, fun A fr z H as us vs Q E hg hr => F.go A fr z H as us vs Q E hg (hr.mono h)⟩
section
variable {X : Cx} {cl : CT} {W : WX} {k : Nat} {f : Addr} {fd : FuncData} {ps : List Str} {c : List D → Store → R RV} {n : Nat}
/-- the callee runs -/
theorem run_G {pins : List (Addr × Obj)} {σ : L2.St} {H : Hp} {z : Shared} {Q : VK} {us : List Value} {vs : List V} {sp : Sp} {E : XK} {vd : List V} {ud : List Value} (F : FnG μ X.prog X.w X.K X.mg X.base k f fd ps sp) (hg : X.A.guards = some []) (hr : Room k X.A) (hb : Binds X.K fd ps ud) (hd : Vals vd ud)
    (hx : PassesAt (CXm μ X.prog X.w) X σ E) (I : Inv X pins σ H z) (r : Vals vs us) (h : sp (vs ++ vd) H Q E) : wpAny (model X.prog X.w) X.A (call (.ref f) us) (EP X pins σ Q) X.xe z := by
  have rr := r.append hd
  have hn : (us ++ ud).length = ps.length := rr.length.symm.trans (F.cnt _ _ _ _ h)
  have run := F.go X.A X.stack z H ⟨us, []⟩ (us ++ ud) (vs ++ vd) Q E hg hr I.env0 (hb z us I.kIn hn) rr h
  refine wpAny_call (codeAny_mono run fun res z' q => ?_)
  match res, q with
  | .error e, q => exact hx pins H z e z' I q
  | .ok (.ret u), q => exact I.after q
/-- what may be raised is taken, at the slots of the caller -/
theorem takesAt (tk : TakesM μ X W) (σ : L2.St) : PassesAt (CXm μ X.prog X.w) X σ (fun c d H => W c d σ H) := by
  cases μ with
  | true => exact fun pins H s e s' I c => tk e s' (L2N.XE.of_call I (fun cls d H' h => h) c)
  | false => exact fun pins H s e s' I c => tk e s' (L2.XE.of_call I (fun cls d H' h => h) c)
/-- f(e, ..) -/
def eCall (c : List D → Store → R RV) (dfl : List D) (fr : SEnv → Store → R (List D)) : SEnv → Store → R RV := fun env st => (fr env st).bind fun ds st1 => c (ds ++ dfl) st1
variable {x : Str} {p pos : Pos} {e : Expr} {es : List Expr} {fr : SEnv → Store → R (List D)} {dfl : List D} {dv : List V} {ud : List Value}
theorem de_call (F : FnG μ X.prog X.w X.K X.mg X.base k f fd ps (spD X.K cl n c)) (hgd : X.A.guards = some []) (hr : Room k X.A) (hg : Gl X x) (hm : X.mg x = some (.ref f)) (hk : PySem.W.keepIn X.K (.ref f) = true) (hb : Binds X.K fd ps ud) (hd : Vals dv ud)
    (hdd : ∀ ρ H, RDs X.K ρ H dfl dv) (tk : TakesM μ X W) (ha : PA X (e :: es) (tA1 X.K cl W fr)) (hdb : (x == ("__debug__" : Str)) = false) (he : starEach (e :: es) X.env = (false, eval e X.env) :: starEach es X.env) (hpl : (backTo pos (starEach es X.env)).any (·.1) = false)
    (hn : ∀ env st ds st1, fr env st = .ok ds st1 → (ds ++ dfl).length = n) : PE X (.Call (.Name x p) (e :: es) [] pos) (tF X.K cl W (eCall c dfl fr)) := by
  refine ⟨fun pins s σ H Q I ⟨ρ, env, st, S, E, P⟩ => ?_⟩
  refine wpAny_Call_Name_kw (ld_glob I hg hm ?_ hdb)
  have args : tA1 X.K cl W fr σ H fun vs H1 => spD X.K cl n c (vs ++ dv) H1 Q fun c' d H' => W c' d σ H' := by
    refine ⟨ρ, env, st, S, E, ?_⟩
    unfold eCall at P
    cases hf : fr env st with
    | bad => rw [hf] at P; exact P
    | exc x st1 => rw [hf] at P; exact P
    | ok ds st1 =>
      rw [hf] at P
      intro ρ1 H1 vs x1 S1 r1
      refine ⟨ρ1, st1, ds ++ dfl, S1, r1.append (hdd ρ1 H1), hn _ _ _ _ hf, ?_⟩
      have P1 := Post.from backV S1 x1 P
      simp only [R.bind_ok] at P1
      cases hc : c (ds ++ dfl) st1 with
      | ok a st2 => rw [hc] at P1; exact P1
      | exc x st2 => rw [hc] at P1; exact P1
      | bad => rw [hc] at P1; exact P1
  refine PySem.W.callWith_K (h₀ := X.base) I.ok.mod.kin hk (thn (ha.run pos pins s σ H _ I args) fun us s1 ⟨vs, H1, I1, r, q⟩ => ⟨I1.kIn, ?_⟩) he hpl
  exact run_G F hgd hr hb hd (takesAt tk σ) I1 r q
end
/-! ### a def by its body -/
theorem RE.atStart {K : PySem.W.Frag} {ρ : List Addr} {H : Hp} {N : List Str} {ds : List D} {vs : List V} (r : RDs K ρ H ds vs) (hl : vs.length ≤ N.length) : RE K ρ H (start N vs) (startE N.length ds) := by
  have e := r.length
  refine ⟨?_, fun i d h => ?_⟩
  · unfold L2.start startE
    simp only [List.length_append, List.length_map, List.length_replicate]
    omega
  · unfold startE at h
    by_cases hi : i < ds.length
    · rw [List.getElem?_append_left (by simpa using hi), List.getElem?_map, List.getElem?_eq_getElem hi] at h
      simp only [Option.map_some, Option.some.injEq] at h
      obtain ⟨v, h1, h2⟩ := r.get (List.getElem?_eq_getElem hi)
      refine ⟨v, ?_, by rw [← h]; exact h2⟩
      unfold L2.start
      rw [List.getElem?_append_left (by simp; omega), List.getElem?_map, h1]
      rfl
    · rw [List.getElem?_append_right (by simp; omega)] at h
      rw [List.getElem?_replicate] at h
      split at h <;> cases h
section
variable {P : Program} {w : World} {K : PySem.W.Frag} {mg : Str → Option Value} {base : Heap}
theorem fnG_of {k : Nat} {f : Addr} {x qual : Str} {st : Stmt} {fd : FuncData} {N ps : List Str} {sp : Sp} (F : Fun K x qual st f fd) (sc : FnScope N ps (defScope st)) (cnt : ∀ vs H Q E, sp vs H Q E → vs.length = ps.length)
    (body : ∀ (cdv : Value) (A : Around) (fr : List Env) (z : Shared) (H : Hp) (vs : List V) (Q : VK) (E : XK), A.guards = some [] → Room k (A.deeper (envOfC qual (defScope st) z.heap.objs.size f cdv)) → fd.code = cdv → sp vs H Q E →
      ∃ t, PSs (cxOf (CXm μ P w) P w K mg base N qual (defScope st) f cdv A fr z H E) (defBody st) t ∧ t { nx := fun _ H' => Q .non H', rt := Q } (start N vs) H) : FnG μ P w K mg base (k + 1) f fd ps sp := by
  obtain ⟨oc, od, kV, doc, pm, an, cdv, ct, osl, rfl, lk, hcd⟩ := F.ex
  refine ⟨cnt, fun A fr z H as us vs Q E hgd hroom ent hbind hvals hsp => ?_⟩
  have hcount := cnt _ _ _ _ hsp
  have hK : K.In z.heap := ent.mod.kin.keeps fun b o e => (ent.bs b o e).1
  have hlim : z.heap.NoLimit := ent.mod.nolimit.keeps fun b o e => (ent.bs b o e).1
  have hparams : ∀ y ∈ ps.zip us, (defScope st).names.lookup y.1 = some .local ∨ ((defScope st).names.lookup y.1 = some .cell ∧ ((cellsFrom (z.heap.objs.size + 1) (defScope st).names []).lookup y.1).isSome = true) := by
    rintro ⟨nm, val⟩ hy
    exact (sc.par nm (List.of_mem_zip hy).1).imp id fun q => ⟨q, PySem.W.cellsFrom_some _ _ _ (.inl q)⟩
  refine codeAny_call_function hroom.depth (hK _ _ lk) rfl sc.co sc.gen rfl (PySem.W.codeRec_of hK hcd) (hbind _ _ _ _ ?_)
  refine wpAny_newFunctionEnv_cells sc.kind hparams fun en hen z1 hin => ?_
  subst hen
  refine ⟨hlim.keeps hin.toInCall.keep, codeAny_func ?_⟩
  obtain ⟨t, ht, hq⟩ := body cdv A fr z H vs Q E hgd (hroom.deeper _) rfl hsp
  have I0 := inv_start (CX := CXm μ P w) (E := E) sc hroom.hd ent hcount hvals hin
  refine wpAny_mono (ht.run [] z1 (start N vs) H _ I0 hq) (fun fl z' hs => ?_) fun e z' hs => hs
  match fl, hs with
  | .ret u, ⟨v, σ', H', J, rv, q⟩ => exact ⟨v, H', J.os, J.bare, J.base, J.hok, rv, q⟩
  | .next, ⟨σ', H', J, q⟩ => exact ⟨V.non, H', J.os, J.bare, J.base, J.hok, rfl, q⟩
  | .brk, ⟨_, _, _, q⟩ => exact False.elim q
  | .cont, ⟨_, _, _, q⟩ => exact False.elim q
/-- THE RULE for a def that a denotation describes -/
theorem fn_den {cl : CT} {k : Nat} {f : Addr} {x qual : Str} {st : Stmt} {fd : FuncData} {N ps : List Str} {g : SS} (F : Fun K x qual st f fd) (sc : FnScope N ps (defScope st))
    (body : ∀ (cdv : Value) (A : Around) (fr : List Env) (z : Shared) (H : Hp) (E : XK), A.guards = some [] → Room k (A.deeper (envOfC qual (defScope st) z.heap.objs.size f cdv)) → fd.code = cdv →
      PSs (cxOf (CXm μ P w) P w K mg base N qual (defScope st) f cdv A fr z H E) (defBody st) (tS K cl (fun c d _ H => E c d H) g)) : FnG μ P w K mg base (k + 1) f fd ps (spD K cl ps.length (callB N.length g)) := by
  refine fnG_of F sc (fun vs H Q E h => ?_) fun cdv A fr z H vs Q E hg hr hco h => ⟨_, body cdv A fr z H E hg hr hco, ?_⟩
  · obtain ⟨ρ, st', ds, _, r, hl, _⟩ := h
    rw [← r.length]; exact hl
  · obtain ⟨ρ, st', ds, S, r, hl, Pc⟩ := h
    have hN : ps.length ≤ N.length := by
      have e := congrArg List.length sc.pre
      rw [List.length_take] at e
      omega
    exact ⟨ρ, startE N.length ds, st', S, RE.atStart r (by rw [← r.length, hl]; exact hN), PostC.body S Pc⟩
end
end Ev

/-! ## Ev8e -/
set_option Elab.async false
set_option linter.all false
set_option maxRecDepth 100000
set_option maxHeartbeats 1000000
/-! Ev8e: list.extend of a list or a tuple. -/
namespace Ev
open PySem PySem.Spec PyProof.Rows L2
open PySem.AutoSeq1 (wpAny_loadPart')
theorem extend_tup (l : Addr) (items : Array Value) (n : Nat) (b : Addr) (items2 : Array Value) (n2 : Nat) (dd : Option Addr) (sl : Array (Option Value)) (hs0 : ¬(!items.isEmpty && Builtin.List.listTooLong (items.size + items2.size)) = true) (hs1 : items.size ≤ sizeLine) (hs2 : items.size + items2.size ≤ sizeLine + 1) :
    Meets (Builtin.«list.extend» ⟨[.ref l, .ref b], []⟩) (fun _ R s => s.heap.get? l = some { cls := .type "list", dict := none, data := .seq items n, slots := #[] } ∧ s.heap.get? b = some { cls := .type "tuple", dict := dd, data := .seq items2 n2, slots := sl } ∧ R (.ok (.ret Value.none)) { s with heap := s.heap.update l (Obj.mapSeq fun x => x ++ items2), toks := s.toks }) :=
  .of_wp fun prog w A R s h => by
    obtain ⟨hp, g, d, tk, os⟩ := s; obtain ⟨hl, hb, h⟩ := h; have f1 := AutoSeq1.idx_int; have f2 := AutoSeq1.sub_tuple_tuple; have f3 := AutoSeq1.sub_list_list; have f4 := AutoSeq1.sub_tuple_list; have f5 := AutoSeq1.sub_list_tuple;
    have hz' : (items ++ items2).size ≤ sizeLine + 1 := by rw [Array.size_append]; exact hs2
    wp_walk using (wpAny_updateSeq hl rfl (hz := hs1) (_hz' := hz')), wpAny_loadPart' hl, wpAny_loadPart' hb; exact ⟨_, rfl, h⟩
def rExtX (K : PySem.W.Frag) : V → List V → Hp → VK → Prop := fun x vs H Q => ∃ l b xs zs, x = .ref l ∧ vs = [.ref b] ∧ H l = some (.lst xs) ∧ (H b = some (.lst zs) ∨ SqT K H b zs) ∧ xs.length + zs.length ≤ sizeLine ∧ Q .non (upd H l (.lst (xs ++ zs)))
theorem mt_extX {X : Cx} : MtM X "list.extend" (rExtX X.K) := by
  intro pins s σ H x vs v us Q I rx rv h
  obtain ⟨l, b, xs, zs, rfl, rfl, hH, hB | hB, hz, q⟩ := h
  · exact mt_extend pins s σ H _ _ v us Q I rx rv ⟨l, b, xs, zs, rfl, rfl, hH, hB, hz, q⟩
  · cases rx
    obtain ⟨u, rfl, ru⟩ := rv.one
    cases ru
    obtain ⟨z, its, n, r, hl, e⟩ := I.lstM hH
    obtain ⟨its2, r2, tp, hl2⟩ := I.tuple hB
    obtain ⟨⟨cls, dd, data, sl⟩, ho, hc, n2, hd⟩ := tp
    simp only at hc hd
    subst hc hd
    have hsz : its.toArray.size + its2.toArray.size ≤ sizeLine := by rw [List.size_toArray, List.size_toArray, ← r2.length]; omega
    have hlong : ¬ (!its.toArray.isEmpty && Builtin.List.listTooLong (its.toArray.size + its2.toArray.size)) = true := by
      rw [notLongL hsz, Bool.and_false]
      exact Bool.false_ne_true
    refine call_meets PySem.F.slot_list_extend ⟨_, e, rfl⟩ PySem.F.entry_list_extend (PySem.F.args_list_extend_2 _ _)
      (extend_tup l its.toArray n b its2.toArray n2 dd sl hlong (by rw [List.size_toArray]; omega) (by omega)) ⟨e, ho, ?_⟩
    refine ⟨.non, _, I.lset (its' := its ++ its2) hH e (by simp) (r.append r2) ?_, rfl, q⟩
    rw [List.length_append]
    omega
/-- a list or a tuple, to be read -/
def seqM (st : Store) : RV → Option (List D)
  | .v (.tup l) => some l
  | a => lstM st a
theorem seqM_ok {K : PySem.W.Frag} {cl : CT} {ρ : List Addr} {H H0 : Hp} {st : Store} {a : RV} {x : V} {l : List D} (S : RS K ρ H cl st) (r : RRV K ρ H H0 a x) (h : seqM st a = some l) : ∃ p vs, x = .ref p ∧ (H p = some (.lst vs) ∨ SqT K H p vs) ∧ RDs K ρ H l vs := by
  have go : lstM st a = some l → ∃ p vs, x = .ref p ∧ (H p = some (.lst vs) ∨ SqT K H p vs) ∧ RDs K ρ H l vs := fun h => by
    obtain ⟨p, vs, e, h1, h2⟩ := lstM_ok S r h
    exact ⟨p, vs, e, .inl h1, h2⟩
  cases a with
  | t l' => exact go h
  | v d =>
    cases d with
    | tup l' =>
      obtain ⟨p, vs, rfl, h1, h2⟩ := r
      cases h
      exact ⟨p, vs, rfl, .inr h1, h2⟩
    | _ => exact go h
end Ev

/-! ## Ev9 -/
set_option Elab.async false
set_option linter.all false
set_option maxRecDepth 100000
/-! Ev9: methods of lists and texts, stores to places. -/
namespace Ev
open PySem PySem.Spec PyProof.Rows L2

/-! ### list.append, list.extend, list.pop -/
/-- a method of a list that may be written: new arguments become cells; the result, the list behind -/
def eMtL (g : List D → List D → Option (D × List D)) (fo : SEnv → Store → R RV) (fr : SEnv → Store → R (List D)) : SEnv → Store → R RV := fun env st =>
  (fo env st).bind fun o st1 => match o with
    | .v (.ref n) => match st1[n]? with
      | some (.lst _) => (fr env st1).bind fun ds st2 => match st2[n]? with
        | some (.lst l) => match g ds l with
          | some (d, l') => .ok (.v d) (st2.set n (.lst l'))
          | none => .bad
        | _ => .bad
      | _ => .bad
    | _ => .bad
section
variable {X : Cx} {cl : CT} {W : WX} {o e : Expr} {es : List Expr} {fo : SEnv → Store → R RV} {fr : SEnv → Store → R (List D)} {g : List D → List D → Option (D × List D)} {r : V → List V → Hp → VK → Prop}
/-- how the method's rule serves g -/
def MtG (K : PySem.W.Frag) (r : V → List V → Hp → VK → Prop) (g : List D → List D → Option (D × List D)) : Prop :=
  ∀ {ρ : List Addr} {H : Hp} {p : Addr} {vs ws : List V} {ds l l' : List D} {d : D} {Q : VK}, H p = some (.lst vs) → RDs K ρ H l vs → RDs K ρ H ds ws → g ds l = some (d, l') →
    (∀ v vs', RD K ρ H d v → RDs K ρ H l' vs' → Q v (upd H p (.lst vs'))) → r (.ref p) ws H Q
theorem w_mtl {K : PySem.W.Frag} (hr : MtG K r g) (σ : L2.St) (H : Hp) (Q : VK) (h : tF K cl W (eMtL g fo fr) σ H Q) : tBM K "list" r (tF K cl W fo) (tA1 K cl W fr) σ H Q := by
  obtain ⟨ρ, env, st, S, E, P⟩ := h
  refine ⟨ρ, env, st, S, E, (Post.bind backV P).mono ?_⟩
  rintro x H1 ⟨ρ1, st1, a, x1, S1, r1, P1⟩
  split at P1
  rotate_left
  · exact P1.elim
  rename_i n
  split at P1
  rotate_left
  · exact P1.elim
  rename_i l0 e0
  obtain ⟨p, rfl, hp⟩ := r1
  obtain ⟨vs0, h0, _⟩ := S1.at_ _ _ _ e0 hp
  refine ⟨.inl ⟨rfl, vs0, SqL.of h0⟩, ρ1, env, st1, S1, E.mono (x1.mono S), (Post.bind backV P1).mono ?_⟩
  rintro xs H2 ⟨ρ2, st2, ds, x2, S2, r2, P2⟩
  split at P2
  rotate_left
  · exact P2.elim
  rename_i l e
  split at P2
  rotate_left
  · exact P2.elim
  rename_i d l' hg
  obtain ⟨m, em⟩ := x2.pre
  have hp2 : ρ2[n]? = some p := by
    rw [em, List.getElem?_append_left (List.getElem?_eq_some_iff.mp hp).1]
    exact hp
  obtain ⟨vs, h1, h2⟩ := S2.at_ _ _ _ e hp2
  refine hr h1 h2 r2 hg fun v vs' rv rvs => ?_
  have x3 : Ext ρ2 H2 ρ2 (upd H2 p (.lst vs')) := Ext.put (List.mem_of_getElem? hp2) h1 (fun _ _ z => by cases z)
  have m3 := x3.mono S2
  exact P2 ρ2 _ v x3 (S2.put hp2 ⟨vs', upd_same, RDs.mono m3 _ _ rvs⟩) (RD.mono m3 _ _ rv)
end
def gAppend (ds l : List D) : Option (D × List D) := match ds with
  | [d] => if l.length < sLine then some (.non, l ++ [d]) else none
  | _ => none
def gPop (ds l : List D) : Option (D × List D) := match ds with
  | [] => match l.getLast? with
    | some d => some (d, l.dropLast)
    | none => none
  | _ => none
def gPopAt (ds l : List D) : Option (D × List D) := match ds with
  | [.int i] => match ixN l.length i with
    | some j => match l[j]? with
      | some d => if -(2 ^ 63) ≤ i ∧ i < 2 ^ 63 then some (d, l.eraseIdx j) else none
      | none => none
    | none => none
  | _ => none
theorem mg_append {K : PySem.W.Frag} : MtG K rAppend gAppend := by
  intro ρ H p vs ws ds l l' d Q hp hl hw hg q
  unfold gAppend at hg
  split at hg
  · rename_i d0
    split at hg
    · rename_i hz
      cases hg
      obtain ⟨w, r, rfl, h1, h2⟩ := hw
      have : r = [] := h2
      subst this
      exact ⟨p, vs, w, rfl, rfl, hp, by rw [← hl.length, sLine_eq]; exact hz, q .non _ rfl (hl.append ⟨w, [], rfl, h1, rfl⟩)⟩
    · cases hg
  · cases hg
theorem RDs.dropLast {K : PySem.W.Frag} {ρ : List Addr} {H : Hp} {l : List D} {vs : List V} (h : RDs K ρ H l vs) : RDs K ρ H l.dropLast vs.dropLast := by
  rw [List.dropLast_eq_take, List.dropLast_eq_take, h.length]
  exact h.take _
theorem RDs.eraseIdx {K : PySem.W.Frag} {ρ : List Addr} {H : Hp} : ∀ {l : List D} {vs : List V} (i : Nat), RDs K ρ H l vs → RDs K ρ H (l.eraseIdx i) (vs.eraseIdx i)
  | [], _, i, h => by
    have : _ = [] := h
    subst this; simp [RDs]
  | d :: l, _, 0, h => by
    obtain ⟨v, r, rfl, h1, h2⟩ := h
    exact h2
  | d :: l, _, i + 1, h => by
    obtain ⟨v, r, rfl, h1, h2⟩ := h
    exact ⟨v, _, rfl, h1, RDs.eraseIdx i h2⟩
theorem mg_pop {K : PySem.W.Frag} : MtG K rPop gPop := by
  intro ρ H p vs ws ds l l' d Q hp hl hw hg q
  unfold gPop at hg
  split at hg
  · split at hg
    · rename_i d0 e0
      cases hg
      have : ws = [] := hw
      subst this
      rw [List.getLast?_eq_getElem?, hl.length] at e0
      obtain ⟨w, h1, h2⟩ := hl.get e0
      exact ⟨p, vs, w, rfl, rfl, hp, h1, q w _ h2 hl.dropLast⟩
    · cases hg
  · cases hg
theorem mg_popAt {K : PySem.W.Frag} : MtG K rPopAt gPopAt := by
  intro ρ H p vs ws ds l l' d Q hp hl hw hg q
  unfold gPopAt at hg
  split at hg
  · rename_i i
    split at hg
    · rename_i j ej
      split at hg
      · rename_i d0 e0
        split at hg
        · rename_i hz
          cases hg
          obtain ⟨w, r, rfl, h1, h2⟩ := hw
          cases h1
          have : r = [] := h2
          subst this
          obtain ⟨w, h1, h2⟩ := hl.get e0
          exact ⟨p, vs, i, j, w, rfl, rfl, hp, hz.1, hz.2, by rw [← hl.length]; exact (ixN_seq ej).1, h1, q w _ h2 (hl.eraseIdx j)⟩
        · cases hg
      · cases hg
    · cases hg
  · cases hg
/-- l.extend(a list) -/
def eExtend (fo fa : SEnv → Store → R RV) : SEnv → Store → R RV := fun env st =>
  (fo env st).bind fun o st1 => match o with
    | .v (.ref n) => match st1[n]? with
      | some (.lst _) => (fa env st1).bind fun a st2 => match st2[n]?, seqM st2 a with
        | some (.lst l), some m => if l.length + m.length ≤ sLine then .ok (.v .non) (st2.set n (.lst (l ++ m))) else .bad
        | _, _ => .bad
      | _ => .bad
    | _ => .bad
section
variable {X : Cx} {cl : CT} {W : WX} {o e : Expr} {es : List Expr} {fo fa : SEnv → Store → R RV}
def one (fa : SEnv → Store → R RV) : SEnv → Store → R (List RV) := bCons fa bNil
theorem w_extend {K : PySem.W.Frag} (σ : L2.St) (H : Hp) (Q : VK) (h : tF K cl W (eExtend fo fa) σ H Q) : tBM K "list" (rExtX K) (tF K cl W fo) (tG K cl W (relR K) (one fa)) σ H Q := by
  obtain ⟨ρ, env, st, S, E, P⟩ := h
  refine ⟨ρ, env, st, S, E, (Post.bind backV P).mono ?_⟩
  rintro x H1 ⟨ρ1, st1, a, x1, S1, r1, P1⟩
  split at P1
  rotate_left
  · exact P1.elim
  rename_i n
  split at P1
  rotate_left
  · exact P1.elim
  rename_i l0 e0
  obtain ⟨p, rfl, hp⟩ := r1
  obtain ⟨vs0, h0, _⟩ := S1.at_ _ _ _ e0 hp
  refine ⟨.inl ⟨rfl, vs0, SqL.of h0⟩, ρ1, env, st1, S1, E.mono (x1.mono S), ?_⟩
  cases hf : fa env st1 with
  | bad => rw [hf] at P1; exact P1.elim
  | exc x st2 =>
    rw [hf] at P1
    show Post K cl W σ (relR K) ρ1 H1 ((fa env st1).bind _) _
    rw [hf]; exact P1
  | ok a st2 =>
    rw [hf] at P1
    show Post K cl W σ (relR K) ρ1 H1 ((fa env st1).bind _) _
    rw [hf]
    intro ρ2 H2 xs x2 S2 r2
    obtain ⟨v, r', rfl, r2, rn⟩ := r2
    have : r' = [] := rn
    subst this
    have P2 := Post.from backV S2 x2 P1
    simp only [R.bind_ok] at P2
    split at P2
    · rename_i l m e1 e2
      split at P2
      · rename_i hz
        obtain ⟨mo, em⟩ := x2.pre
        have hp2 : ρ2[n]? = some p := by
          rw [em, List.getElem?_append_left (List.getElem?_eq_some_iff.mp hp).1]
          exact hp
        obtain ⟨vs, h1, h2⟩ := S2.at_ _ _ _ e1 hp2
        obtain ⟨b, zs, rfl, h3, h4⟩ := seqM_ok S2 r2 e2
        refine ⟨p, b, vs, zs, rfl, rfl, h1, h3, by rw [← h2.length, ← h4.length, sLine_eq]; exact hz, ?_⟩
        have x3 : Ext ρ2 H2 ρ2 (upd H2 p (.lst (vs ++ zs))) := Ext.put (List.mem_of_getElem? hp2) h1 (fun _ _ z => by cases z)
        exact P2 ρ2 _ .non x3 (S2.put hp2 ⟨_, upd_same, RDs.mono (x3.mono S2) _ _ (h2.append h4)⟩) rfl
      · exact P2.elim
    · exact P2.elim
end
/-! ### methods of texts -/
def eMtS (g : List Nat → List RV → Store → Option RV) (fo : SEnv → Store → R RV) (fr : SEnv → Store → R (List RV)) : SEnv → Store → R RV := fun env st =>
  (fo env st).bind fun o st1 => match o with
    | .v (.str s) => (fr env st1).bind fun as st2 => lift (g s as st2) st2
    | _ => .bad
def MtSG (X : Cx) (cl : CT) (id : String) (g : List Nat → List RV → Store → Option RV) (r : V → List V → Hp → VK → Prop) : Prop :=
  ∀ {ρ : List Addr} {H H0 : Hp} {st : Store} {s : List Nat} {as : List RV} {vs : List V} {Q : VK}, RS X.K ρ H cl st → RRVs X.K ρ H H0 as vs → Prim X.K cl st ρ H (g s as st) Q → r (.str ⟨s.toArray⟩) vs H Q
section
variable {X : Cx} {cl : CT} {W : WX} {g : List Nat → List RV → Store → Option RV} {fo : SEnv → Store → R RV} {fr : SEnv → Store → R (List RV)} {id : String} {r : V → List V → Hp → VK → Prop}
theorem w_mts (hr : MtSG X cl id g r) (σ : L2.St) (H : Hp) (Q : VK) (h : tF X.K cl W (eMtS g fo fr) σ H Q) : tBM X.K "str" r (tF X.K cl W fo) (tG X.K cl W (relR X.K) fr) σ H Q := by
  obtain ⟨ρ, env, st, S, E, P⟩ := h
  refine ⟨ρ, env, st, S, E, (Post.bind backV P).mono ?_⟩
  rintro x H1 ⟨ρ1, st1, a, x1, S1, r1, P1⟩
  split at P1
  rotate_left
  · exact P1.elim
  rename_i s
  cases r1
  refine ⟨rfl, ρ1, env, st1, S1, E.mono (x1.mono S), (Post.bind backV P1).mono ?_⟩
  rintro xs H2 ⟨ρ2, st2, as, x2, S2, r2, P2⟩
  exact hr S2 r2 P2.prim
end
/-- the texts of a list of texts -/
def strsOf : List D → Option (List (List Nat))
  | [] => some []
  | .str s :: l => (strsOf l).map (s :: ·)
  | _ => none
/-- a list or a tuple -/
def seqV (st : Store) (a : RV) : Option (List D) := match a with
  | .v (.tup l) => some l
  | a => lstV st a
def gJoin (s : List Nat) (as : List RV) (st : Store) : Option RV := match as with
  | [a] => match seqV st a with
    | some l => match strsOf l with
      | some ps => if s = [] ∧ (ps.map (·.length)).sum ≤ sLine then some (.v (.str ps.flatten)) else none
      | none => none
    | none => none
  | _ => none
def gFind (s : List Nat) (as : List RV) (_ : Store) : Option RV := match as with
  | [.v (.str t)] => some (.v (.int (Txt.find ⟨s.toArray⟩ ⟨t.toArray⟩)))
  | _ => none
def gStarts (s : List Nat) (as : List RV) (_ : Store) : Option RV := match as with
  | [.v (.str t)] => some (.v (.bl (Txt.startswith ⟨s.toArray⟩ ⟨t.toArray⟩)))
  | _ => none
theorem strs_rds {K : PySem.W.Frag} {ρ : List Addr} {H : Hp} : ∀ {l : List D} {vs : List V} {ps : List (List Nat)}, RDs K ρ H l vs → strsOf l = some ps → vs = (ps.map fun p => (⟨p.toArray⟩ : Str)).map V.str
  | [], _, _, h, e => by
    have : _ = [] := h
    subst this
    cases e; rfl
  | d :: l, _, ps, h, e => by
    obtain ⟨v, r, rfl, h1, h2⟩ := h
    cases d with
    | str s =>
      simp only [strsOf] at e
      cases e2 : strsOf l with
      | none => rw [e2] at e; cases e
      | some qs =>
        rw [e2] at e
        cases e
        cases h1
        rw [strs_rds h2 e2]; rfl
    | _ => cases e
theorem joinL_nil : ∀ ps : List (List Nat), TL.joinL [] ps = ps.flatten
  | [] => rfl
  | [p] => by simp [TL.joinL]
  | p :: q :: r => by
    have := joinL_nil (q :: r)
    simp only [TL.joinL, List.nil_append, this, List.flatten_cons]
theorem join_nil (ps : List (List Nat)) : Txt.join (⟨([] : List Nat).toArray⟩ : Str) (ps.map fun p => (⟨p.toArray⟩ : Str)) = ⟨ps.flatten.toArray⟩ := by
  have h := TL.tl_join (⟨([] : List Nat).toArray⟩ : Str) (ps.map fun p => (⟨p.toArray⟩ : Str))
  have e : ((ps.map fun p => (⟨p.toArray⟩ : Str)).map TL.tl) = ps := by
    rw [List.map_map]
    conv => rhs; rw [← List.map_id ps]
    exact List.map_congr_left fun p _ => by simp [TL.tl]
  rw [e] at h
  have h2 : (Str.join (⟨([] : List Nat).toArray⟩ : Str) (ps.map fun p => (⟨p.toArray⟩ : Str))).cps.toList = ps.flatten := by
    have : TL.tl (⟨([] : List Nat).toArray⟩ : Str) = [] := rfl
    rw [this, joinL_nil] at h
    exact h
  rw [TL.join_eq]
  rw [← str_eta (Str.join _ _), h2]
section
variable {X : Cx} {cl : CT}
theorem ms_join : MtSG X cl "str.join" gJoin (fun x xs H Q => ∃ a p, ∃ ys : List Str, x = .str a ∧ xs = [.ref p] ∧ (SqL X.K H p (ys.map V.str) ∨ SqT X.K H p (ys.map V.str)) ∧
    (ys.map (·.length)).sum + ys.length * a.length ≤ 16777216 ∧ Q (.str (Txt.join a ys)) H) := by
  intro ρ H H0 st s as vs Q S ra q
  obtain ⟨c, hc⟩ : ∃ c, gJoin s as st = some c := ⟨_, q.choose_spec.1⟩
  have hc0 := hc
  unfold gJoin at hc
  split at hc
  · rename_i a
    split at hc
    · rename_i l el
      split at hc
      · rename_i ps ep
        split at hc
        · rename_i hz
          obtain ⟨rfl, hz⟩ := hz
          cases hc
          obtain ⟨v, r', rfl, ra, rn⟩ := ra
          have : r' = [] := rn
          subst this
          have fin : Q (.str (Txt.join (⟨([] : List Nat).toArray⟩ : Str) (ps.map fun p => (⟨p.toArray⟩ : Str)))) H := by
            rw [join_nil]
            exact fin_v (d := .str ps.flatten) S q hc0 rfl
          have hz' : ((ps.map fun p => (⟨p.toArray⟩ : Str)).map (·.length)).sum + (ps.map fun p => (⟨p.toArray⟩ : Str)).length * (⟨([] : List Nat).toArray⟩ : Str).length ≤ 16777216 := by
            rw [List.map_map, strlen]
            have : (ps.map ((fun x : Str => x.length) ∘ fun p => (⟨p.toArray⟩ : Str))) = ps.map (·.length) := List.map_congr_left fun p _ => strlen p
            rw [this]
            simpa [sLine] using hz
          have lists : lstV st a = some l → ∃ p, v = .ref p ∧ (SqL X.K H p ((ps.map fun p => (⟨p.toArray⟩ : Str)).map V.str) ∨ SqT X.K H p ((ps.map fun p => (⟨p.toArray⟩ : Str)).map V.str)) := by
            intro el
            obtain ⟨p, vs, rfl, h1, h2⟩ := lstV_ok S ra el
            rw [strs_rds h2 ep] at h1
            exact ⟨p, rfl, .inl h1⟩
          have both : ∃ p, v = .ref p ∧ (SqL X.K H p ((ps.map fun p => (⟨p.toArray⟩ : Str)).map V.str) ∨ SqT X.K H p ((ps.map fun p => (⟨p.toArray⟩ : Str)).map V.str)) := by
            unfold seqV at el
            split at el
            · cases el
              obtain ⟨p, vs, rfl, h1, h2⟩ := ra
              rw [strs_rds h2 ep] at h1
              exact ⟨p, rfl, .inr h1⟩
            · exact lists el
          obtain ⟨p, rfl, h⟩ := both
          exact ⟨_, p, _, rfl, rfl, h, hz', fin⟩
        · cases hc
      · cases hc
    · cases hc
  · cases hc
end
section
variable {X : Cx} {cl : CT}
theorem ms_find : MtSG X cl "str.find" gFind (fun x xs H Q => ∃ a b, x = .str a ∧ xs = [.str b] ∧ Q (.int (Txt.find a b)) H) := by
  intro ρ H H0 st s as vs Q S ra q
  obtain ⟨c, hc⟩ : ∃ c, gFind s as st = some c := ⟨_, q.choose_spec.1⟩
  have hc0 := hc
  unfold gFind at hc
  split at hc
  · obtain ⟨v, r', rfl, ra, rn⟩ := ra
    have : r' = [] := rn
    subst this
    cases ra
    exact ⟨_, _, rfl, rfl, fin_v (d := .int (Txt.find ⟨s.toArray⟩ _)) S q rfl rfl⟩
  · cases hc
theorem ms_starts : MtSG X cl "str.startswith" gStarts (fun x xs H Q => ∃ a b, x = .str a ∧ xs = [.str b] ∧ Q (.bl (Txt.startswith a b)) H) := by
  intro ρ H H0 st s as vs Q S ra q
  obtain ⟨c, hc⟩ : ∃ c, gStarts s as st = some c := ⟨_, q.choose_spec.1⟩
  have hc0 := hc
  unfold gStarts at hc
  split at hc
  · obtain ⟨v, r', rfl, ra, rn⟩ := ra
    have : r' = [] := rn
    subst this
    cases ra
    exact ⟨_, _, rfl, rfl, fin_v (d := .bl (Txt.startswith ⟨s.toArray⟩ _)) S q rfl rfl⟩
  · cases hc
end
/-! ### xs[i] = e -/
def sPutIx (fa fo fi : SEnv → Store → R RV) : SS := fun env st => (fa env st).toS env fun a st1 => (mat a st1).toS env fun d st2 => (fo env st2).toS env fun o st3 => (fi env st3).toS env fun i st4 => match o, i with
  | .v (.ref n), .v (.int k) => match st4[n]? with
    | some (.lst l) => match ixN l.length k with
      | some j => .nx env (st4.set n (.lst (l.set j d)))
      | none => .bad
    | _ => .bad
  | _, _ => .bad
section
variable {X : Cx} {cl : CT} {W : WX} {fa fo fi : SEnv → Store → R RV}
theorem w_putIx {K : PySem.W.Frag} (D : Ends) (σ : L2.St) (H : Hp) (h : tS K cl W (sPutIx fa fo fi) D σ H) : tAsg (tF K cl W fa) (gSub (tF K cl W fo) (tF K cl W fi) rSetL) D σ H := by
  obtain ⟨ρ, env, st, S, E, P⟩ := h
  refine ⟨ρ, env, st, S, E, (PostS.toS (rel := relV K) S E P).mono ?_⟩
  rintro x H1 ⟨ρ1, st1, a, x1, S1, r1, P1⟩
  obtain ⟨d, st2, ρ2, e2, x2, S2, r2, m2⟩ := mat_ok S1 x1 r1
  rw [e2, R.toS_ok] at P1
  have P2 := PostS.from S2 x2 P1
  have E2 := (E.mono (x1.mono S)).mono m2
  refine ⟨ρ2, env, st2, S2, E2, (PostS.toS (rel := relV K) S2 E2 P2).mono ?_⟩
  rintro y H3 ⟨ρ3, st3, o, x3, S3, r3, P3⟩
  have P3' := PostS.from S3 x3 P3
  have E3 := E2.mono (x3.mono S2)
  refine ⟨ρ3, env, st3, S3, E3, (PostS.toS (rel := relV K) S3 E3 P3').mono ?_⟩
  rintro z H4 ⟨ρ4, st4, i, x4, S4, r4, P4⟩
  have r3' := RRV.ext S3 x4 r3
  split at P4
  · rename_i n k
    split at P4
    · rename_i l e
      split at P4
      · rename_i j ej
        obtain ⟨p, rfl, hp⟩ := r3'
        cases r4
        obtain ⟨vs, h1, h2⟩ := S4.at_ _ _ _ e hp
        refine ⟨p, vs, k, j, rfl, rfl, h1, by rw [← h2.length]; exact ej, ?_⟩
        have x5 : Ext ρ4 H4 ρ4 (upd H4 p (.lst (vs.set j x))) := Ext.put (List.mem_of_getElem? hp) h1 (fun _ _ z => by cases z)
        have m5 := x5.mono S4
        have rd := RD.mono (x4.mono S3) _ _ (RD.mono (x3.mono S2) _ _ r2)
        exact P4 ρ4 _ σ (x4.trans x5) (S4.put hp ⟨_, upd_same, RDs.mono m5 _ _ (h2.set rd j)⟩) ((E3.mono (x4.mono S3)).mono m5)
      · exact P4.elim
    · exact P4.elim
  · exact P4.elim
end
end Ev

/-! ## Ev9a -/
set_option Elab.async false
set_option linter.all false
set_option maxRecDepth 100000
namespace Ev
open PySem PySem.Spec PyProof.Rows L2

def intsOf : List D → Option (List Int)
  | [] => some []
  | .int i :: r => (intsOf r).map (i :: ·)
  | _ :: _ => none
def blsOf : List D → Option (List Bool)
  | [] => some []
  | .bl i :: r => (blsOf r).map (i :: ·)
  | _ :: _ => none
@[simp] theorem intsOf_map (ns : List Int) : intsOf (ns.map D.int) = some ns := by
  induction ns with
  | nil => rfl
  | cons n ns ih => simp [intsOf, ih]
@[simp] theorem blsOf_map (ns : List Bool) : blsOf (ns.map D.bl) = some ns := by
  induction ns with
  | nil => rfl
  | cons n ns ih => simp [blsOf, ih]
theorem intsOf_ok : ∀ {l : List D} {ns : List Int}, intsOf l = some ns → l = ns.map D.int
  | [], ns, h => by cases h; rfl
  | d :: l, ns, h => by
    cases d with
    | int i =>
      simp only [intsOf] at h
      cases e : intsOf l with
      | none => rw [e] at h; cases h
      | some ms => rw [e] at h; cases h; rw [intsOf_ok e]; rfl
    | _ => cases h
theorem blsOf_ok : ∀ {l : List D} {ns : List Bool}, blsOf l = some ns → l = ns.map D.bl
  | [], ns, h => by cases h; rfl
  | d :: l, ns, h => by
    cases d with
    | bl i =>
      simp only [blsOf] at h
      cases e : blsOf l with
      | none => rw [e] at h; cases h
      | some ms => rw [e] at h; cases h; rw [blsOf_ok e]; rfl
    | _ => cases h
theorem strsOf_ok : ∀ {l : List D} {ns : List (List Nat)}, strsOf l = some ns → l = ns.map D.str
  | [], ns, h => by cases h; rfl
  | d :: l, ns, h => by
    cases d with
    | str i =>
      simp only [strsOf] at h
      cases e : strsOf l with
      | none => rw [e] at h; cases h
      | some ms => rw [e] at h; cases h; rw [strsOf_ok e]; rfl
    | _ => cases h
theorem RDs_int {K : PySem.W.Frag} {ρ : List Addr} {H : Hp} : ∀ {ns : List Int} {vs : List V}, RDs K ρ H (ns.map D.int) vs → vs = ns.map V.int
  | [], _, h => h
  | n :: ns, _, h => by
    obtain ⟨v, r, rfl, h1, h2⟩ := h
    rw [RDs_int h2]
    cases h1; rfl
theorem RDs_bl {K : PySem.W.Frag} {ρ : List Addr} {H : Hp} : ∀ {ns : List Bool} {vs : List V}, RDs K ρ H (ns.map D.bl) vs → vs = ns.map V.bl
  | [], _, h => h
  | n :: ns, _, h => by
    obtain ⟨v, r, rfl, h1, h2⟩ := h
    rw [RDs_bl h2]
    cases h1; rfl
theorem int_RDs (K : PySem.W.Frag) (ρ : List Addr) (H : Hp) : ∀ (ns : List Int), RDs K ρ H (ns.map D.int) (ns.map V.int)
  | [] => rfl
  | n :: ns => ⟨_, _, rfl, rfl, int_RDs K ρ H ns⟩
theorem str_RDs (K : PySem.W.Frag) (ρ : List Addr) (H : Hp) : ∀ (ns : List (List Nat)), RDs K ρ H (ns.map D.str) ((ns.map fun p => (⟨p.toArray⟩ : Str)).map V.str)
  | [] => rfl
  | n :: ns => ⟨_, _, rfl, rfl, str_RDs K ρ H ns⟩
def lMax : List Int → Int
  | [] => 0
  | [x] => x
  | x :: y :: r => max x (lMax (y :: r))
def lMin : List Int → Int
  | [] => 0
  | [x] => x
  | x :: y :: r => min x (lMin (y :: r))
theorem lMax_mem : ∀ {l : List Int}, l ≠ [] → lMax l ∈ l
  | [], h => absurd rfl h
  | [x], _ => by simp [lMax]
  | x :: y :: r, _ => by
    have := lMax_mem (l := y :: r) (by simp)
    simp only [lMax]
    by_cases h : x ≤ lMax (y :: r)
    · rw [Int.max_eq_right h]; exact List.mem_cons_of_mem _ this
    · rw [Int.max_eq_left (by omega)]; exact List.mem_cons_self ..
theorem lMax_le : ∀ {l : List Int} {x : Int}, x ∈ l → x ≤ lMax l
  | [x], y, h => by
    simp at h; subst h; exact Int.le_refl _
  | x :: y :: r, z, h => by
    simp only [lMax]
    rcases List.mem_cons.mp h with rfl | h
    · omega
    · have := lMax_le (l := y :: r) h
      omega
theorem lMin_mem : ∀ {l : List Int}, l ≠ [] → lMin l ∈ l
  | [], h => absurd rfl h
  | [x], _ => by simp [lMin]
  | x :: y :: r, _ => by
    have := lMin_mem (l := y :: r) (by simp)
    simp only [lMin]
    by_cases h : x ≤ lMin (y :: r)
    · rw [Int.min_eq_left h]; exact List.mem_cons_self ..
    · rw [Int.min_eq_right (by omega)]; exact List.mem_cons_of_mem _ this
theorem lMin_le : ∀ {l : List Int} {x : Int}, x ∈ l → lMin l ≤ x
  | [x], y, h => by
    simp at h; subst h; exact Int.le_refl _
  | x :: y :: r, z, h => by
    simp only [lMin]
    rcases List.mem_cons.mp h with rfl | h
    · omega
    · have := lMin_le (l := y :: r) h
      omega
def iSort (l : List Int) : List Int := l.mergeSort fun a b => decide (a ≤ b)
def sSort (l : List (List Nat)) : List (List Nat) := l.mergeSort fun a b => !decide (b < a)
theorem iSort_perm (l : List Int) : (iSort l).Perm l := List.mergeSort_perm _ _
theorem sSort_perm (l : List (List Nat)) : (sSort l).Perm l := List.mergeSort_perm _ _
theorem iSort_sorted (l : List Int) : (iSort l).Pairwise (· ≤ ·) := by
  have := List.pairwise_mergeSort (le := fun (a b : Int) => decide (a ≤ b)) (fun a b c h1 h2 => by simp at h1 h2 ⊢; omega) (fun a b => by simp; omega) l
  exact this.imp fun h => by simpa using h
theorem iSort_uniq {l m : List Int} (h : m.Perm l) (s : m.Pairwise (· ≤ ·)) : m = iSort l :=
  List.Perm.eq_of_pairwise (fun _ _ _ _ a b => Int.le_antisymm a b) s (iSort_sorted l) (h.trans (iSort_perm l).symm)
theorem nlt_trans {a b c : List Nat} (h1 : ¬ b < a) (h2 : ¬ c < b) : ¬ c < a := by
  have h1 : a ≤ b := h1
  have h2 : b ≤ c := h2
  exact List.le_trans h1 h2
theorem nlt_total (a b : List Nat) : ¬ b < a ∨ ¬ a < b := by
  by_cases h : b < a
  · exact .inr fun k => List.lt_irrefl a (List.lt_trans k h)
  · exact .inl h
theorem nlt_anti {a b : List Nat} (h1 : ¬ b < a) (h2 : ¬ a < b) : a = b := List.le_antisymm (α := Nat) h1 h2
theorem sSort_sorted (l : List (List Nat)) : (sSort l).Pairwise fun a b => ¬ b < a := by
  have := List.pairwise_mergeSort (le := fun (a b : List Nat) => !decide (b < a)) (fun a b c h1 h2 => by simp only [Bool.not_eq_true', decide_eq_false_iff_not] at h1 h2 ⊢; exact nlt_trans h1 h2) (fun a b => by
    simp only [Bool.or_eq_true, Bool.not_eq_true', decide_eq_false_iff_not]; exact nlt_total a b) l
  exact this.imp fun h => by simpa only [Bool.not_eq_true', decide_eq_false_iff_not] using h
theorem sSort_uniq {l m : List (List Nat)} (h : m.Perm l) (s : m.Pairwise fun a b => ¬ b < a) : m = sSort l :=
  List.Perm.eq_of_pairwise (le := fun a b => ¬ b < a) (fun _ _ _ _ a b => nlt_anti a b) s (sSort_sorted l) (h.trans (sSort_perm l).symm)
theorem rising_pw : ∀ (l : List Str) (p : Str), risingS p l = true → (p :: l).Pairwise fun a b => ¬ b.cps.toList < a.cps.toList
  | [], p, _ => by simp
  | x :: r, p, h => by
    simp only [risingS, Bool.and_eq_true, Bool.not_eq_true', ltCps_eq, decide_eq_false_iff_not] at h
    have ih := rising_pw r x h.2
    refine List.pairwise_cons.mpr ⟨fun y hy => ?_, ih⟩
    rcases List.mem_cons.mp hy with rfl | hy
    · exact h.1
    · exact nlt_trans h.1 ((List.pairwise_cons.mp ih).1 y hy)
theorem sorted_pw : ∀ (l : List Str), sortedS l = true → l.Pairwise fun a b => ¬ b.cps.toList < a.cps.toList
  | [], _ => .nil
  | x :: r, h => rising_pw r x h
theorem mk_cps (l : List Str) : (l.map fun x => x.cps.toList).map (fun p => (⟨p.toArray⟩ : Str)) = l := by
  rw [List.map_map]
  induction l with
  | nil => rfl
  | cons x l ih => rw [List.map_cons, ih]; simp [str_eta]
theorem cps_mk (l : List (List Nat)) : (l.map fun p => (⟨p.toArray⟩ : Str)).map (fun x => x.cps.toList) = l := by
  rw [List.map_map]
  induction l with
  | nil => rfl
  | cons x l ih => rw [List.map_cons, ih]; simp
def dSum (a : RV) (st : Store) : Option RV := match lstV st a with
  | some l => (intsOf l).map fun ns => .v (.int ns.sum)
  | none => none
def dAny (a : RV) (st : Store) : Option RV := match lstV st a with
  | some l => (blsOf l).map fun ns => .v (.bl (ns.any id))
  | none => none
def dAll (a : RV) (st : Store) : Option RV := match lstV st a with
  | some l => (blsOf l).map fun ns => .v (.bl (ns.all id))
  | none => none
def oMax (l : Option (List Int)) : Option RV := match l with
  | some (x :: r) => some (.v (.int (lMax (x :: r))))
  | _ => none
def oMin (l : Option (List Int)) : Option RV := match l with
  | some (x :: r) => some (.v (.int (lMin (x :: r))))
  | _ => none
def sMax (x : List Nat) (xs : List (List Nat)) : List Nat := xs.foldl (fun a y => if a < y then y else a) x
def oMaxS (l : Option (List (List Nat))) : Option RV := match l with
  | some (x :: r) => some (.v (.str (sMax x r)))
  | _ => none
def dMax1 (a : RV) (st : Store) : Option RV := match lstV st a with
  | some l => match intsOf l with
    | some ns => oMax (some ns)
    | none => oMaxS (strsOf l)
  | none => none
def dMin1 (a : RV) (st : Store) : Option RV := match lstV st a with
  | some l => oMin (intsOf l)
  | none => none
def oSort (o : Option (List Int)) (p : Option (List (List Nat))) : Option RV := match o with
  | some ns => some (.t ((iSort ns).map D.int))
  | none => match p with
    | some ss => if ss.length < 64 then some (.t ((sSort ss).map D.str)) else none
    | none => none
def tSort (st : Store) : RV → Option RV
  | .v (.tup l) => match intsOf l with
    | some ns => some (.t ((iSort ns).map D.int))
    | none => (strsOf l).map fun ss => .t ((sSort ss).map D.str)
  | .v (.ref n) => match st[n]? with
    | some (.dict false kvs) => match strsOf (kvs.map (·.1)) with
      | some ss => if ss.length < 64 then some (.t ((sSort ss).map D.str)) else none
      | none => none
    | _ => none
  | _ => none
def dSorted0 (a : RV) (st : Store) : Option RV := match lstV st a with
  | some l => oSort (intsOf l) (strsOf l)
  | none => tSort st a
def iShown (i : Int) : List Nat := (toString i : Str).cps.toList
def dStr (a : RV) (_ : Store) : Option RV := match a with
  | .v (.int i) => if i.natAbs.log2 < 1920 then some (.v (.str (iShown i))) else none
  | _ => none
section
variable {X : Cx} {cl : CT}
theorem cd_sum (hc : X.calm = true) : CallR X (.builtin "sum") (rPN X.K cl (g1 dSum)) := cd_1 (g1 := dSum) fun pins s σ H x u Q ρ st a H0 I ru S ra q => by
  obtain ⟨c, h, q⟩ := q
  unfold dSum at h
  split at h
  · rename_i l hl
    obtain ⟨p, vs, rfl, h1, h2⟩ := lstV_ok S ra hl
    cases e : intsOf l with
    | none => rw [e] at h; cases h
    | some ns =>
      rw [e] at h; cases h
      rw [intsOf_ok e] at h2
      rw [RDs_int h2] at h1
      exact cr_sum hc pins s σ H [_] [u] Q I (.cons ru .nil) ⟨p, ns, rfl, h1, q ρ H _ (Ext.refl _ _) S rfl⟩
  · cases h
theorem cd_any (hc : X.calm = true) : CallR X (.builtin "any") (rPN X.K cl (g1 dAny)) := cd_1 (g1 := dAny) fun pins s σ H x u Q ρ st a H0 I ru S ra q => by
  obtain ⟨c, h, q⟩ := q
  unfold dAny at h
  split at h
  · rename_i l hl
    obtain ⟨p, vs, rfl, h1, h2⟩ := lstV_ok S ra hl
    cases e : blsOf l with
    | none => rw [e] at h; cases h
    | some ns =>
      rw [e] at h; cases h
      rw [blsOf_ok e] at h2
      rw [RDs_bl h2] at h1
      exact cr_any hc pins s σ H [_] [u] Q I (.cons ru .nil) ⟨p, ns, rfl, h1, q ρ H _ (Ext.refl _ _) S rfl⟩
  · cases h
theorem cd_all (hc : X.calm = true) : CallR X (.builtin "all") (rPN X.K cl (g1 dAll)) := cd_1 (g1 := dAll) fun pins s σ H x u Q ρ st a H0 I ru S ra q => by
  obtain ⟨c, h, q⟩ := q
  unfold dAll at h
  split at h
  · rename_i l hl
    obtain ⟨p, vs, rfl, h1, h2⟩ := lstV_ok S ra hl
    cases e : blsOf l with
    | none => rw [e] at h; cases h
    | some ns =>
      rw [e] at h; cases h
      rw [blsOf_ok e] at h2
      rw [RDs_bl h2] at h1
      exact cr_all hc pins s σ H [_] [u] Q I (.cons ru .nil) ⟨p, ns, rfl, h1, q ρ H _ (Ext.refl _ _) S rfl⟩
  · cases h
theorem maxOf_mk : ∀ (xs : List (List Nat)) (x : List Nat), PySem.W.maxOf (⟨x.toArray⟩ : Str) (xs.map fun p => (⟨p.toArray⟩ : Str)) = ⟨(sMax x xs).toArray⟩
  | [], x => rfl
  | y :: ys, x => by
    have ih := fun z => maxOf_mk ys z
    simp only [PySem.W.maxOf, sMax, List.map_cons, List.foldl_cons] at ih ⊢
    have e : (PySem.W.DatumOrd.lt (⟨x.toArray⟩ : Str) (⟨y.toArray⟩ : Str) = true) ↔ x < y := by
      show decide ((⟨x.toArray⟩ : Str).cps.toList < (⟨y.toArray⟩ : Str).cps.toList) = true ↔ _
      rw [decide_eq_true_eq]
    by_cases h : x < y
    · rw [if_pos (e.mpr h), if_pos h]; exact ih y
    · rw [if_neg (fun z => h (e.mp z)), if_neg h]; exact ih x
theorem strs_are : ∀ {ps : List Str} {us : List Value}, Vals (ps.map V.str) us → StrsAre us ps
  | [], _, .nil => .nil
  | p :: ps, _, .cons ⟨t, e⟩ h => by subst e; exact .cons p t (strs_are h)
theorem cd_max1 (hc : X.calm = true) (hu : X.A.units + 64 < cLine) : CallR X (.builtin "max") (rPN X.K cl (g1 dMax1)) := cd_1 (g1 := dMax1) fun pins s σ H x u Q ρ st a H0 I ru S ra q => by
  obtain ⟨c, h, q⟩ := q
  have h0 := h
  unfold dMax1 at h
  split at h
  · rename_i l hl
    obtain ⟨p, vs, rfl, h1, h2⟩ := lstV_ok S ra hl
    split at h
    · rename_i ns0 e
      unfold oMax at h
      split at h
      · rename_i n ns e3
        cases h
        cases e3
        rw [intsOf_ok e] at h2
        rw [RDs_int h2] at h1
        refine cr_max hc pins s σ H [_] [u] Q I (.cons ru .nil) ⟨p, n :: ns, rfl, h1, by simp, fun m hm hle => ?_⟩
        have : m = lMax (n :: ns) := Int.le_antisymm (lMax_le hm) (hle _ (lMax_mem (by simp)))
        subst this
        exact q ρ H _ (Ext.refl _ _) S rfl
      · cases h
    · unfold oMaxS at h
      split at h
      · rename_i z zs e
        cases h
        have hv := strs_rds h2 e
        rw [hv] at h1
        cases ru
        obtain ⟨its, rv, pl, hz⟩ := I.list h1
        have hh : X.A.handled = none := I.ok.hd hc
        have sa := strs_are (ps := (z :: zs).map fun p => (⟨p.toArray⟩ : Str)) rv
        refine PySem.W.max_list_datum (x := (⟨z.toArray⟩ : Str)) (xs := zs.map fun p => (⟨p.toArray⟩ : Str)) hh pl.isList (by rw [List.toList_toArray]; exact PySem.W.HoldAll.of_strs sa) (by show X.A.units + 1 + 0 < cLine; omega) fun i v h' tk hi hold keep => ?_
        rw [maxOf_mk] at hold
        obtain ⟨as, rd⟩ := hold
        cases rd
        exact ⟨.str ⟨(sMax z zs).toArray⟩, H, I.kept (t' := tk) keep, ⟨_, rfl⟩, q ρ H _ (Ext.refl _ _) S rfl⟩
      · cases h
  · cases h
theorem cd_min1 (hc : X.calm = true) : CallR X (.builtin "min") (rPN X.K cl (g1 dMin1)) := cd_1 (g1 := dMin1) fun pins s σ H x u Q ρ st a H0 I ru S ra q => by
  obtain ⟨c, h, q⟩ := q
  unfold dMin1 at h
  split at h
  · rename_i l hl
    obtain ⟨p, vs, rfl, h1, h2⟩ := lstV_ok S ra hl
    unfold oMin at h
    split at h
    · rename_i n ns e
      cases h
      rw [intsOf_ok e] at h2
      rw [RDs_int h2] at h1
      refine cr_min hc pins s σ H [_] [u] Q I (.cons ru .nil) ⟨p, n :: ns, rfl, h1, by simp, fun m hm hle => ?_⟩
      have : m = lMin (n :: ns) := Int.le_antisymm (hle _ (lMin_mem (by simp))) (lMin_le hm)
      subst this
      exact q ρ H _ (Ext.refl _ _) S rfl
    · cases h
  · cases h
theorem tup_sorted {prog : Program} {w : World} {A : Around} {E : Value → Shared → Prop} {s : Shared} {l : Addr} {us : List Value} {ns : List Int} {G : Value → Shared → Prop} (tu : s.heap.IsTuple l us.toArray) (iu : IntsAre us ns) (zu : us.length ≤ sizeLine)
    (k : ∀ g1 : Heap, (∀ b o, s.heap.get? b = some o → g1.get? b = some o) → ∀ (g : Heap) (out : List Value) (e : Nat), (∀ b o, g1.get? b = some o → g.get? b = some o) → g.get? g1.objs.size = some (seqObj "list" out.toArray e) → IntsAre out (out.map SrtO.iv) → (out.map SrtO.iv).Perm ns → (out.map SrtO.iv).Pairwise (· ≤ ·) → G (.ref g1.objs.size) { s with heap := g }) :
    wpAny (model prog w) A (call (.builtin "sorted") [.ref l]) G E s := by
  obtain ⟨o, ho, hc, n, hd⟩ := id tu
  refine Calls.call_function_entry kind_sorted plain_sorted entry_sorted (args_sorted1 (.ref l)) ?_
  unfold Builtin.«sorted»
  refine wpAny_bind (m := checkCount "sorted" 1 1 _) (wpAny_pure ?_)
  refine wpAny_bind (wpAny_collect_seq l (.inr rfl) ho hc hd (fun g1 keep1 => ?_) (by rw [List.size_toArray]; exact zu))
  rw [List.toList_toArray]
  refine wpAny_bind (wpAny_newList (s := { s with heap := g1 }) ?_ zu)
  have at2 : (g1.push (seqObj "list" us.toArray 0)).get? g1.objs.size = some (seqObj "list" us.toArray 0) := Heap.get?_push_size _ rfl
  have S2 : 2 ≤ us.length → SrtO.SortableO prog w A.in1.in1 { s with heap := g1.push (seqObj "list" us.toArray 0) } g1.objs.size us SrtO.ltIv := fun h2 => SrtO.ints_sortable iu h2
  refine wpAny_bind (wpAny_holding (wpAny_call_entry slot_list_sort ⟨_, at2, rfl⟩ entry_list_sort (SrtO.list_sort_ord SrtO.swo_int at2 zu S2 fun out h1 h2 => ⟨_, rfl, ?_⟩) (args_list_sort _)))
  obtain ⟨k1, k2, k3⟩ := SrtO.ints_out iu h1 h2
  obtain ⟨e, he⟩ := sortedHeap_at (out := out.toArray) at2
  refine wpAny_pure ⟨_, rfl, k g1 keep1 _ out e (fun b ob q => ?_) he k1 k2 k3⟩
  have lb := Heap.lt_size q
  rw [sortedHeap_old (Nat.ne_of_lt lb) (by rw [size_push']; exact Nat.lt_succ_of_lt lb)]
  exact Heap.get?_push_of_some _ q
theorem tup_sortedS {prog : Program} {w : World} {A : Around} {E : Value → Shared → Prop} {s : Shared} {l : Addr} {us : List Value} {ps : List Str} {G : Value → Shared → Prop} (tu : s.heap.IsTuple l us.toArray) (iu : PySem.W.EachIs (fun v p => ∃ t, v = Value.str p t) us ps) (zu : us.length ≤ sizeLine) (hu : A.units + 64 < cLine)
    (k : ∀ g1 : Heap, (∀ b o, s.heap.get? b = some o → g1.get? b = some o) → ∀ (g : Heap) (out : List Value) (e : Nat), (∀ b o, g1.get? b = some o → g.get? b = some o) → g.get? g1.objs.size = some (seqObj "list" out.toArray e) → out.length = ps.length → PySem.W.EachIs (fun v p => ∃ t, v = Value.str p t) out (ps.mergeSort fun a b => decide (a.cps.toList ≤ b.cps.toList)) → G (.ref g1.objs.size) { s with heap := g }) :
    wpAny (model prog w) A (call (.builtin "sorted") [.ref l]) G E s := by
  obtain ⟨o, ho, hc, n, hd⟩ := id tu
  refine Calls.call_function_entry kind_sorted plain_sorted entry_sorted (args_sorted1 (.ref l)) ?_
  unfold Builtin.«sorted»
  refine wpAny_bind (m := checkCount "sorted" 1 1 _) (wpAny_pure ?_)
  refine wpAny_bind (wpAny_collect_seq l (.inr rfl) ho hc hd (fun g1 keep1 => ?_) (by rw [List.size_toArray]; exact zu))
  rw [List.toList_toArray]
  refine wpAny_bind (wpAny_newList (s := { s with heap := g1 }) ?_ zu)
  have at2 : (g1.push (seqObj "list" us.toArray 0)).get? g1.objs.size = some (seqObj "list" us.toArray 0) := Heap.get?_push_size _ rfl
  refine wpAny_bind (wpAny_holding (PySem.W.list_sort_data (s := { s with heap := g1.push (seqObj "list" us.toArray 0) }) (enc := fun p : Str => PyData.str p) at2 iu (iu.mono fun v p ⟨t, e⟩ => ⟨[], by rw [e]; exact .str p t, by simp⟩) (fun d hd d' hd' => ?_) (.inr fun d hd => ?_) (by rw [← iu.length]; exact zu) (fun b _ => ?_) fun out hl eo => ?_))
  · obtain ⟨b, _, rfl⟩ := List.mem_map.mp hd
    obtain ⟨b', _, rfl⟩ := List.mem_map.mp hd'
    simp [PySem.W.alike]
  · obtain ⟨b, _, rfl⟩ := List.mem_map.mp hd
    exact ⟨by simp, by simp⟩
  · show A.units + 1 + 1 + PyData.depth (.str b) < cLine
    simp only [PyData.depth]
    omega
  rw [PySem.W.dataLe_str (fun p : Str => p)] at eo
  obtain ⟨e, he⟩ := sortedHeap_at (out := out.toArray) at2
  refine wpAny_pure ⟨_, rfl, k g1 keep1 _ out e (fun b ob q => ?_) he hl eo⟩
  have lb := Heap.lt_size q
  rw [sortedHeap_old (Nat.ne_of_lt lb) (by rw [size_push']; exact Nat.lt_succ_of_lt lb)]
  exact Heap.get?_push_of_some _ q
theorem each_vals : ∀ {us : List Value} {ps : List Str}, PySem.W.EachIs (fun v p => ∃ t, v = Value.str p t) us ps → Vals (ps.map V.str) us
  | _, _, .nil => .nil
  | _, _, .cons ⟨t, e⟩ h => .cons ⟨t, e⟩ (each_vals h)
theorem vals_each : ∀ {ps : List Str} {us : List Value}, Vals (ps.map V.str) us → PySem.W.EachIs (fun v p => ∃ t, v = Value.str p t) us ps
  | [], _, .nil => .nil
  | _ :: _, _, .cons ⟨t, e⟩ h => .cons ⟨t, e⟩ (vals_each h)
theorem sort_strs (ss : List (List Nat)) : ((ss.map fun p => (⟨p.toArray⟩ : Str)).mergeSort fun a b => decide (a.cps.toList ≤ b.cps.toList)) = (sSort ss).map fun p => (⟨p.toArray⟩ : Str) := by
  have e2 : ((ss.map fun p => (⟨p.toArray⟩ : Str)).mergeSort fun a b => decide (a.cps.toList ≤ b.cps.toList)).map (fun x => x.cps.toList) = sSort ss := by
    refine sSort_uniq ?_ ?_
    · have := (List.mergeSort_perm (ss.map fun p => (⟨p.toArray⟩ : Str)) fun a b => decide (a.cps.toList ≤ b.cps.toList)).map fun x : Str => x.cps.toList
      rwa [cps_mk] at this
    · rw [List.pairwise_map]
      have := List.pairwise_mergeSort (le := fun a b : Str => decide (a.cps.toList ≤ b.cps.toList)) (fun a b c h1 h2 => by
        simp only [decide_eq_true_eq] at h1 h2 ⊢
        exact List.le_trans h1 h2) (fun a b => by
        simp only [Bool.or_eq_true, decide_eq_true_eq]
        exact List.le_total _ _) (ss.map fun p => (⟨p.toArray⟩ : Str))
      exact this.imp fun {a b} h => by
        simp only [decide_eq_true_eq] at h
        exact List.not_lt.mpr h
  rw [← e2, mk_cps]
theorem keys_strs {K : PySem.W.Frag} {ρ : List Addr} {H : Hp} : ∀ {kvs : List (D × D)} {vs : List (Key × V)} {ss : List (List Nat)}, RKV K ρ H kvs vs → strsOf (kvs.map (·.1)) = some ss → vs.map (·.1) = (ss.map fun p => (⟨p.toArray⟩ : Str)).map Sum.inr
  | [], _, ss, h, e => by subst h; cases e; rfl
  | (k1, d1) :: r, _, ss, ⟨k', v, r', e0, h0, h1, h2⟩, e => by
    subst e0
    cases h0 with
    | int i => simp [strsOf] at e
    | str z =>
      simp only [List.map_cons, strsOf] at e
      cases e2 : strsOf (r.map (·.1)) with
      | none => rw [e2] at e; cases e
      | some ss' =>
        rw [e2] at e
        cases e
        have := keys_strs h2 e2
        simp only [List.map_cons, this]
theorem cd_sorted0 (hcalm : X.calm = true) (hu : X.A.units + 64 < cLine) : CallR X (.builtin "sorted") (rPN X.K cl (g1 dSorted0)) := cd_1 (g1 := dSorted0) fun pins s σ H x u Q ρ st a H0 I ru S ra q => by
  obtain ⟨c, h⟩ : ∃ c, dSorted0 a st = some c := ⟨_, q.choose_spec.1⟩
  have h0 := h
  unfold dSorted0 at h
  split at h
  · rename_i l hl
    obtain ⟨p, vs, rfl, h1, h2⟩ := lstV_ok S ra hl
    unfold oSort at h
    split at h
    · rename_i ns e
      cases h
      rw [intsOf_ok e] at h2
      rw [RDs_int h2] at h1
      refine cr_sortedI pins s σ H [_] [u] Q I (.cons ru .nil) ⟨p, ns, rfl, h1, fun ms n hp hs hn => ?_⟩
      rw [iSort_uniq hp hs]
      exact fin_lst S q h0 (int_RDs _ _ _ _) hn
    · split at h
      · rename_i ss e
        split at h
        · rename_i h64
          cases h
          have hv := strs_rds h2 e
          rw [hv] at h1
          refine cr_sortedS pins s σ H [_] [u] Q I (.cons ru .nil) ⟨p, _, rfl, h1, by rw [List.length_map]; exact h64, fun ys n hp hs hn => ?_⟩
          have e2 : ys.map (fun x => x.cps.toList) = sSort ss := by
            refine sSort_uniq ?_ ?_
            · have := hp.map fun x : Str => x.cps.toList
              rwa [cps_mk] at this
            · exact List.pairwise_map.mpr (sorted_pw ys hs)
          have e3 : ys = (sSort ss).map fun p => (⟨p.toArray⟩ : Str) := by rw [← e2, mk_cps]
          rw [e3]
          exact fin_lst S q h0 (str_RDs _ _ _ _) hn
        · cases h
      · cases h
  · unfold tSort at h
    split at h
    · rename_i l _
      cases e : intsOf l with
      | none =>
        rw [e] at h
        simp only at h
        cases e0 : strsOf l with
        | none => rw [e0] at h; cases h
        | some ss =>
          rw [e0] at h
          cases h
          obtain ⟨p, vs, rfl, h1, h2⟩ := ra
          have hv := strs_rds h2 e0
          rw [hv] at h1
          cases ru
          obtain ⟨its, rv, tu, tz⟩ := I.tuple h1
          have hi := vals_each (ps := ss.map fun p => (⟨p.toArray⟩ : Str)) rv
          have tz2 : its.length ≤ sizeLine := by rw [hi.length]; simpa using tz
          refine tup_sortedS tu hi tz2 hu fun g1 keep1 g out e' keep he' hlo k1 => ?_
          rw [sort_strs] at k1
          have hv2 := each_vals k1
          have hlen : (((sSort ss).map fun p => (⟨p.toArray⟩ : Str)).map V.str).length ≤ sizeLine := by
            have a1 := hv2.length
            have a2 := hi.length
            omega
          have J : Inv X pins σ H { s with heap := g1 } := I.kept (t' := s.toks) keep1
          refine ⟨.ref g1.objs.size, upd H g1.objs.size (.lst (((sSort ss).map fun p => (⟨p.toArray⟩ : Str)).map V.str)), J.laid (t' := s.toks) keep (Nat.le_refl _) ⟨hlen, out, e', hv2, he'⟩, rfl, ?_⟩
          exact fin_lst S q h0 (str_RDs _ _ _ _) (J.hok.fresh (Nat.le_refl _))
      | some ns =>
        rw [e] at h
        cases h
        obtain ⟨p, vs, rfl, h1, h2⟩ := ra
        rw [intsOf_ok e] at h2
        rw [RDs_int h2] at h1
        cases ru
        obtain ⟨its, rv, tu, tz⟩ := I.tuple h1
        have hi := rv.ints
        have tz2 : its.length ≤ sizeLine := by rw [hi.length]; simpa using tz
        refine tup_sorted tu hi tz2 fun g1 keep1 g out e' keep he' k1 k2 k3 => ?_
        have hlen : ((out.map SrtO.iv).map V.int).length ≤ sizeLine := by
          rw [List.length_map, k2.length_eq, ← hi.length]
          exact tz2
        have J : Inv X pins σ H { s with heap := g1 } := I.kept (t' := s.toks) keep1
        refine ⟨.ref g1.objs.size, upd H g1.objs.size (.lst ((out.map SrtO.iv).map V.int)), J.laid (t' := s.toks) keep (Nat.le_refl _) ⟨hlen, out, e', vals_of_ints k1, he'⟩, rfl, ?_⟩
        rw [iSort_uniq k2 k3]
        exact fin_lst S q h0 (int_RDs _ _ _ _) (J.hok.fresh (Nat.le_refl _))
    · split at h
      · rename_i n _ _ kvs e
        split at h
        · rename_i ss es
          split at h
          · rename_i h64
            cases h
            obtain ⟨p, rfl, hp⟩ := ra
            obtain ⟨_, vs, h1, h2⟩ | ⟨z, _⟩ := S.at_ _ _ _ e hp
            · refine call_sortedD hcalm pins s σ H [_] [u] Q I (.cons ru .nil) ⟨p, vs, _, rfl, .inl h1, keys_strs h2 es, by rw [List.length_map]; exact h64, fun ys n hp2 hs hn => ?_⟩
              have e2 : ys.map (fun x => x.cps.toList) = sSort ss := by
                refine sSort_uniq ?_ ?_
                · have := hp2.map fun x : Str => x.cps.toList
                  rwa [cps_mk] at this
                · exact List.pairwise_map.mpr (sorted_pw ys hs)
              have e3 : ys = (sSort ss).map fun p => (⟨p.toArray⟩ : Str) := by rw [← e2, mk_cps]
              rw [e3]
              exact fin_lst S q h0 (str_RDs _ _ _ _) hn
            · cases z
          · cases h
        · cases h
      · cases h
    · cases h
theorem cd_str : CallR X (.type "str") (rPN X.K cl (g1 dStr)) := cd_1 (g1 := dStr) fun pins s σ H x u Q ρ st a H0 I ru S ra q => by
  obtain ⟨c, h, q⟩ := q
  unfold dStr at h
  split at h
  · rename_i i
    split at h
    · rename_i hi
      cases h; cases ra
      exact call_str_int pins s σ H [_] [u] Q I (.cons ru .nil) ⟨i, rfl, hi, q ρ H _ (Ext.refl _ _) S (congrArg V.str (str_eta _).symm)⟩
    · cases h
  · cases h
end
def rgOk (a b : Int) : Prop := -(2 ^ 62) ≤ a ∧ a < 2 ^ 62 ∧ -(2 ^ 62) ≤ b ∧ b < 2 ^ 62 ∧ (b - a).toNat ≤ sLine
open Classical in
noncomputable def eRg1 (fa : SEnv → Store → R RV) : SEnv → Store → R RV := fun env st => (fa env st).bind fun a st1 => match a with
  | .v (.int j) => if rgOk 0 j then .ok (.t (rngL 0 j.toNat)) st1 else .bad
  | _ => .bad
open Classical in
noncomputable def eRg2 (fa fb : SEnv → Store → R RV) : SEnv → Store → R RV := fun env st => (fa env st).bind fun a st1 => (fb env st1).bind fun b st2 => match a, b with
  | .v (.int i), .v (.int j) => if rgOk i j then .ok (.t (rngL i (j - i).toNat)) st2 else .bad
  | _, _ => .bad
open Classical in
noncomputable def eTRg1 (fa : SEnv → Store → R RV) : SEnv → Store → R RV := fun env st => (fa env st).bind fun a st1 => match a with
  | .v (.int j) => if rgOk 0 j then .ok (.v (.tup (rngL 0 j.toNat))) st1 else .bad
  | _ => .bad
theorem rg_RDs {K : PySem.W.Frag} {ρ : List Addr} {H : Hp} (a b : Int) : RDs K ρ H (rngL a (b - a).toNat) (rgV a b) := by
  have e : rngL a (b - a).toNat = ((List.range (b - a).toNat).map fun (i : Nat) => a + (i : Int)).map D.int := by rw [List.map_map]; rfl
  have e2 : rgV a b = ((List.range (b - a).toNat).map fun (i : Nat) => a + (i : Int)).map V.int := by rw [List.map_map]; rfl
  rw [e, e2]
  exact int_RDs _ _ _ _
section
variable {X : Cx} {cl : CT} {W : WX} {a b e : Expr} {fa fb : SEnv → Store → R RV} {p p2 pos pos2 : Pos}
theorem fin_new {K : PySem.W.Frag} {σ : L2.St} {ρ : List Addr} {H : Hp} {st : Store} {l : List D} {vs : List V} {n : Addr} {Q : VK} (S : RS K ρ H cl st) (h : Post K cl W σ (relV K) ρ H (.ok (.t l) st) Q) (r : RDs K ρ H l vs) (hn : H n = none) : Q (.ref n) (upd H n (.lst vs)) :=
  fin_lst S (o := some (.t l)) ⟨_, rfl, h⟩ rfl r hn
theorem de_rg1 (hc : X.calm = true) (hg : Gl X "list") (hm : X.mg "list" = none) (hg2 : Gl X "range") (hm2 : X.mg "range" = none) (ha : PE X a (tF X.K cl W fa)) (na : starEach [a] X.env = (false, eval a X.env) :: starEach [] X.env)
    (nb : starEach [.Call (.Name "range" p2) [a] [] pos2] X.env = (false, eval (.Call (.Name "range" p2) [a] [] pos2) X.env) :: starEach [] X.env) :
    PE X (.Call (.Name "list" p) [.Call (.Name "range" p2) [a] [] pos2] [] pos) (tF X.K cl W (eRg1 fa)) := by
  refine PEw (pe_listRg hc hg hm (prg_1 hg2 hm2 ha na) nb) fun σ H Q ⟨ρ, env, st, S, E, P⟩ => ?_
  refine ⟨ρ, env, st, S, E, (Post.bind backV P).mono ?_⟩
  rintro x H1 ⟨ρ1, st1, a', x1, S1, r1, P1⟩
  split at P1
  · rename_i j
    split at P1
    · rename_i hj
      cases r1
      refine ⟨j, rfl, ⟨hj.1, hj.2.1, hj.2.2.1, hj.2.2.2.1, hj.2.2.2.2⟩, fun q hq => ?_⟩
      have : (j - 0).toNat = j.toNat := by rw [Int.sub_zero]
      exact fin_new S1 (by rw [← this] at P1; exact P1) (rg_RDs 0 j) hq
    · exact P1.elim
  · exact P1.elim
theorem de_trg1 (hc : X.calm = true) (hg : Gl X "tuple") (hm : X.mg "tuple" = none) (hg2 : Gl X "range") (hm2 : X.mg "range" = none) (ha : PE X a (tF X.K cl W fa)) (na : starEach [a] X.env = (false, eval a X.env) :: starEach [] X.env)
    (nb : starEach [.Call (.Name "range" p2) [a] [] pos2] X.env = (false, eval (.Call (.Name "range" p2) [a] [] pos2) X.env) :: starEach [] X.env) :
    PE X (.Call (.Name "tuple" p) [.Call (.Name "range" p2) [a] [] pos2] [] pos) (tF X.K cl W (eTRg1 fa)) := by
  refine PEw (pe_tupRg hc hg hm (prg_1 hg2 hm2 ha na) nb) fun σ H Q ⟨ρ, env, st, S, E, P⟩ => ?_
  refine ⟨ρ, env, st, S, E, (Post.bind backV P).mono ?_⟩
  rintro x H1 ⟨ρ1, st1, a', x1, S1, r1, P1⟩
  split at P1
  · rename_i j
    split at P1
    · rename_i hj
      cases r1
      refine ⟨j, rfl, ⟨hj.1, hj.2.1, hj.2.2.1, hj.2.2.2.1, hj.2.2.2.2⟩, fun q hq => ?_⟩
      have e : (j - 0).toNat = j.toNat := by rw [Int.sub_zero]
      have r := rg_RDs (K := X.K) (ρ := ρ1) (H := H1) 0 j
      rw [e] at r
      exact P1 ρ1 _ _ (Ext.new hq) (S1.new hq) ⟨q, _, rfl, SqT.of upd_same, RDs.mono ((Ext.new hq).mono S1) _ _ r⟩
    · exact P1.elim
  · exact P1.elim
theorem de_rg2 (hc : X.calm = true) (hg : Gl X "list") (hm : X.mg "list" = none) (hg2 : Gl X "range") (hm2 : X.mg "range" = none) (ha : PE X a (tF X.K cl W fa)) (hb : PE X b (tF X.K cl W fb)) (na : starEach [a, b] X.env = (false, eval a X.env) :: starEach [b] X.env) (na2 : starEach [b] X.env = (false, eval b X.env) :: starEach [] X.env)
    (nb : starEach [.Call (.Name "range" p2) [a, b] [] pos2] X.env = (false, eval (.Call (.Name "range" p2) [a, b] [] pos2) X.env) :: starEach [] X.env) :
    PE X (.Call (.Name "list" p) [.Call (.Name "range" p2) [a, b] [] pos2] [] pos) (tF X.K cl W (eRg2 fa fb)) := by
  refine PEw (pe_listRg hc hg hm (prg_2 hg2 hm2 ha hb na na2 (by rw [na2]; rfl)) nb) fun σ H Q ⟨ρ, env, st, S, E, P⟩ => ?_
  refine ⟨ρ, env, st, S, E, (Post.bind backV P).mono ?_⟩
  rintro x H1 ⟨ρ1, st1, a', x1, S1, r1, P1⟩
  refine ⟨ρ1, env, st1, S1, E.mono (x1.mono S), (Post.bind backV P1).mono ?_⟩
  rintro y H2 ⟨ρ2, st2, b', x2, S2, r2, P2⟩
  split at P2
  · rename_i i j
    split at P2
    · rename_i hj
      cases r1; cases r2
      exact ⟨i, j, rfl, rfl, ⟨hj.1, hj.2.1, hj.2.2.1, hj.2.2.2.1, hj.2.2.2.2⟩, fun q hq => fin_new S2 P2 (rg_RDs i j) hq⟩
    · exact P2.elim
  · exact P2.elim
def eRevL (fa : SEnv → Store → R RV) : SEnv → Store → R RV := fun env st => (fa env st).bind fun a st1 => match lstV st1 a with
  | some l => .ok (.t l.reverse) st1
  | none => .bad
theorem RDs.reverse {K : PySem.W.Frag} {ρ : List Addr} {H : Hp} : ∀ {l : List D} {vs : List V}, RDs K ρ H l vs → RDs K ρ H l.reverse vs.reverse
  | [], _, h => by
    have : _ = [] := h
    subst this; rfl
  | d :: l, _, h => by
    obtain ⟨v, r, rfl, h1, h2⟩ := h
    rw [List.reverse_cons, List.reverse_cons]
    exact RDs.append h2.reverse ⟨v, [], rfl, h1, rfl⟩
theorem getRev {l : List D} {i : Nat} (h : i < l.length) : l.reverse[i]? = l[l.length - 1 - i]? := by
  rw [List.getElem?_reverse h]
variable {tg : Expr}
theorem src_revL {K : PySem.W.Frag} {a : RV} {p : Addr} {l : List D} {H0 : Hp} : Src K cl (Itv K p l.length) (fun ρ H => RRV K ρ H H0 a (.ref p)) (fun st => lstV st a = some l) l.reverse := by
  have key : ∀ {ρ H st}, RS K ρ H cl st → RRV K ρ H H0 a (.ref p) → lstV st a = some l → ∃ vs, SqL K H p vs ∧ RDs K ρ H l vs := by
    intro ρ H st S r g
    obtain ⟨p', vs, e, h1, h2⟩ := lstV_ok S r g
    cases e
    exact ⟨vs, h1, h2⟩
  refine ⟨fun S r x => RRV.ext S x r, fun {ρ H st i} S r g hi => ?_, fun {ρ H st i} S r g hi => ?_, fun {ρ H st i x H'} S r g y hi => ?_⟩
  · obtain ⟨vs, h1, h2⟩ := key S r g
    rw [List.length_reverse] at hi
    obtain ⟨v, hv, _⟩ := h2.get (List.getElem?_eq_getElem (show l.length - 1 - i < l.length by omega))
    exact ⟨hi, vs, v, h1, hv⟩
  · rw [List.length_reverse] at hi
    exact hi
  · obtain ⟨vs, h1, h2⟩ := key S r g
    rw [List.length_reverse] at hi
    obtain ⟨rfl, y⟩ := y
    obtain ⟨v, hv, rv⟩ := h2.get (List.getElem?_eq_getElem (show l.length - 1 - i < l.length by omega))
    have := y vs h1
    rw [hv] at this; cases this
    exact ⟨_, by rw [getRev hi]; exact List.getElem?_eq_getElem (show l.length - 1 - i < l.length by omega), Ext.refl _ _, S, rv⟩
theorem src_revT {K : PySem.W.Frag} {p : Addr} {l : List D} {gd : Store → Prop} : Src K cl (RT.ItvT K p l.length) (fun ρ H => RD K ρ H (.tup l) (.ref p)) gd l.reverse := by
  have key : ∀ {ρ H}, RD K ρ H (.tup l) (.ref p) → ∃ vs, SqT K H p vs ∧ RDs K ρ H l vs := by
    rintro ρ H ⟨p', vs, e, h1, h2⟩
    cases e
    exact ⟨vs, h1, h2⟩
  refine ⟨fun S r x => RD.mono (x.mono S) _ _ r, fun {ρ H st i} S r g hi => ?_, fun {ρ H st i} S r g hi => ?_, fun {ρ H st i x H'} S r g y hi => ?_⟩
  · obtain ⟨vs, h1, h2⟩ := key r
    rw [List.length_reverse] at hi
    obtain ⟨v, hv, _⟩ := h2.get (List.getElem?_eq_getElem (show l.length - 1 - i < l.length by omega))
    exact ⟨hi, vs, v, h1, hv⟩
  · rw [List.length_reverse] at hi
    exact hi
  · obtain ⟨vs, h1, h2⟩ := key r
    rw [List.length_reverse] at hi
    obtain ⟨rfl, y⟩ := y
    obtain ⟨v, hv, rv⟩ := h2.get (List.getElem?_eq_getElem (show l.length - 1 - i < l.length by omega))
    have := y vs h1
    rw [hv] at this; cases this
    exact ⟨_, by rw [getRev hi]; exact List.getElem?_eq_getElem (show l.length - 1 - i < l.length by omega), Ext.refl _ _, S, rv⟩
def itR (st : Store) (a : RV) : Option (List D) := match a with
  | .v (.tup l) => some l
  | a => lstV st a
def wRev (fa : SEnv → Store → R RV) : SEnv → Store → R Walk := fun env st => (fa env st).bind fun a st1 => match itR st1 a with
  | some l => .ok ⟨l.reverse, fun st => itR st a = some l⟩ st1
  | none => .bad
theorem di_rev (hg : Gl X "reversed") (hm : X.mg "reversed" = none) (he : PE X e (tF X.K cl W fa)) (hs : starEach [e] X.env = (false, eval e X.env) :: starEach [] X.env) : PI X tg (.Call (.Name "reversed" p) [e] [] pos) (tI X.K cl W (wRev fa)) := by
  refine PIw (RT.pi_revA hg hm he hs) fun σ H Q ⟨ρ, env, st, S, E, P⟩ => ?_
  refine ⟨ρ, env, st, S, E, (PostI.bind (rel := relV X.K) P).mono ?_⟩
  rintro v H1 ⟨ρ1, st1, a, x1, S1, r1, P1⟩
  cases hi : itR st1 a with
  | none => rw [hi] at P1; exact P1.elim
  | some l =>
    rw [hi] at P1
    have lists : (∀ st, itR st a = lstV st a) → ∃ (a : Addr) (xs : List V), v = .ref a ∧ ((SqL X.K H1 a xs ∧ Q (Itv X.K a xs.length) H1) ∨ (SqT X.K H1 a xs ∧ Q (RT.ItvT X.K a xs.length) H1)) := by
      intro hn
      have hi' := hi
      rw [hn] at hi'
      obtain ⟨p, vs, rfl, h1, h2⟩ := lstV_ok S1 r1 hi'
      refine ⟨p, vs, rfl, .inl ⟨h1, ?_⟩⟩
      rw [← h2.length]
      have this := src_revL (K := X.K) (cl := cl) (a := a) (p := p) (l := l) (H0 := H)
      have that : Src X.K cl (Itv X.K p l.length) (fun ρ H' => RRV X.K ρ H' H a (.ref p)) (fun st => itR st a = some l) l.reverse :=
        ⟨this.keep, fun S r g => this.go S r ((hn _).symm.trans g), fun S r g => this.stop S r ((hn _).symm.trans g), fun S r g => this.yld S r ((hn _).symm.trans g)⟩
      exact P1 ρ1 H1 _ _ x1 S1 that r1 hi
    cases a with
    | t l' => exact lists fun _ => rfl
    | v d =>
      cases d with
      | tup l' =>
        cases hi
        obtain ⟨p, vs, rfl, h1, h2⟩ := r1
        refine ⟨p, vs, rfl, .inr ⟨h1, ?_⟩⟩
        rw [← h2.length]
        exact P1 ρ1 H1 _ _ x1 S1 src_revT ⟨p, vs, rfl, h1, h2⟩ rfl
      | rol l' => exact lists fun _ => rfl
      | ref n => exact lists fun _ => rfl
      | _ => cases hi
theorem src_revR {K : PySem.W.Frag} {lo : Int} {n : Nat} {gd : Store → Prop} : Src K cl (Itc (lo + (n : Int) - 1) (-1) n) (fun _ _ => True) gd (rngL lo n).reverse := by
  have hl : (rngL lo n).length = n := by simp [rngL]
  refine ⟨fun _ _ _ => trivial, fun {ρ H st i} S r g hi => ?_, fun {ρ H st i} S r g hi => ?_, fun {ρ H st i x H'} S r g y hi => ?_⟩
  · rw [List.length_reverse, hl] at hi; exact hi
  · rw [List.length_reverse, hl] at hi; exact hi
  · obtain ⟨rfl, rfl⟩ := y
    rw [List.length_reverse] at hi
    refine ⟨.int (lo + (n : Int) - 1 + (i : Int) * (-1)), ?_, Ext.refl _ _, S, rfl⟩
    rw [getRev hi, hl]
    rw [hl] at hi
    unfold rngL
    rw [List.getElem?_map, List.getElem?_range (by omega)]
    simp only [Option.map_some, Option.some.injEq, D.int.injEq]
    omega
open Classical in
noncomputable def wRevR1 (fa : SEnv → Store → R RV) : SEnv → Store → R Walk := fun env st => (fa env st).bind fun a st1 => match a with
  | .v (.int j) => if rOk j then .ok ⟨(rngL 0 j.toNat).reverse, fun _ => True⟩ st1 else .bad
  | _ => .bad
theorem di_revR1 (hg : Gl X "reversed") (hm : X.mg "reversed" = none) (hg2 : Gl X "range") (hm2 : X.mg "range" = none) (ha : PE X a (tF X.K cl W fa)) (na : starEach [a] X.env = (false, eval a X.env) :: starEach [] X.env)
    (nb : starEach [.Call (.Name "range" p2) [a] [] pos2] X.env = (false, eval (.Call (.Name "range" p2) [a] [] pos2) X.env) :: starEach [] X.env) :
    PI X tg (.Call (.Name "reversed" p) [.Call (.Name "range" p2) [a] [] pos2] [] pos) (tI X.K cl W (wRevR1 fa)) := by
  refine PIw (pi_revR hg hm (prg_1 hg2 hm2 ha na) nb) fun σ H Q ⟨ρ, env, st, S, E, P⟩ => ?_
  refine ⟨ρ, env, st, S, E, (PostI.bind (rel := relV X.K) P).mono ?_⟩
  rintro v H1 ⟨ρ1, st1, a, x1, S1, r1, P1⟩
  split at P1
  · rename_i j
    split at P1
    · rename_i hj
      cases r1
      refine ⟨j, rfl, by decide, by decide, hj.1, hj.2, ?_⟩
      have e : (j - 0).toNat = j.toNat := by rw [Int.sub_zero]
      rw [e]
      exact P1 ρ1 H1 _ _ x1 S1 src_revR trivial trivial
    · exact P1.elim
  · exact P1.elim
end
end Ev

/-! ## Ev9b -/
set_option Elab.async false
set_option linter.all false
set_option maxRecDepth 100000
/-! Ev9b: dicts whose keys are tuples: a new one, d[a, b], d[a, b] = v. -/
namespace Ev
open PySem PySem.Spec PyProof.Rows L2
section
variable {K : PySem.W.Frag} {cl : CT} {ρ : List Addr} {H : Hp}
theorem RKVT.val {k : D} {ks : List Key} (hk : RKT k ks) : ∀ {kvs : List (D × D)} {vs : List (List Key × V)}, RKVT K ρ H kvs vs → ∀ {d}, dvV kvs k = some d → ∃ v, valV vs ks = some v ∧ RD K ρ H d v
  | [], _, _, d, h => by cases h
  | (k1, d1) :: r, _, ⟨k', v, r', e, h0, h1, h2⟩, d, h => by
    subst e
    by_cases q : k1 = k
    · have q' : k' = ks := (h0.same hk).mp q
      rw [valV_pos (p := (k', v)) q']
      simp only [dvV, List.find?_cons, q, decide_true, Option.map_some, Option.some.injEq] at h
      exact ⟨v, rfl, by rw [← h]; exact h1⟩
    · have q' : ¬ k' = ks := fun z => q ((h0.same hk).mpr z)
      rw [valV_neg (p := (k', v)) q']
      refine RKVT.val hk h2 ?_
      simp only [dvV, List.find?_cons, q, decide_false] at h
      exact h
theorem RKVT.len : ∀ {kvs : List (D × D)} {vs : List (List Key × V)}, RKVT K ρ H kvs vs → vs.length = kvs.length
  | [], _, h => by subst h; rfl
  | (k1, d1) :: r, _, ⟨k', v, r', e, h0, h1, h2⟩ => by subst e; simp [RKVT.len h2]
theorem RKVT.any {k : D} {ks : List Key} (hk : RKT k ks) : ∀ {kvs : List (D × D)} {vs : List (List Key × V)}, RKVT K ρ H kvs vs → (vs.any fun p => decide (p.1 = ks)) = (kvs.any fun p => @decide (p.1 = k) (Classical.propDecidable _))
  | [], _, h => by subst h; rfl
  | (k1, d1) :: r, _, ⟨k', v, r', e, h0, h1, h2⟩ => by
    subst e
    simp only [List.any_cons]
    rw [RKVT.any hk h2]
    congr 1
    have := h0.same hk
    by_cases q : k1 = k
    · simp [q, this.mp q]
    · simp only [q, decide_false, decide_eq_false_iff_not, fun z => q (this.mpr z)]
      exact fun z => q (this.mpr z)
theorem RKVT.snoc {k d : D} {ks : List Key} {v : V} (hk : RKT k ks) (hv : RD K ρ H d v) : ∀ {kvs : List (D × D)} {vs : List (List Key × V)}, RKVT K ρ H kvs vs → RKVT K ρ H (kvs ++ [(k, d)]) (vs ++ [(ks, v)])
  | [], _, h => by subst h; exact ⟨ks, v, [], rfl, hk, hv, rfl⟩
  | (k1, d1) :: r, _, ⟨k', v', r', e, h0, h1, h2⟩ => by subst e; exact ⟨k', v', _, rfl, h0, h1, RKVT.snoc hk hv h2⟩
theorem RKVT.rep {k d : D} {ks : List Key} {v : V} (hk : RKT k ks) (hv : RD K ρ H d v) : ∀ {kvs : List (D × D)} {vs : List (List Key × V)}, RKVT K ρ H kvs vs → RKVT K ρ H (kvs.map fun p => @ite _ (p.1 = k) (Classical.propDecidable _) (p.1, d) p) (vs.map fun p => if p.1 = ks then (p.1, v) else p)
  | [], _, h => by subst h; rfl
  | (k1, d1) :: r, _, ⟨k', v', r', e, h0, h1, h2⟩ => by
    subst e
    have := h0.same hk
    have ih := RKVT.rep hk hv h2
    by_cases q : k1 = k
    · simp only [List.map_cons, q, this.mp q, if_true]
      exact ⟨ks, v, _, rfl, hk, hv, ih⟩
    · simp only [List.map_cons, if_neg q, if_neg fun z => q (this.mpr z)]
      exact ⟨k', v', _, rfl, h0, h1, ih⟩
theorem RKVT.put {k d : D} {ks : List Key} {v : V} (hk : RKT k ks) (hv : RD K ρ H d v) {kvs : List (D × D)} {vs : List (List Key × V)} (h : RKVT K ρ H kvs vs) : RKVT K ρ H (dputD kvs k d) (putK vs ks v) := by
  unfold dputD putK
  rw [h.any hk]
  split
  · exact h.rep hk hv
  · exact h.snoc hk hv
/-- the values of a key -/
theorem RKeys.vals : ∀ {l : List D} {ks : List Key} {vs : List V}, RKeys l ks → RDs K ρ H l vs → vs = ks.map kV
  | _, _, _, .nil, h => h
  | _, _, _, .cons h t, ⟨v, r, e, h1, h2⟩ => by
    subst e
    rw [List.map_cons, ← RKeys.vals t h2]
    congr 1
    cases h with
    | int i => cases h1; rfl
    | str s => cases h1; rfl
end
/-! ### the three -/
def eDNewT : SEnv → Store → R RV := fun _ st => .ok (.v (.ref st.length)) (st ++ [.dict true []])
noncomputable def eDGetT (fo : SEnv → Store → R RV) (fr : SEnv → Store → R (List D)) : SEnv → Store → R RV := fun env st => (fo env st).bind fun o st1 => (fr env st1).bind fun l st2 => match o with
  | .v (.ref n) => match st2[n]? with
    | some (.dict true kvs) => match keysD l, dvV kvs (.tup l) with
      | some _, some d => if l.length ≤ sLine then .ok (.v d) st2 else .bad
      | _, _ => .bad
    | _ => .bad
  | _ => .bad
noncomputable def sDPutT (fa fo : SEnv → Store → R RV) (fr : SEnv → Store → R (List D)) : SS := fun env st => (fa env st).toS env fun a st1 => (mat a st1).toS env fun d st2 => (fo env st2).toS env fun o st3 => (fr env st3).toS env fun l st4 => match o with
  | .v (.ref n) => match st4[n]? with
    | some (.dict true kvs) => match keysD l with
      | some _ => if l.length ≤ sLine ∧ kvs.length < sLine then .nx env (st4.set n (.dict true (dputD kvs (.tup l) d))) else .bad
      | none => .bad
    | _ => .bad
  | _ => .bad
section
variable {X : Cx} {cl : CT} {W : WX} {o e : Expr} {es : List Expr} {fa fo : SEnv → Store → R RV} {fr : SEnv → Store → R (List D)} {pos pos' p : Pos}
theorem de_dnewT : PE X (.Dict [] [] pos) (tF X.K cl W eDNewT) := PEw pe_dnewT fun σ H Q ⟨ρ, env, st, S, E, P⟩ p hp => by
  have x : Ext ρ H (ρ ++ [p]) (upd H p (.dT [])) := Ext.grow (Ext.new hp) hp
  have S1 : RS X.K ρ (upd H p (.dT [])) cl st := S.new hp
  have np : p ∉ ρ := fun z => by
    obtain ⟨u, e, _⟩ := S.obj z
    rw [hp] at e; cases e
  refine P (ρ ++ [p]) _ (.ref p) x (S1.grow np (.inr ⟨rfl, [], upd_same, rfl⟩)) ⟨p, rfl, ?_⟩
  rw [← S.len, List.getElem?_append_right (Nat.le_refl _)]
  simp
theorem de_dgetT {x1} (hu : X.A.units + 1 < cLine) (ho : PE X o (tF X.K cl W fo)) (ha : PA X es (tA1 X.K cl W fr)) (hs : NoSl (.Tuple es x1 p)) : PE X (.Subscript o (.Tuple es x1 p) pos) (tF X.K cl W (eDGetT fo fr)) := by
  refine PEw (pe_dget hu ho (pe_tup ha) hs) fun σ H Q ⟨ρ, env, st, S, E, P⟩ => ?_
  refine ⟨ρ, env, st, S, E, (Post.bind0 P).mono ?_⟩
  rintro x H1 ⟨ρ1, st1, a, x1, S1, r1, P1⟩
  refine ⟨ρ1, env, st1, S1, E.mono (x1.mono S), (Post.bind0 (relα := relA X.K) (Post.from backV S1 x1 P1)).mono ?_⟩
  rintro xs H2 ⟨ρ2, st2, l, x2, S2, r2, P2⟩
  have r1' := RRV.ext S1 x2 r1
  split at P2
  · rename_i n
    split at P2
    · rename_i kvs e
      split at P2
      · rename_i ks d hk hd
        split at P2
        · rename_i hz
          obtain ⟨q, rfl, hq⟩ := r1'
          have kr := keysD_rel hk
          refine ⟨by rw [← RDs.length r2, sLine_eq]; exact hz, fun t ht => ?_⟩
          obtain ⟨b, _⟩ | ⟨_, vs, h1, h2⟩ := S2.at_ _ _ _ e hq
          · cases b
          obtain ⟨v, hv, rv⟩ := h2.val (.tup kr) hd
          have ev := kr.vals r2
          have hqt : q ≠ t := fun z => by rw [z, ht] at h1; cases h1
          have x3 : Ext ρ2 H2 ρ2 (upd H2 t (.tup xs)) := Ext.new ht
          refine ⟨q, v, rfl, ?_, P2 ρ2 _ v (x2.trans x3) (S2.new ht) (RD.mono (x3.mono S2) _ _ rv)⟩
          rw [← hv]
          exact DGet.t (by rw [upd_ne hqt]; exact h1) (by rw [upd_same, ev])
        · exact P2.elim
      · exact P2.elim
    · exact P2.elim
  · exact P2.elim
theorem ds_dputT {x1} (hu : X.A.units + 1 < cLine) (ho : PE X o (tF X.K cl W fo)) (ha : PA X es (tA1 X.K cl W fr)) (hv : PE X e (tF X.K cl W fa)) (hs : swapsWith e (some (.Subscript o (.Tuple es x1 p) pos')) pos.line X.env = pure false) :
    PS X (.Assign [.Subscript o (.Tuple es x1 p) pos'] e pos) (tS X.K cl W (sDPutT fa fo fr)) := by
  refine PSw (ps_dput hu ho (pe_tup ha) hv hs) fun D σ H ⟨ρ, env, st, S, E, P⟩ => ?_
  refine ⟨ρ, env, st, S, E, (PostS.toS (rel := relV X.K) S E P).mono ?_⟩
  rintro x H1 ⟨ρ1, st1, a, x1, S1, r1, P1⟩
  obtain ⟨d, st2, ρ2, e2, x2, S2, r2, m2⟩ := mat_ok S1 x1 r1
  rw [e2, R.toS_ok] at P1
  have P2 := PostS.from S2 x2 P1
  have E2 := (E.mono (x1.mono S)).mono m2
  refine ⟨ρ2, env, st2, S2, E2, (PostS.toS (rel := relV X.K) S2 E2 P2).mono ?_⟩
  rintro y H3 ⟨ρ3, st3, ob, x3, S3, r3, P3⟩
  have P3' := PostS.from S3 x3 P3
  have E3 := E2.mono (x3.mono S2)
  refine ⟨ρ3, env, st3, S3, E3, (PostS.toS (rel := relA X.K) S3 E3 P3').mono ?_⟩
  rintro xs H4 ⟨ρ4, st4, l, x4, S4, r4, P4⟩
  have r3' := RRV.ext S3 x4 r3
  split at P4
  · rename_i n
    split at P4
    · rename_i kvs e
      split at P4
      · rename_i ks hk
        split at P4
        · rename_i hz
          obtain ⟨q, rfl, hq⟩ := r3'
          have kr := keysD_rel hk
          refine ⟨by rw [← RDs.length r4, sLine_eq]; exact hz.1, fun t ht => ?_⟩
          obtain ⟨b, _⟩ | ⟨_, vs, h1, h2⟩ := S4.at_ _ _ _ e hq
          · cases b
          have ev := kr.vals r4
          have hqt : q ≠ t := fun z => by rw [z, ht] at h1; cases h1
          have x5 : Ext ρ4 H4 ρ4 (upd H4 t (.tup xs)) := Ext.new ht
          have S5 : RS X.K ρ4 (upd H4 t (.tup xs)) cl st4 := S4.new ht
          have rd := RD.mono (x5.mono S4) _ _ (RD.mono (x4.mono S3) _ _ (RD.mono (x3.mono S2) _ _ r2))
          have x6 : Ext ρ4 (upd H4 t (.tup xs)) ρ4 (upd (upd H4 t (.tup xs)) q (.dT (putK vs ks x))) := Ext.put (List.mem_of_getElem? hq) (by rw [upd_ne hqt]; exact h1) (fun _ _ z => by cases z)
          have m6 := x6.mono S5
          refine ⟨q, _, rfl, DPut.t (kvs := vs) (k := ks) (by rw [upd_ne hqt]; exact h1) (by rw [upd_same, ev]) (by rw [h2.len, sLine_eq]; exact hz.2), ?_⟩
          have h2' := RKVT.mono (x5.mono S4) _ _ h2
          exact P4 ρ4 _ σ (x4.trans (x5.trans x6)) (S5.put hq (.inr ⟨rfl, _, upd_same, RKVT.mono m6 _ _ (h2'.put (.tup kr) rd)⟩)) (((E3.mono (x4.mono S3)).mono (x5.mono S4)).mono m6)
        · exact P4.elim
      · exact P4.elim
    · exact P4.elim
  · exact P4.elim
end
end Ev

/-! ## Ev9c -/
set_option Elab.async false
set_option linter.all false
set_option maxRecDepth 100000
/-! Ev9c: s * n for texts; d.get(k, x) of a written dict. -/
namespace Ev
open PySem PySem.Spec PyProof.Rows L2
/-! ### a written dict -/
/-- what a table says of a key: its value, or that it isn't there -/
abbrev Tab := List (List Nat × Option D)
structure DctF (K : PySem.W.Frag) (w : World) (mg : Str → Option Value) (x : Str) (tab : Tab) : Prop where
  ex : ∃ (a : Addr) (es : Array DictEntry) (n : Nat), mg x = some (.ref a) ∧ KDict K w a es n ∧ ∀ s o, tab.lookup s = some o → match o with
    | some d => ∃ (u : Value) (v : V), PySem.W.nsIn K a ⟨s.toArray⟩ = some (some u) ∧ RelV v u ∧ ∀ ρ H, RD K ρ H d v
    | none => PySem.W.nsIn K a ⟨s.toArray⟩ = some none
  nd : (x == ("__debug__" : Str)) = false
def dCGet (tab : Tab) (a b : RV) (_ : Store) : Option RV := match a with
  | .v (.str s) => match tab.lookup s with
    | some (some d) => some (.v d)
    | some none => match b with
      | .v d => some (.v d)
      | _ => none
    | none => none
  | _ => none
theorem pe_kget {X : Cx} {o e f : Expr} {d : Addr} {es : Array DictEntry} {n : Nat} {ro te tf : TE} {apos cpos : Pos} (K1 : KDict X.K X.w d es n) (ho : PE X o ro) (he : PE X e te) (hf : PE X f tf) (m : M2 X o "get" apos e f cpos) :
    PE X (.Call (.Attribute o "get" apos) [e, f] [] cpos) fun σ H Q => ro σ H fun x H1 => x = .ref d ∧ te σ H1 fun y H2 => tf σ H2 fun z H3 => ∃ (k : Str) (r : Option Value), y = .str k ∧ PySem.W.nsIn X.K d k = some r ∧ match r with
      | some u => ∃ v, RelV v u ∧ Q v H3
      | none => Q z H3 := by
  refine ⟨fun pins s σ H Q I h => ?_⟩
  refine wpAny_Call_method m.base m.few m.line PySem.F.plainAttrs_dict PySem.F.slot_dict_get PySem.F.type_dict_get (thn (ho.run pins s σ H _ I h) fun u0 s1 ⟨x, H1, I1, rx, ex, q1⟩ => ?_)
  subst ex
  obtain rfl : u0 = Value.ref d := rx
  have mo := PySem.W.mapOf_K (prog := X.prog) (w := X.w) I1.kIn K1.at_ K1.lit
  refine ⟨mo.typeIs, mo.noDict, ?_⟩
  rw [m.trees]
  refine Calls.callWith_builtin rfl (Calls.evalArgs_plain (Calls.spliced_cons (thn (he.run pins s1 σ H1 _ I1 q1) fun u1 s2 ⟨y, H2, I2, ry, q2⟩ => Calls.spliced_cons (thn (hf.run pins s2 σ H2 _ I2 q2) fun u2 s3 ⟨z, H3, I3, rz, k, r, ey, hk, q3⟩ => Calls.spliced_nil ?_))))
  subst ey
  obtain ⟨t, rfl⟩ := (show ∃ t, u1 = Value.str k t from ry)
  have mo3 := PySem.W.mapOf_K (prog := X.prog) (w := X.w) I3.kIn K1.at_ K1.lit
  refine call_meetsIn PySem.F.slot_dict_get mo3.typeIs PySem.F.entry_dict_get (PySem.F.args_dict_get_3 _ _ _) (meets_dict_get_default (strKind X.prog X.w) d (strKind_is X.prog X.w k t) K1.low u2) ⟨_, mo3, ?_⟩
  rw [PySem.W.find_K K1.at_ hk]
  cases r with
  | some u =>
    obtain ⟨v, rv, q⟩ := q3
    exact ⟨v, H3, I3.tok _, rv, q⟩
  | none => exact ⟨z, H3, I3.tok _, rz, q3⟩
theorem de_cget {X : Cx} {cl : CT} {W : WX} {x : Str} {tab : Tab} {e f : Expr} {fa fb : SEnv → Store → R RV} {p apos cpos : Pos} (hg : Gl X x) (T : DctF X.K X.w X.mg x tab) (he : PE X e (tF X.K cl W fa)) (hf : PE X f (tF X.K cl W fb)) (m : M2 X (.Name x p) "get" apos e f cpos) :
    PE X (.Call (.Attribute (.Name x p) "get" apos) [e, f] [] cpos) (tF X.K cl W (e2 (dCGet tab) fa fb)) := by
  obtain ⟨a, es, n, hm, K1, hk⟩ := T.ex
  have hN : PE X (.Name x p) (tC (.ref a)) := pe_glob hg hm rfl T.nd
  refine PEw (pe_kget K1 hN he hf m) fun σ H Q ⟨ρ, env, st, S, E, P⟩ => ⟨rfl, ρ, env, st, S, E, (Post.bind backV P).mono ?_⟩
  rintro y H1 ⟨ρ1, st1, u, x1, S1, r1, P1⟩
  refine ⟨ρ1, env, st1, S1, E.mono (x1.mono S), (Post.bind backV P1).mono ?_⟩
  rintro z H2 ⟨ρ2, st2, w, x2, S2, r2, P2⟩
  obtain ⟨c, hc, q⟩ := P2.prim
  unfold dCGet at hc
  split at hc
  · rename_i s
    have r1 : y = .str ⟨s.toArray⟩ := r1
    subst r1
    split at hc
    · rename_i d hl
      cases hc
      obtain ⟨u, v, h1, h2, h3⟩ := hk _ _ hl
      exact ⟨_, some u, rfl, h1, v, h2, q ρ2 H2 v (Ext.refl _ _) S2 (h3 _ _)⟩
    · rename_i hl
      split at hc
      · cases hc
        exact ⟨_, none, rfl, hk _ _ hl, q ρ2 H2 z (Ext.refl _ _) S2 r2⟩
      · cases hc
    · cases hc
  · cases hc
/-! ### s * n -/
theorem foldl_app (l : List (Array Nat)) (a : Array Nat) : (l.foldl (· ++ ·) a).toList = a.toList ++ (l.map Array.toList).flatten := by
  induction l generalizing a with
  | nil => simp
  | cons b l ih => simp [ih]
theorem op_strMul {X : Cx} : OpR X (binaryOp .Mult) fun x y H Q => ∃ (s : List Nat) (k : Nat), x = .str ⟨s.toArray⟩ ∧ y = .int (k : Int) ∧ 2 ≤ k ∧ k ≤ 1000 ∧ 1 ≤ s.length ∧ s.length ≤ 1000 ∧ Q (.str ⟨((List.replicate k s).flatten).toArray⟩) H := by
  rintro pins s σ H x y v u Q I rx ry ⟨l, k, rfl, rfl, h1, h2, h3, h4, q⟩
  obtain ⟨t, rfl⟩ := (show ∃ t, v = Value.str ⟨l.toArray⟩ t from rx)
  obtain ⟨t2, rfl⟩ := (show ∃ t, u = Value.int (k : Int) t from ry)
  have hs := strlen l
  have hp : l.length * k ≤ 1000 * 1000 := Nat.mul_le_mul h4 h2
  refine PySem.P.mul_str ?_ ?_ ?_ ?_
  · simp; omega
  · intro _ _ z
    rw [hs] at z
    have : (1000 : Int) ≤ (2 ^ 63 - 1) / (k : Int) := by
      rw [Int.le_ediv_iff_mul_le (by omega)]
      have : (1000 : Int) * k ≤ 1000 * 1000 := Int.mul_le_mul_of_nonneg_left (by omega) (by omega)
      omega
    have h4' : (l.length : Int) ≤ 1000 := by omega
    exact absurd z (Int.not_lt.mpr (Int.le_trans h4' this))
  · intro _ _
    rw [hs]
    have hz : sizeLine = 16777216 := sizeLine_eq
    unfold Builtin.Str.tooLong
    rw [hz]
    simp
    omega
  · rw [if_neg (by omega), if_neg (by rw [hs]; simp only [Bool.or_eq_true, beq_iff_eq, not_or]; omega)]
    have e : (⟨List.foldl (fun x1 x2 => x1 ++ x2) #[] (List.replicate (k : Int).toNat (⟨l.toArray⟩ : Str).cps)⟩ : Str) = ⟨((List.replicate k l).flatten).toArray⟩ := by
      congr 1
      apply Array.ext'
      rw [foldl_app]
      simp
    rw [e]
    refine ⟨?_, ?_⟩
    · have hz : sizeLine = 16777216 := sizeLine_eq
      rw [strlen, hz]
      simp
      rw [Nat.mul_comm]
      omega
    · exact ⟨.str _, H, I.tok _, ⟨_, rfl⟩, q⟩
theorem RDs.rep {K : PySem.W.Frag} {ρ : List Addr} {H : Hp} {l : List D} {vs : List V} (h : RDs K ρ H l vs) : ∀ n : Nat, RDs K ρ H (List.replicate n l).flatten (List.replicate n vs).flatten
  | 0 => rfl
  | n + 1 => by rw [List.replicate_succ, List.replicate_succ, List.flatten_cons, List.flatten_cons]; exact h.append (RDs.rep h n)
noncomputable def dMulS (a b : RV) (st : Store) : Option RV := match a, b with
  | .t l, .v (.int k) => if k.natAbs < 4611686018427387904 ∧ l.length * k.toNat ≤ sLine then some (.t (List.replicate k.toNat l).flatten) else none
  | .v (.tup l), .v (.int k) => if 2 ≤ k ∧ k ≤ 1000 ∧ 1 ≤ l.length ∧ l.length ≤ 1000 then some (.v (.tup (List.replicate k.toNat l).flatten)) else none
  | .v (.str s), .v (.int k) => if 2 ≤ k ∧ k ≤ 1000 ∧ 1 ≤ s.length ∧ s.length ≤ 1000 then some (.v (.str (List.replicate k.toNat s).flatten)) else none
  | a, b => dMul a b st
theorem opd_mulS {X : Cx} {cl : CT} : OpR X (binaryOp .Mult) (rP2 X.K cl dMulS) := by
  rintro pins s σ H x y v u Q I rx ry ⟨ρ, st, a, b, H0, H1, S, ra, rb, c, hc, q⟩
  unfold dMulS at hc
  split at hc
  · rename_i l k
    split at hc
    · rename_i hb
      cases hc
      obtain ⟨p, vs, rfl, h1, h2, h3, hl⟩ := ra
      cases rb
      refine op_rep pins s σ H _ _ v u Q I rx ry ⟨p, k, vs, rfl, rfl, h1, by omega, by omega, by rw [← hl.length, sLine_eq]; exact hb.2, fun n hn => ?_⟩
      exact q ρ _ _ (Ext.new hn) (S.new hn) ⟨n, _, rfl, upd_same, (fun z => by
        obtain ⟨o, e, _⟩ := S.obj z
        rw [hn] at e; cases e), hn, RDs.mono ((Ext.new hn).mono S) _ _ (hl.rep _)⟩
    · cases hc
  · rename_i l k
    split at hc
    · rename_i hb
      cases hc
      obtain ⟨p, vs, rfl, hT, hl⟩ := ra
      cases rb
      have le := hl.length
      refine op_repT pins s σ H _ _ v u Q I rx ry ⟨p, k, vs, rfl, rfl, hT, fun z => by rw [z, List.length_nil] at le; omega, hb.1, hb.2.1, by omega, fun a ha => ?_⟩
      have x1 : Ext ρ H ρ (upd H a (.tup (List.replicate k.toNat vs).flatten)) := Ext.new ha
      exact q ρ _ _ x1 (S.new ha) ⟨a, _, rfl, SqT.of upd_same, RDs.mono (x1.mono S) _ _ (hl.rep _)⟩
    · cases hc
  · rename_i l k
    split at hc
    · rename_i hb
      cases hc
      obtain ⟨n, rfl⟩ := Int.eq_ofNat_of_zero_le (show 0 ≤ k by omega)
      cases ra; cases rb
      exact op_strMul pins s σ H _ _ v u Q I rx ry ⟨l, n, rfl, rfl, by omega, by omega, hb.2.2.1, hb.2.2.2, q ρ H _ (Ext.refl _ _) S rfl⟩
    · cases hc
  · exact opd_mul pins s σ H x y v u Q I rx ry ⟨ρ, st, a, b, H0, H1, S, ra, rb, c, hc, q⟩
@[simp] theorem dMulS_int (i j : Int) (st : Store) : dMulS (.v (.int i)) (.v (.int j)) st = dMul (.v (.int i)) (.v (.int j)) st := .trans rfl rfl
@[simp] theorem dMulS_t (l : List D) (k : Int) (st : Store) : dMulS (.t l) (.v (.int k)) st = if k.natAbs < 4611686018427387904 ∧ l.length * k.toNat ≤ sLine then some (.t (List.replicate k.toNat l).flatten) else none := .trans rfl rfl
@[simp] theorem dMulS_tup (l : List D) (k : Int) (st : Store) : dMulS (.v (.tup l)) (.v (.int k)) st = if 2 ≤ k ∧ k ≤ 1000 ∧ 1 ≤ l.length ∧ l.length ≤ 1000 then some (.v (.tup (List.replicate k.toNat l).flatten)) else none := .trans rfl rfl
@[simp] theorem dMulS_str (s : List Nat) (k : Int) (st : Store) : dMulS (.v (.str s)) (.v (.int k)) st = if 2 ≤ k ∧ k ≤ 1000 ∧ 1 ≤ s.length ∧ s.length ≤ 1000 then some (.v (.str (List.replicate k.toNat s).flatten)) else none := .trans rfl rfl
@[simp] theorem dCGet_str (tab : Tab) (s : List Nat) (d : D) (st : Store) : dCGet tab (.v (.str s)) (.v d) st = match tab.lookup s with
    | some (some d') => some (.v d')
    | some none => some (.v d)
    | none => none := .trans rfl rfl
end Ev

/-! ## Ev9d -/
set_option Elab.async false
set_option linter.all false
set_option maxRecDepth 100000
/-! Ev9d: list.index, also of a list that was just made. -/
namespace Ev
open PySem PySem.Spec PyProof.Rows L2
def gIndex (ds l : List D) : Option (D × List D) := match ds with
  | [a] => if D.pure a && D.pures l && SeqAt.shaped a.toPy && SeqAt.shaped (.list (D.toPys l)) then ((D.toPys l).findIdx? fun z => PyData.eqv z a.toPy).map fun j => (.int (j : Nat), l) else none
  | _ => none
theorem mg_index {K : PySem.W.Frag} : MtG K (rIndexD K) gIndex := by
  intro ρ H p vs ws ds l l' d Q hp hl hw hg q
  unfold gIndex at hg
  split at hg
  rotate_left
  · cases hg
  rename_i a
  split at hg
  rotate_left
  · cases hg
  rename_i hok
  simp only [Bool.and_eq_true] at hok
  obtain ⟨⟨⟨o1, o2⟩, o3⟩, o4⟩ := hok
  cases hf : (D.toPys l).findIdx? fun z => PyData.eqv z a.toPy with
  | none => rw [hf] at hg; cases hg
  | some j =>
    rw [hf] at hg
    cases hg
    obtain ⟨w, r, rfl, h1, h2⟩ := hw
    have : r = [] := h2
    subst this
    obtain ⟨hj, hja, hno⟩ := List.findIdx?_eq_some_iff_getElem.mp hf
    have hupd : upd H p (.lst vs) = H := by
      funext x
      unfold upd
      split
      · rename_i e; rw [e, hp]
      · rfl
    have hq := q (.int (j : Nat)) vs rfl hl
    rw [hupd] at hq
    refine ⟨p, w, a.toPy, D.toPys l, j, (D.toPys l)[j], rfl, rfl, .lst (SqL.of hp) (dps_of l vs o2 hl), dp_of a w o1 h1, o4, o3, List.getElem?_eq_getElem hj, hja, ?_, hq⟩
    intro m z' hm hz
    have hml : m < (D.toPys l).length := by omega
    rw [List.getElem?_eq_getElem hml] at hz
    cases hz
    simpa using hno m hm
/-- a new list becomes a cell -/
def eMat (fo : SEnv → Store → R RV) : SEnv → Store → R RV := fun env st => (fo env st).bind fun a st1 => (mat a st1).bind fun d st2 => .ok (.v d) st2
theorem de_mat {X : Cx} {cl : CT} {W : WX} {o : Expr} {fo : SEnv → Store → R RV} (h : PE X o (tF X.K cl W fo)) : PE X o (tF X.K cl W (eMat fo)) := by
  refine PEw h fun σ H Q ⟨ρ, env, st, S, E, P⟩ => ?_
  refine ⟨ρ, env, st, S, E, (Post.bind0 P).mono ?_⟩
  rintro x H1 ⟨ρ1, st1, a, x1, S1, r1, P1⟩
  obtain ⟨d, st2, ρ2, e2, x2, S2, r2, m2⟩ := mat_ok S1 x1 r1
  rw [e2, R.bind_ok] at P1
  exact P1 ρ2 H1 x x2 S2 r2
end Ev

/-! ## Ev9f -/
set_option Elab.async false
set_option linter.all false
set_option maxRecDepth 100000
namespace Ev
open PySem PySem.Spec PyProof.Rows L2
def tupsOf : List D → Option (List (List D))
  | [] => some []
  | .tup l :: r => (tupsOf r).map (l :: ·)
  | _ :: _ => none
def minLen {α : Type} (x : List α) (xs : List (List α)) : List α := xs.foldl (fun a y => if decide (y.length < a.length) then y else a) x
def dMinLen (a : RV) (st : Store) : Option RV := match lstV st a with
  | some l => match tupsOf l with
    | some (x :: xs) => some (.v (.tup (minLen x xs)))
    | _ => none
  | none => none
theorem tupsOf_ok : ∀ {l : List D} {t : List (List D)}, tupsOf l = some t → l = t.map D.tup
  | [], t, h => by cases h; rfl
  | .tup x :: r, t, h => by
    simp only [tupsOf] at h
    cases e : tupsOf r with
    | none => rw [e] at h; cases h
    | some t' => rw [e] at h; cases h; rw [tupsOf_ok e]; rfl
theorem rds_at {K : PySem.W.Frag} {ρ : List Addr} {H : Hp} : ∀ {t : List (List D)} {vs : List V}, RDs K ρ H (t.map D.tup) vs → vs.length = t.length ∧ ∀ (i : Nat) (x : List D), t[i]? = some x → ∃ (p : Addr) (ws : List V), vs[i]? = some (V.ref p) ∧ SqT K H p ws ∧ RDs K ρ H x ws
  | [], vs, h => by
    obtain rfl : vs = [] := h
    exact ⟨rfl, fun i x hx => by simp at hx⟩
  | x :: t, vs, h => by
    obtain ⟨v, r, rfl, h1, h2⟩ := h
    have ih := rds_at (t := t) h2
    refine ⟨by simp [ih.1], fun i y hy => ?_⟩
    cases i with
    | zero =>
      cases hy
      obtain ⟨p, ws, rfl, h3, h4⟩ := h1
      exact ⟨p, ws, rfl, h3, h4⟩
    | succ i => exact ih.2 i y (by simpa using hy)
theorem min_len {X : Cx} {cl : CT} (hc : X.calm = true) {pins : List (Addr × Obj)} {s : Shared} {σ : L2.St} {H : Hp} {x : V} {u : Value} {Q : VK} {ρ : List Addr} {st : Store} {a : RV} {H0 : Hp} (I : Inv X pins σ H s) (ru : RelV x u) (S : RS X.K ρ H cl st) (ra : RRV X.K ρ H H0 a x)
    (q : Prim X.K cl st ρ H (dMinLen a st) Q) : wpAny (model X.prog X.w) X.A (call (.builtin "min") [u] [(Str.ofString "key", .builtin "len")]) (EP X pins σ Q) X.xe s := by
  obtain ⟨c, h⟩ : ∃ c, dMinLen a st = some c := ⟨_, q.choose_spec.1⟩
  have h0 := h
  unfold dMinLen at h
  split at h
  rotate_left
  · cases h
  rename_i l hl
  obtain ⟨p, vs, rfl, h1, h2⟩ := lstV_ok S ra hl
  split at h
  rotate_left
  · cases h
  rename_i t0 ts e
  cases h
  rw [tupsOf_ok e] at h2
  obtain ⟨len, hat⟩ := rds_at (t := t0 :: ts) h2
  cases ru
  obtain ⟨its, rv, pl, hz⟩ := I.list h1
  have hh : X.A.handled = none := I.ok.hd hc
  have hn : its.length = ts.length + 1 := by rw [← rv.length, len]; rfl
  have each : ∀ (i : Nat) (v : Value), its.toArray[i]? = some v → ∃ (x : List D) (q : Addr) (us : List Value), (t0 :: ts)[i]? = some x ∧ v = .ref q ∧ s.heap.IsTuple q us.toArray ∧ us.length = x.length ∧ us.length ≤ sizeLine ∧ RD X.K ρ H (.tup x) (.ref q) := by
    intro i v hv
    have hv : its[i]? = some v := by simpa using hv
    have hi : i < its.length := (List.getElem?_eq_some_iff.mp hv).1
    have hx : (t0 :: ts)[i]? = some (t0 :: ts)[i] := List.getElem?_eq_getElem (by simp; omega)
    obtain ⟨q, ws, k1, k2, k3⟩ := hat i _ hx
    obtain ⟨v', k4, k5⟩ := rv.get k1
    rw [hv] at k4
    cases k4
    cases k5
    obtain ⟨us, r2, pt, z2⟩ := I.tuple k2
    refine ⟨_, q, us, hx, rfl, pt, by rw [← r2.length, ← k3.length], by rw [← r2.length]; exact z2, q, ws, rfl, k2, k3⟩
  have l63 : sizeLine < 2 ^ 63 := by rw [sizeLine_eq]; omega
  refine call_min_walkKB (PySem.W.iter_listW (A := X.A.in1) hh pl.isList fun s₂ e2 W st0 hfp hw hk => ?_)
  refine ⟨_, _, _, _, _, _, _, (fun s' => ∃ h' tk, s' = { s with heap := h', toks := tk } ∧ ∀ b o, s.heap.get? b = some o → h'.get? b = some o), (fun i k _ => ∃ tk, k = .int (((t0 :: ts).getD i []).length : Nat) tk), (fun i j => decide (((t0 :: ts).getD i []).length < ((t0 :: ts).getD j []).length)), rfl, W, st0, hfp, by simp; omega, ?_, ⟨_, _, e2, fun b o g => Heap.get?_push_of_some _ g⟩, ?_⟩
  · refine ⟨?_, fun i k _ _ h _ => h, ?_, ?_⟩
    · rintro s1 s2 ⟨h', tk, rfl, keep⟩ m
      obtain ⟨hp, g, d, tk2, os⟩ := s2
      have m1 : g = s.gens := m.gens
      have m2 : d = s.drawn := m.drawn
      have m3 : os = s.os := m.os
      subst m1 m2 m3
      refine ⟨hp, tk2, rfl, fun b o g => m.heap b o (fun hb => ?_) (keep b o g)⟩
      have lb := Heap.lt_size g
      subst e2
      rcases List.mem_cons.mp hb with hb | hb
      · have : b = s.heap.objs.size + 1 := by rw [hb]; exact Heap.size_push ..
        rw [this] at lb
        exact Nat.lt_irrefl _ (Nat.lt_trans (Nat.lt_succ_self _) lb)
      · have := List.mem_singleton.mp hb
        rw [this] at lb
        exact Nat.lt_irrefl _ lb
    · rintro i v s1 o Q1 E1 hi hP ⟨h', tk, rfl, keep⟩ hst hS hQ
      obtain ⟨x, q', us, k1, rfl, k2, k3, k4, _⟩ := each i v hP
      have k2' : h'.IsTuple q' us.toArray := by
        obtain ⟨o, g1, g2⟩ := k2
        exact ⟨o, keep _ _ g1, g2⟩
      refine len_tuple (s := { s with heap := h', toks := tk }) k2' (by simp only [List.size_toArray]; omega) ?_
      refine hQ _ _ ⟨h', _, rfl, keep⟩ hst hS ⟨tk + 1, ?_⟩ fun _ _ h => h
      rw [List.size_toArray, k3]
      have : (t0 :: ts).getD i [] = x := by rw [List.getD_eq_getElem?_getD, k1]; rfl
      rw [this]
    · rintro i j ki kj s1 Q1 E1 _ ⟨ti, rfl⟩ ⟨tj, rfl⟩ hQ
      refine PyProof.Rows.lt_int ?_
      have : decide ((((t0 :: ts).getD i []).length : Int) < (((t0 :: ts).getD j []).length : Nat)) = decide (((t0 :: ts).getD i []).length < ((t0 :: ts).getD j []).length) := by
        rw [Bool.eq_iff_iff, decide_eq_true_eq, decide_eq_true_eq]; omega
      rw [this]
      exact hQ
  · rintro v s' hP ⟨h', tk, rfl, keep⟩
    obtain ⟨x, q', us, k1, rfl, k2, k3, k4, k5⟩ := each _ v hP
    have fo := (PySem.W.argBest_fold (fun a b : List D => decide (a.length < b.length)) [] t0 ts ts.length (Nat.le_refl _)).2
    rw [List.take_length] at fo
    have en : its.toArray.size - 1 = ts.length := by simp; omega
    rw [en, ] at k1
    rw [List.getD_eq_getElem?_getD, k1] at fo
    have ex : x = minLen t0 ts := fo
    rw [ex] at k5
    exact ⟨.ref q', H, I.kept (t' := tk) keep, rfl, fin_v S q h0 k5⟩
theorem boot_minL : bootBuiltins "min" = some (.builtin "min") := by decide +kernel
theorem de_minLen {X : Cx} {cl : CT} {W : WX} {a : Expr} {fa : SEnv → Store → R RV} {p q kp pos : Pos} (hc : X.calm = true) (gm : Gl X "min") (mm : X.mg "min" = none) (gl : Gl X "len") (ml : X.mg "len" = none) (ha : PE X a (tF X.K cl W fa)) (ns : ∀ es, starEach (a :: es) X.env = (false, eval a X.env) :: starEach es X.env) :
    PE X (.Call (.Name "min" p) [a] [⟨some "key", .Name "len" q, kp⟩] pos) (tF X.K cl W (e1 dMinLen fa)) := by
  refine PEw (t := tUn (rP1 X.K cl dMinLen) (tF X.K cl W fa)) ⟨fun pins s σ H Q I h => ?_⟩ w_op1
  have hA := pa_cons ha pa_nil (ns [])
  refine wpAny_Call_Name_kw (ld_blt I gm mm boot_minL ?_)
  refine PyProof.Rows.callWith_kw (e := a) (rest := []) ?_ (by rw [ns]; rfl) (by rw [ns]; rfl) rfl rfl
  refine thn (hA.run pos pins s σ H (fun vs H1 => ∃ x, vs = [x] ∧ rP1 X.K cl dMinLen x H1 Q) I ?_) fun us s1 ⟨vs, H1, I1, r1, q1⟩ => ?_
  · obtain ⟨ρ, env, st, S, E, P⟩ := h
    exact ⟨ρ, env, st, S, E, P.mono fun x H1 hx => ⟨x, rfl, hx⟩⟩
  obtain ⟨x, rfl, ρ, st, b, H0, S, ra, P⟩ := q1
  obtain ⟨u, rfl, rx⟩ := vals1 r1
  show wpAny _ _ (evalAll [do let v ← eval (.Name "len" q) X.env; standAt pos; pure v]) _ _ s1
  refine wpAny_evalAll_cons (wpAny_bind (ld_blt I1 gl ml PySem.boot_len (wpAny_bind (wpAny_standAt (wpAny_pure (wpAny_evalAll_nil ?_))))))
  exact min_len hc I1 rx S ra P
end Ev

/-! ## Ev9g -/
set_option Elab.async false
set_option linter.all false
set_option maxRecDepth 100000
/-! Ev9g: dicts whose keys are ints and texts: a new one, d[k] = v, d.pop(k). -/
namespace Ev
open PySem PySem.Spec PyProof.Rows L2
def eDNewK : SEnv → Store → R RV := fun _ st => .ok (.v (.ref st.length)) (st ++ [.dict false []])
noncomputable def sDPutK (fa fo fi : SEnv → Store → R RV) : SS := fun env st => (fa env st).toS env fun a st1 => (mat a st1).toS env fun d st2 => (fo env st2).toS env fun o st3 => (fi env st3).toS env fun i st4 => match o, i with
  | .v (.ref n), .v k => match st4[n]? with
    | some (.dict false kvs) => match keyD k with
      | some _ => if kvs.length < sLine then .nx env (st4.set n (.dict false (dputD kvs k d))) else .bad
      | none => .bad
    | _ => .bad
  | _, _ => .bad
noncomputable def ePopK (fo fi : SEnv → Store → R RV) : SEnv → Store → R RV := fun env st => (fo env st).bind fun o st1 => match o with
  | .v (.ref n) => match st1[n]? with
    | some (.dict false _) => (fi env st1).bind fun i st2 => match i with
      | .v k => match st2[n]? with
        | some (.dict false kvs) => match keyD k, dvV kvs k with
          | some _, some d => .ok (.v d) (st2.set n (.dict false (ddrop kvs k)))
          | _, _ => .bad
        | _ => .bad
      | _ => .bad
    | _ => .bad
  | _ => .bad
section
variable {X : Cx} {cl : CT} {W : WX} {o i e : Expr} {fa fo fi : SEnv → Store → R RV} {pos pos' apos : Pos}
theorem de_dnewK : PE X (.Dict [] [] pos) (tF X.K cl W eDNewK) := PEw pe_dnewK fun σ H Q ⟨ρ, env, st, S, E, P⟩ p hp => by
  have x : Ext ρ H (ρ ++ [p]) (upd H p (.dK [])) := Ext.grow (Ext.new hp) hp
  have S1 : RS X.K ρ (upd H p (.dK [])) cl st := S.new hp
  have np : p ∉ ρ := fun z => by
    obtain ⟨u, e, _⟩ := S.obj z
    rw [hp] at e; cases e
  refine P (ρ ++ [p]) _ (.ref p) x (S1.grow np (.inl ⟨rfl, [], upd_same, rfl⟩)) ⟨p, rfl, ?_⟩
  rw [← S.len, List.getElem?_append_right (Nat.le_refl _)]
  simp
theorem ds_dputK (hu : X.A.units + 1 < cLine) (ho : PE X o (tF X.K cl W fo)) (hi : PE X i (tF X.K cl W fi)) (hv : PE X e (tF X.K cl W fa)) (hs : swapsWith e (some (.Subscript o i pos')) pos.line X.env = pure false) :
    PS X (.Assign [.Subscript o i pos'] e pos) (tS X.K cl W (sDPutK fa fo fi)) := by
  refine PSw (ps_dput hu ho hi hv hs) fun D σ H ⟨ρ, env, st, S, E, P⟩ => ?_
  refine ⟨ρ, env, st, S, E, (PostS.toS (rel := relV X.K) S E P).mono ?_⟩
  rintro x H1 ⟨ρ1, st1, a, x1, S1, r1, P1⟩
  obtain ⟨d, st2, ρ2, e2, x2, S2, r2, m2⟩ := mat_ok S1 x1 r1
  rw [e2, R.toS_ok] at P1
  have P2 := PostS.from S2 x2 P1
  have E2 := (E.mono (x1.mono S)).mono m2
  refine ⟨ρ2, env, st2, S2, E2, (PostS.toS (rel := relV X.K) S2 E2 P2).mono ?_⟩
  rintro y H3 ⟨ρ3, st3, ob, x3, S3, r3, P3⟩
  have P3' := PostS.from S3 x3 P3
  have E3 := E2.mono (x3.mono S2)
  refine ⟨ρ3, env, st3, S3, E3, (PostS.toS (rel := relV X.K) S3 E3 P3').mono ?_⟩
  rintro z H4 ⟨ρ4, st4, iv, x4, S4, r4, P4⟩
  have r3' := RRV.ext S3 x4 r3
  split at P4
  · rename_i n k
    split at P4
    · rename_i kvs e
      split at P4
      · rename_i ks hk
        split at P4
        · rename_i hz
          obtain ⟨q, rfl, hq⟩ := r3'
          have kr := keyD_rel hk
          have ez := kr.val r4
          subst ez
          obtain ⟨_, vs, h1, h2⟩ | ⟨b, _⟩ := S4.at_ _ _ _ e hq
          · have rd := RD.mono (x4.mono S3) _ _ (RD.mono (x3.mono S2) _ _ r2)
            have x6 : Ext ρ4 H4 ρ4 (upd H4 q (.dK (putK vs ks x))) := Ext.put (List.mem_of_getElem? hq) h1 (fun _ _ z => by cases z)
            have m6 := x6.mono S4
            refine ⟨q, _, rfl, DPut.k h1 (by rw [h2.len, sLine_eq]; exact hz), ?_⟩
            exact P4 ρ4 _ σ (x4.trans x6) (S4.put hq (.inl ⟨rfl, _, upd_same, RKV.mono m6 _ _ (h2.put kr rd)⟩)) ((E3.mono (x4.mono S3)).mono m6)
          · cases b
        · exact P4.elim
      · exact P4.elim
    · exact P4.elim
  · exact P4.elim
theorem de_popK (ho : PE X o (tF X.K cl W fo)) (hi : PE X i (tF X.K cl W fi)) (m : M1 X o "pop" apos i pos) : PE X (.Call (.Attribute o "pop" apos) [i] [] pos) (tF X.K cl W (ePopK fo fi)) := by
  refine PEw (pe_dpop1 ho hi m) fun σ H Q ⟨ρ, env, st, S, E, P⟩ => ?_
  refine ⟨ρ, env, st, S, E, (Post.bind0 P).mono ?_⟩
  rintro x H1 ⟨ρ1, st1, a, x1, S1, r1, P1⟩
  split at P1
  · rename_i n
    split at P1
    · rename_i kv1 e1
      obtain ⟨q, rfl, hq⟩ := r1
      obtain ⟨_, vs1, g1, g2⟩ | ⟨b, _⟩ := S1.at_ _ _ _ e1 hq
      · refine ⟨q, rfl, .inl ⟨vs1, .inl g1⟩, ρ1, env, st1, S1, E.mono (x1.mono S), (Post.bind0 (relα := relV X.K) (Post.from backV S1 x1 P1)).mono ?_⟩
        rintro y H2 ⟨ρ2, st2, iv, x2, S2, r2, P2⟩
        have hq2 : ρ2[n]? = some q := by
          obtain ⟨more, rfl⟩ := x2.pre
          rw [List.getElem?_append_left (List.getElem?_eq_some_iff.mp hq).1]
          exact hq
        split at P2
        · rename_i k
          split at P2
          · rename_i kvs e
            split at P2
            · rename_i ks d hk hd
              have kr := keyD_rel hk
              have ey := kr.val r2
              subst ey
              obtain ⟨_, vs, h1, h2⟩ | ⟨b, _⟩ := S2.at_ _ _ _ e hq2
              · obtain ⟨v, hv, rv⟩ := (h2.val kr).1 hd
                have x6 : Ext ρ2 H2 ρ2 (upd H2 q (.dK (dropK vs ks))) := Ext.put (List.mem_of_getElem? hq2) h1 (fun _ _ z => by cases z)
                have m6 := x6.mono S2
                refine ⟨vs, ks, v, h1, rfl, hv, ?_⟩
                exact P2 ρ2 _ v (x2.trans x6) (S2.put hq2 (.inl ⟨rfl, _, upd_same, RKV.mono m6 _ _ (h2.drop kr)⟩)) (RD.mono m6 _ _ rv)
              · cases b
            · exact P2.elim
          · exact P2.elim
        · exact P2.elim
      · cases b
    · exact P1.elim
  · exact P1.elim
end
end Ev

/-! ## Ev9h -/
set_option Elab.async false
set_option linter.all false
set_option maxRecDepth 100000
/-! Ev9h: instances of the text's own classes: fields, methods, properties, new ones. -/
namespace Ev
open PySem PySem.Spec PyProof.Rows L2
theorem CXm_no {μ : Bool} {P : Program} {w : World} {outer : List Env} {H : Hp} {s s' : Shared} {e : Value} (h : CXm μ P w outer H s (fun _ _ _ => False) e s') : False := by
  cases μ with
  | true => obtain ⟨_, _, _, _, _, _, _, _, _, _, _, _, hE⟩ := h; exact hE
  | false => obtain ⟨_, _, _, _, _, _, _, _, _, _, _, _, hE⟩ := h; exact hE
/-- the plain fields of each class -/
abbrev FTab := List (Str × List Str)
def ftOk (tab : FTab) (c f : Str) : Bool := match tab.lookup c with
  | some l => l.contains f
  | none => false
structure FldF (K : PySem.W.Frag) (cl : CT) (tab : FTab) : Prop where
  ok : ∀ c f, ftOk tab c f = true → ∀ C, cl c = some C → Cls K C ∧ NoAttr K C f
def putFd (f : Str) (v : D) : List (Str × D) → List (Str × D)
  | [] => [(f, v)]
  | (g, u) :: r => if g = f then (g, v) :: r else (g, u) :: putFd f v r
/-- e.f -/
def eFld (tab : FTab) (f : Str) (fo : SEnv → Store → R RV) : SEnv → Store → R RV := fun env st => (fo env st).bind fun o st1 => match o with
  | .v (.ref n) => match st1[n]? with
    | some (.ins c fs) => if ftOk tab c f = true then match fs.lookup f with
      | some d => .ok (.v d) st1
      | none => .bad else .bad
    | _ => .bad
  | _ => .bad
/-- o.f = e -/
noncomputable def sFldSet (tab : FTab) (f : Str) (fa fo : SEnv → Store → R RV) : SS := fun env st => (fa env st).toS env fun a st1 => (mat a st1).toS env fun d st2 => (fo env st2).toS env fun o st3 => match o with
  | .v (.ref n) => match st3[n]? with
    | some (.ins c fs) => if ftOk tab c f = true ∧ fs.length < 1000 then .nx env (st3.set n (.ins c (putFd f d fs))) else .bad
    | _ => .bad
  | _ => .bad
/-- o.m(..) -/
def eMeth (c m : Str) (g : List D → Store → R RV) (fo : SEnv → Store → R RV) (fr : SEnv → Store → R (List D)) : SEnv → Store → R RV := fun env st => (fo env st).bind fun o st1 => match o with
  | .v (.ref n) => match st1[n]? with
    | some (.ins c' fs) => if c' = c ∧ fs.lookup m = none then (fr env st1).bind fun ds st2 => g (.ref n :: ds) st2 else .bad
    | _ => .bad
  | _ => .bad
/-- o.f, a property -/
def eProp (c : Str) (g : List D → Store → R RV) (fo : SEnv → Store → R RV) : SEnv → Store → R RV := fun env st => (fo env st).bind fun o st1 => match o with
  | .v (.ref n) => match st1[n]? with
    | some (.ins c' _) => if c' = c then match g [.ref n] st1 with
      | .ok a st2 => .ok a st2
      | _ => .bad else .bad
    | _ => .bad
  | _ => .bad
/-- C(..) -/
def eMake (c : Str) (g : List D → Store → R RV) (fr : SEnv → Store → R (List D)) : SEnv → Store → R RV := fun env st => (fr env st).bind fun ds st1 => (g (.ref st1.length :: ds) (st1 ++ [.ins c []])).bind fun a st2 => match a with
  | .v .non => .ok (.v (.ref st1.length)) st2
  | _ => .bad
section
variable {X : Cx} {cl : CT} {W : WX} {o i e : Expr} {fa fo fi : SEnv → Store → R RV} {pos pos' apos : Pos} {tab : FTab} {f c m : Str}
theorem RFs.lookN {K : PySem.W.Frag} {ρ : List Addr} {H : Hp} {f : Str} : ∀ {l : List (Str × D)} {vs : List (Str × V)}, RFs K ρ H l vs → l.lookup f = none → vs.lookup f = none
  | [], _, h, _ => by cases h; rfl
  | (g, d) :: r, _, h, hl => by
    obtain ⟨v, r', rfl, h1, h2⟩ := h
    rw [List.lookup_cons] at hl ⊢
    split at hl
    · cases hl
    · exact RFs.lookN h2 hl
theorem RFs.lookS {K : PySem.W.Frag} {ρ : List Addr} {H : Hp} {f : Str} {d : D} : ∀ {l : List (Str × D)} {vs : List (Str × V)}, RFs K ρ H l vs → l.lookup f = some d → ∃ v, vs.lookup f = some v ∧ RD K ρ H d v
  | [], _, _, h => by cases h
  | (g, d') :: r, _, h, hl => by
    obtain ⟨v, r', rfl, h1, h2⟩ := h
    rw [List.lookup_cons] at hl ⊢
    split at hl
    · cases hl; exact ⟨v, rfl, h1⟩
    · exact RFs.lookS h2 hl
theorem RFs.length {K : PySem.W.Frag} {ρ : List Addr} {H : Hp} : ∀ {l : List (Str × D)} {vs : List (Str × V)}, RFs K ρ H l vs → l.length = vs.length
  | [], _, h => by cases h; rfl
  | (g, d') :: r, _, h => by
    obtain ⟨v, r', rfl, h1, h2⟩ := h
    simp only [List.length_cons, RFs.length h2]
theorem RFs.put {K : PySem.W.Frag} {ρ : List Addr} {H : Hp} {f : Str} {d : D} {v : V} (hd : RD K ρ H d v) : ∀ {l : List (Str × D)} {vs : List (Str × V)}, RFs K ρ H l vs → RFs K ρ H (putFd f d l) (putF f v vs)
  | [], _, h => by cases h; exact ⟨v, [], rfl, hd, rfl⟩
  | (g, d') :: r, _, h => by
    obtain ⟨u, r', rfl, h1, h2⟩ := h
    unfold putFd putF
    by_cases q : g = f
    · rw [if_pos q, if_pos q]; exact ⟨v, r', rfl, hd, h2⟩
    · rw [if_neg q, if_neg q]; exact ⟨u, _, rfl, h1, RFs.put hd h2⟩
theorem de_fld (hF : FldF X.K cl tab) (ho : PE X o (tF X.K cl W fo)) (hb : attributeBase o f X.env (eval o X.env) = eval o X.env) : PE X (.Attribute o f pos) (tF X.K cl W (eFld tab f fo)) := by
  refine PEw (pe_fld ho hb) fun σ H Q ⟨ρ, env, st, S, E, P⟩ => ?_
  refine ⟨ρ, env, st, S, E, (Post.bind0 P).mono ?_⟩
  rintro x H1 ⟨ρ1, st1, a, x1, S1, r1, P1⟩
  split at P1
  · rename_i n
    split at P1
    · rename_i c fs e1
      split at P1
      · rename_i ht
        split at P1
        · rename_i d hd
          obtain ⟨q, rfl, hq⟩ := r1
          obtain ⟨C, dx, vs, g1, g2, g3⟩ := S1.at_ _ _ _ e1 hq
          obtain ⟨v, hv, rv⟩ := RFs.lookS g3 hd
          have hC := hF.ok c f ht C g1
          exact ⟨q, C, dx, vs, v, rfl, g2, hC.1, hC.2, hv, P1 ρ1 H1 v x1 S1 rv⟩
        · exact P1.elim
      · exact P1.elim
    · exact P1.elim
  · exact P1.elim
theorem ds_fld (hF : FldF X.K cl tab) (ho : PE X o (tF X.K cl W fo)) (hv : PE X e (tF X.K cl W fa)) (hs : swapsWith e (some (.Attribute o f pos')) pos.line X.env = pure false) : PS X (.Assign [.Attribute o f pos'] e pos) (tS X.K cl W (sFldSet tab f fa fo)) := by
  refine PSw (ps_fld ho hv hs) fun D σ H ⟨ρ, env, st, S, E, P⟩ => ?_
  refine ⟨ρ, env, st, S, E, (PostS.toS (rel := relV X.K) S E P).mono ?_⟩
  rintro x H1 ⟨ρ1, st1, a, x1, S1, r1, P1⟩
  obtain ⟨d, st2, ρ2, e2, x2, S2, r2, m2⟩ := mat_ok S1 x1 r1
  rw [e2, R.toS_ok] at P1
  have P2 := PostS.from S2 x2 P1
  have E2 := (E.mono (x1.mono S)).mono m2
  refine ⟨ρ2, env, st2, S2, E2, (PostS.toS (rel := relV X.K) S2 E2 P2).mono ?_⟩
  rintro y H3 ⟨ρ3, st3, ob, x3, S3, r3, P3⟩
  have E3 := E2.mono (x3.mono S2)
  split at P3
  · rename_i n
    split at P3
    · rename_i c fs e1
      split at P3
      · rename_i ht
        obtain ⟨q, rfl, hq⟩ := r3
        obtain ⟨C, dx, vs, g1, g2, g3⟩ := S3.at_ _ _ _ e1 hq
        have hC := hF.ok c f ht.1 C g1
        have rd := RD.mono (x3.mono S2) _ _ r2
        have x6 : Ext ρ3 H3 ρ3 (upd H3 q (.ins C dx (putF f x vs))) := Ext.put (List.mem_of_getElem? hq) g2 (fun _ _ z => by cases z)
        have m6 := x6.mono S3
        refine ⟨q, C, dx, vs, rfl, g2, hC.1, hC.2, by rw [← g3.length]; exact ht.2, ?_⟩
        exact P3 ρ3 _ σ (x3.trans x6) (S3.put hq ⟨C, dx, _, g1, upd_same, RFs.mono m6 _ _ (g3.put rd)⟩) (E3.mono m6)
      · exact P3.elim
    · exact P3.elim
  · exact P3.elim
theorem mtree {o : Expr} {m : Str} {apos pos : Pos} {args : List Expr} {env : Env} (hb : attributeBase o m env (eval o env) = eval o env) (hl : (apos.endLine == pos.line) = true) (hf : methodCallForm (args.length + 0) (backTo pos (starEach args env)) (backToKw pos (keywordEach [] env)) = true) :
    eval (.Call (.Attribute o m apos) args [] pos) env = (do
      let ov ← eval o env
      standAt apos.atName
      let (f, first) ← holding [ov] (getMethod ov m (do return (← importBound o env).getD true))
      callWith pos f first (backTo pos (starEach args env)) (backToKw pos (keywordEach [] env))) := by
  refine L2.mcall_of (kws := []) hb fun ov => ?_
  have hf' : methodCallForm (args.length + ([] : List Keyword).length) (backTo pos (starEach args env)) (backToKw pos (keywordEach [] env)) = true := hf
  unfold methodCall calleeOf methodCallPos
  rw [hf', hl]
  simp only [if_true, Bool.not_true, Bool.false_or, pure_bind]
variable {k n : Nat} {C g : Addr} {fd : FuncData} {ps : List Str} {s : List D → Store → R RV} {es : List Expr} {fr : SEnv → Store → R (List D)}
theorem de_meth (hC : cl c = some C) (hc : Cls X.K C) (hm : Meth X.K C m g) (F : FnG μ X.prog X.w X.K X.mg X.base k g fd ps (spD X.K cl n s)) (hgd : X.A.guards = some []) (hr : Room k X.A) (hb : Binds X.K fd ps []) (tk : TakesM μ X W)
    (ho : PE X o (tF X.K cl W fo)) (ha : PA X es (tA1 X.K cl W fr)) (he : (es = [] ∧ fr = aNil) ∨ ∃ e r, es = e :: r ∧ starEach es X.env = (false, eval e X.env) :: starEach r X.env ∧ (backTo pos (starEach r X.env)).any (·.1) = false)
    (hn : ∀ env st ds st1, fr env st = .ok ds st1 → ds.length + 1 = n)
    (hab : attributeBase o m X.env (eval o X.env) = eval o X.env) (hl : (apos.endLine == pos.line) = true) (hf : methodCallForm (es.length + 0) (backTo pos (starEach es X.env)) (backToKw pos (keywordEach [] X.env)) = true) :
    PE X (.Call (.Attribute o m apos) es [] pos) (tF X.K cl W (eMeth c m s fo fr)) := by
  refine ⟨fun pins z σ H Q I ⟨ρ, env, st, S, E, P⟩ => ?_⟩
  have q : tF X.K cl W fo σ H fun x H1 => ∃ a dx fs, x = .ref a ∧ H1 a = some (.ins C dx fs) ∧ fs.lookup m = none ∧ tA1 X.K cl W fr σ H1 fun vs H2 => spD X.K cl n s (.ref a :: vs) H2 Q fun c' d H' => W c' d σ H' := by
    refine ⟨ρ, env, st, S, E, (Post.bind0 P).mono ?_⟩
    rintro x H1 ⟨ρ1, st1, a, x1, S1, r1, P1⟩
    split at P1
    · rename_i j
      split at P1
      · rename_i c' fs e1
        split at P1
        · rename_i hcc
          obtain ⟨p, rfl, hp⟩ := r1
          obtain ⟨C', dx, vs, g1, g2, g3⟩ := S1.at_ _ _ _ e1 hp
          rw [hcc.1, hC] at g1
          cases g1
          refine ⟨p, dx, vs, rfl, g2, RFs.lookN g3 hcc.2, ρ1, env, st1, S1, E.mono (x1.mono S), ?_⟩
          cases hfr : fr env st1 with
          | bad => rw [hfr] at P1; exact P1.elim
          | exc y st2 => rw [hfr] at P1; exact Post.from backV S1 x1 P1
          | ok ds st2 =>
            rw [hfr] at P1
            intro ρ2 H2 ws x2 S2 r2
            have hp2 : ρ2[j]? = some p := by
              obtain ⟨more, rfl⟩ := x2.pre
              rw [List.getElem?_append_left (List.getElem?_eq_some_iff.mp hp).1]
              exact hp
            refine ⟨ρ2, st2, .ref j :: ds, S2, ⟨_, _, rfl, ⟨p, rfl, hp2⟩, r2⟩, by rw [List.length_cons]; exact hn _ _ _ _ hfr, ?_⟩
            have P2 := Post.from backV S2 (x1.trans x2) P1
            simp only [R.bind_ok] at P2
            cases hs : s (.ref j :: ds) st2 with
            | ok a st3 => rw [hs] at P2; exact P2
            | exc y st3 => rw [hs] at P2; exact P2
            | bad => rw [hs] at P2; exact P2
        · exact P1.elim
      · exact P1.elim
    · exact P1.elim
  refine PySem.W.methodCall_KW (thn (ho.run pins z σ H _ I q) fun u s1 ⟨x, H1, I1, rx, a, dx, fs, ex, ea, l, q1⟩ => ?_) (mtree hab hl hf)
  subst ex
  obtain rfl : u = Value.ref a := rx
  refine getmeth_ok I1 ea hc hm l ?_
  rcases he with ⟨rfl, rfl⟩ | ⟨e, r, rfl, he, hpl⟩
  · obtain ⟨ρ1, env1, st1, S1, E1, P1⟩ := q1
    have q2 := P1 ρ1 H1 [] (Ext.refl ..) S1 rfl
    exact PySem.W.callWith_K0 (first := [.ref a]) I1.kIn hm.kp (run_G (vd := []) (ud := []) (us := [.ref a]) (vs := [.ref a]) F hgd hr hb .nil (takesAt tk σ) I1 (.cons rfl .nil) q2)
  · refine PySem.W.callWith_K (first := [.ref a]) (h₀ := X.base) I1.ok.mod.kin hm.kp (thn (ha.run pos pins s1 σ H1 _ I1 q1) fun us s2 ⟨vs, H2, I2, r, q2⟩ => ⟨I2.kIn, ?_⟩) he hpl
    exact run_G (vd := []) (ud := []) (us := .ref a :: us) (vs := .ref a :: vs) F hgd hr hb .nil (takesAt tk σ) I2 (.cons rfl r) (by rw [List.append_nil]; exact q2)
theorem de_prop {p : Addr} (hC : cl c = some C) (hc : Cls X.K C) (hp : PropOf X.K C f p g) (F : FnG μ X.prog X.w X.K X.mg X.base k g fd ps (spD X.K cl 1 s)) (hgd : X.A.guards = some []) (hr : Room (k + 1) X.A) (hb : Binds X.K fd ps [])
    (ho : PE X o (tF X.K cl W fo)) (hab : attributeBase o f X.env (eval o X.env) = eval o X.env) : PE X (.Attribute o f pos) (tF X.K cl W (eProp c s fo)) := by
  refine ⟨fun pins z σ H Q I ⟨ρ, env, st, S, E, P⟩ => ?_⟩
  have q : tF X.K cl W fo σ H fun x H1 => ∃ a dx fs, x = .ref a ∧ H1 a = some (.ins C dx fs) ∧ spD X.K cl 1 s [.ref a] H1 Q fun _ _ _ => False := by
    refine ⟨ρ, env, st, S, E, (Post.bind0 P).mono ?_⟩
    rintro x H1 ⟨ρ1, st1, a, x1, S1, r1, P1⟩
    split at P1
    · rename_i j
      split at P1
      · rename_i c' fs e1
        split at P1
        · rename_i hcc
          obtain ⟨p, rfl, hp⟩ := r1
          obtain ⟨C', dx, vs, g1, g2, g3⟩ := S1.at_ _ _ _ e1 hp
          rw [hcc, hC] at g1
          cases g1
          refine ⟨p, dx, vs, rfl, g2, ρ1, st1, [.ref j], S1, ⟨_, _, rfl, ⟨p, rfl, hp⟩, rfl⟩, rfl, ?_⟩
          have P2 := Post.from backV S1 x1 P1
          cases hs : s [.ref j] st1 with
          | ok a st3 => rw [hs] at P2; exact P2
          | exc y st3 => rw [hs] at P2; exact P2.elim
          | bad => rw [hs] at P2; exact P2
        · exact P1.elim
      · exact P1.elim
    · exact P1.elim
  refine attr_of hab (thn (ho.run pins z σ H _ I q) fun u s1 ⟨x, H1, I1, rx, a, dx, fs, ex, ea, q1⟩ => ?_)
  subst ex
  obtain rfl : u = Value.ref a := rx
  obtain ⟨mA, O, _, _, _, _⟩ := ins_get I1.hok ea
  obtain ⟨od, J, _⟩ := O.look
  obtain ⟨rest, hrec⟩ := hp.rec_
  have I2 := I1.tok (s1.toks + 1)
  have hl : ([Value.ref a] ++ []).length = ps.length := F.cnt _ _ _ _ q1
  have hcc : (PySem.W.clsIn X.K C).isSome = true := by
    obtain ⟨cd, hc, _⟩ := PySem.W.any_some hc.hd
    rw [hc]
    rfl
  refine PySem.W.get_bind I1.kIn J (PySem.W.plainGet_of (hc.get f)).1 (PySem.W.findObj_data hcc hp.at_ hp.get hp.tak) (PySem.W.plainGet_of (hc.get f)).2 (wpAny_call (PySem.W.prop_get (s := { s1 with toks := s1.toks + 1 }) I1.kIn hrec ?_))
  refine codeAny_mono (F.go X.A.in1 X.stack { s1 with toks := s1.toks + 1 } H1 ⟨[.ref a], []⟩ [.ref a] [.ref a] Q (fun _ _ _ => False) hgd hr.in1 I2.env0.in1 (hb _ [.ref a] I2.kIn hl) (.cons rfl .nil) q1) fun r s' hq => ?_
  cases r with
  | error er =>
    exact (CXm_no hq).elim
  | ok fl =>
    cases fl with
    | ret u =>
      obtain ⟨v, H', I3, rv, q3⟩ := I2.after hq
      show wpAny _ _ (handedOut u) _ _ _
      rw [PySem.W.handedOut_of (handed_of rv)]
      exact wpAny_pure ⟨v, H', I3, rv, q3⟩
    | next => exact False.elim hq
    | brk => exact False.elim hq
    | cont => exact False.elim hq
theorem run_makeG {pins : List (Addr × Obj)} {σ : L2.St} {H : Hp} {z : Shared} {Q : VK} {us : List Value} {vs : List V} {sp : Sp} {E : XK} (M : Mk X.K C g) (F : FnG μ X.prog X.w X.K X.mg X.base k g fd ps sp) (hgd : X.A.guards = some []) (hr : Room (k + 1) X.A) (hb : Binds X.K fd ps [])
    (hx : ∀ (H : Hp) (s : Shared) (e : Value) (s' : Shared), Inv X pins σ H s → CXm μ X.prog X.w X.stack H s E e s' → X.xe e s') (I : Inv X pins σ H z) (r : Vals vs us)
    (h : ∀ x dx, H x = none → H dx = none → dx ≠ x → sp (.ref x :: vs) (upd (upd H dx (.own x)) x (.ins C dx [])) (fun v H2 => v = .non ∧ Q (.ref x) H2) E) :
    wpAny (model X.prog X.w) X.A (call (.ref C) us) (EP X pins σ Q) X.xe z := by
  have hq := h (z.heap.objs.size + 1) z.heap.objs.size (I.hok.fresh (Nat.le_succ _)) (I.hok.fresh (Nat.le_refl _)) (Nat.ne_of_lt (Nat.lt_succ_self _))
  have I2 := Inv.made (C := C) I
  have r2 : Vals (V.ref (z.heap.objs.size + 1) :: vs) (Value.ref (z.heap.objs.size + 1) :: us) := .cons rfl r
  have hl : (Value.ref (z.heap.objs.size + 1) :: us ++ []).length = ps.length := by
    have e := r2.length
    rw [F.cnt _ _ _ _ hq] at e
    rw [List.append_nil]
    exact e.symm
  have hgd2 : (X.A.under (.builtin "type.__call__" ⟨.ref C :: us, []⟩)).guards = some [] := by
    show pushGuards (Code.guards (.builtin "type.__call__" ⟨.ref C :: us, []⟩)) X.A.guards = some []
    rw [hgd]; rfl
  have hbb := hb _ (Value.ref (z.heap.objs.size + 1) :: us) I2.kIn hl
  rw [List.append_nil] at hbb
  refine wpAny_call (make_map (f := g) I.kIn M.makes M.init (beq_iff_eq.mp M.fn) (codeAny_mono (F.go _ X.stack _ _ ⟨Value.ref (z.heap.objs.size + 1) :: us, []⟩ (Value.ref (z.heap.objs.size + 1) :: us) _ _ E hgd2 (hr.make C us [])
    (I2.env0.make C us []) hbb r2 hq) fun r s' hq' => ?_))
  cases r with
  | error e => exact hx _ _ e s' I2 hq'
  | ok fl =>
    cases fl with
    | ret u =>
      obtain ⟨v, H', I3, rv, ev, q3⟩ := I2.after hq'
      subst ev
      exact ⟨rv, ⟨V.ref (z.heap.objs.size + 1), H', I3, rfl, q3⟩⟩
    | next => exact False.elim hq'
    | brk => exact False.elim hq'
    | cont => exact False.elim hq'
theorem de_make {x : Str} {p : Pos} (hC : cl c = some C) (M : Mk X.K C g) (F : FnG μ X.prog X.w X.K X.mg X.base k g fd ps (spD X.K cl n s)) (hgd : X.A.guards = some []) (hr : Room (k + 1) X.A) (hg : Gl X x) (hm : X.mg x = some (.ref C)) (hb : Binds X.K fd ps []) (tk : TakesM μ X W)
    (ha : PA X (e :: es) (tA1 X.K cl W fr)) (hdb : (x == ("__debug__" : Str)) = false) (he : starEach (e :: es) X.env = (false, eval e X.env) :: starEach es X.env) (hpl : (backTo pos (starEach es X.env)).any (·.1) = false)
    (hn : ∀ env st ds st1, fr env st = .ok ds st1 → ds.length + 1 = n) : PE X (.Call (.Name x p) (e :: es) [] pos) (tF X.K cl W (eMake c s fr)) := by
  refine ⟨fun pins z σ H Q I ⟨ρ, env, st, S, E, P⟩ => ?_⟩
  refine wpAny_Call_Name_kw (ld_glob I hg hm ?_ hdb)
  have args : tA1 X.K cl W fr σ H fun vs H1 => ∀ x dx, H1 x = none → H1 dx = none → dx ≠ x → spD X.K cl n s (.ref x :: vs) (upd (upd H1 dx (.own x)) x (.ins C dx [])) (fun v H2 => v = .non ∧ Q (.ref x) H2) fun c' d H' => W c' d σ H' := by
    refine ⟨ρ, env, st, S, E, ?_⟩
    unfold eMake at P
    cases hf : fr env st with
    | bad => rw [hf] at P; exact P
    | exc x st1 => rw [hf] at P; exact P
    | ok ds st1 =>
      rw [hf] at P
      intro ρ1 H1 vs x1 S1 r1 y dy hy hdy hne
      have hy' : upd H1 dy (.own y) y = none := by rw [upd_ne hne.symm]; exact hy
      have xa : Ext ρ1 H1 ρ1 (upd H1 dy (.own y)) := Ext.new hdy
      have xb : Ext ρ1 (upd H1 dy (.own y)) (ρ1 ++ [y]) (upd (upd H1 dy (.own y)) y (.ins C dy [])) := Ext.grow (Ext.new hy') hy'
      have x2 := xa.trans xb
      have S2 : RS X.K ρ1 (upd (upd H1 dy (.own y)) y (.ins C dy [])) cl st1 := (S1.new hdy).new hy'
      have np : y ∉ ρ1 := fun q => by
        obtain ⟨u, e, _⟩ := S1.obj q
        rw [hy] at e; cases e
      have S3 : RS X.K (ρ1 ++ [y]) (upd (upd H1 dy (.own y)) y (.ins C dy [])) cl (st1 ++ [.ins c []]) := S2.grow np ⟨C, dy, [], hC, upd_same, rfl⟩
      have ix : (ρ1 ++ [y])[st1.length]? = some y := by
        rw [← S1.len, List.getElem?_append_right (Nat.le_refl _)]; simp
      refine ⟨ρ1 ++ [y], st1 ++ [.ins c []], .ref st1.length :: ds, S3, ⟨_, _, rfl, ⟨y, rfl, ix⟩, RDs.mono (x2.mono S1) _ _ r1⟩, by rw [List.length_cons]; exact hn _ _ _ _ hf, ?_⟩
      have P1 := Post.from backV S3 (x1.trans x2) P
      simp only [R.bind_ok] at P1
      cases hs : s (.ref st1.length :: ds) (st1 ++ [.ins c []]) with
      | bad => rw [hs] at P1; exact P1
      | exc x st3 => rw [hs] at P1; exact P1
      | ok a st3 =>
        rw [hs] at P1
        simp only [R.bind_ok] at P1
        intro ρ3 H3 v x3 S3' r3
        split at P1
        · refine ⟨r3, P1 ρ3 H3 (.ref y) x3 S3' ⟨y, rfl, ?_⟩⟩
          obtain ⟨more, rfl⟩ := x3.pre
          rw [List.getElem?_append_left (List.getElem?_eq_some_iff.mp ix).1]
          exact ix
        · exact P1.elim
  refine PySem.W.callWith_K (h₀ := X.base) I.ok.mod.kin M.kp (thn (ha.run pos pins z σ H _ I args) fun us s1 ⟨vs, H1, I1, r, q⟩ => ⟨I1.kIn, ?_⟩) he hpl
  exact run_makeG M F hgd hr hb (fun H z' e' z'' I' cx => takesAt tk σ pins H z' e' z'' I' cx) I1 r q
end
end Ev

/-! ## Ev9j -/
set_option Elab.async false
set_option linter.all false
set_option maxRecDepth 100000
set_option maxHeartbeats 1000000
namespace Ev
open PySem PySem.Spec PyProof.Rows L2
theorem mtreeS {o : Expr} {m : Str} {apos pos : Pos} {args : List Expr} {env : Env} (hl : (apos.endLine == pos.line) = true) (hf : methodCallForm (args.length + 0) (backTo pos (starEach args env)) (backToKw pos (keywordEach [] env)) = true) :
    eval (.Call (.Attribute o m apos) args [] pos) env = (do
      let ov ← attributeBase o m env (eval o env)
      standAt apos.atName
      let (f, first) ← holding [ov] (getMethod ov m (do return (← importBound o env).getD true))
      callWith pos f first (backTo pos (starEach args env)) []) := by
  have h : ∀ ov, methodCall o m apos pos env ov (args.length + ([] : List Keyword).length) (backTo pos (starEach args env)) (backToKw pos (keywordEach [] env)) = (do
      let (f, first) ← holding [ov] (getMethod ov m (do return (← importBound o env).getD true))
      callWith pos f first (backTo pos (starEach args env)) []) := fun ov => by
    have hf' : methodCallForm (args.length + ([] : List Keyword).length) (backTo pos (starEach args env)) (backToKw pos (keywordEach [] env)) = true := hf
    unfold methodCall calleeOf methodCallPos
    rw [hf', hl]
    simp only [if_true, Bool.not_true, Bool.false_or, pure_bind]
    rfl
  rw [arm_eval_Call]
  simp only [h]
section
variable {prog : Program} {w : World} {A : Around} {E : Value → Shared → Prop} {h : Heap} {g : Array GenState} {d : Drawn} {t : Nat} {os : OsState}
variable {nm q : Str} {C N : Addr} {bs bm bmB : List Value} {hdct : Bool} {sn : List Str} {sub : List Value} {ab : Bool} {col : Option Bool} {dd : Option Addr} {k0 k1 k2 k3 k5 : Option Value}
theorem call_bound {u x t0 : Addr} {rest : List Value} {Q : Value → Shared → Prop} (hC : h.get? C = some (excClassObj nm q C N bs bm hdct sn sub ab col dd k0 k1 k2 k3 k5 "ValueError.__new__"))
    (hu : h.get? u = some (PySem.W.kxs_mw "ValueError.__init__" x)) (hx : h.get? x = some (PySem.HandSPX.excO C t0)) (hz : rest.length ≤ sizeLine)
    (hq : ∀ h' t1, (∀ b o, b ≠ x → h.get? b = some o → h'.get? b = some o) → h'.get? x = some (PySem.HandSPX.excO C t1) → Q .none ⟨h', g, d, t, os⟩) :
    wpAny (model prog w) A (call (.ref u) rest) Q E ⟨h, g, d, t, os⟩ := by
  refine wpAny_call (codeAny_of_tree ?_)
  show wpAny _ A.in1 (callAny (.ref u) ⟨rest, []⟩) _ _ _
  simp only [callAny]
  refine wpAny_bind (wpAny_load hu ?_)
  simp only [PySem.W.kxs_mw, show (Value.type "method-wrapper" == Value.type "method" || Value.type "method-wrapper" == Value.type "builtin_function_or_method" || Value.type "method-wrapper" == Value.type "method-wrapper") = true by decide, if_true]
  refine PySem.W.KFB.if_so (by decide) ?_
  refine wpAny_bind (PySem.W.check_bound_init F.excBase_ValueError.toExcCallFacts hC hx rfl ?_)
  refine wpAny_bind (wpAny_pure (wpAny_pure ?_))
  refine ⟨plainId_quiet F.excBase_ValueError.init.plain _, codeAny_builtin F.excBase_ValueError.initEntry ?_⟩
  exact PySem.W.exc_init_tree (cls := .ref C) (t0 := t0) (dv := none) (c2 := .none) (c3 := .none) (b4 := .bool false) hx hz fun h' k e' _ => hq h' _ k e'
end
abbrev siBody (sf v f m : Str) (j : Nat) (p0 p1 p2 p3 p4 p5 p6 p7 p8 p9 : Pos) : List Stmt :=
  [.Expr (.Call (.Attribute (.Call (.Name "super" p0) [] [] p1) "__init__" p2) [.Constant (.str m) j p3] [] p4) p5, .Assign [.Attribute (.Name sf p6) f p7] (.Name v p8) p9]
section
variable {prog : Program} {w : World} {A : Around} {K : PySem.W.Frag} {R : Result → Shared → Prop} {s : Shared}
variable {qual : Str} {params : Arguments} {scope : Scope} {dV kV doc pm ct oc : Value} {an od : Option Addr} {osl : Array (Option Value)} {fI cc cda C a t0 : Addr} {sf v f m : Str} {j : Nat} {p0 p1 p2 p3 p4 p5 p6 p7 p8 p9 : Pos} {args : Args} {y : Value}
variable {ar : Arg} {ccl cl : Value} {cdd cld : Option Addr} {ccs csl : Array (Option Value)} {vs : Array Value} {file : Str} {tf : Tok} {mg mb : Str → Option Value}
variable {nm q : Str} {N : Addr} {bs bm : List Value} {sn : List Str} {sub : List Value} {ab : Bool} {col : Option Bool} {dd : Option Addr} {k0 k1 k2 k3 k5 : Option Value}
theorem code_sinit (hK : K.In s.heap) (hKa : K.lookup a = none) (lk : K.lookup fI = some ⟨oc, od, .func (PySem.W.ksFn "__init__" qual params (siBody sf v f m j p0 p1 p2 p3 p4 p5 p6 p7 p8 p9) scope dV kV doc pm an (.ref cda) ct cc), osl⟩)
    (hcd : PySem.W.codeIn K (.ref cda) qual = true) (hroom : A.depth < recursionLimit) (hlim : s.heap.NoLimit)
    (hbind : BindsTo s (PySem.W.ksFn "__init__" qual params (siBody sf v f m j p0 p1 p2 p3 p4 p5 p6 p7 p8 p9) scope dV kV doc pm an (.ref cda) ct cc) args [(sf, .ref a), (v, y)])
    (hcell : ∀ x ∈ scope.names, x.2 ≠ .cell) (hsf : scope.names.lookup sf = some .local) (hv : scope.names.lookup v = some .local) (hco : scope.isCoroutine = false) (hgen : scope.isGenerator = false) (hkd : scope.kind = .function)
    (hks : scope.names.lookup ("super" : Str) = some .globalImplicit) (hkc : scope.names.lookup ("__class__" : Str) = some .free) (hp : (params.posonlyargs ++ params.args).head? = some ar) (har : ar.arg = sf) (hne : v ≠ sf)
    (hdsf : (sf == ("__debug__" : Str)) = false) (hdv : (v == ("__debug__" : Str)) = false) (hl : (p2.endLine == p4.line) = true)
    (hcode : K.lookup cda = some ⟨ccl, cdd, .fields vs, ccs⟩) (hvs : vs[2]? = some (.str file tf)) (hfile : ((prog.main.file : Str) == file) = true) (htop : (prog.main.scope.names.lookup ("super" : Str)).isSome = false)
    (hcc : K.lookup cc = some ⟨cl, cld, .cell (some (.ref C)), csl⟩) (hC : K.lookup C = some (excClassObj nm q C N bs bm true sn sub ab col dd k0 k1 k2 k3 k5 "ValueError.__new__")) (hbm : PySem.HandSPX.refsVE bm = true)
    (hsup : PySem.W.ks_superIn K C C "__init__" = some (some (.builtin "ValueError.__init__"))) (hB : PySem.W.subIn K (.ref C) (.type "ValueError") = some true) (hsub : PySem.W.mroIn K C (.ref C) = some true) (ho : PySem.W.nsIn K cStatics "thirdparty.any" = some none)
    (hsa : PySem.W.findIn K (.ref C) "__setattr__" = some (some (.builtin "object.__setattr__"))) (hno : PySem.W.findIn K (.ref C) f = some none)
    (hg : s.heap.Ns mainGlobals mg) (hmiss : mg "super" = none) (hb : s.heap.Ns builtinsNs mb) (hmb : mb "super" = some (.type "super"))
    (ha : s.heap.get? a = some (PySem.HandSPX.excO C t0))
    (h : ∀ h' t' dx t1, (∀ b o, b ≠ a → s.heap.get? b = some o → h'.get? b = some o) → s.heap.objs.size ≤ dx → dx ≠ a → h'.get? a = some { cls := .ref C, dict := some dx, data := .fields #[.ref t1, .none, .none, .none, .bool false, .none] } →
      h'.Ns1 dx (fun z => if z = f then some y else none) → R (.ok (.ret .none)) { s with heap := h', toks := t' }) :
    codeAny (model prog w) A (.call (.ref fI) args) R s := by
  have hin : ∀ {h' : Heap}, (∀ b o, b ≠ a → s.heap.get? b = some o → h'.get? b = some o) → K.In h' := fun {h'} k b o e => k b o (fun z => by rw [z, hKa] at e; cases e) (hK b o e)
  have hal := Heap.lt_size ha
  refine PySem.ks_codeAny_call_defAt (fd := PySem.W.ksFn "__init__" qual params (siBody sf v f m j p0 p1 p2 p3 p4 p5 p6 p7 p8 p9) scope dV kV doc pm an (.ref cda) ct cc) (body := siBody sf v f m j p0 p1 p2 p3 p4 p5 p6 p7 p8 p9) (binds := [(sf, .ref a), (v, y)]) hroom (hK _ _ lk) rfl hlim (PySem.W.codeRec_of hK hcd) rfl hbind hcell ?_ (fun h₀ hns hk => ?_) hco hgen hkd
  · intro x hx
    simp only [List.mem_cons, List.not_mem_nil, or_false] at hx
    rcases hx with rfl | rfl
    · exact hsf
    · exact hv
  have X0 : K.In h₀ := fun b o e => hk b o (hK b o e)
  have ns : ∀ {h' : Heap}, (∀ b o, b ≠ a → h₀.get? b = some o → h'.get? b = some o) → h'.Ns s.heap.objs.size (fun x => [(sf, Value.ref a), (v, y)].reverse.lookup x) := fun {h'} k => by
    obtain ⟨oL, es, ep, hL, r⟩ := hns
    exact ⟨oL, es, ep, k _ _ (Nat.ne_of_gt hal) hL, r⟩
  have lsf : ([(sf, Value.ref a), (v, y)].reverse.lookup sf) = some (.ref a) := by
    have : (sf == v) = false := by simpa using fun e : sf = v => hne e.symm
    simp [List.lookup, this]
  have lv : ([(sf, Value.ref a), (v, y)].reverse.lookup v) = some y := by simp [List.lookup]
  have hcl : PySem.W.clsIn K C = some { name := nm, bases := bs, mro := .ref C :: bm, ns := N, qualname := q, hasDict := true, slotNames := sn, subclasses := sub, abstract := ab, collection := col, hasDel := false } := by unfold PySem.W.clsIn; rw [hC] <;> rfl
  have hal2 : PySem.W.alongIn K "__init__" (((Value.ref C :: bm).dropWhile (· != .ref C)).drop 1) = some (some (.builtin "ValueError.__init__")) := by
    unfold PySem.W.ks_superIn at hsup
    rw [hcl] at hsup
    exact hsup
  have hxC : a ≠ C := fun z => by rw [z, hC] at hKa; cases hKa
  obtain ⟨hh, g, d, t, os⟩ := s
  refine PySem.ks_wpAt_execs_cons (PySem.ks_wpAt_Expr_any (PySem.ks_wpAt_MethodCall ?_ (mtreeS hl rfl)) (by show (scope.kind == ScopeKind.module && _) = false; rw [hkd]; rfl) rfl)
  refine PySem.ks_wpAt_super_base hks hkc rfl rfl (X0 _ _ lk) rfl hp rfl (X0 _ _ hcode) rfl hvs hfile htop ?_
  refine PySem.W.ks_loadName_global hkd hks (Calls.loadGlobal_builtin (hg.keeps hk) hmiss (hb.keeps hk) hmb ⟨rfl, ?_⟩)
  refine wpAny_loadName_free hkd hkc rfl ⟨_, X0 _ _ hcc, rfl⟩ ?_
  refine wpAny_loadName_local hkd (show scope.names.lookup ar.arg = some .local by rw [har]; exact hsf) (ns fun b o _ e => e) (by rw [har]; exact lsf) ?_
  refine PySem.ks_wpAny_isType_cls (X0 _ _ hC) rfl ⟨rfl, ?_⟩
  refine PySem.ks_wpAny_call_super (X0 _ _ hC) rfl (hk _ _ ha) rfl (fun c e => by cases e) (PySem.W.looks_mroIn X0 hsub) (fun h1 e1 k1 => ?_)
  have X1 : K.In h1 := fun b o e => k1 b o (X0 b o e)
  have ha1 : h1.get? a = some (PySem.HandSPX.excO C t0) := k1 _ _ (hk _ _ ha)
  have I1 : PySem.W.InstAt h1 a (PySem.HandSPX.excO C t0) C none := ⟨ha1, rfl, rfl, trivial⟩
  refine PySem.W.kxs_getMethod PySem.W.kxs_ValueError e1 (PySem.W.looks_opaque X1 ho) (l₀ := .ref C :: bm) (fun A Q E s k q => wpAny_bind ((PySem.W.looks_clsIn X1 hcl) A _ E s k (wpAny_pure q))) rfl X1 hal2 (I1.type.andThen (PySem.W.looks_subIn X1 hB)) hxC rfl ?_
  have k2 : ∀ b o, h1.get? b = some o → (h1.push (PySem.W.kxs_mw "ValueError.__init__" a)).get? b = some o := fun b o e => Heap.get?_push_of_some _ e
  refine PySem.W.kxs_callWith (i := "ValueError.__init__") (x := a) rfl ?_
  refine Calls.evalArgs_plain (x := eval (.Constant (.str m) j p3) _) ?_
  refine Calls.spliced_cons ?_
  refine Calls.Constant_str ?_
  refine Calls.spliced_nil ?_
  refine ⟨Heap.get?_push_at rfl rfl, ?_⟩
  refine call_bound (k2 _ _ (X1 _ _ hC)) (Heap.get?_push_at rfl rfl) (k2 _ _ ha1) (by rw [sizeLine_eq]; simp) fun h3 t1 k3 e3 => ?_
  have kka : ∀ b o, b ≠ a → h₀.get? b = some o → h3.get? b = some o := fun b o hb e => k3 b o hb (k2 b o (k1 b o e))
  have kk : ∀ b o, b ≠ a → hh.get? b = some o → h3.get? b = some o := fun b o hb e => kka b o hb (hk b o e)
  have X3 : K.In h3 := hin kk
  have hsz : hh.objs.size ≤ h3.objs.size := by
    obtain ⟨oL, es, ep, hL, r⟩ := ns kka
    exact Nat.le_of_lt (Heap.lt_size hL)
  refine PySem.ks_wpAt_execs_cons (PySem.ks_wpAt_Assign_Attr (PySem.wpAt_of_wpAny (wpAny_Name (wpAny_loadName_local hkd hv (ns kka) lv ?_) hdv)) ?_)
  · refine wpAny_Name (wpAny_loadName_local hkd hsf (ns kka) lsf ?_) hdsf
    refine PySem.W.set_plain X3 (ox := { cls := .ref C, dict := none, data := .fields #[.ref t1, .none, .none, .none, .bool false, .none] }) (od := none) ⟨e3, rfl, rfl, trivial⟩ hsa ?_
    refine PySem.HandSPX.exc_osa X3 e3 hcl (show PySem.HandSPX.refsVE (.ref C :: bm) = true from hbm) rfl hno (fun h' tk' dx k dn dne hx hn => ?_)
    refine PySem.wpAt_of_wpAny (wpAny_execs_nil ?_)
    exact h h' _ dx t1 (fun b o hb e => k b o hb (kk b o hb e)) (Nat.le_trans hsz dn) dne hx hn
  · rfl
end
def sp1 (C : Addr) (f : Str) : Sp := fun vs H Q _ => ∃ a y, vs = [.ref a, y] ∧ H a = some (exo a C none) ∧ ∀ dx, H dx = none → dx ≠ a → Q .non (upd (upd H dx (exd dx [(f, y)])) a (exo a C (some dx)))
structure SIni (P : Program) (K : PySem.W.Frag) (mg : Str → Option Value) (C fI : Addr) (fd : FuncData) (sf v f : Str) : Prop where
  ex : ∃ (qual : Str) (params : Arguments) (scope : Scope) (dV kV doc pm ct oc : Value) (an od : Option Addr) (osl : Array (Option Value)) (cc cda : Addr) (m : Str) (j : Nat) (p0 p1 p2 p3 p4 p5 p6 p7 p8 p9 : Pos)
    (ar : Arg) (ccl cl : Value) (cdd cld : Option Addr) (ccs csl : Array (Option Value)) (vs : Array Value) (file : Str) (tf : Tok),
    fd = PySem.W.ksFn "__init__" qual params (siBody sf v f m j p0 p1 p2 p3 p4 p5 p6 p7 p8 p9) scope dV kV doc pm an (.ref cda) ct cc ∧
    K.lookup fI = some ⟨oc, od, .func fd, osl⟩ ∧ PySem.W.codeIn K (.ref cda) qual = true ∧
    (∀ x ∈ scope.names, x.2 ≠ .cell) ∧ scope.names.lookup sf = some .local ∧ scope.names.lookup v = some .local ∧ scope.isCoroutine = false ∧ scope.isGenerator = false ∧ scope.kind = .function ∧
    scope.names.lookup ("super" : Str) = some .globalImplicit ∧ scope.names.lookup ("__class__" : Str) = some .free ∧ (params.posonlyargs ++ params.args).head? = some ar ∧ ar.arg = sf ∧ (p2.endLine == p4.line) = true ∧
    K.lookup cda = some ⟨ccl, cdd, .fields vs, ccs⟩ ∧ vs[2]? = some (.str file tf) ∧ ((P.main.file : Str) == file) = true ∧
    K.lookup cc = some ⟨cl, cld, .cell (some (.ref C)), csl⟩
  ne : v ≠ sf
  dsf : (sf == ("__debug__" : Str)) = false
  dv : (v == ("__debug__" : Str)) = false
  top : (P.main.scope.names.lookup ("super" : Str)).isSome = false
  msup : mg "super" = none
  sup : PySem.W.ks_superIn K C C "__init__" = some (some (.builtin "ValueError.__init__"))
  subV : PySem.W.subIn K (.ref C) (.type "ValueError") = some true
  sub : PySem.W.mroIn K C (.ref C) = some true
  opq : PySem.W.nsIn K cStatics "thirdparty.any" = some none
  no : PySem.W.findIn K (.ref C) f = some none
theorem boot_super : bootBuiltins ("super" : Str) = some (.type "super") := by decide +kernel
theorem fn_sinit_run {CX : CXT} {P : Program} {w : World} {K : PySem.W.Frag} {mg : Str → Option Value} {base : Heap} {C fI : Addr} {fd : FuncData} {sf v f : Str} (T : OexC K C) (S : SIni P K mg C fI fd sf v f) {A : Around} {outer : List Env} {s : Shared} {H : Hp} {args : Args} {us : List Value} {vs : List V} {Q : VK} {E : XK}
    (hdep : A.depth < recursionLimit) (e0 : Env0 P w K mg base A outer s H) (hb : BindsTo s fd args ([sf, v].zip us)) (r : Vals vs us) (hsp : sp1 C f vs H Q E) : codeAny (model P w) A (.call (.ref fI) args) (CR CX outer P w H s Q E) s := by
  obtain ⟨a, y, rfl, ha, hq⟩ := hsp
  obtain ⟨qual, params, scope, dV, kV, doc, pm, ct, oc, an, od, osl, cc, cda, m, j, p0, p1, p2, p3, p4, p5, p6, p7, p8, p9, ar, ccl, cl, cdd, cld, ccs, csl, vs, file, tf, rfl, lk, hcd, hcell, hsf, hv, hco, hgen, hkd, hks, hkc, hp, har, hl, hcode, hvs, hfile, hcc⟩ := S.ex
  obtain ⟨nm, q, N, bs, bm, sn, sub, ab, col, dd, k0, k1, k2, k3, k5, hC, hbm⟩ := T.cls
  obtain ⟨mb, hmb, hbb⟩ := e0.mod.blt
  have KB : ∀ b o, base.get? b = some o → s.heap.get? b = some o := fun b o e => (e0.bs b o e).1
  have KX : K.In s.heap := e0.mod.kin.keeps KB
  have hKa : K.lookup a = none := by
    cases z : K.lookup a with
    | none => rfl
    | some o =>
      have z2 := (e0.bs a o (e0.mod.kin a o z)).2
      rw [ha] at z2; cases z2
  obtain ⟨t0, ho⟩ := exo_at e0.hok ha
  cases r with
  | @cons _ u0 _ ur ra rw' =>
    obtain rfl : u0 = Value.ref a := ra
    cases rw' with
    | @cons _ u1 _ ur ry rn =>
      cases rn
      refine code_sinit KX hKa lk hcd hdep (e0.mod.nolimit.keeps KB) hb hcell hsf hv hco hgen hkd hks hkc hp har S.ne S.dsf S.dv hl hcode hvs hfile S.top hcc hC hbm S.sup S.subV S.sub S.opq T.sa S.no
        (e0.mod.glob.keeps KB) S.msup (hmb.keeps KB) ((hbb _ (by decide)).trans boot_super) ho fun h' t' dx t1 kp dn dne hx hn => ?_
      obtain ⟨hp0, g, d, t, os⟩ := s
      have hnd : H dx = none := e0.hok.fresh dn
      have nd : ∀ {b : Addr} {o : Obj}, hp0.get? b = some o → b ≠ dx := fun {b o} q => Nat.ne_of_lt (Nat.lt_of_lt_of_le (Heap.lt_size q) dn)
      have na : ∀ {b : Addr}, H b = none → b ≠ a := fun {b} n z => by
        rw [z, ha] at n
        cases n
      have Un1 : Un (frs outer) [] H (upd (upd H dx (exd dx [(f, y)])) a (exo a C (some dx))) hp0 h' := {
        keep := fun b o q n _ _ => kp b o (na n) q
        slot := fun b o q n _ _ => ⟨o.slots, kp b o (na n) q⟩
        free := fun b o q n _ => by rw [upd_ne (na n), upd_ne (nd q)]; exact n
        there := fun b o q _ => by
          by_cases hb : b = a
          · exact ⟨_, by rw [hb]; exact hx⟩
          · exact ⟨o, kp b o hb q⟩
        tups := fun b xs q => by rw [upd_ne (at_ne ha q exo_tup), upd_ne (ne_of_none q hnd)]; exact q
        frzs := fun b o v q => by rw [upd_ne (at_ne ha q exo_frz), upd_ne (ne_of_none q hnd)]; exact q
        tbls := fun b ps q => ⟨#[], by rw [upd_ne (at_ne ha q exo_tbl), upd_ne (ne_of_none q hnd), q]; simp⟩ }
      refine ⟨.non, _, rfl, e0.bare, Un1, fun b o q => ?_, rfl, hq dx hnd dne⟩
      by_cases hb : b = a
      · subst hb
        rw [upd_same] at q
        cases q
        exact exo_ok hx
      · rw [upd_ne hb] at q
        by_cases hd : b = dx
        · subst hd
          rw [upd_same] at q
          cases q
          exact exd_ok hn (relO_put (fs := []) ry fun g => True.intro)
        · rw [upd_ne hd] at q
          exact (e0.hok b o q).stay (fun c v hc z => kp c v (by
              rcases hc with hc | hc
              · rw [hc]
                exact hb
              · exact at_ne ha hc exo_own) z)
            (fun c hc => by rw [upd_ne (at_ne ha hc exo_own), upd_ne (ne_of_none hc hnd)]; exact hc) (fun c xs hc => by rw [upd_ne (at_ne ha hc exo_tup), upd_ne (ne_of_none hc hnd)]; exact hc)
theorem fn_sinit {CX : CXT} {P : Program} {w : World} {K : PySem.W.Frag} {mg : Str → Option Value} {base : Heap} {k : Nat} {C fI : Addr} {fd : FuncData} {sf v f : Str} (T : OexC K C) (S : SIni P K mg C fI fd sf v f) :
    FnOk P w K mg base CX k fI fd [sf, v] (sp1 C f) := by
  refine ⟨fun vs H Q E h => ?_, fun A outer s H args us vs Q E hr e0 hb r hsp => ?_⟩
  · obtain ⟨a, y, e, _⟩ := h
    rw [e]; rfl
  exact fn_sinit_run T S hr.depth e0 hb r hsp
structure ExiF (P : Program) (w : World) (K : PySem.W.Frag) (mg : Str → Option Value) (base : Heap) (cl : CT) (x f : Str) : Prop where
  ex : ∃ (C fI : Addr) (fd : FuncData) (sf v : Str), OexC K C ∧ SIni P K mg C fI fd sf v f ∧ PySem.W.findIn K (.ref C) "__init__" = some (some (.ref fI)) ∧ PySem.W.typeIn K (.ref fI) = some (.type "function") ∧ Binds K fd [sf, v] [] ∧ mg x = some (.ref C) ∧ cl x = some C
  nd : (x == ("__debug__" : Str)) = false
def sRaise1 (x f : Str) (fa : SEnv → Store → R RV) : SS := fun env st => (fa env st).toS env fun a st1 => (mat a st1).toS env fun d st2 => .exc ⟨x, [(f, d)]⟩ env st2
section
variable {X : Cx} {e : Expr} {es : List Expr} {ta : TA} {p pos : Pos}
theorem pmkN_oex {CX : CXT} {x : Str} {C fI : Addr} {k : Nat} {fd : FuncData} {ps : List Str} {sp : Sp} {ds : List Value} {dvs : List V} (T : OexC X.K C) (iC : PySem.W.findIn X.K (.ref C) "__init__" = some (some (.ref fI))) (tI : PySem.W.typeIn X.K (.ref fI) = some (.type "function"))
    (F1 : FnOk X.prog X.w X.K X.mg X.base CX k fI fd ps sp) (hr : Room (k + 1) X.A) (hb : Binds X.K fd ps ds) (hd : Vals dvs ds) (hx : Passes CX X (fun _ _ _ => False)) (hg : Gl X x) (hm : X.mg x = some (.ref C)) (ha : PA X (e :: es) ta)
    (hdb : (x == ("__debug__" : Str)) = false) (he : starEach (e :: es) X.env = (false, eval e X.env) :: starEach es X.env) (hpl : (backTo pos (starEach es X.env)).any (·.1) = false) :
    L2N.PMk X (.Call (.Name x p) (e :: es) [] pos) (tMkO C sp dvs ta) := by
  intro pins s σ H Q I h
  obtain ⟨nm, q, N, bs, bm, sn, sub, ab, col, dd, k0, k1, k2, k3, k5, hC, hbm⟩ := T.cls
  refine wpAny_Call_Name_kw (ld_glob I hg hm ?_ hdb)
  refine PySem.W.callWith_K (h₀ := X.base) I.ok.mod.kin T.kC (thn (ha.run pos pins s σ H _ I h) fun us s1 ⟨vs, H1, I1, r1, hz, q1⟩ => ⟨I1.kIn, ?_⟩) he hpl
  show wpAny _ _ (call (.ref C) us) _ _ _
  obtain ⟨hp, g, dr, tk, os⟩ := s1
  have hsz : hp.objs.size ≤ hp.objs.size + 1 := Nat.le_succ _
  have hn : H1 (hp.objs.size + 1) = none := I1.hok.fresh hsz
  have hq := q1 (hp.objs.size + 1) hn
  have kk : ∀ b o, hp.get? b = some o → ((hp.push (PySem.W.kdv_tup us)).push (PySem.HandSPX.excO C hp.objs.size)).get? b = some o := fun b o e => Heap.get?_push_of_some _ (Heap.get?_push_of_some _ e)
  have hget : ((hp.push (PySem.W.kdv_tup us)).push (PySem.HandSPX.excO C hp.objs.size)).get? (hp.objs.size + 1) = some (PySem.HandSPX.excO C hp.objs.size) := by heap_get
  have I2 : Inv X pins σ (upd H1 (hp.objs.size + 1) (exo (hp.objs.size + 1) C none)) ⟨(hp.push (PySem.W.kdv_tup us)).push (PySem.HandSPX.excO C hp.objs.size), g, dr, tk, os⟩ :=
    I1.laid (t' := tk) (a := hp.objs.size + 1) (o := exo (hp.objs.size + 1) C none) (h' := (hp.push (PySem.W.kdv_tup us)).push (PySem.HandSPX.excO C hp.objs.size)) kk hsz (exo_ok hget)
  have r2 : Vals (V.ref (hp.objs.size + 1) :: (vs ++ dvs)) (Value.ref (hp.objs.size + 1) :: (us ++ ds)) := .cons rfl (r1.append hd)
  have hl : (Value.ref (hp.objs.size + 1) :: us ++ ds).length = ps.length := by
    have e := r2.length
    rw [F1.len _ _ _ _ hq] at e
    exact e.symm
  have hus : us.length ≤ sizeLine := by
    rw [← Paired.length r1, sizeLine_eq]
    omega
  refine wpAny_call (PySem.HandSPX.call_own F.excBase_ValueError (fun Y => PySem.HandSPX.refsVE_contains Y bm hbm) (I1.kIn _ _ hC) (PySem.W.looks_findIn I1.kIn iC) (fun self => PySem.W.bind_fn I1.kIn self tI) hus
    (codeAny_mono (F1.run _ X.stack _ _ ⟨Value.ref (hp.objs.size + 1) :: us, []⟩ (Value.ref (hp.objs.size + 1) :: (us ++ ds)) _ _ (fun _ _ _ => False) (hr.make C us []) (I2.env0.make C us []) (hb _ (Value.ref (hp.objs.size + 1) :: us) I2.kIn hl) r2 hq) fun r s' hq' => ?_))
  cases r with
  | error er => exact hx pins σ _ _ er s' I2 hq'
  | ok fl =>
    cases fl with
    | ret u =>
      obtain ⟨v, H2, os2, bare2, un2, hok2, rv, ev, d, fs, ea, ed, hd1, q2⟩ := hq'
      subst ev
      obtain ⟨h2, g2, d2, t2, os'⟩ := s'
      obtain ⟨t0, G, J, kG, ge, hoe, na⟩ := mk_end0 (d2 := d2) (t2 := t2) I1 hsz kk un2 hok2 os2 bare2 ea ed hd1
      refine ⟨rv, hp.objs.size + 1, _, _, ⟨G, g2, d2, t2, os'⟩, _, .ref C, some d, rfl, J, kG, ge, hoe, ⟨rfl, rfl, fun vs hv => ?_⟩, rfl, rfl, na, rfl, bare2, raises_own T.exC T.tyC, q2⟩
      cases hv
      rfl
    | next => exact False.elim hq'
    | brk => exact False.elim hq'
    | cont => exact False.elim hq'
end
theorem ds_raise1 {cl : CT} {X : Cx} {W : WX} {k : Nat} {x f : Str} {e : Expr} {fa : SEnv → Store → R RV} {px pk pos : Pos} (hc : X.calm = true) (hr : Room (k + 1) X.A) (hg : Gl X x) (i : ExiF X.prog X.w X.K X.mg X.base cl x f) (tk : TakesM μ X W)
    (he : PE X e (tF X.K cl W fa)) (hs : starEach (e :: []) X.env = (false, eval e X.env) :: starEach [] X.env) :
    PS X (.Raise (some (.Call (.Name x px) [e] [] pk)) none pos) (tS X.K cl W (sRaise1 x f fa)) := by
  obtain ⟨C, fI, fd, sf, v, T, S, iC, tI, hb, hm, hcl⟩ := i.ex
  have F1 : FnOk X.prog X.w X.K X.mg X.base CX0 k fI fd [sf, v] (sp1 C f) := fn_sinit T S
  have psr : PS X (.Raise (some (.Call (.Name x px) [e] [] pk)) none pos) (fun _ σ H => tMkO C (sp1 C f) [] (tCons (tF X.K cl W fa) tNil) σ H fun cls d H' => W cls d σ H') := by
    cases μ with
    | true => exact L2N.ps_raise hc tk (pmkN_oex T iC tI F1 hr hb .nil pass0 hg hm (pa_cons he pa_nil hs) i.nd hs rfl)
    | false => exact L2.ps_raise hc tk (pmk_oex T iC tI F1 hr hb .nil pass0 hg hm (pa_cons he pa_nil hs) i.nd hs rfl)
  refine PSw psr fun D σ H ⟨ρ, env, st, S, E, P⟩ => ?_
  refine ⟨ρ, env, st, S, E, (PostS.toS (rel := relV X.K) S E P).mono ?_⟩
  rintro y H1 ⟨ρ1, st1, a, x1, S1, r1, P1⟩
  obtain ⟨d, st2, ρ2, e2, x2, S2, r2, m2⟩ := mat_ok S1 x1 r1
  rw [e2, R.toS_ok] at P1
  have P2 := PostS.from S2 x2 P1
  have E2 := (E.mono (x1.mono S)).mono m2
  show ([y] : List V).length ≤ 1000 ∧ _
  refine ⟨by simp, fun p hp => ⟨p, y, rfl, upd_same, fun dx hdx dne => ⟨rfl, dx, [(f, y)], upd_same, ?_, ?_, ?_⟩⟩⟩
  · rw [upd_ne dne, upd_same]
  · rw [upd_ne dne] at hdx; exact hdx
  · have hd1 : H1 dx = none := by rw [upd_ne dne] at hdx; exact hdx
    have eq : upd (del (upd (upd (upd H1 p (exo p C none)) dx (exd dx [(f, y)])) p (exo p C (some dx))) p) dx (HO.xd [(f, y)]) = upd H1 dx (HO.xd [(f, y)]) := by
      funext b
      by_cases hb : b = dx
      · rw [hb, upd_same, upd_same]
      · rw [upd_ne hb, upd_ne hb]
        by_cases hp' : b = p
        · rw [hp', del_same, hp]
        · rw [del_ne hp', upd_ne hp', upd_ne hb, upd_ne hp']
    rw [eq]
    have x3 : Ext ρ2 H1 ρ2 (upd H1 dx (HO.xd [(f, y)])) := Ext.new hd1
    have m3 := x3.mono S2
    exact P2 ρ2 _ σ (.ref C) (some dx) x3 (S2.new hd1) (E2.mono m3) ⟨C, hcl, rfl, .inr ⟨dx, [(f, y)], rfl, upd_same, y, [], rfl, RD.mono m3 _ _ r2, rfl⟩⟩
end Ev

/-! ## Ev9k -/
set_option Elab.async false
set_option linter.all false
set_option maxRecDepth 100000
set_option maxHeartbeats 1000000
/-! Ev9k: sorted(x, key=lambda p: p[0]). -/
namespace Ev
open PySem PySem.Spec PyProof.Rows L2
abbrev lamArgs (p : Str) (pp : Pos) : Arguments := { posonlyargs := [], args := [{ arg := p, annotation := none, pos := pp }], vararg := none, kwonlyargs := [], kw_defaults := [], kwarg := none, defaults := [] }
abbrev lamBody0 (p : Str) (p1 p2 p3 : Pos) (j : Nat) : Expr := .Subscript (.Name p p1) (.Constant (.int 0) j p2) p3
abbrev lamScope (p : Str) : Scope := { kind := .function, names := [(p, .local)], isGenerator := false, isCoroutine := false }
theorem bind_lam {q p : Str} {pp : Pos} {body : Expr} {sc : Scope} {cl : List (Str × Addr)} {pm cv ctv v : Value} : bindArgs (PySem.W.kla_fn "<lambda>" q (lamArgs p pp) body sc cl pm cv ctv) ⟨[v], []⟩ = pure [(p, v)] := by
  have e : ∀ x : Value, List.lookup p [(p, x)] = some x := fun x => by simp [List.lookup]
  have n : notAStandIn Value.none = pure () := rfl
  unfold bindArgs PySem.W.kla_fn
  simp [e, seqItems?, n]
section
variable {prog : Program} {w : World} {A : Around} {s : Shared} {q p : Str} {pp p1 p2 p3 : Pos} {j : Nat} {cl : List (Str × Addr)} {pm ctv : Value} {c' f t : Addr} {us : List Value} {u : Value} {k : PyData}
/-- such a key of a tuple -/
theorem lam0_call (hr : A.depth < recursionLimit) (hlim : s.heap.NoLimit)
    (hf : s.heap.get? f = some (PySem.W.kla_obj "<lambda>" q (lamArgs p pp) (lamBody0 p p1 p2 p3 j) (lamScope p) cl pm c' ctv)) (hc : s.heap.CodeRec (.ref c') q)
    (ht : IsTup s.heap t us.toArray) (h0 : us[0]? = some u) (hk : ∀ h : Heap, (∀ b o, s.heap.get? b = some o → h.get? b = some o) → Reads h u k []) (hd : (p == ("__debug__" : Str)) = false) :
    wpAny (model prog w) A (call (.ref f) [.ref t]) (PySem.W.KeyPure k s) (fun _ _ => False) s := by
  refine wpAny_call (codeAny_mono (R := fun r s' => ∃ v, r = .ok (.ret v) ∧ PySem.W.KeyPure k s v s') ?_ fun r s' h => ?_)
  · refine PySem.W.kla_callFunE hr hf rfl rfl rfl rfl hc ?_
    refine wpAny_of_eq bind_lam ?_
    refine wpAny_newFunctionEnv (fun y hy => ?_) (fun y hy => ?_) (fun h₁ hns hsb => ⟨hlim.fresh _ hsb, ?_⟩) rfl
    · have : y = (p, NameKind.local) := by simpa using hy
      rw [this]; intro z; cases z
    · have : y = (p, Value.ref t) := by simpa using hy
      rw [this]; simp [PySem.W.kla_fn, List.lookup]
    have kp : ∀ b o, s.heap.get? b = some o → h₁.get? b = some o := fun b o e => hsb.extBut b o (Nat.ne_of_lt (Heap.lt_size e)) (Heap.get?_push_of_some _ e)
    refine PySem.W.kla_codeExpr ?_
    have lv : ([(p, Value.ref t)].reverse.lookup p) = some (.ref t) := by simp [List.lookup]
    refine Subscript_ (wpAny_Name (wpAny_loadName_local rfl (by show (lamScope p).names.lookup p = some .local; simp [List.lookup]) hns lv ?_) hd)
    refine wpAny_Constant_int ?_
    have ht2 : IsTup h₁ t us.toArray := by
      obtain ⟨o, ho, r⟩ := ht
      exact ⟨o, kp _ _ ho, r⟩
    refine item_tupleL (j := 0) (x := u) ht2 (by decide) (by decide) ?_ h0 ?_
    · have : 0 < us.length := (List.getElem?_eq_some_iff.mp h0).1
      simp [seqIndex?, this]
    · exact ⟨u, rfl, h₁, _, rfl, kp, hk h₁ kp⟩
  · obtain ⟨v, rfl, h⟩ := h
    exact h
end
/-! ### the lambda is made -/
/-- nothing is changed but this table, and one new code object -/
def TabG (P : Addr) (H H1 : Hp) : Prop := H1 = H ∨ ∃ (old new : Array Value) (cd : Addr) (nm : Str), H P = some (.tbl old) ∧ H cd = none ∧ H1 = upd (upd H P (.tbl new)) cd (LamX.CodeO cd nm)
theorem TabG.keep {P : Addr} {H H1 : Hp} (g : TabG P H H1) {a : Addr} {o : HO} (h : H a = some o) (nt : ∀ ps, o ≠ .tbl ps) : H1 a = some o := by
  rcases g with rfl | ⟨old, new, cd, nm, atP, nCd, rfl⟩
  · exact h
  · rw [upd_ne (ne_of_none h nCd), upd_ne fun z => by rw [z, atP] at h; exact nt _ (Option.some.inj h).symm]
    exact h
section
variable {X : Cx} {pins : List (Addr × Obj)} {σ : L2.St} {H : Hp} {s : Shared}
theorem lam_mk {T : List (Addr × Str)} {c P : Addr} {nm : Str} {prm : Arguments} {bdy : Expr} {scp : Scope} {pos : Pos} {E : Value → Shared → Prop} {Q : Value → Shared → Prop} (en : nm = X.env.qual ++ "<lambda>") (I : Inv X pins σ H s) (tb : LamX.TabB X.base X.mg c P) (ec : X.env.code = .ref c)
    (inT : (P, nm) ∈ T) (un1 : ∀ z ∈ T, z.1 = P → z.2 = nm) (hT : LamX.Tabs T H) (hdef : defaultsOf prm X.env = ([], [])) (hfree : ∀ y ∈ scp.names, y.2 = .free → ∃ c, X.env.cells.lookup y.1 = some c)
    (fin : ∀ (f cd : Addr) (pm ctv : Value) (H1 : Hp) (s1 : Shared), Inv X pins σ H1 s1 → TabG P H H1 → LamX.Tabs T H1 → s1.heap.get? f = some (PySem.W.kla_obj "<lambda>" nm prm bdy scp (cloFrom X.env.cells scp.names []) pm cd ctv) →
      s1.heap.CodeRec (.ref cd) nm → Q (.ref f) s1) :
    wpAny (model X.prog X.w) X.A (eval (.Lambda prm bdy scp pos) X.env) Q E s := by
  subst en
  obtain ⟨old, atP, tri, told⟩ := hT _ inT
  have bmP : s.heap.BuiltinsAt X.mg P := tb.bm.keeps I.bk
  have heapP : s.heap.get? P = some { cls := .none, data := .fields old } := I.hok P _ atP
  have clo := closure_ok hfree
  refine PySem.W.kla_eval hdef ?_
  cases q : codeAmong pos old.toList with
  | some cv =>
    obtain ⟨cd, rfl, kc⟩ := told pos cv q
    refine PySem.W.kla_makeFunctionHit (mg := X.mg) (P := P) (c := c) (ps := old) clo I.ok.glob (I.mod.glob.keeps I.bk) ec (tb.code.keeps I.bk) heapP tri q bmP fun ctv g tk keep _ => ?_
    have keep2 : ∀ b o, s.heap.get? b = some o → (g.push (PySem.W.kla_obj "<lambda>" (X.env.qual ++ "<lambda>") prm bdy scp (cloFrom X.env.cells scp.names []) ((X.mg "__name__").getD .none) cd ctv)).get? b = some o := fun b o e => Heap.get?_push_of_some _ (keep b o e)
    obtain ⟨⟨oc, vs, t, e1, e2, e3⟩, _, _⟩ := I.hok cd _ kc
    exact fin _ cd _ ctv H _ (I.kept (t' := tk) keep2) (.inl rfl) hT (Heap.get?_push_size _ rfl) ⟨cd, oc, vs, t, rfl, keep2 _ _ e1, e2, e3⟩
  | none =>
    refine PySem.W.kla_makeFunction (mg := X.mg) (P := P) (c := c) (ps := old) clo I.ok.glob (I.mod.glob.keeps I.bk) ec (tb.code.keeps I.bk) heapP tri q tb.gP bmP fun cd ctv g tk keep ge lt rec_ newP => ?_
    obtain ⟨cd2, oc, vs, t, ee, e1, e2, e3⟩ := rec_
    cases ee
    have nCd : H cd = none := I.hok.fresh ge
    have nPc : P ≠ cd := ne_of_none atP nCd
    let more : Array Value := #[rawInt pos.line, rawInt pos.col, .ref cd]
    let obj := PySem.W.kla_obj "<lambda>" (X.env.qual ++ "<lambda>") prm bdy scp (cloFrom X.env.cells scp.names []) ((X.mg "__name__").getD .none) cd ctv
    have J := LamX.inv_table (t' := tk) (more := more) (h' := g.push obj) (q := X.env.qual ++ "<lambda>") I atP (fun b o hb e => Heap.get?_push_of_some _ (keep b o hb e)) (Heap.get?_push_of_some _ newP) ge ⟨oc, vs, t, Heap.get?_push_of_some _ e1, e2, e3⟩
    have same : ∀ b o, H b = some o → (∀ ps, o ≠ .tbl ps) → upd (upd H P (.tbl (old ++ more))) cd (LamX.CodeO cd (X.env.qual ++ "<lambda>")) b = some o := fun b o e n => by
      have b1 : b ≠ cd := ne_of_none e nCd
      have b2 : b ≠ P := fun z => by rw [z, atP] at e; exact n old (Option.some.inj e).symm
      rw [upd_ne b1, upd_ne b2, e]
    have app : (old ++ more).toList = old.toList ++ [rawInt pos.line, rawInt pos.col, .ref cd] := by simp [more]
    refine fin _ cd _ ctv _ _ J (.inr ⟨old, _, cd, _, atP, nCd, rfl⟩) (fun z hz => ?_) (Heap.get?_push_size _ rfl) ⟨cd, oc, vs, t, rfl, Heap.get?_push_of_some _ e1, e2, e3⟩
    by_cases hb : z.1 = P
    · rw [un1 z hz hb, hb]
      refine ⟨_, by rw [upd_ne nPc, upd_same], by rw [app]; exact PySem.TriplesOk_snoc _ _ _ _ tri, fun p' cv hcv => ?_⟩
      rw [app] at hcv
      rcases LamX.among_app _ tri hcv with y | y
      · obtain ⟨c0, y1, y2⟩ := told p' cv y
        exact ⟨c0, y1, same _ _ y2 LamX.codeO_ne⟩
      · exact ⟨cd, y, upd_same⟩
    · obtain ⟨ps', y1, y2, y3⟩ := hT z hz
      refine ⟨ps', by rw [upd_ne (ne_of_none y1 nCd), upd_ne hb]; exact y1, y2, fun p' cv hcv => ?_⟩
      obtain ⟨c0, y4, y5⟩ := y3 p' cv hcv
      exact ⟨c0, y4, same _ _ y5 LamX.codeO_ne⟩
end
section
variable {K : PySem.W.Frag} {cl : CT} {ρ : List Addr} {H H1 : Hp} {st : Store} {P : Addr}
theorem RS.tabG (S : RS K ρ H cl st) (g : TabG P H H1) (t : LamX.Tabs cl.tabs H1) : RS K ρ H1 cl st ∧ Ext ρ H ρ H1 := by
  rcases g with rfl | ⟨old, new, cd, nm, atP, nCd, rfl⟩
  · exact ⟨S, Ext.refl _ _⟩
  · have nPc : P ≠ cd := ne_of_none atP nCd
    have x : Ext ρ H ρ (upd (upd H P (.tbl new)) cd (LamX.CodeO cd nm)) := by
      refine ⟨⟨[], by simp⟩, fun a o h n => ⟨?_, n⟩, fun a o u h => by
        rw [upd_ne (ne_of_none h nCd), upd_ne (fun z => by rw [z, atP] at h; cases h)]; exact h⟩
      by_cases e : a = P
      · rw [e, upd_ne nPc, upd_same]
        rw [e, atP] at h
        exact .inr ⟨old, new, (Option.some.inj h).symm, rfl⟩
      · rw [upd_ne (ne_of_none h nCd), upd_ne e]
        exact .inl h
    refine ⟨⟨S.len, S.nd, fun n c a h1 h2 => (S.at_ n c a h1 h2).mono (x.mono S) ?_, t⟩, x⟩
    obtain ⟨u, hu, n1, _⟩ := S.obj2 (List.mem_of_getElem? h2)
    rw [upd_ne (ne_of_none hu nCd), upd_ne fun z => by rw [z, atP] at hu; exact n1 _ (Option.some.inj hu).symm]
end
/-! ### sorted by a key, of a list or a tuple -/
section
variable {prog : Program} {w : World} {A : Around} {E : Value → Shared → Prop} {s : Shared} {β : Type} {R : Value → β → Prop}
theorem seq_sortedK {l f : Addr} {o : Obj} {ty : String} {us : List Value} {n : Nat} {bs : List β} {k : β → PyData} {G : Value → Shared → Prop} (hT : ty = "list" ∨ ty = "tuple") (ho : s.heap.get? l = some o) (hc : o.cls = .type ty) (hd : o.data = .seq us.toArray n)
    (e : PySem.W.EachIs R us bs) (al : PySem.W.AllAlike (bs.map k)) (so : PySem.W.Sortable (bs.map k)) (zu : us.length ≤ sizeLine) (hu : ∀ x ∈ bs, A.units + 2 + (k x).depth < cLine)
    (turn : ∀ (v : Value) (x : β), R v x → x ∈ bs → ∀ (h : Heap) (tk : Nat), (∀ b o, s.heap.get? b = some o → h.get? b = some o) → wpAny (model prog w) A.in1.in1 (call (.ref f) [v]) (PySem.W.KeyPure (k x) { s with heap := h, toks := tk }) (fun _ _ => False) { s with heap := h, toks := tk })
    (fin : ∀ g1 : Heap, (∀ b o, s.heap.get? b = some o → g1.get? b = some o) → ∀ (g : Heap) (tk : Nat) (out : List Value) (m : Nat), (∀ b o, g1.get? b = some o → g.get? b = some o) → g.get? g1.objs.size = some (seqObj "list" out.toArray m) → out.length = bs.length →
      PySem.W.EachIs R out (bs.mergeSort (PySem.W.dataLe false k)) → G (.ref g1.objs.size) { s with heap := g, toks := tk }) :
    wpAny (model prog w) A (call (.builtin "sorted") [.ref l] [(Str.ofString "key", .ref f)]) G E s := by
  refine call_function_entry_kw kind_sorted plain_sorted entry_sorted (ksk_s1 _ _) ?_
  unfold Builtin.«sorted»
  refine wpAny_bind (m := checkCount "sorted" 1 1 _) (wpAny_pure ?_)
  refine wpAny_bind (wpAny_collect_seq l hT ho hc hd (fun g1 keep1 => ?_) (by rw [List.size_toArray]; exact zu))
  rw [List.toList_toArray]
  refine wpAny_bind (wpAny_newList (s := { s with heap := g1 }) ?_ zu)
  have at2 : (g1.push (seqObj "list" us.toArray 0)).get? g1.objs.size = some (seqObj "list" us.toArray 0) := Heap.get?_push_size _ rfl
  have up : ∀ {g : Heap}, PySem.W.KeepsBut g1.objs.size (g1.push (seqObj "list" us.toArray 0)) g → ∀ b o, g1.get? b = some o → g.get? b = some o := fun {g} kp b o q => kp b o (Nat.ne_of_lt (Heap.lt_size q)) (Heap.get?_push_of_some _ q)
  refine wpAny_bind (wpAny_holding (wpAny_call_entry_kw slot_list_sort ⟨_, at2, rfl⟩ entry_list_sort ?_ (ksk_l1 _ _)))
  rw [ksk_t1]
  refine PySem.W.keyH_tree (kz := bs.map k) (s := { s with heap := g1.push (seqObj "list" us.toArray 0) }) at2 (by rw [List.length_map]; exact e.length.symm) zu al so (PySem.W.bound_map (A := A.in1.in1) hu)
    (PySem.W.keyH_turns (s := { s with heap := g1.push (seqObj "list" us.toArray 0) }) e fun v x hR hx h tk kp => turn v x hR hx h tk fun b o q => up kp b o (keep1 b o q)) fun h' tk out m kp hD ko => ?_
  refine ⟨_, rfl, wpAny_pure ⟨_, rfl, ?_⟩⟩
  exact fin g1 keep1 h' tk out m (up kp) hD ((ko.length (by rw [List.length_map]; exact e.length.symm)).trans e.length) (PySem.W.keyedOut_each k ko e)
end
/-! ### the items' keys -/
def kI (d : D) : Int := match d with
  | .tup (.int i :: _) => i
  | _ => 0
def kS (d : D) : List Nat := match d with
  | .tup (.str x :: _) => x
  | _ => []
def isKI : D → Bool
  | .tup (.int _ :: _) => true
  | _ => false
def isKS : D → Bool
  | .tup (.str _ :: _) => true
  | _ => false
def sortK0 (l : List D) : Option (List D) := if l.all isKI = true then some (l.mergeSort fun a b => decide (kI a ≤ kI b)) else if l.all isKS = true then some (l.mergeSort fun a b => decide (kS a ≤ kS b)) else none
def dSortK0 (a : RV) (st : Store) : Option RV := match itR st a with
  | some l => (sortK0 l).map .t
  | none => none
theorem each_rds {K : PySem.W.Frag} {ρ : List Addr} {H : Hp} : ∀ {l : List D} {vs : List V} {us : List Value}, RDs K ρ H l vs → Vals vs us → PySem.W.EachIs (fun u d => ∃ v, RelV v u ∧ RD K ρ H d v) us l
  | [], vs, us, h, r => by
    obtain rfl : vs = [] := h
    cases r
    exact .nil
  | d :: l, vs, us, h, r => by
    obtain ⟨v, r', rfl, h1, h2⟩ := h
    cases r with
    | cons h3 h4 => exact .cons ⟨v, h3, h1⟩ (each_rds h2 h4)
theorem rds_each {K : PySem.W.Frag} {ρ : List Addr} {H : Hp} : ∀ {l : List D} {us : List Value}, PySem.W.EachIs (fun u d => ∃ v, RelV v u ∧ RD K ρ H d v) us l → ∃ vs, Vals vs us ∧ RDs K ρ H l vs
  | [], us, h => by
    cases h
    exact ⟨[], .nil, rfl⟩
  | d :: l, us, h => by
    cases h with
    | cons h1 h2 =>
      obtain ⟨v, h3, h4⟩ := h1
      obtain ⟨vs, h5, h6⟩ := rds_each h2
      exact ⟨v :: vs, .cons h3 h5, v, vs, rfl, h4, h6⟩
section
variable {X : Cx} {cl : CT}
theorem sort_run {k : Nat} {l : List D} {vs : List V} {ρ : List Addr} {H : Hp} {pins : List (Addr × Obj)} {s : Shared} {σ : L2.St} {a f cd : Addr} {nm q : Str} {pp p1 p2 p3 : Pos} {j : Nat} {clo : List (Str × Addr)} {pm ctv : Value} {Q : VK} {kd : D → PyData}
    (hr : Room k X.A) (I : Inv X pins σ H s) (seq : SqL X.K H a vs ∨ SqT X.K H a vs) (rd : RDs X.K ρ H l vs)
    (hf : s.heap.get? f = some (PySem.W.kla_obj "<lambda>" nm (lamArgs q pp) (lamBody0 q p1 p2 p3 j) (lamScope q) clo pm cd ctv)) (hcr : s.heap.CodeRec (.ref cd) nm) (nd : (q == ("__debug__" : Str)) = false)
    (al : PySem.W.AllAlike (l.map kd)) (so : PySem.W.Sortable (l.map kd)) (hk : ∀ d ∈ l, (kd d).depth = 0 ∧ ∃ x r, d = .tup (x :: r) ∧ ∀ v u, RD X.K ρ H x v → RelV v u → ∀ h : Heap, Reads h u (kd d) [])
    (fin : ∀ (n : Addr) (ws : List V), H n = none → RDs X.K ρ H (l.mergeSort (PySem.W.dataLe false kd)) ws → Q (.ref n) (upd H n (.lst ws))) :
    wpAny (model X.prog X.w) X.A (call (.builtin "sorted") [.ref a] [(Str.ofString "key", .ref f)]) (EP X pins σ Q) X.xe s := by
  obtain ⟨ty, hT, o, us, n, ho, hc, hd, rv, hz⟩ : ∃ (ty : String) (_ : ty = "list" ∨ ty = "tuple") (o : Obj) (us : List Value) (n : Nat), s.heap.get? a = some o ∧ o.cls = .type ty ∧ o.data = .seq us.toArray n ∧ Vals vs us ∧ us.length ≤ sizeLine := by
    rcases seq with h | h
    · obtain ⟨us, rv, pl, hz⟩ := I.list h
      obtain ⟨o, h1, h2, n, h3⟩ := pl.isList
      exact ⟨"list", .inl rfl, o, us, n, h1, h2, h3, rv, by rw [← rv.length]; exact hz⟩
    · obtain ⟨us, rv, pl, hz⟩ := I.tuple h
      obtain ⟨o, h1, h2, n, h3⟩ := pl
      exact ⟨"tuple", .inr rfl, o, us, n, h1, h2, h3, rv, by rw [← rv.length]; exact hz⟩
  have each := each_rds rd rv
  have un := hr.un
  refine seq_sortedK (k := kd) hT ho hc hd each al so hz (fun x hx => by rw [(hk x hx).1]; omega) (fun v x hR hx h tk keep => ?_) fun g1 keep1 g tk out m keep at_ len eo => ?_
  · obtain ⟨v', rv', rdx⟩ := hR
    obtain ⟨_, y, r, rfl, hy⟩ := hk x hx
    obtain ⟨t, ws, rfl, sq, vy, wr, rfl, r1, r2⟩ := rdx
    cases rv'
    obtain ⟨ts, rts, tup, _⟩ := I.tuple sq
    cases rts with
    | cons ry rt =>
      rename_i uy ts
      refine lam0_call (s := { s with heap := h, toks := tk }) (us := uy :: ts) (u := uy) hr.depth (I.nolimit.keeps keep) (keep _ _ hf) ?_ ?_ rfl (fun h' _ => hy vy uy r1 ry h') nd
      · obtain ⟨c2, oc, vs2, t2, e0, e1, e2, e3⟩ := hcr
        exact ⟨c2, oc, vs2, t2, e0, keep _ _ e1, e2, e3⟩
      · obtain ⟨o2, g1, g2⟩ := tup
        exact ⟨o2, keep _ _ g1, g2⟩
  · obtain ⟨ws, rw', rdw⟩ := rds_each eo
    have J : Inv X pins σ H { s with heap := g1 } := I.kept (t' := s.toks) keep1
    have hlen : ws.length ≤ sizeLine := by
      have a1 := rw'.length
      have a2 := each.length
      omega
    exact ⟨.ref g1.objs.size, upd H g1.objs.size (.lst ws), J.laid (t' := tk) keep (Nat.le_refl _) ⟨hlen, out, m, rw', at_⟩, rfl, fin _ _ (J.hok.fresh (Nat.le_refl _)) rdw⟩
theorem itR_ok {ρ : List Addr} {H H0 : Hp} {st : Store} {a : RV} {x : V} {l : List D} (S : RS X.K ρ H cl st) (r : RRV X.K ρ H H0 a x) (h : itR st a = some l) : ∃ p vs, x = .ref p ∧ (SqL X.K H p vs ∨ SqT X.K H p vs) ∧ RDs X.K ρ H l vs := by
  unfold itR at h
  split at h
  · cases h
    obtain ⟨p, vs, rfl, h1, h2⟩ := r
    exact ⟨p, vs, rfl, .inr h1, h2⟩
  · obtain ⟨p, vs, rfl, h1, h2⟩ := lstV_ok S r h
    exact ⟨p, vs, rfl, .inl h1, h2⟩
theorem Prim.ext {K : PySem.W.Frag} {ρ : List Addr} {H H1 : Hp} {st : Store} {o : Option RV} {Q : VK} (x : Ext ρ H ρ H1) (S1 : RS K ρ H1 cl st) (q : Prim K cl st ρ H o Q) : Prim K cl st ρ H1 o Q := by
  obtain ⟨c, h, q⟩ := q
  exact ⟨c, h, fun ρ' H' v x' S' r => q ρ' H' v (x.trans x') S' (RRV.back S1 x r)⟩
theorem boot_sorted : bootBuiltins "sorted" = some (.builtin "sorted") := by decide +kernel
theorem isKI_ok {d : D} (h : isKI d = true) : ∃ i r, d = .tup (.int i :: r) := by
  unfold isKI at h
  split at h
  · exact ⟨_, _, rfl⟩
  · cases h
theorem isKS_ok {d : D} (h : isKS d = true) : ∃ x r, d = .tup (.str x :: r) := by
  unfold isKS at h
  split at h
  · exact ⟨_, _, rfl⟩
  · cases h
theorem de_sortK0 {W : WX} {k : Nat} {e : Expr} {fa : SEnv → Store → R RV} {p lpos kp pos pp p1 p2 p3 : Pos} {j : Nat} {q : Str} {c P : Addr} (gm : Gl X "sorted") (mm : X.mg "sorted" = none) (ha : PE X e (tF X.K cl W fa)) (ns : ∀ es, starEach (e :: es) X.env = (false, eval e X.env) :: starEach es X.env)
    (tb : LamX.TabB X.base X.mg c P) (ec : X.env.code = .ref c) (inT : (P, X.env.qual ++ "<lambda>") ∈ cl.tabs) (un1 : ∀ z ∈ cl.tabs, z.1 = P → z.2 = X.env.qual ++ "<lambda>") (hr : Room k X.A) (nd : (q == ("__debug__" : Str)) = false) :
    PE X (.Call (.Name "sorted" p) [e] [⟨some "key", .Lambda (lamArgs q pp) (lamBody0 q p1 p2 p3 j) (lamScope q) lpos, kp⟩] pos) (tF X.K cl W (e1 dSortK0 fa)) := by
  refine PEw (t := tUn (rP1 X.K cl dSortK0) (tF X.K cl W fa)) ⟨fun pins s σ H Q I h => ?_⟩ w_op1
  have hA := pa_cons ha pa_nil (ns [])
  refine wpAny_Call_Name_kw (ld_blt I gm mm boot_sorted ?_)
  refine PyProof.Rows.callWith_kw (e := e) (rest := []) ?_ (by rw [ns]; rfl) (by rw [ns]; rfl) rfl rfl
  refine thn (hA.run pos pins s σ H (fun vs H1 => ∃ x, vs = [x] ∧ rP1 X.K cl dSortK0 x H1 Q) I ?_) fun us s1 ⟨vs, H1, I1, r1, q1⟩ => ?_
  · obtain ⟨ρ, env, st, S, E, P⟩ := h
    exact ⟨ρ, env, st, S, E, P.mono fun x H1 hx => ⟨x, rfl, hx⟩⟩
  obtain ⟨x, rfl, ρ, st, b, H0, S, ra, Pq⟩ := q1
  obtain ⟨u, rfl, rx⟩ := vals1 r1
  obtain ⟨r, hr0⟩ : ∃ r, dSortK0 b st = some r := ⟨_, Pq.choose_spec.1⟩
  have hr1 := hr0
  unfold dSortK0 at hr1
  cases hi : itR st b with
  | none => rw [hi] at hr1; cases hr1
  | some l =>
    rw [hi] at hr1
    simp only at hr1
    cases hs : sortK0 l with
    | none => rw [hs] at hr1; cases hr1
    | some m =>
      rw [hs] at hr1
      simp only [Option.map_some, Option.some.injEq] at hr1
      subst hr1
      obtain ⟨a, vs, rfl, seq, rd⟩ := itR_ok S ra hi
      cases rx
      show wpAny _ _ (evalAll [do let v ← eval (.Lambda (lamArgs q pp) (lamBody0 q p1 p2 p3 j) (lamScope q) lpos) X.env; standAt pos; pure v]) _ _ s1
      refine wpAny_evalAll_cons (wpAny_bind (lam_mk (T := cl.tabs) rfl I1 tb ec inT un1 S.tab rfl (fun y hy hf => ?_) fun f cd pm ctv H2 s2 I2 g t2 hf hcr => wpAny_bind (wpAny_standAt (wpAny_pure (wpAny_evalAll_nil ?_)))))
      · have : y = (q, NameKind.local) := by simpa using hy
        rw [this] at hf; cases hf
      obtain ⟨S2, x2⟩ := S.tabG g t2
      have m2 := x2.mono S
      have rd2 := RDs.mono m2 _ _ rd
      have seq2 : SqL X.K H2 a vs ∨ SqT X.K H2 a vs := by
        rcases seq with y | y
        · rcases y with (y | ⟨o, y⟩) | y
          · exact .inl (.inl (.inl (g.keep y fun _ z => by cases z)))
          · exact .inl (.inl (.inr ⟨o, g.keep y fun _ z => by cases z⟩))
          · exact .inl (.inr y)
        · exact .inr (m2.tup _ _ y)
      have q2 := Pq.ext x2 S2
      show wpAny (model X.prog X.w) X.A (call (.builtin "sorted") [.ref a] [(Str.ofString "key", .ref f)]) (EP X pins σ Q) X.xe s2
      unfold sortK0 at hs
      split at hs
      · rename_i al
        rw [List.all_eq_true] at al
        cases hs
        refine sort_run (kd := fun d => PyData.int (kI d)) hr I2 seq2 rd2 hf hcr nd (fun d hd d' hd' => ?_) (.inr fun d hd => ?_) (fun d hd => ?_) fun n ws hn rw' => ?_
        · obtain ⟨y, _, rfl⟩ := List.mem_map.mp hd
          obtain ⟨y', _, rfl⟩ := List.mem_map.mp hd'
          simp [PySem.W.alike]
        · obtain ⟨y, _, rfl⟩ := List.mem_map.mp hd
          exact ⟨by simp, by simp⟩
        · obtain ⟨i, r, rfl⟩ := isKI_ok (al d hd)
          refine ⟨by simp [PyData.depth], _, r, rfl, fun v u hv hu h => ?_⟩
          cases hv
          obtain ⟨t, rfl⟩ := hu
          exact .int _ _
        · rw [PySem.W.dataLe_int] at rw'
          exact fin_lst S2 q2 hr0 rw' hn
      · split at hs
        · rename_i _ al
          rw [List.all_eq_true] at al
          cases hs
          refine sort_run (kd := fun d => PyData.str ⟨(kS d).toArray⟩) hr I2 seq2 rd2 hf hcr nd (fun d hd d' hd' => ?_) (.inr fun d hd => ?_) (fun d hd => ?_) fun n ws hn rw' => ?_
          · obtain ⟨y, _, rfl⟩ := List.mem_map.mp hd
            obtain ⟨y', _, rfl⟩ := List.mem_map.mp hd'
            simp [PySem.W.alike]
          · obtain ⟨y, _, rfl⟩ := List.mem_map.mp hd
            exact ⟨by simp, by simp⟩
          · obtain ⟨i, r, rfl⟩ := isKS_ok (al d hd)
            refine ⟨by simp [PyData.depth], _, r, rfl, fun v u hv hu h => ?_⟩
            cases hv
            obtain ⟨t, rfl⟩ := hu
            exact .str _ _
          · rw [PySem.W.dataLe_str] at rw'
            exact fin_lst S2 q2 hr0 (by simpa using rw') hn
        · cases hs
end
end Ev

/-! ## Ev9l -/
set_option Elab.async false
set_option linter.all false
set_option maxRecDepth 100000
/-! Ev9l: a comprehension over a dict: the dict is locked while it runs. -/
namespace Ev
open PySem PySem.Spec PyProof.Rows L2
def isDk (i : Nat) (env : SEnv) (st : Store) : Option (Nat × List (D × D)) := match env[i]? with
  | some (some (.ref n)) => match st[n]? with
    | some (.dict false kvs) => some (n, kvs)
    | _ => none
  | _ => none
noncomputable def eLockC (i : Nat) (g h : SEnv → Store → R RV) : SEnv → Store → R RV := fun env st => match isDk i env st with
  | some (n, kvs) => match g env (st.set n (.frd kvs)) with
    | .ok a st' => match st'[n]? with
      | some (.frd kvs') => .ok a (st'.set n (.dict false kvs'))
      | _ => .bad
    | _ => .bad
  | none => h env st
def wFrd (i : Nat) : SEnv → Store → R Walk := fun env st => match env[i]? with
  | some (some (.ref n)) => match st[n]? with
    | some (.frd kvs) => .ok ⟨kvs.map (·.1), fun s => s[n]? = some (.frd kvs)⟩ st
    | _ => .bad
  | _ => .bad
section
variable {K : PySem.W.Frag} {cl : CT} {ρ : List Addr} {H : Hp}
theorem RKey.rd {d : D} {k : Key} (h : RKey d k) : RD K ρ H d (kV k) := by cases h <;> exact rfl
theorem RKV.get : ∀ {kvs : List (D × D)} {vs : List (Key × V)}, RKV K ρ H kvs vs → ∀ {i : Nat} {p : Key × V}, vs[i]? = some p → ∃ q, kvs[i]? = some q ∧ RKey q.1 p.1
  | [], _, h, i, p, e => by subst h; simp at e
  | (k1, d1) :: r, _, ⟨k', v, r', e, h0, h1, h2⟩, i, p, ep => by
    subst e
    cases i with
    | zero => simp at ep; subst ep; exact ⟨(k1, d1), rfl, h0⟩
    | succ i => simp only [List.getElem?_cons_succ] at ep ⊢; exact RKV.get h2 ep
theorem src_keys {n : Nat} {d : Addr} {o : Obj} {kvs : List (D × D)} {vs : List (Key × V)} : Src K cl (Itk d o vs) (fun ρ H => ρ[n]? = some d ∧ H d = some (.frz o (.dK vs))) (fun s => s[n]? = some (.frd kvs)) (kvs.map (·.1)) := by
  have key : ∀ {ρ H st}, RS K ρ H cl st → (ρ[n]? = some d ∧ H d = some (.frz o (.dK vs))) → st[n]? = some (.frd kvs) → RKV K ρ H kvs vs := by
    intro ρ H st S b g
    obtain ⟨o', vs', h1, h2⟩ := S.at_ _ _ _ g b.1
    rw [b.2] at h1
    cases h1
    exact h2
  refine ⟨fun S b x => ⟨?_, x.frz _ _ _ b.2⟩, fun {ρ H st i} S b g hi => ⟨b.2, ?_⟩, fun {ρ H st i} S b g hi => ⟨b.2, ?_⟩, fun {ρ H st i x H'} S b g y hi => ?_⟩
  · obtain ⟨m, e⟩ := x.pre
    rw [e, List.getElem?_append_left (List.getElem?_eq_some_iff.mp b.1).1]
    exact b.1
  · rw [(key S b g).len]; simpa using hi
  · rw [(key S b g).len]; simpa using hi
  · obtain ⟨rfl, k, v, h1, rfl⟩ := y
    obtain ⟨q, h2, h3⟩ := (key S b g).get h1
    exact ⟨q.1, by rw [List.getElem?_map, h2]; rfl, Ext.refl _ _, S, h3.rd⟩
end
section
variable {X : Cx} {cl : CT} {W : WX} {tg e : Expr} {i : Nat}
theorem di_frd (he : PE X e (tF X.K cl W (eVar i))) : PI X tg e (tI X.K cl W (wFrd i)) := by
  refine PIw (pi_keys he) fun σ H Q ⟨ρ, env, st, S, E, P⟩ => ?_
  unfold wFrd at P
  split at P
  · rename_i n e1
    split at P
    · rename_i kvs e2
      refine ⟨ρ, env, st, S, E, ?_⟩
      have ev : eVar i env st = .ok (.v (.ref n)) st := by unfold eVar; rw [e1]
      rw [ev]
      intro ρ' H' v x S' r
      obtain ⟨d, rfl, hd⟩ := r
      obtain ⟨o, vs, h1, h2⟩ := S'.at_ _ _ _ e2 hd
      exact ⟨d, o, rfl, .inl ⟨vs, h1, P ρ' H' _ _ x S' src_keys ⟨hd, h1⟩ e2⟩⟩
    · exact P.elim
  · exact P.elim
theorem de_lockC {g h : SEnv → Store → R RV} (hx : PE X e (tF X.K cl W g)) (hy : PE X e (tF X.K cl W h)) : PE X e (tF X.K cl W (eLockC i g h)) := by
  refine ⟨fun pins s σ H Q I q => ?_⟩
  obtain ⟨ρ, env, st, S, E, P⟩ := q
  unfold eLockC at P
  cases hd : isDk i env st with
  | none => rw [hd] at P; exact hy.run pins s σ H Q I ⟨ρ, env, st, S, E, P⟩
  | some p =>
    obtain ⟨n, kvs⟩ := p
    rw [hd] at P
    have hn : st[n]? = some (.dict false kvs) := by
      unfold isDk at hd
      split at hd
      · split at hd
        · rename_i e2; cases hd; exact e2
        · cases hd
      · cases hd
    obtain ⟨d, ha, hc⟩ := S.addr hn
    obtain ⟨_, vs, h1, h2⟩ | ⟨z, _⟩ := hc
    rotate_left
    · cases z
    refine (pe_lock hx).run pins s σ H Q I ⟨d, .dK vs, h1, trivial, fun od => ?_⟩
    have hm := List.mem_of_getElem? ha
    have m1 : Mono X.K ρ H ρ (upd H d (.frz od (.dK vs))) := Mono.put S hm
    have S1 : RS X.K ρ (upd H d (.frz od (.dK vs))) cl (st.set n (.frd kvs)) := S.put ha ⟨od, vs, upd_same, RKV.mono m1 _ _ h2⟩
    refine ⟨ρ, env, _, S1, E.mono m1, ?_⟩
    cases hg : g env (st.set n (.frd kvs)) with
    | bad => simp only [hg] at P; exact P.elim
    | exc x st' => simp only [hg] at P; exact P.elim
    | ok a st' =>
      simp only [hg] at P
      split at P
      rotate_left
      · exact P.elim
      rename_i kvs' e'
      intro ρ' H' v x' S' r
      have hfz := x'.frz d od _ upd_same
      refine ⟨hfz, ?_⟩
      obtain ⟨m, em⟩ := x'.pre
      have ha' : ρ'[n]? = some d := by rw [em, List.getElem?_append_left (List.getElem?_eq_some_iff.mp ha).1]; exact ha
      have hm' := List.mem_of_getElem? ha'
      obtain ⟨o', vs', k1, k2⟩ := S'.at_ _ _ _ e' ha'
      rw [hfz] at k1
      cases k1
      have m2 : Mono X.K ρ' H' ρ' (upd H' d (.dK vs)) := Mono.put S' hm'
      have S2 : RS X.K ρ' (upd H' d (.dK vs)) cl (st'.set n (.dict false kvs')) := S'.put ha' (.inl ⟨rfl, vs, upd_same, RKV.mono m2 _ _ k2⟩)
      refine P ρ' _ v ⟨x'.pre, fun b o hb nb => ?_, fun b o u hb => ?_⟩ S2 ?_
      · have nd : b ≠ d := fun z => nb (z ▸ hm)
        rw [upd_ne nd]
        exact x'.same b o (by rw [upd_ne nd]; exact hb) nb
      · have nd : b ≠ d := fun z => by rw [z, h1] at hb; cases hb
        rw [upd_ne nd]
        exact x'.frz b o u (by rw [upd_ne nd]; exact hb)
      · cases a with
        | v d' => exact RD.mono m2 _ _ r
        | t l =>
          obtain ⟨p, ws, rfl, g1, g2, g0, g3⟩ := r
          have np : p ≠ d := fun z => by rw [z, hfz] at g1; cases g1
          exact ⟨p, ws, rfl, by rw [upd_ne np]; exact g1, g2, by rw [upd_ne np] at g0; exact g0, RDs.mono m2 _ _ g3⟩
theorem ds_lockC {st0 : Stmt} {j : Nat} {g h : SEnv → Store → R RV} (hx : PS X st0 (tS X.K cl W (sSet j g))) (hy : PS X st0 (tS X.K cl W (sSet j h))) : PS X st0 (tS X.K cl W (sSet j (eLockC i g h))) := by
  refine ⟨fun pins s σ H D I q => ?_⟩
  obtain ⟨ρ, env, st, S, E, P⟩ := q
  have P0 := P
  unfold sSet eLockC at P
  cases hd : isDk i env st with
  | none =>
    rw [hd] at P
    exact hy.run pins s σ H D I ⟨ρ, env, st, S, E, P⟩
  | some p =>
    obtain ⟨n, kvs⟩ := p
    rw [hd] at P
    have hn : st[n]? = some (.dict false kvs) := by
      unfold isDk at hd
      split at hd
      · split at hd
        · rename_i e2; cases hd; exact e2
        · cases hd
      · cases hd
    obtain ⟨d, ha, hc⟩ := S.addr hn
    obtain ⟨_, vs, h1, h2⟩ | ⟨z, _⟩ := hc
    rotate_left
    · cases z
    refine (ps_lock hx).run pins s σ H D I ⟨d, .dK vs, h1, trivial, fun od => ?_⟩
    have hm := List.mem_of_getElem? ha
    have m1 : Mono X.K ρ H ρ (upd H d (.frz od (.dK vs))) := Mono.put S hm
    have S1 : RS X.K ρ (upd H d (.frz od (.dK vs))) cl (st.set n (.frd kvs)) := S.put ha ⟨od, vs, upd_same, RKV.mono m1 _ _ h2⟩
    refine ⟨ρ, env, _, S1, E.mono m1, ?_⟩
    unfold sSet
    cases hg : g env (st.set n (.frd kvs)) with
    | bad => simp only [hg] at P; exact P.elim
    | exc x st' => simp only [hg] at P; exact P.elim
    | ok a st' =>
      simp only [hg] at P
      split at P
      rotate_left
      · exact P.elim
      rename_i kvs' e'
      have hlt : n < st'.length := (List.getElem?_eq_some_iff.mp e').1
      have fin : ∀ (env' : SEnv) (w : Store), w[n]? = some (.frd kvs') → PostS X.K cl W ρ H (.nx env' (w.set n (.dict false kvs'))) D → PostS X.K cl W ρ (upd H d (.frz od (.dK vs))) (.nx env' w) ⟨fun σ' H' => H' d = some (.frz od (.dK vs)) ∧ D.nx σ' (upd H' d (.dK vs)), fun v H' => H' d = some (.frz od (.dK vs)) ∧ D.rt v (upd H' d (.dK vs)), fun σ' H' => H' d = some (.frz od (.dK vs)) ∧ D.bk σ' (upd H' d (.dK vs)), fun σ' H' => H' d = some (.frz od (.dK vs)) ∧ D.ct σ' (upd H' d (.dK vs))⟩ := by
        intro env' w ew P ρ' H' σ' x' S' E'
        have hfz := x'.frz d od _ upd_same
        refine ⟨hfz, ?_⟩
        obtain ⟨m, em⟩ := x'.pre
        have ha' : ρ'[n]? = some d := by rw [em, List.getElem?_append_left (List.getElem?_eq_some_iff.mp ha).1]; exact ha
        have hm' := List.mem_of_getElem? ha'
        obtain ⟨o', vs', k1, k2⟩ := S'.at_ _ _ _ ew ha'
        rw [hfz] at k1
        cases k1
        have m2 : Mono X.K ρ' H' ρ' (upd H' d (.dK vs)) := Mono.put S' hm'
        have S2 : RS X.K ρ' (upd H' d (.dK vs)) cl (w.set n (.dict false kvs')) := S'.put ha' (.inl ⟨rfl, vs, upd_same, RKV.mono m2 _ _ k2⟩)
        refine P ρ' _ σ' ⟨x'.pre, fun b o hb nb => ?_, fun b o u hb => ?_⟩ S2 (E'.mono m2)
        · have nd : b ≠ d := fun z => nb (z ▸ hm)
          rw [upd_ne nd]
          exact x'.same b o (by rw [upd_ne nd]; exact hb) nb
        · have nd : b ≠ d := fun z => by rw [z, h1] at hb; cases hb
          rw [upd_ne nd]
          exact x'.frz b o u (by rw [upd_ne nd]; exact hb)
      cases a with
      | v d' => exact fin _ _ e' P
      | t l =>
        refine fin _ (st' ++ [.lst l]) (by rw [List.getElem?_append_left hlt]; exact e') ?_
        have e2 : (st' ++ [Cell.lst l]).set n (.dict false kvs') = st'.set n (.dict false kvs') ++ [.lst l] := by rw [List.set_append_left _ _ hlt]
        rw [e2]
        simp only [R.toS_ok, mat_t, List.length_set] at P
        exact P
end
end Ev

/-! ## Ev9m -/
set_option Elab.async false
set_option linter.all false
set_option maxRecDepth 100000
/-! Ev9m: list.count. -/
namespace Ev
open PySem PySem.Spec PyProof.Rows L2
section
variable {X : Cx}
def rCountD (K : PySem.W.Frag) : V → List V → Hp → VK → Prop := fun x xs H Q => ∃ (a : Addr) (y : V) (d : PyData) (ds : List PyData), x = V.ref a ∧ xs = [y] ∧ Dp K H (V.ref a) (.list ds) ∧ Dp K H y d ∧
  SeqAt.shaped (.list ds) = true ∧ SeqAt.shaped d = true ∧ Q (.int ((ds.countP fun z => PyData.eqv z d : Nat) : Int)) H
theorem mt_countD (hu : X.A.units + 65 < cLine) : MtR X "list.count" (rCountD X.K) := by
  intro pins s σ H x xs v us Q I rx rxs h
  obtain ⟨a, y, d, ds, rfl, rfl, hl, hy, sl, sd, q⟩ := h
  cases rx
  cases rxs with
  | cons ry rt =>
    rename_i uy ut
    cases rt
    obtain ⟨bs, r1⟩ := Dp.reads I d y uy hy ry
    have hxs : PyData.canLayAll0 ds = true := SeqAt.canLay_of_shaped sl
    have hroom : X.A.units + 1 + min (PyData.depthAll ds) d.depth < cLine := room_in_shaped sd hu
    cases hl with
    | lst hs ha =>
      obtain ⟨its, rv, ⟨⟨cls, dd, data, sls⟩, n, ho, hc, hdn, hdt⟩, hlen⟩ := I.list hs
      simp only at hc hdt
      subst hc hdt
      obtain ⟨as, h4⟩ := Dp.readsAll I ds _ its ha rv
      have hmap : its.map (SeqAt.readOf s.heap) = ds := SeqAt.readsAll_map ds its as hxs h4
      have hcount : its.toArray.toList.countP (fun u => PyData.eqv (SeqAt.readOf s.heap u) d) = ds.countP fun z => PyData.eqv z d := by
        rw [← hmap, List.countP_map]
        rfl
      refine call_meets PySem.F.slot_list_count ⟨_, ho, rfl⟩ PySem.F.entry_list_count (PySem.F.args_list_count_2 _ _)
        (SeqAt.list_countAt a its.toArray n dd sls uy (fun u => PyData.eqv (SeqAt.readOf s.heap u) d)) ⟨ho, SeqAt.items_eqAt (vs := its.toArray) (show ReadsAll s.heap its.toArray.toList ds as from h4) r1 hxs (SeqAt.canLay_of_shaped sd) hroom, ?_⟩
      rw [hcount]
      exact ⟨.int ((ds.countP fun z => PyData.eqv z d : Nat) : Int), H, I.tok _, ⟨_, rfl⟩, q⟩
end
def gCount (ds l : List D) : Option (D × List D) := match ds with
  | [a] => if D.pure a && D.pures l && SeqAt.shaped a.toPy && SeqAt.shaped (.list (D.toPys l)) then some (.int (((D.toPys l).countP fun z => PyData.eqv z a.toPy : Nat) : Int), l) else none
  | _ => none
theorem mg_count {K : PySem.W.Frag} : MtG K (rCountD K) gCount := by
  intro ρ H p vs ws ds l l' d Q hp hl hw hg q
  unfold gCount at hg
  split at hg
  rotate_left
  · cases hg
  rename_i a
  split at hg
  rotate_left
  · cases hg
  rename_i hok
  simp only [Bool.and_eq_true] at hok
  obtain ⟨⟨⟨o1, o2⟩, o3⟩, o4⟩ := hok
  cases hg
  obtain ⟨w, r, rfl, h1, h2⟩ := hw
  have : r = [] := h2
  subst this
  have hupd : upd H p (.lst vs) = H := by
    funext x
    unfold upd
    split
    · rename_i e; rw [e, hp]
    · rfl
  have hq := q (.int (((D.toPys l).countP fun z => PyData.eqv z a.toPy : Nat) : Int)) vs rfl hl
  rw [hupd] at hq
  exact ⟨p, w, a.toPy, D.toPys l, rfl, rfl, .lst (SqL.of hp) (dps_of l vs o2 hl), dp_of a w o1 h1, o4, o3, hq⟩
end Ev

/-! ## Ev9n -/
set_option Elab.async false
set_option linter.all false
set_option maxRecDepth 100000
namespace Ev
open PySem PySem.Spec PyProof.Rows L2
open Classical in
noncomputable def dcL (gd : Store → Prop) (t : Tg) (tt : SEnv → Store → R Bool) (fk fv : SEnv → Store → R RV) (env : SEnv) : List D → List (D × D) → Store → R (List (D × D))
  | [], acc => fun st => .ok acc st
  | d :: ds, acc => fun st => match t.put d env with
    | some env1 => (tt env1 st).bindN fun c st1 => if c = true then (fk env1 st1).bindN fun k st2 => (fv env1 st2).bindN fun a st3 => (mat a st3).bind fun d' st4 => match k with
        | .v kd => match keyD kd with
          | some _ => if gd st4 ∧ acc.length < sLine then dcL gd t tt fk fv env ds (dputD acc kd d') st4 else .bad
          | none => .bad
        | _ => .bad
      else if gd st1 then dcL gd t tt fk fv env ds acc st1 else .bad
    | none => .bad
noncomputable def eDComp (w : SEnv → Store → R Walk) (t : Tg) (tt : SEnv → Store → R Bool) (own : List Nat) (fk fv : SEnv → Store → R RV) : SEnv → Store → R RV := fun env st =>
  (w env st).bind fun k st1 => if k.l.length ≤ sLine then (dcL k.gd t tt fk fv (wipeE env own) k.l [] st1).bind fun r st2 => .ok (.v (.ref st2.length)) (st2 ++ [.dict false r]) else .bad
section
variable {K : PySem.W.Frag} {ρ : List Addr} {H : Hp} {cl : CT}
theorem RS.otherK {st : Store} (S : RS K ρ H cl st) {p : Addr} {vs ws : List (Key × V)} (hp : H p = some (.dK vs)) (n : p ∉ ρ) : RS K ρ (upd H p (.dK ws)) cl st ∧ Mono K ρ H ρ (upd H p (.dK ws)) := by
  have m : Mono K ρ H ρ (upd H p (.dK ws)) := by
    refine ⟨⟨[], by simp⟩, fun a xs h => ?_, fun a xs h => ?_⟩
    · rcases h with (h | ⟨o, h⟩) | h
      · exact .inl (.inl (by rw [upd_ne (ne_of h hp fun z => by cases z)]; exact h))
      · exact .inl (.inr ⟨o, by rw [upd_ne (ne_of h hp fun z => by cases z)]; exact h⟩)
      · exact .inr h
    · rcases h with ⟨o, h⟩ | h
      · exact .inl ⟨o, by rw [upd_ne (ne_of h hp fun z => by cases z)]; exact h⟩
      · exact .inr h
  refine ⟨⟨S.len, S.nd, fun i c a h1 h2 => (S.at_ i c a h1 h2).mono m ?_, tabs_upd S.tab hp (fun _ z => by cases z) fun _ z => by unfold LamX.CodeO at z; cases z⟩, m⟩
  rw [upd_ne]
  intro z
  subst z
  exact n (List.mem_of_getElem? h2)
end
section
variable {X : Cx} {cl : CT} {W : WX} {kx vx tg iter : Expr} {ifs : List Expr} {scope : Scope} {own : List (Str × Nat)} {pos : Pos} {w : SEnv → Store → R Walk} {t : Tg} {tt : SEnv → Store → R Bool} {fk fv : SEnv → Store → R RV}
theorem w_dcomp {K : PySem.W.Frag} (ho : ∀ i ∈ t.ix, i ∈ own.map (·.2)) (σ : L2.St) (H : Hp) (Q : VK) (h : tF K cl W (eDComp w t tt (own.map (·.2)) fk fv) σ H Q) :
    tDc (tI K cl W w) (t.g K) (tB1 K cl W0 tt) (tF K cl W0 fk) (tF K cl W0 fv) (own.map (·.2)) σ H Q := by
  obtain ⟨ρ, env, st, S, E, P⟩ := h
  refine ⟨ρ, env, st, S, E, ?_⟩
  unfold eDComp at P
  cases hw : w env st with
  | bad => rw [hw] at P; exact P
  | exc x st1 => rw [hw] at P; exact P
  | ok k st1 =>
    rw [hw, R.bind_ok] at P
    split at P
    rotate_left
    · exact P.elim
    rename_i hlen
    intro ρ1 H1 J base x1 S1 so b1 g1 D hD
    have nD1 : D ∉ ρ1 := fun z => by
      obtain ⟨o, e, _⟩ := S1.obj z
      rw [hD] at e; cases e
    have D0 : H D = none := x1.free S1 hD
    generalize hwv : own.map (·.2) = vs at *
    refine ⟨fun i m H' => m = k.l.length - i ∧ i ≤ k.l.length ∧ ∃ ρ' st' acc accl, RS K ρ' H' cl st' ∧ Ext ρ1 H1 ρ' H' ∧ H' D = some (.dK acc) ∧ D ∉ ρ' ∧ RKV K ρ' H' accl acc ∧ k.gd st' ∧
        Post K cl W σ (relV K) ρ H ((dcL k.gd t tt fk fv (wipeE env vs) (k.l.drop i) accl st').bind fun r st2 => .ok (.v (.ref st2.length)) (st2 ++ [.dict false r])) Q,
      ⟨k.l.length, by simp, Nat.zero_le _, ρ1, st1, [], ([] : List (Ev.D × Ev.D)), S1.new hD, Ext.new hD, upd_same, nD1, rfl, g1, (by rw [List.drop_zero]; exact P)⟩, ?_⟩
    rintro i m H2 ⟨rfl, hi2, ρ2, st2, acc, accl, S2, x2, hD2, nD2, ra, g2, P2⟩
    have b2 := so.keep S1 b1 x2
    have E2 : RE K ρ2 H2 (L2.wipe σ vs) (wipeE env vs) := ((E.mono (x1.mono S)).mono (x2.mono S1)).wipe vs
    by_cases hlt : i < k.l.length
    rotate_left
    · have hi3 : i = k.l.length := by omega
      subst hi3
      rw [List.drop_length] at P2
      refine .inl ⟨so.stop S2 b2 g2 (Nat.le_refl _), ?_⟩
      simp only [dcL, R.bind_ok] at P2
      have S3 : RS K (ρ2 ++ [D]) H2 cl (st2 ++ [.dict false accl]) := S2.grow nD2 (.inl ⟨rfl, acc, hD2, RKV.mono (Mono.grow [D]) _ _ ra⟩)
      have x3 : Ext ρ H (ρ2 ++ [D]) H2 := Ext.grow (x1.trans x2) D0
      refine P2 (ρ2 ++ [D]) H2 (.ref D) x3 S3 ⟨D, rfl, ?_⟩
      rw [← S2.len, List.getElem?_append_right (Nat.le_refl _)]
      simp
    refine .inr ⟨so.go S2 b2 g2 hlt, fun H' => ∃ ρ' st' acc accl, RS K ρ' H' cl st' ∧ Ext ρ1 H1 ρ' H' ∧ H' D = some (.dK acc) ∧ D ∉ ρ' ∧ RKV K ρ' H' accl acc ∧ k.gd st' ∧
        Post K cl W σ (relV K) ρ H ((dcL k.gd t tt fk fv (wipeE env vs) (k.l.drop (i + 1)) accl st').bind fun r st2 => .ok (.v (.ref st2.length)) (st2 ++ [.dict false r])) Q, fun H' h => ⟨k.l.length - (i + 1), by omega, rfl, hlt, h⟩, fun x H3 y => ?_⟩
    obtain ⟨d, hd, x3, S3, r3⟩ := so.yld S2 b2 g2 y hlt
    have hD3 := x3.keep hD2 nD2 (fun _ z => by cases z)
    have x13 := x2.trans x3
    have ra3 := RKV.mono (x3.mono S2) _ _ ra
    have e1 : k.l.drop i = d :: k.l.drop (i + 1) := by
      rw [List.drop_eq_getElem_cons hlt]
      rw [List.getElem?_eq_getElem hlt] at hd
      cases hd; rfl
    rw [e1] at P2
    simp only [dcL] at P2
    split at P2
    rotate_left
    · exact P2.elim
    rename_i env3 he
    refine Tg.okW ho (E2.mono (x3.mono S2)) r3 he fun σ3 E3 hw3 => ⟨hw3.trans wipe_wipe, ?_⟩
    refine ⟨ρ2, env3, st2, S3, E3, ?_⟩
    cases ht : tt env3 st2 with
    | bad => rw [ht] at P2; exact P2.elim
    | exc x st4 => rw [ht] at P2; exact P2.elim
    | ok c st4 =>
      rw [ht, R.bindN_ok] at P2
      intro ρ4 H4 c' x4 S4 hc
      have hc : c = c' := hc
      subst hc
      have hD4 := x4.keep hD3.1 hD3.2 (fun _ z => by cases z)
      have x14 := x13.trans x4
      have ra4 := RKV.mono (x4.mono S3) _ _ ra3
      cases c with
      | false =>
        rw [if_neg Bool.false_ne_true] at P2 ⊢
        split at P2
        · rename_i hg
          exact ⟨ρ4, st4, acc, accl, S4, x14, hD4.1, hD4.2, ra4, hg, P2⟩
        · exact P2.elim
      | true =>
        rw [if_pos rfl] at P2 ⊢
        have E4 := E3.mono (x4.mono S3)
        refine ⟨ρ4, env3, st4, S4, E4, ?_⟩
        cases hk : fk env3 st4 with
        | bad => rw [hk] at P2; exact P2.elim
        | exc x st5 => rw [hk] at P2; exact P2.elim
        | ok ka st5 =>
          rw [hk, R.bindN_ok] at P2
          intro ρ5 H5 kv x5 S5 r5
          have hD5 := x5.keep hD4.1 hD4.2 (fun _ z => by cases z)
          have ra5 := RKV.mono (x5.mono S4) _ _ ra4
          refine ⟨ρ5, env3, st5, S5, E4.mono (x5.mono S4), ?_⟩
          cases hv : fv env3 st5 with
          | bad => rw [hv] at P2; exact P2.elim
          | exc x st6 => rw [hv] at P2; exact P2.elim
          | ok a st6 =>
            rw [hv, R.bindN_ok] at P2
            intro ρ6 H6 v x6 S6 r6
            obtain ⟨d', st7, ρ7, e7, x7, S7, r7, m7⟩ := mat_ok S6 x6 r6
            rw [e7, R.bind_ok] at P2
            have hD7 := x7.keep hD5.1 hD5.2 (fun _ z => by cases z)
            have ra7 := RKV.mono (x7.mono S5) _ _ ra5
            split at P2
            rotate_left
            · exact P2.elim
            rename_i kd
            split at P2
            rotate_left
            · exact P2.elim
            rename_i ks hkd
            split at P2
            rotate_left
            · exact P2.elim
            rename_i hg
            have kr := keyD_rel hkd
            have ez := kr.val r5
            subst ez
            have xx := (x14.trans x5).trans x7
            obtain ⟨S8, m8⟩ := S7.otherK (ws := putK acc ks v) hD7.1 hD7.2
            refine ⟨acc, ks, rfl, hD7.1, by rw [ra7.len, sLine_eq]; exact hg.2, ρ7, st7, putK acc ks v, dputD accl kd d', S8, ⟨xx.pre, fun b o hb nb => ?_, fun b o u hb => by rw [upd_ne (fun z => by rw [z, hD] at hb; cases hb)]; exact xx.frz b o u hb⟩, upd_same, hD7.2, RKV.mono m8 _ _ (ra7.put kr r7), hg.1, P2⟩
            obtain ⟨h1, h2⟩ := xx.same b o hb nb
            exact ⟨by rw [upd_ne (ne_of_none hb hD)]; exact h1, h2⟩
theorem de_dcomp (hc : X.calm = true) (hN : X.N.Nodup) (hi : PI X tg iter (tI X.K cl W w)) (ok : BlkOk X.N X.env.scope scope own) (ho : ∀ i ∈ t.ix, i ∈ own.map (·.2))
    (hg : ∀ s H C c fp, PG (X.blk s H scope (compEnvC scope c C X.env) fp) tg (t.g X.K)) (ht : ∀ s H C c fp, PTs (X.blk s H scope (compEnvC scope c C X.env) fp) ifs (tB1 X.K cl W0 tt))
    (hk : ∀ s H C c fp, PE (X.blk s H scope (compEnvC scope c C X.env) fp) kx (tF X.K cl W0 fk)) (hv : ∀ s H C c fp, PE (X.blk s H scope (compEnvC scope c C X.env) fp) vx (tF X.K cl W0 fv)) (hs : ∀ x, foldedSetIterable iter X.env x = pure x) :
    PE X (.DictComp kx vx [⟨tg, iter, ifs, 0⟩] scope pos) (tF X.K cl W (eDComp w t tt (own.map (·.2)) fk fv)) :=
  PEw (pe_dc hc hN hi ok hg ht hk hv hs) (w_dcomp ho)
theorem ds_setDComp {i : Nat} {y : Str} {py spos : Pos} (hc : X.calm = true) (hN : X.N.Nodup) (hy : X.N[i]? = some y) (hyl : X.env.scope.names.lookup y = some .local)
    (hsw : swapsWith (.DictComp kx vx [⟨tg, iter, ifs, 0⟩] scope pos) (some (.Name y py)) spos.line X.env = pure true) (hi : PI X tg iter (tI X.K cl W w)) (ok : BlkOk X.N X.env.scope scope own) (ho : ∀ i ∈ t.ix, i ∈ own.map (·.2))
    (hg : ∀ s H C c fp, PG (X.blk s H scope (compEnvC scope c C X.env) fp) tg (t.g X.K)) (ht : ∀ s H C c fp, PTs (X.blk s H scope (compEnvC scope c C X.env) fp) ifs (tB1 X.K cl W0 tt))
    (hk : ∀ s H C c fp, PE (X.blk s H scope (compEnvC scope c C X.env) fp) kx (tF X.K cl W0 fk)) (hv : ∀ s H C c fp, PE (X.blk s H scope (compEnvC scope c C X.env) fp) vx (tF X.K cl W0 fv)) (hs : ∀ x, foldedSetIterable iter X.env x = pure x) :
    PS X (.Assign [.Name y py] (.DictComp kx vx [⟨tg, iter, ifs, 0⟩] scope pos) spos) (tS X.K cl W (sSet i (eDComp w t tt (own.map (·.2)) fk fv))) := by
  have raw : PS X (.Assign [.Name y py] (.DictComp kx vx [⟨tg, iter, ifs, 0⟩] scope pos) spos) (tAsg (tDc (tI X.K cl W w) (t.g X.K) (tB1 X.K cl W0 tt) (tF X.K cl W0 fk) (tF X.K cl W0 fv) (own.map (·.2))) (gName i)) := by
    refine ⟨fun pins s σ H Z inv0 z0 => ?_⟩
    rw [exec_Assign_Name_used _ _ _ _ hsw]
    refine wpAny_bind (wpAny_standAt (wpAny_bind ?_))
    have z1 : tDc (tI X.K cl W w) (t.g X.K) (tB1 X.K cl W0 tt) (tF X.K cl W0 fk) (tF X.K cl W0 fv) (own.map (·.2)) σ H fun x H1 => gName i x σ H1 Z.nx := z0
    have z2 := dc_core (use := some (assign (.Name y py) X.env)) (Qf := fun _ s' => SP X pins Z .next s') (pos := pos) (pos' := firstIterPos [⟨tg, iter, ifs, 0⟩] pos) hc hN inv0 hi ok hg ht hk hv hs z1 fun L C s' m H' inv1 q hn f => ?_
    · exact wpAny_bind (thn z2 fun _ s' hq => wpAny_pure (wpAny_pure hq))
    · obtain ⟨f0, f1, f2, f3, f4, f5⟩ := f
      refine wpAny_assign_Name (store_ok2 (v := V.ref L) inv1 hN hy (.inl hyl) rfl (fun s2 inv2 ⟨a, sb, ha⟩ => ?_) (.inr hyl))
      have far : C ≠ a := by
        rcases ha with z | z
        · rw [z]; exact f1
        · intro e; exact f4 y a z e.symm
      refine ⟨m, hn.sameBut sb far, fun h3 sb3 => ⟨_, H', ?_, q⟩⟩
      exact inv2.turned (t' := s2.toks) (fun b o hb e => (sb3.2 b hb).trans e) f0 f1 f3 f4 f5
  refine PSw raw fun Z σ H h => ?_
  exact w_dcomp ho σ H _ (by
    obtain ⟨ρ, env, st, S, E, P⟩ := h
    refine ⟨ρ, env, st, S, E, (PostS.toS (rel := relV X.K) S E P).mono ?_⟩
    rintro x H1 ⟨ρ1, st1, a, x1, S1, r1, P1⟩
    obtain ⟨d, st2, ρ2, e2, x2, S2, r2, m2⟩ := mat_ok S1 x1 r1
    rw [e2, R.toS_ok] at P1
    exact P1 ρ2 H1 _ x2 S2 (((E.mono (x1.mono S)).mono m2).set i r2))
end
noncomputable def eGetK (fo fi fx : SEnv → Store → R RV) : SEnv → Store → R RV := fun env st => (fo env st).bind fun o st1 => match o with
  | .v (.ref n) => match kvO st1[n]? with
    | some _ => (fi env st1).bind fun i st2 => (fx env st2).bind fun a st3 => (mat a st3).bind fun z st4 => match i with
      | .v k => match kvO st4[n]?, keyD k with
        | some kvs, some _ => .ok (.v ((dvV kvs k).getD z)) st4
        | _, _ => .bad
      | _ => .bad
    | none => .bad
  | _ => .bad
section
variable {X : Cx} {cl : CT} {W : WX} {o i e : Expr} {fo fi fx : SEnv → Store → R RV} {pos apos : Pos}
theorem de_getK (hu : X.A.units + 1 < cLine) (ho : PE X o (tF X.K cl W fo)) (hi : PE X i (tF X.K cl W fi)) (he : PE X e (tF X.K cl W fx)) (m : M2 X o "get" apos i e pos) : PE X (.Call (.Attribute o "get" apos) [i, e] [] pos) (tF X.K cl W (eGetK fo fi fx)) := by
  refine PEw (pe_dget2 hu ho hi he m) fun σ H Q ⟨ρ, env, st, S, E, P⟩ => ?_
  refine ⟨ρ, env, st, S, E, (Post.bind0 P).mono ?_⟩
  rintro x H1 ⟨ρ1, st1, a, x1, S1, r1, P1⟩
  split at P1
  rotate_left
  · exact P1.elim
  rename_i n
  split at P1
  rotate_left
  · exact P1.elim
  rename_i kv1 e1
  obtain ⟨q, rfl, hq⟩ := r1
  obtain ⟨vs1, g1, _⟩ := kvO_ok S1 hq e1
  have E1 := E.mono (x1.mono S)
  refine ⟨q, rfl, .inl ⟨vs1, g1⟩, ρ1, env, st1, S1, E1, (Post.bind0 (relα := relV X.K) (Post.from backV S1 x1 P1)).mono ?_⟩
  rintro y H2 ⟨ρ2, st2, iv, x2, S2, r2, P2⟩
  refine ⟨ρ2, env, st2, S2, E1.mono (x2.mono S1), (Post.bind0 (relα := relV X.K) (Post.from backV S2 x2 P2)).mono ?_⟩
  rintro z H3 ⟨ρ3, st3, av, x3, S3, r3, P3⟩
  obtain ⟨d, st4, ρ4, e4, x4, S4, r4, m4⟩ := mat_ok S3 x3 r3
  rw [e4, R.bind_ok] at P3
  have hq2 : ρ2[n]? = some q := by
    obtain ⟨more, rfl⟩ := x2.pre
    rw [List.getElem?_append_left (List.getElem?_eq_some_iff.mp hq).1]
    exact hq
  have hq4 : ρ4[n]? = some q := by
    obtain ⟨more, rfl⟩ := x4.pre
    rw [List.getElem?_append_left (List.getElem?_eq_some_iff.mp hq2).1]
    exact hq2
  split at P3
  rotate_left
  · exact P3.elim
  rename_i k
  split at P3
  rotate_left
  · exact P3.elim
  rename_i kvs ks ekv hk
  have kr := keyD_rel hk
  have ey := kr.val r2
  subst ey
  obtain ⟨vs, h1, h2⟩ := kvO_ok S4 hq4 ekv
  refine ⟨valV vs ks, .inl ⟨vs, ks, h1, rfl, rfl⟩, ?_⟩
  obtain ⟨v1, v2⟩ := h2.val kr
  cases hv : dvV kvs k with
  | none =>
    rw [hv] at v2 P3
    have : valV vs ks = none := by
      cases hh : valV vs ks with
      | none => rfl
      | some u => rw [hh] at v2; cases v2
    rw [this]
    exact P3 ρ4 H3 z x4 S4 r4
  | some d0 =>
    obtain ⟨v, w1, w2⟩ := v1 hv
    rw [w1]
    rw [hv] at P3
    exact P3 ρ4 H3 v x4 S4 w2
end
def prtD (t s : List Nat) : D := match TL.par t [] s with
  | some (a, b) => .tup [.str a, .str t, .str b]
  | none => .tup [.str s, .str [], .str []]
def gPart (s : List Nat) (as : List RV) (_ : Store) : Option RV := match as with
  | [.v (.str t)] => if t ≠ [] ∧ s.length ≤ sLine then some (.v (prtD t s)) else none
  | _ => none
section
variable {X : Cx} {cl : CT}
theorem ms_part : MtSG X cl "str.partition" gPart (fun x xs H Q => ∃ a b, x = .str a ∧ xs = [.str b] ∧ (b.length == 0) = false ∧ a.length ≤ sizeLine ∧
    ∀ p, H p = none → Q (.ref p) (upd H p (.tup [.str (Txt.partition a b).1, .str (Txt.partition a b).2.1, .str (Txt.partition a b).2.2]))) := by
  intro ρ H H0 st s as vs Q S ra q
  obtain ⟨c, hc⟩ : ∃ c, gPart s as st = some c := ⟨_, q.choose_spec.1⟩
  have hc0 := hc
  unfold gPart at hc
  split at hc
  rotate_left
  · cases hc
  rename_i t
  obtain ⟨v, r', rfl, ra, rn⟩ := ra
  have : r' = [] := rn
  subst this
  cases ra
  split at hc
  rotate_left
  · cases hc
  rename_i hz
  obtain ⟨h1, h2⟩ := hz
  have et : TL.tl (⟨t.toArray⟩ : Str) = t := by simp [TL.tl]
  have es : TL.tl (⟨s.toArray⟩ : Str) = s := by simp [TL.tl]
  refine ⟨_, _, rfl, rfl, ?_, by rw [strlen, sLine_eq]; exact h2, fun p hp => ?_⟩
  · rw [strlen]
    cases t with
    | nil => exact absurd rfl h1
    | cons a r => rfl
  · have e := TL.partition_par (⟨s.toArray⟩ : Str) (⟨t.toArray⟩ : Str) (by rw [et]; exact h1)
    rw [et, es] at e
    rw [e]
    have q' := q
    rw [hc0] at q'
    unfold prtD at hc
    split at hc
    · rename_i a b ep
      rw [ep]
      cases hc
      exact fin_tup (l := [.str a, .str t, .str b]) S q hc0 ⟨_, _, rfl, rfl, _, _, rfl, rfl, _, _, rfl, rfl, rfl⟩ hp
    · rename_i ep
      rw [ep]
      cases hc
      exact fin_tup (l := [.str s, .str [], .str []]) S q hc0 ⟨_, _, rfl, rfl, _, _, rfl, rfl, _, _, rfl, rfl, rfl⟩ hp
end
end Ev

/-! ## Ev9o -/
set_option Elab.async false
set_option linter.all false
set_option maxRecDepth 100000
set_option maxHeartbeats 1000000
namespace Ev
open PySem PySem.Spec PyProof.Rows L2
structure SOrd {κ : Type} (lt : κ → κ → Bool) : Prop where
  ir : ∀ a, lt a a = false
  tr : ∀ a b c, lt a b = true → lt b c = true → lt a c = true
  tot : ∀ a b, lt a b = false → lt b a = false → a = b
def ltS (a b : List Nat) : Bool := decide (a < b)
def ltA (p q : Int × List Nat) : Bool := decide (p.1 < q.1) || (p.1 == q.1 && decide (p.2 < q.2))
theorem sordS : SOrd ltS := ⟨fun a => decide_eq_false (List.lt_irrefl a), fun a b c h k => by
  unfold ltS at *
  exact decide_eq_true (List.lt_trans (of_decide_eq_true h) (of_decide_eq_true k)), fun a b h k => nlt_anti (of_decide_eq_false k) (of_decide_eq_false h)⟩
theorem sordA : SOrd ltA := by
  refine ⟨fun a => ?_, fun a b c h k => ?_, fun a b h k => ?_⟩
  · simp [ltA, List.lt_irrefl]
  · simp only [ltA, Bool.or_eq_true, Bool.and_eq_true, beq_iff_eq, decide_eq_true_eq] at *
    rcases h with h | ⟨h1, h2⟩ <;> rcases k with k | ⟨k1, k2⟩
    · left; omega
    · left; omega
    · left; omega
    · exact .inr ⟨h1.trans k1, List.lt_trans h2 k2⟩
  · simp only [ltA, Bool.or_eq_false_iff, Bool.and_eq_false_iff, beq_eq_false_iff_ne, decide_eq_false_iff_not] at h k
    have e1 : a.1 = b.1 := by omega
    have h2 := h.2.resolve_left fun z => z e1
    have k2 := k.2.resolve_left fun z => z e1.symm
    exact Prod.ext e1 (nlt_anti k2 h2)
def below {κ : Type} (lt : κ → κ → Bool) (ks : List κ) (k : κ) : Int := ((ks.filter fun j => lt j k).length : Nat)
theorem flt_le {α : Type} {p q : α → Bool} (h : ∀ x, p x = true → q x = true) : ∀ l : List α, (l.filter p).length ≤ (l.filter q).length
  | [] => Nat.le_refl _
  | x :: l => by
    have ih := flt_le h l
    have hx := h x
    cases a : p x <;> cases b : q x <;> simp [a, b] at hx ih ⊢ <;> omega
theorem flt_lt {α : Type} {p q : α → Bool} (h : ∀ x, p x = true → q x = true) : ∀ {l : List α} {y : α}, y ∈ l → p y = false → q y = true → (l.filter p).length < (l.filter q).length
  | [], y, hy, _, _ => by simp at hy
  | x :: l, y, hy, h1, h2 => by
    have ih := flt_le h l
    have hx := h x
    rcases List.mem_cons.mp hy with rfl | hy
    · simp [h1, h2]; omega
    · have := flt_lt h hy h1 h2
      cases a : p x <;> cases b : q x <;> simp [a, b] at hx this ⊢ <;> omega
theorem below_lt {κ : Type} {lt : κ → κ → Bool} (O : SOrd lt) {ks : List κ} {a b : κ} (ha : a ∈ ks) (hb : b ∈ ks) : decide (below lt ks a < below lt ks b) = lt a b := by
  have one : ∀ {a b : κ}, a ∈ ks → lt a b = true → below lt ks a < below lt ks b := fun {a b} ha h => by
    have := flt_lt (p := fun j => lt j a) (q := fun j => lt j b) (fun x hx => O.tr _ _ _ hx h) ha (O.ir a) h
    unfold below; omega
  cases h : lt a b with
  | true => exact decide_eq_true (one ha h)
  | false =>
    refine decide_eq_false fun z => ?_
    cases k : lt b a with
    | true => have := one hb k; omega
    | false => rw [O.tot a b h k] at z; omega
section
variable {prog : Program} {w : World} {A : Around} {E : Value → Shared → Prop} {s : Shared} {κ : Type} {key : Value → κ} {lt : κ → κ → Bool}
def Asks (prog : Program) (w : World) (key : Value → κ) (lt : κ → κ → Bool) (vs : List Value) (h0 : Heap) : Prop :=
  2 ≤ vs.length → ∀ (A : Around) (h : Heap) (d : Shared), (∀ b o, h0.get? b = some o → o.cls = .type "tuple" → h.get? b = some o) → d.heap = h → A.units + 64 < cLine + 64 → ∀ (E : Value → Shared → Prop) (Q : SortKind → Shared → Prop),
    (∀ kd, (∀ p, p ∈ vs → ∀ q, q ∈ vs → ∀ (Q' : Bool → Shared → Prop) (E' : Value → Shared → Prop), Q' (lt (key p) (key q)) d → wpAny (model prog w) A (keyLt' kd p q) Q' E' d) → Q kd d) → wpAny (model prog w) A (keyKind' vs.toArray) Q E d
theorem sort_asks (O : SOrd lt) {a : Addr} {vs : List Value} {n : Nat} {P : PySem.Fin → Shared → Prop} (hu : A.units < cLine) (ho : s.heap.get? a = some (seqObj "list" vs.toArray n)) (h64 : vs.length < 64) (hK : Asks prog w key lt vs s.heap)
    (fin : ∀ out : Array Value, out.toList.Perm vs → out.toList.Pairwise (fun u v => lt (key v) (key u) = false) → P (.done (.ret .none)) { s with heap := sortedHeap s.heap a vs out }) :
    wpAny (model prog w) A (Builtin.«list.sort» ⟨[.ref a], []⟩) P E s := by
  have keep : ∀ b o, s.heap.get? b = some o → o.cls = .type "tuple" → (TS.midHeap s.heap a vs).get? b = some o := fun b o e hc => by
    have hb : b ≠ a := by
      rintro rfl
      rw [ho] at e
      have e2 := Option.some.inj e
      rw [← e2] at hc
      exact absurd (Value.type.inj (show Value.type "list" = Value.type "tuple" from hc)) (by decide)
    exact TS.midHeap_old hb e
  refine SK.plain_sort (r := fun v => below lt (vs.map key) (key v)) ho h64 (fun two Q hQ => ?_) fun ps out h1 h2 h3 => ?_
  · refine hK two A _ { s with heap := TS.midHeap s.heap a vs } keep rfl (by omega) E Q fun kd hkd => hQ kd fun x y hx hy Q' E' q => ?_
    rw [pairsOf_toList] at hx hy
    have mx := (mem_zip_self hx).2
    have my := (mem_zip_self hy).2
    refine hkd _ mx _ my Q' E' ?_
    rw [← below_lt O (List.mem_map.mpr ⟨_, mx, rfl⟩) (List.mem_map.mpr ⟨_, my, rfl⟩)]
    exact q
  · obtain ⟨p1, p2⟩ := TS.out_rank (r := fun v => below lt (vs.map key) (key v)) h1 h2 h3
    refine fin out p1 (p2.imp_of_mem fun {u v} hu hv h => ?_)
    have b1 := below_lt O (ks := vs.map key) (List.mem_map.mpr ⟨_, p1.mem_iff.mp hv, rfl⟩) (List.mem_map.mpr ⟨_, p1.mem_iff.mp hu, rfl⟩)
    rw [← b1]
    exact decide_eq_false (by omega)
theorem sorted_asks (O : SOrd lt) {l : Addr} {vs : List Value} {Q : Value → Shared → Prop} (hu : A.units + 64 < cLine) (hl : s.heap.IsList l vs.toArray) (h64 : vs.length < 64) (hK : Asks prog w key lt vs s.heap)
    (fin : ∀ out : Array Value, out.toList.Perm vs → out.toList.Pairwise (fun u v => lt (key v) (key u) = false) → Q (.ref (s.heap.objs.size + 1)) { s with heap := sortedAll s.heap vs out }) :
    wpAny (model prog w) A (call (.builtin "sorted") [.ref l]) Q E s := by
  have zl : vs.length ≤ sizeLine := by rw [sizeLine_eq]; omega
  refine Calls.call_function_entry kind_sorted plain_sorted entry_sorted (args_sorted1 _) ?_
  unfold Builtin.«sorted»
  refine wpAny_bind (m := checkCount "sorted" 1 1 _) (wpAny_pure (wpAny_bind (collect_list hl (wpAny_bind (wpAny_newList ?_ zl)) zl)))
  generalize hg : (s.heap.push (seqObj "list" #[] 0)).update s.heap.objs.size (Obj.mapSeq (· ++ vs.toArray)) = g
  have hsz : g.objs.size = s.heap.objs.size + 1 := by rw [← hg, Heap.size_update, size_push']
  have hoL : (g.push (seqObj "list" vs.toArray 0)).get? (s.heap.objs.size + 1) = some (seqObj "list" vs.toArray 0) := by
    rw [← hsz]
    exact Heap.get?_push_size _ rfl
  have keep : ∀ b o, s.heap.get? b = some o → (g.push (seqObj "list" vs.toArray 0)).get? b = some o := fun b o q => by
    have hb : b < s.heap.objs.size := Heap.lt_size q
    have e1 : g.get? b = some o := by
      rw [← hg, Heap.get?_update_ne _ _ _ _ (Nat.ne_of_lt hb), Heap.get?_push_ne _ _ _ (Nat.ne_of_lt hb)]
      exact q
    exact Heap.get?_push_of_some _ e1
  have hK2 : Asks prog w key lt vs (g.push (seqObj "list" vs.toArray 0)) := fun two A h d k => hK two A h d fun b o e c => k b o (keep b o e) c
  show wpAny _ _ _ _ _ { s with heap := g.push (seqObj "list" vs.toArray 0) }
  rw [hsz]
  refine wpAny_bind (wpAny_holding (wpAny_call_entry slot_list_sort ⟨_, hoL, rfl⟩ entry_list_sort (sort_asks (s := { s with heap := g.push (seqObj "list" vs.toArray 0) }) O ?_ hoL h64 hK2 fun out a1 a2 => ⟨_, rfl, wpAny_pure ⟨_, rfl, ?_⟩⟩) (args_list_sort _)))
  · show A.in1.in1.units < cLine
    simp only [Around.in1]
    omega
  · have := fin out a1 a2
    unfold sortedAll at this
    rw [hg] at this
    exact this
end
def itemsAt (h : Heap) (v : Value) : List Value := match v with
  | .ref a => match h.get? a with
    | some o => match o.data with
      | .seq xs _ => xs.toList
      | _ => []
    | none => []
  | _ => []
theorem itemsAt_of {h : Heap} {a : Addr} {xs : Array Value} (x : IsTup h a xs) : itemsAt h (.ref a) = xs.toList := by
  obtain ⟨o, ho, hc, n, hd⟩ := x
  simp only [itemsAt, ho, hd]
def kSV (h : Heap) (v : Value) : List Nat := match itemsAt h v with
  | .str x _ :: _ => x.cps.toList
  | _ => []
def kAV (h : Heap) (v : Value) : Int × List Nat := match itemsAt h v with
  | [.int i _, .str x _] => (i, x.cps.toList)
  | _ => (0, [])
section
variable {prog : Program} {w : World}
def PairA (h : Heap) (v : Value) : Prop := ∃ (a : Addr) (i : Int) (t u : Tok) (x : Str), v = .ref a ∧ IsTup h a #[.int i t, .str x u]
theorem firstsA {h : Heap} : ∀ {vs : List Value}, (∀ v ∈ vs, PairA h v) → ∃ fs : List Value, PySem.W.KatTups h vs fs ∧ fs.length = vs.length ∧ ∀ f ∈ fs, ∃ n t, f = Value.int n t
  | [], _ => ⟨[], PySem.W.KatTups.nil, rfl, fun f hf => by simp at hf⟩
  | v :: vs, x => by
    obtain ⟨fs, k, hl, hi⟩ := firstsA fun u hu => x u (List.mem_cons_of_mem _ hu)
    obtain ⟨a, i, t, u, y, rfl, o, ho, hc, n, hd⟩ := x v (List.mem_cons_self ..)
    refine ⟨.int i t :: fs, PySem.W.KatTups.cons ho hc hd rfl k, by simp [hl], fun f hf => ?_⟩
    rcases List.mem_cons.mp hf with rfl | hf
    · exact ⟨i, t, rfl⟩
    · exact hi f hf
theorem asksA {vs : List Value} {h0 : Heap} (x : ∀ v ∈ vs, PairA h0 v) : Asks prog w (kAV h0) ltA vs h0 := by
  intro two A h d keep hd hu E Q hQ
  subst hd
  have x1 : ∀ v ∈ vs, PairA d.heap v := fun v hv => by
    obtain ⟨a, i, t, u, y, rfl, o, ho, hc, r⟩ := x v hv
    exact ⟨a, i, t, u, y, rfl, o, keep _ _ ho hc, hc, r⟩
  obtain ⟨fs, k, hl, hi⟩ := firstsA x1
  refine PySem.W.kat_kind (T := Value.type "int") k (by omega) (fun f hf => ?_) rfl (hQ _ fun p hp q hq Q' E' hh => ?_)
  · obtain ⟨n, t, rfl⟩ := hi f hf
    exact PySem.W.Looks.of_pure rfl
  · obtain ⟨a, i, t, u, y, rfl, tp⟩ := x p hp
    obtain ⟨a', i', t', u', y', rfl, tq⟩ := x q hq
    have kp : kAV h0 (.ref a) = (i, y.cps.toList) := by unfold kAV; rw [itemsAt_of tp]
    have kq : kAV h0 (.ref a') = (i', y'.cps.toList) := by unfold kAV; rw [itemsAt_of tq]
    rw [kp, kq] at hh
    obtain ⟨o, ho, hc, n, hdt⟩ := tp
    obtain ⟨o', ho', hc', n', hdt'⟩ := tq
    refine PySem.W.kat_lt (keep _ _ ho hc) hdt (keep _ _ ho' hc') hdt' ?_
    show PySem.W.KatLex prog w A _ false Q' [(Value.int i t, Value.int i' t'), (Value.str y u, Value.str y' u')] 0 d
    refine PySem.W.kat_cons (wpAny_eqBool_int ?_)
    by_cases e : i = i'
    · subst e
      rw [beq_self_eq_true]
      refine PySem.W.kat_yes (PySem.W.kat_cons (wpAny_eqBool_str ?_))
      by_cases e2 : y = y'
      · subst e2
        rw [decide_eq_true rfl]
        refine PySem.W.kat_yes (PySem.W.kat_nil ?_)
        rw [sordA.ir] at hh
        exact hh
      · rw [decide_eq_false e2]
        refine PySem.W.kat_no (PySem.W.kat_one _ _ (PyProof.Rows.lt_str (Q := PySem.W.BoolBack Q') ?_))
        have : ltA (i, y.cps.toList) (i, y'.cps.toList) = decide (y.cps.toList < y'.cps.toList) := by simp [ltA]
        rw [this] at hh
        exact hh
    · rw [show (i == i') = false from beq_eq_false_iff_ne.mpr e]
      refine PySem.W.kat_no (TS.oneLt_ints _ ?_)
      have : ltA (i, y.cps.toList) (i', y'.cps.toList) = decide (i < i') := by simp [ltA, e]
      rw [this] at hh
      exact hh
theorem oneLt_strs {A : Around} {d : Shared} {Q : Bool → Shared → Prop} {E : Value → Shared → Prop} (c : Bool) {x y : Str} {t u : Tok} (h : Q (decide (x.cps.toList < y.cps.toList)) d) : wpAny (model prog w) A (oneLt' c (.str x t) (.str y u)) Q E d := by
  cases c with
  | true => exact oneLt_str h
  | false => exact PySem.W.kat_one _ _ (PyProof.Rows.lt_str (Q := PySem.W.BoolBack Q) h)
def PairB (h : Heap) (v : Value) : Prop := ∃ (a : Addr) (u : Tok) (x : Str) (r : List Value), v = .ref a ∧ IsTup h a (Value.str x u :: r).toArray
theorem firstsB {h : Heap} : ∀ {vs : List Value}, (∀ v ∈ vs, PairB h v) → ∃ fs : List Value, PySem.W.KatTups h vs fs ∧ fs.length = vs.length ∧ ∀ f ∈ fs, ∃ n t, f = Value.str n t
  | [], _ => ⟨[], PySem.W.KatTups.nil, rfl, fun f hf => by simp at hf⟩
  | v :: vs, x => by
    obtain ⟨fs, k, hl, hi⟩ := firstsB fun u hu => x u (List.mem_cons_of_mem _ hu)
    obtain ⟨a, u, y, r, rfl, o, ho, hc, n, hd⟩ := x v (List.mem_cons_self ..)
    refine ⟨.str y u :: fs, PySem.W.KatTups.cons ho hc hd (by simp) k, by simp [hl], fun f hf => ?_⟩
    rcases List.mem_cons.mp hf with rfl | hf
    · exact ⟨y, u, rfl⟩
    · exact hi f hf
theorem eqB_same {A : Around} {d : Shared} {Q : Bool → Shared → Prop} {E : Value → Shared → Prop} (u : Value) (h : Q true d) : wpAny (model prog w) A (eqBool u u) Q E d := by
  unfold eqBool
  refine wpAny_holding ?_
  have e : (u == u) = true := by simp
  rw [if_pos e]
  exact wpAny_bind (wpAny_rule (wpAny_pure h))
theorem lex_same {A : Around} {d : Shared} {Q : Bool → Shared → Prop} {b : Bool} (h : Q false d) : ∀ (us : List Value) (i : Nat), PySem.W.KatLex prog w A b false Q (us.zip us) i d
  | [], i => PySem.W.kat_nil h
  | u :: us, i => PySem.W.kat_cons (eqB_same u (PySem.W.kat_yes (lex_same h us (i + 1))))
theorem asksB {vs : List Value} {h0 : Heap} (x : ∀ v ∈ vs, PairB h0 v) (inj : ∀ p ∈ vs, ∀ q ∈ vs, kSV h0 p = kSV h0 q → p = q) : Asks prog w (kSV h0) ltS vs h0 := by
  intro two A h d keep hd hu E Q hQ
  subst hd
  have x1 : ∀ v ∈ vs, PairB d.heap v := fun v hv => by
    obtain ⟨a, u, y, r, rfl, o, ho, hc, z⟩ := x v hv
    exact ⟨a, u, y, r, rfl, o, keep _ _ ho hc, hc, z⟩
  obtain ⟨fs, k, hl, hi⟩ := firstsB x1
  refine PySem.W.kat_kind (T := Value.type "str") k (by omega) (fun f hf => ?_) rfl (hQ _ fun p hp q hq Q' E' hh => ?_)
  · obtain ⟨n, t, rfl⟩ := hi f hf
    exact PySem.W.Looks.of_pure rfl
  · have inj' := inj p hp q hq
    obtain ⟨a, u, y, r, rfl, tp⟩ := x p hp
    obtain ⟨a', u', y', r', rfl, tq⟩ := x q hq
    have kp : kSV h0 (.ref a) = y.cps.toList := by unfold kSV; rw [itemsAt_of tp]
    have kq : kSV h0 (.ref a') = y'.cps.toList := by unfold kSV; rw [itemsAt_of tq]
    rw [kp, kq] at hh inj'
    obtain ⟨o, ho, hc, n, hdt⟩ := tp
    by_cases e2 : y = y'
    · subst e2
      have ea := inj' rfl
      rw [← ea]
      refine PySem.W.kat_lt (keep _ _ ho hc) hdt (keep _ _ ho hc) hdt ?_
      have sz : decide (((Value.str y u :: r).toArray).size < ((Value.str y u :: r).toArray).size) = false := decide_eq_false (Nat.lt_irrefl _)
      rw [sz]
      rw [sordS.ir] at hh
      exact lex_same hh _ 0
    · obtain ⟨o', ho', hc', n', hdt'⟩ := tq
      refine PySem.W.kat_lt (keep _ _ ho hc) hdt (keep _ _ ho' hc') hdt' ?_
      show PySem.W.KatLex prog w A _ _ Q' ((Value.str y u, Value.str y' u') :: r.zip r') 0 d
      refine PySem.W.kat_cons (wpAny_eqBool_str ?_)
      rw [decide_eq_false e2]
      exact PySem.W.kat_no (oneLt_strs _ hh)
end
def keyA (d : D) : Int × List Nat := match d with
  | .tup [.int i, .str x] => (i, x)
  | _ => (0, [])
def isA (d : D) : Bool := match d with
  | .tup [.int _, .str _] => true
  | _ => false
def dSortP (a : RV) (st : Store) : Option RV := match lstV st a with
  | some l => if l.length < 64 then
      if l.all isA = true ∧ (l.map keyA).Nodup then some (.t (l.mergeSort fun a b => !ltA (keyA b) (keyA a)))
      else if l.all isKS = true ∧ (l.map kS).Nodup then some (.t (l.mergeSort fun a b => !ltS (kS b) (kS a)))
      else none
    else none
  | none => none
theorem inj_map {α κ : Type} {k : α → κ} : ∀ {l : List α}, (l.map k).Nodup → ∀ a ∈ l, ∀ b ∈ l, k a = k b → a = b
  | [], _, a, ha, _, _, _ => by simp at ha
  | x :: l, hn, a, ha, b, hb, e => by
    rw [List.map_cons, List.nodup_cons] at hn
    rcases List.mem_cons.mp ha with p1 | p1 <;> rcases List.mem_cons.mp hb with p2 | p2
    · rw [p1, p2]
    · exact absurd (List.mem_map.mpr ⟨b, p2, by rw [← e, p1]⟩) hn.1
    · exact absurd (List.mem_map.mpr ⟨a, p1, by rw [e, p2]⟩) hn.1
    · exact inj_map hn.2 a p1 b p2 e
theorem sort_uniq {α κ : Type} {lt : κ → κ → Bool} (O : SOrd lt) {k : α → κ} {l l' : List α} (p : l'.Perm l) (s : l'.Pairwise fun a b => lt (k b) (k a) = false) (nd : (l.map k).Nodup) : l' = l.mergeSort fun a b => !lt (k b) (k a) := by
  have ms := List.pairwise_mergeSort (le := fun a b => !lt (k b) (k a)) (fun a b c h1 h2 => by
    simp only [Bool.not_eq_true'] at h1 h2 ⊢
    cases h : lt (k c) (k a) with
    | false => rfl
    | true =>
      cases q : lt (k a) (k b) with
      | true => rw [O.tr _ _ _ h q] at h2; cases h2
      | false => rw [O.tot _ _ q h1, h2] at h; cases h) (fun a b => by
    cases h : lt (k b) (k a) with
    | false => rfl
    | true =>
      cases q : lt (k a) (k b) with
      | false => rfl
      | true => have := O.tr _ _ _ h q; rw [O.ir] at this; cases this) l
  have mp := List.mergeSort_perm l fun a b => !lt (k b) (k a)
  refine List.Perm.eq_of_pairwise (le := fun a b => lt (k b) (k a) = false) (fun a b ha hb h1 h2 => ?_) s (ms.imp fun h => by simpa using h) (p.trans mp.symm)
  exact inj_map nd a (p.mem_iff.mp ha) b (mp.mem_iff.mp hb) (O.tot _ _ h2 h1)
theorem each_perm {α : Type} {R : Value → α → Prop} {us out : List Value} (p : us.Perm out) : ∀ {l : List α}, PySem.W.EachIs R us l → ∃ l', PySem.W.EachIs R out l' ∧ l'.Perm l := by
  induction p with
  | nil => intro l h; exact ⟨l, h, List.Perm.refl _⟩
  | cons x _ ih =>
    intro l h
    cases h with
    | cons h1 h2 =>
      obtain ⟨l', a, b⟩ := ih h2
      exact ⟨_ :: l', .cons h1 a, List.Perm.cons _ b⟩
  | swap x y _ =>
    intro l h
    cases h with
    | cons h1 h2 =>
      cases h2 with
      | cons h3 h4 => exact ⟨_, .cons h3 (.cons h1 h4), List.Perm.swap _ _ _⟩
  | trans _ _ ih1 ih2 =>
    intro l h
    obtain ⟨l1, a1, b1⟩ := ih1 h
    obtain ⟨l2, a2, b2⟩ := ih2 a1
    exact ⟨l2, a2, b2.trans b1⟩
theorem each_right {α : Type} {R : Value → α → Prop} : ∀ {us : List Value} {l : List α}, PySem.W.EachIs R us l → ∀ u ∈ us, ∃ d ∈ l, R u d
  | _, _, .nil, u, hu => by simp at hu
  | _, _, .cons h1 h2, u, hu => by
    rcases List.mem_cons.mp hu with rfl | hu
    · exact ⟨_, List.mem_cons_self .., h1⟩
    · obtain ⟨d, a, b⟩ := each_right h2 u hu
      exact ⟨d, List.mem_cons_of_mem _ a, b⟩
theorem each_pair {α : Type} {R : Value → α → Prop} {P : Value → Value → Prop} {P' : α → α → Prop} (h : ∀ u v d e, R u d → R v e → P u v → P' d e) : ∀ {us : List Value} {l : List α}, PySem.W.EachIs R us l → us.Pairwise P → l.Pairwise P'
  | _, _, .nil, _ => List.Pairwise.nil
  | _, _, .cons h1 h2, p => by
    rw [List.pairwise_cons] at p
    refine List.pairwise_cons.mpr ⟨fun e he => ?_, each_pair h h2 p.2⟩
    have left : ∀ {us : List Value} {l : List α}, PySem.W.EachIs R us l → ∀ d ∈ l, ∃ u ∈ us, R u d := by
      intro us l hh
      induction hh with
      | nil => intro d hd; simp at hd
      | cons a _ ih =>
        intro d hd
        rcases List.mem_cons.mp hd with rfl | hd
        · exact ⟨_, List.mem_cons_self .., a⟩
        · obtain ⟨u, x, y⟩ := ih d hd
          exact ⟨u, List.mem_cons_of_mem _ x, y⟩
    obtain ⟨v, hv, r⟩ := left h2 e he
    exact h _ _ _ _ h1 r (p.1 v hv)
theorem each_same {α κ : Type} {R : Value → α → Prop} {kv : Value → κ} {k : α → κ} (h : ∀ u d, R u d → kv u = k d) : ∀ {us : List Value} {l : List α}, PySem.W.EachIs R us l → (l.map k).Nodup → ∀ p ∈ us, ∀ q ∈ us, kv p = kv q → p = q
  | _, _, .nil, _, p, hp, _, _, _ => by simp at hp
  | _, _, .cons (b := d) h1 h2, nd, p, hp, q, hq, e => by
    rw [List.map_cons, List.nodup_cons] at nd
    rcases List.mem_cons.mp hp with p1 | p1 <;> rcases List.mem_cons.mp hq with p2 | p2
    · rw [p1, p2]
    · obtain ⟨c, hc, r⟩ := each_right h2 q p2
      refine absurd (List.mem_map.mpr ⟨c, hc, ?_⟩) nd.1
      rw [← h _ _ r, ← e, p1, h _ _ h1]
    · obtain ⟨c, hc, r⟩ := each_right h2 p p1
      refine absurd (List.mem_map.mpr ⟨c, hc, ?_⟩) nd.1
      rw [← h _ _ r, e, p2, h _ _ h1]
    · exact each_same h h2 nd.2 p p1 q p2 e
section
variable {X : Cx} {cl : CT}
theorem cd_sortP (hu : X.A.units + 64 < cLine) : CallR X (.builtin "sorted") (rPN X.K cl (g1 dSortP)) := cd_1 (g1 := dSortP) fun pins s σ H x u Q ρ st a H0 I ru S ra q => by
  obtain ⟨c, h⟩ : ∃ c, dSortP a st = some c := ⟨_, q.choose_spec.1⟩
  have h0 := h
  unfold dSortP at h
  split at h
  rotate_left
  · cases h
  rename_i l hl
  obtain ⟨p, vs, rfl, h1, h2⟩ := lstV_ok S ra hl
  obtain rfl : u = Value.ref p := ru
  split at h
  rotate_left
  · cases h
  rename_i h64
  obtain ⟨its, rv, pl, hz⟩ := I.list h1
  have each := each_rds h2 rv
  have li : its.length = l.length := each.length
  -- the end, whichever the keys are
  have fin : ∀ {κ : Type} {kv : Value → κ} {k : D → κ} {lt : κ → κ → Bool} (O : SOrd lt) (hk : ∀ u d, d ∈ l → (∃ v, RelV v u ∧ RD X.K ρ H d v) → kv u = k d) (nd : (l.map k).Nodup) (he : some c = some (.t (l.mergeSort fun a b => !lt (k b) (k a))))
      (out : Array Value), out.toList.Perm its → out.toList.Pairwise (fun u v => lt (kv v) (kv u) = false) → EP X pins σ Q (.ref (s.heap.objs.size + 1)) { s with heap := sortedAll s.heap its out } := by
    intro κ kv k lt O hk nd he out po ps
    obtain ⟨l', e1, e2⟩ := each_perm po.symm each
    have e3 : PySem.W.EachIs (fun u d => d ∈ l ∧ ∃ v, RelV v u ∧ RD X.K ρ H d v) out.toList l' := by
      have mem : ∀ d ∈ l', d ∈ l := fun d hd => e2.mem_iff.mp hd
      clear e2
      revert mem
      generalize out.toList = us at e1
      clear po ps
      induction e1 with
      | nil => intro _; exact .nil
      | cons a _ ih => intro mem; exact .cons ⟨mem _ (List.mem_cons_self ..), a⟩ (ih fun d hd => mem d (List.mem_cons_of_mem _ hd))
    have e4 := each_pair (P := fun u v => lt (kv v) (kv u) = false) (P' := fun a b => lt (k b) (k a) = false) (fun u v d e r1 r2 hh => by rw [hk _ _ r1.1 r1.2, hk _ _ r2.1 r2.2] at hh; exact hh) e3 ps
    have e5 := sort_uniq O e2 e4 nd
    obtain ⟨ws, r1, r2⟩ := rds_each e1
    rw [e5] at r2
    obtain ⟨ep, he'⟩ := sortedAll_at s.heap its out
    have hlen : ws.length ≤ sizeLine := by
      have a1 := r1.length
      have a2 := po.length_eq
      rw [sizeLine_eq]; omega
    have fr : H (s.heap.objs.size + 1) = none := I.hok.fresh (Nat.le_succ _)
    refine ⟨.ref _, upd H (s.heap.objs.size + 1) (.lst ws), I.laid (t' := s.toks) (fun _ _ => sortedAll_old) (Nat.le_succ _) ⟨hlen, out.toList, ep, r1, he'⟩, rfl, ?_⟩
    exact fin_lst S q (h0.trans he) r2 fr
  split at h
  · rename_i hA
    obtain ⟨al, nd⟩ := hA
    rw [List.all_eq_true] at al
    have info : ∀ u d, d ∈ l → (∃ v, RelV v u ∧ RD X.K ρ H d v) → PairA s.heap u ∧ kAV s.heap u = keyA d := by
      intro u d hd hr
      obtain ⟨v, rv', rd⟩ := hr
      have hA := al d hd
      unfold isA at hA
      split at hA
      rotate_left
      · cases hA
      rename_i i y
      obtain ⟨t, xs, rfl, sq, v1, r1, rfl, d1, v2, r2, rfl, d2, d3⟩ := rd
      obtain rfl : r2 = [] := d3
      obtain rfl : v1 = V.int i := d1
      obtain rfl : v2 = V.str ⟨y.toArray⟩ := d2
      obtain rfl : u = Value.ref t := rv'
      obtain ⟨us, rus, tup, _⟩ := I.tuple sq
      cases rus with
      | cons a1 a2 =>
        cases a2 with
        | cons a3 a4 =>
          cases a4
          obtain ⟨t1, rfl⟩ := a1
          obtain ⟨t2, rfl⟩ := a3
          have tup : IsTup s.heap t #[Value.int i t1, Value.str ⟨y.toArray⟩ t2] := tup
          exact ⟨⟨t, i, t1, t2, _, rfl, tup⟩, by unfold kAV; rw [itemsAt_of tup]; simp [keyA]⟩
    refine sorted_asks (key := kAV s.heap) (lt := ltA) sordA hu pl.isList (by omega) (asksA fun v hv => ?_) fun out a1 a2 => fin sordA (fun u d hd hr => (info u d hd hr).2) nd (by rw [← h]) out a1 a2
    obtain ⟨d, hd, r⟩ := each_right each v hv
    exact (info v d hd r).1
  · split at h
    rotate_left
    · cases h
    rename_i hB
    obtain ⟨al, nd⟩ := hB
    rw [List.all_eq_true] at al
    have info : ∀ u d, d ∈ l → (∃ v, RelV v u ∧ RD X.K ρ H d v) → PairB s.heap u ∧ kSV s.heap u = kS d := by
      intro u d hd hr
      obtain ⟨v, rv', rd⟩ := hr
      obtain ⟨y, r, rfl⟩ := isKS_ok (al d hd)
      obtain ⟨t, xs, rfl, sq, v1, r1, rfl, d1, d2⟩ := rd
      obtain rfl : v1 = V.str ⟨y.toArray⟩ := d1
      obtain rfl : u = Value.ref t := rv'
      obtain ⟨us, rus, tup, _⟩ := I.tuple sq
      cases rus with
      | cons a1 a2 =>
        obtain ⟨t1, rfl⟩ := a1
        exact ⟨⟨t, t1, _, _, rfl, tup⟩, by unfold kSV; rw [itemsAt_of tup]; simp [kS]⟩
    have info2 : ∀ u d, (d ∈ l ∧ ∃ v, RelV v u ∧ RD X.K ρ H d v) → kSV s.heap u = kS d := fun u d hh => (info u d hh.1 hh.2).2
    have each2 : PySem.W.EachIs (fun u d => d ∈ l ∧ ∃ v, RelV v u ∧ RD X.K ρ H d v) its l := by
      have mem : ∀ d ∈ l, d ∈ l := fun d hd => hd
      revert mem
      have go : ∀ {us : List Value} {m : List D}, PySem.W.EachIs (fun u d => ∃ v, RelV v u ∧ RD X.K ρ H d v) us m → (∀ d ∈ m, d ∈ l) → PySem.W.EachIs (fun u d => d ∈ l ∧ ∃ v, RelV v u ∧ RD X.K ρ H d v) us m := by
        intro us m hh
        induction hh with
        | nil => intro _; exact .nil
        | cons a _ ih => intro mem; exact .cons ⟨mem _ (List.mem_cons_self ..), a⟩ (ih fun d hd => mem d (List.mem_cons_of_mem _ hd))
      exact go each
    refine sorted_asks (key := kSV s.heap) (lt := ltS) sordS hu pl.isList (by omega) (asksB (fun v hv => ?_) (each_same info2 each2 nd)) fun out a1 a2 => fin sordS (fun u d hd hr => (info u d hd hr).2) nd (by rw [← h]) out a1 a2
    obtain ⟨d, hd, r⟩ := each_right each v hv
    exact (info v d hd r).1
end
def dSorted (a : RV) (st : Store) : Option RV := match dSorted0 a st with
  | some r => some r
  | none => dSortP a st
section
variable {X : Cx} {cl : CT}
theorem cd_sorted (hcalm : X.calm = true) (hu : X.A.units + 64 < cLine) : CallR X (.builtin "sorted") (rPN X.K cl (g1 dSorted)) := by
  intro pins s σ H xs us Q I r h
  obtain ⟨ρ, st, as, H0, S, ra, q⟩ := h
  cases as with
  | nil => obtain ⟨c, h, _⟩ := q; cases h
  | cons a l =>
    cases l with
    | cons b l => obtain ⟨c, h, _⟩ := q; cases h
    | nil =>
      cases e : dSorted0 a st with
      | some c0 => exact cd_sorted0 (cl := cl) hcalm hu pins s σ H xs us Q I r ⟨ρ, st, [a], H0, S, ra, by
          have : g1 dSorted [a] st = g1 dSorted0 [a] st := by simp only [g1]; unfold dSorted; rw [e]
          rw [← this]; exact q⟩
      | none => exact cd_sortP (cl := cl) hu pins s σ H xs us Q I r ⟨ρ, st, [a], H0, S, ra, by
          have : g1 dSorted [a] st = g1 dSortP [a] st := by simp only [g1]; unfold dSorted; rw [e]
          rw [← this]; exact q⟩
end
end Ev

/-! ## Ev9p -/
set_option Elab.async false
set_option linter.all false
set_option maxRecDepth 100000
set_option maxHeartbeats 1000000
namespace Ev
open PySem PySem.Spec PyProof.Rows L2
abbrev lamBodyR (r q : Str) (p1 p2 p3 p4 p5 : Pos) (j : Nat) : Expr := .Tuple [.Subscript (.Name r p1) (.Name q p2) p3, .Name q p4] j p5
abbrev lamScopeR (r q : Str) : Scope := { kind := .function, names := [(q, .local), (r, .free)], isGenerator := false, isCoroutine := false }
def tupK (i : Int) (x : Str) : PyData := .tuple [.int i, .str x]
theorem dataLt_is (i j : Int) (x y : Str) : PySem.W.dataLt (tupK i x) (tupK j y) = ltA (i, x.cps.toList) (j, y.cps.toList) := by
  unfold tupK
  rw [PySem.W.dataLt_pair (by simp [PySem.W.alike]) (by simp [PySem.W.alike]), PySem.W.dataLt_int, PySem.W.dataLt_str]
  simp only [PyData.eqv, beq_iff_eq, ltA]
  by_cases h1 : i = j
  · subst h1
    by_cases h2 : x = y
    · subst h2; simp [List.lt_irrefl]
    · simp [h2]
  · simp [h1]
section
variable {prog : Program} {w : World} {A : Around} {s : Shared} {q r nm : Str} {pp p1 p2 p3 p4 p5 : Pos} {j : Nat} {cl : List (Str × Addr)} {pm ctv : Value} {c' f c d : Addr} {t : Tok} {x : Str} {i : Int}
theorem lamR_call (hr : A.depth < recursionLimit) (hlim : s.heap.NoLimit)
    (hf : s.heap.get? f = some (PySem.W.kla_obj "<lambda>" nm (lamArgs q pp) (lamBodyR r q p1 p2 p3 p4 p5 j) (lamScopeR r q) cl pm c' ctv)) (hc : s.heap.CodeRec (.ref c') nm)
    (hcl : cl.lookup r = some c) (hcell : s.heap.IsCell c (some (.ref d))) (hd : ∀ h : Heap, (∀ b o, s.heap.get? b = some o → h.get? b = some o) → ∀ (A : Around) (E : Value → Shared → Prop) (tk : Nat) (Q : Value → Shared → Prop), (∀ u tk2, Q (.int i u) { s with heap := h, toks := tk2 }) →
      ({ s with heap := h, toks := tk } : Shared).TypeIs (.ref d) "dict" ∧ wpAny (model prog w) A (getItem (.ref d) (.str x t)) Q E { s with heap := h, toks := tk })
    (nq : (q == ("__debug__" : Str)) = false) (nr : (r == ("__debug__" : Str)) = false) (nc : (r == ("__classdict__" : Str)) = false) (nqr : (r == q) = false) :
    wpAny (model prog w) A (call (.ref f) [.str x t]) (PySem.W.KeyPure (tupK i x) s) (fun _ _ => False) s := by
  refine wpAny_call (codeAny_mono (R := fun z s' => ∃ v, z = .ok (.ret v) ∧ PySem.W.KeyPure (tupK i x) s v s') ?_ fun z s' h => ?_)
  · refine PySem.W.kla_callFunE hr hf rfl rfl rfl rfl hc ?_
    refine wpAny_of_eq bind_lam ?_
    refine wpAny_newFunctionEnv (fun y hy => ?_) (fun y hy => ?_) (fun h₁ hns hsb => ⟨hlim.fresh _ hsb, ?_⟩) rfl
    · have : y = (q, NameKind.local) ∨ y = (r, NameKind.free) := by simpa using hy
      rcases this with e | e <;> (rw [e]; intro z; cases z)
    · have : y = (q, Value.str x t) := by simpa using hy
      rw [this]; simp [PySem.W.kla_fn, List.lookup]
    have kp : ∀ b o, s.heap.get? b = some o → h₁.get? b = some o := fun b o e => hsb.extBut b o (Nat.ne_of_lt (Heap.lt_size e)) (Heap.get?_push_of_some _ e)
    refine PySem.W.kla_codeExpr ?_
    have lv : ([(q, Value.str x t)].reverse.lookup q) = some (.str x t) := by simp [List.lookup]
    have lq : (lamScopeR r q).names.lookup q = some .local := by simp [List.lookup]
    have lr : (lamScopeR r q).names.lookup r = some .free := by simp [List.lookup, nqr]
    have cell1 : h₁.IsCell c (some (.ref d)) := by
      obtain ⟨o, ho, hdat⟩ := hcell
      exact ⟨o, kp _ _ ho, hdat⟩
    refine wpAny_Tuple (Calls.spliced_cons (subD_of PySem.F.slot_dict_getitem.lookup (fun _ _ => rfl) (wpAny_Name (wpAny_loadName_free rfl (by show (lamScopeR r q).names.lookup r = _; exact lr) hcl cell1 ?_ nc) nr)))
    refine wpAny_Name (wpAny_loadName_local rfl (by show (lamScopeR r q).names.lookup q = _; exact lq) hns lv ?_) nq
    refine hd h₁ kp _ _ _ _ fun u tk2 => ?_
    refine Calls.spliced_cons (wpAny_Name (wpAny_loadName_local rfl (by show (lamScopeR r q).names.lookup q = _; exact lq) hns lv ?_) nq)
    refine Calls.spliced_nil ⟨by show 2 ≤ sizeLine; decide, _, rfl, _, _, rfl, fun b o e => Heap.get?_push_of_some _ (kp b o e), ?_⟩
    exact .tuple (as := []) (Heap.get?_push_size _ rfl) rfl rfl (.cons (as := []) (.int _ _) (.cons (as := []) (.str _ _) .nil))
  · obtain ⟨v, rfl, h⟩ := h
    exact h
end
section
variable {prog : Program} {w : World} {A : Around} {E : Value → Shared → Prop} {s : Shared} {β : Type} {R : Value → β → Prop}
theorem col_sortedK {l f : Addr} {bs : List β} {k : β → PyData} {G : Value → Shared → Prop}
    (col : ∀ (E' : Value → Shared → Prop) (Q' : List Value → Shared → Prop), (∀ (us : List Value) (g : Heap) (t : Nat), (∀ b o, s.heap.get? b = some o → g.get? b = some o) → PySem.W.EachIs R us bs → us.length ≤ sizeLine → Q' us { s with heap := g, toks := t }) → wpAny (model prog w) A.in1 (collect (.ref l)) Q' E' s)
    (al : PySem.W.AllAlike (bs.map k)) (so : PySem.W.Sortable (bs.map k)) (hu : ∀ x ∈ bs, A.units + 2 + (k x).depth < cLine)
    (turn : ∀ (v : Value) (x : β), R v x → x ∈ bs → ∀ (h : Heap) (tk : Nat), (∀ b o, s.heap.get? b = some o → h.get? b = some o) → wpAny (model prog w) A.in1.in1 (call (.ref f) [v]) (PySem.W.KeyPure (k x) { s with heap := h, toks := tk }) (fun _ _ => False) { s with heap := h, toks := tk })
    (fin : ∀ g1 : Heap, (∀ b o, s.heap.get? b = some o → g1.get? b = some o) → ∀ (g : Heap) (tk : Nat) (out : List Value) (m : Nat), (∀ b o, g1.get? b = some o → g.get? b = some o) → g.get? g1.objs.size = some (seqObj "list" out.toArray m) → out.length = bs.length →
      PySem.W.EachIs R out (bs.mergeSort (PySem.W.dataLe false k)) → out.length ≤ sizeLine → G (.ref g1.objs.size) { s with heap := g, toks := tk }) :
    wpAny (model prog w) A (call (.builtin "sorted") [.ref l] [(Str.ofString "key", .ref f)]) G E s := by
  refine call_function_entry_kw kind_sorted plain_sorted entry_sorted (ksk_s1 _ _) ?_
  unfold Builtin.«sorted»
  refine wpAny_bind (m := checkCount "sorted" 1 1 _) (wpAny_pure ?_)
  refine wpAny_bind (col _ _ fun us g1 t1 keep1 e zu => ?_)
  refine wpAny_bind (wpAny_newList (s := { s with heap := g1, toks := t1 }) ?_ zu)
  have at2 : (g1.push (seqObj "list" us.toArray 0)).get? g1.objs.size = some (seqObj "list" us.toArray 0) := Heap.get?_push_size _ rfl
  have up : ∀ {g : Heap}, PySem.W.KeepsBut g1.objs.size (g1.push (seqObj "list" us.toArray 0)) g → ∀ b o, g1.get? b = some o → g.get? b = some o := fun {g} kp b o q => kp b o (Nat.ne_of_lt (Heap.lt_size q)) (Heap.get?_push_of_some _ q)
  refine wpAny_bind (wpAny_holding (wpAny_call_entry_kw slot_list_sort ⟨_, at2, rfl⟩ entry_list_sort ?_ (ksk_l1 _ _)))
  rw [ksk_t1]
  refine PySem.W.keyH_tree (kz := bs.map k) (s := { s with heap := g1.push (seqObj "list" us.toArray 0), toks := t1 }) at2 (by rw [List.length_map]; exact e.length.symm) zu al so (PySem.W.bound_map (A := A.in1.in1) hu)
    (PySem.W.keyH_turns (s := { s with heap := g1.push (seqObj "list" us.toArray 0), toks := t1 }) e fun v x hR hx h tk kp => turn v x hR hx h tk fun b o q => up kp b o (keep1 b o q)) fun h' tk out m kp hD ko => ?_
  have ol : out.length = us.length := ko.length (by rw [List.length_map]; exact e.length.symm)
  refine ⟨_, rfl, wpAny_pure ⟨_, rfl, ?_⟩⟩
  exact fin g1 keep1 h' tk out m (up kp) hD (ol.trans e.length) (PySem.W.keyedOut_each k ko e) (by rw [ol]; exact zu)
end
noncomputable def rkD (rs : List (D × D)) (x : List Nat) : Option Int := match dvV rs (.str x) with
  | some (.int i) => some i
  | _ => none
noncomputable def rkK (rs : List (D × D)) (x : List Nat) : Int × List Nat := ((rkD rs x).getD 0, x)
noncomputable def eSortR (i : Nat) (fa : SEnv → Store → R RV) : SEnv → Store → R RV := fun env st => (fa env st).bind fun a st1 => match a, env[i]? with
  | .v (.ref m), some (some (.ref n)) => match kvO st1[m]?, kvO st1[n]? with
    | some ks, some rs => match strsOf (ks.map (·.1)) with
      | some ns => if ns.all (fun x => (rkD rs x).isSome) = true then .ok (.t ((ns.mergeSort fun a b => !ltA (rkK rs b) (rkK rs a)).map .str)) st1 else .bad
      | none => .bad
    | _, _ => .bad
  | _, _ => .bad
theorem each_strs : ∀ {us : List Value} {ns : List (List Nat)}, PySem.W.EachIs (fun u x => ∃ t, u = Value.str ⟨x.toArray⟩ t) us ns → ∃ vs, Vals vs us ∧ vs = ns.map fun x => V.str ⟨x.toArray⟩
  | _, _, .nil => ⟨[], .nil, rfl⟩
  | _, _, .cons h t => by
    obtain ⟨vs, h1, h2⟩ := each_strs t
    obtain ⟨u, rfl⟩ := h
    exact ⟨_, .cons (show RelV (V.str _) (Value.str _ u) from ⟨u, rfl⟩) h1, by rw [h2]; rfl⟩
theorem each_of : ∀ {us : List Value} {ns : List (List Nat)}, us.length = ns.length → (∀ (j : Nat) (v : Value), us[j]? = some v → ∃ (x : List Nat) (t : Tok), ns[j]? = some x ∧ v = Value.str ⟨x.toArray⟩ t) → PySem.W.EachIs (fun u x => ∃ t, u = Value.str ⟨x.toArray⟩ t) us ns
  | [], [], _, _ => .nil
  | u :: us, n :: ns, hl, h => by
    obtain ⟨x, t, e1, e2⟩ := h 0 u rfl
    have e1 : n = x := by simpa using e1
    subst e1
    exact .cons ⟨t, e2⟩ (each_of (by simpa using hl) fun j v e => h (j + 1) v (by simpa using e))
  | [], _ :: _, hl, _ => by simp at hl
  | _ :: _, [], hl, _ => by simp at hl
theorem strs_rdsM {K : PySem.W.Frag} {ρ : List Addr} {H : Hp} : ∀ ns : List (List Nat), RDs K ρ H (ns.map .str) (ns.map fun x => V.str ⟨x.toArray⟩)
  | [] => rfl
  | x :: ns => ⟨_, _, rfl, rfl, strs_rdsM ns⟩
section
variable {X : Cx} {cl : CT}
theorem de_sortR {W : WX} {k i : Nat} {e : Expr} {fa : SEnv → Store → R RV} {p lpos kp pos pp p1 p2 p3 p4 p5 : Pos} {j : Nat} {q r : Str} {c P : Addr} (hcalm : X.calm = true) (gm : Gl X "sorted") (mm : X.mg "sorted" = none) (ha : PE X e (tF X.K cl W fa)) (ns : ∀ es, starEach (e :: es) X.env = (false, eval e X.env) :: starEach es X.env)
    (tb : LamX.TabB X.base X.mg c P) (ec : X.env.code = .ref c) (inT : (P, X.env.qual ++ "<lambda>") ∈ cl.tabs) (un1 : ∀ z ∈ cl.tabs, z.1 = P → z.2 = X.env.qual ++ "<lambda>") (hr : Room k X.A)
    (hi : X.N[i]? = some r) (hcell : X.env.scope.names.lookup r = some .cell) (nq : (q == ("__debug__" : Str)) = false) (nr : (r == ("__debug__" : Str)) = false) (nc : (r == ("__classdict__" : Str)) = false) (nqr : (r == q) = false) :
    PE X (.Call (.Name "sorted" p) [e] [⟨some "key", .Lambda (lamArgs q pp) (lamBodyR r q p1 p2 p3 p4 p5 j) (lamScopeR r q) lpos, kp⟩] pos) (tF X.K cl W (eSortR i fa)) := by
  refine ⟨fun pins s σ H Q I h => ?_⟩
  obtain ⟨ρ, env, st, S, E, P0⟩ := h
  unfold eSortR at P0
  have hA := pa_cons ha pa_nil (ns [])
  refine wpAny_Call_Name_kw (ld_blt I gm mm boot_sorted ?_)
  refine PyProof.Rows.callWith_kw (e := e) (rest := []) ?_ (by rw [ns]; rfl) (by rw [ns]; rfl) rfl rfl
  refine thn (hA.run pos pins s σ H (fun vs H1 => ∃ x ρ1 st1 m n ks rs nn, vs = [x] ∧ Ext ρ H ρ1 H1 ∧ RS X.K ρ1 H1 cl st1 ∧ x = .ref m ∧ RE X.K ρ1 H1 σ env ∧ (∃ mi : Nat, ρ1[mi]? = some m ∧ kvO st1[mi]? = some ks) ∧ env[i]? = some (some (.ref n)) ∧ kvO st1[n]? = some rs ∧ strsOf (ks.map (·.1)) = some nn ∧ nn.all (fun x => (rkD rs x).isSome) = true ∧
      Post X.K cl W σ (relV X.K) ρ1 H1 (.ok (.t ((nn.mergeSort fun a b => !ltA (rkK rs b) (rkK rs a)).map .str)) st1) Q) I ?_) fun us s1 ⟨vs, H1, I1, r1, q1⟩ => ?_
  · refine ⟨ρ, env, st, S, E, (Post.bind backV P0).mono ?_⟩
    rintro x H1 ⟨ρ1, st1, a, x1, S1, r1, P1⟩
    split at P1
    rotate_left
    · exact P1.elim
    rename_i m n en
    split at P1
    rotate_left
    · exact P1.elim
    rename_i ks rs e1 e2
    split at P1
    rotate_left
    · exact P1.elim
    rename_i nn e3
    split at P1
    rotate_left
    · exact P1.elim
    rename_i e4
    obtain ⟨a, rfl, ha⟩ := r1
    exact ⟨_, ρ1, st1, a, n, ks, rs, nn, rfl, x1, S1, rfl, E.mono (x1.mono S), ⟨m, ha, e1⟩, en, e2, e3, e4, P1⟩
  obtain ⟨_, ρ1, st1, m, n, ks, rs, nn, rfl, x1, S1, rfl, E1, ⟨mi, hmi, e1⟩, en, e2, e3, e4, P1⟩ := q1
  obtain ⟨u, rfl, rx⟩ := vals1 r1
  cases rx
  show wpAny _ _ (evalAll [do let v ← eval (.Lambda (lamArgs q pp) (lamBodyR r q p1 p2 p3 p4 p5 j) (lamScopeR r q) lpos) X.env; standAt pos; pure v]) _ _ s1
  refine wpAny_evalAll_cons (wpAny_bind (lam_mk (T := cl.tabs) rfl I1 tb ec inT un1 S1.tab rfl (fun y hy hf => ?_) fun f cd pm ctv H2 s2 I2 g t2 hf hcr => wpAny_bind (wpAny_standAt (wpAny_pure (wpAny_evalAll_nil ?_)))))
  · have : y = (q, NameKind.local) ∨ y = (r, NameKind.free) := by simpa using hy
    rcases this with z | z
    · rw [z] at hf; cases hf
    · rw [z]; exact I1.ok.has r (.inl hcell)
  obtain ⟨S2, x2⟩ := S1.tabG g t2
  have P2 := Post.from backV S2 x2 P1
  have E2 := E1.mono (x2.mono S1)
  obtain ⟨vs1, d1, k1⟩ := kvO_ok S2 hmi e1
  obtain ⟨dv, hsv, hdv⟩ := E2.at_ i _ en
  obtain ⟨da, rfl, hda⟩ := hdv
  obtain ⟨vs2, d2, k2⟩ := kvO_ok S2 hda e2
  -- where the lambda finds the dict
  obtain ⟨mm2, hns, look⟩ := I2.loc
  obtain ⟨uv, ru, hlook⟩ := look i r _ hi hsv (.inr (.inl hcell))
  have ru : uv = Value.ref da := ru
  subst ru
  obtain ⟨cc, hcc, hcv⟩ : ∃ cc, X.env.cells.lookup r = some cc ∧ s2.heap.IsCell cc (some (.ref da)) := by
    rcases hlook with ⟨z, _⟩ | ⟨_, z⟩
    · rw [show X.env.kindOf r = some .cell from hcell] at z; cases z
    · exact z
  have clo : (cloFrom X.env.cells (lamScopeR r q).names []).lookup r = some cc := by
    have : cloFrom X.env.cells (lamScopeR r q).names [] = [(r, (X.env.cells.lookup r).getD 0)] := rfl
    rw [this, hcc]
    simp [List.lookup]
  obtain ⟨z1, lo1, ws1, rel1, dd1⟩ := dk_rd I2.hok d1
  obtain ⟨z2, lo2, ws2, rel2, dd2⟩ := dk_rd I2.hok d2
  have hkeys := keys_strs k1 e3
  have hkeys2 : ws1.map (·.1) = (nn.map fun p => (⟨p.toArray⟩ : Str)).map Sum.inr := rel1.keys.symm.trans hkeys
  have hl : ws1.length = nn.length := by simpa using congrArg List.length hkeys2
  have h16 : ws1.length ≤ sizeLine := by
    have a1 := k1.len
    rw [← rel1.length]; exact z1
  obtain ⟨ep, hat⟩ := dd1.dictAt
  have un := hr.un
  have rank : ∀ x ∈ nn, ∃ iv, rkD rs x = some iv ∧ dvV rs (.str x) = some (.int iv) := fun x hx => by
    have := (List.all_eq_true.mp e4) x hx
    unfold rkD at this ⊢
    split at this
    · rename_i iv ev
      exact ⟨iv, rfl, ev⟩
    · cases this
  refine col_sortedK (R := fun u x => ∃ t, u = Value.str ⟨x.toArray⟩ t) (bs := nn) (k := fun x => tupK ((rkD rs x).getD 0) ⟨x.toArray⟩) (fun E' Q' hQ' => ?_) (fun a ha b hb => ?_) (.inl fun a ha => ?_) (fun x hx => ?_) (fun v x hR hx h tk keep => ?_) fun g1 keep1 g tk out mo keep at_ len eo zo => ?_
  · refine PySem.W.kdu_collect (A := X.A.in1) (PySem.W.kdl_dict (knd := mixKind X.prog X.w) (kvs := ws1) (ep := ep) lo1) (I2.ok.hd hcalm) hat h16 fun h' tk acc hk hacc => ?_
    have hal : acc.toList.length = nn.length := by rw [Array.length_toList, hacc.1, hl]
    refine hQ' acc.toList h' tk hk (each_of hal fun jj v ev => ?_) (by rw [hal, ← hl]; exact h16)
    obtain ⟨kk, xx, q1, q2⟩ := hacc.2 jj v (by rw [← Array.getElem?_toList]; exact ev)
    have q3 : (ws1.map (·.1))[jj]? = some kk := by rw [List.getElem?_map, q1]; rfl
    rw [hkeys2, List.getElem?_map, List.getElem?_map] at q3
    cases q4 : nn[jj]? with
    | none => rw [q4] at q3; cases q3
    | some y =>
      rw [q4] at q3
      have q5 : Sum.inr (⟨y.toArray⟩ : Str) = kk := Option.some.inj q3
      subst q5
      obtain ⟨t, ev2⟩ := Value.isStrOf_shape (x := ⟨y.toArray⟩) (v := v) q2
      exact ⟨y, t, rfl, ev2⟩
  · obtain ⟨y, _, rfl⟩ := List.mem_map.mp ha
    obtain ⟨y', _, rfl⟩ := List.mem_map.mp hb
    simp [tupK, PySem.W.alike, PySem.W.alikeAll]
  · obtain ⟨y, _, rfl⟩ := List.mem_map.mp ha
    exact ⟨_, _, rfl⟩
  · have : (tupK ((rkD rs x).getD 0) ⟨x.toArray⟩).depth ≤ 1 := by simp [tupK, PyData.depth, PyData.depthAll]
    omega
  · obtain ⟨t, rfl⟩ := hR
    obtain ⟨iv, r1, r2⟩ := rank x hx
    obtain ⟨v1, w1, w2⟩ := (k2.val (RKey.str x)).1 r2
    have w2 : v1 = V.int iv := w2
    subst w2
    obtain ⟨wv, hw, rw'⟩ := RelO.some_of (v := V.int iv) (o := valueAt ws2 (Sum.inr ⟨x.toArray⟩)) (by rw [← w1]; exact rel2.val _)
    obtain ⟨tw, rfl⟩ := rw'
    have r3 : (rkD rs x).getD 0 = iv := by rw [r1]; rfl
    show wpAny _ _ _ (PySem.W.KeyPure (tupK ((rkD rs x).getD 0) ⟨x.toArray⟩) _) _ _
    rw [r3]
    refine lamR_call (s := { s2 with heap := h, toks := tk }) (d := da) (c := cc) hr.depth (I2.nolimit.keeps keep) (keep _ _ hf) ?_ clo ?_ (fun h2 kp2 A' E' tk2 Q' hQ' => ?_) nq nr nc nqr
    · obtain ⟨c2, oc, vs3, t3, y0, y1, y2, y3⟩ := hcr
      exact ⟨c2, oc, vs3, t3, y0, keep _ _ y1, y2, y3⟩
    · obtain ⟨oc, y1, y2⟩ := hcv
      exact ⟨oc, keep _ _ y1, y2⟩
    · have dd3 := dd2.keep (h' := h2) fun b o y => kp2 b o (keep b o y)
      exact ⟨dd3.mapOf.typeIs, wpAny_getItem_of (kV_is (k := Sum.inr ⟨x.toArray⟩) (show RelV (V.str ⟨x.toArray⟩) (Value.str ⟨x.toArray⟩ t) from ⟨t, rfl⟩)) dd3.mapOf hw (hQ' tw _)⟩
  · have le : PySem.W.dataLe false (fun x => tupK ((rkD rs x).getD 0) ⟨x.toArray⟩) = fun a b => !ltA (rkK rs b) (rkK rs a) := by
      funext a b
      show (!PySem.W.dataLt _ _) = _
      rw [dataLt_is]
      rfl
    rw [le] at eo
    obtain ⟨ws, hv1, hv2⟩ := each_strs eo
    have J : Inv X pins σ H2 { s2 with heap := g1 } := I2.kept (t' := s2.toks) keep1
    have fr : H2 g1.objs.size = none := J.hok.fresh (Nat.le_refl _)
    have hlen : ws.length ≤ sizeLine := by rw [hv1.length]; exact zo
    refine ⟨.ref g1.objs.size, upd H2 g1.objs.size (.lst ws), J.laid (t' := tk) keep (Nat.le_refl _) ⟨hlen, out, mo, hv1, at_⟩, rfl, ?_⟩
    rw [hv2]
    exact fin_new S2 P2 (strs_rdsM _) fr
end
end Ev

/-! ## Ev9q -/
set_option Elab.async false
set_option linter.all false
set_option maxRecDepth 100000
set_option maxHeartbeats 1000000
/-! Ev9q: CONST[key], CONST a module-level written dict whose keys are texts. -/
namespace Ev
open PySem PySem.Spec PyProof.Rows L2
def dCIx (tab : Tab) (a : RV) (_ : Store) : Option RV := match a with
  | .v (.str s) => match tab.lookup s with
    | some (some d) => some (.v d)
    | _ => none
  | _ => none
theorem pe_kix {X : Cx} {o e : Expr} {d : Addr} {es : Array DictEntry} {n : Nat} {ro te : TE} {pos : Pos} (K1 : KDict X.K X.w d es n) (ho : PE X o ro) (he : PE X e te) (hs : NoSl e) :
    PE X (.Subscript o e pos) fun σ H Q => ro σ H fun x H1 => x = .ref d ∧ te σ H1 fun y H2 => ∃ (k : Str) (u : Value) (v : V), y = .str k ∧ PySem.W.nsIn X.K d k = some (some u) ∧ RelV v u ∧ Q v H2 := by
  refine ⟨fun pins s σ H Q I h => ?_⟩
  refine subD_of PySem.F.slot_dict_getitem.lookup hs (thn (ho.run pins s σ H _ I h) fun u0 s1 ⟨x, H1, I1, rx, ex, q1⟩ => ?_)
  subst ex
  obtain rfl : u0 = Value.ref d := rx
  refine thn (he.run pins s1 σ H1 _ I1 q1) fun u1 s2 ⟨y, H2, I2, ry, k, u, v, ey, hk, rv, q2⟩ => ?_
  subst ey
  obtain ⟨t, rfl⟩ := (show ∃ t, u1 = Value.str k t from ry)
  have mo := PySem.W.mapOf_K (prog := X.prog) (w := X.w) I2.kIn K1.at_ K1.lit
  exact ⟨mo.typeIs, wpAny_getItem_of (strKind_is X.prog X.w k t) mo (PySem.W.find_K K1.at_ hk) ⟨v, H2, I2.tok _, rv, q2⟩⟩
theorem de_cix {X : Cx} {cl : CT} {W : WX} {x : Str} {tab : Tab} {e : Expr} {fa : SEnv → Store → R RV} {p pos : Pos} (hg : Gl X x) (T : DctF X.K X.w X.mg x tab) (he : PE X e (tF X.K cl W fa)) (hs : NoSl e) :
    PE X (.Subscript (.Name x p) e pos) (tF X.K cl W (e1 (dCIx tab) fa)) := by
  obtain ⟨a, es, n, hm, K1, hk⟩ := T.ex
  have hN : PE X (.Name x p) (tC (.ref a)) := pe_glob hg hm rfl T.nd
  refine PEw (pe_kix K1 hN he hs) fun σ H Q ⟨ρ, env, st, S, E, P⟩ => ⟨rfl, ρ, env, st, S, E, (Post.bind backV P).mono ?_⟩
  rintro y H1 ⟨ρ1, st1, u, x1, S1, r1, P1⟩
  obtain ⟨c, hc, q⟩ := P1.prim
  unfold dCIx at hc
  split at hc
  · rename_i s
    have r1 : y = .str ⟨s.toArray⟩ := r1
    subst r1
    split at hc
    · rename_i d hl
      cases hc
      obtain ⟨w, v, h1, h2, h3⟩ := hk s _ hl
      exact ⟨_, w, v, rfl, h1, h2, q ρ1 H1 v (Ext.refl _ _) S1 (h3 _ _)⟩
    · cases hc
  · cases hc
/-! ### CONST.index(text), CONST a module-level tuple of texts -/
def dTIdx (l : List D) (a : RV) (_ : Store) : Option RV := match a with
  | .v (.str z) => match strsOf l with
    | some ns => (ns.findIdx? fun y => decide (y = z)).map fun j => .v (.int (j : Int))
    | none => none
  | _ => none
/-- what is known of such a tuple -/
structure IdxF (K : PySem.W.Frag) (mg : Str → Option Value) (x : Str) : Prop where
  ex : ∃ (p : Addr) (o : Obj), mg x = some (.ref p) ∧ K.lookup p = some o ∧ o.cls = .type "tuple" ∧ o.dict = none
theorem de_tidx {X : Cx} {cl : CT} {W : WX} {x : Str} {l : List D} {e : Expr} {fa : SEnv → Store → R RV} {p apos cpos : Pos} (hg : Gl X x) (nd : (x == ("__debug__" : Str)) = false) (i : IdxF X.K X.mg x) (hc : ∃ v u, X.mg x = some u ∧ RelV v u ∧ ∀ ρ H, RD X.K ρ H (.tup l) v)
    (he : PE X e (tF X.K cl W fa)) (hbase : attributeBase (.Name x p) "index" X.env (eval (.Name x p) X.env) = eval (.Name x p) X.env)
    (hfew : ((backTo cpos (starEach (e :: []) X.env)).all (fun x => !x.1) && (backToKw cpos (keywordEach [] X.env)).all (fun x => x.1.isSome)
      && decide ((e :: []).length + ([] : List Keyword).length + (if ([] : List Keyword).isEmpty then 0 else 1) < 30)) = true)
    (hline : (apos.endLine == cpos.line) = true) (hs : starEach (e :: []) X.env = (false, eval e X.env) :: starEach [] X.env) (hpl : (backTo cpos (starEach [] X.env)).any (·.1) = false) :
    PE X (.Call (.Attribute (.Name x p) "index" apos) [e] [] cpos) (tF X.K cl W (e1 (dTIdx l) fa)) := by
  obtain ⟨a, o, hm, hk, hcls, hdn⟩ := i.ex
  have hN : PE X (.Name x p) (tC (.ref a)) := pe_glob hg hm rfl nd
  refine PEw (pe_bm PySem.F.plainAttrs_tuple PySem.F.slot_tuple_index PySem.F.type_tuple_index mt_tup_index hN (db_cons he db_nil hs) hbase hfew hline hs hpl) fun σ H Q ⟨ρ, env, st, S, E, P⟩ => ⟨.inr (.inl ⟨rfl, o, hk, hcls, hdn⟩), ρ, env, st, S, E, ?_⟩
  cases hf : fa env st with
  | bad =>
    have P2 : Post X.K cl W σ (relV X.K) ρ H ((fa env st).bind _) _ := P
    rw [hf] at P2; exact P2.elim
  | exc x2 st2 =>
    have P2 : Post X.K cl W σ (relV X.K) ρ H ((fa env st).bind _) _ := P
    rw [hf] at P2
    show Post X.K cl W σ (relR X.K) ρ H ((fa env st).bind _) _
    rw [hf]; exact P2
  | ok b st2 =>
    have P2 : Post X.K cl W σ (relV X.K) ρ H ((fa env st).bind _) _ := P
    rw [hf] at P2
    show Post X.K cl W σ (relR X.K) ρ H ((fa env st).bind _) _
    rw [hf]
    intro ρ2 H2 xs x2 S2 r2
    obtain ⟨v, r', rfl, r2, rn⟩ := r2
    have : r' = [] := rn
    subst this
    have P3 := Post.from backV S2 x2 P2
    simp only [R.bind_ok] at P3
    obtain ⟨c, hc2, q⟩ := P3.prim
    unfold dTIdx at hc2
    split at hc2
    · rename_i z
      split at hc2
      · rename_i ns hns
        cases hfi : ns.findIdx? fun y => decide (y = z) with
        | none => rw [hfi] at hc2; cases hc2
        | some j =>
          rw [hfi] at hc2
          cases hc2
          obtain ⟨v0, u0, m0, rv0, rd0⟩ := hc
          rw [hm] at m0
          cases m0
          obtain ⟨a', vs, e0, sq, rds⟩ := rd0 ρ2 H2
          subst e0
          cases rv0
          rw [strs_rds rds hns] at sq
          have r2 : v = .str ⟨z.toArray⟩ := r2
          subst r2
          obtain ⟨hj, h1, h2⟩ := List.findIdx?_eq_some_iff_getElem.mp hfi
          have hz : ns[j] = z := of_decide_eq_true h1
          refine ⟨_, ns.map fun y => ⟨y.toArray⟩, ⟨z.toArray⟩, j, rfl, rfl, sq, ?_, fun m hm2 he2 => ?_, q ρ2 H2 _ (Ext.refl _ _) S2 rfl⟩
          · rw [List.getElem?_map, List.getElem?_eq_getElem hj, hz]; rfl
          · rw [List.getElem?_map, List.getElem?_eq_getElem (show m < ns.length by omega)] at he2
            have he3 : (⟨(ns[m]).toArray⟩ : Str) = ⟨z.toArray⟩ := Option.some.inj he2
            have : ns[m] = z := by
              injection he3 with he3
              simpa using he3
            exact absurd (decide_eq_true this) (by simpa using h2 m hm2)
      · cases hc2
    · cases hc2
end Ev

/-! ## Ev9u -/
set_option Elab.async false
set_option linter.all false
set_option maxRecDepth 100000
/-! Ev9u: o.f, o.g, .. = e (fields of a variable's object, out of a tuple). -/
namespace Ev
open PySem PySem.Spec PyProof.Rows L2
/-- o.f as a target -/
def gFldT (K : PySem.W.Frag) (to : TE) (f : Str) : TG := fun v σ H Q => to σ H fun x H1 => ∃ a C dx fs, x = .ref a ∧ H1 a = some (.ins C dx fs) ∧ Cls K C ∧ NoAttr K C f ∧ fs.length < 1000 ∧ Q σ (upd H1 a (.ins C dx (putF f v fs)))
theorem pg_fld {X : Cx} {o : Expr} {f : Str} {pos : Pos} {to : TE} (ho : PE X o to) : PG X (.Attribute o f pos) (gFldT X.K to f) := by
  refine ⟨fun pins s σ H v u Q I r h => ?_⟩
  rw [assign_Attribute]
  refine wpAny_bind (wpAny_holding (thn (ho.run pins s σ H _ I h) fun ov s1 ⟨x, H1, I1, r1, a, C, dx, fs, ex, ea, c, n, l, q⟩ => ?_))
  subst ex
  obtain rfl : ov = Value.ref a := r1
  refine wpAny_bind (wpAny_standAt (wpAny_bind (wpAny_holding (setattr_ok I1 ea c n l r fun s3 I3 => ?_))))
  exact wpAny_release ⟨σ, _, I3, q⟩
def gFs (K : PySem.W.Frag) (to : TE) : List Str → TGs
  | [] => gNil
  | f :: r => gCons (gFldT K to f) (gFs K to r)
/-- the fields of o.f, o.g, .. -/
def unpFs (x : Str) : List Expr → Option (List Str)
  | [] => some []
  | .Attribute (.Name y _) f _ :: r => if y = x then (match unpFs x r with
    | some l => some (f :: l)
    | none => none) else none
  | _ => none
def unpX : List Expr → Option Str
  | .Attribute (.Name y _) _ _ :: _ => some y
  | _ => none
theorem unp_gs {X : Cx} {x : Str} {to : TE} (ho : ∀ p, PE X (.Name x p) to) : ∀ {es : List Expr} {fl : List Str}, unpFs x es = some fl → PGs X es (gFs X.K to fl) ∧ (assignEach es X.env).length = fl.length ∧ (assignEach es X.env).findIdx? (·.1) = none
  | [], fl, h => by
    cases h
    exact ⟨pgs_nil, rfl, rfl⟩
  | e :: es, fl, h => by
    cases e with
    | Attribute o f p =>
      cases o with
      | Name y q =>
        simp only [unpFs] at h
        split at h
        · rename_i hy
          subst hy
          split at h
          · rename_i l hl
            cases h
            obtain ⟨a, b, c⟩ := unp_gs ho hl
            refine ⟨pgs_cons (pg_fld (ho q)) a rfl, congrArg (· + 1) b, ?_⟩
            show ((false, assign (.Attribute (.Name y q) f p) X.env) :: assignEach es X.env).findIdx? (·.1) = none
            rw [List.findIdx?_cons]
            simp only [Bool.false_eq_true, if_false, c]
            rfl
          · cases h
        · cases h
      | _ => cases h
    | _ => cases h
def putAll : List Str → List D → List (Str × D) → List (Str × D)
  | f :: fs, d :: ds, l => putAll fs ds (putFd f d l)
  | _, _, l => l
/-- o.f, o.g, .. = e -/
noncomputable def sUnp (tab : FTab) (j : Nat) (fl : List Str) (fa : SEnv → Store → R RV) : SS := fun env st => (fa env st).toS env fun a st1 => (mat a st1).toS env fun d st2 => match d with
  | .tup l => match env[j]? with
    | some (some (.ref n)) => match st2[n]? with
      | some (.ins c fs) => if l.length = fl.length ∧ (∀ f ∈ fl, ftOk tab c f = true) ∧ fs.length + fl.length < 1000 then .nx env (st2.set n (.ins c (putAll fl l fs))) else .bad
      | _ => .bad
    | _ => .bad
  | _ => .bad
theorem putFd_len (f : Str) (v : D) : ∀ l : List (Str × D), (putFd f v l).length ≤ l.length + 1
  | [] => by simp [putFd]
  | (g, u) :: r => by
    unfold putFd
    have := putFd_len f v r
    split <;> simp <;> omega
section
variable {X : Cx} {cl : CT} {W : WX} {tab : FTab} {fa : SEnv → Store → R RV}
theorem gFs_ok {K : PySem.W.Frag} {j n : Nat} {c : Str} (hF : FldF K cl tab) : ∀ (fl : List Str) (l : List D) (vs : List V) {ρ : List Addr} {H : Hp} {st : Store} {env : SEnv} {σ : L2.St} {fs : List (Str × D)} {Q : L2.St → Hp → Prop}, RS K ρ H cl st → RE K ρ H σ env → RDs K ρ H l vs → env[j]? = some (some (.ref n)) → st[n]? = some (.ins c fs) →
    l.length = fl.length → (∀ f ∈ fl, ftOk tab c f = true) → fs.length + fl.length < 1000 → (∀ H', Ext ρ H ρ H' → RS K ρ H' cl (st.set n (.ins c (putAll fl l fs))) → RE K ρ H' σ env → Q σ H') → gFs K (tVar j) fl vs σ H Q
  | [], l, vs, ρ, H, st, env, σ, fs, Q, S, E, r, he, hs, hl, _, _, q => by
    have : l = [] := List.length_eq_zero_iff.mp hl
    subst this
    have : vs = [] := r
    subst this
    refine ⟨rfl, q H (Ext.refl _ _) ?_ E⟩
    have : st.set n (.ins c (putAll [] [] fs)) = st := by
      apply List.ext_getElem?
      intro i
      rw [List.getElem?_set]
      split
      · rename_i h
        subst h
        have := (List.getElem?_eq_some_iff.mp hs).1
        rw [if_pos this, hs]
        rfl
      · rfl
    rw [this]
    exact S
  | f :: fl, l, vs, ρ, H, st, env, σ, fs, Q, S, E, r, he, hs, hl, hf, hb, q => by
    cases l with
    | nil => cases hl
    | cons d l =>
      obtain ⟨v, vr, rfl, h1, h2⟩ := r
      obtain ⟨w, hw, rw_⟩ := E.at_ j _ he
      obtain ⟨p, rfl, hp⟩ := rw_
      obtain ⟨C, dx, us, g1, g2, g3⟩ := S.at_ _ _ _ hs hp
      have hC := hF.ok c f (hf f (List.mem_cons_self ..)) C g1
      have x6 : Ext ρ H ρ (upd H p (.ins C dx (putF f v us))) := Ext.put (List.mem_of_getElem? hp) g2 (fun _ _ z => by cases z)
      have m6 := x6.mono S
      have hlen : n < st.length := (List.getElem?_eq_some_iff.mp hs).1
      refine ⟨_, vr, rfl, _, hw, p, C, dx, us, rfl, g2, hC.1, hC.2, by rw [← g3.length]; simp only [List.length_cons] at hb; omega, ?_⟩
      have S3 : RS K ρ _ cl (st.set n (.ins c (putFd f d fs))) := S.put hp ⟨C, dx, _, g1, upd_same, RFs.mono m6 _ _ (g3.put h1)⟩
      refine gFs_ok (fs := putFd f d fs) hF fl l vr S3 (E.mono m6) (RDs.mono m6 _ _ h2) he (List.getElem?_set_self hlen) (by simpa using hl) (fun g hg => hf g (List.mem_cons_of_mem _ hg)) (by have := putFd_len f d fs; simp only [List.length_cons] at hb; omega) fun H' x' S' E' => q H' (x6.trans x') ?_ E'
      rw [List.set_set] at S'
      exact S'
theorem ds_unp {x : Str} {e : Expr} {es : List Expr} {fl : List Str} {j kk : Nat} {pt pos : Pos} (hc : X.calm = true) (hF : FldF X.K cl tab) (ho : ∀ p, PE X (.Name x p) (tVar j)) (hfl : unpFs x es = some fl) (he : PE X e (tF X.K cl W fa))
    (hs : swapsWithSole [.Tuple es kk pt] e pos.line X.env = pure false) (hw : swappedStores [.Tuple es kk pt] e X.env = pure none) : PS X (.Assign [.Tuple es kk pt] e pos) (tS X.K cl W (sUnp tab j fl fa)) := by
  obtain ⟨a, b, c⟩ := unp_gs ho hfl
  refine PSw (ps_asg he (pg_tup hc a b c) hs hw rfl) fun D σ H ⟨ρ, env, st, S, E, P⟩ => ?_
  refine ⟨ρ, env, st, S, E, (PostS.toS (rel := relV X.K) S E P).mono ?_⟩
  rintro y H1 ⟨ρ1, st1, u, x1, S1, r1, P1⟩
  obtain ⟨d, st2, ρ2, e2, x2, S2, r2, m2⟩ := mat_ok S1 x1 r1
  rw [e2, R.toS_ok] at P1
  have E2 := (E.mono (x1.mono S)).mono m2
  split at P1
  · rename_i l
    split at P1
    · rename_i n hn
      split at P1
      · rename_i c' fs hst
        split at P1
        · rename_i hh
          obtain ⟨a, vs, rfl, h1, h2⟩ := r2
          refine ⟨a, vs, rfl, h1, by rw [← h2.length]; exact hh.1, ?_⟩
          exact gFs_ok hF fl l vs S2 E2 h2 hn hst hh.1 hh.2.1 hh.2.2 fun H' x' S' E' => P1 ρ2 H' σ (x2.trans x') S' E'
        · exact P1.elim
      · exact P1.elim
    · exact P1.elim
  · exact P1.elim
end
end Ev

/-! ## Ev9v -/
set_option Elab.async false
set_option linter.all false
set_option maxRecDepth 100000
/-! Ev9v: dicts whose keys are tuples of any depth, each key a value like any other: {}, d[k], k in d, d[k] = v, d.get(k, x). -/
namespace Ev
open PySem PySem.Spec PyProof.Rows L2
/-! ### keys -/
def okX : D → Bool
  | .tup l => match nkD (.tup l) with
    | some nk => decide (nk.depth ≤ 8)
    | none => false
  | _ => false
theorem okX_at {k : D} (h : okX k = true) : ∃ l nk, k = .tup l ∧ nkD k = some nk ∧ nk.depth ≤ 8 := by
  cases k with
  | tup l =>
    cases e : nkD (.tup l) with
    | none => simp [okX, e] at h
    | some nk => exact ⟨l, nk, rfl, rfl, by simpa [okX, e] using h⟩
  | _ => cases h
mutual
theorem nkD_inj : ∀ {d e : D} {k : NestedKey}, nkD d = some k → nkD e = some k → d = e
  | .non, e, _, h, h' => by
    cases h
    cases e with
    | non => rfl
    | tup l => cases q : nkDs l <;> simp [nkD, q] at h'
    | _ => simp [nkD] at h'
  | .int i, e, _, h, h' => by
    cases h
    cases e with
    | int j => simp [nkD] at h'; rw [h']
    | tup l => cases q : nkDs l <;> simp [nkD, q] at h'
    | _ => simp [nkD] at h'
  | .str s, e, _, h, h' => by
    cases h
    cases e with
    | str j => simp [nkD] at h'; rw [h']
    | tup l => cases q : nkDs l <;> simp [nkD, q] at h'
    | _ => simp [nkD] at h'
  | .tup l, e, k, h, h' => by
    cases q : nkDs l with
    | none => simp [nkD, q] at h
    | some ks =>
      simp only [nkD, q, Option.map_some, Option.some.injEq] at h
      subst h
      cases e with
      | tup l' =>
        cases q' : nkDs l' with
        | none => simp [nkD, q'] at h'
        | some ks' =>
          simp only [nkD, q', Option.map_some, Option.some.injEq, NestedKey.tup.injEq] at h'
          subst h'
          rw [nkDs_inj q q']
      | _ => simp [nkD] at h'
  | .bl _, _, _, h, _ => by simp [nkD] at h
  | .rol _, _, _, h, _ => by simp [nkD] at h
  | .ref _, _, _, h, _ => by simp [nkD] at h
theorem nkDs_inj : ∀ {d e : List D} {k : List NestedKey}, nkDs d = some k → nkDs e = some k → d = e
  | [], e, _, h, h' => by
    cases h
    cases e with
    | nil => rfl
    | cons x l => cases q : nkD x <;> cases q2 : nkDs l <;> simp [nkDs, q, q2] at h'
  | d :: l, e, k, h, h' => by
    cases q : nkD d with
    | none => simp [nkDs, q] at h
    | some k1 =>
      cases q2 : nkDs l with
      | none => simp [nkDs, q, q2] at h
      | some ks =>
        simp only [nkDs, q, q2, Option.some.injEq] at h
        subst h
        cases e with
        | nil => cases h'
        | cons x r =>
          cases p : nkD x with
          | none => simp [nkDs, p] at h'
          | some p1 =>
            cases p2 : nkDs r with
            | none => simp [nkDs, p, p2] at h'
            | some ps =>
              simp only [nkDs, p, p2, Option.some.injEq, List.cons.injEq] at h'
              obtain ⟨rfl, rfl⟩ := h'
              rw [nkD_inj q p, nkDs_inj q2 p2]
end
section
variable {X : Cx} {cl : CT} {pins : List (Addr × Obj)} {σ : L2.St} {H : Hp} {s : Shared} {ρ : List Addr}
mutual
theorem nk_is (I : Inv X pins σ H s) : ∀ {d : D} {k : NestedKey} {v : V} {u : Value}, nkD d = some k → RD X.K ρ H d v → RelV v u → NestedIs s.heap k u
  | .non, _, _, _, h, r, e => by cases h; cases r; cases e; exact .none
  | .int i, _, _, _, h, r, e => by cases h; cases r; obtain ⟨t, rfl⟩ := (show ∃ t, _ = Value.int i t from e); exact .int _ _
  | .str x, _, _, _, h, r, e => by cases h; cases r; obtain ⟨t, rfl⟩ := (show ∃ t, _ = Value.str ⟨x.toArray⟩ t from e); exact .text _ _
  | .tup l, _, _, _, h, r, e => by
    cases q : nkDs l with
    | none => simp [nkD, q] at h
    | some ks =>
      simp only [nkD, q, Option.map_some, Option.some.injEq] at h
      subst h
      obtain ⟨a, vs, rfl, h1, h2⟩ := r
      cases e
      obtain ⟨its, rv, ⟨o, e1, e2, n, e3⟩, _⟩ := I.tuple h1
      exact .tup e1 e2 e3 (by simpa using nks_is I q h2 rv)
  | .bl _, _, _, _, h, _, _ => by simp [nkD] at h
  | .rol _, _, _, _, h, _, _ => by simp [nkD] at h
  | .ref _, _, _, _, h, _, _ => by simp [nkD] at h
theorem nks_is (I : Inv X pins σ H s) : ∀ {l : List D} {ks : List NestedKey} {vs : List V} {us : List Value}, nkDs l = some ks → RDs X.K ρ H l vs → Vals vs us → NestedAll s.heap ks us
  | [], _, _, _, h, r, e => by cases h; cases r; cases e; exact .nil
  | d :: l, _, _, _, h, r, e => by
    cases q : nkD d with
    | none => simp [nkDs, q] at h
    | some k1 =>
      cases q2 : nkDs l with
      | none => simp [nkDs, q, q2] at h
      | some ks =>
        simp only [nkDs, q, q2, Option.some.injEq] at h
        subst h
        obtain ⟨v, r', rfl, r1, r2⟩ := r
        cases e with
        | cons e1 e2 => exact .cons (nk_is I q r1 e1) (nks_is I q2 r2 e2)
end
/-! ### the pairs -/
theorem RKX.is (I : Inv X pins σ H s) : ∀ {kvs : List (D × D)} {xs : List (NestedKey × Addr × Value)}, RKX X.K ρ H kvs xs → ∀ x ∈ xs, (nestedKind X.prog X.w).is s.heap x.1 x.2.1
  | [], _, h, x, hx => by subst h; cases hx
  | (k, d) :: r, _, h, x, hx => by
    obtain ⟨nk, b, u, v, r', rfl, h0, h1, h2, h3, h4, h5⟩ := h
    rcases List.mem_cons.mp hx with rfl | hx
    · exact ⟨nk_is I h0 h2 rfl, h1⟩
    · exact RKX.is I h5 x hx
theorem dx_of (hw : cl.hs = NestedKey.hash X.w) (I : Inv X pins σ H s) {a : Addr} {kvs : List (D × D)} {xs : List (NestedKey × Addr × Value)} (h0 : H a = some (.ext (dxP cl.hs a xs))) (nd : (xs.map (·.1)).Nodup) (rk : RKX X.K ρ H kvs xs) :
    s.heap.DictOfH (nestedKind X.prog X.w) a xs := by
  obtain ⟨⟨o, es, ep, h1, h2, h3, h4⟩, _⟩ := I.hok a _ h0
  exact ⟨o, es, ep, h1, h2, h3, by rw [h4, hw]; rfl, rk.is I, nd⟩
end
section
variable {K : PySem.W.Frag} {cl : CT} {ρ : List Addr} {H : Hp}
theorem atKey_pos {x : NestedKey × Addr × Value} {r : List (NestedKey × Addr × Value)} {k : NestedKey} (e : x.1 = k) : atKey (x :: r) k = some x.2 := by simp [atKey, List.find?_cons, e]
theorem atKey_neg {x : NestedKey × Addr × Value} {r : List (NestedKey × Addr × Value)} {k : NestedKey} (e : ¬ x.1 = k) : atKey (x :: r) k = atKey r k := by simp [atKey, List.find?_cons, e]
theorem RKX.len : ∀ {kvs : List (D × D)} {xs : List (NestedKey × Addr × Value)}, RKX K ρ H kvs xs → xs.length = kvs.length
  | [], _, h => by subst h; rfl
  | (k1, d1) :: r, _, h => by obtain ⟨nk, b, u, v, r', rfl, _, _, _, _, _, h5⟩ := h; simp [RKX.len h5]
theorem RKX.val {k : D} {nk : NestedKey} (hk : nkD k = some nk) : ∀ {kvs : List (D × D)} {xs : List (NestedKey × Addr × Value)}, RKX K ρ H kvs xs →
    (∀ d, dvV kvs k = some d → ∃ p v, atKey xs nk = some p ∧ RelV v p.2 ∧ RD K ρ H d v) ∧ (dvV kvs k = none → atKey xs nk = none)
  | [], _, h => by subst h; exact ⟨fun d h => (by cases h), fun _ => rfl⟩
  | (k1, d1) :: r, _, h => by
    obtain ⟨n1, b, u, v, r', rfl, h0, h1, h2, h3, h4, h5⟩ := h
    have ih := RKX.val hk h5
    by_cases q : k1 = k
    · have q' : n1 = nk := by rw [q, hk] at h0; cases h0; rfl
      have e1 : dvV ((k1, d1) :: r) k = some d1 := by simp only [dvV, List.find?_cons, q, decide_true, Option.map_some]
      rw [e1, atKey_pos (x := (n1, b, u)) q']
      exact ⟨fun d h => (by cases h; exact ⟨(b, u), v, rfl, h3, h4⟩), fun h => (by cases h)⟩
    · have q' : ¬ n1 = nk := fun z => q (nkD_inj h0 (by rw [z]; exact hk))
      have e1 : dvV ((k1, d1) :: r) k = dvV r k := by simp only [dvV, List.find?_cons, q, decide_false]
      rw [e1, atKey_neg (x := (n1, b, u)) q']
      exact ih
theorem RKX.sm {k : D} {nk : NestedKey} (hk : nkD k = some nk) {kvs : List (D × D)} {xs : List (NestedKey × Addr × Value)} (h : RKX K ρ H kvs xs) : (atKey xs nk).isSome = (dvV kvs k).isSome := by
  obtain ⟨h1, h2⟩ := h.val hk
  cases e : dvV kvs k with
  | none => rw [h2 e]; rfl
  | some d => obtain ⟨p, v, e1, _⟩ := h1 d e; rw [e1]; rfl
theorem RKX.snoc {k d : D} {nk : NestedKey} {b : Addr} {u : Value} {v : V} (hk : nkD k = some nk) (hd : nk.depth ≤ 8) (hb : RD K ρ H k (.ref b)) (hu : RelV v u) (hv : RD K ρ H d v) :
    ∀ {kvs : List (D × D)} {xs : List (NestedKey × Addr × Value)}, RKX K ρ H kvs xs → RKX K ρ H (kvs ++ [(k, d)]) (xs ++ [(nk, b, u)])
  | [], _, h => by subst h; exact ⟨nk, b, u, v, [], rfl, hk, hd, hb, hu, hv, rfl⟩
  | (k1, d1) :: r, _, h => by
    obtain ⟨n1, b1, u1, v1, r', rfl, h0, h1, h2, h3, h4, h5⟩ := h
    exact ⟨n1, b1, u1, v1, _, rfl, h0, h1, h2, h3, h4, RKX.snoc hk hd hb hu hv h5⟩
theorem RKX.rep {k d : D} {nk : NestedKey} {u : Value} {v : V} (hk : nkD k = some nk) (hu : RelV v u) (hv : RD K ρ H d v) :
    ∀ {kvs : List (D × D)} {xs : List (NestedKey × Addr × Value)}, RKX K ρ H kvs xs → RKX K ρ H (kvs.map fun p => @ite _ (p.1 = k) (Classical.propDecidable _) (p.1, d) p) (xs.map (putAt nk u))
  | [], _, h => by subst h; rfl
  | (k1, d1) :: r, _, h => by
    obtain ⟨n1, b1, u1, v1, r', rfl, h0, h1, h2, h3, h4, h5⟩ := h
    have ih := RKX.rep hk hu hv h5
    by_cases q : k1 = k
    · have q' : n1 = nk := by rw [q, hk] at h0; cases h0; rfl
      simp only [List.map_cons, q, if_true, putAt, q']
      exact ⟨nk, b1, u, v, _, rfl, hk, by rw [← q']; exact h1, by rw [← q]; exact h2, hu, hv, ih⟩
    · have q' : ¬ n1 = nk := fun z => q (nkD_inj h0 (by rw [z]; exact hk))
      simp only [List.map_cons, if_neg q, putAt, if_neg q']
      exact ⟨n1, b1, u1, v1, _, rfl, h0, h1, h2, h3, h4, ih⟩
theorem dvV_any (k : D) : ∀ kvs : List (D × D), (kvs.any fun p => @decide (p.1 = k) (Classical.propDecidable _)) = (dvV kvs k).isSome
  | [] => rfl
  | p :: r => by
    rw [List.any_cons, dvV_any k r]
    by_cases e : p.1 = k
    · simp [dvV, List.find?_cons, e]
    · simp [dvV, List.find?_cons, e]
theorem RKX.put {k d : D} {nk : NestedKey} {b : Addr} {u : Value} {v : V} (hk : nkD k = some nk) (hd : nk.depth ≤ 8) (hb : RD K ρ H k (.ref b)) (hu : RelV v u) (hv : RD K ρ H d v)
    {kvs : List (D × D)} {xs : List (NestedKey × Addr × Value)} (h : RKX K ρ H kvs xs) : RKX K ρ H (dputD kvs k d) (storedH xs nk b u) := by
  unfold dputD storedH
  rw [dvV_any, h.sm hk]
  split
  · exact h.rep hk hu hv
  · exact h.snoc hk hd hb hu hv
end
/-! ### readings -/
def kvX : Option Cell → Option (List (D × D))
  | some (.dxt kvs) => some kvs
  | _ => none
theorem kvX_at {c : Option Cell} {kvs : List (D × D)} (h : kvX c = some kvs) : c = some (.dxt kvs) := by
  unfold kvX at h
  split at h
  · cases h; rfl
  · cases h
noncomputable def dIxX (a b : RV) (st : Store) : Option RV := match a with
  | .v (.ref n) => match kvX st[n]? with
    | some kvs => match b with
      | .v k => if okX k = true then (dvV kvs k).map .v else none
      | _ => none
    | none => dIx a b st
  | _ => dIx a b st
noncomputable def inX (a b : RV) (st : Store) : Option Bool := match b with
  | .v (.ref n) => match kvX st[n]? with
    | some kvs => match a with
      | .v k => if okX k = true then some (dvV kvs k).isSome else none
      | _ => none
    | none => inB a b st
  | _ => inB a b st
noncomputable def dInX (a b : RV) (st : Store) : Option RV := (inX a b st).map fun k => .v (.bl k)
noncomputable def dNotInX (a b : RV) (st : Store) : Option RV := (inX a b st).map fun k => .v (.bl (!k))
section
variable {X : Cx} {cl : CT}
theorem room8 (hu : X.A.units + 65 < cLine) : (nestedKind X.prog X.w).room X.A.in1 := by
  show X.A.in1.units + 8 < cLine
  rw [Around.in1_units]; omega
theorem ixdX (hu : X.A.units + 65 < cLine) (hw : cl.hs = NestedKey.hash X.w) : IxR X (rP2 X.K cl dIxX) := by
  rintro value slice pins s σ H x y v u Q I rx ry ⟨ρ, st, a, b, H0, H1, S, ra, rb, q⟩ hs
  have other : dIxX a b st = dIx a b st → wpAny (model X.prog X.w) X.A (subscriptTail value slice v u) (EP X pins σ Q) X.xe s := fun e =>
    ixd (by omega) value slice pins s σ H x y v u Q I rx ry ⟨ρ, st, a, b, H0, H1, S, ra, rb, by rw [← e]; exact q⟩ hs
  cases a with
  | t l => exact other rfl
  | v d =>
    cases d with
    | ref n =>
      cases e : kvX st[n]? with
      | none => exact other (by simp only [dIxX, e])
      | some kvs =>
        obtain ⟨p, rfl, hp⟩ := ra
        obtain ⟨xs, n0, nd, h1, h2⟩ := S.at_ _ _ _ (kvX_at e) hp
        obtain ⟨c, hc, _⟩ := id q
        have hc' := hc
        simp only [dIxX, e] at hc'
        split at hc'
        · rename_i k
          split at hc'
          · rename_i hk
            obtain ⟨l, nk, rfl, e1, e2⟩ := okX_at hk
            cases e3 : dvV kvs (.tup l) with
            | none => rw [e3] at hc'; cases hc'
            | some d =>
              rw [e3] at hc'
              cases hc'
              obtain ⟨⟨b1, u1⟩, v1, g1, g2, g3⟩ := (h2.val e1).1 d e3
              obtain ⟨b', vs, rfl, _⟩ := id rb
              cases rx
              cases ry
              have dd := dx_of hw I h1 nd h2
              exact tail_any (ops := [.ref p, .ref b']) dd.typeIs PySem.F.slot_dict_getitem.lookup (wpAny_getItem_heap (room8 hu) ⟨nk_is I e1 rb rfl, e2⟩ dd g1 ⟨v1, H, I.tok _, g2, fin_v S q hc g3⟩) hs
          · cases hc'
        · cases hc'
    | _ => exact other rfl
theorem inX_ok {k : Bool} {ρ : List Addr} {H H0 H1 : Hp} {st : Store} {a : RV} {n : Nat} {x y : V} {pins : List (Addr × Obj)} {σ : L2.St} {s : Shared} {v u : Value} {kvs : List (D × D)} (hw : cl.hs = NestedKey.hash X.w) (I : Inv X pins σ H s) (S : RS X.K ρ H cl st)
    (ra : RRV X.K ρ H H0 a x) (rb : RRV X.K ρ H H1 (.v (.ref n)) y) (rx : RelV x v) (ry : RelV y u) (e : kvX st[n]? = some kvs) (h : inX a (.v (.ref n)) st = some k) :
    ∃ p b xs nk, v = .ref b ∧ u = .ref p ∧ (p == sysModules) = false ∧ s.heap.DictOfH (nestedKind X.prog X.w) p xs ∧ (nestedKind X.prog X.w).is s.heap nk b ∧ (atKey xs nk).isSome = k := by
  simp only [inX, e] at h
  obtain ⟨p, rfl, hp⟩ := rb
  obtain ⟨xs, n0, nd, h1, h2⟩ := S.at_ _ _ _ (kvX_at e) hp
  split at h
  · rename_i k'
    split at h
    · rename_i hk
      cases h
      obtain ⟨l, nk, rfl, e1, e2⟩ := okX_at hk
      obtain ⟨b', vs, rfl, _⟩ := id ra
      cases rx
      cases ry
      exact ⟨p, b', xs, nk, rfl, rfl, n0, dx_of hw I h1 nd h2, ⟨nk_is I e1 ra rfl, e2⟩, h2.sm e1⟩
    · cases h
  · cases h
theorem opd_inX (hu : X.A.units + 65 < cLine) (hw : cl.hs = NestedKey.hash X.w) : OpR X (compareOp .In) (rP2 X.K cl dInX) := by
  rintro pins s σ H x y v u Q I rx ry ⟨ρ, st, a, b, H0, H1, S, ra, rb, q⟩
  have other : inX a b st = inB a b st → wpAny (model X.prog X.w) X.A (compareOp .In v u) (EP X pins σ Q) X.xe s := fun e =>
    opd_in hu pins s σ H x y v u Q I rx ry ⟨ρ, st, a, b, H0, H1, S, ra, rb, by unfold dIn; rw [← e]; exact q⟩
  cases b with
  | t l => exact other rfl
  | v d =>
    cases d with
    | ref n =>
      cases e : kvX st[n]? with
      | none => exact other (by simp only [inX, e])
      | some kvs =>
        cases ek : inX a (.v (.ref n)) st with
        | none => obtain ⟨c, h, _⟩ := q; simp [dInX, ek] at h
        | some k =>
          obtain ⟨p, b', xs, nk, rfl, rfl, n0, dd, hk, e2⟩ := inX_ok hw I S ra rb rx ry e ek
          exact wpAny_in_heap (room8 hu) hk n0 dd ⟨.bl _, H, I.tok _, rfl, by rw [e2]; exact fin_v (d := .bl k) S q (by simp [dInX, ek]) rfl⟩
    | _ => exact other rfl
theorem opd_notInX (hu : X.A.units + 65 < cLine) (hw : cl.hs = NestedKey.hash X.w) : OpR X (compareOp .NotIn) (rP2 X.K cl dNotInX) := by
  rintro pins s σ H x y v u Q I rx ry ⟨ρ, st, a, b, H0, H1, S, ra, rb, q⟩
  have other : inX a b st = inB a b st → wpAny (model X.prog X.w) X.A (compareOp .NotIn v u) (EP X pins σ Q) X.xe s := fun e =>
    opd_notIn hu pins s σ H x y v u Q I rx ry ⟨ρ, st, a, b, H0, H1, S, ra, rb, by unfold dNotIn; rw [← e]; exact q⟩
  cases b with
  | t l => exact other rfl
  | v d =>
    cases d with
    | ref n =>
      cases e : kvX st[n]? with
      | none => exact other (by simp only [inX, e])
      | some kvs =>
        cases ek : inX a (.v (.ref n)) st with
        | none => obtain ⟨c, h, _⟩ := q; simp [dNotInX, ek] at h
        | some k =>
          obtain ⟨p, b', xs, nk, rfl, rfl, n0, dd, hk, e2⟩ := inX_ok hw I S ra rb rx ry e ek
          exact wpAny_notIn_heap (room8 hu) hk n0 dd ⟨.bl _, H, I.tok _, rfl, by rw [e2]; exact fin_v (d := .bl (!k)) S q (by simp [dNotInX, ek]) rfl⟩
    | _ => exact other rfl
end
end Ev

/-! ## Ev9w -/
set_option Elab.async false
set_option linter.all false
set_option maxRecDepth 100000
/-! Ev9w: dicts whose keys are tuples: a new one, d[k] = v, d.get(k, x). -/
namespace Ev
open PySem PySem.Spec PyProof.Rows L2
/-- behind a new, or changed, dict -/
theorem dx_obj {P : Program} {w : World} {H' : Hp} {h' : Heap} {a : Addr} {xs : List (NestedKey × Addr × Value)} {hs : NestedKey → Int} (p : dxP hs a xs h') : ObjOk P w H' h' a (.ext (dxP hs a xs)) := by
  obtain ⟨o, es, ep, h1, h2, h3, h4⟩ := p
  exact ⟨⟨o, es, ep, h1, h2, h3, h4⟩, ⟨o, h1⟩, fun k1 k2 ⟨o', es', ep', g1, g2, g3, g4⟩ hk => ⟨o', es', ep', hk _ g1, g2, g3, g4⟩⟩
section
variable {X : Cx} {hs : NestedKey → Int} {o i e f : Expr} {td ty tv tx : TE} {pos pos' apos cpos : Pos}
/-- {}, keys tuples -/
def tDNewX (hs : NestedKey → Int) : TE := fun _ H Q => ∀ p, H p = none → (p == sysModules) = false → Q (.ref p) (upd H p (.ext (dxP hs p [])))
theorem pe_dnewX : PE X (.Dict [] [] pos) (tDNewX hs) := by
  refine ⟨fun pins s σ H Q I h => wpAny_Dict_empty ?_⟩
  have big := I.big
  have fr : H s.heap.objs.size = none := I.hok.fresh (Nat.le_refl _)
  refine ⟨.ref s.heap.objs.size, _, ?_, rfl, h s.heap.objs.size fr (beq_eq_false_iff_ne.mpr (Ne.symm (Nat.ne_of_lt big)))⟩
  refine I.laid (t' := s.toks) (fun b u q => Heap.get?_push_of_some _ q) (Nat.le_refl _) (dx_obj ?_)
  exact ⟨_, #[], 0, Heap.get?_push_size _ rfl, ⟨rfl, rfl, rfl⟩, rfl, rfl⟩
/-- what is known of the dict at p and the key at b -/
structure DxK (X : Cx) (hs : NestedKey → Int) (σ : L2.St) (H : Hp) (p b : Addr) (xs : List (NestedKey × Addr × Value)) (nk : NestedKey) : Prop where
  n0 : (p == sysModules) = false
  at_ : H p = some (.ext (dxP hs p xs))
  sz : xs.length ≤ sizeLine
  dd : ∀ pins s, Inv X pins σ H s → s.heap.DictOfH (nestedKind X.prog X.w) p xs ∧ (nestedKind X.prog X.w).is s.heap nk b
def sDPutE (X : Cx) (hs : NestedKey → Int) (td ty tv : TE) : TS := fun D σ H => tv σ H fun v H1 => td σ H1 fun x H2 => ty σ H2 fun y H3 => ∃ p b xs nk, x = .ref p ∧ y = .ref b ∧ DxK X hs σ H3 p b xs nk ∧
  ∀ u, RelV v u → ((storedH xs nk b u).map (·.1)).Nodup → D.nx σ (upd H3 p (.ext (dxP hs p (storedH xs nk b u))))
theorem ps_dputX (hu : X.A.units + 65 < cLine) (hw : hs = NestedKey.hash X.w) (ho : PE X o td) (hi : PE X i ty) (hv : PE X e tv) (hsw : swapsWith e (some (.Subscript o i pos')) pos.line X.env = pure false) :
    PS X (.Assign [.Subscript o i pos'] e pos) (sDPutE X hs td ty tv) := by
  refine ⟨fun pins s σ H D I h => wpAny_Assign_Subscript ?_ hsw⟩
  refine thn (hv.run pins s σ H _ I h) fun r s1 ⟨v, H1, I1, rv, q1⟩ => ?_
  refine thn (ho.run pins s1 σ H1 _ I1 q1) fun u s2 ⟨x, H2, I2, rx, q2⟩ => ?_
  refine thn (hi.run pins s2 σ H2 _ I2 q2) fun iv s3 ⟨y, H3, I3, ry, p, b, xs, nk, ex, ey, k, q3⟩ => ?_
  subst ex ey
  cases rx
  cases ry
  obtain ⟨dd, kk⟩ := k.dd pins s3 I3
  refine wpAny_setItem_heap (hsz := k.sz) (room8 hu) kk dd fun h' dd' sb => ?_
  refine ⟨σ, _, ?_, q3 r rv dd'.nodup⟩
  obtain ⟨ob, es, ep, g1, g2, g3, g4, _⟩ := dd'
  exact d_write I3 (by rw [k.at_]; trivial) sb ⟨ob, g1⟩ (dx_obj ⟨ob, es, ep, g1, g2, g3, by rw [g4, hw]; rfl⟩)
/-- d.get(k, x) -/
def tDGetE (X : Cx) (hs : NestedKey → Int) (td ty tx : TE) : TE := fun σ H Q => td σ H fun x H1 => ∃ p xs0, x = .ref p ∧ H1 p = some (.ext (dxP hs p xs0)) ∧ ty σ H1 fun y H2 => tx σ H2 fun z H3 => ∃ b xs nk, y = .ref b ∧ DxK X hs σ H3 p b xs nk ∧
  (∀ q v, atKey xs nk = some q → RelV v q.2 → Q v H3) ∧ (∀ q, atKey xs nk = some q → ∃ v, RelV v q.2) ∧ (atKey xs nk = none → Q z H3)
theorem pe_dgetE (hu : X.A.units + 65 < cLine) (ho : PE X o td) (he : PE X e ty) (hf : PE X f tx) (m : M2 X o "get" apos e f cpos) : PE X (.Call (.Attribute o "get" apos) [e, f] [] cpos) (tDGetE X hs td ty tx) := by
  refine ⟨fun pins s σ H Q I h => ?_⟩
  refine wpAny_Call_method m.base m.few m.line PySem.F.plainAttrs_dict PySem.F.slot_dict_get PySem.F.type_dict_get ?_
  refine thn (ho.run pins s σ H _ I h) fun u s1 ⟨x, H1, I1, rx, p, xs0, ex, h0, q1⟩ => ?_
  subst ex
  cases rx
  obtain ⟨⟨ob, es, ep, g1, g2, g3, g4⟩, _⟩ := I1.hok p _ h0
  refine ⟨⟨ob, g1, g2.1⟩, fun b q => (by cases q; exact ⟨ob, g1, g2.2.1⟩), ?_⟩
  rw [m.trees]
  refine Calls.callWith_builtin rfl (Calls.evalArgs_plain (Calls.spliced_cons ?_))
  refine thn (he.run pins s1 σ H1 _ I1 q1) fun iv s2 ⟨y, H2, I2, ry, q2⟩ => Calls.spliced_cons ?_
  refine thn (hf.run pins s2 σ H2 _ I2 q2) fun fv s3 ⟨z, H3, I3, rz, b, xs, nk, ey, k, k1, k2, k3⟩ => Calls.spliced_nil ?_
  subst ey
  cases ry
  obtain ⟨dd, kk⟩ := k.dd pins s3 I3
  refine call_meetsIn PySem.F.slot_dict_get dd.typeIs PySem.F.entry_dict_get (PySem.F.args_dict_get_3 _ _ _) (meetsH_dict_get_default (nestedKind X.prog X.w) p b k.n0 fv) ⟨room8 hu, nk, xs, kk, dd, ?_⟩
  cases ea : atKey xs nk with
  | none => exact ⟨z, H3, I3.tok _, rz, k3 ea⟩
  | some q => obtain ⟨v, rv⟩ := k2 q ea; exact ⟨v, H3, I3.tok _, rv, k1 q v ea rv⟩
end
/-! ### the readings -/
def eDNewX : SEnv → Store → R RV := fun _ st => .ok (.v (.ref st.length)) (st ++ [.dxt []])
noncomputable def sDPutX (fa fo fi : SEnv → Store → R RV) : SS := fun env st => (fa env st).toS env fun a st1 => (mat a st1).toS env fun d st2 => (fo env st2).toS env fun o st3 => (fi env st3).toS env fun i st4 => match o, i with
  | .v (.ref n), .v k => match kvX st4[n]? with
    | some kvs => if okX k = true ∧ kvs.length < sLine then .nx env (st4.set n (.dxt (dputD kvs k d))) else .bad
    | none => .bad
  | _, _ => .bad
noncomputable def eGetX (fo fi fx : SEnv → Store → R RV) : SEnv → Store → R RV := fun env st => (fo env st).bind fun o st1 => match o with
  | .v (.ref n) => match kvX st1[n]? with
    | some _ => (fi env st1).bind fun i st2 => (fx env st2).bind fun a st3 => (mat a st3).bind fun z st4 => match i with
      | .v k => match kvX st4[n]? with
        | some kvs => if okX k = true ∧ kvs.length ≤ sLine then .ok (.v ((dvV kvs k).getD z)) st4 else .bad
        | none => .bad
      | _ => .bad
    | none => .bad
  | _ => .bad
section
variable {X : Cx} {cl : CT} {W : WX} {o i e : Expr} {fa fo fi fx : SEnv → Store → R RV} {pos pos' apos : Pos}
theorem de_dnewX : PE X (.Dict [] [] pos) (tF X.K cl W eDNewX) := PEw (pe_dnewX (hs := cl.hs)) fun σ H Q ⟨ρ, env, st, S, E, P⟩ p hp n0 => by
  have x : Ext ρ H (ρ ++ [p]) (upd H p (.ext (dxP cl.hs p []))) := Ext.grow (Ext.new hp) hp
  have S1 : RS X.K ρ (upd H p (.ext (dxP cl.hs p []))) cl st := S.new hp
  have np : p ∉ ρ := fun z => by
    obtain ⟨u, e, _⟩ := S.obj z
    rw [hp] at e; cases e
  refine P (ρ ++ [p]) _ (.ref p) x (S1.grow np ⟨[], n0, List.nodup_nil, upd_same, rfl⟩) ⟨p, rfl, ?_⟩
  rw [← S.len, List.getElem?_append_right (Nat.le_refl _)]
  simp
theorem de_ixX (hu : X.A.units + 65 < cLine) (hw : cl.hs = NestedKey.hash X.w) (ha : PE X o (tF X.K cl W fo)) (hb : PE X i (tF X.K cl W fi)) (hs : PlainIx i) : PE X (.Subscript o i pos) (tF X.K cl W (e2 dIxX fo fi)) := PEw (pe_ix (ixdX hu hw) ha hb hs) w_op2
theorem ds_dputX (hu : X.A.units + 65 < cLine) (hw : cl.hs = NestedKey.hash X.w) (ho : PE X o (tF X.K cl W fo)) (hi : PE X i (tF X.K cl W fi)) (hv : PE X e (tF X.K cl W fa)) (hs : swapsWith e (some (.Subscript o i pos')) pos.line X.env = pure false) :
    PS X (.Assign [.Subscript o i pos'] e pos) (tS X.K cl W (sDPutX fa fo fi)) := by
  refine PSw (ps_dputX hu hw ho hi hv hs) fun D σ H ⟨ρ, env, st, S, E, P⟩ => ?_
  refine ⟨ρ, env, st, S, E, (PostS.toS (rel := relV X.K) S E P).mono ?_⟩
  rintro x H1 ⟨ρ1, st1, a, x1, S1, r1, P1⟩
  obtain ⟨d, st2, ρ2, e2, x2, S2, r2, m2⟩ := mat_ok S1 x1 r1
  rw [e2, R.toS_ok] at P1
  have P2 := PostS.from S2 x2 P1
  have E2 := (E.mono (x1.mono S)).mono m2
  refine ⟨ρ2, env, st2, S2, E2, (PostS.toS (rel := relV X.K) S2 E2 P2).mono ?_⟩
  rintro y H3 ⟨ρ3, st3, ob, x3, S3, r3, P3⟩
  have P3' := PostS.from S3 x3 P3
  have E3 := E2.mono (x3.mono S2)
  refine ⟨ρ3, env, st3, S3, E3, (PostS.toS (rel := relV X.K) S3 E3 P3').mono ?_⟩
  rintro z H4 ⟨ρ4, st4, iv, x4, S4, r4, P4⟩
  have r3' := RRV.ext S3 x4 r3
  split at P4
  · rename_i n k
    split at P4
    · rename_i kvs e
      split at P4
      · rename_i hz
        obtain ⟨hk, hz⟩ := hz
        obtain ⟨l, nk, rfl, e1, e2⟩ := okX_at hk
        obtain ⟨p, rfl, hp⟩ := r3'
        obtain ⟨b, vs, rfl, r5⟩ := id r4
        obtain ⟨xs, n0, nd, h1, h2⟩ := S4.at_ _ _ _ (kvX_at e) hp
        have rd := RD.mono (x4.mono S3) _ _ (RD.mono (x3.mono S2) _ _ r2)
        refine ⟨p, b, xs, nk, rfl, rfl, ⟨n0, h1, by rw [h2.len, sLine_eq]; omega, fun pins s I => ⟨dx_of hw I h1 nd h2, nk_is I e1 r4 rfl, e2⟩⟩, fun u ru nd' => ?_⟩
        have x6 : Ext ρ4 H4 ρ4 (upd H4 p (.ext (dxP cl.hs p (storedH xs nk b u)))) := Ext.put (List.mem_of_getElem? hp) h1 (fun _ _ z => by cases z)
        have m6 := x6.mono S4
        exact P4 ρ4 _ σ (x4.trans x6) (S4.put hp ⟨_, n0, nd', upd_same, RKX.mono m6 _ _ (h2.put e1 e2 r4 ru rd)⟩) ((E3.mono (x4.mono S3)).mono m6)
      · exact P4.elim
    · exact P4.elim
  · exact P4.elim
theorem RKX.rel {K : PySem.W.Frag} {ρ : List Addr} {H : Hp} {nk : NestedKey} {q : Addr × Value} : ∀ {kvs : List (D × D)} {xs : List (NestedKey × Addr × Value)}, RKX K ρ H kvs xs → atKey xs nk = some q → ∃ v, RelV v q.2
  | [], _, h, e => by subst h; cases e
  | (k1, d1) :: r, _, h, e => by
    obtain ⟨n1, b1, u1, v1, r', rfl, h0, h1, h2, h3, h4, h5⟩ := h
    by_cases z : n1 = nk
    · rw [atKey_pos (x := (n1, b1, u1)) z] at e; cases e; exact ⟨v1, h3⟩
    · rw [atKey_neg (x := (n1, b1, u1)) z] at e; exact RKX.rel h5 e
theorem de_getX (hu : X.A.units + 65 < cLine) (hw : cl.hs = NestedKey.hash X.w) (ho : PE X o (tF X.K cl W fo)) (hi : PE X i (tF X.K cl W fi)) (he : PE X e (tF X.K cl W fx)) (m : M2 X o "get" apos i e pos) : PE X (.Call (.Attribute o "get" apos) [i, e] [] pos) (tF X.K cl W (eGetX fo fi fx)) := by
  refine PEw (pe_dgetE (hs := cl.hs) hu ho hi he m) fun σ H Q ⟨ρ, env, st, S, E, P⟩ => ?_
  refine ⟨ρ, env, st, S, E, (Post.bind0 P).mono ?_⟩
  rintro x H1 ⟨ρ1, st1, a, x1, S1, r1, P1⟩
  split at P1
  rotate_left
  · exact P1.elim
  rename_i n
  split at P1
  rotate_left
  · exact P1.elim
  rename_i kv1 e1
  obtain ⟨p, rfl, hp⟩ := r1
  obtain ⟨xs0, n0, _, g1, _⟩ := S1.at_ _ _ _ (kvX_at e1) hp
  have E1 := E.mono (x1.mono S)
  refine ⟨p, xs0, rfl, g1, ρ1, env, st1, S1, E1, (Post.bind0 (relα := relV X.K) (Post.from backV S1 x1 P1)).mono ?_⟩
  rintro y H2 ⟨ρ2, st2, iv, x2, S2, r2, P2⟩
  refine ⟨ρ2, env, st2, S2, E1.mono (x2.mono S1), (Post.bind0 (relα := relV X.K) (Post.from backV S2 x2 P2)).mono ?_⟩
  rintro z H3 ⟨ρ3, st3, av, x3, S3, r3, P3⟩
  obtain ⟨d, st4, ρ4, e4, x4, S4, r4, m4⟩ := mat_ok S3 x3 r3
  rw [e4, R.bind_ok] at P3
  have hp4 : ρ4[n]? = some p := by
    obtain ⟨m1, rfl⟩ := x2.pre
    obtain ⟨m2, rfl⟩ := x4.pre
    have h1 := (List.getElem?_eq_some_iff.mp hp).1
    rw [List.getElem?_append_left (by rw [List.length_append]; omega), List.getElem?_append_left h1]
    exact hp
  split at P3
  rotate_left
  · exact P3.elim
  rename_i k
  split at P3
  rotate_left
  · exact P3.elim
  rename_i kvs ekv
  split at P3
  rotate_left
  · exact P3.elim
  rename_i hz
  obtain ⟨hk, hz⟩ := hz
  obtain ⟨l, nk, rfl, e5, e6⟩ := okX_at hk
  obtain ⟨xs, _, nd, h1, h2⟩ := S4.at_ _ _ _ (kvX_at ekv) hp4
  have r2' := RRV.ext S2 (x4) r2
  obtain ⟨b, vs, rfl, r7⟩ := id r2'
  refine ⟨b, xs, nk, rfl, ⟨n0, h1, by rw [h2.len, sLine_eq]; omega, fun pins s I => ⟨dx_of hw I h1 nd h2, nk_is I e5 r2' rfl, e6⟩⟩, fun q v ea rv => ?_, fun q ea => h2.rel ea, fun ea => ?_⟩
  · cases ed : dvV kvs (.tup l) with
    | none => rw [(h2.val e5).2 ed] at ea; cases ea
    | some d0 =>
      obtain ⟨q', v', f1, f2, f3⟩ := (h2.val e5).1 d0 ed
      rw [f1] at ea
      cases ea
      obtain rfl := f2.inj rv
      rw [ed] at P3
      exact P3 ρ4 _ _ x4 S4 f3
  · cases ed : dvV kvs (.tup l) with
    | some d0 =>
      obtain ⟨q', v', f1, _⟩ := (h2.val e5).1 d0 ed
      rw [f1] at ea; cases ea
    | none =>
      rw [ed] at P3
      exact P3 ρ4 _ _ x4 S4 r4
end
end Ev

/-! ## Ev10 -/
set_option Elab.async false
set_option linter.all false
set_option maxRecDepth 100000
/-! Ev10: the denotation of the syntax, and that it is sound. -/
namespace Ev
open PySem PySem.Spec PyProof.Rows L2

abbrev EE := SEnv → Store → R RV
abbrev ET := SEnv → Store → R Bool
abbrev EA := SEnv → Store → R (List D)
abbrev EB := SEnv → Store → R (List RV)
abbrev EW := SEnv → Store → R Walk
def eBad : EE := fun _ _ => .bad
def tBad : ET := fun _ _ => .bad
def wBad : EW := fun _ _ => .bad
def sBad : SS := fun _ _ => .bad
/-- what is known of a def: how many parameters, the defaults of the last ones, what it does -/
structure FnI where
  np : Nat
  dfl : List D
  sem : List D → Store → R RV
/-- what is known of the text's own classes: plain fields, methods, properties, what makes an instance -/
structure OB where
  flt : FTab
  mth : List (Str × (Str × FnI))
  prp : List (Str × (Str × FnI))
  mks : List (Str × FnI)
  exi : List (Str × Str)
  lam : Bool
  idx : List Str
  /-- whether the def's dicts have keys that are tuples, nested, by a variable -/
  dx : Bool
def OB.nil : OB := ⟨[], [], [], [], [], false, [], false⟩
/-- what is known of the place of a piece of syntax -/
structure SC where
  N : List Str
  scope : Scope
  fn : Str → Bool
  fns : List (Str × FnI)
  cst : List (Str × D)
  blt : List Str
  exs : List Str
  trs : List (Str × List (Str × Bool))
  iss : List (Str × List (Str × Bool))
  ers : List (Str × List Str)
  dct : List (Str × Tab)
  dk : Bool
  ob : OB
/-! ### syntax -/
def noStar : Expr → Bool
  | .Starred .. => false
  | _ => true
def noSlice : Expr → Bool
  | .Slice .. => false
  | _ => true
def noComp : Expr → Bool
  | .ListComp .. => false
  | .SetComp .. => false
  | .DictComp .. => false
  | _ => true
def noTuple : Expr → Bool
  | .Tuple .. => false
  | _ => true
def noSet : Expr → Bool
  | .Set .. => false
  | _ => true
def plainTest : Expr → Bool
  | .UnaryOp .. => false
  | .BoolOp .. => false
  | .IfExp .. => false
  | .Compare .. => false
  | _ => true
def plainBase : Expr → Bool
  | .Call _ args _ _ => !args.isEmpty
  | _ => true
theorem star_cons {e : Expr} {es : List Expr} {env : Env} (h : noStar e = true) : starEach (e :: es) env = (false, eval e env) :: starEach es env := by
  cases e <;> first | rfl | cases h
theorem star_any {es : List Expr} {env : Env} {pos : Pos} (h : es.all noStar = true) : (backTo pos (starEach es env)).any (·.1) = false := by
  induction es with
  | nil => rfl
  | cons e es ih =>
    simp only [List.all_cons, Bool.and_eq_true] at h
    rw [star_cons h.1]
    show (false || (backTo pos (starEach es env)).any (·.1)) = false
    rw [ih h.2]; rfl
theorem ix_plain {b : Expr} (h : noSlice b = true) : PlainIx b := by
  cases b <;> first | exact fun _ _ => rfl | cases h
theorem base_plain {o : Expr} {name : Str} {env : Env} (h : plainBase o = true) : attributeBase o name env (eval o env) = eval o env := by
  cases o with
  | Call f args kws p =>
    cases args with
    | nil => cases h
    | cons a as => cases f <;> rfl
  | _ => rfl
theorem test_plain {e : Expr} {env : Env} (h : plainTest e = true) (whole : Sem Value) : isTrue e env whole = (do let v ← whole; standAt e.pos; holding [v] (truthy v)) := by
  cases e <;> first | rfl | cases h
theorem folded_plain {e : Expr} {env : Env} (h : noSet e = true) (x : Value) : foldedSetIterable e env x = pure x := by
  cases e <;> first | rfl | cases h
theorem swaps_plain {e : Expr} {t : Option Expr} {l : Nat} {env : Env} (h : noComp e = true) : swapsWith e t l env = pure false := by
  cases e <;> first | rfl | cases h
theorem stores_plain {t : Expr} {e : Expr} {env : Env} (h : noTuple e = true) : swappedStores [t] e env = pure none := by
  cases t <;> cases e <;> first | rfl | cases h
theorem marks_plain {op : CmpOp} {e : Expr} (h : noSet e = true) : behindInMarks op e = false := by
  cases e <;> first | rfl | cases h
/-! ### what holds of the place -/
structure FnFact (μ : Bool) (P : Program) (w : World) (K : PySem.W.Frag) (mg : Str → Option Value) (base : Heap) (cl : CT) (k : Nat) (x : Str) (i : FnI) : Prop where
  ex : ∃ (f : Addr) (fd : FuncData) (ps : List Str) (j : Nat) (dv : List V) (ud : List Value), j ≤ k ∧ FnG μ P w K mg base j f fd ps (spD K cl i.np i.sem) ∧ mg x = some (.ref f) ∧ PySem.W.keepIn K (.ref f) = true ∧ Binds K fd ps [] ∧ Binds K fd ps ud ∧ Vals dv ud ∧ ∀ ρ H, RDs K ρ H i.dfl dv
/-- what is known of a class of exceptions of the text (no __init__ of its own) -/
structure ExF (K : PySem.W.Frag) (mg : Str → Option Value) (cl : CT) (x : Str) : Prop where
  ex : ∃ (C : Addr) (bmB : List Value) (B newId initId : String), ExcBaseFacts B newId initId bmB ∧ PySem.W.excIn K C bmB newId = true ∧ mg x = some (.ref C) ∧ PySem.W.keepIn K (.ref C) = true ∧ PySem.W.subIn K (.ref C) (.type "BaseException") = some true ∧ PySem.W.typeIn K (.ref C) = some (.type "type") ∧ cl x = some C
  nd : (x == ("__debug__" : Str)) = false
/-- what is known of the class that an except clause names: which of the text's classes it takes -/
structure TrF (K : PySem.W.Frag) (mg : Str → Option Value) (cl : CT) (x : Str) (tab : List (Str × Bool)) : Prop where
  ex : ∃ C : Addr, mg x = some (.ref C) ∧ ∀ y b, tab.lookup y = some b → ∀ Cy, cl y = some Cy → PySem.W.exmOne K (.ref Cy) (.ref C) = some b
  nd : (x == ("__debug__" : Str)) = false
/-- what is known of a class that isinstance names: which of the text's classes of errors are below it -/
structure IsF (K : PySem.W.Frag) (mg : Str → Option Value) (cl : CT) (c : Str) (tab : List (Str × Bool)) : Prop where
  ex : ∃ (v : V) (cv : Value), (mg c = some cv ∨ (mg c = none ∧ bootBuiltins c = some cv ∧ c ≠ "__name__")) ∧ RelV v cv ∧ (∀ u, RelV v u → u = cv) ∧ ∀ y b, tab.lookup y = some b → ∀ Cy, cl y = some Cy → PySem.W.kitOne K (.ref Cy) cv = some b
  nd : (c == ("__debug__" : Str)) = false
/-- a class of errors of the text: what isinstance and a field's reading ask -/
structure ErrC (K : PySem.W.Frag) (C : Addr) : Prop where
  cl : (PySem.W.clsIn K C).isSome = true
  ga : PySem.W.findIn K (.ref C) "__getattribute__" = some (some (.builtin "BaseException.__getattribute__"))
  gg : PySem.W.findIn K (.ref C) "__getattr__" = some none
  sb : PySem.W.subIn K (.ref C) (.type "BaseException") = some true
  ca : PySem.W.findIn K (.ref C) "__class__" = some (some (.builtin "object.__class__"))
  sp : PySem.W.specialIn K (.builtin "object.__class__") "__get__" = some (some (.builtin "getset_descriptor.__get__"))
  tk : PySem.W.takesIn K (.builtin "object.__class__") = some true
  mo : PySem.W.mroIn K C (.type "object") = some true
  hd : PySem.W.hasDictIn K C = true
structure ErF (K : PySem.W.Frag) (cl : CT) (y : Str) (fl : List Str) : Prop where
  ex : ∀ Cy, cl y = some Cy → ErrC K Cy ∧ ∀ f, f ∈ fl → PySem.W.findIn K (.ref Cy) f = some none
structure MthF (μ : Bool) (P : Program) (w : World) (K : PySem.W.Frag) (mg : Str → Option Value) (base : Heap) (cl : CT) (k : Nat) (m c : Str) (i : FnI) : Prop where
  ex : ∃ (C f : Addr) (fd : FuncData) (ps : List Str) (j : Nat), j ≤ k ∧ cl c = some C ∧ Cls K C ∧ Meth K C m f ∧ FnG μ P w K mg base j f fd ps (spD K cl i.np i.sem) ∧ Binds K fd ps []
structure PrpF (μ : Bool) (P : Program) (w : World) (K : PySem.W.Frag) (mg : Str → Option Value) (base : Heap) (cl : CT) (k : Nat) (x c : Str) (i : FnI) : Prop where
  ex : ∃ (C p f : Addr) (fd : FuncData) (ps : List Str) (j : Nat), j + 1 ≤ k ∧ cl c = some C ∧ Cls K C ∧ PropOf K C x p f ∧ FnG μ P w K mg base j f fd ps (spD K cl 1 i.sem) ∧ Binds K fd ps []
structure MkF (μ : Bool) (P : Program) (w : World) (K : PySem.W.Frag) (mg : Str → Option Value) (base : Heap) (cl : CT) (k : Nat) (x : Str) (i : FnI) : Prop where
  ex : ∃ (C f : Addr) (fd : FuncData) (ps : List Str) (j : Nat), j + 1 ≤ k ∧ cl x = some C ∧ mg x = some (.ref C) ∧ Mk K C f ∧ FnG μ P w K mg base j f fd ps (spD K cl i.np i.sem) ∧ Binds K fd ps []
structure ObF (μ : Bool) (P : Program) (w : World) (K : PySem.W.Frag) (mg : Str → Option Value) (base : Heap) (cl : CT) (k : Nat) (ob : OB) : Prop where
  flt : FldF K cl ob.flt
  mth : ∀ m c i, ob.mth.lookup m = some (c, i) → MthF μ P w K mg base cl k m c i
  prp : ∀ x c i, ob.prp.lookup x = some (c, i) → PrpF μ P w K mg base cl k x c i
  mks : ∀ x i, ob.mks.lookup x = some i → MkF μ P w K mg base cl k x i
  exi : ∀ x f, ob.exi.lookup x = some f → 1 ≤ k ∧ ExiF P w K mg base cl x f
  idx : ∀ x, x ∈ ob.idx → IdxF K mg x
  hs : ob.dx = true → cl.hs = NestedKey.hash w
theorem ObF.nil {P : Program} {w : World} {K : PySem.W.Frag} {mg : Str → Option Value} {base : Heap} {cl : CT} {k : Nat} : ObF μ P w K mg base cl k OB.nil :=
  ⟨⟨fun _ _ h => by cases h⟩, fun _ _ _ h => by (cases h), fun _ _ _ h => by (cases h), (fun _ _ h => by (cases h)), (fun _ _ h => by (cases h)), (fun _ h => by cases h), fun h => by cases h⟩
/-- a def that makes lambdas: its code object, and the table that it writes in -/
structure LamF (mg : Str → Option Value) (base : Heap) (cl : CT) (cdv : Value) (qual : Str) : Prop where
  ex : ∃ c P, LamX.TabB base mg c P ∧ cdv = .ref c ∧ (P, qual ++ "<lambda>") ∈ cl.tabs ∧ ∀ z ∈ cl.tabs, z.1 = P → z.2 = qual ++ "<lambda>"
structure Fit (μ : Bool) (sc : SC) (k : Nat) (cl : CT) (X : Cx) : Prop where
  N : X.N = sc.N
  nd : sc.N.Nodup
  sco : X.env.scope = sc.scope
  fn : X.fn = sc.fn
  calm : X.calm = true
  room : Room k X.A
  gd : X.A.guards = some []
  kind : sc.scope.kind = .function
  fns : ∀ x i, sc.fns.lookup x = some i → FnFact μ X.prog X.w X.K X.mg X.base cl k x i
  cst : ∀ x d, sc.cst.lookup x = some d → ∃ v u, X.mg x = some u ∧ RelV v u ∧ ∀ ρ H, RD X.K ρ H d v
  blt : ∀ x, x ∈ sc.blt → X.mg x = none ∧ x ≠ "__name__" ∧ (x == ("__debug__" : Str)) = false
  exs : ∀ x, x ∈ sc.exs → ExF X.K X.mg cl x
  trs : ∀ x tab, sc.trs.lookup x = some tab → μ = false ∧ TrF X.K X.mg cl x tab
  iss : ∀ x tab, sc.iss.lookup x = some tab → IsF X.K X.mg cl x tab
  ers : ∀ y fl, sc.ers.lookup y = some fl → ErF X.K cl y fl
  dct : ∀ x tab, sc.dct.lookup x = some tab → DctF X.K X.w X.mg x tab
  ob : ObF μ X.prog X.w X.K X.mg X.base cl k sc.ob
  lam : sc.ob.lam = true → LamF X.mg X.base cl X.env.code X.env.qual
def posOf (N : List Str) (x : Str) : Option Nat := N.findIdx? (fun y => decide (y = x))
def dunder (x : Str) : Bool := (x == ("__debug__" : Str)) || (x == ("__classdict__" : Str))
def visI (sc : SC) (x : Str) : Option Nat := if dunder x then none else match sc.scope.names.lookup x with
  | some .local => posOf sc.N x
  | some .cell => posOf sc.N x
  | some .free => posOf sc.N x
  | _ => none
def locI (sc : SC) (x : Str) : Option Nat := match sc.scope.names.lookup x with
  | some .local => posOf sc.N x
  | some .cell => if sc.fn x then posOf sc.N x else none
  | _ => none
def isGl (sc : SC) (x : Str) : Bool := match sc.scope.names.lookup x with
  | some .globalImplicit => true
  | _ => false
def isBlt (sc : SC) (x : Str) : Bool := isGl sc x && sc.blt.contains x
theorem posOf_ok {N : List Str} {x : Str} {i : Nat} (h : posOf N x = some i) : N[i]? = some x := by
  unfold posOf at h
  rw [List.findIdx?_eq_some_iff_getElem] at h
  obtain ⟨hi, h1, _⟩ := h
  rw [List.getElem?_eq_getElem hi]
  simpa using h1
section
variable {sc : SC} {k : Nat} {cl : CT} {X : Cx} {x : Str} {i : Nat}
theorem Fit.vis (F : Fit μ sc k cl X) (h : visI sc x = some i) : X.N[i]? = some x ∧ Vis X.env.scope x ∧ (x == ("__debug__" : Str)) = false ∧ (x == ("__classdict__" : Str)) = false := by
  unfold visI at h
  split at h
  · cases h
  · rename_i hd
    have hd' : dunder x = false := by simpa using hd
    simp only [dunder, Bool.or_eq_false_iff] at hd'
    rw [F.N, F.sco]
    split at h
    · rename_i e; exact ⟨posOf_ok h, .inl e, hd'⟩
    · rename_i e; exact ⟨posOf_ok h, .inr (.inl e), hd'⟩
    · rename_i e; exact ⟨posOf_ok h, .inr (.inr e), hd'⟩
    · cases h
theorem Fit.loc (F : Fit μ sc k cl X) (h : locI sc x = some i) : X.N[i]? = some x ∧ Loc X.env.scope x ∧ (X.fn x = true ∨ X.env.scope.names.lookup x = some .local) := by
  unfold locI at h
  rw [F.N, F.sco, F.fn]
  split at h
  · rename_i e; exact ⟨posOf_ok h, .inl e, .inr e⟩
  · rename_i e
    split at h
    · rename_i hf; exact ⟨posOf_ok h, .inr e, .inl hf⟩
    · cases h
  · cases h
theorem Fit.gl (F : Fit μ sc k cl X) (h : isGl sc x = true) : Gl X x := by
  unfold isGl at h
  split at h
  · rename_i e
    show X.env.scope.names.lookup x = _
    rw [F.sco]; exact e
  · cases h
theorem Fit.bl (F : Fit μ sc k cl X) (h : isBlt sc x = true) : Gl X x ∧ X.mg x = none ∧ x ≠ "__name__" ∧ (x == ("__debug__" : Str)) = false := by
  unfold isBlt at h
  simp only [Bool.and_eq_true] at h
  obtain ⟨h1, h2, h3⟩ := F.blt x (by simpa using h.2)
  exact ⟨F.gl h.1, h1, h2, h3⟩
theorem Fit.u64 (F : Fit μ sc k cl X) : X.A.units + 64 < cLine := F.room.units
theorem Fit.u65 (F : Fit μ sc k cl X) : X.A.units + 65 < cLine := by have := F.room.un; omega
theorem Fit.u66 (F : Fit μ sc k cl X) : X.A.units + 66 < cLine := by have := F.room.un; omega
end
/-! ### targets -/
def tgNames (sc : SC) : List Expr → Option (List Nat)
  | [] => some []
  | .Name x _ :: es => match locI sc x, tgNames sc es with
    | some i, some is => some (i :: is)
    | _, _ => none
  | _ => none
def tgOf (sc : SC) : Expr → Option Tg
  | .Name x _ => (locI sc x).map .one
  | .Tuple es _ _ => (tgNames sc es).map .many
  | _ => none
section
variable {sc : SC} {k : Nat} {cl : CT} {X : Cx}
theorem names_ok (F : Fit μ sc k cl X) : ∀ {es : List Expr} {is : List Nat}, tgNames sc es = some is → PGs X es (gNames is) ∧ (assignEach es X.env).length = is.length ∧ (assignEach es X.env).findIdx? (·.1) = none
  | [], is, h => by
    cases h
    exact ⟨pgs_nil, rfl, rfl⟩
  | e :: es, is, h => by
    cases e with
    | Name x p =>
      simp only [tgNames] at h
      split at h
      · rename_i i is' h1 h2
        cases h
        obtain ⟨a, b, c⟩ := names_ok F h2
        obtain ⟨q1, q2, q3⟩ := F.loc h1
        refine ⟨pgs_cons (pg_name (by rw [F.N]; exact F.nd) q1 q2 q3) a rfl, congrArg (· + 1) b, ?_⟩
        show ((false, assign (.Name x p) X.env) :: assignEach es X.env).findIdx? (·.1) = none
        rw [List.findIdx?_cons]
        simp only [Bool.false_eq_true, if_false, c]
        rfl
      · cases h
    | _ => cases h
theorem tg_ok (F : Fit μ sc k cl X) {e : Expr} {t : Tg} (h : tgOf sc e = some t) : PG X e (t.g X.K) := by
  cases e with
  | Name x p =>
    simp only [tgOf] at h
    cases hl : locI sc x with
    | none => rw [hl] at h; cases h
    | some i =>
      rw [hl] at h
      cases h
      obtain ⟨q1, q2, q3⟩ := F.loc hl
      exact pg_name (by rw [F.N]; exact F.nd) q1 q2 q3
  | Tuple es kk p =>
    simp only [tgOf] at h
    cases hl : tgNames sc es with
    | none => rw [hl] at h; cases h
    | some is =>
      rw [hl] at h
      cases h
      obtain ⟨a, b, c⟩ := names_ok F hl
      exact pg_tup F.calm a b c
  | _ => cases h
end
/-! ### operators by their signs -/
noncomputable def binOf : Operator → Option (RV → RV → Store → Option RV)
  | .Add => some dAdd
  | .Sub => some dSub
  | .Mult => some dMulS
  | .FloorDiv => some dDiv
  | .Mod => some dMod
  | .Pow => some dPow
  | _ => none
noncomputable def cmpOf : CmpOp → Option (RV → RV → Store → Option RV)
  | .Eq => some dEq
  | .NotEq => some dNe
  | .Lt => some dLt
  | .LtE => some dLe
  | .Gt => some dGt
  | .GtE => some dGe
  | .Is => some dIsN
  | .IsNot => some dNotN
  | .In => some dIn
  | .NotIn => some dNotIn
theorem binOf_ok {X : Cx} {cl : CT} {op : Operator} {g : RV → RV → Store → Option RV} (h : binOf op = some g) : OpR X (binaryOp op) (rP2 X.K cl g) := by
  cases op <;> first | (cases h; done) | (cases h; first | exact opd_add | exact opd_sub | exact opd_mulS | exact opd_div | exact opd_mod | exact opd_pow)
theorem cmpOf_ok {X : Cx} {cl : CT} (hu65 : X.A.units + 65 < cLine) {op : CmpOp} {g : RV → RV → Store → Option RV} (h : cmpOf op = some g) : OpR X (compareOp op) (rP2 X.K cl g) := by
  have hu : X.A.units + 64 < cLine := Nat.lt_of_succ_lt hu65
  cases op <;> first | (cases h; done) | (cases h; first | exact opd_in hu65 | exact opd_notIn hu65 | exact opd_eq hu | exact opd_ne hu | exact opd_lt hu | exact opd_le | exact opd_gt | exact opd_ge | exact opd_isN | exact opd_notN)
/-- by what the def's dicts are -/
noncomputable def cmpX (dx : Bool) (op : CmpOp) : Option (RV → RV → Store → Option RV) := match dx, op with
  | true, .In => some dInX
  | true, .NotIn => some dNotInX
  | _, op => cmpOf op
theorem cmpX_ok {X : Cx} {cl : CT} {dx : Bool} (hu65 : X.A.units + 65 < cLine) (hs : dx = true → cl.hs = NestedKey.hash X.w) {op : CmpOp} {g : RV → RV → Store → Option RV} (h : cmpX dx op = some g) : OpR X (compareOp op) (rP2 X.K cl g) := by
  unfold cmpX at h
  split at h
  · cases h; exact opd_inX hu65 (hs rfl)
  · cases h; exact opd_notInX hu65 (hs rfl)
  · exact cmpOf_ok hu65 h
noncomputable def ixX : Bool → RV → RV → Store → Option RV
  | true => dIxX
  | false => dIx
/-! ### lists of expressions -/
def listA (f : Expr → EE) : List Expr → EA
  | [] => aNil
  | e :: es => aCons (f e) (listA f es)
def listB (f : Expr → EE) : List Expr → EB
  | [] => bNil
  | e :: es => bCons (f e) (listB f es)
section
variable {X : Cx} {cl : CT} {W : WX} {f : Expr → EE}
theorem listA_ok (h : ∀ e, PE X e (tF X.K cl W (f e))) : ∀ {es : List Expr}, es.all noStar = true → PA X es (tA1 X.K cl W (listA f es))
  | [], _ => da_nil
  | e :: es, hs => by
    simp only [List.all_cons, Bool.and_eq_true] at hs
    exact da_cons (h e) (listA_ok h hs.2) (star_cons hs.1)
theorem listB_ok (h : ∀ e, PE X e (tF X.K cl W (f e))) : ∀ {es : List Expr}, es.all noStar = true → PA X es (tG X.K cl W (relR X.K) (listB f es))
  | [], _ => db_nil
  | e :: es, hs => by
    simp only [List.all_cons, Bool.and_eq_true] at hs
    exact db_cons (h e) (listB_ok h hs.2) (star_cons hs.1)
theorem listA_len : ∀ {es : List Expr} {env : SEnv} {st : Store} {ds : List D} {st1 : Store}, listA f es env st = .ok ds st1 → ds.length = es.length
  | [], env, st, ds, st1, h => by cases h; rfl
  | e :: es, env, st, ds, st1, h => by
    simp only [listA, aCons] at h
    cases h1 : f e env st with
    | ok a s1 =>
      rw [h1, R.bind_ok] at h
      cases h2 : mat a s1 with
      | ok d s2 =>
        rw [h2, R.bind_ok] at h
        cases h3 : listA f es env s2 with
        | ok ds' s3 =>
          rw [h3, R.bind_ok] at h
          cases h
          rw [List.length_cons, List.length_cons, listA_len h3]
        | exc x s => rw [h3] at h; cases h
        | bad => rw [h3] at h; cases h
      | exc x s => rw [h2] at h; cases h
      | bad => rw [h2] at h; cases h
    | exc x s => rw [h1] at h; cases h
    | bad => rw [h1] at h; cases h
theorem bad_e {e : Expr} : PE X e (tF X.K cl W eBad) := ⟨fun _ _ _ _ _ _ ⟨_, _, _, _, _, P⟩ => P.elim⟩
theorem bad_t {e : Expr} : PT X e (tB1 X.K cl W tBad) := ⟨fun _ _ _ _ _ _ ⟨_, _, _, _, _, P⟩ => P.elim⟩
theorem bad_w {tg e : Expr} : PI X tg e (tI X.K cl W wBad) := ⟨fun _ _ _ _ _ _ ⟨_, _, _, _, _, P⟩ => P.elim⟩
theorem bad_s {s : Stmt} : PS X s (tS X.K cl W sBad) := ⟨fun _ _ _ _ _ _ ⟨_, _, _, _, _, P⟩ => P.elim⟩
end
/-! ### built-ins by their names -/
inductive BK where
  | fn (id : String) (g : List RV → Store → Option RV) | ty (T : String) (g : List RV → Store → Option RV)
def bltOf2 (x : Str) : Option BK :=
  if x = "sum" then some (.fn "sum" (g1 dSum))
  else if x = "sorted" then some (.fn "sorted" (g1 dSorted))
  else if x = "any" then some (.fn "any" (g1 dAny))
  else if x = "all" then some (.fn "all" (g1 dAll))
  else if x = "str" then some (.ty "str" (g1 dStr))
  else none
def bltOf (x : Str) (n : Nat) : Option BK :=
  if x = "len" then some (.fn "len" (g1 dLen))
  else if x = "abs" then some (.fn "abs" (g1 dAbs))
  else if x = "int" then some (.ty "int" (g1 dInt))
  else if x = "tuple" then some (.ty "tuple" (g1 dTuple))
  else if x = "list" then some (.ty "list" (g1 dList))
  else if x = "repr" then some (.fn "repr" (g1 dRepr))
  else if x = "max" then if n = 2 then some (.fn "max" (g2 dMax2)) else some (.fn "max" (g1 dMax1))
  else if x = "min" then if n = 2 then some (.fn "min" (g2 dMin2)) else some (.fn "min" (g1 dMin1))
  else bltOf2 x
def BK.g : BK → List RV → Store → Option RV
  | .fn _ g => g
  | .ty _ g => g
def BK.val : BK → Value
  | .fn id _ => .builtin id
  | .ty T _ => .type T
theorem bltOf2_ok {sc : SC} {k : Nat} {cl : CT} {X : Cx} (F : Fit μ sc k cl X) {x : Str} {b : BK} (h : bltOf2 x = some b) : bootBuiltins x = some b.val ∧ CallR X b.val (rPN X.K cl b.g) := by
  unfold bltOf2 at h
  split at h
  · rename_i e; cases h; subst e; exact ⟨by decide +kernel, cd_sum F.calm⟩
  split at h
  · rename_i e; cases h; subst e; exact ⟨by decide +kernel, cd_sorted F.calm F.u64⟩
  split at h
  · rename_i e; cases h; subst e; exact ⟨by decide +kernel, cd_any F.calm⟩
  split at h
  · rename_i e; cases h; subst e; exact ⟨by decide +kernel, cd_all F.calm⟩
  split at h
  · rename_i e; cases h; subst e; exact ⟨by decide +kernel, cd_str⟩
  cases h
theorem bltOf_ok {sc : SC} {k : Nat} {cl : CT} {X : Cx} (F : Fit μ sc k cl X) {x : Str} {n : Nat} {b : BK} (h : bltOf x n = some b) : bootBuiltins x = some b.val ∧ CallR X b.val (rPN X.K cl b.g) := by
  unfold bltOf at h
  split at h
  · rename_i e; cases h; subst e; exact ⟨PySem.boot_len, cd_len⟩
  split at h
  · rename_i e; cases h; subst e; exact ⟨by decide +kernel, cd_abs⟩
  split at h
  · rename_i e; cases h; subst e; exact ⟨by decide +kernel, cd_int⟩
  split at h
  · rename_i e; cases h; subst e; exact ⟨by decide +kernel, cd_tuple F.calm⟩
  split at h
  · rename_i e; cases h; subst e; exact ⟨by decide +kernel, cd_list⟩
  split at h
  · rename_i e; cases h; subst e; exact ⟨by decide +kernel, cd_repr F.gd F.u66⟩
  split at h
  · rename_i e
    split at h
    · cases h; subst e; exact ⟨by decide +kernel, cd_max2 F.calm⟩
    · cases h; subst e; exact ⟨by decide +kernel, cd_max1 F.calm F.u64⟩
  split at h
  · rename_i e
    split at h
    · cases h; subst e; exact ⟨by decide +kernel, cd_min2 F.calm⟩
    · cases h; subst e; exact ⟨by decide +kernel, cd_min1 F.calm⟩
  exact bltOf2_ok F h
/-- the classes that isinstance asks for -/
def isiT (x : Str) : Option String :=
  if x = "int" then some "int" else if x = "str" then some "str" else if x = "tuple" then some "tuple" else if x = "list" then some "list" else if x = "bool" then some "bool" else none
theorem isiT_ok {x : Str} {T : String} (h : isiT x = some T) : isiKnown T ∧ bootBuiltins x = some (.type T) := by
  unfold isiT at h
  split at h
  · rename_i e; cases h; subst e; exact ⟨isi_int, by decide +kernel⟩
  split at h
  · rename_i e; cases h; subst e; exact ⟨isi_str, by decide +kernel⟩
  split at h
  · rename_i e; cases h; subst e; exact ⟨isi_tuple, by decide +kernel⟩
  split at h
  · rename_i e; cases h; subst e; exact ⟨isi_list, by decide +kernel⟩
  split at h
  · rename_i e; cases h; subst e; exact ⟨isi_bool, by decide +kernel⟩
  cases h
theorem boot_isi : bootBuiltins ("isinstance" : Str) = some (.builtin "isinstance") := by decide +kernel
/-! ### chains a < b < c -/
def eChain (g g' : RV → RV → Store → Option RV) (fa fb fc : EE) : EE := fun env st => (fa env st).bind fun a st1 => (fb env st1).bind fun b st2 => match g a b st2 with
  | some (.v (.bl c)) => if c = true then (fc env st2).bind fun c st3 => match g' b c st3 with
      | some (.v (.bl r)) => .ok (.v (.bl r)) st3
      | _ => .bad
    else .ok (.v (.bl false)) st2
  | _ => .bad
section
variable {X : Cx} {cl : CT} {W : WX} {a b c : Expr} {fa fb fc : EE} {g g' : RV → RV → Store → Option RV} {op op' : CmpOp} {pos : Pos}
theorem w_chain {K : PySem.W.Frag} (σ : L2.St) (H : Hp) (Q : VK) (h : tF K cl W (eChain g g' fa fb fc) σ H Q) : tChain (rP2 K cl g) (rP2 K cl g') (tF K cl W fa) (tF K cl W fb) (tF K cl W fc) σ H Q := by
  obtain ⟨ρ, env, st, S, E, P⟩ := h
  refine ⟨ρ, env, st, S, E, (Post.bind backV P).mono ?_⟩
  rintro x H1 ⟨ρ1, st1, a, x1, S1, r1, P1⟩
  have E1 := E.mono (x1.mono S)
  refine ⟨ρ1, env, st1, S1, E1, (Post.bind backV P1).mono ?_⟩
  rintro y H2 ⟨ρ2, st2, b, x2, S2, r2, P2⟩
  split at P2
  rotate_left
  · exact P2.elim
  rename_i k e
  refine ⟨ρ2, st2, a, b, H, H1, S2, RRV.ext S1 x2 r1, r2, _, e, fun ρ' H' v x3 S3 r3 => ?_⟩
  cases r3
  refine ⟨k, rfl, ?_⟩
  have P3 := Post.from backV S3 x3 P2
  cases k with
  | false =>
    rw [if_neg Bool.false_ne_true] at P3 ⊢
    exact P3 ρ' H' _ (Ext.refl _ _) S3 rfl
  | true =>
    rw [if_pos rfl] at P3 ⊢
    refine ⟨ρ', env, st2, S3, (E1.mono (x2.mono S1)).mono (x3.mono S2), (Post.bind backV P3).mono ?_⟩
    rintro z H4 ⟨ρ4, st4, c, x4, S4, r4, P4⟩
    split at P4
    · rename_i k' e'
      exact ⟨ρ4, st4, b, c, H1, H', S4, RRV.ext S3 x4 (RRV.ext S2 x3 r2), r4, _, e', P4⟩
    · exact P4.elim
theorem de_chain (ho : OpR X (compareOp op) (rP2 X.K cl g)) (ho' : OpR X (compareOp op') (rP2 X.K cl g')) (ha : PE X a (tF X.K cl W fa)) (hb : PE X b (tF X.K cl W fb)) (hc : PE X c (tF X.K cl W fc)) (hm : noSet c = true) :
    PE X (.Compare a [op, op'] [b, c] pos) (tF X.K cl W (eChain g g' fa fb fc)) := PEw (pe_chain ho ho' ha hb hc (marks_plain hm)) w_chain
theorem dt_chain (ho : OpR X (compareOp op) (rP2 X.K cl g)) (ho' : OpR X (compareOp op') (rP2 X.K cl g')) (ha : PE X a (tF X.K cl W fa)) (hb : PE X b (tF X.K cl W fb)) (hc : PE X c (tF X.K cl W fc)) (hm : noSet c = true) :
    PT X (.Compare a [op, op'] [b, c] pos) (tB1 X.K cl W (eBool (eChain g g' fa fb fc))) := PTw (pt_chain ho ho' ha hb hc (marks_plain hm)) (w_bool w_chain)
end
end Ev

/-! ## Ev9r -/
set_option Elab.async false
set_option linter.all false
set_option maxRecDepth 100000
/-! Ev9r: xs[::-1] of tuples. -/
namespace HT
open PySem PyProof.Rows
section
open PySem.SeqAt
open PySem.AutoSeq1 (wpAny_loadPart')
open PySem.MeetsSeq PySem.MeetsSeq2 PySem.MeetsSeq3
variable {prog : Program} {w : World} {A : Around} {E : Value → Shared → Prop} {s : Shared}
theorem adjust_rev (n : Nat) : Builtin.Slice.sliceAdjust none none (-1) (n : Int) = ((n : Int) - 1, -1) := rfl
theorem places_rev (n : Nat) : Builtin.Slice.slicePlaces ((n : Int) - 1) (-1) (-1) = n := by
  unfold Builtin.Slice.slicePlaces
  have h1 : ¬ ((-1 : Int) > 0) := by omega
  simp only [h1, if_false, Int.neg_neg, Int.ediv_one]
  split <;> omega
theorem sliceApplied_rev {sl : Addr} {vs : Value} {n : Nat} {Q : Int × Int × Nat → Shared → Prop} (hs : s.heap.IsSliceOf sl .none .none vs) (pk : IsPart vs (some (-1)))
    (h : Q ((n : Int) - 1, -1, n) s) : wpAny (model prog w) A (Builtin.Slice.sliceApplied (.ref sl) (pure (n : Int))) Q E s := by
  obtain ⟨os, hos, hcs, hds⟩ := id hs
  unfold Builtin.Slice.sliceApplied Builtin.Slice.sliceFields
  refine wpAny_bind (wpAny_bind (wpAny_field hos hds (x := .none) rfl (wpAny_bind (wpAny_field hos hds (x := .none) rfl (wpAny_bind (wpAny_field hos hds (x := vs) rfl (wpAny_pure ?_)))))))
  refine wpAny_bind (slicePart_ pk ?_)
  show wpAny _ _ (if ((-1 : Int) == 0) = true then _ else _) _ _ s
  rw [if_neg (by decide)]
  refine wpAny_bind (slicePart_none (wpAny_bind (slicePart_none (wpAny_bind (wpAny_pure ?_)))))
  show wpAny _ _ (match Builtin.Slice.sliceAdjust none none (-1) (n : Int) with | (lo, hi) => pure (lo, (-1 : Int), Builtin.Slice.slicePlaces lo hi (-1))) _ _ s
  rw [adjust_rev n]
  show wpAny _ _ (pure ((n : Int) - 1, (-1 : Int), Builtin.Slice.slicePlaces ((n : Int) - 1) (-1) (-1))) _ _ s
  rw [places_rev]
  exact wpAny_pure h
theorem fm_congr {α β : Type} {f g : α → Option β} : ∀ {l : List α}, (∀ x ∈ l, f x = g x) → l.filterMap f = l.filterMap g
  | [], _ => rfl
  | a :: l, h => by
    rw [List.filterMap_cons, List.filterMap_cons, h a (List.mem_cons_self ..), fm_congr fun x hx => h x (List.mem_cons_of_mem _ hx)]
theorem pick_rev (l : List Value) : ((List.range l.length).filterMap fun (m : Nat) => l.toArray[((l.length : Int) - 1 + (m : Int) * (-1)).toNat]?) = l.reverse := by
  have e : (List.range l.length).filterMap (fun (m : Nat) => l.toArray[((l.length : Int) - 1 + (m : Int) * (-1)).toNat]?) = (List.range l.length).filterMap fun m => l.reverse[m]? := by
    refine fm_congr fun m hm => ?_
    have := List.mem_range.mp hm
    rw [List.getElem?_reverse this]
    have e1 : ((l.length : Int) - 1 + (m : Int) * (-1)).toNat = l.length - 1 - m := by omega
    rw [e1]
    simp
  rw [e]
  have : ∀ r : List Value, (List.range r.length).filterMap (fun m => r[m]?) = r := by
    intro r
    induction r with
    | nil => rfl
    | cons a r ih =>
      rw [List.length_cons, List.range_succ_eq_map, List.filterMap_cons]
      simp only [List.getElem?_cons_zero, List.filterMap_map]
      congr 1
  have q := this l.reverse
  rwa [List.length_reverse] at q
theorem getItem_tuple_rev {t sl : Addr} {items : List Value} {vs : Value} {Q : Value → Shared → Prop} (ht : IsTup s.heap t items.toArray) (hs : s.heap.IsSliceOf sl .none .none vs) (pk : IsPart vs (some (-1)))
    (h : Q (.ref s.heap.objs.size) { s with heap := s.heap.push { cls := .type "tuple", data := .seq items.reverse.toArray } })
    (hsz : items.length ≤ sizeLine) : wpAny (model prog w) A (getItem (.ref t) (.ref sl)) Q E s := by
  have htake : sizeOk (.seq items.reverse.toArray) := by
    show items.reverse.toArray.size ≤ sizeLine
    rw [List.size_toArray, List.length_reverse]
    exact hsz
  obtain ⟨os, hos, hcs, hds⟩ := id hs
  have hTs : s.TypeIs (.ref sl) "slice" := ⟨os, hos, hcs⟩
  unfold getItem
  try with_reducible refine wpAny_holding ?_
  first | refine wpAny_bind (wpAny_pure ?_) | skip
  refine wpAny_bind (wpAny_sequenceKey ht.typeIs (by decide) ?_)
  refine wpAny_bind (wpAny_callSpecial?_slot (name := Str.ofString "__getitem__") ht.typeIs PyProof.Rows.slot_tuple_getitem
    (wpAny_call_entry PyProof.Rows.slot_tuple_getitem ht.typeIs entry_tuple_getitem ?_ (args_tuple_getitem _ _)))
  show wpAny _ _ (Builtin.Tuple.tupleItemsOf (.ref t) >>= _) _ _ s
  refine wpAny_bind (tupleItemsOf_ ht ?_)
  refine wpAny_bind (wpAny_typeOf hTs ?_)
  rw [if_pos (by decide), List.size_toArray]
  refine wpAny_bind (sliceApplied_rev hs pk ?_)
  have hno : ¬ ((((items.length : Int) - 1) == 0 && (-1 : Int) == 1 && items.length == items.length) = true) := by
    intro q
    rw [Bool.and_eq_true, Bool.and_eq_true] at q
    have := q.1.2
    revert this
    decide
  show wpAny _ _ (if ((((items.length : Int) - 1) == 0 && (-1 : Int) == 1 && items.length == items.length) = true) then _ else _) _ _ s
  rw [if_neg hno, pick_rev]
  first
    | exact wpAny_bind (m := Builtin.Tuple.tupleExact _) (wpAny_newObj_type (wpAny_pure ⟨_, rfl, wpAny_pure h⟩) htake)
    | exact wpAny_bind (m := Builtin.Tuple.tupleExact _) (wpAny_newObj_type (wpAny_bind (wpAny_pure (wpAny_pure ⟨_, rfl, wpAny_pure h⟩))) htake)
    | exact wpAny_bind (wpAny_bind (m := Builtin.Tuple.tupleExact _) (wpAny_newObj_type (wpAny_pure (wpAny_pure ⟨_, rfl, wpAny_pure h⟩)) htake))
    | exact wpAny_bind (wpAny_bind (m := Builtin.Tuple.tupleExact _) (wpAny_newObj_type (wpAny_pure ⟨_, rfl, wpAny_pure h⟩) htake))
end
end HT
namespace L2
open PySem PySem.Spec PyProof.Rows
section
variable {X : Cx}
def tRevA (K : PySem.W.Frag) (te : TE) : TE := fun σ H Q => te σ H fun x H1 => (∃ a xs, x = .ref a ∧ SqL K H1 a xs ∧ ∀ p, H1 p = none → Q (.ref p) (upd H1 p (.lst xs.reverse))) ∨ ∃ a xs, x = .ref a ∧ SqT K H1 a xs ∧ ∀ p, H1 p = none → Q (.ref p) (upd H1 p (.tup xs.reverse))
theorem pe_revA {e : Expr} {te : TE} {k : Nat} {p1 p2 p3 pos : Pos} (he : PE X e te) : PE X (.Subscript e (.Slice none none (some (.UnaryOp .USub (.Constant (.int 1) k p1) p2)) p3) pos) (tRevA X.K te) := by
  refine ⟨fun pins s σ H Q I h => ?_⟩
  refine Subscript_ (thn (he.run pins s σ H _ I h) fun v s1 ⟨x, H1, I1, r1, q1⟩ => ?_)
  have hst : PO X (some (.UnaryOp .USub (.Constant (.int 1) k p1) p2)) (tPart (tUn (rU fun i => .int (-i)) (tC (.int 1)))) := po_some (pe_un un_neg pe_int)
  refine wpAny_Slice (thn (po_none.run pins s1 σ H1 (fun o H2 => o = none ∧ H2 = H1) I1 ⟨rfl, rfl⟩) fun vl s2 ⟨l, H2, I2, pl, el, e2⟩ => ?_)
  subst el e2
  refine thn (po_none.run pins s2 σ H2 (fun o H3 => o = none ∧ H3 = H2) I2 ⟨rfl, rfl⟩) fun vu s3 ⟨u, H3, I3, pu, eu, e3⟩ => ?_
  subst eu e3
  refine thn (hst.run pins s3 σ H3 (fun o H4 => o = some (-1) ∧ H4 = H3) I3 ⟨1, rfl, -1, rfl, rfl, rfl⟩) fun vs s4 ⟨o, H4, I4, ps, eo, e4⟩ => ?_
  subst eo e4
  have I5 : Inv X pins σ H4 { s4 with heap := s4.heap.push { cls := .type "slice", data := .fields #[vl, vu, vs] } } := I4.kept (t' := s4.toks) fun b ob q => Heap.get?_push_of_some _ q
  rcases q1 with ⟨a, xs, ex, hx, q⟩ | ⟨a, xs, ex, hx, q⟩
  · subst ex
    cases r1
    obtain ⟨its, r, ht, hz⟩ := I5.list hx
    have hlen := r.length
    show wpAny (model X.prog X.w) X.A (subscriptTail e (.Slice none none (some (.UnaryOp .USub (.Constant (.int 1) k p1) p2)) p3) (.ref a) (.ref s4.heap.objs.size)) (EP X pins σ Q) X.xe { s4 with heap := s4.heap.push { cls := .type "slice", data := .fields #[vl, vu, vs] } }
    refine tail_any (ops := [.ref a, .ref s4.heap.objs.size]) ht.isList.typeIs (PySem.slot_list_getitem.lookup) ?_ (by with_unfolding_all rfl)
    refine wpAny_getItem_list_slice ht.isList (Heap.IsSliceOf.new _ vl vu vs) pl pu ps (by decide) ?_ (by rw [List.size_toArray]; omega)
    rw [PySem.W.krv_pick]
    refine ⟨.ref _, _, I5.laid (t' := s4.toks) (o := .lst xs.reverse) (fun b ob q => Heap.get?_push_of_some _ q) (Nat.le_refl _) ?_, rfl, q _ (I5.hok.fresh (Nat.le_refl _))⟩
    exact ⟨by rw [List.length_reverse]; exact hz, _, 0, r.reverse, Heap.get?_push_size _ rfl⟩
  · subst ex
    cases r1
    cases pl
    cases pu
    obtain ⟨its, r, ht, hz⟩ := I5.tuple hx
    have hlen := r.length
    show wpAny (model X.prog X.w) X.A (subscriptTail e (.Slice none none (some (.UnaryOp .USub (.Constant (.int 1) k p1) p2)) p3) (.ref a) (.ref s4.heap.objs.size)) (EP X pins σ Q) X.xe { s4 with heap := s4.heap.push { cls := .type "slice", data := .fields #[.none, .none, vs] } }
    refine tail_any (ops := [.ref a, .ref s4.heap.objs.size]) ht.typeIs (PyProof.Rows.slot_tuple_getitem.lookup) ?_ (by with_unfolding_all rfl)
    refine HT.getItem_tuple_rev ht (Heap.IsSliceOf.new _ .none .none vs) ps ?_ (by omega)
    refine ⟨.ref _, _, I5.laid (t' := s4.toks) (o := .tup xs.reverse) (fun b ob q => Heap.get?_push_of_some _ q) (Nat.le_refl _) ?_, rfl, q _ (I5.hok.fresh (Nat.le_refl _))⟩
    exact ⟨by rw [List.length_reverse]; exact hz, _, r.reverse, IsTup.new _ _⟩
end
end L2
namespace Ev
open PySem L2 PySem.Spec
def eRevA (fa : SEnv → Store → R RV) : SEnv → Store → R RV := fun env st => (fa env st).bind fun a st1 => match a with
  | .v (.tup l) => .ok (.v (.tup l.reverse)) st1
  | a => match lstV st1 a with
    | some l => .ok (.t l.reverse) st1
    | none => .bad
section
variable {X : Cx} {cl : CT} {W : WX} {e : Expr} {fa : SEnv → Store → R RV} {pos : Pos}
theorem de_revA {k : Nat} {p1 p2 p3 : Pos} (ha : PE X e (tF X.K cl W fa)) : PE X (.Subscript e (.Slice none none (some (.UnaryOp .USub (.Constant (.int 1) k p1) p2)) p3) pos) (tF X.K cl W (eRevA fa)) := by
  refine PEw (pe_revA ha) fun σ H Q ⟨ρ, env, st, S, E, P⟩ => ?_
  refine ⟨ρ, env, st, S, E, (Post.bind backV P).mono ?_⟩
  rintro x H1 ⟨ρ1, st1, a', x1, S1, r1, P1⟩
  split at P1
  · rename_i l
    obtain ⟨p', vs, e, h1, h2⟩ := r1
    subst e
    exact .inr ⟨p', vs, rfl, h1, fun n hn => fin_tup S1 (o := some (.v (.tup l.reverse))) ⟨_, rfl, P1⟩ rfl h2.reverse hn⟩
  · split at P1
    · rename_i l hl
      obtain ⟨p, vs, rfl, h1, h2⟩ := lstV_ok S1 r1 hl
      exact .inl ⟨p, vs, rfl, h1, fun n hn => fin_new S1 P1 h2.reverse hn⟩
    · exact P1.elim
end
end Ev

/-! ## Ev9s -/
set_option Elab.async false
set_option linter.all false
set_option maxRecDepth 100000
/-! Ev9s: a written dict of texts and ints. -/
namespace Ev
open PySem PySem.Spec PyProof.Rows L2
def dlitK : List (Option Expr) → List Expr → Option (List (Str × Int))
  | [], [] => some []
  | some (.Constant (.str s) _ _) :: ks, .Constant (.int i) _ _ :: vs => (dlitK ks vs).map fun l => (s, i) :: l
  | _, _ => none
def dlitO (ks : List (Option Expr)) (vs : List Expr) : Option (List (Str × Int)) := match dlitK ks vs with
  | some l => if l.length ≤ 15 ∧ l ≠ [] ∧ (l.map Prod.fst).Nodup then some l else none
  | none => none
def dlC (l : List (Str × Int)) : List (D × D) := l.map fun p => (.str p.1.cps.toList, .int p.2)
def eDLit (l : List (Str × Int)) : SEnv → Store → R RV := fun _ st => .ok (.v (.ref st.length)) (st ++ [.dict false (dlC l)])
section
variable {X : Cx} {cl : CT} {W : WX} {pos : Pos}
theorem dlit_pps : ∀ {ks : List (Option Expr)} {vs : List Expr} {l : List (Str × Int)}, dlitK ks vs = some l → PPs X pos ks vs (l.map fun p => (tC (.str p.1), tC (.int p.2))) ∧ ks.all (·.isSome) = true ∧ ks.length = vs.length ∧ ks.length = l.length := by
  intro ks
  induction ks with
  | nil =>
    intro vs l h
    cases vs with
    | nil => cases h; exact ⟨pps_nil, rfl, rfl, rfl⟩
    | cons v vs => simp [dlitK] at h
  | cons k ks ih =>
    intro vs l h
    unfold dlitK at h
    split at h
    · rename_i e2
      cases e2
    · rename_i xv s j1 p1 ks' i j2 p2 vs' e2
      cases e2
      cases hq : dlitK ks vs' with
      | none => rw [hq] at h; cases h
      | some l' =>
        rw [hq] at h
        cases h
        obtain ⟨a, b, c, d⟩ := ih hq
        exact ⟨pps_cons pe_str pe_int a, by rw [List.all_cons, b]; rfl, by rw [List.length_cons, List.length_cons, c], by rw [List.length_cons, List.length_cons, d]⟩
    · cases h
theorem dlit_tp {σ : L2.St} : ∀ (l : List (Str × Int)) {H : Hp} {Q : List (V × V) → Hp → Prop}, Q (l.map fun p => (V.str p.1, V.int p.2)) H → tPairs (l.map fun p => (tC (.str p.1), tC (.int p.2))) σ H Q
  | [], H, Q, q => q
  | p :: l, H, Q, q => dlit_tp l (Q := fun ps H3 => Q ((V.str p.1, V.int p.2) :: ps) H3) q
theorem merge_new : ∀ (kvs acc : List (L2.Key × V)), ((acc ++ kvs).map (·.1)).Nodup → mergeK acc kvs = acc ++ kvs
  | [], acc, _ => by rw [List.append_nil]; rfl
  | p :: kvs, acc, h => by
    have h1 : valV acc p.1 = none := by
      unfold valV
      rw [Option.map_eq_none_iff, List.find?_eq_none]
      intro q hq
      simp only [decide_eq_true_eq]
      intro e
      rw [List.map_append, List.nodup_append] at h
      exact h.2.2 q.1 (List.mem_map_of_mem hq) p.1 (List.mem_map_of_mem (List.mem_cons_self ..)) e
    show mergeK (putK acc p.1 p.2) kvs = _
    rw [putK_new p.2 h1, merge_new kvs (acc ++ [(p.1, p.2)]) (by rw [List.append_assoc]; exact h), List.append_assoc]
    rfl
theorem dlit_rkv {K : PySem.W.Frag} {ρ : List Addr} {H : Hp} : ∀ l : List (Str × Int), RKV K ρ H (dlC l) (l.map fun p => ((.inr p.1 : L2.Key), V.int p.2))
  | [] => rfl
  | p :: l => ⟨.inr p.1, V.int p.2, _, rfl, by
    have := RKey.str p.1.cps.toList
    exact this, rfl, dlit_rkv l⟩
theorem de_dlit {ks : List (Option Expr)} {vs : List Expr} {l : List (Str × Int)} (h : dlitO ks vs = some l) : PE X (.Dict ks vs pos) (tF X.K cl W (eDLit l)) := by
  unfold dlitO at h
  split at h
  · rename_i l' hl
    split at h
    · rename_i hc
      cases h
      obtain ⟨pp, a, b, c⟩ := dlit_pps (X := X) (pos := pos) hl
      refine PEw (pe_disp pp a b (fun e => hc.2.1 (List.length_eq_zero_iff.mp (by rw [← c, e]; rfl))) (by rw [c]; exact hc.1)) fun σ H Q ⟨ρ, env, st, S, E, P⟩ p hp => ?_
      refine dlit_tp l ⟨upd_same, l.map (fun p => ((.inr p.1 : L2.Key), V.int p.2)), ?_, ?_, ?_⟩
      · rw [List.map_map]; rfl
      · rw [List.length_map]; exact hc.1
      · have nd : ((([] : List (L2.Key × V)) ++ l.map (fun p : Str × Int => ((.inr p.1 : L2.Key), V.int p.2))).map (·.1)).Nodup := by
          rw [List.nil_append, List.map_map]
          have : (l.map fun p => (Sum.inr p.1 : L2.Key)) = (l.map Prod.fst).map Sum.inr := by rw [List.map_map]; rfl
          show (l.map fun p => (Sum.inr p.1 : L2.Key)).Nodup
          rw [this]
          exact List.Pairwise.map _ (fun x y hxy z => hxy (Sum.inr.inj z)) hc.2.2
        rw [merge_new _ _ nd, List.nil_append]
        have eq : ∀ o : HO, upd (upd H p (.dK [])) p o = upd H p o := fun o => by
          funext b
          by_cases hb : b = p
          · rw [hb, upd_same, upd_same]
          · rw [upd_ne hb, upd_ne hb, upd_ne hb]
        rw [eq]
        have x : Ext ρ H (ρ ++ [p]) (upd H p (.dK (l.map fun p => ((.inr p.1 : L2.Key), V.int p.2)))) := Ext.grow (Ext.new hp) hp
        have S1 : RS X.K ρ (upd H p (.dK (l.map fun p => ((.inr p.1 : L2.Key), V.int p.2)))) cl st := S.new hp
        have np : p ∉ ρ := fun z => by
          obtain ⟨u, e, _⟩ := S.obj z
          rw [hp] at e; cases e
        refine P (ρ ++ [p]) _ (.ref p) x (S1.grow np (.inl ⟨rfl, _, upd_same, dlit_rkv l⟩)) ⟨p, rfl, ?_⟩
        rw [← S.len, List.getElem?_append_right (Nat.le_refl _)]
        simp
    · cases h
  · cases h
end
end Ev

/-! ## Ev9t -/
set_option Elab.async false
set_option linter.all false
set_option maxRecDepth 100000
/-! Ev9t: list(range(i, j, -1)). -/
namespace Ev
open PySem PySem.Spec PyProof.Rows L2
def rgDV (i : Int) (n : Nat) : List V := (List.range n).map fun k => V.int (i + ((k : Nat) : Int) * (-1))
def rngD (i : Int) (n : Nat) : List D := (List.range n).map fun k => D.int (i - ((k : Nat) : Int))
def rgOkD (i j : Int) : Prop := -(2 ^ 62) ≤ i ∧ i < 2 ^ 62 ∧ -(2 ^ 62) ≤ j ∧ j < 2 ^ 62 ∧ (i - j).toNat ≤ sLine
section
variable {X : Cx}
def tLstRg3 (ta : TA) : TE := fun σ H Q => ta σ H fun vs H1 => ∃ i j, vs = [.int i, .int j, .int (-1)] ∧ rgOkD i j ∧ ∀ q, H1 q = none → Q (.ref q) (upd H1 q (.lst (rgDV i (i - j).toNat)))
theorem pe_listRg3 {a b c : Expr} {ta : TA} {p p2 pos pos2 : Pos} (hc : X.calm = true) (hg : Gl X "list") (hm : X.mg "list" = none) (hg2 : Gl X "range") (hm2 : X.mg "range" = none) (ha : PA X [a, b, c] ta)
    (hs : starEach [a, b, c] X.env = (false, eval a X.env) :: starEach [b, c] X.env) (hpl : (backTo pos2 (starEach [b, c] X.env)).any (·.1) = false)
    (na : starEach [.Call (.Name "range" p2) [a, b, c] [] pos2] X.env = (false, eval (.Call (.Name "range" p2) [a, b, c] [] pos2) X.env) :: starEach [] X.env) :
    PE X (.Call (.Name "list" p) [.Call (.Name "range" p2) [a, b, c] [] pos2] [] pos) (tLstRg3 ta) := by
  refine ⟨fun pins s σ H Q I h => ?_⟩
  have rg : wpAny (model X.prog X.w) X.A (eval (.Call (.Name "range" p2) [a, b, c] [] pos2) X.env) (fun x s' => ∃ r i j t u v H', x = .ref r ∧ IsRange s'.heap r i j (-1) t u v ∧ Inv X pins σ H' s' ∧ rgOkD i j ∧ ∀ q, H' q = none → Q (.ref q) (upd H' q (.lst (rgDV i (i - j).toNat)))) X.xe s := by
    refine Call_ (ld_blt I hg2 hm2 boot_range (PyProof.Rows.callWith_type1 (thn (ha.run pos2 pins s σ H _ I h) fun us s1 ⟨vs, H1, I1, r1, q1⟩ => ?_) hs hpl))
    obtain ⟨i, j, e, hb, q⟩ := q1
    subst e
    cases r1 with
    | cons r rr =>
      cases rr with
      | cons r' rr =>
        cases rr with
        | cons r'' rr =>
          cases rr
          obtain ⟨t, rfl⟩ := r
          obtain ⟨t', rfl⟩ := r'
          obtain ⟨t'', rfl⟩ := r''
          refine call_range_3 (by decide) ?_ (.inl (PyProof.noPylong_small (by decide)))
          exact ⟨_, i, j, _, _, _, H1, rfl, IsRange.new _ _ _ _ _ _ _, I1.kept fun b u e => Heap.get?_push_of_some _ e, hb, q⟩
  refine Call_ (ld_blt I hg hm boot_list (PyProof.Rows.callWith_type1 (args_cons (thn rg fun x s1 ⟨r, i, j, t, u, v, H1, ex, hr, I1, ok, q⟩ => args_nil ?_) na) na))
  subst ex
  obtain ⟨b1, b2, b3, b4, b5⟩ := ok
  have b6 : (i - j).toNat ≤ 2 ^ 24 := b5
  obtain ⟨_, _, c2, c3⟩ := RgC.neg b1 b2 b3 b4
  refine call_list_range (n := (i - j).toNat) (I1.ok.hd hc) hr c2 c3 b6 fun h' tk acc c' hk e' hi => ?_
  have hv : Vals (rgDV i (i - j).toNat) acc.toList := by
    have e : acc.toList.length = (i - j).toNat := by rw [Array.length_toList]; exact hi.1
    unfold rgDV
    rw [← e]
    refine vals_of_get acc.toList _ fun k u hk => ?_
    obtain ⟨t, rfl⟩ := hi.2 k u (by rw [← hk, Array.getElem?_toList])
    exact ⟨t, rfl⟩
  refine ⟨.ref s1.heap.objs.size, upd H1 s1.heap.objs.size (.lst (rgDV i (i - j).toNat)), I1.laid hk (Nat.le_refl _) (show ObjOk X.prog X.w _ _ _ (.lst (rgDV i (i - j).toNat)) from ⟨?_, acc.toList, c', hv, ?_⟩), rfl, q _ (I1.hok.fresh (Nat.le_refl _))⟩
  · unfold rgDV
    rw [List.length_map, List.length_range, sizeLine_eq]; exact b6
  · rw [Array.toArray_toList]; exact e'
end
open Classical in
noncomputable def eRg3 (fr : SEnv → Store → R (List D)) : SEnv → Store → R RV := fun env st => (fr env st).bind fun l st1 => match l with
  | [.int i, .int j, .int k] => if k = -1 ∧ rgOkD i j then .ok (.t (rngD i (i - j).toNat)) st1 else .bad
  | _ => .bad
theorem rgD_RDs {K : PySem.W.Frag} {ρ : List Addr} {H : Hp} (i : Int) (n : Nat) : RDs K ρ H (rngD i n) (rgDV i n) := by
  have e : rngD i n = ((List.range n).map fun (k : Nat) => i - (k : Int)).map D.int := by unfold rngD; rw [List.map_map]; rfl
  have e2 : rgDV i n = ((List.range n).map fun (k : Nat) => i - (k : Int)).map V.int := by
    unfold rgDV
    rw [List.map_map]
    refine List.map_congr_left fun k _ => ?_
    simp only [Function.comp]
    rw [show i + (k : Int) * (-1) = i - (k : Int) by omega]
  rw [e, e2]
  exact int_RDs _ _ _ _
section
variable {X : Cx} {cl : CT} {W : WX} {a b c : Expr} {fr : SEnv → Store → R (List D)} {p p2 pos pos2 : Pos}
theorem de_rg3 (hc : X.calm = true) (hg : Gl X "list") (hm : X.mg "list" = none) (hg2 : Gl X "range") (hm2 : X.mg "range" = none) (ha : PA X [a, b, c] (tA1 X.K cl W fr))
    (hs : starEach [a, b, c] X.env = (false, eval a X.env) :: starEach [b, c] X.env) (hpl : (backTo pos2 (starEach [b, c] X.env)).any (·.1) = false)
    (na : starEach [.Call (.Name "range" p2) [a, b, c] [] pos2] X.env = (false, eval (.Call (.Name "range" p2) [a, b, c] [] pos2) X.env) :: starEach [] X.env) :
    PE X (.Call (.Name "list" p) [.Call (.Name "range" p2) [a, b, c] [] pos2] [] pos) (tF X.K cl W (eRg3 fr)) := by
  refine PEw (pe_listRg3 hc hg hm hg2 hm2 ha hs hpl na) fun σ H Q ⟨ρ, env, st, S, E, P⟩ => ?_
  refine ⟨ρ, env, st, S, E, (Post.bind backV P).mono ?_⟩
  rintro x H1 ⟨ρ1, st1, l, x1, S1, r1, P1⟩
  split at P1
  · rename_i i j k
    split at P1
    · rename_i hj
      obtain ⟨rfl, hj⟩ := hj
      obtain ⟨v1, r, rfl, e1, v2, r', rfl, e2, v3, r'', rfl, e3, rfl⟩ := r1
      cases e1; cases e2; cases e3
      exact ⟨i, j, rfl, hj, fun q hq => fin_new S1 P1 (rgD_RDs i _) hq⟩
    · exact P1.elim
  · exact P1.elim
end
end Ev

/-! ## Ev9y -/
set_option Elab.async false
set_option linter.all false
set_option maxRecDepth 100000
set_option maxHeartbeats 1000000
/-! Ev9y: min(x, key=lambda q: (len(q), q)) of a list of texts. -/
namespace Ev
open PySem PySem.Spec PyProof.Rows L2
abbrev lamBodyL (q : Str) (p1 p2 p3 p4 p5 : Pos) (j : Nat) : Expr := .Tuple [.Call (.Name "len" p1) [.Name q p2] [] p3, .Name q p4] j p5
abbrev lamScopeL (q : Str) : Scope := { kind := .function, names := [(q, .local), (("len" : Str), .globalImplicit)], isGenerator := false, isCoroutine := false }
/-- the key as the lambda lays it -/
def KeyAt (l : Addr) (x : List Nat) (h : Heap) : Prop := ∃ (u t : Tok) (n : Nat), h.get? l = some (seqObj "tuple" #[.int (x.length : Int) u, .str ⟨x.toArray⟩ t] n)
section
variable {prog : Program} {w : World} {A : Around} {s : Shared} {q nm : Str} {pp p1 p2 p3 p4 p5 : Pos} {j : Nat} {cl : List (Str × Addr)} {pm ctv : Value} {c' f : Addr} {t : Tok} {x : List Nat} {mg mb : Str → Option Value}
theorem lamL_call (hr : A.depth < recursionLimit) (hlim : s.heap.NoLimit)
    (hf : s.heap.get? f = some (PySem.W.kla_obj "<lambda>" nm (lamArgs q pp) (lamBodyL q p1 p2 p3 p4 p5 j) (lamScopeL q) cl pm c' ctv)) (hc : s.heap.CodeRec (.ref c') nm)
    (hg : s.heap.Ns mainGlobals mg) (hm : mg "len" = none) (hb : s.heap.Ns builtinsNs mb) (hv : mb "len" = some (.builtin "len")) (hz : x.length ≤ 100000)
    (nq : (q == ("__debug__" : Str)) = false) (nl : (("len" : Str) == q) = false) :
    wpAny (model prog w) A (call (.ref f) [.str ⟨x.toArray⟩ t]) (fun v s' => ∃ h' tk l, v = .ref l ∧ s' = { s with heap := h', toks := tk } ∧ s.toks ≤ tk ∧ (∀ b o, s.heap.get? b = some o → h'.get? b = some o) ∧ (∀ b o, s.heap.get? b = some o → b < l) ∧ KeyAt l x h') (fun _ _ => False) s := by
  refine wpAny_call (codeAny_mono (R := fun z s' => ∃ v, z = .ok (.ret v) ∧ ∃ h' tk l, v = .ref l ∧ s' = { s with heap := h', toks := tk } ∧ s.toks ≤ tk ∧ (∀ b o, s.heap.get? b = some o → h'.get? b = some o) ∧ (∀ b o, s.heap.get? b = some o → b < l) ∧ KeyAt l x h') ?_ fun z s' h => ?_)
  · refine PySem.W.kla_callFunE hr hf rfl rfl rfl rfl hc ?_
    refine wpAny_of_eq bind_lam ?_
    refine wpAny_newFunctionEnv (fun y hy => ?_) (fun y hy => ?_) (fun h₁ hns hsb => ⟨hlim.fresh _ hsb, ?_⟩) rfl
    · have : y = (q, NameKind.local) ∨ y = (("len" : Str), NameKind.globalImplicit) := by simpa using hy
      rcases this with e | e <;> (rw [e]; intro z; cases z)
    · have : y = (q, Value.str ⟨x.toArray⟩ t) := by simpa using hy
      rw [this]; simp [PySem.W.kla_fn, List.lookup]
    have kp : ∀ b o, s.heap.get? b = some o → h₁.get? b = some o := fun b o e => hsb.extBut b o (Nat.ne_of_lt (Heap.lt_size e)) (Heap.get?_push_of_some _ e)
    refine PySem.W.kla_codeExpr ?_
    have lv : ([(q, Value.str ⟨x.toArray⟩ t)].reverse.lookup q) = some (.str ⟨x.toArray⟩ t) := by simp [List.lookup]
    have lq : (lamScopeL q).names.lookup q = some .local := by simp [List.lookup]
    have ln : (lamScopeL q).names.lookup ("len" : Str) = some .globalImplicit := by simp [List.lookup, nl]
    have hlen : (⟨x.toArray⟩ : Str).length = x.length := rfl
    have h63 : ¬ (((⟨x.toArray⟩ : Str).length : Int) ≥ 2 ^ 63) := by rw [hlen]; omega
    refine wpAny_Tuple (Calls.spliced_cons (PyProof.Rows.Call_Name1 (Calls.Name_function_global rfl (by show (lamScopeL q).names.lookup ("len" : Str) = _; exact ln) (Calls.loadGlobal_builtin (hg.keeps kp) hm (hb.keeps kp) hv ?_))))
    refine PySem.callWith_builtin1 (wpAny_Name (wpAny_loadName_local rfl (by show (lamScopeL q).names.lookup q = _; exact lq) hns lv ?_) nq)
    refine len_str h63 ?_
    refine Calls.spliced_cons (wpAny_Name (wpAny_loadName_local rfl (by show (lamScopeL q).names.lookup q = _; exact lq) hns lv ?_) nq)
    refine Calls.spliced_nil ⟨by show 2 ≤ sizeLine; decide, _, rfl, _, _, _, rfl, rfl, ?_, fun b o e => Heap.get?_push_of_some _ (kp b o e), fun b o e => Heap.lt_size (kp b o e), ?_⟩
    · show s.toks ≤ s.toks + _ + 1 + 1
      omega
    · exact ⟨_, _, _, Heap.get?_push_size _ rfl⟩
  · obtain ⟨v, rfl, h⟩ := h
    exact h
end
/-! ### the run -/
def shl (x y : List Nat) : Bool := ltA ((x.length : Int), x) ((y.length : Int), y)
def minSL (x : List Nat) (xs : List (List Nat)) : List Nat := xs.foldl (fun a y => if shl y a then y else a) x
def dMinSL (a : RV) (st : Store) : Option RV := match lstV st a with
  | some l => match strsOf l with
    | some (x :: xs) => if (x :: xs).all (fun y => decide (y.length ≤ 100000)) = true then some (.v (.str (minSL x xs))) else none
    | _ => none
  | none => none
theorem KeyAt.reads {l : Addr} {x : List Nat} {h : Heap} (k : KeyAt l x h) : Reads h (.ref l) (tupK (x.length : Int) ⟨x.toArray⟩) [] := by
  obtain ⟨u, t, n, e⟩ := k
  exact .tuple (as := []) e rfl rfl (.cons (as := []) (.int _ _) (.cons (as := []) (.str _ _) .nil))
theorem minSL_run {X : Cx} {k : Nat} {t0 : List Nat} {ts : List (List Nat)} {vs : List V} {H : Hp} {pins : List (Addr × Obj)} {s : Shared} {σ : L2.St} {a f cd : Addr} {nm q : Str} {pp p1 p2 p3 p4 p5 : Pos} {j : Nat} {clo : List (Str × Addr)} {pm ctv : Value} {Q : VK}
    (hc : X.calm = true) (hr : Room k X.A) (I : Inv X pins σ H s) (sq : SqL X.K H a vs) (hvs : vs = (t0 :: ts).map fun x => V.str ⟨x.toArray⟩) (hz : ∀ x ∈ t0 :: ts, x.length ≤ 100000)
    (hf : s.heap.get? f = some (PySem.W.kla_obj "<lambda>" nm (lamArgs q pp) (lamBodyL q p1 p2 p3 p4 p5 j) (lamScopeL q) clo pm cd ctv)) (hcr : s.heap.CodeRec (.ref cd) nm) (ml : X.mg "len" = none)
    (nq : (q == ("__debug__" : Str)) = false) (nl : (("len" : Str) == q) = false) (fin : Q (.str ⟨(minSL t0 ts).toArray⟩) H) :
    wpAny (model X.prog X.w) X.A (call (.builtin "min") [.ref a] [(Str.ofString "key", .ref f)]) (EP X pins σ Q) X.xe s := by
  obtain ⟨its, rv, pl, hzz⟩ := I.list sq
  have hh : X.A.handled = none := I.ok.hd hc
  obtain ⟨mb, b1, b2⟩ := I.mod.blt
  have gl := I.mod.glob.keeps I.bk
  have bl := b1.keeps I.bk
  have bv : mb "len" = some (.builtin "len") := (b2 "len" (by decide)).trans PySem.boot_len
  have hn : its.length = ts.length + 1 := by rw [← rv.length, hvs]; simp
  have each : ∀ (i : Nat) (v : Value), its.toArray[i]? = some v → ∃ (x : List Nat) (t : Tok), (t0 :: ts)[i]? = some x ∧ v = .str ⟨x.toArray⟩ t := by
    intro i v hv
    have hv : its[i]? = some v := by simpa using hv
    have hi : i < its.length := (List.getElem?_eq_some_iff.mp hv).1
    have hx : (t0 :: ts)[i]? = some (t0 :: ts)[i] := List.getElem?_eq_getElem (by simp; omega)
    have k1 : vs[i]? = some (V.str ⟨((t0 :: ts)[i]).toArray⟩) := by rw [hvs, List.getElem?_map, hx]; rfl
    obtain ⟨v', k4, k5⟩ := rv.get k1
    rw [hv] at k4
    cases k4
    obtain ⟨t, rfl⟩ := k5
    exact ⟨_, t, hx, rfl⟩
  have gD : ∀ {i : Nat} {x : List Nat}, (t0 :: ts)[i]? = some x → (t0 :: ts).getD i [] = x := fun {i x} h => by rw [List.getD_eq_getElem?_getD, h]; rfl
  refine call_min_walkK (PySem.W.iter_listW (A := X.A.in1) hh pl.isList fun s₂ e2 W st0 hfp hw hk => ?_)
  refine ⟨_, _, _, _, _, _, _, (fun s' => ∃ h' tk, s' = { s with heap := h', toks := tk } ∧ ∀ b o, s.heap.get? b = some o → h'.get? b = some o), (fun i k s' => ∃ l, k = .ref l ∧ s.heap.objs.size + 1 < l ∧ KeyAt l ((t0 :: ts).getD i []) s'.heap), (fun i j => shl ((t0 :: ts).getD i []) ((t0 :: ts).getD j [])), rfl, W, st0, hfp, by simp; omega, ?_, ⟨_, _, e2, fun b o g => Heap.get?_push_of_some _ g⟩, ?_⟩
  · have sz2 : s₂.heap.objs.size = s.heap.objs.size + 1 := by rw [e2]; exact Heap.size_push ..
    refine ⟨?_, ?_, ?_, ?_⟩
    · rintro s1 s2 ⟨h', tk, rfl, keep⟩ m
      obtain ⟨hp, g, d, tk2, os⟩ := s2
      have m1 : g = s.gens := m.gens
      have m2 : d = s.drawn := m.drawn
      have m3 : os = s.os := m.os
      subst m1 m2 m3
      refine ⟨hp, tk2, rfl, fun b o g => m.heap b o (fun hb => ?_) (keep b o g)⟩
      have lb := Heap.lt_size g
      rcases List.mem_cons.mp hb with hb | hb
      · rw [hb.trans sz2] at lb
        exact Nat.lt_irrefl _ (Nat.lt_trans (Nat.lt_succ_self _) lb)
      · rw [List.mem_singleton.mp hb] at lb
        exact Nat.lt_irrefl _ lb
    · rintro i k s1 s2 ⟨l, rfl, hl, u, t, n, e⟩ m
      refine ⟨l, rfl, hl, u, t, n, m.heap _ _ (fun hb => ?_) e⟩
      rcases List.mem_cons.mp hb with hb | hb
      · rw [hb.trans sz2] at hl
        exact Nat.lt_irrefl _ hl
      · rw [List.mem_singleton.mp hb] at hl
        exact Nat.lt_irrefl _ (Nat.lt_trans (Nat.lt_succ_self _) hl)
    · rintro i v s1 o Q1 E1 hi hP ⟨h', tk, rfl, keep⟩ hst hS hQ
      obtain ⟨x, t, k1, rfl⟩ := each i v hP
      refine wpAny_mono (lamL_call (s := { s with heap := h', toks := tk }) (mg := X.mg) (mb := mb) hr.depth (I.nolimit.keeps keep) (keep _ _ hf) ?_ (gl.keeps keep) ml (bl.keeps keep) bv (hz x (List.mem_of_getElem? k1)) nq nl) ?_ fun _ _ h => h.elim
      · obtain ⟨c2, oc, vs2, t2, e0, e1, e2, e3⟩ := hcr
        exact ⟨c2, oc, vs2, t2, e0, keep _ _ e1, e2, e3⟩
      · rintro _ _ ⟨h2, tk2, l, rfl, rfl, le, kp, lt, ka⟩
        refine hQ _ _ ⟨h2, tk2, rfl, fun b o g => kp _ _ (keep b o g)⟩ (W.frame (i + 1) _ h2 tk2 hst le fun b _ o e => kp b o e) (kp _ _ hS) ⟨l, rfl, ?_, by rw [gD k1]; exact ka⟩ ?_
        · have q := lt _ _ hS
          exact lt_of_eq_of_lt sz2.symm q
        · rintro j k' ⟨l', rfl, hl', u, t, n, e⟩
          exact ⟨l', rfl, hl', u, t, n, kp _ _ e⟩
    · rintro i j ki kj s1 Q1 E1 _ ⟨li, rfl, _, ai⟩ ⟨lj, rfl, _, aj⟩ hQ
      refine PySem.W.rcLt_alike (tupK _ _) (tupK _ _) X.A.in1 s1 _ _ _ _ ai.reads aj.reads (by simp [tupK, PySem.W.alike, PySem.W.alikeAll]) (by simp [tupK]) ?_ _ _ _ _ ?_
      · have d1 : ∀ (i : Int) (x : Str), (tupK i x).depth ≤ 1 := fun i x => by simp [tupK, PyData.depth, PyData.depthAll]
        have un := hr.un
        have := d1 (((t0 :: ts).getD i []).length : Int) ⟨((t0 :: ts).getD i []).toArray⟩
        show X.A.units + 1 + _ < cLine
        omega
      · rw [dataLt_is]
        exact hQ
  · rintro v s' hP ⟨h', tk, rfl, keep⟩
    obtain ⟨x, t, k1, rfl⟩ := each _ v hP
    have fo := (PySem.W.argBest_fold shl [] t0 ts ts.length (Nat.le_refl _)).2
    rw [List.take_length] at fo
    have en : its.toArray.size - 1 = ts.length := by simp; omega
    rw [en] at k1
    rw [gD k1] at fo
    have ex : x = minSL t0 ts := fo
    exact ⟨.str ⟨x.toArray⟩, H, I.kept (t' := tk) keep, ⟨t, rfl⟩, by rw [ex]; exact fin⟩
theorem rds_strsV {K : PySem.W.Frag} {ρ : List Addr} {H : Hp} : ∀ {ns : List (List Nat)} {vs : List V}, RDs K ρ H (ns.map D.str) vs → vs = ns.map fun x => V.str ⟨x.toArray⟩
  | [], vs, h => h
  | n :: ns, vs, h => by
    obtain ⟨v, r, rfl, h1, h2⟩ := h
    have h1 : v = V.str ⟨n.toArray⟩ := h1
    rw [h1, rds_strsV h2]
    rfl
section
variable {X : Cx} {cl : CT}
theorem de_minSL {W : WX} {k : Nat} {e : Expr} {fa : SEnv → Store → R RV} {p lpos kp pos pp p1 p2 p3 p4 p5 : Pos} {j : Nat} {q : Str} {c P : Addr} (hc : X.calm = true) (gm : Gl X "min") (mm : X.mg "min" = none) (ml : X.mg "len" = none) (ha : PE X e (tF X.K cl W fa)) (ns : ∀ es, starEach (e :: es) X.env = (false, eval e X.env) :: starEach es X.env)
    (tb : LamX.TabB X.base X.mg c P) (ec : X.env.code = .ref c) (inT : (P, X.env.qual ++ "<lambda>") ∈ cl.tabs) (un1 : ∀ z ∈ cl.tabs, z.1 = P → z.2 = X.env.qual ++ "<lambda>") (hr : Room k X.A) (nq : (q == ("__debug__" : Str)) = false) (nl : (("len" : Str) == q) = false) :
    PE X (.Call (.Name "min" p) [e] [⟨some "key", .Lambda (lamArgs q pp) (lamBodyL q p1 p2 p3 p4 p5 j) (lamScopeL q) lpos, kp⟩] pos) (tF X.K cl W (e1 dMinSL fa)) := by
  refine PEw (t := tUn (rP1 X.K cl dMinSL) (tF X.K cl W fa)) ⟨fun pins s σ H Q I h => ?_⟩ w_op1
  have hA := pa_cons ha pa_nil (ns [])
  refine wpAny_Call_Name_kw (ld_blt I gm mm boot_minL ?_)
  refine PyProof.Rows.callWith_kw (e := e) (rest := []) ?_ (by rw [ns]; rfl) (by rw [ns]; rfl) rfl rfl
  refine thn (hA.run pos pins s σ H (fun vs H1 => ∃ x, vs = [x] ∧ rP1 X.K cl dMinSL x H1 Q) I ?_) fun us s1 ⟨vs, H1, I1, r1, q1⟩ => ?_
  · obtain ⟨ρ, env, st, S, E, P⟩ := h
    exact ⟨ρ, env, st, S, E, P.mono fun x H1 hx => ⟨x, rfl, hx⟩⟩
  obtain ⟨x, rfl, ρ, st, b, H0, S, ra, Pq⟩ := q1
  obtain ⟨u, rfl, rx⟩ := vals1 r1
  obtain ⟨r, hr0⟩ : ∃ r, dMinSL b st = some r := ⟨_, Pq.choose_spec.1⟩
  have hr1 := hr0
  unfold dMinSL at hr1
  split at hr1
  rotate_left
  · cases hr1
  rename_i l hl
  split at hr1
  rotate_left
  · cases hr1
  rename_i t0 ts e3
  split at hr1
  rotate_left
  · cases hr1
  rename_i e4
  cases hr1
  obtain ⟨a, vs, rfl, h1, h2⟩ := lstV_ok S ra hl
  cases rx
  show wpAny _ _ (evalAll [do let v ← eval (.Lambda (lamArgs q pp) (lamBodyL q p1 p2 p3 p4 p5 j) (lamScopeL q) lpos) X.env; standAt pos; pure v]) _ _ s1
  refine wpAny_evalAll_cons (wpAny_bind (lam_mk (T := cl.tabs) rfl I1 tb ec inT un1 S.tab rfl (fun y hy hf => ?_) fun f cd pm ctv H2 s2 I2 g t2 hf hcr => wpAny_bind (wpAny_standAt (wpAny_pure (wpAny_evalAll_nil ?_)))))
  · have : y = (q, NameKind.local) ∨ y = (("len" : Str), NameKind.globalImplicit) := by simpa using hy
    rcases this with z | z <;> (rw [z] at hf; cases hf)
  obtain ⟨S2, x2⟩ := S.tabG g t2
  have seq2 : SqL X.K H2 a vs := by
    rcases h1 with (y | ⟨o, y⟩) | y
    · exact .inl (.inl (g.keep y fun _ z => by cases z))
    · exact .inl (.inr ⟨o, g.keep y fun _ z => by cases z⟩)
    · exact .inr y
  have q2 := Pq.ext x2 S2
  rw [strsOf_ok e3] at h2
  have hvs : vs = (t0 :: ts).map fun x => V.str ⟨x.toArray⟩ := rds_strsV h2
  rw [List.all_eq_true] at e4
  exact minSL_run hc hr I2 seq2 hvs (fun x hx => of_decide_eq_true (e4 x hx)) hf hcr ml nq nl (fin_v S2 q2 hr0 rfl)
end
/-! ### for k in range(i, j, -1) -/
section
variable {X : Cx} {cl : CT} {W : WX} {tg : Expr}
theorem src_rngD {K : PySem.W.Frag} {i : Int} {n : Nat} {gd : Store → Prop} : Src K cl (Itc i (-1) n) (fun _ _ => True) gd (rngD i n) := by
  have hl : (rngD i n).length = n := by simp [rngD]
  refine ⟨fun _ _ _ => trivial, fun {ρ H st k} S r g hi => ?_, fun {ρ H st k} S r g hi => ?_, fun {ρ H st k x H'} S r g y hi => ?_⟩
  · rw [hl] at hi; exact hi
  · rw [hl] at hi; exact hi
  · obtain ⟨rfl, rfl⟩ := y
    refine ⟨.int (i + (k : Int) * (-1)), ?_, Ext.refl _ _, S, rfl⟩
    rw [hl] at hi
    unfold rngD
    rw [List.getElem?_map, List.getElem?_range (by omega)]
    simp only [Option.map_some, Option.some.injEq, D.int.injEq]
    omega
open Classical in
noncomputable def wRng3 (fs : SEnv → Store → R (List RV)) : SEnv → Store → R Walk := fun env st => (fs env st).bind fun as st1 => match as with
  | [.v (.int i), .v (.int j), .v (.int k)] => if k = -1 ∧ rgOkD i j then .ok ⟨rngD i (i - j).toNat, fun _ => True⟩ st1 else .bad
  | _ => .bad
theorem di_rng3 {a b c : Expr} {fs : SEnv → Store → R (List RV)} {p pos : Pos} (hg : Gl X "range") (hm : X.mg "range" = none) (ha : PA X [a, b, c] (tG X.K cl W (relR X.K) fs)) (hs : starEach [a, b, c] X.env = (false, eval a X.env) :: starEach [b, c] X.env) (hpl : (backTo pos (starEach [b, c] X.env)).any (·.1) = false) :
    PI X tg (.Call (.Name "range" p) [a, b, c] [] pos) (tI X.K cl W (wRng3 fs)) := by
  refine PIw (pi_range3 hg hm ha hs hpl) fun σ H Q ⟨ρ, env, st, S, E, P⟩ => ?_
  refine ⟨ρ, env, st, S, E, (PostI.bind (rel := relR X.K) P).mono ?_⟩
  rintro xs H1 ⟨ρ1, st1, as, x1, S1, r1, P1⟩
  split at P1
  · rename_i i j k
    split at P1
    · rename_i hj
      obtain ⟨rfl, b1, b2, b3, b4, b5⟩ := hj
      obtain ⟨v, r, rfl, rv, w, r', rfl, rw', w3, r3, rfl, rw3, rn⟩ := r1
      cases rv; cases rw'; cases rw3
      have : r3 = [] := rn
      subst this
      exact ⟨i, j, -1, _, rfl, RgC.neg b1 b2 b3 b4, P1 ρ1 H1 _ _ x1 S1 src_rngD trivial trivial⟩
    · exact P1.elim
  · exact P1.elim
end
end Ev

/-! ## Ev11 -/
set_option Elab.async false
set_option linter.all false
set_option maxRecDepth 100000
/-! Ev11: the denotation. -/
namespace Ev
open PySem PySem.Spec PyProof.Rows L2

def orE : List EE → EE
  | [] => eBad
  | [f] => f
  | f :: fs => eOr f (orE fs)
def andE : List EE → EE
  | [] => eBad
  | [f] => f
  | f :: fs => eAnd f (andE fs)
def orT : List ET → ET
  | [] => tBad
  | [f] => f
  | f :: fs => tOrB f (orT fs)
def andT : List ET → ET
  | [] => tBad
  | [f] => f
  | f :: fs => tAndB f (andT fs)
/-- the names that a comprehension's block has for itself -/
def ownOf (N : List Str) (scope : Scope) : List (Str × Nat) := scope.names.filterMap fun y => match y.2 with
  | .local => (posOf N y.1).map fun i => (y.1, i)
  | .cell => (posOf N y.1).map fun i => (y.1, i)
  | _ => none
def SC.blk (sc : SC) (scope : Scope) : SC := { sc with scope := relS scope sc.scope, fn := fun x => scope.names.lookup x == some .cell, ob := { sc.ob with lam := false } }
def kindOk (s : Scope) : Bool := match s.kind with
  | .function => true
  | _ => false
noncomputable def compD (sc : SC) (w : EW) (tg : Expr) (tt : Option ET) (scope : Scope) (fe : EE) : EE :=
  match tgOf (sc.blk scope) tg, tt with
  | some t, some tt => if blkC sc.N sc.scope scope (ownOf sc.N scope) && kindOk scope && t.ix.all fun i => ((ownOf sc.N scope).map (·.2)).contains i then eComp w t tt ((ownOf sc.N scope).map (·.2)) fe else eBad
  | _, _ => eBad
/-- a dict comprehension -/
noncomputable def dcompD (sc : SC) (w : EW) (tg : Expr) (tt : Option ET) (scope : Scope) (fk fv : EE) : EE :=
  match tgOf (sc.blk scope) tg, tt with
  | some t, some tt => if blkC sc.N sc.scope scope (ownOf sc.N scope) && kindOk scope && t.ix.all fun i => ((ownOf sc.N scope).map (·.2)).contains i then eDComp w t tt ((ownOf sc.N scope).map (·.2)) fk fv else eBad
  | _, _ => eBad
/-- a call of a name -/
noncomputable def callD (sc : SC) (f : Expr → EE) (x : Str) (args : List Expr) : EE :=
  if isGl sc x && args.all noStar && !dunder x then match sc.fns.lookup x with
    | some i => if args.isEmpty then eBad else if args.length = i.np then eCall i.sem [] (listA f args) else if (args.length + i.dfl.length = i.np) then eCall i.sem i.dfl (listA f args) else eBad
    | none => match sc.ob.mks.lookup x with
      | some i => if args.isEmpty then eBad else if args.length + 1 = i.np then eMake x i.sem (listA f args) else eBad
      | none => if isBlt sc x then match args with
      | [] => eBad
      | [a, .Name y _] => if x = "isinstance" then (if isBlt sc y then match isiT y with
          | some T => e1 (dIsi T) (f a)
          | none => eBad else eBad) else match bltOf x 2 with
        | some b => eN b.g (listB f args)
        | none => eBad
      | args => match bltOf x args.length with
        | some b => eN b.g (listB f args)
        | none => eBad
      else eBad
  else eBad
def mtlOf (m : Str) (n : Nat) : Option (List D → List D → Option (D × List D)) :=
  if m = "append" then (if n = 1 then some gAppend else none)
  else if m = "pop" then (if n = 1 then some gPopAt else none)
  else none
def mtsOf (m : Str) : Option (List Nat → List RV → Store → Option RV) :=
  if m = "join" then some gJoin else if m = "find" then some gFind else if m = "startswith" then some gStarts else if m = "partition" then some gPart else none
/-- a look into a written dict: its table, the key, the value if it isn't there -/
def getTab (sc : SC) (o : Expr) (m : Str) (args : List Expr) : Option (Tab × Expr × Expr) := if m = "get" then match o, args with
    | .Name x _, [e, d] => if isGl sc x = true ∧ noStar e = true ∧ noStar d = true then (sc.dct.lookup x).map fun t => (t, e, d) else none
    | _, _ => none else none
/-- CONST[..]: its table -/
def cixT (sc : SC) : Expr → Option Tab
  | .Name x _ => if isGl sc x = true then sc.dct.lookup x else none
  | _ => none
/-- CONST.index(..): the constant -/
def idxT (sc : SC) : Expr → Option (List D)
  | .Name x _ => if isGl sc x = true ∧ dunder x = false ∧ x ∈ sc.ob.idx then (match sc.cst.lookup x with
    | some (.tup l) => some l
    | _ => none) else none
  | _ => none
def methD0 (sc : SC) (f : Expr → EE) (o : Expr) (m : Str) (args : List Expr) : EE :=
  match args with
  | [] => if m = "pop" then eMtL gPop (f o) aNil else eBad
  | a :: as => match mtlOf m args.length with
    | some g => eMtL g (f o) (listA f args)
    | none => if m = "index" then (if as.isEmpty then (match idxT sc o with
      | some l => e1 (dTIdx l) (f a)
      | none => eMtL gIndex (eMat (f o)) (listA f args)) else eBad) else if m = "count" then (if as.isEmpty then eMtL gCount (eMat (f o)) (listA f args) else eBad) else if m = "extend" then (if as.isEmpty then eExtend (f o) (f a) else eBad) else match mtsOf m with
      | some g => if as.isEmpty then eMtS g (f o) (listB f args) else eBad
      | none => eBad
def methD (sc : SC) (f : Expr → EE) (o : Expr) (m : Str) (args : List Expr) : EE := match getTab sc o m args with
  | some (t, e, d) => e2 (dCGet t) (f e) (f d)
  | none => methD0 sc f o m args
/-- the step -1 -/
def isM1 : Expr → Bool
  | .UnaryOp .USub (.Constant (.int i) _ _) _ => i == 1
  | _ => false
/-- range(..) as an argument -/
def rgArgs (sc : SC) : Expr → Option (List Expr)
  | .Call (.Name x _) args [] _ => if x = "range" ∧ isBlt sc x = true ∧ args.all noStar = true then some args else none
  | _ => none
/-- list(range(..)) -/
def lrgArgs (sc : SC) (x : Str) (args : List Expr) : Option (List Expr) := match args with
  | [e] => if x = "list" ∧ isBlt sc x = true then rgArgs sc e else none
  | _ => none
/-- tuple(range(..)) -/
def trgArgs (sc : SC) (x : Str) (args : List Expr) : Option (List Expr) := match args with
  | [e] => if x = "tuple" ∧ isBlt sc x = true then rgArgs sc e else none
  | _ => none
/-- d.pop(k) -/
noncomputable def popK (f : Expr → EE) (o : Expr) (args : List Expr) : EE := match args with
  | [a] => ePopK (f o) (f a)
  | [] => eMtL gPop (f o) aNil
  | _ => eBad
/-- d.get(k, x), d the text's own -/
noncomputable def getK (f : Expr → EE) (o : Expr) (args : List Expr) : EE := match args with
  | [a, b] => eGetK (f o) (f a) (f b)
  | _ => eBad
noncomputable def getX (f : Expr → EE) (o : Expr) (args : List Expr) : EE := match args with
  | [a, b] => eGetX (f o) (f a) (f b)
  | _ => eBad
/-- lambda p: p[0] -/
def isLam0 : Arguments → Expr → Scope → Bool
  | ⟨[], [⟨q, none, _⟩], none, [], [], none, []⟩, .Subscript (.Name q1 _) (.Constant (.int i) _ _) _, ⟨.function, [(q2, .local)], false, false, []⟩ => q1 == q && q2 == q && i == 0 && !(q == ("__debug__" : Str))
  | _, _, _ => false
theorem isLam0_ok {pa : Arguments} {bd : Expr} {ls : Scope} (h : isLam0 pa bd ls = true) : ∃ (q : Str) (pp p1 p2 p3 : Pos) (j : Nat), pa = lamArgs q pp ∧ bd = lamBody0 q p1 p2 p3 j ∧ ls = lamScope q ∧ (q == ("__debug__" : Str)) = false := by
  unfold isLam0 at h
  split at h
  · simp only [Bool.and_eq_true, beq_iff_eq, Bool.not_eq_true'] at h
    obtain ⟨⟨⟨rfl, rfl⟩, rfl⟩, hd⟩ := h
    exact ⟨_, _, _, _, _, _, rfl, rfl, rfl, hd⟩
  · cases h
/-- lambda n: (r[n], n), r a dict of the def's own -/
def isLamR : Arguments → Expr → Scope → Option Str
  | ⟨[], [⟨q, none, _⟩], none, [], [], none, []⟩, .Tuple [.Subscript (.Name r _) (.Name q1 _) _, .Name q2 _] _ _, ⟨.function, [(q3, .local), (r1, .free)], false, false, []⟩ => if q1 = q ∧ q2 = q ∧ q3 = q ∧ r1 = r ∧ (q == ("__debug__" : Str)) = false ∧ (r == ("__debug__" : Str)) = false ∧ (r == ("__classdict__" : Str)) = false ∧ (r == q) = false then some r else none
  | _, _, _ => none
theorem isLamR_ok {pa : Arguments} {bd : Expr} {ls : Scope} {r : Str} (h : isLamR pa bd ls = some r) : ∃ (q : Str) (pp p1 p2 p3 p4 p5 : Pos) (j : Nat), pa = lamArgs q pp ∧ bd = lamBodyR r q p1 p2 p3 p4 p5 j ∧ ls = lamScopeR r q ∧ (q == ("__debug__" : Str)) = false ∧ (r == ("__debug__" : Str)) = false ∧ (r == ("__classdict__" : Str)) = false ∧ (r == q) = false := by
  unfold isLamR at h
  split at h
  · split at h
    · rename_i hh
      obtain ⟨rfl, rfl, rfl, rfl, a1, a2, a3, a4⟩ := hh
      cases h
      exact ⟨_, _, _, _, _, _, _, _, rfl, rfl, rfl, a1, a2, a3, a4⟩
    · cases h
  · cases h
/-- lambda q: (len(q), q) -/
def isLamL : Arguments → Expr → Scope → Bool
  | ⟨[], [⟨q, none, _⟩], none, [], [], none, []⟩, .Tuple [.Call (.Name ln _) [.Name q1 _] [] _, .Name q2 _] _ _, ⟨.function, [(q3, .local), (l1, .globalImplicit)], false, false, []⟩ => q1 == q && q2 == q && q3 == q && ln == ("len" : Str) && l1 == ("len" : Str) && !(q == ("__debug__" : Str)) && !(("len" : Str) == q)
  | _, _, _ => false
theorem isLamL_ok {pa : Arguments} {bd : Expr} {ls : Scope} (h : isLamL pa bd ls = true) : ∃ (q : Str) (pp p1 p2 p3 p4 p5 : Pos) (j : Nat), pa = lamArgs q pp ∧ bd = lamBodyL q p1 p2 p3 p4 p5 j ∧ ls = lamScopeL q ∧ (q == ("__debug__" : Str)) = false ∧ (("len" : Str) == q) = false := by
  unfold isLamL at h
  split at h
  · simp only [Bool.and_eq_true, beq_iff_eq, Bool.not_eq_true'] at h
    obtain ⟨⟨⟨⟨⟨⟨rfl, rfl⟩, rfl⟩, rfl⟩, rfl⟩, hd⟩, hl⟩ := h
    exact ⟨_, _, _, _, _, _, _, _, rfl, rfl, rfl, hd, hl⟩
  · cases h
/-- the place of a name that a lambda takes along -/
def celI (sc : SC) (r : Str) : Option Nat := match sc.scope.names.lookup r with
  | some .cell => posOf sc.N r
  | _ => none
noncomputable def sortL (sc : SC) (f : Expr → EE) (a : Expr) (pa : Arguments) (bd : Expr) (ls : Scope) : EE := if isLam0 pa bd ls = true then e1 dSortK0 (f a) else match isLamR pa bd ls with
  | some r => match celI sc r with
    | some i => eSortR i (f a)
    | none => eBad
  | none => eBad
/-- min(x, key=len) -/
noncomputable def minK (sc : SC) (f : Expr → EE) (g : Expr) (args : List Expr) (kw : List Keyword) : EE := match g, args, kw with
  | .Name x _, [a], [⟨some kn, .Name y _, _⟩] => if x = "min" ∧ kn = "key" ∧ y = "len" ∧ isBlt sc x = true ∧ isBlt sc y = true ∧ noStar a = true then e1 dMinLen (f a) else eBad
  | .Name x _, [a], [⟨some kn, .Lambda pa bd ls _, _⟩] => if x = "sorted" ∧ kn = "key" ∧ isBlt sc x = true ∧ noStar a = true ∧ sc.ob.lam = true then sortL sc f a pa bd ls else if x = "min" ∧ kn = "key" ∧ isBlt sc x = true ∧ isBlt sc "len" = true ∧ noStar a = true ∧ sc.ob.lam = true ∧ isLamL pa bd ls = true then e1 dMinSL (f a) else eBad
  | _, _, _ => eBad
def ttOf (f : Expr → ET) : List Expr → Option ET
  | [] => some ttYes
  | [c] => some (f c)
  | _ => none
/-- the place of the local that a comprehension walks, where it may be a dict -/
def lockI (sc : SC) (iter : Expr) : Option Nat := match sc.dk, iter with
  | true, .Name x _ => visI sc x
  | _, _ => none
noncomputable def lockD (o : Option Nat) (g : EW → EE) (w : EW) : EE := match o with
  | some i => eLockC i (g (wFrd i)) (g w)
  | none => g w
mutual
noncomputable def denE : Nat → SC → Expr → EE
  | 0, _, _ => eBad
  | n + 1, sc, e => match e with
    | .Name x _ => match visI sc x with
      | some i => eVar i
      | none => if isGl sc x && !dunder x then match sc.cst.lookup x with
        | some d => eC d
        | none => eBad else eBad
    | .Constant c _ _ => match c with
      | .none => eC .non
      | .bool b => eC (.bl b)
      | .int i => eC (.int i)
      | .str s => eC (.str s.cps.toList)
      | _ => eBad
    | .BinOp a op b _ => match binOf op with
      | some g => e2 g (denE n sc a) (denE n sc b)
      | none => eBad
    | .UnaryOp op a _ => match op with
      | .USub => e1 dNeg (denE n sc a)
      | .Not => eNot (denE n sc a)
      | _ => eBad
    | .BoolOp op es _ => match op with
      | .And => andE (es.map fun e => denE n sc e)
      | .Or => orE (es.map fun e => denE n sc e)
    | .Compare a ops bs _ => match ops, bs with
      | [op], [b] => if noSet b then match cmpX sc.ob.dx op with
        | some g => e2 g (denE n sc a) (denE n sc b)
        | none => eBad else eBad
      | [op, op'], [b, c] => if noSet c then match cmpX sc.ob.dx op, cmpX sc.ob.dx op' with
        | some g, some g' => eChain g g' (denE n sc a) (denE n sc b) (denE n sc c)
        | _, _ => eBad else eBad
      | _, _ => eBad
    | .IfExp c a b _ => eIf (denT n sc c) (denE n sc a) (denE n sc b)
    | .Tuple es _ _ => if es.all noStar then eTup (listA (fun e => denE n sc e) es) else eBad
    | .List es _ => if es.all noStar then eLst (listA (fun e => denE n sc e) es) else eBad
    | .Subscript a b _ => match b with
      | .Slice lo hi step _ => match step with
        | none => eSl (denE n sc a) (lo.map fun e => denE n sc e) (hi.map fun e => denE n sc e)
        | some s => if isM1 s && lo.isNone && hi.isNone then eRevA (denE n sc a) else eBad
      | .Tuple es _ _ => if es.all noStar then (if sc.ob.dx = true then e2 dIxX (denE n sc a) (eTup (listA (fun e => denE n sc e) es)) else eDGetT (denE n sc a) (listA (fun e => denE n sc e) es)) else eBad
      | b => match cixT sc a with
        | some t => e1 (dCIx t) (denE n sc b)
        | none => e2 (ixX sc.ob.dx) (denE n sc a) (denE n sc b)
    | .Call f args kw pos => match kw with
      | [] => match f with
        | .Name x _ => match trgArgs sc x args with
          | some [a] => eTRg1 (denE n sc a)
          | some _ => eBad
          | none => match lrgArgs sc x args with
            | some [a] => eRg1 (denE n sc a)
            | some [a, b] => eRg2 (denE n sc a) (denE n sc b)
            | some [a, b, c] => eRg3 (listA (fun e => denE n sc e) [a, b, c])
            | some _ => eBad
            | none => callD sc (fun e => denE n sc e) x args
        | .Attribute o m apos => if plainBase o && args.all noStar && (apos.endLine == pos.line) then (match sc.ob.mth.lookup m with
          | some ci => if args.length + 1 = ci.2.np ∧ args.length < 30 then eMeth ci.1 m ci.2.sem (denE n sc o) (listA (fun e => denE n sc e) args) else eBad
          | none => if sc.dk = true ∧ m = "pop" then popK (fun e => denE n sc e) o args else if (getTab sc o m args).isNone = true ∧ m = "get" then (if sc.ob.dx = true then getX (fun e => denE n sc e) o args else getK (fun e => denE n sc e) o args) else methD sc (fun e => denE n sc e) o m args) else eBad
        | _ => eBad
      | k :: ks => minK sc (fun e => denE n sc e) f args (k :: ks)
    | .ListComp elt gens scope _ => match gens with
      | [⟨tg, iter, ifs, a⟩] => if a = 0 ∧ noSet iter = true then
          lockD (lockI sc iter) (fun w => compD sc w tg (ttOf (fun c => denT n (sc.blk scope) c) ifs) scope (denE n (sc.blk scope) elt)) (denW n sc iter)
        else eBad
      | _ => eBad
    | .DictComp ke ve gens scope _ => match gens with
      | [⟨tg, iter, ifs, a⟩] => if a = 0 ∧ noSet iter = true then
          dcompD sc (denW n sc iter) tg (ttOf (fun c => denT n (sc.blk scope) c) ifs) scope (denE n (sc.blk scope) ke) (denE n (sc.blk scope) ve)
        else eBad
      | _ => eBad
    | .Attribute o f _ => if plainBase o then (match sc.ob.prp.lookup f with
      | some ci => eProp ci.1 ci.2.sem (denE n sc o)
      | none => eFld sc.ob.flt f (denE n sc o)) else eBad
    | .Dict ks vs _ => match ks, vs with
      | [], [] => if sc.ob.dx = true then eDNewX else if sc.dk = true then eDNewK else eDNewT
      | _, _ => match dlitO ks vs with
        | some l => eDLit l
        | none => eBad
    | _ => eBad
noncomputable def denT : Nat → SC → Expr → ET
  | 0, _, _ => tBad
  | n + 1, sc, e => match e with
    | .UnaryOp op a _ => match op with
      | .Not => tNotB (denT n sc a)
      | _ => tBad
    | .BoolOp op es _ => match op with
      | .And => andT (es.map fun e => denT n sc e)
      | .Or => orT (es.map fun e => denT n sc e)
    | .IfExp _ _ _ _ => tBad
    | .Compare a ops bs _ => match ops, bs with
      | [op], [b] => if noSet b then match cmpX sc.ob.dx op with
        | some g => eBool (e2 g (denE n sc a) (denE n sc b))
        | none => tBad else tBad
      | [op, op'], [b, c] => if noSet c then match cmpX sc.ob.dx op, cmpX sc.ob.dx op' with
        | some g, some g' => eBool (eChain g g' (denE n sc a) (denE n sc b) (denE n sc c))
        | _, _ => tBad else tBad
      | _, _ => tBad
    | e => eTru (denE n sc e)
noncomputable def denW : Nat → SC → Expr → EW
  | 0, _, _ => wBad
  | n + 1, sc, e => match e with
    | .Call f args kw _ => match kw with
      | [] => match f with
        | .Name x _ => if x = "range" ∧ isBlt sc x = true ∧ args.all noStar = true then match args with
            | [a] => wRng1 (listB (fun e => denE n sc e) args)
            | [a, b] => wRng2 (listB (fun e => denE n sc e) args)
            | [a, b, c] => wRng3 (listB (fun e => denE n sc e) args)
            | _ => wBad
          else if x = "reversed" ∧ isBlt sc x = true ∧ args.all noStar = true then match args with
            | [a] => (match rgArgs sc a with
              | some [b] => wRevR1 (denE n sc b)
              | some _ => wBad
              | none => wRev (denE n sc a))
            | _ => wBad
          else wVal (denE n sc e)
        | _ => wVal (denE n sc e)
      | _ :: _ => wBad
    | e => wVal (denE n sc e)
end
/-! ### soundness -/
section
variable {X : Cx} {cl : CT} {W : WX} {pos : Pos}
theorem orE_ok : ∀ {es : List Expr} {f : Expr → EE}, (∀ e, PE X e (tF X.K cl W (f e))) → PE X (.BoolOp .Or es pos) (tF X.K cl W (orE (es.map f)))
  | [], f, h => bad_e
  | [e], f, h => pe_one (h e)
  | e :: e' :: es, f, h => de_or (h e) (orE_ok (es := e' :: es) h)
theorem andE_ok : ∀ {es : List Expr} {f : Expr → EE}, (∀ e, PE X e (tF X.K cl W (f e))) → PE X (.BoolOp .And es pos) (tF X.K cl W (andE (es.map f)))
  | [], f, h => bad_e
  | [e], f, h => pe_one (h e)
  | e :: e' :: es, f, h => de_and (h e) (andE_ok (es := e' :: es) h)
theorem orT_ok : ∀ {es : List Expr} {f : Expr → ET}, (∀ e, PT X e (tB1 X.K cl W (f e))) → PW X (.BoolOp .Or es pos) (tB1 X.K cl W (orT (es.map f)))
  | [], f, h => ⟨fun _ _ _ _ _ _ _ ⟨_, _, _, _, _, P⟩ => P.elim⟩
  | [e], f, h => pw_or1 (h e)
  | e :: e' :: es, f, h => dw_or (h e) (orT_ok (es := e' :: es) h)
theorem andT_ok : ∀ {es : List Expr} {f : Expr → ET}, (∀ e, PT X e (tB1 X.K cl W (f e))) → PW X (.BoolOp .And es pos) (tB1 X.K cl W (andT (es.map f)))
  | [], f, h => ⟨fun _ _ _ _ _ _ _ ⟨_, _, _, _, _, P⟩ => P.elim⟩
  | [e], f, h => pw_and1 (h e)
  | e :: e' :: es, f, h => dw_and (h e) (andT_ok (es := e' :: es) h)
end
section
variable {sc : SC} {k : Nat} {cl : CT} {X : Cx} {W : WX}
theorem kindOk_ok {s : Scope} (h : kindOk s = true) : s.kind = .function := by
  unfold kindOk at h
  split at h
  · assumption
  · cases h
theorem Fit.blk (F : Fit μ sc k cl X) {scope : Scope} (hk : scope.kind = .function) (s : Shared) (H : Hp) (C : Addr) (c : List (Str × Addr)) (fp : List Addr) : Fit μ (sc.blk scope) k cl (X.blk s H scope (compEnvC scope c C X.env) fp) := by
  refine ⟨F.N, F.nd, ?_, rfl, F.calm, F.room, F.gd, hk, F.fns, F.cst, F.blt, F.exs, F.trs, F.iss, F.ers, F.dct, ⟨F.ob.flt, F.ob.mth, F.ob.prp, F.ob.mks, F.ob.exi, F.ob.idx, F.ob.hs⟩, fun h => Bool.noConfusion (show false = true from h)⟩
  show relS scope X.env.scope = relS scope sc.scope
  rw [F.sco]
theorem comp_ok (F : Fit μ sc k cl X) {elt tg iter : Expr} {ifs : List Expr} {scope : Scope} {pos : Pos} {w : EW} {tt : Option ET} {fe : EE} (hi : PI X tg iter (tI X.K cl W w))
    (ht : ∀ g, tt = some g → ∀ (s : Shared) (H : Hp) (C : Addr) (c : List (Str × Addr)) (fp : List Addr), scope.kind = .function → PTs (X.blk s H scope (compEnvC scope c C X.env) fp) ifs (tB1 X.K cl W0 g))
    (he : ∀ (s : Shared) (H : Hp) (C : Addr) (c : List (Str × Addr)) (fp : List Addr), scope.kind = .function → PE (X.blk s H scope (compEnvC scope c C X.env) fp) elt (tF X.K cl W0 fe)) (hs : noSet iter = true) :
    PE X (.ListComp elt [⟨tg, iter, ifs, 0⟩] scope pos) (tF X.K cl W (compD sc w tg tt scope fe)) := by
  unfold compD
  split
  rotate_left
  · exact bad_e
  rename_i t g e1
  split
  rotate_left
  · exact bad_e
  rename_i hc
  simp only [Bool.and_eq_true, List.all_eq_true, List.contains_iff_mem] at hc
  have hk := kindOk_ok hc.1.2
  exact de_comp F.calm (by rw [F.N]; exact F.nd) hi (blkOk_by (by rw [F.N, F.sco]; exact hc.1.1)) hc.2 (fun s H C c fp => tg_ok (F.blk hk s H C c fp) e1) (fun s H C c fp => ht g rfl s H C c fp hk) (fun s H C c fp => he s H C c fp hk) (folded_plain hs)
theorem dcomp_ok (F : Fit μ sc k cl X) {kx vx tg iter : Expr} {ifs : List Expr} {scope : Scope} {pos : Pos} {w : EW} {tt : Option ET} {fk fv : EE} (hi : PI X tg iter (tI X.K cl W w))
    (ht : ∀ g, tt = some g → ∀ (s : Shared) (H : Hp) (C : Addr) (c : List (Str × Addr)) (fp : List Addr), scope.kind = .function → PTs (X.blk s H scope (compEnvC scope c C X.env) fp) ifs (tB1 X.K cl W0 g))
    (hk : ∀ (s : Shared) (H : Hp) (C : Addr) (c : List (Str × Addr)) (fp : List Addr), scope.kind = .function → PE (X.blk s H scope (compEnvC scope c C X.env) fp) kx (tF X.K cl W0 fk))
    (hv : ∀ (s : Shared) (H : Hp) (C : Addr) (c : List (Str × Addr)) (fp : List Addr), scope.kind = .function → PE (X.blk s H scope (compEnvC scope c C X.env) fp) vx (tF X.K cl W0 fv)) (hs : noSet iter = true) :
    PE X (.DictComp kx vx [⟨tg, iter, ifs, 0⟩] scope pos) (tF X.K cl W (dcompD sc w tg tt scope fk fv)) := by
  unfold dcompD
  split
  rotate_left
  · exact bad_e
  rename_i t g e1
  split
  rotate_left
  · exact bad_e
  rename_i hc
  simp only [Bool.and_eq_true, List.all_eq_true, List.contains_iff_mem] at hc
  have hk' := kindOk_ok hc.1.2
  exact de_dcomp F.calm (by rw [F.N]; exact F.nd) hi (blkOk_by (by rw [F.N, F.sco]; exact hc.1.1)) hc.2 (fun s H C c fp => tg_ok (F.blk hk' s H C c fp) e1) (fun s H C c fp => ht g rfl s H C c fp hk') (fun s H C c fp => hk s H C c fp hk') (fun s H C c fp => hv s H C c fp hk') (folded_plain hs)
theorem setDComp_ok (F : Fit μ sc k cl X) {kx vx tg iter : Expr} {ifs : List Expr} {scope : Scope} {pos : Pos} {w : EW} {tt : Option ET} {fk fv : EE} {i : Nat} {y : Str} {py spos : Pos} (hy : locI sc y = some i) (hyl : sc.scope.names.lookup y = some .local)
    (hsw : swapsWith (.DictComp kx vx [⟨tg, iter, ifs, 0⟩] scope pos) (some (.Name y py)) spos.line X.env = pure true) (hi : PI X tg iter (tI X.K cl W w))
    (ht : ∀ g, tt = some g → ∀ (s : Shared) (H : Hp) (C : Addr) (c : List (Str × Addr)) (fp : List Addr), scope.kind = .function → PTs (X.blk s H scope (compEnvC scope c C X.env) fp) ifs (tB1 X.K cl W0 g))
    (hk : ∀ (s : Shared) (H : Hp) (C : Addr) (c : List (Str × Addr)) (fp : List Addr), scope.kind = .function → PE (X.blk s H scope (compEnvC scope c C X.env) fp) kx (tF X.K cl W0 fk))
    (hv : ∀ (s : Shared) (H : Hp) (C : Addr) (c : List (Str × Addr)) (fp : List Addr), scope.kind = .function → PE (X.blk s H scope (compEnvC scope c C X.env) fp) vx (tF X.K cl W0 fv)) (hs : noSet iter = true) :
    PS X (.Assign [.Name y py] (.DictComp kx vx [⟨tg, iter, ifs, 0⟩] scope pos) spos) (tS X.K cl W (sSet i (dcompD sc w tg tt scope fk fv))) := by
  have badS : PS X (.Assign [.Name y py] (.DictComp kx vx [⟨tg, iter, ifs, 0⟩] scope pos) spos) (tS X.K cl W (sSet i eBad)) := ⟨fun _ _ _ _ _ _ ⟨_, _, _, _, _, P⟩ => P.elim⟩
  unfold dcompD
  split
  rotate_left
  · exact badS
  rename_i t g e1
  split
  rotate_left
  · exact badS
  rename_i hc
  simp only [Bool.and_eq_true, List.all_eq_true, List.contains_iff_mem] at hc
  have hk' := kindOk_ok hc.1.2
  exact ds_setDComp F.calm (by rw [F.N]; exact F.nd) (F.loc hy).1 (by rw [F.sco]; exact hyl) hsw hi (blkOk_by (by rw [F.N, F.sco]; exact hc.1.1)) hc.2 (fun s H C c fp => tg_ok (F.blk hk' s H C c fp) e1) (fun s H C c fp => ht g rfl s H C c fp hk') (fun s H C c fp => hk s H C c fp hk') (fun s H C c fp => hv s H C c fp hk') (folded_plain hs)
/-- the same given to a name at once -/
theorem setComp_ok (F : Fit μ sc k cl X) {elt tg iter : Expr} {ifs : List Expr} {scope : Scope} {pos : Pos} {w : EW} {tt : Option ET} {fe : EE} {i : Nat} {y : Str} {py spos : Pos} (hy : locI sc y = some i) (hyl : sc.scope.names.lookup y = some .local)
    (hsw : swapsWith (.ListComp elt [⟨tg, iter, ifs, 0⟩] scope pos) (some (.Name y py)) spos.line X.env = pure true) (hi : PI X tg iter (tI X.K cl W w))
    (ht : ∀ g, tt = some g → ∀ (s : Shared) (H : Hp) (C : Addr) (c : List (Str × Addr)) (fp : List Addr), scope.kind = .function → PTs (X.blk s H scope (compEnvC scope c C X.env) fp) ifs (tB1 X.K cl W0 g))
    (he : ∀ (s : Shared) (H : Hp) (C : Addr) (c : List (Str × Addr)) (fp : List Addr), scope.kind = .function → PE (X.blk s H scope (compEnvC scope c C X.env) fp) elt (tF X.K cl W0 fe)) (hs : noSet iter = true) :
    PS X (.Assign [.Name y py] (.ListComp elt [⟨tg, iter, ifs, 0⟩] scope pos) spos) (tS X.K cl W (sSet i (compD sc w tg tt scope fe))) := by
  have badS : PS X (.Assign [.Name y py] (.ListComp elt [⟨tg, iter, ifs, 0⟩] scope pos) spos) (tS X.K cl W (sSet i eBad)) := ⟨fun _ _ _ _ _ _ ⟨_, _, _, _, _, P⟩ => P.elim⟩
  unfold compD
  split
  rotate_left
  · exact badS
  rename_i t g e1
  split
  rotate_left
  · exact badS
  rename_i hc
  simp only [Bool.and_eq_true, List.all_eq_true, List.contains_iff_mem] at hc
  have hk := kindOk_ok hc.1.2
  exact ds_setComp F.calm (by rw [F.N]; exact F.nd) (F.loc hy).1 (by rw [F.sco]; exact hyl) hsw hi (blkOk_by (by rw [F.N, F.sco]; exact hc.1.1)) hc.2 (fun s H C c fp => tg_ok (F.blk hk s H C c fp) e1) (fun s H C c fp => ht g rfl s H C c fp hk) (fun s H C c fp => he s H C c fp hk) (folded_plain hs)
theorem call_ok (F : Fit μ sc k cl X) (tk : TakesM μ X W) {f : Expr → EE} (h : ∀ e, PE X e (tF X.K cl W (f e))) {x : Str} {p pos : Pos} {args : List Expr} : PE X (.Call (.Name x p) args [] pos) (tF X.K cl W (callD sc f x args)) := by
  unfold callD
  split
  rotate_left
  · exact bad_e
  rename_i hg
  simp only [Bool.and_eq_true] at hg
  obtain ⟨⟨hg1, hg2⟩, hg3⟩ := hg
  have hGl := F.gl hg1
  have hdb : (x == ("__debug__" : Str)) = false := by
    have : dunder x = false := by simpa using hg3
    simp only [dunder, Bool.or_eq_false_iff] at this
    exact this.1
  cases args with
  | nil =>
    simp only [List.isEmpty_nil, if_true]
    split
    · exact bad_e
    · split
      · exact bad_e
      · split <;> exact bad_e
  | cons e es =>
    have hst := hg2
    simp only [List.all_cons, Bool.and_eq_true] at hst
    split
    · rename_i i hi
      obtain ⟨fa, fd, ps, j, dv, ud, hj, FF, hm, hkp, hb0, hb1, hd, hdd⟩ := (F.fns x i hi).ex
      simp only [List.isEmpty_cons, Bool.false_eq_true, if_false]
      split
      · rename_i hn
        exact de_call (FF.up hj) F.gd F.room hGl hm hkp hb0 .nil (fun _ _ => rfl) tk (listA_ok h hg2) hdb (star_cons hst.1) (star_any hst.2) fun env st ds st1 e => by rw [List.append_nil, listA_len e]; exact hn
      · split
        · rename_i hn
          exact de_call (FF.up hj) F.gd F.room hGl hm hkp hb1 hd hdd tk (listA_ok h hg2) hdb (star_cons hst.1) (star_any hst.2) fun env st ds st1 e => by rw [List.length_append, listA_len e]; exact hn
        · exact bad_e
    split
    · rename_i i hi
      obtain ⟨C, fa, fd, ps, j, hj, hC, hm, M, FF, hb0⟩ := (F.ob.mks x i hi).ex
      simp only [List.isEmpty_cons, Bool.false_eq_true, if_false]
      split
      · rename_i hn
        exact de_make hC M FF F.gd (F.room.mono hj) hGl hm hb0 tk (listA_ok h hg2) hdb (star_cons hst.1) (star_any hst.2) fun env st ds st1 e => by rw [listA_len e]; exact hn
      · exact bad_e
    · split
      rotate_left
      · exact bad_e
      rename_i hbl
      obtain ⟨_, hm, hn, _⟩ := F.bl hbl
      have blt : ∀ {e : Expr} {es : List Expr} {n : Nat}, (e :: es).all noStar = true → PE X (.Call (.Name x p) (e :: es) [] pos) (tF X.K cl W (match bltOf x n with
          | some b => eN b.g (listB f (e :: es))
          | none => eBad)) := by
        intro e es n hs
        have hst := hs
        simp only [List.all_cons, Bool.and_eq_true] at hst
        split
        · rename_i b hb
          obtain ⟨h1, h2⟩ := bltOf_ok F hb
          cases b with
          | fn id g => exact de_callB h2 hGl hm h1 (listB_ok h hs) hn hdb (star_cons hst.1) (star_any hst.2)
          | ty T g => exact de_callT h2 hGl hm h1 (listB_ok h hs) hn hdb (star_cons hst.1) (star_any hst.2)
        · exact bad_e
      split
      · rename_i heq; cases heq
      · rename_i a y p2 heq
        cases heq
        split
        · rename_i hx
          subst hx
          split
          · rename_i hy
            split
            · rename_i T hT
              obtain ⟨h1, h2⟩ := isiT_ok hT
              obtain ⟨q1, q2, q3, q4⟩ := F.bl hy
              exact de_isi h1 hGl hm boot_isi hn hdb q1 q2 h2 q3 q4 (h _) fun es => star_cons hst.1
            · exact bad_e
          · exact bad_e
        · exact blt hg2
      · exact blt hg2
theorem getK_ok (F : Fit μ sc k cl X) {f : Expr → EE} (h : ∀ e, PE X e (tF X.K cl W (f e))) {o : Expr} {apos pos : Pos} {args : List Expr} (hb : plainBase o = true) (hs : args.all noStar = true) (hl : (apos.endLine == pos.line) = true) :
    PE X (.Call (.Attribute o "get" apos) args [] pos) (tF X.K cl W (getK f o args)) := by
  unfold getK
  match args, hs with
  | [a, b], hs =>
    have h1 : noStar a = true ∧ noStar b = true := by simpa using hs
    have e0 : starEach [a, b] X.env = [(false, eval a X.env), (false, eval b X.env)] := by rw [star_cons h1.1, star_cons h1.2]; rfl
    refine de_getK (hu_of F.room) (h o) (h a) (h b) ⟨base_plain hb, ?_, hl, by rw [e0]; rfl⟩
    rw [e0]; rfl
  | [], _ => exact bad_e
  | [_], _ => exact bad_e
  | _ :: _ :: _ :: _, _ => exact bad_e
theorem getX_ok (F : Fit μ sc k cl X) (hdx : sc.ob.dx = true) {f : Expr → EE} (h : ∀ e, PE X e (tF X.K cl W (f e))) {o : Expr} {apos pos : Pos} {args : List Expr} (hb : plainBase o = true) (hs : args.all noStar = true) (hl : (apos.endLine == pos.line) = true) :
    PE X (.Call (.Attribute o "get" apos) args [] pos) (tF X.K cl W (getX f o args)) := by
  unfold getX
  match args, hs with
  | [a, b], hs =>
    have h1 : noStar a = true ∧ noStar b = true := by simpa using hs
    have e0 : starEach [a, b] X.env = [(false, eval a X.env), (false, eval b X.env)] := by rw [star_cons h1.1, star_cons h1.2]; rfl
    refine de_getX F.u65 (F.ob.hs hdx) (h o) (h a) (h b) ⟨base_plain hb, ?_, hl, by rw [e0]; rfl⟩
    rw [e0]; rfl
  | [], _ => exact bad_e
  | [_], _ => exact bad_e
  | _ :: _ :: _ :: _, _ => exact bad_e
theorem minK_ok (F : Fit μ sc k cl X) {f : Expr → EE} (h : ∀ e, PE X e (tF X.K cl W (f e))) {g : Expr} {args : List Expr} {kw : List Keyword} {pos : Pos} : PE X (.Call g args kw pos) (tF X.K cl W (minK sc f g args kw)) := by
  unfold minK
  split
  · split
    · rename_i hh
      obtain ⟨rfl, rfl, rfl, h1, h2, h3⟩ := hh
      obtain ⟨q1, q2, _⟩ := F.bl h1
      obtain ⟨q3, q4, _⟩ := F.bl h2
      exact de_minLen F.calm q1 q2 q3 q4 (h _) fun es => star_cons h3
    · exact bad_e
  · split
    · rename_i hh
      obtain ⟨rfl, rfl, h1, h3, h4⟩ := hh
      obtain ⟨q1, q2, _⟩ := F.bl h1
      obtain ⟨c, P, l1, l2, l3, l4⟩ := (F.lam h4).ex
      unfold sortL
      split
      · rename_i h5
        obtain ⟨q, pp, p1, p2, p3, j, rfl, rfl, rfl, nd⟩ := isLam0_ok h5
        exact de_sortK0 q1 q2 (h _) (fun es => star_cons h3) l1 l2 l3 l4 F.room nd
      · split
        · rename_i r h5
          obtain ⟨q, pp, p1, p2, p3, p4, p5, j, rfl, rfl, rfl, nq, nr, nc, nqr⟩ := isLamR_ok h5
          split
          · rename_i i h6
            unfold celI at h6
            split at h6
            · rename_i h7
              exact de_sortR F.calm q1 q2 (h _) (fun es => star_cons h3) l1 l2 l3 l4 F.room (by rw [F.N]; exact posOf_ok h6) (by rw [F.sco]; exact h7) nq nr nc nqr
            · cases h6
          · exact bad_e
        · exact bad_e
    · split
      · rename_i hh
        obtain ⟨rfl, rfl, h1, h2, h3, h4, h5⟩ := hh
        obtain ⟨q1, q2, _⟩ := F.bl h1
        obtain ⟨_, q4, _⟩ := F.bl h2
        obtain ⟨c, P, l1, l2, l3, l4⟩ := (F.lam h4).ex
        obtain ⟨q, pp, p1, p2, p3, p4, p5, j, rfl, rfl, rfl, nq, nl⟩ := isLamL_ok h5
        exact de_minSL F.calm q1 q2 q4 (h _) (fun es => star_cons h3) l1 l2 l3 l4 F.room nq nl
      · exact bad_e
  · exact bad_e
theorem umeth_ok (F : Fit μ sc k cl X) (tk : TakesM μ X W) {f : Expr → EE} (h : ∀ e, PE X e (tF X.K cl W (f e))) {o : Expr} {m c : Str} {apos pos : Pos} {args : List Expr} {C g : Addr} {fd : FuncData} {ps : List Str} {s : List D → Store → R RV} {n : Nat} (hC : cl c = some C) (hc : Cls X.K C) (hm : Meth X.K C m g)
    (FF : FnG μ X.prog X.w X.K X.mg X.base k g fd ps (spD X.K cl n s)) (hb0 : Binds X.K fd ps []) (hb : plainBase o = true) (hs : args.all noStar = true) (hl : (apos.endLine == pos.line) = true) (hn : args.length + 1 = n) (h30 : args.length < 30) :
    PE X (.Call (.Attribute o m apos) args [] pos) (tF X.K cl W (eMeth c m s (f o) (listA f args))) := by
  have hf : methodCallForm (args.length + 0) (backTo pos (starEach args X.env)) (backToKw pos (keywordEach [] X.env)) = true := by
    unfold methodCallForm
    have e1 : (backTo pos (starEach args X.env)).all (fun x => !x.1) = true := by
      have := star_any (env := X.env) (pos := pos) hs
      rw [List.any_eq_false] at this
      rw [List.all_eq_true]
      intro x hx
      have := this x hx
      simpa using this
    rw [e1]
    have e2 : backToKw pos (keywordEach [] X.env) = [] := rfl
    rw [e2]
    simp [h30]
  refine de_meth hC hc hm FF F.gd F.room hb0 tk (h o) (listA_ok h hs) ?_ (fun env st ds st1 e => by rw [listA_len e]; exact hn) (base_plain hb) hl hf
  cases args with
  | nil => exact .inl ⟨rfl, rfl⟩
  | cons e es =>
    have hst := hs
    simp only [List.all_cons, Bool.and_eq_true] at hst
    exact .inr ⟨e, es, rfl, star_cons hst.1, star_any hst.2⟩
theorem meth_ok0 (F : Fit μ sc k cl X) {f : Expr → EE} (h : ∀ e, PE X e (tF X.K cl W (f e))) {o : Expr} {m : Str} {apos pos : Pos} {args : List Expr} (hb : plainBase o = true) (hs : args.all noStar = true) (hl : (apos.endLine == pos.line) = true) :
    PE X (.Call (.Attribute o m apos) args [] pos) (tF X.K cl W (methD0 sc f o m args)) := by
  unfold methD0
  cases args with
  | nil =>
    simp only
    split
    · rename_i e
      subst e
      refine PEw (pe_bm0 PySem.F.plainAttrs_list PySem.F.slot_list_pop PySem.F.type_list_pop mt_pop (h o) (base_plain hb) hl) fun σ H Q hq => ?_
      obtain ⟨ρ, env, st, S, E, P⟩ := w_mtl mg_pop σ H Q hq
      refine ⟨ρ, env, st, S, E, P.mono ?_⟩
      rintro x H1 ⟨q1, ρ1, env1, st1, S1, E1, P1⟩
      exact ⟨q1, P1 ρ1 H1 [] (Ext.refl _ _) S1 rfl⟩
    · exact bad_e
  | cons a as =>
    have hst := hs
    simp only [List.all_cons, Bool.and_eq_true] at hst
    have few : ∀ (hlen : (a :: as).length < 30), ((backTo pos (starEach (a :: as) X.env)).all (fun x => !x.1) && (backToKw pos (keywordEach [] X.env)).all (fun x => x.1.isSome)
      && decide ((a :: as).length + ([] : List Keyword).length + (if ([] : List Keyword).isEmpty then 0 else 1) < 30)) = true := by
      intro hlen
      have h1 : (backTo pos (starEach (a :: as) X.env)).all (fun x => !x.1) = true := by
        have := star_any (env := X.env) (pos := pos) hs
        rw [List.any_eq_false] at this
        rw [List.all_eq_true]
        intro x hx
        simpa using this x hx
      rw [h1]
      simpa [backToKw, keywordEach] using hlen
    simp only
    split
    · rename_i g hg
      unfold mtlOf at hg
      split at hg
      · rename_i e
        split at hg
        · rename_i hn
          cases hg
          subst e
          exact PEw (pe_bm PySem.F.plainAttrs_list PySem.F.slot_list_append PySem.F.type_list_append mt_append (h o) (listA_ok h hs) (base_plain hb) (few (by omega)) hl (star_cons hst.1) (star_any hst.2)) (w_mtl mg_append)
        · cases hg
      · split at hg
        · rename_i e
          split at hg
          · rename_i hn
            cases hg
            subst e
            exact PEw (pe_bm PySem.F.plainAttrs_list PySem.F.slot_list_pop PySem.F.type_list_pop mt_popAt (h o) (listA_ok h hs) (base_plain hb) (few (by omega)) hl (star_cons hst.1) (star_any hst.2)) (w_mtl mg_popAt)
          · cases hg
        · cases hg
    · split
      · rename_i e
        subst e
        split
        · rename_i hn
          have : as = [] := by simpa using hn
          subst this
          split
          · rename_i l hi
            unfold idxT at hi
            split at hi
            · rename_i x p
              split at hi
              · rename_i hc
                obtain ⟨c1, c2, c3⟩ := hc
                split at hi
                · rename_i l' hl'
                  cases hi
                  simp only [dunder, Bool.or_eq_false_iff] at c2
                  exact de_tidx (F.gl c1) c2.1 (F.ob.idx x c3) (F.cst x _ hl') (h a) (base_plain hb) (few (by simp)) hl (star_cons hst.1) (star_any hst.2)
                · cases hi
              · cases hi
            · cases hi
          exact PEw (pe_bm PySem.F.plainAttrs_list PySem.F.slot_list_index PySem.F.type_list_index (mt_indexD F.u65) (de_mat (h o)) (listA_ok h hs) (base_plain hb) (few (by simp)) hl (star_cons hst.1) (star_any hst.2)) (w_mtl mg_index)
        · exact bad_e
      split
      · rename_i e
        subst e
        split
        · rename_i hn
          have : as = [] := by simpa using hn
          subst this
          exact PEw (pe_bm PySem.F.plainAttrs_list PySem.F.slot_list_count PySem.F.type_list_count (mt_countD F.u65) (de_mat (h o)) (listA_ok h hs) (base_plain hb) (few (by simp)) hl (star_cons hst.1) (star_any hst.2)) (w_mtl mg_count)
        · exact bad_e
      split
      · rename_i e
        subst e
        split
        · rename_i hn
          have : as = [] := by simpa using hn
          subst this
          exact PEw (pe_bm PySem.F.plainAttrs_list PySem.F.slot_list_extend PySem.F.type_list_extend mt_extX (h o) (db_cons (h a) db_nil (star_cons hst.1)) (base_plain hb) (few (by simp)) hl (star_cons hst.1) (star_any hst.2)) w_extend
        · exact bad_e
      · split
        · rename_i g hg
          split
          · rename_i hn
            have : as = [] := by simpa using hn
            subst this
            unfold mtsOf at hg
            split at hg
            · rename_i e
              cases hg; subst e
              exact PEw (pe_bm PySem.F.plainAttrs_str PySem.F.slot_str_join PySem.F.type_str_join mt_join (h o) (listB_ok h hs) (base_plain hb) (few (by simp)) hl (star_cons hst.1) (star_any hst.2)) (w_mts (id := "str.join") ms_join)
            split at hg
            · rename_i e
              cases hg; subst e
              exact PEw (pe_bm PySem.F.plainAttrs_str PySem.F.slot_str_find PySem.F.type_str_find mt_find (h o) (listB_ok h hs) (base_plain hb) (few (by simp)) hl (star_cons hst.1) (star_any hst.2)) (w_mts (id := "str.find") ms_find)
            split at hg
            · rename_i e
              cases hg; subst e
              exact PEw (pe_bm PySem.F.plainAttrs_str PySem.F.slot_str_startswith PySem.F.type_str_startswith mt_startswith (h o) (listB_ok h hs) (base_plain hb) (few (by simp)) hl (star_cons hst.1) (star_any hst.2)) (w_mts (id := "str.startswith") ms_starts)
            split at hg
            · rename_i e
              cases hg; subst e
              exact PEw (pe_bm PySem.F.plainAttrs_str PySem.F.slot_str_partition PySem.F.type_str_partition mt_partition (h o) (listB_ok h hs) (base_plain hb) (few (by simp)) hl (star_cons hst.1) (star_any hst.2)) (w_mts (id := "str.partition") ms_part)
            cases hg
          · exact bad_e
        · exact bad_e
theorem popK_ok (F : Fit μ sc k cl X) {f : Expr → EE} (h : ∀ e, PE X e (tF X.K cl W (f e))) {o : Expr} {apos pos : Pos} {args : List Expr} (hb : plainBase o = true) (hs : args.all noStar = true) (hl : (apos.endLine == pos.line) = true) :
    PE X (.Call (.Attribute o "pop" apos) args [] pos) (tF X.K cl W (popK f o args)) := by
  unfold popK
  match args, hs with
  | [a], hs =>
    have hst : noStar a = true := by simpa using hs
    have e0 : starEach [a] X.env = [(false, eval a X.env)] := star_cons hst
    refine de_popK (h o) (h a) ⟨base_plain hb, ?_, hl, by rw [e0]; rfl⟩
    rw [e0]; rfl
  | [], hs =>
    have := meth_ok0 (m := "pop") (args := []) F h hb hs hl
    exact this
  | _ :: _ :: _, _ => exact bad_e
theorem meth_ok (F : Fit μ sc k cl X) {f : Expr → EE} (h : ∀ e, PE X e (tF X.K cl W (f e))) {o : Expr} {m : Str} {apos pos : Pos} {args : List Expr} (hb : plainBase o = true) (hs : args.all noStar = true) (hl : (apos.endLine == pos.line) = true) :
    PE X (.Call (.Attribute o m apos) args [] pos) (tF X.K cl W (methD sc f o m args)) := by
  unfold methD
  split
  · rename_i t e d hg
    unfold getTab at hg
    split at hg
    · rename_i hm
      subst hm
      split at hg
      · rename_i x p e' d'
        split at hg
        · rename_i hc
          obtain ⟨h1, h2, h3⟩ := hc
          cases hd : sc.dct.lookup x with
          | none => rw [hd] at hg; cases hg
          | some tb =>
            rw [hd] at hg
            cases hg
            have tr : backTo pos (starEach [e, d] X.env) = [(false, eval e X.env), (false, eval d X.env)] := by rw [star_cons h2, star_cons h3]; rfl
            exact de_cget (F.gl h1) (F.dct x t hd) (h e) (h d) ⟨rfl, by rw [tr]; rfl, hl, tr⟩
        · cases hg
      · cases hg
    · cases hg
  · exact meth_ok0 F h hb hs hl
end
theorem rg_ok {sc : SC} {e : Expr} {l : List Expr} (h : rgArgs sc e = some l) : ∃ p p2, e = .Call (.Name "range" p) l [] p2 ∧ isBlt sc "range" = true ∧ l.all noStar = true := by
  unfold rgArgs at h
  split at h
  · split at h
    · rename_i hc
      obtain ⟨rfl, h1, h2⟩ := hc
      cases h
      exact ⟨_, _, rfl, h1, h2⟩
    · cases h
  · cases h
theorem lrg_ok {sc : SC} {x : Str} {args l : List Expr} (h : lrgArgs sc x args = some l) : ∃ (e1 : x = "list") (p p2 : Pos) (e2 : args = [.Call (.Name "range" p) l [] p2]), True ∧ isBlt sc "list" = true ∧ isBlt sc "range" = true ∧ l.all noStar = true := by
  unfold lrgArgs at h
  split at h
  · split at h
    · rename_i hc
      obtain ⟨rfl, h1⟩ := hc
      obtain ⟨p, p2, rfl, h2, h3⟩ := rg_ok h
      exact ⟨rfl, p, p2, rfl, trivial, h1, h2, h3⟩
    · cases h
  · cases h
theorem trg_ok {sc : SC} {x : Str} {args l : List Expr} (h : trgArgs sc x args = some l) : ∃ (e1 : x = "tuple") (p p2 : Pos) (e2 : args = [.Call (.Name "range" p) l [] p2]), True ∧ isBlt sc "tuple" = true ∧ isBlt sc "range" = true ∧ l.all noStar = true := by
  unfold trgArgs at h
  split at h
  · split at h
    · rename_i hc
      obtain ⟨rfl, h1⟩ := hc
      obtain ⟨p, p2, rfl, h2, h3⟩ := rg_ok h
      exact ⟨rfl, p, p2, rfl, trivial, h1, h2, h3⟩
    · cases h
  · cases h
/-- THE RULE: the denotation reads the syntax -/
theorem den_ok (k : Nat) (cl : CT) : ∀ (n : Nat) (sc : SC) (X : Cx) (W : WX), Fit μ sc k cl X → TakesM μ X W → (∀ e, PE X e (tF X.K cl W (denE n sc e))) ∧ (∀ e, PT X e (tB1 X.K cl W (denT n sc e))) ∧ ∀ tg e, noSet e = true → PI X tg e (tI X.K cl W (denW n sc e))
  | 0, sc, X, W, F, tk => ⟨fun e => by simp only [denE]; exact bad_e, fun e => by simp only [denT]; exact bad_t, fun tg e _ => by simp only [denW]; exact bad_w⟩
  | n + 1, sc, X, W, F, tk => by
    obtain ⟨hE, hT, hW⟩ := den_ok k cl n sc X W F tk
    have hB := fun (sc' : SC) (X' : Cx) (F' : Fit μ sc' k cl X') => den_ok k cl n sc' X' W0 F' takes0M
    refine ⟨fun e => ?_, fun e => ?_, fun tg e hs => ?_⟩
    · cases e with
      | Name x p =>
        simp only [denE]
        split
        · rename_i i hi
          obtain ⟨q1, q2, q3, q4⟩ := F.vis hi
          exact de_var (pe_var q1 q2 q3 q4)
        · split
          · rename_i hg
            simp only [Bool.and_eq_true] at hg
            split
            · rename_i d hd
              obtain ⟨v, u, h1, h2, h3⟩ := F.cst x d hd
              have hdb : (x == ("__debug__" : Str)) = false := by
                have : dunder x = false := by simpa using hg.2
                simp only [dunder, Bool.or_eq_false_iff] at this
                exact this.1
              exact de_c (pe_glob (F.gl hg.1) h1 h2 hdb) h3
            · exact bad_e
          · exact bad_e
      | Constant c j p =>
        simp only [denE]
        cases c with
        | none => exact de_c pe_non fun _ _ => rfl
        | bool b => exact de_c pe_bl fun _ _ => rfl
        | int i => exact de_c pe_int fun _ _ => rfl
        | str s => exact de_c pe_str fun _ _ => congrArg V.str (str_eta s).symm
        | _ => exact bad_e
      | BinOp a op b p =>
        simp only [denE]
        split
        · rename_i g hg
          exact de_op (binOf_ok hg) (hE a) (hE b)
        · exact bad_e
      | UnaryOp op a p =>
        simp only [denE]
        cases op with
        | USub => exact de_un und_neg (hE a)
        | Not => exact de_not (hE a)
        | _ => exact bad_e
      | BoolOp op es p =>
        simp only [denE]
        cases op with
        | And => exact andE_ok hE
        | Or => exact orE_ok hE
      | Compare a ops bs p =>
        simp only [denE]
        split
        · split
          · rename_i hs
            split
            · rename_i g hg
              exact de_cmp (cmpX_ok F.u65 F.ob.hs hg) (hE _) (hE _) (marks_plain hs)
            · exact bad_e
          · exact bad_e
        · split
          · rename_i hs
            split
            · rename_i g g' hg hg'
              exact de_chain (cmpX_ok F.u65 F.ob.hs hg) (cmpX_ok F.u65 F.ob.hs hg') (hE _) (hE _) (hE _) hs
            · exact bad_e
          · exact bad_e
        · exact bad_e
      | IfExp c a b p =>
        simp only [denE]
        exact de_if (hT c) (hE a) (hE b)
      | Tuple es kk p =>
        simp only [denE]
        split
        · rename_i hs
          exact de_tup (listA_ok hE hs)
        · exact bad_e
      | List es p =>
        simp only [denE]
        split
        · rename_i hs
          exact de_lst (listA_ok hE hs)
        · exact bad_e
      | Subscript a b p =>
        cases b with
        | Slice lo hi step p2 =>
          simp only [denE]
          cases step with
          | none =>
            refine de_sl (hE a) ?_ ?_
            · cases lo with
              | none => exact dpo_none
              | some e => exact dpo_some (hE e)
            · cases hi with
              | none => exact dpo_none
              | some e => exact dpo_some (hE e)
          | some s =>
            simp only
            split
            · rename_i hc
              simp only [Bool.and_eq_true, Option.isNone_iff_eq_none] at hc
              obtain ⟨⟨h1, rfl⟩, rfl⟩ := hc
              unfold isM1 at h1
              split at h1
              · have h1 := eq_of_beq h1
                subst h1
                exact de_revA (hE a)
              · cases h1
            · exact bad_e
        | Tuple es kk p2 =>
          simp only [denE]
          split
          · rename_i hs
            split
            · rename_i hdx
              exact de_ixX F.u65 (F.ob.hs hdx) (hE a) (de_tup (listA_ok hE hs)) (ix_plain rfl)
            · exact de_dgetT (hu_of F.room) (hE a) (listA_ok hE hs) fun _ _ => rfl
          · exact bad_e
        | _ =>
          simp only [denE]
          split
          · rename_i t ht
            unfold cixT at ht
            split at ht
            · split at ht
              · rename_i hg
                exact de_cix (F.gl hg) (F.dct _ _ ht) (hE _) (fun _ _ => rfl)
              · cases ht
            · cases ht
          · cases hdx : sc.ob.dx with
            | true => exact de_ixX F.u65 (F.ob.hs hdx) (hE a) (hE _) (ix_plain rfl)
            | false => exact de_ix (hu_of F.room) (hE a) (hE _) (ix_plain rfl)
      | Call f args kw p =>
        simp only [denE]
        cases kw with
        | cons k ks => exact minK_ok F hE
        | nil =>
          cases f with
          | Name x p' =>
            simp only
            split
            · rename_i a hl
              obtain ⟨e1, p3, p4, rfl, _, h1, h2, h3⟩ := trg_ok hl
              obtain ⟨q1, q2, _⟩ := F.bl h1
              obtain ⟨q3, q4, _⟩ := F.bl h2
              subst e1
              exact de_trg1 F.calm q1 q2 q3 q4 (hE a) (star_cons (by simpa using h3)) (star_cons rfl)
            · exact bad_e
            split
            · rename_i a hl
              obtain ⟨e1, p3, p4, rfl, _, h1, h2, h3⟩ := lrg_ok hl
              obtain ⟨q1, q2, _⟩ := F.bl h1
              obtain ⟨q3, q4, _⟩ := F.bl h2
              subst e1
              exact de_rg1 F.calm q1 q2 q3 q4 (hE a) (star_cons (by simpa using h3)) (star_cons rfl)
            · rename_i a b hl
              obtain ⟨e1, p3, p4, rfl, _, h1, h2, h3⟩ := lrg_ok hl
              obtain ⟨q1, q2, _⟩ := F.bl h1
              obtain ⟨q3, q4, _⟩ := F.bl h2
              subst e1
              simp only [List.all_cons, List.all_nil, Bool.and_true, Bool.and_eq_true] at h3
              exact de_rg2 F.calm q1 q2 q3 q4 (hE a) (hE b) (star_cons h3.1) (star_cons h3.2) (star_cons rfl)
            · rename_i a b c hl
              obtain ⟨e1, p3, p4, rfl, _, h1, h2, h3⟩ := lrg_ok hl
              obtain ⟨q1, q2, _⟩ := F.bl h1
              obtain ⟨q3, q4, _⟩ := F.bl h2
              subst e1
              have h3' := h3
              simp only [List.all_cons, List.all_nil, Bool.and_true, Bool.and_eq_true] at h3
              exact de_rg3 F.calm q1 q2 q3 q4 (listA_ok hE h3') (star_cons h3.1) (star_any (by simp [h3.2])) (star_cons rfl)
            · exact bad_e
            · exact call_ok F tk hE
          | Attribute o m apos =>
            simp only
            split
            · rename_i hc
              simp only [Bool.and_eq_true] at hc
              split
              · rename_i ci hci
                split
                · rename_i hn
                  obtain ⟨C, fa, fd, ps, j, hj, hC, hcl, hM, FF, hb0⟩ := (F.ob.mth m ci.1 ci.2 hci).ex
                  exact umeth_ok F tk hE hC hcl hM (FF.up hj) hb0 hc.1.1 hc.1.2 hc.2 hn.1 hn.2
                · exact bad_e
              split
              · rename_i hpk
                obtain ⟨_, rfl⟩ := hpk
                exact popK_ok F hE hc.1.1 hc.1.2 hc.2
              split
              · rename_i hpk
                obtain ⟨_, rfl⟩ := hpk
                split
                · rename_i hdx
                  exact getX_ok F hdx hE hc.1.1 hc.1.2 hc.2
                · exact getK_ok F hE hc.1.1 hc.1.2 hc.2
              · exact meth_ok F hE hc.1.1 hc.1.2 hc.2
            · exact bad_e
          | _ => exact bad_e
      | ListComp elt gens scope p =>
        simp only [denE]
        split
        · rename_i tg iter ifs a
          split
          · rename_i hc
            obtain ⟨rfl, hs⟩ := hc
            have any : ∀ w, PI X tg iter (tI X.K cl W w) → PE X (.ListComp elt [⟨tg, iter, ifs, 0⟩] scope p) (tF X.K cl W (compD sc w tg (ttOf (fun c => denT n (sc.blk scope) c) ifs) scope (denE n (sc.blk scope) elt))) := fun w hw => by
              refine comp_ok F hw (fun g hg s H C c fp hk => ?_) (fun s H C c fp hk => (hB _ _ (F.blk hk s H C c fp)).1 elt) hs
              match ifs, hg with
              | [], hg => cases hg; exact dts_nil
              | [c'], hg => cases hg; exact dts_one ((hB _ _ (F.blk hk s H C c fp)).2.1 c')
            unfold lockD
            split
            · rename_i i hi
              unfold lockI at hi
              split at hi
              · rename_i x px _
                obtain ⟨q1, q2, q3, q4⟩ := F.vis hi
                exact de_lockC (any _ (di_frd (de_var (pe_var q1 q2 q3 q4)))) (any _ (hW _ _ hs))
              · cases hi
            · exact any _ (hW _ _ hs)
          · exact bad_e
        · exact bad_e
      | DictComp ke ve gens scope p =>
        simp only [denE]
        split
        · rename_i tg iter ifs a
          split
          · rename_i hc
            obtain ⟨rfl, hs⟩ := hc
            refine dcomp_ok F (hW _ _ hs) (fun g hg s H C c fp hk => ?_) (fun s H C c fp hk => (hB _ _ (F.blk hk s H C c fp)).1 ke) (fun s H C c fp hk => (hB _ _ (F.blk hk s H C c fp)).1 ve) hs
            match ifs, hg with
            | [], hg => cases hg; exact dts_nil
            | [c'], hg => cases hg; exact dts_one ((hB _ _ (F.blk hk s H C c fp)).2.1 c')
          · exact bad_e
        · exact bad_e
      | Attribute o f p =>
        simp only [denE]
        split
        · rename_i hb
          split
          · rename_i ci hci
            obtain ⟨C, pa, fa, fd, ps, j, hj, hC, hcl, hP, FF, hb0⟩ := (F.ob.prp f ci.1 ci.2 hci).ex
            exact de_prop hC hcl hP FF F.gd (F.room.mono hj) hb0 (hE o) (base_plain hb)
          · exact de_fld F.ob.flt (hE o) (base_plain hb)
        · exact bad_e
      | Dict ks vs p =>
        cases ks with
        | nil =>
          cases vs with
          | nil =>
            simp only [denE]
            split
            · exact de_dnewX
            split
            · exact de_dnewK
            · exact de_dnewT
          | cons _ _ =>
            simp only [denE]
            split
            · rename_i l hl
              exact de_dlit hl
            · exact bad_e
        | cons _ _ =>
          simp only [denE]
          split
          · rename_i l hl
            exact de_dlit hl
          · exact bad_e
      | _ => simp only [denE]; exact bad_e
    · cases e with
      | UnaryOp op a p =>
        simp only [denT]
        cases op with
        | Not => exact dt_not (hT a)
        | _ => exact bad_t
      | BoolOp op es p =>
        simp only [denT]
        cases op with
        | And => exact (andT_ok hT).pt
        | Or => exact (orT_ok hT).pt
      | IfExp c a b p => simp only [denT]; exact bad_t
      | Compare a ops bs p =>
        simp only [denT]
        split
        · split
          · rename_i hs
            split
            · rename_i g hg
              exact dt_cmp (cmpX_ok F.u65 F.ob.hs hg) (hE _) (hE _) (marks_plain hs)
            · exact bad_t
          · exact bad_t
        · split
          · rename_i hs
            split
            · rename_i g g' hg hg'
              exact dt_chain (cmpX_ok F.u65 F.ob.hs hg) (cmpX_ok F.u65 F.ob.hs hg') (hE _) (hE _) (hE _) hs
            · exact bad_t
          · exact bad_t
        · exact bad_t
      | _ => simp only [denT]; exact dt_truth (hE _) (test_plain rfl)
    · cases e with
      | Call f args kw p =>
        simp only [denW]
        cases kw with
        | cons _ _ => exact bad_w
        | nil =>
          cases f with
          | Name x p' =>
            simp only
            split
            · rename_i hc
              obtain ⟨rfl, h1, h2⟩ := hc
              obtain ⟨q1, q2, q3, q4⟩ := F.bl h1
              match args, h2 with
              | [a], h2 => exact di_rng1 q1 q2 (listB_ok hE h2) (star_cons (by simpa using h2))
              | [a, b], h2 =>
                have h2' := h2
                simp only [List.all_cons, List.all_nil, Bool.and_true, Bool.and_eq_true] at h2'
                exact di_rng2 q1 q2 (listB_ok hE h2) (by rw [star_cons h2'.1, star_cons h2'.2]; rfl) (by rw [star_cons h2'.2]; rfl)
              | [a, b, c], h2 =>
                have h2' := h2
                simp only [List.all_cons, List.all_nil, Bool.and_true, Bool.and_eq_true] at h2'
                exact di_rng3 q1 q2 (listB_ok hE h2) (star_cons h2'.1) (star_any (by simp [h2'.2]))
              | [], _ => exact bad_w
              | _ :: _ :: _ :: _ :: _, _ => exact bad_w
            · split
              · rename_i hc
                obtain ⟨rfl, h1, h2⟩ := hc
                obtain ⟨q1, q2, q3, q4⟩ := F.bl h1
                match args, h2 with
                | [a], h2 =>
                  simp only
                  split
                  · rename_i b hb
                    obtain ⟨p3, p4, rfl, h3, h4⟩ := rg_ok hb
                    obtain ⟨q5, q6, _⟩ := F.bl h3
                    exact di_revR1 q1 q2 q5 q6 (hE b) (star_cons (by simpa using h4)) (star_cons rfl)
                  · exact bad_w
                  · exact di_rev q1 q2 (hE a) (star_cons (by simpa using h2))
                | [], _ => exact bad_w
                | _ :: _ :: _, _ => exact bad_w
              · exact di_val (hE _)
          | _ => exact di_val (hE _)
      | _ => simp only [denW]; exact di_val (hE _)
end Ev

/-! ## Ev11a -/
set_option Elab.async false
set_option linter.all false
set_option maxRecDepth 100000
namespace Ev
open PySem PySem.Spec PyProof.Rows L2

structure JX (K : PySem.W.Frag) (i : Nat) (a : Addr) (d : Option Addr) (x : Exn) (ρ : List Addr) (H : Hp) (σ : L2.St) : Prop where
  at_ : σ[i]? = some (some (.ref a))
  fs : (x.fs = [] ∧ d = none) ∨ ∃ dx vs, d = some dx ∧ dx ∉ ρ ∧ H dx = some (.xd vs) ∧ RFs K ρ H x.fs vs
theorem RS.noXd {K : PySem.W.Frag} {cl : CT} {ρ : List Addr} {H : Hp} {st : Store} (S : RS K ρ H cl st) {a : Addr} {vs : List (Str × V)} (h : H a = some (.xd vs)) : a ∉ ρ := by
  intro ha
  obtain ⟨n, hn⟩ := List.getElem?_of_mem ha
  obtain ⟨c, hc, rc⟩ := S.cell hn
  cases c with
  | lst l => obtain ⟨_, e, _⟩ := rc; rw [h] at e; cases e
  | dict t l => obtain ⟨_, _, e, _⟩ | ⟨_, _, e, _⟩ := rc <;> (rw [h] at e; cases e)
  | frd l => obtain ⟨_, _, e, _⟩ := rc; rw [h] at e; cases e
  | dxt l => obtain ⟨_, _, _, e, _⟩ := rc; rw [h] at e; cases e
  | ins c fs => obtain ⟨_, _, _, _, e, _⟩ := rc; rw [h] at e; cases e
section
variable {K : PySem.W.Frag} {cl : CT} {W : WX} {i : Nat} {a : Addr} {d : Option Addr} {x : Exn}
theorem JX.ext {ρ ρ' : List Addr} {H H' : Hp} {st : Store} {σ : L2.St} (S : RS K ρ H cl st) (e : Ext ρ H ρ' H') (j : JX K i a d x ρ H σ) : JX K i a d x ρ' H' σ := by
  refine ⟨j.at_, ?_⟩
  rcases j.fs with h | ⟨dx, vs, h1, h2, h3, h4⟩
  · exact .inl h
  · exact .inr ⟨dx, vs, h1, (e.keep h3 h2 (fun _ z => by cases z)).2, (e.keep h3 h2 (fun _ z => by cases z)).1, RFs.mono (e.mono S) _ _ h4⟩
def tJ (K : PySem.W.Frag) (cl : CT) (W : WX) (i : Nat) (a : Addr) (d : Option Addr) (x : Exn) {α β : Type} (rel : Rel α β) (f : SEnv → Store → R α) : L2.St → Hp → (β → Hp → Prop) → Prop :=
  fun σ H Q => ∃ ρ env st, RS K ρ H cl st ∧ RE K ρ H σ env ∧ JX K i a d x ρ H σ ∧ Post K cl W σ rel ρ H (f env st) Q
abbrev jF (K : PySem.W.Frag) (cl : CT) (W : WX) (i : Nat) (a : Addr) (d : Option Addr) (x : Exn) (f : EE) : TE := tJ K cl W i a d x (relV K) f
abbrev jA (K : PySem.W.Frag) (cl : CT) (W : WX) (i : Nat) (a : Addr) (d : Option Addr) (x : Exn) (f : EA) : TA := tJ K cl W i a d x (relA K) f
end
section
variable {X : Cx} {cl : CT} {W : WX} {i : Nat} {a : Addr} {d : Option Addr} {x : Exn} {e b : Expr} {es rest : List Expr} {fa fb : EE} {fr : EA} {pos : Pos}
theorem dj_bad : PE X e (jF X.K cl W i a d x eBad) := ⟨fun _ _ _ _ _ _ ⟨_, _, _, _, _, _, P⟩ => P.elim⟩
theorem dj_of (h : PE X e (tF X.K cl W fa)) : PE X e (jF X.K cl W i a d x fa) := PEw h fun σ H Q ⟨ρ, env, st, S, E, _, P⟩ => ⟨ρ, env, st, S, E, P⟩
theorem dja_nil : PA X [] (jA X.K cl W i a d x aNil) := PAw pa_nil fun σ H Q ⟨ρ, env, st, S, E, _, P⟩ => P ρ H [] (Ext.refl _ _) S rfl
theorem dja_cons (ha : PE X e (jF X.K cl W i a d x fa)) (hr : PA X es (jA X.K cl W i a d x fr)) (hs : starEach (e :: es) X.env = (false, eval e X.env) :: starEach es X.env) : PA X (e :: es) (jA X.K cl W i a d x (aCons fa fr)) := by
  refine PAw (pa_cons ha hr hs) fun σ H Q ⟨ρ, env, st, S, E, J, P⟩ => ?_
  refine ⟨ρ, env, st, S, E, J, (Post.bind0 P).mono ?_⟩
  rintro y H1 ⟨ρ1, st1, u, x1, S1, r1, P1⟩
  obtain ⟨k, st2, ρ2, e2, x2, S2, r2, m2⟩ := mat_ok S1 x1 r1
  rw [e2, R.bind_ok] at P1
  refine ⟨ρ2, env, st2, S2, (E.mono (x1.mono S)).mono m2, J.ext S x2, (Post.bind0 (relα := relA X.K) (Post.from backA S2 x2 P1)).mono ?_⟩
  rintro ys H3 ⟨ρ3, st3, ds, x3, S3, r3, P3⟩
  exact P3 ρ3 H3 (y :: ys) x3 S3 ⟨y, ys, rfl, RD.mono (x3.mono S2) _ _ r2, r3⟩
theorem dj_tup {k} (h : PA X es (jA X.K cl W i a d x fr)) : PE X (.Tuple es k pos) (jF X.K cl W i a d x (eTup fr)) := by
  refine PEw (pe_tup h) fun σ H Q ⟨ρ, env, st, S, E, J, P⟩ => ?_
  refine ⟨ρ, env, st, S, E, J, (Post.bind backV P).mono ?_⟩
  rintro ys H1 ⟨ρ1, st1, ds, x1, S1, r1, P1⟩
  split at P1
  · rename_i hz
    refine ⟨by rw [← RDs.length r1, sLine_eq]; exact hz, fun p hp => ?_⟩
    exact P1 ρ1 _ _ (Ext.new hp) (S1.new hp) ⟨p, ys, rfl, SqT.of upd_same, RDs.mono ((Ext.new hp).mono S1) _ _ r1⟩
  · exact P1.elim
theorem dj_and (ha : PE X e (jF X.K cl W i a d x fa)) (hb : PE X (.BoolOp .And (b :: rest) pos) (jF X.K cl W i a d x fb)) : PE X (.BoolOp .And (e :: b :: rest) pos) (jF X.K cl W i a d x (eAnd fa fb)) := by
  refine PEw (pe_and ha hb) fun σ H Q ⟨ρ, env, st, S, E, J, P⟩ => ?_
  refine ⟨ρ, env, st, S, E, J, (Post.bind backV P).mono ?_⟩
  rintro y H1 ⟨ρ1, st1, u, x1, S1, r1, P1⟩
  split at P1
  · rename_i k
    cases r1
    refine ⟨k, rfl, ?_⟩
    cases k with
    | true => exact iteT ⟨ρ1, env, st1, S1, E.mono (x1.mono S), J.ext S x1, by simpa using P1⟩
    | false => exact iteF (P1 ρ1 H1 _ (Ext.refl _ _) S1 rfl)
  · exact P1.elim
theorem dj_not (ha : PE X e (jF X.K cl W i a d x fa)) : PE X (.UnaryOp .Not e pos) (jF X.K cl W i a d x (eNot fa)) := by
  refine PEw (pe_not ha) fun σ H Q ⟨ρ, env, st, S, E, J, P⟩ => ?_
  refine ⟨ρ, env, st, S, E, J, (Post.bind backV P).mono ?_⟩
  rintro y H1 ⟨ρ1, st1, u, x1, S1, r1, P1⟩
  split at P1
  · cases r1
    exact ⟨_, rfl, P1 ρ1 H1 _ (Ext.refl _ _) S1 rfl⟩
  · exact P1.elim
theorem dj_cmp {op : CmpOp} {g : RV → RV → Store → Option RV} (ho : OpR X (compareOp op) (rP2 X.K cl g)) (ha : PE X e (jF X.K cl W i a d x fa)) (hb : PE X b (jF X.K cl W i a d x fb)) (hm : behindInMarks op b = false) : PE X (.Compare e [op] [b] pos) (jF X.K cl W i a d x (e2 g fa fb)) := by
  refine PEw (pe_cmpR ho ha hb hm) fun σ H Q ⟨ρ, env, st, S, E, J, P⟩ => ?_
  refine ⟨ρ, env, st, S, E, J, (Post.bind backV P).mono ?_⟩
  rintro y H1 ⟨ρ1, st1, u, x1, S1, r1, P1⟩
  refine ⟨ρ1, env, st1, S1, E.mono (x1.mono S), J.ext S x1, (Post.bind backV P1).mono ?_⟩
  rintro z H2 ⟨ρ2, st2, w, x2, S2, r2, P2⟩
  exact ⟨ρ2, st2, u, w, H, H1, S2, RRV.ext S1 x2 r1, r2, P2.prim⟩
theorem jAnd_ok : ∀ {es : List Expr} {f : Expr → EE}, (∀ e, PE X e (jF X.K cl W i a d x (f e))) → PE X (.BoolOp .And es pos) (jF X.K cl W i a d x (andE (es.map f)))
  | [], f, h => dj_bad
  | [e], f, h => pe_one (h e)
  | e :: e' :: es, f, h => dj_and (h e) (jAnd_ok (es := e' :: es) h)
theorem jList_ok {f : Expr → EE} (h : ∀ e, PE X e (jF X.K cl W i a d x (f e))) : ∀ {es : List Expr}, es.all noStar = true → PA X es (jA X.K cl W i a d x (listA f es))
  | [], _ => dja_nil
  | e :: es, hs => by
    simp only [List.all_cons, Bool.and_eq_true] at hs
    exact dja_cons (h e) (jList_ok h hs.2) (star_cons hs.1)
abbrev jB (K : PySem.W.Frag) (cl : CT) (W : WX) (i : Nat) (a : Addr) (d : Option Addr) (x : Exn) (f : ET) : TT := tJ K cl W i a d x relB f
theorem djt_bad : PT X e (jB X.K cl W i a d x tBad) := ⟨fun _ _ _ _ _ _ ⟨_, _, _, _, _, _, P⟩ => P.elim⟩
theorem djt_truth (ha : PE X e (jF X.K cl W i a d x fa)) (he : ∀ whole, isTrue e X.env whole = (do let v ← whole; standAt e.pos; holding [v] (truthy v))) : PT X e (jB X.K cl W i a d x (eTru fa)) := by
  refine PTw (pt_truth ha he) fun σ H Q ⟨ρ, env, st, S, E, J, P⟩ => ?_
  refine ⟨ρ, env, st, S, E, J, (Post.bind backB P).mono ?_⟩
  rintro y H1 ⟨ρ1, st1, u, x1, S1, r1, P1⟩
  cases e : dTru u st1 with
  | none => rw [e] at P1; exact P1.elim
  | some b =>
    rw [e] at P1
    exact ⟨b, tru_d S1 r1 e, P1 ρ1 H1 b (Ext.refl _ _) S1 rfl⟩
theorem djt_not {g : ET} (ha : PT X e (jB X.K cl W i a d x g)) : PT X (.UnaryOp .Not e pos) (jB X.K cl W i a d x (tNotB g)) := by
  refine PTw (pt_not ha) fun σ H Q ⟨ρ, env, st, S, E, J, P⟩ => ?_
  refine ⟨ρ, env, st, S, E, J, (Post.bind backB P).mono ?_⟩
  rintro y H1 ⟨ρ1, st1, u, x1, S1, rfl, P1⟩
  exact P1 ρ1 H1 _ (Ext.refl _ _) S1 rfl
theorem djw_and {g h : ET} (ha : PT X e (jB X.K cl W i a d x g)) (hb : PW X (.BoolOp .And (b :: rest) pos) (jB X.K cl W i a d x h)) : PW X (.BoolOp .And (e :: b :: rest) pos) (jB X.K cl W i a d x (tAndB g h)) := by
  refine PWw (pw_and ha hb) fun σ H Q ⟨ρ, env, st, S, E, J, P⟩ => ?_
  refine ⟨ρ, env, st, S, E, J, (Post.bind backB P).mono ?_⟩
  rintro y H1 ⟨ρ1, st1, u, x1, S1, rfl, P1⟩
  split at P1
  · rename_i h
    subst h
    exact iteT ⟨ρ1, env, st1, S1, E.mono (x1.mono S), J.ext S x1, P1⟩
  · rename_i h
    have h : u = false := by simpa using h
    subst h
    exact iteF (P1 ρ1 H1 _ (Ext.refl _ _) S1 rfl)
theorem jAndT_ok : ∀ {es : List Expr} {f : Expr → ET}, (∀ e, PT X e (jB X.K cl W i a d x (f e))) → PW X (.BoolOp .And es pos) (jB X.K cl W i a d x (andT (es.map f)))
  | [], f, h => ⟨fun _ _ _ _ _ _ _ ⟨_, _, _, _, _, _, P⟩ => P.elim⟩
  | [e], f, h => pw_and1 (h e)
  | e :: e' :: es, f, h => djw_and (h e) (jAndT_ok (es := e' :: es) h)
def jS (K : PySem.W.Frag) (cl : CT) (W : WX) (i : Nat) (a : Addr) (d : Option Addr) (x : Exn) (f : SS) : TS := fun D σ H => ∃ ρ env st, RS K ρ H cl st ∧ RE K ρ H σ env ∧ JX K i a d x ρ H σ ∧ PostS K cl W ρ H (f env st) D
theorem djs_ret (he : PE X e (jF X.K cl W i a d x fa)) : PS X (.Return (some e) pos) (jS X.K cl W i a d x (sRet fa)) := by
  refine PSw (ps_ret he) fun D σ H ⟨ρ, env, st, S, E, J, P⟩ => ?_
  refine ⟨ρ, env, st, S, E, J, (PostS.toS (rel := relV X.K) S E P).mono ?_⟩
  rintro y H1 ⟨ρ1, st1, u, x1, S1, r1, P1⟩
  exact P1 ρ1 H1 y x1 S1 r1
theorem djs_one {s : Stmt} {f : SS} (h : PS X s (jS X.K cl W i a d x f)) : PSs X [s] (jS X.K cl W i a d x (sSeq f sNil)) := by
  refine PSsw (pss_cons h pss_nil) fun D σ H ⟨ρ, env, st, S, E, J, P⟩ => ?_
  refine ⟨ρ, env, st, S, E, J, ?_⟩
  unfold sSeq at P
  cases hf : f env st with
  | nx env1 st1 =>
    rw [hf] at P
    exact fun ρ1 H1 σ1 x1 S1 E1 => P ρ1 H1 σ1 x1 S1 E1
  | brk env1 st1 => rw [hf] at P; exact P
  | ct env1 st1 => rw [hf] at P; exact P
  | ret u st1 => rw [hf] at P; exact P
  | exc y env1 st1 => rw [hf] at P; exact P
  | bad => rw [hf] at P; exact P
theorem djs_nil : PSs X [] (jS X.K cl W i a d x sNil) := PSsw pss_nil fun D σ H ⟨ρ, env, st, S, E, J, P⟩ => P ρ H σ (Ext.refl _ _) S E
theorem djs_if {s1 : Stmt} {g : ET} {f : SS} (hc : PT X e (jB X.K cl W i a d x g)) (ha : PS X s1 (jS X.K cl W i a d x f)) : PS X (.If e [s1] [] pos) (jS X.K cl W i a d x (sIf g (sSeq f sNil) sNil)) := by
  refine PSw (ps_if hc (djs_one ha) (djs_nil (cl := cl) (W := W) (i := i) (a := a) (d := d) (x := x))) fun D σ H ⟨ρ, env, st, S, E, J, P⟩ => ?_
  refine ⟨ρ, env, st, S, E, J, (PostS.toS (rel := relB) S E P).mono ?_⟩
  rintro y H1 ⟨ρ1, st1, u, x1, S1, rfl, P1⟩
  have P2 := PostS.from S1 x1 P1
  split at P2
  · rename_i h
    subst h
    exact iteT ⟨ρ1, env, st1, S1, E.mono (x1.mono S), J.ext S x1, P2⟩
  · rename_i h
    have h : u = false := by simpa using h
    subst h
    exact iteF ⟨ρ1, env, st1, S1, E.mono (x1.mono S), J.ext S x1, P2⟩
end

theorem call_isErr {X : Cx} {a C : Addr} {oe : Obj} {d : Option Addr} {pn : List (Addr × Obj)} (T : ErrC X.K C) (hz : Zc (.ref C) d oe) (hf : ∃ vs, oe.data = .fields vs) :
    CallR (X.suite a ((a, oe) :: pn)) (.builtin "isinstance") fun xs H Q => ∃ (c : V) (cv : Value) (b : Bool), xs = [.ref a, c] ∧ (∀ u, RelV c u → u = cv) ∧ PySem.W.kitOne X.K (.ref C) cv = some b ∧ (d = none ∨ ∃ dx vs, d = some dx ∧ H dx = some (.xd vs)) ∧ Q (.bl b) H := by
  intro pins s σ H xs us Q I r h
  obtain ⟨c, cv, b, rfl, hcv, e, hd, q⟩ := h
  obtain ⟨u1, u2, rfl, rx, rt⟩ := vals2 r
  obtain rfl : u1 = Value.ref a := rx
  have ec := hcv _ rt
  subst ec
  have ha := (I.pin (a, oe) (List.mem_append_left _ List.mem_cons_self)).1
  obtain ⟨vs, hv⟩ := hf
  have go : ∀ od, PySem.W.InstAt s.heap a oe C od → wpAny (model X.prog X.w) (X.suite a ((a, oe) :: pn)).A (call (.builtin "isinstance") [.ref a, u2]) (EP (X.suite a ((a, oe) :: pn)) pins σ Q) (X.suite a ((a, oe) :: pn)).xe s := fun od J =>
    PySem.W.kia_one (PySem.W.kitx_exc T.cl T.ga T.gg T.sb T.ca T.sp T.tk T.mo) I.kIn J e (fun z => nomatch z) fun tk => ⟨.bl b, H, I.kept (t' := tk) fun _ _ z => z, rfl, q⟩
  have nc : PySem.W.notCls oe = true := by unfold PySem.W.notCls; rw [hv]
  rcases hd with hd | ⟨dx, ws, hd, hx⟩
  · exact go none ⟨ha, hz.1, nc, by rw [hz.2, hd]; trivial⟩
  · obtain ⟨mA, hns, _⟩ := (show ObjOk X.prog X.w H s.heap dx (.xd ws) from I.hok dx _ hx)
    obtain ⟨od, ho, _⟩ := lookIn_ns hns
    exact go (some od) ⟨ha, hz.1, nc, by rw [hz.2, hd]; exact ho⟩
section
variable {X : Cx} {cl : CT} {W : WX} {i : Nat} {a C : Addr} {d : Option Addr} {x : Exn} {oe : Obj} {pn : List (Addr × Obj)} {nm : Str}
theorem dj_isi {c : V} {cv : Value} {b : Bool} {y : Str} {p p1 p2 pos : Pos} (T : ErrC X.K C) (hz : Zc (.ref C) d oe) (hf : ∃ vs, oe.data = .fields vs)
    (hn : X.N[i]? = some nm) (hv : Vis X.env.scope nm) (h1 : (nm == ("__debug__" : Str)) = false) (h2 : (nm == ("__classdict__" : Str)) = false) (hg : Gl X "isinstance") (hm : X.mg "isinstance" = none)
    (hc : PE (X.suite a ((a, oe) :: pn)) (.Name y p2) (tC c)) (hcv : ∀ u, RelV c u → u = cv) (hk : PySem.W.kitOne X.K (.ref C) cv = some b) :
    PE (X.suite a ((a, oe) :: pn)) (.Call (.Name "isinstance" p) [.Name nm p1, .Name y p2] [] pos) (jF X.K cl W i a d x (eC (.bl b))) := by
  have hN : PE (X.suite a ((a, oe) :: pn)) (.Name nm p1) (tVar i) := pe_var hn hv h1 h2
  refine PEw (pe_callB (X := X.suite a ((a, oe) :: pn)) (call_isErr T hz hf) hg hm (by rfl) (pa_cons hN (pa_cons hc pa_nil) rfl) (by decide) (by decide) rfl) fun σ H Q ⟨ρ, env, st, S, E, J, P⟩ => ?_
  refine ⟨.ref a, J.at_, c, cv, b, rfl, hcv, hk, ?_, P ρ H _ (Ext.refl _ _) S rfl⟩
  rcases J.fs with h | ⟨dx, vs, h1, _, h3, _⟩
  · exact .inl h.2
  · exact .inr ⟨dx, vs, h1, h3⟩
theorem RFs.look {K : PySem.W.Frag} {ρ : List Addr} {H : Hp} {f : Str} {d : D} : ∀ {l : List (Str × D)} {vs : List (Str × V)}, RFs K ρ H l vs → l.lookup f = some d → ∃ v, vs.lookup f = some v ∧ RD K ρ H d v
  | [], _, _, h => by cases h
  | (g, k) :: l, _, r, h => by
    obtain ⟨v, r', rfl, h1, h2⟩ := r
    rw [List.lookup_cons] at h ⊢
    split at h
    · rename_i e
      cases h
      exact ⟨v, by simp [e], h1⟩
    · rename_i e
      obtain ⟨w, h3, h4⟩ := RFs.look h2 h
      exact ⟨w, by simp [e, h3], h4⟩
theorem dj_fld {f : Str} {k : D} {p1 pos : Pos} (T : ErrC X.K C) (hno : PySem.W.findIn X.K (.ref C) f = some none) (hz : Zc (.ref C) d oe) (hf : ∃ vs, oe.data = .fields vs)
    (hn : X.N[i]? = some nm) (hv : Vis X.env.scope nm) (h1 : (nm == ("__debug__" : Str)) = false) (h2 : (nm == ("__classdict__" : Str)) = false) (hk : x.fs.lookup f = some k) :
    PE (X.suite a ((a, oe) :: pn)) (.Attribute (.Name nm p1) f pos) (jF X.K cl W i a d x (eC k)) := by
  have hN : PE (X.suite a ((a, oe) :: pn)) (.Name nm p1) (tVar i) := pe_var hn hv h1 h2
  refine PEw (pe_xf ⟨T.ga, T.gg, T.sb, T.hd⟩ hno hz hf hN rfl) fun σ H Q ⟨ρ, env, st, S, E, J, P⟩ => ?_
  refine ⟨.ref a, J.at_, rfl, rfl, ?_⟩
  rcases J.fs with h | ⟨dx, vs, e1, _, e3, e4⟩
  · rw [h.1] at hk; cases hk
  · obtain ⟨v, e5, e6⟩ := RFs.look e4 hk
    exact ⟨dx, vs, v, e1, e3, e5, P ρ H _ (Ext.refl _ _) S e6⟩
end
end Ev

/-! ## Ev11b -/
set_option Elab.async false
set_option linter.all false
set_option maxRecDepth 100000
/-! Ev11b: several clauses, each with a name. -/
namespace Ev
open PySem PySem.Spec PyProof.Rows L2
/-- a clause: the class, the name's slot, the suite -/
abbrev Cla := Value × Option Nat × (Addr → Value → Option Addr → TS)
def endsN (i : Nat) (D : Ends) : Ends := { nx := fun σ' H' => D.nx (σ'.set i none) H', rt := D.rt, bk := fun σ' H' => D.bk (σ'.set i none) H', ct := fun σ' H' => D.ct (σ'.set i none) H' }
def endsO (i : Option Nat) (D : Ends) : Ends := match i with
  | some i => endsN i D
  | none => D
def setO (i : Option Nat) (a : Addr) (σ : L2.St) : L2.St := match i with
  | some i => σ.set i (some (.ref a))
  | none => σ
/-- what the clauses ask of an exception of the body -/
def wClas (K : PySem.W.Frag) (Wout : WX) (D : Ends) : List Cla → WX
  | [] => Wout
  | (c, i, ts) :: r => fun cls d σ H => ∃ b, PySem.W.exmOne K cls c = some b ∧ (b = true → ∀ a, H a = none → ts a cls d (endsO i D) (setO i a σ) H) ∧ (b = false → wClas K Wout D r cls d σ H)
inductive Clas (X : Cx) : List ExceptHandler → List Cla → Prop
  | nil : Clas X [] []
  | cons {x n : Str} {c : Value} {i : Nat} {ts : Addr → Value → Option Addr → TS} {b₀ : Stmt} {suite : List Stmt} {np pos' : Pos} {hds : List ExceptHandler} {l : List Cla} (hc : Names X x c) (hi : X.N[i]? = some n) (hln : X.env.kindOf n = some .local)
      (hsu : ∀ (a : Addr) (oe : Obj) (cls : Value) (d : Option Addr) (pn : List (Addr × Obj)), Zc cls d oe → (∃ vs, oe.data = .fields vs) → PSs (X.suite a ((a, oe) :: pn)) (b₀ :: suite) (ts a cls d)) (r : Clas X hds l) :
      Clas X (.ExceptHandler (some (.Name x np)) (some n) (b₀ :: suite) pos' :: hds) ((c, some i, ts) :: l)
  | cons0 {x : Str} {c : Value} {ts : Addr → Value → Option Addr → TS} {b₀ : Stmt} {suite : List Stmt} {np pos' : Pos} {hds : List ExceptHandler} {l : List Cla} (hc : Names X x c)
      (hsu : ∀ (a : Addr) (oe : Obj) (cls : Value) (d : Option Addr) (pn : List (Addr × Obj)), Zc cls d oe → (∃ vs, oe.data = .fields vs) → PSs (X.suite a ((a, oe) :: pn)) (b₀ :: suite) (ts a cls d)) (r : Clas X hds l) :
      Clas X (.ExceptHandler (some (.Name x np)) none (b₀ :: suite) pos' :: hds) ((c, none, ts) :: l)
section
variable {X : Cx} {body : List Stmt} {h₀ : ExceptHandler} {hds : List ExceptHandler} {l : List Cla} {pos : Pos} {tb : WX → TS} {Wout : WX}
theorem ps_clas (hs : X.stack = X.env :: X.outer) (hf : X.env.frame = some X.env.locals) (hN : X.N.Nodup) (tk : Takes X Wout)
    (hb : ∀ (W : WX) (pn : List (Addr × Obj)) (xe : Value → Shared → Prop), Takes (X.tr pn xe) W → PassesOwn (model X.prog X.w) X.A X.env xe → PSs (X.tr pn xe) body (tb W))
    (hh : Clas X (h₀ :: hds) l) : PS X (.Try body (h₀ :: hds) [] [] pos) (fun D σ H => tb (wClas X.K Wout D l) D σ H) := by
  refine ⟨fun pins s σ H D I h => ?_⟩
  have ok := I.ok
  refine wpAny_Try_except ?_
  have caught : Takes (X.tr (X.pn ++ pins) (fun e s₁ => wpAny (model X.prog X.w) X.A (noteFrame e X.env) (fun _ s₂ => wpAny (model X.prog X.w) X.A (setFlight e none) (fun _ s₃ =>
      wpAny (model X.prog X.w) X.A (handleBy e X.env (h₀ :: hds)) (SP X pins D) X.xe s₃) X.xe s₂) X.xe s₁)) (wClas X.K Wout D l) := by
    rintro u s' ⟨a, B, sI, pins', σ', H', cls, d, rfl, J', nb, up, sky, na, os, ag, w⟩
    have J : Inv X pins σ' H' sI := J'.ofTry ok
    refine Sky.land Zc.steady (show X.A.frames = some (X.env :: X.outer) by rw [ok.frames, hs]) hf (show Sky B (X.env :: X.outer) a (Zc cls d) X.env.locals s'.heap by rw [← hs]; exact sky) fun h3 fl3 up3 => ?_
    have J3 : Inv X pins σ' H' { s' with heap := h3 } := J.landed nb fl3.1 (up.trans up3) os ag
    obtain ⟨oe3, vs3, he3, hz3, hd3⟩ := fl3.there
    have nfr : a ∉ frs (X.env :: X.outer) := fun hm => by
      obtain ⟨_, o', e', hnf⟩ := fl3.2.2.1.mem hm
      rw [he3] at e'; cases e'
      exact hnf _ hd3
    have nL : a ≠ X.env.locals := fun z => nfr (List.mem_filterMap.mpr ⟨X.env, List.mem_cons_self, by rw [hf, z]⟩)
    have nF : a ∉ X.fs := fun hm => by
      obtain ⟨e, he, q⟩ := List.mem_filterMap.mp hm
      exact nfr (List.mem_filterMap.mpr ⟨e, List.mem_cons_of_mem _ he, q⟩)
    have S3 := J3.suite he3 hd3 na nL nF
    have go : ∀ {hds' : List ExceptHandler} {l' : List Cla}, Clas X hds' l' → wClas X.K Wout D l' cls d σ' H' → wpAny (model X.prog X.w) X.A (handleBy (.ref a) X.env hds') (SP X pins D) X.xe { s' with heap := h3 } := by
      intro hds' l' hk
      induction hk with
      | nil =>
        intro w
        refine wpAny_handleBy_nil ?_
        obtain ⟨_, _, _, oe, vs, T, oT, _, he, hz, hd, h1, _⟩ := id fl3
        unfold PySem.passOn
        refine wpAny_bind (wpAny_field he hd h1 ?_)
        rw [if_neg (show ¬ ((Value.ref T == Value.none) = true) from by simp)]
        have fin : wpAny (model X.prog X.w) X.A (setFlight (.ref a) X.env.frame) (fun _ s4 => wpAny (model X.prog X.w) X.A (throw (.ref a) : Sem Flow) (SP X pins D) X.xe s4) X.xe { s' with heap := h3 } := by
          rw [hf]
          exact HandSPX.setFlight_upZ fl3 fun h4 hh4 up4 => wpAny_throw (tk _ _ ⟨a, B, sI, pins, σ', H', cls, d, rfl, J, nb, (up.trans up3).trans up4, .inr (.inr (by rw [hs]; exact hh4)), na, os, ag, w⟩)
        first
          | exact wpAny_bind (wpAny_pure (wpAny_bind fin))
          | exact wpAny_bind fin
      | @cons x n c i ts b₀ suite np pos' hds2 l2 hc hi hln hsu r ih =>
        intro w
        obtain ⟨b, hb1, hyes, hno⟩ := w
        refine wpAny_handleBy_cons (codeAny_handlers_test ?_) (by intro q; cases q)
        have LT : PySem.W.Looks (model X.prog X.w) h3 (typeOf (.ref a)) cls := fun A Q E s k q => wpAny_typeOf_ref (k _ _ he3) (by rw [hz3.1]; exact q)
        have LM := PySem.W.exm_one (M := model X.prog X.w) (J3.kIn) LT hb1
        have test : ∀ {Q : Value → Shared → Prop} {E : Value → Shared → Prop}, Q c { s' with heap := h3 } → wpAny (model X.prog X.w) (X.A.mark (some (.ref a))) (eval (.Name x np) X.env) Q E { s' with heap := h3 } := fun {Q E} q => by
          obtain ⟨hg, hdbg, hm | ⟨hm, hv, hnn⟩⟩ := hc
          · exact ld_glob (X := X.suite a ((a, oe3) :: (X.pn ++ pins))) S3 hg hm q hdbg
          · exact ld_blt (X := X.suite a ((a, oe3) :: (X.pn ++ pins))) S3 hg hm hv q hnn hdbg
        refine test (LM.here ?_)
        cases b with
        | true =>
          refine codeAny_handlers_suite_as (HandSPX.lands_againZ fl3 fun h4 fl4 up4 => ?_)
          have J4 : Inv X pins σ' H' { s' with heap := h4 } := J.landed nb fl4.1 ((up.trans up3).trans up4) os ag
          obtain ⟨oe4, vs4, he4, hz4, hd4⟩ := fl4.there
          refine store_ok (X := X.suite a ((a, oe4) :: (X.pn ++ pins))) (v := .ref a) (J4.suite he4 hd4 na nL nF) hN hi (.inl hln) rfl (fun s5 S5 => ?_) (.inr hln)
          refine wpAny_mono ((hsu a oe4 cls d (X.pn ++ pins) hz4 ⟨_, hd4⟩).run [] s5 _ H' _ S5 (hyes rfl a na)) (fun f s6 hsp => ?_) (fun _ _ z => False.elim z)
          have end_ : ∀ {σ6 : L2.St} {H6 : Hp} {Q : Shared → Prop}, Inv (X.suite a ((a, oe4) :: (X.pn ++ pins))) [] σ6 H6 s6 → (∀ s7, Inv X pins (σ6.set i none) H6 s7 → Q s7) →
              wpAny (model X.prog X.w) X.A (do bindName X.env n .none; unbindBehindTheSuite X.env n pos') (fun _ s7 => Q s7) X.xe s6 := fun {σ6 H6 Q} S6 hq => gone_ok (S6.unsuite ok) hN hi hln hq
          cases f with
          | next =>
            obtain ⟨σ6, H6, S6, q6⟩ := hsp
            exact end_ S6 fun s7 J7 => ⟨_, _, J7, q6⟩
          | brk =>
            obtain ⟨σ6, H6, S6, q6⟩ := hsp
            exact end_ S6 fun s7 J7 => ⟨_, _, J7, q6⟩
          | cont =>
            obtain ⟨σ6, H6, S6, q6⟩ := hsp
            exact end_ S6 fun s7 J7 => ⟨_, _, J7, q6⟩
          | ret u =>
            obtain ⟨v6, σ6, H6, S6, r6, q6⟩ := hsp
            exact end_ S6 fun s7 J7 => ⟨_, _, _, J7, r6, q6⟩
        | false => exact ih (hno rfl)
      | @cons0 x c ts b₀ suite np pos' hds2 l2 hc hsu r ih =>
        intro w
        obtain ⟨b, hb1, hyes, hno⟩ := w
        refine wpAny_handleBy_cons (codeAny_handlers_test ?_) (by intro q; cases q)
        have LT : PySem.W.Looks (model X.prog X.w) h3 (typeOf (.ref a)) cls := fun A Q E s k q => wpAny_typeOf_ref (k _ _ he3) (by rw [hz3.1]; exact q)
        have LM := PySem.W.exm_one (M := model X.prog X.w) (J3.kIn) LT hb1
        have test : ∀ {Q : Value → Shared → Prop} {E : Value → Shared → Prop}, Q c { s' with heap := h3 } → wpAny (model X.prog X.w) (X.A.mark (some (.ref a))) (eval (.Name x np) X.env) Q E { s' with heap := h3 } := fun {Q E} q => by
          obtain ⟨hg, hdbg, hm | ⟨hm, hv, hnn⟩⟩ := hc
          · exact ld_glob (X := X.suite a ((a, oe3) :: (X.pn ++ pins))) S3 hg hm q hdbg
          · exact ld_blt (X := X.suite a ((a, oe3) :: (X.pn ++ pins))) S3 hg hm hv q hnn hdbg
        refine test (LM.here ?_)
        cases b with
        | true =>
          refine codeAny_handlers_suite ?_
          refine HandSPX.lands_againZ fl3 fun h4 fl4 up4 => ?_
          have J4 : Inv X pins σ' H' { s' with heap := h4 } := J.landed nb fl4.1 ((up.trans up3).trans up4) os ag
          obtain ⟨oe4, vs4, he4, hz4, hd4⟩ := fl4.there
          refine wpAny_mono ((hsu a oe4 cls d (X.pn ++ pins) hz4 ⟨_, hd4⟩).run [] _ _ H' _ (J4.suite he4 hd4 na nL nF) (hyes rfl a na)) (fun f s6 hsp => ?_) (fun _ _ z => False.elim z)
          cases f with
          | next =>
            obtain ⟨σ6, H6, S6, q6⟩ := hsp
            exact ⟨_, _, S6.unsuite ok, q6⟩
          | brk =>
            obtain ⟨σ6, H6, S6, q6⟩ := hsp
            exact ⟨_, _, S6.unsuite ok, q6⟩
          | cont =>
            obtain ⟨σ6, H6, S6, q6⟩ := hsp
            exact ⟨_, _, S6.unsuite ok, q6⟩
          | ret u =>
            obtain ⟨v6, σ6, H6, S6, r6, q6⟩ := hsp
            exact ⟨_, _, _, S6.unsuite ok, r6, q6⟩
        | false => exact ih (hno rfl)
    exact go hh w
  refine wpAny_mono ((hb (wClas X.K Wout D l) (X.pn ++ pins) _ caught PassesOwn.looking).run [] s σ H D (I.toTry _) h) (fun f s1 hsp => ?_) (fun e s1 he => he)
  cases f with
  | next =>
    obtain ⟨σ', H', J', q⟩ := hsp
    exact wpAny_execs_nil ⟨σ', H', J'.ofTry ok, q⟩
  | brk =>
    obtain ⟨σ', H', J', q⟩ := hsp
    exact ⟨σ', H', J'.ofTry ok, q⟩
  | cont =>
    obtain ⟨σ', H', J', q⟩ := hsp
    exact ⟨σ', H', J'.ofTry ok, q⟩
  | ret u =>
    obtain ⟨v, σ', H', J', r, q⟩ := hsp
    exact ⟨v, σ', H', J'.ofTry ok, r, q⟩
end
end Ev

/-! ## Ev12 -/
set_option Elab.async false
set_option linter.all false
set_option maxRecDepth 100000
namespace Ev
open PySem PySem.Spec PyProof.Rows L2

def swB (sc : SC) (e : Expr) (x : Str) (px : Pos) : Bool := match e with
  | .ListComp _ _ scope p => (match sc.scope.names.lookup x with
      | some .local => true
      | _ => false) && (px.line == p.line) && !(scope.names.any fun (n, k) => n == x && (k == .local || k == .cell))
  | .DictComp _ _ _ scope p => (match sc.scope.names.lookup x with
      | some .local => true
      | _ => false) && (px.line == p.line) && !(scope.names.any fun (n, k) => n == x && (k == .local || k == .cell))
  | _ => false
def seqs : List SS → SS
  | [] => sNil
  | f :: fs => sSeq f (seqs fs)
def setOk (sc : SC) (e : Expr) (x : Str) (px : Pos) : Bool := noComp e || (match e with
  | .ListComp _ _ _ _ => true
  | .DictComp _ _ _ _ _ => true
  | _ => false)
def sRaise (x : Str) : SS := fun env st => .exc ⟨x, []⟩ env st
theorem ds_raise {sc : SC} {k : Nat} {cl : CT} {X : Cx} {W : WX} (F : Fit μ sc k cl X) {x m : Str} {j : Nat} {px pm pk pos : Pos} (hg : isGl sc x = true) (e : ExF X.K X.mg cl x) (tk : TakesM μ X W) :
    PS X (.Raise (some (.Call (.Name x px) [.Constant (.str m) j pm] [] pk)) none pos) (tS X.K cl W (sRaise x)) := by
  obtain ⟨C, bmB, B, newId, initId, h1, h2, h3, h4, h5, h6, h7⟩ := e.ex
  have psr : PS X (.Raise (some (.Call (.Name x px) [.Constant (.str m) j pm] [] pk)) none pos) (fun _ σ H => W (.ref C) none σ H) := by
    have hgl := F.gl hg
    have hcalm := F.calm
    clear F
    cases μ with
    | true => exact L2N.ps_raise hcalm tk (L2N.pmk_own h1 h2 h3 h4 (raises_own h5 h6) hgl e.nd)
    | false => exact L2.ps_raise hcalm tk (L2.pmk_own h1 h2 h3 h4 (raises_own h5 h6) hgl e.nd)
  refine PSw psr fun D σ H ⟨ρ, env, st, S, E, P⟩ => ?_
  exact P ρ H σ (.ref C) none (Ext.refl _ _) S E ⟨C, h7, rfl, .inl ⟨rfl, rfl⟩⟩
def sTry1 (tab : List (Str × Bool)) (f k : SS) : SS := fun env st => match f env st with
  | .exc e env' st' => match tab.lookup e.cls with
    | some true => k env' st'
    | some false => .exc e env' st'
    | none => .bad
  | r => r
theorem ds_try1 {cl : CT} {X : Cx} {W : WX} {x : Str} {tab : List (Str × Bool)} {body suite : List Stmt} {b₀ : Stmt} {np pos pos' : Pos} {f k : SS} (hs : X.stack = X.env :: X.outer) (hf : X.env.frame = some X.env.locals) (hg : Gl X x) (T : TrF X.K X.mg cl x tab) (tk : Takes X W)
    (hb : ∀ (W : WX) (pn : List (Addr × Obj)) (xe : Value → Shared → Prop), Takes (X.tr pn xe) W → PassesOwn (model X.prog X.w) X.A X.env xe → PSs (X.tr pn xe) body (tS X.K cl W f))
    (hsu : ∀ (a : Addr) (pn : List (Addr × Obj)), PSs (X.suite a pn) (b₀ :: suite) (tS X.K cl W k)) :
    PS X (.Try body [.ExceptHandler (some (.Name x np)) none (b₀ :: suite) pos'] [] [] pos) (tS X.K cl W (sTry1 tab f k)) := by
  obtain ⟨C, hm, ht⟩ := T.ex
  refine PSw (ps_try_only (ts := fun _ _ _ => tS X.K cl W k) hs hf ⟨hg, T.nd, .inl hm⟩ tk hb fun a oe cls d pn _ _ => hsu a _) fun D σ H ⟨ρ, env, st, S, E, P⟩ => ?_
  refine ⟨ρ, env, st, S, E, ?_⟩
  unfold sTry1 at P
  cases hr : f env st with
  | exc e env' st' =>
    rw [hr] at P
    intro ρ' H' σ' c d x' S' E' rx
    obtain ⟨Cy, h1, rfl, _⟩ := id rx
    simp only at P
    split at P
    · rename_i hl
      exact ⟨true, ht _ _ hl _ h1, fun _ a _ => ⟨ρ', env', st', S', E', PostS.from S' x' P⟩, (fun z => by cases z)⟩
    · rename_i hl
      exact ⟨false, ht _ _ hl _ h1, (fun z => by cases z), fun _ => P ρ' H' σ' (.ref Cy) d x' S' E' rx⟩
    · exact P.elim
  | nx _ _ => rw [hr] at P; exact P
  | brk _ _ => rw [hr] at P; exact P
  | ct _ _ => rw [hr] at P; exact P
  | ret _ _ => rw [hr] at P; exact P
  | bad => rw [hr] at P; exact P.elim
def SR.unb (i : Nat) (r : SR) : SR := match r with
  | .nx e st => .nx (e.set i none) st
  | .brk e st => .brk (e.set i none) st
  | .ct e st => .ct (e.set i none) st
  | .ret a st => .ret a st
  | _ => .bad
def sTryAs (tab : List (Str × Bool)) (i : Nat) (f : SS) (k : Exn → SS) : SS := fun env st => match f env st with
  | .exc e env' st' => match tab.lookup e.cls with
    | some true => if i < env'.length then SR.unb i (k e (env'.set i none) st') else .bad
    | some false => .exc e env' st'
    | none => .bad
  | r => r
theorem RE.hide {K : PySem.W.Frag} {ρ : List Addr} {H : Hp} {σ : L2.St} {env : SEnv} (E : RE K ρ H σ env) (i : Nat) (v : Option V) : RE K ρ H (σ.set i v) (env.set i none) := by
  refine ⟨by rw [List.length_set, List.length_set]; exact E.len, fun j d h => ?_⟩
  by_cases hj : i = j
  · subst hj
    by_cases hl : i < env.length
    · rw [List.getElem?_set_self hl] at h; cases h
    · rw [List.getElem?_eq_none (by rw [List.length_set]; omega)] at h; cases h
  · rw [List.getElem?_set_ne hj] at h ⊢
    exact E.at_ j d h
theorem ds_tryAs {cl : CT} {X : Cx} {W : WX} {x nm : Str} {tab : List (Str × Bool)} {body suite : List Stmt} {b₀ : Stmt} {np pos pos' : Pos} {i : Nat} {f : SS} {k : Exn → SS} (hs : X.stack = X.env :: X.outer) (hf : X.env.frame = some X.env.locals) (hN : X.N.Nodup) (hi : X.N[i]? = some nm)
    (hl : X.env.kindOf nm = some .local) (hg : Gl X x) (T : TrF X.K X.mg cl x tab) (tk : Takes X W)
    (hb : ∀ (W : WX) (pn : List (Addr × Obj)) (xe : Value → Shared → Prop), Takes (X.tr pn xe) W → PassesOwn (model X.prog X.w) X.A X.env xe → PSs (X.tr pn xe) body (tS X.K cl W f))
    (hsu : ∀ (e : Exn) (C a : Addr) (oe : Obj) (d : Option Addr) (pn : List (Addr × Obj)), cl e.cls = some C → Zc (.ref C) d oe → (∃ vs, oe.data = .fields vs) → PSs (X.suite a ((a, oe) :: pn)) (b₀ :: suite) (jS X.K cl W0 i a d e (k e))) :
    PS X (.Try body [.ExceptHandler (some (.Name x np)) (some nm) (b₀ :: suite) pos'] [] [] pos) (tS X.K cl W (sTryAs tab i f k)) := by
  obtain ⟨C, hm, ht⟩ := T.ex
  refine PSw (ps_try_as (ts := fun a cls d D σ H => ∃ (e : Exn) (C : Addr), cl e.cls = some C ∧ cls = .ref C ∧ jS X.K cl W0 i a d e (k e) D σ H) hs hf hN hi hl ⟨hg, T.nd, .inl hm⟩ tk hb fun a oe cls d pn hz hfl => ?_) fun D σ H ⟨ρ, env, st, S, E, P⟩ => ?_
  · refine ⟨fun pins s σ H D I ⟨e, C, h1, h2, h3⟩ => ?_⟩
    subst h2
    exact (hsu e C a oe d pn h1 hz hfl).run pins s σ H D I h3
  refine ⟨ρ, env, st, S, E, ?_⟩
  unfold sTryAs at P
  cases hr : f env st with
  | exc e env' st' =>
    rw [hr] at P
    intro ρ' H' σ' c d x' S' E' rx
    obtain ⟨Cy, h1, rfl, h5⟩ := id rx
    simp only at P
    split at P
    · rename_i hlk
      split at P
      · rename_i hlt
        refine ⟨true, ht _ _ hlk _ h1, fun _ a _ => ⟨e, Cy, h1, rfl, ρ', env'.set i none, st', S', E'.hide i _, ⟨List.getElem?_set_self (by rw [E'.len]; exact hlt), ?_⟩, ?_⟩, (fun z => by cases z)⟩
        · rcases h5 with h5 | ⟨dx, vs, h6, h7, h8⟩
          · exact .inl h5
          · exact .inr ⟨dx, vs, h6, S'.noXd h7, h7, h8⟩
        · have P2 := PostS.from S' x' P
          cases hk : k e (env'.set i none) st' with
          | nx e2 s2 =>
            rw [hk] at P2
            exact fun ρ2 H2 σ2 x2 S2 E2 => P2 ρ2 H2 _ x2 S2 (E2.hide i none)
          | brk e2 s2 =>
            rw [hk] at P2
            exact fun ρ2 H2 σ2 x2 S2 E2 => P2 ρ2 H2 _ x2 S2 (E2.hide i none)
          | ct e2 s2 =>
            rw [hk] at P2
            exact fun ρ2 H2 σ2 x2 S2 E2 => P2 ρ2 H2 _ x2 S2 (E2.hide i none)
          | ret u s2 =>
            rw [hk] at P2
            exact P2
          | exc y e2 s2 => rw [hk] at P2; exact P2.elim
          | bad => rw [hk] at P2; exact P2.elim
      · exact P.elim
    · rename_i hlk
      exact ⟨false, ht _ _ hlk _ h1, (fun z => by cases z), fun _ => P ρ' H' σ' (.ref Cy) d x' S' E' rx⟩
    · exact P.elim
  | nx _ _ => rw [hr] at P; exact P
  | brk _ _ => rw [hr] at P; exact P
  | ct _ _ => rw [hr] at P; exact P
  | ret _ _ => rw [hr] at P; exact P
  | bad => rw [hr] at P; exact P.elim
abbrev ClaS := List (Str × Bool) × Option Nat × (Exn → SS)
def pickC : List ClaS → Exn → SS
  | [], e, env, st => .exc e env st
  | (tab, i, k) :: r, e, env, st => match tab.lookup e.cls with
    | some true => match i with
      | some i => if i < env.length then SR.unb i (k e (env.set i none) st) else .bad
      | none => k e env st
    | some false => pickC r e env st
    | none => .bad
def sTryC (cs : List ClaS) (f : SS) : SS := fun env st => match f env st with
  | .exc e env' st' => pickC cs e env' st'
  | r => r
inductive ClaD (X : Cx) (cl : CT) : List ExceptHandler → List ClaS → Prop
  | nil : ClaD X cl [] []
  | cons {x nm : Str} {tab : List (Str × Bool)} {i : Nat} {k : Exn → SS} {suite : List Stmt} {b₀ : Stmt} {np pos' : Pos} {hds : List ExceptHandler} {cs : List ClaS} (hi : X.N[i]? = some nm) (hl : X.env.kindOf nm = some .local) (hg : Gl X x) (T : TrF X.K X.mg cl x tab)
      (hsu : ∀ (e : Exn) (C a : Addr) (oe : Obj) (d : Option Addr) (pn : List (Addr × Obj)), cl e.cls = some C → Zc (.ref C) d oe → (∃ vs, oe.data = .fields vs) → PSs (X.suite a ((a, oe) :: pn)) (b₀ :: suite) (jS X.K cl W0 i a d e (k e))) (r : ClaD X cl hds cs) :
      ClaD X cl (.ExceptHandler (some (.Name x np)) (some nm) (b₀ :: suite) pos' :: hds) ((tab, some i, k) :: cs)
  | cons0 {x : Str} {tab : List (Str × Bool)} {k : SS} {suite : List Stmt} {b₀ : Stmt} {np pos' : Pos} {hds : List ExceptHandler} {cs : List ClaS} (hg : Gl X x) (T : TrF X.K X.mg cl x tab)
      (hsu : ∀ (W : WX) (a : Addr) (pn : List (Addr × Obj)), PSs (X.suite a pn) (b₀ :: suite) (tS X.K cl W k)) (r : ClaD X cl hds cs) :
      ClaD X cl (.ExceptHandler (some (.Name x np)) none (b₀ :: suite) pos' :: hds) ((tab, none, fun _ => k) :: cs)
theorem clad_w {cl : CT} {X : Cx} {W : WX} : ∀ {hds : List ExceptHandler} {cs : List ClaS}, ClaD X cl hds cs → ∃ l, Clas X hds l ∧ ∀ {D : Ends} {ρ : List Addr} {H : Hp} {e : Exn} {env' : SEnv} {st' : Store} {ρ' : List Addr} {H' : Hp} {σ' : L2.St} {Cy : Addr} {d : Option Addr},
    PostS X.K cl W ρ H (pickC cs e env' st') D → Ext ρ H ρ' H' → RS X.K ρ' H' cl st' → RE X.K ρ' H' σ' env' → cl e.cls = some Cy → RX X.K ρ' H' cl (.ref Cy) d e → wClas X.K W D l (.ref Cy) d σ' H' := by
  intro hds cs h
  induction h with
  | nil => exact ⟨[], .nil, fun P x' S' E' h1 rx => P _ _ _ _ _ x' S' E' rx⟩
  | @cons x nm tab i k suite b₀ np pos' hds cs hi hl hg T hsu r ih =>
    obtain ⟨l, hl', hw⟩ := ih
    obtain ⟨C, hm, ht⟩ := T.ex
    refine ⟨(.ref C, some i, fun a cls d D σ H => ∃ (e : Exn) (C : Addr), cl e.cls = some C ∧ cls = .ref C ∧ jS X.K cl W0 i a d e (k e) D σ H) :: l, .cons ⟨hg, T.nd, .inl hm⟩ hi hl (fun a oe cls d pn hz hfl => ?_) hl', ?_⟩
    · refine ⟨fun pins s σ H D I ⟨e, C, h1, h2, h3⟩ => ?_⟩
      subst h2
      exact (hsu e C a oe d pn h1 hz hfl).run pins s σ H D I h3
    · intro D ρ H e env' st' ρ' H' σ' Cy d P x' S' E' h1 rx
      unfold pickC at P
      split at P
      · rename_i hlk
        have P : PostS X.K cl W ρ H (if i < env'.length then SR.unb i (k e (env'.set i none) st') else .bad) D := P
        split at P
        · rename_i hlt
          obtain ⟨Cy', h1', e2, h5⟩ := id rx
          rw [h1] at h1'; cases h1'
          refine ⟨true, ht _ _ hlk _ h1, fun _ a _ => ⟨e, Cy, h1, rfl, ρ', env'.set i none, st', S', E'.hide i _, ⟨List.getElem?_set_self (by rw [E'.len]; exact hlt), ?_⟩, ?_⟩, (fun z => by cases z)⟩
          · rcases h5 with h5 | ⟨dx, vs, h6, h7, h8⟩
            · exact .inl h5
            · exact .inr ⟨dx, vs, h6, S'.noXd h7, h7, h8⟩
          · have P2 := PostS.from S' x' P
            cases hk : k e (env'.set i none) st' with
            | nx e2 s2 =>
              rw [hk] at P2
              exact fun ρ2 H2 σ2 x2 S2 E2 => P2 ρ2 H2 _ x2 S2 (E2.hide i none)
            | brk e2 s2 =>
              rw [hk] at P2
              exact fun ρ2 H2 σ2 x2 S2 E2 => P2 ρ2 H2 _ x2 S2 (E2.hide i none)
            | ct e2 s2 =>
              rw [hk] at P2
              exact fun ρ2 H2 σ2 x2 S2 E2 => P2 ρ2 H2 _ x2 S2 (E2.hide i none)
            | ret u s2 =>
              rw [hk] at P2
              exact P2
            | exc y e2 s2 => rw [hk] at P2; exact P2.elim
            | bad => rw [hk] at P2; exact P2.elim
        · exact P.elim
      · rename_i hlk
        exact ⟨false, ht _ _ hlk _ h1, (fun z => by cases z), fun _ => hw P x' S' E' h1 rx⟩
      · exact P.elim
  | @cons0 x tab k suite b₀ np pos' hds cs hg T hsu r ih =>
    obtain ⟨l, hl', hw⟩ := ih
    obtain ⟨C, hm, ht⟩ := T.ex
    refine ⟨(.ref C, none, fun a cls d => tS X.K cl W k) :: l, .cons0 ⟨hg, T.nd, .inl hm⟩ (fun a oe cls d pn _ _ => hsu W a _) hl', ?_⟩
    intro D ρ H e env' st' ρ' H' σ' Cy d P x' S' E' h1 rx
    unfold pickC at P
    split at P
    · rename_i hlk
      exact ⟨true, ht _ _ hlk _ h1, fun _ a _ => ⟨ρ', env', st', S', E', PostS.from S' x' P⟩, (fun z => by cases z)⟩
    · rename_i hlk
      exact ⟨false, ht _ _ hlk _ h1, (fun z => by cases z), fun _ => hw P x' S' E' h1 rx⟩
    · exact P.elim
theorem ds_tryC {cl : CT} {X : Cx} {W : WX} {body : List Stmt} {h₀ : ExceptHandler} {hds : List ExceptHandler} {pos : Pos} {f : SS} {cs : List ClaS} (hs : X.stack = X.env :: X.outer) (hf : X.env.frame = some X.env.locals) (hN : X.N.Nodup) (tk : Takes X W)
    (hb : ∀ (W : WX) (pn : List (Addr × Obj)) (xe : Value → Shared → Prop), Takes (X.tr pn xe) W → PassesOwn (model X.prog X.w) X.A X.env xe → PSs (X.tr pn xe) body (tS X.K cl W f)) (hc : ClaD X cl (h₀ :: hds) cs) :
    PS X (.Try body (h₀ :: hds) [] [] pos) (tS X.K cl W (sTryC cs f)) := by
  obtain ⟨l, hl, hw⟩ := clad_w (W := W) hc
  refine PSw (ps_clas hs hf hN tk hb hl) fun D σ H ⟨ρ, env, st, S, E, P⟩ => ?_
  refine ⟨ρ, env, st, S, E, ?_⟩
  unfold sTryC at P
  cases hr : f env st with
  | exc e env' st' =>
    rw [hr] at P
    intro ρ' H' σ' c d x' S' E' rx
    obtain ⟨Cy, h1, rfl, _⟩ := id rx
    exact hw P x' S' E' h1 rx
  | nx _ _ => rw [hr] at P; exact P
  | brk _ _ => rw [hr] at P; exact P
  | ct _ _ => rw [hr] at P; exact P
  | ret _ _ => rw [hr] at P; exact P
  | bad => rw [hr] at P; exact P.elim
def hIsi (tab : List (Str × Bool)) (ers : List (Str × List Str)) (x : Exn) : EE := match ers.lookup x.cls with
  | some _ => match tab.lookup x.cls with
    | some b => eC (.bl b)
    | none => eBad
  | none => eBad
def hFld (ers : List (Str × List Str)) (f : Str) (x : Exn) : EE := match ers.lookup x.cls, x.fs.lookup f with
  | some fl, some d => if fl.contains f then eC d else eBad
  | _, _ => eBad
def hotIsi (sc : SC) (nm : Str) (x : Exn) (f : Expr) (args : List Expr) (kw : List Keyword) : EE := match f, args, kw with
  | .Name g _, [.Name a _, .Name c _], [] => if g = "isinstance" ∧ a = nm ∧ isBlt sc g = true ∧ isGl sc c = true then match sc.iss.lookup c with
      | some tab => hIsi tab sc.ers x
      | none => eBad else eBad
  | _, _, _ => eBad
def hotFld (sc : SC) (nm : Str) (x : Exn) (o : Expr) (f : Str) : EE := match o with
  | .Name a _ => if a = nm then hFld sc.ers f x else eBad
  | _ => eBad
noncomputable def hotE : Nat → SC → Str → Exn → Expr → EE
  | 0, _, _, _, _ => eBad
  | n + 1, sc, nm, x, e => match e with
    | .Constant c j p => denE 1 sc (.Constant c j p)
    | .Name y p => denE 1 sc (.Name y p)
    | .Call f args kw _ => hotIsi sc nm x f args kw
    | .Attribute o f _ => hotFld sc nm x o f
    | .BoolOp op es _ => match op with
      | .And => andE (es.map fun e => hotE n sc nm x e)
      | _ => eBad
    | .UnaryOp op a _ => match op with
      | .Not => eNot (hotE n sc nm x a)
      | _ => eBad
    | .Tuple es _ _ => if es.all noStar then eTup (listA (fun e => hotE n sc nm x e) es) else eBad
    | .Compare a ops bs _ => match ops, bs with
      | [op], [b] => if noSet b then match cmpX sc.ob.dx op with
        | some g => e2 g (hotE n sc nm x a) (hotE n sc nm x b)
        | none => eBad else eBad
      | _, _ => eBad
    | _ => eBad
theorem Fit.tr {sc : SC} {k : Nat} {cl : CT} {X : Cx} (F : Fit μ sc k cl X) (pn : List (Addr × Obj)) (xe : Value → Shared → Prop) : Fit μ sc k cl (X.tr pn xe) :=
  ⟨F.N, F.nd, F.sco, F.fn, F.calm, F.room, F.gd, F.kind, F.fns, F.cst, F.blt, F.exs, F.trs, F.iss, F.ers, F.dct, F.ob, F.lam⟩
def isLoc (sc : SC) (x : Str) : Bool := (match sc.scope.names.lookup x with
  | some .local => true
  | _ => false) && !dunder x
noncomputable def hotT1 (n : Nat) (sc : SC) (nm : Str) (x : Exn) (e : Expr) : ET := if plainTest e then eTru (hotE n sc nm x e) else tBad
noncomputable def hotT (n : Nat) (sc : SC) (nm : Str) (x : Exn) (e : Expr) : ET := match e with
  | .UnaryOp .Not a _ => tNotB (hotT1 n sc nm x a)
  | e => hotT1 n sc nm x e
noncomputable def hotB (n : Nat) (sc : SC) (nm : Str) (x : Exn) (e : Expr) : ET := match e with
  | .BoolOp .And es _ => andT (es.map fun e => hotT n sc nm x e)
  | e => hotT n sc nm x e
noncomputable def hotSs (n : Nat) (sc : SC) (nm : Str) (x : Exn) (ss : List Stmt) : SS := match ss with
  | [.Return (some e) _] => seqs [sRet (hotE n sc nm x e)]
  | [.If c [.Return (some e) _] [] _] => seqs [sIf (hotB n sc nm x c) (seqs [sRet (hotE n sc nm x e)]) sNil]
  | _ => sBad
noncomputable def cst1 (n : Nat) (sc : SC) (e : Expr) : EE := match e with
  | .Constant c j p => denE n sc (.Constant c j p)
  | _ => eBad
noncomputable def cstE (n : Nat) (sc : SC) (e : Expr) : EE := match e with
  | .Constant c j p => denE n sc (.Constant c j p)
  | .Tuple es _ _ => if es.all noStar then eTup (listA (fun e => cst1 n sc e) es) else eBad
  | _ => eBad
noncomputable def claOf (n : Nat) (sc : SC) (h : ExceptHandler) : Option ClaS := match h with
  | .ExceptHandler (some (.Name x _)) (some nm) (b :: suite) _ => if isGl sc x && isLoc sc nm then match sc.trs.lookup x, posOf sc.N nm with
    | some tab, some i => some (tab, some i, fun ex => hotSs n sc nm ex (b :: suite))
    | _, _ => none else none
  | .ExceptHandler (some (.Name x _)) none [.Return (some e) _] _ => if isGl sc x then match sc.trs.lookup x with
    | some tab => some (tab, none, fun _ => seqs [sRet (cstE n sc e)])
    | none => none else none
  | _ => none
noncomputable def clasOf (n : Nat) (sc : SC) : List ExceptHandler → Option (List ClaS)
  | [] => some []
  | h :: hs => match claOf n sc h, clasOf n sc hs with
    | some c, some cs => some (c :: cs)
    | _, _ => none
noncomputable def denS : Nat → SC → Stmt → SS
  | 0, _, _ => sBad
  | n + 1, sc, s => match s with
    | .Assign ts e p => match ts with
      | [.Name x px] => match locI sc x with
        | some i => if setOk sc e x px then sSet i (denE n sc e) else sBad
        | none => sBad
      | [.Tuple es kk pt] => if noTuple e && noComp e then match tgOf sc (.Tuple es kk pt) with
        | some t => sTg t (denE n sc e)
        | none => (match unpX es with
          | some x => (match unpFs x es, visI sc x with
            | some fl, some j => sUnp sc.ob.flt j fl (denE n sc e)
            | _, _ => sBad)
          | none => sBad) else sBad
      | [.Subscript o i _] => match i with
        | .Tuple es _ _ => if es.all noStar && noComp e then (if sc.ob.dx = true then sDPutX (denE n sc e) (denE n sc o) (eTup (listA (fun e => denE n sc e) es)) else sDPutT (denE n sc e) (denE n sc o) (listA (fun e => denE n sc e) es)) else sBad
        | i => if noSlice i && true then (if sc.ob.dx = true then sDPutX (denE n sc e) (denE n sc o) (denE n sc i) else if sc.dk = true then sDPutK (denE n sc e) (denE n sc o) (denE n sc i) else sPutIx (denE n sc e) (denE n sc o) (denE n sc i)) else sBad
      | [.Attribute o f _] => if noComp e then sFldSet sc.ob.flt f (denE n sc e) (denE n sc o) else sBad
      | _ => sBad
    | .Expr e _ => if noComp e then sExpr (denE n sc e) else sBad
    | .Return e _ => match e with
      | some e => sRet (denE n sc e)
      | none => sRetN
    | .If c a b _ => sIf (denT n sc c) (seqs (a.map fun s => denS n sc s)) (seqs (b.map fun s => denS n sc s))
    | .While c a b _ => match b with
      | [] => sWhile (denT n sc c) (seqs (a.map fun s => denS n sc s))
      | _ => sBad
    | .For tg it a b _ => match b with
      | [] => if noSet it then match tgOf sc tg with
        | some t => sFor (denW n sc it) t (seqs (a.map fun s => denS n sc s))
        | none => sBad else sBad
      | _ => sBad
    | .Try body hs orelse fin _ => match hs, orelse, fin with
      | [.ExceptHandler (some (.Name x _)) none [.Return (some (.Constant c j pc)) _] _], [], [] => if isGl sc x then match sc.trs.lookup x with
        | some tab => sTry1 tab (seqs (body.map fun s => denS n sc s)) (seqs [sRet (denE n sc (.Constant c j pc))])
        | none => sBad else sBad
      | [.ExceptHandler (some (.Name x _)) (some nm) [.Return (some e) _] _], [], [] => if isGl sc x && isLoc sc nm then match sc.trs.lookup x, posOf sc.N nm with
        | some tab, some i => sTryAs tab i (seqs (body.map fun s => denS n sc s)) (fun ex => seqs [sRet (hotE n sc nm ex e)])
        | _, _ => sBad else sBad
      | h1 :: h2 :: hs, [], [] => match clasOf n sc (h1 :: h2 :: hs) with
        | some cs => sTryC cs (seqs (body.map fun s => denS n sc s))
        | none => sBad
      | _, _, _ => sBad
    | .Raise e c _ => match e, c with
      | some (.Call (.Name x _) [.Constant (.str m) jm pm] [] _), none => if isGl sc x && sc.exs.contains x then sRaise x else if isGl sc x then match sc.ob.exi.lookup x with
        | some f => sRaise1 x f (denE n sc (.Constant (.str m) jm pm))
        | none => sBad else sBad
      | some (.Call (.Name x _) [e] [] _), none => if isGl sc x && noStar e then match sc.ob.exi.lookup x with
        | some f => sRaise1 x f (denE n sc e)
        | none => sBad else sBad
      | _, _ => sBad
    | .Pass _ => sNil
    | .Break _ => sBrk
    | .Continue _ => sCt
    | _ => sBad
section
variable {X : Cx} {cl : CT} {W : WX} {k : Nat} {sc : SC}
theorem seqs_ok {f : Stmt → SS} (h : ∀ s, PS X s (tS X.K cl W (f s))) : ∀ {ss : List Stmt}, PSs X ss (tS X.K cl W (seqs (ss.map f)))
  | [] => ds_nil
  | s :: ss => ds_cons (h s) (seqs_ok h)
theorem stores_sub (o i : Expr) (p : Pos) (e : Expr) (env : Env) : swappedStores [.Subscript o i p] e env = pure none := by
  cases e <;> rfl
theorem swaps_subs (o i : Expr) (p : Pos) (e : Expr) (l : Nat) (env : Env) : swapsWith e (some (.Subscript o i p)) l env = pure false := by
  cases e <;> rfl
theorem sole_subs {o i : Expr} {p : Pos} {e : Expr} {l : Nat} {env : Env} : swapsWithSole [.Subscript o i p] e l env = pure false := by
  unfold swapsWithSole
  exact swaps_subs o i p e l env
theorem sole_plain {e t : Expr} {l : Nat} {env : Env} (h : noComp e = true) : swapsWithSole [t] e l env = pure false := by
  unfold swapsWithSole; exact swaps_plain h
theorem swaps_comp (F : Fit μ sc k cl X) {elt : Expr} {gs : List Comprehension} {scope : Scope} {p px : Pos} {x : Str} {l : Nat} {b : Bool} (h : swB sc (.ListComp elt gs scope p) x px = b) :
    swapsWith (.ListComp elt gs scope p) (some (.Name x px)) l X.env = pure b := by
  have hk : X.env.scope.kind = .function := by rw [F.sco]; exact F.kind
  have hb : X.env.blockKind = .function := by unfold Env.blockKind; rw [hk]; rfl
  have ky : X.env.kindOf x = sc.scope.names.lookup x := by rw [← F.sco]; rfl
  subst h
  unfold swapsWith swB
  simp only [hb, ky, Expr.pos]
  cases sc.scope.names.lookup x with
  | none => rfl
  | some kk => cases kk <;> rfl
theorem swaps_dc (F : Fit μ sc k cl X) {ke ve : Expr} {gs : List Comprehension} {scope : Scope} {p px : Pos} {x : Str} {l : Nat} {b : Bool} (h : swB sc (.DictComp ke ve gs scope p) x px = b) :
    swapsWith (.DictComp ke ve gs scope p) (some (.Name x px)) l X.env = pure b := by
  have hk : X.env.scope.kind = .function := by rw [F.sco]; exact F.kind
  have hb : X.env.blockKind = .function := by unfold Env.blockKind; rw [hk]; rfl
  have ky : X.env.kindOf x = sc.scope.names.lookup x := by rw [← F.sco]; rfl
  subst h
  unfold swapsWith swB
  simp only [hb, ky, Expr.pos]
  cases sc.scope.names.lookup x with
  | none => rfl
  | some kk => cases kk <;> rfl
theorem const_ok {cl : CT} {X : Cx} {W : WX} (n : Nat) (sc : SC) {c : Const} {j : Nat} {p : Pos} : PE X (.Constant c j p) (tF X.K cl W (denE n sc (.Constant c j p))) := by
  cases n with
  | zero => simp only [denE]; exact bad_e
  | succ n =>
    simp only [denE]
    cases c with
    | none => exact de_c pe_non fun _ _ => rfl
    | bool b => exact de_c pe_bl fun _ _ => rfl
    | int i => exact de_c pe_int fun _ _ => rfl
    | str s => exact de_c pe_str fun _ _ => congrArg V.str (str_eta s).symm
    | _ => exact bad_e
theorem name_hot {sc : SC} {k : Nat} {cl : CT} {X : Cx} {W : WX} (F : Fit μ sc k cl X) {a : Addr} {pn : List (Addr × Obj)} {y : Str} {p : Pos} : PE (X.suite a pn) (.Name y p) (tF X.K cl W (denE 1 sc (.Name y p))) := by
  simp only [denE]
  split
  · rename_i i hi
    obtain ⟨q1, q2, q3, q4⟩ := F.vis hi
    exact de_var (X := X.suite a pn) (pe_var (X := X.suite a pn) q1 q2 q3 q4)
  · split
    · rename_i hg
      simp only [Bool.and_eq_true] at hg
      split
      · rename_i d hd
        obtain ⟨v, u, h1, h2, h3⟩ := F.cst _ d hd
        have hdb : (y == ("__debug__" : Str)) = false := by
          have : dunder y = false := by simpa using hg.2
          simp only [dunder, Bool.or_eq_false_iff] at this
          exact this.1
        exact de_c (X := X.suite a pn) (pe_glob (X := X.suite a pn) (F.gl hg.1) h1 h2 hdb) h3
      · exact bad_e
    · exact bad_e
theorem isLoc_ok {sc : SC} {k : Nat} {cl : CT} {X : Cx} (F : Fit μ sc k cl X) {nm : Str} (h : isLoc sc nm = true) : X.env.scope.names.lookup nm = some .local ∧ (nm == ("__debug__" : Str)) = false ∧ (nm == ("__classdict__" : Str)) = false := by
  unfold isLoc at h
  simp only [Bool.and_eq_true] at h
  have hd : dunder nm = false := by simpa using h.2
  simp only [dunder, Bool.or_eq_false_iff] at hd
  refine ⟨?_, hd⟩
  rw [F.sco]
  have h1 := h.1
  split at h1
  · rename_i e; exact e
  · cases h1
theorem hotE_ok {sc : SC} {k : Nat} {cl : CT} {X : Cx} (F : Fit μ sc k cl X) {nm : Str} {i : Nat} (hnm : isLoc sc nm = true) (hi : posOf sc.N nm = some i) {x : Exn} {C a : Addr} {oe : Obj} {d : Option Addr} {pn : List (Addr × Obj)} (hc : cl x.cls = some C) (hz : Zc (.ref C) d oe)
    (hf : ∃ vs, oe.data = .fields vs) : ∀ (n : Nat) (e : Expr), PE (X.suite a ((a, oe) :: pn)) e (jF X.K cl W0 i a d x (hotE n sc nm x e))
  | 0, e => by simp only [hotE]; exact dj_bad
  | n + 1, e => by
    have ih : ∀ e, PE (X.suite a ((a, oe) :: pn)) e (jF X.K cl W0 i a d x (hotE n sc nm x e)) := fun e => hotE_ok F hnm hi hc hz hf n e
    obtain ⟨hl, hd1, hd2⟩ := isLoc_ok F hnm
    have hN : X.N[i]? = some nm := by rw [F.N]; exact posOf_ok hi
    cases e with
    | Constant c j p => simp only [hotE]; exact dj_of (const_ok 1 sc)
    | Name y p => simp only [hotE]; exact dj_of (name_hot F)
    | UnaryOp op b p =>
      simp only [hotE]
      cases op with
      | Not => exact dj_not (ih b)
      | _ => exact dj_bad
    | BoolOp op es p =>
      simp only [hotE]
      cases op with
      | And => exact jAnd_ok ih
      | _ => exact dj_bad
    | Tuple es kk p =>
      simp only [hotE]
      split
      · rename_i hs
        exact dj_tup (jList_ok ih hs)
      · exact dj_bad
    | Compare b ops bs p =>
      simp only [hotE]
      split
      · split
        · rename_i hs
          split
          · rename_i g hg
            exact dj_cmp (X := X.suite a ((a, oe) :: pn)) (cmpX_ok (X := X.suite a ((a, oe) :: pn)) F.u65 F.ob.hs hg) (ih _) (ih _) (marks_plain hs)
          · exact dj_bad
        · exact dj_bad
      · exact dj_bad
    | Attribute o f p =>
      simp only [hotE]
      unfold hotFld
      split
      · split
        · rename_i ha
          subst ha
          unfold hFld
          split
          · rename_i fl k' h1 h2
            split
            · rename_i hfl
              obtain ⟨T, hno⟩ := (F.ers _ _ h1).ex C hc
              exact dj_fld T (hno f (by simpa using hfl)) hz hf hN (.inl hl) hd1 hd2 h2
            · exact dj_bad
          · exact dj_bad
        · exact dj_bad
      · exact dj_bad
    | Call g args kw p =>
      simp only [hotE]
      unfold hotIsi
      split
      · split
        · rename_i hcnd
          obtain ⟨rfl, rfl, h3, h4⟩ := hcnd
          split
          rotate_left
          · exact dj_bad
          rename_i tab h1
          unfold hIsi
          split
          · rename_i fl h2
            split
            · rename_i b hb
              obtain ⟨T, _⟩ := (F.ers _ _ h2).ex C hc
              obtain ⟨v, cv, hm, hr, hu, hk⟩ := (F.iss _ _ h1).ex
              obtain ⟨q1, q2, _⟩ := F.bl h3
              refine dj_isi T hz hf hN (.inl hl) hd1 hd2 q1 q2 (c := v) (cv := cv) ?_ hu (hk _ _ hb C hc)
              rcases hm with hm | ⟨hm, hv, hn⟩
              · exact pe_glob (X := X.suite a ((a, oe) :: pn)) (F.gl h4) hm hr (F.iss _ _ h1).nd
              · exact pe_bltn (X := X.suite a ((a, oe) :: pn)) (F.gl h4) hm hv hr hn (F.iss _ _ h1).nd
            · exact dj_bad
          · exact dj_bad
        · exact dj_bad
      · exact dj_bad
    | _ => simp only [hotE]; exact dj_bad
theorem hotT1_ok {sc : SC} {k : Nat} {cl : CT} {X : Cx} (F : Fit μ sc k cl X) {nm : Str} {i : Nat} (hnm : isLoc sc nm = true) (hi : posOf sc.N nm = some i) {x : Exn} {C a : Addr} {oe : Obj} {d : Option Addr} {pn : List (Addr × Obj)} (hc : cl x.cls = some C) (hz : Zc (.ref C) d oe)
    (hf : ∃ vs, oe.data = .fields vs) (n : Nat) (e : Expr) : PT (X.suite a ((a, oe) :: pn)) e (jB X.K cl W0 i a d x (hotT1 n sc nm x e)) := by
  unfold hotT1
  split
  · rename_i h
    exact djt_truth (hotE_ok F hnm hi hc hz hf n e) (test_plain h)
  · exact djt_bad
theorem hotT_ok {sc : SC} {k : Nat} {cl : CT} {X : Cx} (F : Fit μ sc k cl X) {nm : Str} {i : Nat} (hnm : isLoc sc nm = true) (hi : posOf sc.N nm = some i) {x : Exn} {C a : Addr} {oe : Obj} {d : Option Addr} {pn : List (Addr × Obj)} (hc : cl x.cls = some C) (hz : Zc (.ref C) d oe)
    (hf : ∃ vs, oe.data = .fields vs) (n : Nat) (e : Expr) : PT (X.suite a ((a, oe) :: pn)) e (jB X.K cl W0 i a d x (hotT n sc nm x e)) := by
  unfold hotT
  split
  · exact djt_not (hotT1_ok F hnm hi hc hz hf n _)
  · exact hotT1_ok F hnm hi hc hz hf n _
theorem hotB_ok {sc : SC} {k : Nat} {cl : CT} {X : Cx} (F : Fit μ sc k cl X) {nm : Str} {i : Nat} (hnm : isLoc sc nm = true) (hi : posOf sc.N nm = some i) {x : Exn} {C a : Addr} {oe : Obj} {d : Option Addr} {pn : List (Addr × Obj)} (hc : cl x.cls = some C) (hz : Zc (.ref C) d oe)
    (hf : ∃ vs, oe.data = .fields vs) (n : Nat) (e : Expr) : PT (X.suite a ((a, oe) :: pn)) e (jB X.K cl W0 i a d x (hotB n sc nm x e)) := by
  unfold hotB
  split
  · exact (jAndT_ok fun e => hotT_ok F hnm hi hc hz hf n e).pt
  · exact hotT_ok F hnm hi hc hz hf n _
theorem hotSs_ok {sc : SC} {k : Nat} {cl : CT} {X : Cx} (F : Fit μ sc k cl X) {nm : Str} {i : Nat} (hnm : isLoc sc nm = true) (hi : posOf sc.N nm = some i) {x : Exn} {C a : Addr} {oe : Obj} {d : Option Addr} {pn : List (Addr × Obj)} (hc : cl x.cls = some C) (hz : Zc (.ref C) d oe)
    (hf : ∃ vs, oe.data = .fields vs) (n : Nat) (ss : List Stmt) : PSs (X.suite a ((a, oe) :: pn)) ss (jS X.K cl W0 i a d x (hotSs n sc nm x ss)) := by
  unfold hotSs
  split
  · exact djs_one (djs_ret (hotE_ok F hnm hi hc hz hf n _))
  · exact djs_one (djs_if (hotB_ok F hnm hi hc hz hf n _) (djs_ret (hotE_ok F hnm hi hc hz hf n _)))
  · exact ⟨fun _ _ _ _ _ _ ⟨_, _, _, _, _, _, P⟩ => P.elim⟩
theorem cst1_ok {cl : CT} {X : Cx} {W : WX} (n : Nat) (sc : SC) (e : Expr) : PE X e (tF X.K cl W (cst1 n sc e)) := by
  unfold cst1
  split
  · exact const_ok n sc
  · exact bad_e
theorem cstE_ok {cl : CT} {X : Cx} {W : WX} (n : Nat) (sc : SC) (e : Expr) : PE X e (tF X.K cl W (cstE n sc e)) := by
  unfold cstE
  split
  · exact const_ok n sc
  · split
    · rename_i h
      exact de_tup (listA_ok (fun e => cst1_ok n sc e) h)
    · exact bad_e
  · exact bad_e
theorem claOf_ok {sc : SC} {k : Nat} {cl : CT} {X : Cx} (F : Fit μ sc k cl X) {n : Nat} {h : ExceptHandler} {c : ClaS} (e : claOf n sc h = some c) : μ = false ∧ ∀ {hs : List ExceptHandler} {cs : List ClaS}, ClaD X cl hs cs → ClaD X cl (h :: hs) (c :: cs) := by
  unfold claOf at e
  split at e
  · split at e
    · rename_i hx
      simp only [Bool.and_eq_true] at hx
      split at e
      · rename_i tab i ht hi
        cases e
        obtain ⟨hμ, hT⟩ := F.trs _ _ ht
        exact ⟨hμ, fun r => .cons (by rw [F.N]; exact posOf_ok hi) (isLoc_ok F hx.2).1 (F.gl hx.1) hT (fun e C a oe d pn hc hz hf => hotSs_ok F hx.2 hi hc hz hf n _) r⟩
      · cases e
    · cases e
  · split at e
    · rename_i hx
      split at e
      · rename_i tab ht
        cases e
        obtain ⟨hμ, hT⟩ := F.trs _ _ ht
        exact ⟨hμ, fun r => .cons0 (F.gl hx) hT (fun W a pn => ds_cons (ds_ret (cstE_ok n sc _)) ds_nil) r⟩
      · cases e
    · cases e
  · cases e
theorem clasOf_ok {sc : SC} {k : Nat} {cl : CT} {X : Cx} (F : Fit μ sc k cl X) {n : Nat} : ∀ {hs : List ExceptHandler} {cs : List ClaS}, clasOf n sc hs = some cs → ClaD X cl hs cs ∧ (hs ≠ [] → μ = false)
  | [], cs, e => by
    cases e
    exact ⟨.nil, fun h => absurd rfl h⟩
  | h :: hs, cs, e => by
    unfold clasOf at e
    split at e
    · rename_i c cs' h1 h2
      cases e
      obtain ⟨hμ, hc⟩ := claOf_ok F h1
      exact ⟨hc (clasOf_ok F h2).1, fun _ => hμ⟩
    · cases e
theorem denS_ok {sc : SC} {k : Nat} {cl : CT} {X : Cx} {W : WX} (hp : PassesOwn (model X.prog X.w) X.A X.env X.xe) (F : Fit μ sc k cl X) (tk : TakesM μ X W) (hst : X.stack = X.env :: X.outer) (hfr : X.env.frame = some X.env.locals) : ∀ (n : Nat) (s : Stmt), PS X s (tS X.K cl W (denS n sc s))
  | 0, s => by simp only [denS]; exact bad_s
  | n + 1, s => by
    obtain ⟨hE, hT, hW⟩ := den_ok k cl n sc X W F tk
    have hS := denS_ok hp F tk hst hfr n
    have hSt := fun (W : WX) (pn : List (Addr × Obj)) (xe : Value → Shared → Prop) (tk : TakesM μ (X.tr pn xe) W) (hp : PassesOwn (model X.prog X.w) X.A X.env xe) => denS_ok (X := X.tr pn xe) hp (F.tr pn xe) tk hst hfr n
    cases s with
    | Assign ts e p =>
      simp only [denS]
      split
      · rename_i x px
        split
        · rename_i i hi
          split
          · rename_i hok
            obtain ⟨q1, q2, q3⟩ := F.loc hi
            have nd : X.N.Nodup := by rw [F.N]; exact F.nd
            have plain : swapsWith e (some (.Name x px)) p.line X.env = pure false → PS X (.Assign [.Name x px] e p) (tS X.K cl W (sSet i (denE n sc e))) := fun hs =>
              PSw (ps_set nd q1 q2 (hE e) hs q3) (w_set fun v σ H Q q => q)
            cases hc : noComp e with
            | true => exact plain (swaps_plain hc)
            | false =>
              cases e with
              | ListComp elt gens scope pc =>
                cases hb : swB sc (.ListComp elt gens scope pc) x px with
                | false => exact plain (swaps_comp F hb)
                | true =>
                  have hsw := swaps_comp (l := p.line) F hb
                  have hyl : sc.scope.names.lookup x = some .local := by
                    simp only [swB, Bool.and_eq_true] at hb
                    have := hb.1.1
                    split at this
                    · assumption
                    · cases this
                  cases n with
                  | zero => exact ⟨fun _ _ _ _ _ _ ⟨_, _, _, _, _, P⟩ => by simp only [denE, sSet, eBad, R.toS_bad] at P; exact P.elim⟩
                  | succ n =>
                    obtain ⟨hE', hT', hW'⟩ := den_ok k cl n sc X W F tk
                    have hB := fun (sc' : SC) (X' : Cx) (F' : Fit μ sc' k cl X') => den_ok k cl n sc' X' W0 F' takes0M
                    have badS : PS X (.Assign [.Name x px] (.ListComp elt gens scope pc) p) (tS X.K cl W (sSet i eBad)) := ⟨fun _ _ _ _ _ _ ⟨_, _, _, _, _, P⟩ => P.elim⟩
                    simp only [denE]
                    split
                    · rename_i tg iter ifs a
                      split
                      · rename_i hc2
                        obtain ⟨rfl, hs⟩ := hc2
                        have any : ∀ w, PI X tg iter (tI X.K cl W w) → PS X (.Assign [.Name x px] (.ListComp elt [⟨tg, iter, ifs, 0⟩] scope pc) p) (tS X.K cl W (sSet i (compD sc w tg (ttOf (fun c => denT n (sc.blk scope) c) ifs) scope (denE n (sc.blk scope) elt)))) := fun w hw => by
                          refine setComp_ok F hi hyl hsw hw (fun g hg s H C c fp hk => ?_) (fun s H C c fp hk => (hB _ _ (F.blk hk s H C c fp)).1 elt) hs
                          match ifs, hg with
                          | [], hg => cases hg; exact dts_nil
                          | [c'], hg => cases hg; exact dts_one ((hB _ _ (F.blk hk s H C c fp)).2.1 c')
                        unfold lockD
                        split
                        · rename_i li hli
                          unfold lockI at hli
                          split at hli
                          · rename_i lx lpx _
                            obtain ⟨q1, q2, q3, q4⟩ := F.vis hli
                            exact ds_lockC (any _ (di_frd (de_var (pe_var q1 q2 q3 q4)))) (any _ (hW' _ _ hs))
                          · cases hli
                        · exact any _ (hW' _ _ hs)
                      · exact badS
                    · exact badS
              | DictComp ke ve gens scope pc =>
                cases hb : swB sc (.DictComp ke ve gens scope pc) x px with
                | false => exact plain (swaps_dc F hb)
                | true =>
                  have hsw := swaps_dc (l := p.line) F hb
                  have hyl : sc.scope.names.lookup x = some .local := by
                    simp only [swB, Bool.and_eq_true] at hb
                    have := hb.1.1
                    split at this
                    · assumption
                    · cases this
                  cases n with
                  | zero => exact ⟨fun _ _ _ _ _ _ ⟨_, _, _, _, _, P⟩ => by simp only [denE, sSet, eBad, R.toS_bad] at P; exact P.elim⟩
                  | succ n =>
                    obtain ⟨hE', hT', hW'⟩ := den_ok k cl n sc X W F tk
                    have hB := fun (sc' : SC) (X' : Cx) (F' : Fit μ sc' k cl X') => den_ok k cl n sc' X' W0 F' takes0M
                    have badS : PS X (.Assign [.Name x px] (.DictComp ke ve gens scope pc) p) (tS X.K cl W (sSet i eBad)) := ⟨fun _ _ _ _ _ _ ⟨_, _, _, _, _, P⟩ => P.elim⟩
                    simp only [denE]
                    split
                    · rename_i tg iter ifs a
                      split
                      · rename_i hc2
                        obtain ⟨rfl, hs⟩ := hc2
                        refine setDComp_ok F hi hyl hsw (hW' _ _ hs) (fun g hg s H C c fp hk => ?_) (fun s H C c fp hk => (hB _ _ (F.blk hk s H C c fp)).1 ke) (fun s H C c fp hk => (hB _ _ (F.blk hk s H C c fp)).1 ve) hs
                        match ifs, hg with
                        | [], hg => cases hg; exact dts_nil
                        | [c'], hg => cases hg; exact dts_one ((hB _ _ (F.blk hk s H C c fp)).2.1 c')
                      · exact badS
                    · exact badS
              | _ => first | (simp [noComp] at hc; done) | (simp [setOk, noComp] at hok)
          · exact bad_s
        · exact bad_s
      · rename_i es kk pt
        split
        · rename_i hc
          simp only [Bool.and_eq_true] at hc
          split
          · rename_i t ht
            exact PSw (ps_asg (hE e) (tg_ok F ht) (sole_plain hc.2) (stores_plain hc.1) rfl) w_tg
          · split
            · rename_i x hx
              split
              · rename_i fl j hfl hj
                obtain ⟨q1, q2, q3, q4⟩ := F.vis hj
                exact ds_unp F.calm F.ob.flt (fun p => pe_var q1 q2 q3 q4) hfl (hE e) (sole_plain hc.2) (stores_plain hc.1)
              · exact bad_s
            · exact bad_s
        · exact bad_s
      · rename_i o i ps
        split
        · split
          · rename_i hc
            simp only [Bool.and_eq_true] at hc
            split
            · rename_i hdx
              exact ds_dputX F.u65 (F.ob.hs hdx) (hE o) (de_tup (listA_ok hE hc.1)) (hE e) (swaps_plain hc.2)
            exact ds_dputT (hu_of F.room) (hE o) (listA_ok hE hc.1) (hE e) (swaps_plain hc.2)
          · exact bad_s
        split
        · rename_i hc
          simp only [Bool.and_eq_true] at hc
          split
          · rename_i hdx
            exact ds_dputX F.u65 (F.ob.hs hdx) (hE o) (hE i) (hE e) (swaps_subs _ _ _ _ _ _)
          split
          · exact ds_dputK (hu_of F.room) (hE o) (hE i) (hE e) (swaps_subs _ _ _ _ _ _)
          refine PSw (ps_asg (hE e) (pg_sub (hE o) (hE i) set_list ?_) sole_subs (stores_sub _ _ _ _ _) rfl) w_putIx
          intro v
          have := hc.1
          cases i <;> first | rfl | cases this
        · exact bad_s
      · rename_i o f pf
        split
        · rename_i hc
          exact ds_fld F.ob.flt (hE o) (hE e) (swaps_plain hc)
        · exact bad_s
      · exact bad_s
    | Expr e p =>
      simp only [denS]
      split
      · rename_i hc
        exact ds_expr (hE e) (swaps_plain hc)
      · exact bad_s
    | Return e p =>
      simp only [denS]
      cases e with
      | some e => exact ds_ret (hE e)
      | none => exact ds_retN
    | If c a b p =>
      simp only [denS]
      exact ds_if (hT c) (seqs_ok hS) (seqs_ok hS)
    | While c a b p =>
      simp only [denS]
      cases b with
      | nil => exact ds_while hp (hT c) (seqs_ok hS)
      | cons _ _ => exact bad_s
    | For tg it a b p =>
      simp only [denS]
      cases b with
      | nil =>
        simp only
        split
        · rename_i hs
          split
          · rename_i t ht
            exact ds_for hp F.calm (hW tg it hs) (tg_ok F ht) (seqs_ok hS) (folded_plain hs)
          · exact bad_s
        · exact bad_s
      | cons _ _ => exact bad_s
    | Try body hds orelse fin p =>
      simp only [denS]
      split
      · split
        · rename_i hx
          split
          · rename_i tab ht
            obtain ⟨hμ, hT⟩ := F.trs _ _ ht
            subst hμ
            exact ds_try1 hst hfr (F.gl hx) hT tk (fun W pn xe tk' hp' => seqs_ok (hSt W pn xe tk' hp')) fun a pn => by
              exact ds_cons (ds_ret (const_ok n sc)) ds_nil
          · exact bad_s
        · exact bad_s
      · split
        · rename_i hx
          simp only [Bool.and_eq_true] at hx
          split
          · rename_i tab i ht hi
            obtain ⟨hμ, hT⟩ := F.trs _ _ ht
            subst hμ
            exact ds_tryAs hst hfr (by rw [F.N]; exact F.nd) (by rw [F.N]; exact posOf_ok hi) (isLoc_ok F hx.2).1 (F.gl hx.1) hT tk (fun W pn xe tk' hp' => seqs_ok (hSt W pn xe tk' hp')) fun e C a oe d pn hc hz hf =>
              djs_one (djs_ret (hotE_ok F hx.2 hi hc hz hf n _))
          · exact bad_s
        · exact bad_s
      · split
        · rename_i cs hcs
          obtain ⟨hD, hμ⟩ := clasOf_ok F hcs
          have hμ := hμ (by simp)
          subst hμ
          exact ds_tryC hst hfr (by rw [F.N]; exact F.nd) tk (fun W pn xe tk' hp' => seqs_ok (hSt W pn xe tk' hp')) hD
        · exact bad_s
      · exact bad_s
    | Raise e c p =>
      simp only [denS]
      split
      · rename_i x px m j pm pk
        split
        · rename_i hx
          simp only [Bool.and_eq_true] at hx
          exact ds_raise F hx.1 (F.exs x (by simpa using hx.2)) tk
        · split
          · rename_i hx
            split
            · rename_i f hf
              obtain ⟨hk, i⟩ := F.ob.exi _ _ hf
              exact ds_raise1 (k := 0) F.calm (F.room.mono hk) (F.gl hx) i tk (const_ok n sc) (star_cons rfl)
            · exact bad_s
          · exact bad_s
      · split
        · rename_i hx
          simp only [Bool.and_eq_true] at hx
          split
          · rename_i f hf
            obtain ⟨hk, i⟩ := F.ob.exi _ _ hf
            exact ds_raise1 (k := 0) F.calm (F.room.mono hk) (F.gl hx.1) i tk (hE _) (star_cons hx.2)
          · exact bad_s
        · exact bad_s
      · exact bad_s
    | Pass p => simp only [denS]; exact ds_pass
    | Break p => simp only [denS]; exact ds_brk
    | Continue p => simp only [denS]; exact ds_ct
    | _ => simp only [denS]; exact bad_s
end
noncomputable def denSs (n : Nat) (sc : SC) (ss : List Stmt) : SS := seqs (ss.map fun s => denS n sc s)
def scOf (N : List Str) (scope : Scope) (fns : List (Str × FnI)) (cst : List (Str × D)) (blt : List Str) : SC := ⟨N, scope, fun _ => true, fns, cst, blt, [], [], [], [], [], false, OB.nil⟩
def scOfA (N : List Str) (scope : Scope) (fns : List (Str × FnI)) (cst : List (Str × D)) (blt exs : List Str) (trs iss : List (Str × List (Str × Bool))) (ers : List (Str × List Str)) (dct : List (Str × Tab)) (dk : Bool) (ob : OB) : SC := ⟨N, scope, fun _ => true, fns, cst, blt, exs, trs, iss, ers, dct, dk, ob⟩
def FnFacts (μ : Bool) (P : Program) (w : World) (K : PySem.W.Frag) (mg : Str → Option Value) (base : Heap) (cl : CT) (k : Nat) : List (Str × FnI) → Prop
  | [] => True
  | (x, i) :: r => FnFact μ P w K mg base cl k x i ∧ FnFacts μ P w K mg base cl k r
theorem FnFacts.look {P : Program} {w : World} {K : PySem.W.Frag} {mg : Str → Option Value} {base : Heap} {cl : CT} {k : Nat} : ∀ {l : List (Str × FnI)}, FnFacts μ P w K mg base cl k l → ∀ x i, l.lookup x = some i → FnFact μ P w K mg base cl k x i
  | [], _, x, i, h => by cases h
  | (y, j) :: r, hf, x, i, h => by
    rw [List.lookup_cons] at h
    split at h
    · rename_i e
      cases h
      have e : x = y := by simpa using e
      subst e
      exact hf.1
    · exact hf.2.look x i h
def BltFacts (mg : Str → Option Value) : List Str → Prop
  | [] => True
  | x :: r => (mg x = none ∧ x ≠ "__name__" ∧ (x == ("__debug__" : Str)) = false) ∧ BltFacts mg r
theorem BltFacts.look {mg : Str → Option Value} : ∀ {l : List Str}, BltFacts mg l → ∀ x, x ∈ l → mg x = none ∧ x ≠ "__name__" ∧ (x == ("__debug__" : Str)) = false
  | [], _, x, h => by cases h
  | y :: r, hf, x, h => by
    rcases List.mem_cons.mp h with rfl | h
    · exact hf.1
    · exact hf.2.look x h
def CstFacts (K : PySem.W.Frag) (mg : Str → Option Value) : List (Str × D) → Prop
  | [] => True
  | (x, d) :: r => (∃ v u, mg x = some u ∧ RelV v u ∧ ∀ ρ H, RD K ρ H d v) ∧ CstFacts K mg r
theorem CstFacts.look {K : PySem.W.Frag} {mg : Str → Option Value} : ∀ {l : List (Str × D)}, CstFacts K mg l → ∀ x d, l.lookup x = some d → ∃ v u, mg x = some u ∧ RelV v u ∧ ∀ ρ H, RD K ρ H d v
  | [], _, x, d, h => by cases h
  | (y, e) :: r, hf, x, d, h => by
    rw [List.lookup_cons] at h
    split at h
    · rename_i q
      cases h
      have q : x = y := by simpa using q
      subst q
      exact hf.1
    · exact hf.2.look x d h
section
variable {P : Program} {w : World} {K : PySem.W.Frag} {mg : Str → Option Value} {base : Heap}
theorem fn_by {cl : CT} {k n : Nat} {f : Addr} {x qual : Str} {st : Stmt} {fd : FuncData} {N ps : List Str} {fns : List (Str × FnI)} {cst : List (Str × D)} {blt : List Str} {g : SS} (F : Fun K x qual st f fd) (sco : FnScope N ps (defScope st))
    (hf : FnFacts μ P w K mg base cl k fns) (hc : CstFacts K mg cst) (hb : BltFacts mg blt) (hg : denSs n (scOf N (defScope st) fns cst blt) (defBody st) = g) : FnG μ P w K mg base (k + 1) f fd ps (spD K cl ps.length (callB N.length g)) := by
  subst hg
  refine fn_den F sco fun cdv A fr z H E hgd hr hco => ?_
  have fit : Fit μ (scOf N (defScope st) fns cst blt) k cl (cxOf (CXm μ P w) P w K mg base N qual (defScope st) f cdv A fr z H E) :=
    ⟨rfl, sco.nd, rfl, rfl, rfl, hr, hgd, sco.kind, hf.look, hc.look, hb.look, (fun _ h => by cases h), (fun _ _ h => by cases h), (fun _ _ h => by cases h), (fun _ _ h => by cases h), (fun _ _ h => by cases h), ObF.nil, fun h => Bool.noConfusion (show false = true from h)⟩
  exact seqs_ok fun s => denS_ok (passes_of rfl) fit (takesM_of rfl rfl rfl rfl) rfl rfl n s
end
end Ev

/-! ## Ev13 -/
set_option Elab.async false
set_option linter.all false
set_option maxRecDepth 100000
namespace Ev
open PySem

def Wp {α : Type} (r : R α) (Q : α → Store → Prop) : Prop := match r with
  | .ok a st => Q a st
  | _ => False
@[simp] theorem Wp_ok {α : Type} (a : α) (st : Store) (Q : α → Store → Prop) : Wp (.ok a st) Q = Q a st := .trans rfl rfl
@[simp] theorem Wp_bad {α : Type} (Q : α → Store → Prop) : Wp (.bad : R α) Q = False := .trans rfl rfl
theorem Wp_bind {α β : Type} (r : R α) (f : α → Store → R β) (Q : β → Store → Prop) : Wp (r.bind f) Q = Wp r fun a st => Wp (f a st) Q := by
  cases r <;> rfl
theorem Wp_bindN {α β : Type} (r : R α) (f : α → Store → R β) (Q : β → Store → Prop) : Wp (r.bindN f) Q = Wp r fun a st => Wp (f a st) Q := by
  cases r <;> rfl
theorem Wp.mono {α : Type} {r : R α} {Q Q' : α → Store → Prop} (h : Wp r Q) (k : ∀ a st, Q a st → Q' a st) : Wp r Q' := by
  cases r with
  | ok a st => exact k a st h
  | _ => exact h
theorem Wp.out {α : Type} {r : R α} {Q : α → Store → Prop} (h : Wp r Q) : ∃ a st, r = .ok a st ∧ Q a st := by
  cases r with
  | ok a st => exact ⟨a, st, rfl, h⟩
  | _ => exact h.elim
theorem Wp.of {α : Type} {r : R α} {Q : α → Store → Prop} {a : α} {st : Store} (h : r = .ok a st) (q : Q a st) : Wp r Q := by rw [h]; exact q
structure Es where
  nx : SEnv → Store → Prop
  bk : SEnv → Store → Prop
  ct : SEnv → Store → Prop
  rt : RV → Store → Prop
def WpS (r : SR) (T : Es) : Prop := match r with
  | .nx env st => T.nx env st
  | .brk env st => T.bk env st
  | .ct env st => T.ct env st
  | .ret a st => T.rt a st
  | _ => False
@[simp] theorem WpS_nx (env : SEnv) (st : Store) (T : Es) : WpS (.nx env st) T = T.nx env st := .trans rfl rfl
@[simp] theorem WpS_brk (env : SEnv) (st : Store) (T : Es) : WpS (.brk env st) T = T.bk env st := .trans rfl rfl
@[simp] theorem WpS_ct (env : SEnv) (st : Store) (T : Es) : WpS (.ct env st) T = T.ct env st := .trans rfl rfl
@[simp] theorem WpS_ret (a : RV) (st : Store) (T : Es) : WpS (.ret a st) T = T.rt a st := .trans rfl rfl
@[simp] theorem WpS_bad (T : Es) : WpS .bad T = False := .trans rfl rfl
theorem WpS.mono {r : SR} {T T' : Es} (h : WpS r T) (n : ∀ e s, T.nx e s → T'.nx e s) (b : ∀ e s, T.bk e s → T'.bk e s) (c : ∀ e s, T.ct e s → T'.ct e s) (t : ∀ a s, T.rt a s → T'.rt a s) : WpS r T' := by
  cases r with
  | nx e s => exact n e s h
  | brk e s => exact b e s h
  | ct e s => exact c e s h
  | ret e s => exact t e s h
  | _ => exact h
theorem WpS_toS {α : Type} (r : R α) (env : SEnv) (k : α → Store → SR) (T : Es) : WpS (r.toS env k) T = Wp r fun a st => WpS (k a st) T := by
  cases r <;> rfl
theorem WpS_loop (r : SR) (k : SEnv → Store → SR) (T : Es) : WpS (r.loop k) T = WpS r ⟨fun e s => WpS (k e s) T, T.nx, fun e s => WpS (k e s) T, T.rt⟩ := by
  cases r <;> rfl
theorem wp_while {g : SEnv → Store → R Bool} {f : SS} {T : Es} (I : Nat → SEnv → Store → Prop) {m : Nat} {env : SEnv} {st : Store} (hm : m < fuel) (h0 : I m env st)
    (step : ∀ (m : Nat) (env : SEnv) (st : Store), I m env st → Wp (g env st) fun c st1 => if c = true then WpS (f env st1) ⟨fun e s => ∃ m', m' < m ∧ I m' e s, T.nx, fun e s => ∃ m', m' < m ∧ I m' e s, T.rt⟩ else T.nx env st1) : WpS (sWhile g f env st) T := by
  have main : ∀ (k m : Nat) (env : SEnv) (st : Store), m < k → I m env st → WpS (whileF g f k env st) T := by
    intro k
    induction k with
    | zero => intro m env st h; exact absurd h (Nat.not_lt_zero _)
    | succ k ih =>
      intro m env st h i
      simp only [whileF, WpS_toS]
      refine (step m env st i).mono fun c st1 q => ?_
      cases c with
      | false => simpa using q
      | true =>
        simp only [if_true, WpS_loop] at q ⊢
        exact q.mono (fun e s ⟨m', h1, h2⟩ => ih m' e s (by omega) h2) (fun _ _ q => q) (fun e s ⟨m', h1, h2⟩ => ih m' e s (by omega) h2) fun _ _ q => q
  exact main fuel m env st hm h0
theorem wp_forL {gd : Store → Prop} {t : Tg} {f : SS} {T : Es} (I : List D → SEnv → Store → Prop) {ds : List D} {env : SEnv} {st : Store} (h0 : I ds env st)
    (step : ∀ (d : D) (ds : List D) (env : SEnv) (st : Store), I (d :: ds) env st → ∃ env1, t.put d env = some env1 ∧ WpS (f env1 st) ⟨fun e s => gd s ∧ I ds e s, T.nx, fun e s => gd s ∧ I ds e s, T.rt⟩)
    (fin : ∀ (env : SEnv) (st : Store), I [] env st → T.nx env st) : WpS (forL gd t f ds env st) T := by
  induction ds generalizing env st with
  | nil => exact fin env st h0
  | cons d ds ih =>
    obtain ⟨env1, h1, h2⟩ := step d ds env st h0
    simp only [forL, h1, WpS_loop]
    refine h2.mono ?_ (fun _ _ q => q) ?_ fun _ _ q => q
    · rintro e s ⟨g, i⟩
      dsimp only
      rw [if_pos g]
      exact ih i
    · rintro e s ⟨g, i⟩
      dsimp only
      rw [if_pos g]
      exact ih i
theorem wp_compL {gd : Store → Prop} {t : Tg} {tt : SEnv → Store → R Bool} {fe : SEnv → Store → R RV} {env : SEnv} (I : List D → List D → Store → Prop) {Q : List D → Store → Prop} {ds acc : List D} {st : Store} (h0 : I ds acc st)
    (step : ∀ (d : D) (ds acc : List D) (st : Store), I (d :: ds) acc st → ∃ env1, t.put d env = some env1 ∧ Wp (tt env1 st) fun c st1 => if c = true then Wp (fe env1 st1) fun a st2 => Wp (mat a st2) fun d' st3 => gd st3 ∧ I ds (acc ++ [d']) st3 else gd st1 ∧ I ds acc st1)
    (fin : ∀ (r acc : List D) (st : Store), I [] (acc ++ r) st → Q r st) : Wp (compL gd t tt fe env ds st) fun r s => I [] (acc ++ r) s := by
  induction ds generalizing acc st with
  | nil => simpa [compL] using h0
  | cons d ds ih =>
    obtain ⟨env1, h1, h2⟩ := step d ds acc st h0
    simp only [compL, h1, Wp_bindN]
    refine h2.mono fun c st1 q => ?_
    cases c with
    | false =>
      simp only [Bool.false_eq_true, if_false] at q ⊢
      rw [if_pos q.1]
      exact ih q.2
    | true =>
      simp only [if_true, Wp_bindN, Wp_bind] at q ⊢
      refine q.mono fun a st2 q => q.mono fun d' st3 q => ?_
      rw [if_pos q.1]
      simp only [Wp_bind]
      refine (ih q.2).mono fun r s q => ?_
      simpa using q
theorem wp_comp {gd : Store → Prop} {t : Tg} {tt : SEnv → Store → R Bool} {fe : SEnv → Store → R RV} {env : SEnv} (I : List D → List D → Store → Prop) {Q : List D → Store → Prop} {ds : List D} {st : Store} (h0 : I ds [] st)
    (step : ∀ (d : D) (ds acc : List D) (st : Store), I (d :: ds) acc st → ∃ env1, t.put d env = some env1 ∧ Wp (tt env1 st) fun c st1 => if c = true then Wp (fe env1 st1) fun a st2 => Wp (mat a st2) fun d' st3 => gd st3 ∧ I ds (acc ++ [d']) st3 else gd st1 ∧ I ds acc st1)
    (fin : ∀ (acc : List D) (st : Store), I [] acc st → Q acc st) : Wp (compL gd t tt fe env ds st) Q :=
  (wp_compL (Q := fun _ _ => True) I h0 step fun _ _ _ _ => trivial).mono fun r s q => fin r s (by simpa using q)
def WpR (r : SR) (Q : RV → Store → Prop) : Prop := WpS r ⟨fun _ st => Q (.v .non) st, fun _ _ => False, fun _ _ => False, Q⟩
theorem WpR.out {r : SR} {Q : RV → Store → Prop} (h : WpR r Q) : ∃ a st, r.toR = .ok a st ∧ Q a st := by
  cases r with
  | nx e s => exact ⟨_, _, rfl, h⟩
  | ret a s => exact ⟨_, _, rfl, h⟩
  | _ => exact h.elim
theorem Keeps.refl (st : Store) : Keeps st st := fun i c _ h => .inl h
theorem leave_ok {st st0 more : Store} {a a' : RV} (hl : st0.length = st.length) (hk : ∀ (i : Nat) (c : Cell), st0[i]? = some c → st[i]? = some c ∨ Cell.low st.length c = true) (ho : outV st.length (st0 ++ more) a = some a') :
    leave st (.ok a (st0 ++ more)) = .ok a' st0 := by
  have hK : Keeps st (st0 ++ more) := by
    intro i c hi h
    rw [List.getElem?_append_left (by omega)] at h
    exact hk i c h
  simp only [leave, ho, if_pos hK]
  rw [← hl, List.take_left]
theorem wp_call {n : Nat} {g : SS} {ds : List D} {st : Store} {Q : RV → Store → Prop}
    (h : WpR (g (startE n ds) st) fun a st' => ∃ st0 more a', st' = st0 ++ more ∧ st0.length = st.length ∧ (∀ (i : Nat) (c : Cell), st0[i]? = some c → st[i]? = some c ∨ Cell.low st.length c = true) ∧ outV st.length st' a = some a' ∧ Q a' st0) : Wp (callB n g ds st) Q := by
  obtain ⟨a, st', h1, st0, more, a', rfl, h3, h4, h5, h6⟩ := h.out
  refine Wp.of (a := a') (st := st0) ?_ h6
  simp only [callB, h1]
  exact leave_ok h3 h4 h5
theorem call_pure {n : Nat} {g : SS} {ds : List D} {st : Store} {d : D} (h : WpR (g (startE n ds) st) fun a st' => a = .v d ∧ ∃ more, st' = st ++ more) (hd : D.pure d = true) : callB n g ds st = .ok (.v d) st := by
  obtain ⟨a, st', h1, rfl, more, rfl⟩ := h.out
  simp only [callB, h1]
  refine leave_ok rfl (fun i c h => .inl h) ?_
  cases d with
  | ref m => simp [D.pure] at hd
  | _ => simp only [outV]; rw [if_pos (D.low_of_pure _ _ hd)]
theorem call_list {n : Nat} {g : SS} {ds : List D} {st : Store} {l : List D} (h : WpR (g (startE n ds) st) fun a st' => (∃ more, st' = st ++ more) ∧ (a = .t l ∨ ∃ m, a = .v (.ref m) ∧ st.length ≤ m ∧ st'[m]? = some (.lst l))) (hd : D.pures l = true) : callB n g ds st = .ok (.t l) st := by
  obtain ⟨a, st', h1, ⟨more, rfl⟩, h2⟩ := h.out
  simp only [callB, h1]
  refine leave_ok rfl (fun i c h => .inl h) ?_
  rcases h2 with rfl | ⟨m, rfl, h2, h3⟩
  · simp only [outV]; rw [if_pos (D.lows_of_pures _ _ hd)]
  · simp only [outV]; rw [if_neg (by omega), h3]
    simp only
    rw [if_pos (D.lows_of_pures _ _ hd)]
end Ev

/-! ## Ev14 -/
set_option Elab.async false
set_option linter.all false
set_option maxRecDepth 100000
namespace Ev
open PySem
@[simp] theorem startE_at (n : Nat) (ds : List D) : startE n ds = ds.map some ++ List.replicate (n - ds.length) none := .trans rfl rfl
def KVar (o : Option (Option D)) (st : Store) : R RV := match o with
  | some (some d) => .ok (.v d) st
  | _ => .bad
def K1 (g : RV → Store → Option RV) (a : RV) (s : Store) : R RV := lift (g a s) s
def K2 (g : RV → RV → Store → Option RV) (fb : EE) (e : SEnv) (a : RV) (s : Store) : R RV := (fb e s).bind fun b s2 => lift (g a b s2) s2
def K2b (g : RV → RV → Store → Option RV) (a b : RV) (s : Store) : R RV := lift (g a b s) s
def KA1 (fr : EA) (e : SEnv) (a : RV) (s : Store) : R (List D) := (mat a s).bind fun d s2 => (fr e s2).bind fun ds s3 => .ok (d :: ds) s3
def KA2 (fr : EA) (e : SEnv) (d : D) (s : Store) : R (List D) := (fr e s).bind fun ds s3 => .ok (d :: ds) s3
def KA3 (d : D) (ds : List D) (s : Store) : R (List D) := .ok (d :: ds) s
def KB1 (fr : EB) (e : SEnv) (a : RV) (s : Store) : R (List RV) := (fr e s).bind fun as s2 => .ok (a :: as) s2
def KB2 (a : RV) (as : List RV) (s : Store) : R (List RV) := .ok (a :: as) s
def KTup (ds : List D) (s : Store) : R RV := if ds.length ≤ sLine then .ok (.v (.tup ds)) s else .bad
def KLst (ds : List D) (s : Store) : R RV := if ds.length ≤ sLine then .ok (.t ds) s else .bad
def KPart (a : RV) (s : Store) : R (Option Int) := match a with
  | .v (.int i) => .ok (some i) s
  | _ => .bad
def KSl1 (lo hi : Option EE) (e : SEnv) (a : RV) (s : Store) : R RV := (sPart lo e s).bind fun l s2 => (sPart hi e s2).bind fun u s3 => lift (dSl a l u s3) s3
def KSl2 (hi : Option EE) (e : SEnv) (a : RV) (l : Option Int) (s : Store) : R RV := (sPart hi e s).bind fun u s3 => lift (dSl a l u s3) s3
def KSl3 (a : RV) (l u : Option Int) (s : Store) : R RV := lift (dSl a l u s) s
def liftB (o : Option Bool) (s : Store) : R Bool := match o with
  | some b => .ok b s
  | none => .bad
def KTru (a : RV) (s : Store) : R Bool := liftB (dTru a s) s
def KBool (a : RV) (s : Store) : R Bool := match a with
  | .v (.bl b) => .ok b s
  | _ => .bad
def KNotB (c : Bool) (s : Store) : R Bool := .ok (!c) s
def KAndB (h : ET) (e : SEnv) (c : Bool) (s : Store) : R Bool := if c = true then h e s else .ok false s
def KOrB (h : ET) (e : SEnv) (c : Bool) (s : Store) : R Bool := if c = true then .ok true s else h e s
def KAnd (fb : EE) (e : SEnv) (a : RV) (s : Store) : R RV := match a with
  | .v (.bl c) => if c = true then fb e s else .ok (.v (.bl false)) s
  | _ => .bad
def KOr (fb : EE) (e : SEnv) (a : RV) (s : Store) : R RV := match a with
  | .v (.bl c) => if c = true then .ok (.v (.bl true)) s else fb e s
  | _ => .bad
def KNot (a : RV) (s : Store) : R RV := match a with
  | .v (.bl c) => .ok (.v (.bl (!c))) s
  | _ => .bad
def KIf (fa fb : EE) (e : SEnv) (c : Bool) (s : Store) : R RV := if c = true then fa e s else fb e s
def KCh1 (g h : RV → RV → Store → Option RV) (fb fc : EE) (e : SEnv) (a : RV) (s : Store) : R RV := (fb e s).bind fun b s2 => (match g a b s2 with
    | some (.v (.bl c)) => if c = true then (fc e s2).bind fun c s3 => (match h b c s3 with
      | some (.v (.bl r)) => .ok (.v (.bl r)) s3
      | _ => .bad) else .ok (.v (.bl false)) s2
    | _ => .bad)
def KCh2 (g h : RV → RV → Store → Option RV) (fc : EE) (e : SEnv) (a b : RV) (s2 : Store) : R RV := match g a b s2 with
    | some (.v (.bl c)) => if c = true then (fc e s2).bind fun c s3 => (match h b c s3 with
      | some (.v (.bl r)) => .ok (.v (.bl r)) s3
      | _ => .bad) else .ok (.v (.bl false)) s2
    | _ => .bad
def KCh3 (h : RV → RV → Store → Option RV) (fc : EE) (e : SEnv) (b : RV) (o : Option RV) (s2 : Store) : R RV := match o with
    | some (.v (.bl c)) => if c = true then (fc e s2).bind fun c s3 => (match h b c s3 with
      | some (.v (.bl r)) => .ok (.v (.bl r)) s3
      | _ => .bad) else .ok (.v (.bl false)) s2
    | _ => .bad
def KCh4 (h : RV → RV → Store → Option RV) (b c : RV) (s3 : Store) : R RV := match h b c s3 with
      | some (.v (.bl r)) => .ok (.v (.bl r)) s3
      | _ => .bad
def KCh5 (o : Option RV) (s3 : Store) : R RV := match o with
      | some (.v (.bl r)) => .ok (.v (.bl r)) s3
      | _ => .bad
def KN (g : List RV → Store → Option RV) (as : List RV) (s : Store) : R RV := lift (g as s) s
def KCall (c : List D → Store → R RV) (dfl : List D) (ds : List D) (s : Store) : R RV := c (ds ++ dfl) s
def KSet1 (i : Nat) (e : SEnv) (a : RV) (s : Store) : SR := (mat a s).toS e fun d s2 => .nx (e.set i (some d)) s2
def KSet2 (i : Nat) (e : SEnv) (d : D) (s : Store) : SR := .nx (e.set i (some d)) s
def KExpr (e : SEnv) (a : RV) (s : Store) : SR := .nx e s
def KSIf (f1 f2 : SS) (e : SEnv) (c : Bool) (s : Store) : SR := if c = true then f1 e s else f2 e s
def oEnv (o : Option SEnv) (s : Store) : SR := match o with
  | some e1 => .nx e1 s
  | none => .bad
def KTg1 (t : Tg) (e : SEnv) (a : RV) (s : Store) : SR := (mat a s).toS e fun d s2 => oEnv (t.put d e) s2
def KTg2 (t : Tg) (e : SEnv) (d : D) (s : Store) : SR := oEnv (t.put d e) s
def KW (o : Option (List D)) (a : RV) (s : Store) : R Walk := match o with
    | some l => .ok ⟨l, fun s => itV s a = some l⟩ s
    | none => .bad
def KWal (a : RV) (s : Store) : R Walk := KW (itV s a) a s
theorem rOk_of {j : Int} (h1 : -1000000000 ≤ j) (h2 : j ≤ 1000000000) : rOk j := by unfold rOk; omega
theorem mOk_r {i j : Int} (h : j.natAbs < 4294967296) : mOk i j := by unfold mOk; omega
open Classical in
noncomputable def KR1 (as : List RV) (s : Store) : R Walk := match as with
    | [.v (.int j)] => if rOk j then .ok ⟨rngL 0 j.toNat, fun _ => True⟩ s else .bad
    | _ => .bad
open Classical in
noncomputable def KR2 (as : List RV) (s : Store) : R Walk := match as with
    | [.v (.int i), .v (.int j)] => if rOk2 i j then .ok ⟨rngL i (j - i).toNat, fun _ => True⟩ s else .bad
    | _ => .bad
noncomputable def KComp (t : Tg) (tt : ET) (own : List Nat) (fe : EE) (e : SEnv) (k : Walk) (s : Store) : R RV := if k.l.length ≤ sLine then (compL k.gd t tt fe (wipeE e own) k.l s).bind fun r s2 => .ok (.t r) s2 else .bad
def KT (r : List D) (s : Store) : R RV := .ok (.t r) s
noncomputable def KFor (t : Tg) (f : SS) (e : SEnv) (k : Walk) (s : Store) : SR := forL k.gd t f k.l e s
def cL (o : Option Cell) : Option (List D) := match o with
  | some (.lst l) => some l
  | _ => none
def KM0 (o : Option (D × List D)) (n : Nat) (s : Store) : R RV := match o with
          | some (d, l1) => .ok (.v d) (s.set n (.lst l1))
          | none => .bad
def KM1 (o : Option (List D)) (g : List D → List D → Option (D × List D)) (n : Nat) (ds : List D) (s : Store) : R RV := match o with
  | some l => KM0 (g ds l) n s
  | none => .bad
def KM2 (g : List D → List D → Option (D × List D)) (n : Nat) (ds : List D) (s : Store) : R RV := KM1 (cL s[n]?) g n ds s
def KM3 (o : Option (List D)) (g : List D → List D → Option (D × List D)) (fr : EA) (e : SEnv) (n : Nat) (s : Store) : R RV := match o with
  | some _ => (fr e s).bind (KM2 g n)
  | none => .bad
def KM4 (g : List D → List D → Option (D × List D)) (fr : EA) (e : SEnv) (a : RV) (s : Store) : R RV := match a with
  | .v (.ref n) => KM3 (cL s[n]?) g fr e n s
  | _ => .bad
def KS4 (g : List Nat → List RV → Store → Option RV) (fr : EB) (e : SEnv) (a : RV) (s : Store) : R RV := match a with
    | .v (.str t) => (fr e s).bind fun as s2 => lift (g t as s2) s2
    | _ => .bad
def KS5 (g : List Nat → List RV → Store → Option RV) (t : List Nat) (as : List RV) (s : Store) : R RV := lift (g t as s) s
def KX1 (o q : Option (List D)) (n : Nat) (s : Store) : R RV := match o, q with
  | some l, some m => if l.length + m.length ≤ sLine then .ok (.v .non) (s.set n (.lst (l ++ m))) else .bad
  | _, _ => .bad
def KX2 (n : Nat) (a : RV) (s : Store) : R RV := KX1 (cL s[n]?) (seqM s a) n s
def KX3 (o : Option (List D)) (fa : EE) (e : SEnv) (n : Nat) (s : Store) : R RV := match o with
  | some _ => (fa e s).bind (KX2 n)
  | none => .bad
def KX4 (fa : EE) (e : SEnv) (a : RV) (s : Store) : R RV := match a with
  | .v (.ref n) => KX3 (cL s[n]?) fa e n s
  | _ => .bad
def KP0 (o : Option (List D)) (n : Nat) (k : Int) (d : D) (e : SEnv) (s : Store) : SR := match o with
  | some l => (match L2.ixN l.length k with
        | some j => .nx e (s.set n (.lst (l.set j d)))
        | none => .bad)
  | none => .bad
def oSet (o : Option Nat) (n : Nat) (l : List D) (d : D) (e : SEnv) (s : Store) : SR := match o with
  | some j => .nx e (s.set n (.lst (l.set j d)))
  | none => .bad
def KP1 (e : SEnv) (d : D) (o i : RV) (s : Store) : SR := match o, i with
    | .v (.ref n), .v (.int k) => KP0 (cL s[n]?) n k d e s
    | _, _ => .bad
def KP2 (fi : EE) (e : SEnv) (d : D) (o : RV) (s : Store) : SR := (fi e s).toS e (KP1 e d o)
def KP3 (fo fi : EE) (e : SEnv) (d : D) (s : Store) : SR := (fo e s).toS e (KP2 fi e d)
def KP4 (fo fi : EE) (e : SEnv) (a : RV) (s : Store) : SR := (mat a s).toS e (KP3 fo fi e)
@[simp] theorem eC_at (d : D) (e : SEnv) (st : Store) : eC d e st = .ok (.v d) st := .trans rfl rfl
@[simp] theorem eVar_at (i : Nat) (e : SEnv) (st : Store) : eVar i e st = KVar e[i]? st := .trans rfl rfl
@[simp] theorem KVar_at (d : D) (st : Store) : KVar (some (some d)) st = .ok (.v d) st := .trans rfl rfl
@[simp] theorem lift_some_at (c : RV) (st : Store) : lift (some c) st = .ok c st := .trans rfl rfl
@[simp] theorem lift_none_at (st : Store) : lift none st = .bad := .trans rfl rfl
@[simp] theorem e1_at (g : RV → Store → Option RV) (fa : EE) (e : SEnv) (st : Store) : e1 g fa e st = (fa e st).bind (K1 g) := .trans rfl rfl
@[simp] theorem K1_at (g : RV → Store → Option RV) (a : RV) (s : Store) : K1 g a s = lift (g a s) s := .trans rfl rfl
@[simp] theorem e2_at (g : RV → RV → Store → Option RV) (fa fb : EE) (e : SEnv) (st : Store) : e2 g fa fb e st = (fa e st).bind (K2 g fb e) := .trans rfl rfl
@[simp] theorem K2_at (g : RV → RV → Store → Option RV) (fb : EE) (e : SEnv) (a : RV) (s : Store) : K2 g fb e a s = (fb e s).bind (K2b g a) := .trans rfl rfl
@[simp] theorem K2b_at (g : RV → RV → Store → Option RV) (a b : RV) (s : Store) : K2b g a b s = lift (g a b s) s := .trans rfl rfl
@[simp] theorem aNil_at (e : SEnv) (st : Store) : aNil e st = .ok [] st := .trans rfl rfl
@[simp] theorem aCons_at (fa : EE) (fr : EA) (e : SEnv) (st : Store) : aCons fa fr e st = (fa e st).bind (KA1 fr e) := .trans rfl rfl
@[simp] theorem KA1_at (fr : EA) (e : SEnv) (a : RV) (s : Store) : KA1 fr e a s = (mat a s).bind (KA2 fr e) := .trans rfl rfl
@[simp] theorem KA2_at (fr : EA) (e : SEnv) (d : D) (s : Store) : KA2 fr e d s = (fr e s).bind (KA3 d) := .trans rfl rfl
@[simp] theorem KA3_at (d : D) (ds : List D) (s : Store) : KA3 d ds s = .ok (d :: ds) s := .trans rfl rfl
@[simp] theorem bNil_at (e : SEnv) (st : Store) : bNil e st = .ok [] st := .trans rfl rfl
@[simp] theorem bCons_at (fa : EE) (fr : EB) (e : SEnv) (st : Store) : bCons fa fr e st = (fa e st).bind (KB1 fr e) := .trans rfl rfl
@[simp] theorem KB1_at (fr : EB) (e : SEnv) (a : RV) (s : Store) : KB1 fr e a s = (fr e s).bind (KB2 a) := .trans rfl rfl
@[simp] theorem KB2_at (a : RV) (as : List RV) (s : Store) : KB2 a as s = .ok (a :: as) s := .trans rfl rfl
@[simp] theorem eTup_at (fr : EA) (e : SEnv) (st : Store) : eTup fr e st = (fr e st).bind KTup := .trans rfl rfl
@[simp] theorem eLst_at (fr : EA) (e : SEnv) (st : Store) : eLst fr e st = (fr e st).bind KLst := .trans rfl rfl
@[simp] theorem KTup_at (ds : List D) (s : Store) : KTup ds s = if ds.length ≤ sLine then .ok (.v (.tup ds)) s else .bad := .trans rfl rfl
@[simp] theorem KLst_at (ds : List D) (s : Store) : KLst ds s = if ds.length ≤ sLine then .ok (.t ds) s else .bad := .trans rfl rfl
@[simp] theorem sPart_none_at (e : SEnv) (st : Store) : sPart none e st = .ok none st := .trans rfl rfl
@[simp] theorem sPart_some_at (f : EE) (e : SEnv) (st : Store) : sPart (some f) e st = (f e st).bind KPart := .trans rfl rfl
@[simp] theorem KPart_at (i : Int) (s : Store) : KPart (.v (.int i)) s = .ok (some i) s := .trans rfl rfl
@[simp] theorem eSl_at (fa : EE) (lo hi : Option EE) (e : SEnv) (st : Store) : eSl fa lo hi e st = (fa e st).bind (KSl1 lo hi e) := .trans rfl rfl
@[simp] theorem KSl1_at (lo hi : Option EE) (e : SEnv) (a : RV) (s : Store) : KSl1 lo hi e a s = (sPart lo e s).bind (KSl2 hi e a) := .trans rfl rfl
@[simp] theorem KSl2_at (hi : Option EE) (e : SEnv) (a : RV) (l : Option Int) (s : Store) : KSl2 hi e a l s = (sPart hi e s).bind (KSl3 a l) := .trans rfl rfl
@[simp] theorem KSl3_at (a : RV) (l u : Option Int) (s : Store) : KSl3 a l u s = lift (dSl a l u s) s := .trans rfl rfl
@[simp] theorem liftB_at (b : Bool) (s : Store) : liftB (some b) s = .ok b s := .trans rfl rfl
@[simp] theorem eTru_at (fa : EE) (e : SEnv) (st : Store) : eTru fa e st = (fa e st).bind KTru := .trans rfl rfl
@[simp] theorem KTru_at (a : RV) (s : Store) : KTru a s = liftB (dTru a s) s := .trans rfl rfl
@[simp] theorem eBool_at (fa : EE) (e : SEnv) (st : Store) : eBool fa e st = (fa e st).bind KBool := .trans rfl rfl
@[simp] theorem KBool_at (b : Bool) (s : Store) : KBool (.v (.bl b)) s = .ok b s := .trans rfl rfl
@[simp] theorem tNotB_at (g : ET) (e : SEnv) (st : Store) : tNotB g e st = (g e st).bind KNotB := .trans rfl rfl
@[simp] theorem KNotB_at (c : Bool) (s : Store) : KNotB c s = .ok (!c) s := .trans rfl rfl
@[simp] theorem tAndB_at (g h : ET) (e : SEnv) (st : Store) : tAndB g h e st = (g e st).bind (KAndB h e) := .trans rfl rfl
@[simp] theorem tOrB_at (g h : ET) (e : SEnv) (st : Store) : tOrB g h e st = (g e st).bind (KOrB h e) := .trans rfl rfl
@[simp] theorem KAndB_at (h : ET) (e : SEnv) (c : Bool) (s : Store) : KAndB h e c s = if c = true then h e s else .ok false s := .trans rfl rfl
@[simp] theorem KOrB_at (h : ET) (e : SEnv) (c : Bool) (s : Store) : KOrB h e c s = if c = true then .ok true s else h e s := .trans rfl rfl
@[simp] theorem eAnd_at (fa fb : EE) (e : SEnv) (st : Store) : eAnd fa fb e st = (fa e st).bind (KAnd fb e) := .trans rfl rfl
@[simp] theorem eOr_at (fa fb : EE) (e : SEnv) (st : Store) : eOr fa fb e st = (fa e st).bind (KOr fb e) := .trans rfl rfl
@[simp] theorem eNot_at (fa : EE) (e : SEnv) (st : Store) : eNot fa e st = (fa e st).bind KNot := .trans rfl rfl
@[simp] theorem KAnd_at (fb : EE) (e : SEnv) (c : Bool) (s : Store) : KAnd fb e (.v (.bl c)) s = if c = true then fb e s else .ok (.v (.bl false)) s := .trans rfl rfl
@[simp] theorem KOr_at (fb : EE) (e : SEnv) (c : Bool) (s : Store) : KOr fb e (.v (.bl c)) s = if c = true then .ok (.v (.bl true)) s else fb e s := .trans rfl rfl
@[simp] theorem KNot_at (c : Bool) (s : Store) : KNot (.v (.bl c)) s = .ok (.v (.bl (!c))) s := .trans rfl rfl
@[simp] theorem eIf_at (g : ET) (fa fb : EE) (e : SEnv) (st : Store) : eIf g fa fb e st = (g e st).bind (KIf fa fb e) := .trans rfl rfl
@[simp] theorem KIf_at (fa fb : EE) (e : SEnv) (c : Bool) (s : Store) : KIf fa fb e c s = if c = true then fa e s else fb e s := .trans rfl rfl
@[simp] theorem eChain_at (g h : RV → RV → Store → Option RV) (fa fb fc : EE) (e : SEnv) (st : Store) : eChain g h fa fb fc e st = (fa e st).bind (KCh1 g h fb fc e) := .trans rfl rfl
@[simp] theorem KCh1_at (g h : RV → RV → Store → Option RV) (fb fc : EE) (e : SEnv) (a : RV) (s : Store) : KCh1 g h fb fc e a s = (fb e s).bind (KCh2 g h fc e a) := .trans rfl rfl
@[simp] theorem KCh2_at (g h : RV → RV → Store → Option RV) (fc : EE) (e : SEnv) (a b : RV) (s : Store) : KCh2 g h fc e a b s = KCh3 h fc e b (g a b s) s := .trans rfl rfl
@[simp] theorem KCh3_at (h : RV → RV → Store → Option RV) (fc : EE) (e : SEnv) (b : RV) (c : Bool) (s : Store) : KCh3 h fc e b (some (.v (.bl c))) s = if c = true then (fc e s).bind (KCh4 h b) else .ok (.v (.bl false)) s := .trans rfl rfl
@[simp] theorem KCh4_at (h : RV → RV → Store → Option RV) (b c : RV) (s : Store) : KCh4 h b c s = KCh5 (h b c s) s := .trans rfl rfl
@[simp] theorem KCh5_at (r : Bool) (s : Store) : KCh5 (some (.v (.bl r))) s = .ok (.v (.bl r)) s := .trans rfl rfl
@[simp] theorem eN_at (g : List RV → Store → Option RV) (fs : EB) (e : SEnv) (st : Store) : eN g fs e st = (fs e st).bind (KN g) := .trans rfl rfl
@[simp] theorem KN_at (g : List RV → Store → Option RV) (as : List RV) (s : Store) : KN g as s = lift (g as s) s := .trans rfl rfl
@[simp] theorem g1_at (g : RV → Store → Option RV) (a : RV) (st : Store) : g1 g [a] st = g a st := .trans rfl rfl
@[simp] theorem g2_at (g : RV → RV → Store → Option RV) (a b : RV) (st : Store) : g2 g [a, b] st = g a b st := .trans rfl rfl
@[simp] theorem eCall_at (c : List D → Store → R RV) (dfl : List D) (fr : EA) (e : SEnv) (st : Store) : eCall c dfl fr e st = (fr e st).bind (KCall c dfl) := .trans rfl rfl
@[simp] theorem KCall_at (c : List D → Store → R RV) (dfl : List D) (ds : List D) (s : Store) : KCall c dfl ds s = c (ds ++ dfl) s := .trans rfl rfl
@[simp] theorem sNil_at (e : SEnv) (st : Store) : sNil e st = .nx e st := .trans rfl rfl
@[simp] theorem sSeq_at (f g : SS) (e : SEnv) (st : Store) : sSeq f g e st = (f e st).seq g := .trans rfl rfl
@[simp] theorem sSet_at (i : Nat) (fa : EE) (e : SEnv) (st : Store) : sSet i fa e st = (fa e st).toS e (KSet1 i e) := .trans rfl rfl
@[simp] theorem KSet1_at (i : Nat) (e : SEnv) (a : RV) (s : Store) : KSet1 i e a s = (mat a s).toS e (KSet2 i e) := .trans rfl rfl
@[simp] theorem KSet2_at (i : Nat) (e : SEnv) (d : D) (s : Store) : KSet2 i e d s = .nx (e.set i (some d)) s := .trans rfl rfl
@[simp] theorem sExpr_at (fa : EE) (e : SEnv) (st : Store) : sExpr fa e st = (fa e st).toS e (KExpr e) := .trans rfl rfl
@[simp] theorem KExpr_at (e : SEnv) (a : RV) (s : Store) : KExpr e a s = .nx e s := .trans rfl rfl
@[simp] theorem sRet_at (fa : EE) (e : SEnv) (st : Store) : sRet fa e st = (fa e st).toS e SR.ret := .trans rfl rfl
@[simp] theorem sRetN_at (e : SEnv) (st : Store) : sRetN e st = .ret (.v .non) st := .trans rfl rfl
@[simp] theorem sIf_at (g : ET) (f1 f2 : SS) (e : SEnv) (st : Store) : sIf g f1 f2 e st = (g e st).toS e (KSIf f1 f2 e) := .trans rfl rfl
@[simp] theorem KSIf_at (f1 f2 : SS) (e : SEnv) (c : Bool) (s : Store) : KSIf f1 f2 e c s = if c = true then f1 e s else f2 e s := .trans rfl rfl
@[simp] theorem sBrk_at (e : SEnv) (st : Store) : sBrk e st = .brk e st := .trans rfl rfl
@[simp] theorem sCt_at (e : SEnv) (st : Store) : sCt e st = .ct e st := .trans rfl rfl
@[simp] theorem oEnv_at (e : SEnv) (s : Store) : oEnv (some e) s = .nx e s := .trans rfl rfl
@[simp] theorem sTg_at (t : Tg) (fa : EE) (e : SEnv) (st : Store) : sTg t fa e st = (fa e st).toS e (KTg1 t e) := .trans rfl rfl
@[simp] theorem KTg1_at (t : Tg) (e : SEnv) (a : RV) (s : Store) : KTg1 t e a s = (mat a s).toS e (KTg2 t e) := .trans rfl rfl
@[simp] theorem KTg2_at (t : Tg) (e : SEnv) (d : D) (s : Store) : KTg2 t e d s = oEnv (t.put d e) s := .trans rfl rfl
@[simp] theorem put_one_at (i : Nat) (d : D) (e : SEnv) : (Tg.one i).put d e = some (e.set i (some d)) := .trans rfl rfl
@[simp] theorem put_many_at (is : List Nat) (l : List D) (e : SEnv) : (Tg.many is).put (.tup l) e = if l.length = is.length then some (setAll is l e) else none := .trans rfl rfl
@[simp] theorem setAll_cons_at (i : Nat) (is : List Nat) (d : D) (ds : List D) (e : SEnv) : setAll (i :: is) (d :: ds) e = setAll is ds (e.set i (some d)) := .trans rfl rfl
@[simp] theorem setAll_nil_at (ds : List D) (e : SEnv) : setAll [] ds e = e := by cases ds <;> rfl
@[simp] theorem wipe_nil_at (e : SEnv) : wipeE e [] = e := .trans rfl rfl
@[simp] theorem wipe_cons_at (e : SEnv) (v : Nat) (vs : List Nat) : wipeE e (v :: vs) = (wipeE e vs).set v none := .trans rfl rfl
@[simp] theorem wVal_at (fa : EE) (e : SEnv) (st : Store) : wVal fa e st = (fa e st).bind KWal := .trans rfl rfl
@[simp] theorem KWal_at (a : RV) (s : Store) : KWal a s = KW (itV s a) a s := .trans rfl rfl
@[simp] theorem KW_at (l : List D) (a : RV) (s : Store) : KW (some l) a s = .ok ⟨l, fun s => itV s a = some l⟩ s := .trans rfl rfl
@[simp] theorem wRng1_at (fs : EB) (e : SEnv) (st : Store) : wRng1 fs e st = (fs e st).bind KR1 := .trans rfl rfl
open Classical in
@[simp] theorem KR1_at (j : Int) (s : Store) : KR1 [.v (.int j)] s = if rOk j then .ok ⟨rngL 0 j.toNat, fun _ => True⟩ s else .bad := .trans rfl rfl
@[simp] theorem wRng2_at (fs : EB) (e : SEnv) (st : Store) : wRng2 fs e st = (fs e st).bind KR2 := .trans rfl rfl
open Classical in
@[simp] theorem KR2_at (i j : Int) (s : Store) : KR2 [.v (.int i), .v (.int j)] s = if rOk2 i j then .ok ⟨rngL i (j - i).toNat, fun _ => True⟩ s else .bad := .trans rfl rfl
@[simp] theorem ttYes_at (e : SEnv) (st : Store) : ttYes e st = .ok true st := .trans rfl rfl
@[simp] theorem eComp_at (w : EW) (t : Tg) (tt : ET) (own : List Nat) (fe : EE) (e : SEnv) (st : Store) : eComp w t tt own fe e st = (w e st).bind (KComp t tt own fe e) := .trans rfl rfl
@[simp] theorem KComp_at (t : Tg) (tt : ET) (own : List Nat) (fe : EE) (e : SEnv) (k : Walk) (s : Store) : KComp t tt own fe e k s = if k.l.length ≤ sLine then (compL k.gd t tt fe (wipeE e own) k.l s).bind KT else .bad := .trans rfl rfl
@[simp] theorem KT_at (r : List D) (s : Store) : KT r s = .ok (.t r) s := .trans rfl rfl
@[simp] theorem sFor_at (w : EW) (t : Tg) (f : SS) (e : SEnv) (st : Store) : sFor w t f e st = (w e st).toS e (KFor t f e) := .trans rfl rfl
@[simp] theorem KFor_at (t : Tg) (f : SS) (e : SEnv) (k : Walk) (s : Store) : KFor t f e k s = forL k.gd t f k.l e s := .trans rfl rfl
@[simp] theorem cL_at (l : List D) : cL (some (.lst l)) = some l := .trans rfl rfl
@[simp] theorem KM0_at (d : D) (l : List D) (n : Nat) (s : Store) : KM0 (some (d, l)) n s = .ok (.v d) (s.set n (.lst l)) := .trans rfl rfl
@[simp] theorem KM1_at (l : List D) (g : List D → List D → Option (D × List D)) (n : Nat) (ds : List D) (s : Store) : KM1 (some l) g n ds s = KM0 (g ds l) n s := .trans rfl rfl
@[simp] theorem KM2_at (g : List D → List D → Option (D × List D)) (n : Nat) (ds : List D) (s : Store) : KM2 g n ds s = KM1 (cL s[n]?) g n ds s := .trans rfl rfl
@[simp] theorem KM3_at (l : List D) (g : List D → List D → Option (D × List D)) (fr : EA) (e : SEnv) (n : Nat) (s : Store) : KM3 (some l) g fr e n s = (fr e s).bind (KM2 g n) := .trans rfl rfl
@[simp] theorem KM4_at (g : List D → List D → Option (D × List D)) (fr : EA) (e : SEnv) (n : Nat) (s : Store) : KM4 g fr e (.v (.ref n)) s = KM3 (cL s[n]?) g fr e n s := .trans rfl rfl
@[simp] theorem eMtL_at (g : List D → List D → Option (D × List D)) (fo : EE) (fr : EA) (e : SEnv) (st : Store) : eMtL g fo fr e st = (fo e st).bind (KM4 g fr e) := by
  unfold eMtL
  cases fo e st with
  | ok a s =>
    simp only [R.bind_ok]
    cases a with
    | v d =>
      cases d with
      | ref n =>
        simp only [KM4]
        rcases hs : s[n]? with _ | c
        · rfl
        · cases c with
          | lst l =>
            simp only [KM3, cL]
            cases fr e s with
            | ok ds s2 =>
              simp only [R.bind_ok, KM2]
              rcases hs2 : s2[n]? with _ | c2
              · rfl
              · cases c2 with
                | lst l2 =>
                  simp only [KM1, cL]
                  cases g ds l2 <;> rfl
                | _ => rfl
            | _ => rfl
          | _ => rfl
      | _ => rfl
    | t l => rfl
  | _ => rfl
@[simp] theorem eMtS_at (g : List Nat → List RV → Store → Option RV) (fo : EE) (fr : EB) (e : SEnv) (st : Store) : eMtS g fo fr e st = (fo e st).bind (KS4 g fr e) := .trans rfl rfl
@[simp] theorem KS4_at (g : List Nat → List RV → Store → Option RV) (fr : EB) (e : SEnv) (t : List Nat) (s : Store) : KS4 g fr e (.v (.str t)) s = (fr e s).bind (KS5 g t) := .trans rfl rfl
@[simp] theorem KS5_at (g : List Nat → List RV → Store → Option RV) (t : List Nat) (as : List RV) (s : Store) : KS5 g t as s = lift (g t as s) s := .trans rfl rfl
@[simp] theorem KX1_at (l m : List D) (n : Nat) (s : Store) : KX1 (some l) (some m) n s = if l.length + m.length ≤ sLine then .ok (.v .non) (s.set n (.lst (l ++ m))) else .bad := .trans rfl rfl
@[simp] theorem KX2_at (n : Nat) (a : RV) (s : Store) : KX2 n a s = KX1 (cL s[n]?) (seqM s a) n s := .trans rfl rfl
@[simp] theorem KX3_at (l : List D) (fa : EE) (e : SEnv) (n : Nat) (s : Store) : KX3 (some l) fa e n s = (fa e s).bind (KX2 n) := .trans rfl rfl
@[simp] theorem KX4_at (fa : EE) (e : SEnv) (n : Nat) (s : Store) : KX4 fa e (.v (.ref n)) s = KX3 (cL s[n]?) fa e n s := .trans rfl rfl
@[simp] theorem eExtend_at (fo fa : EE) (e : SEnv) (st : Store) : eExtend fo fa e st = (fo e st).bind (KX4 fa e) := by
  unfold eExtend
  cases fo e st with
  | ok a s =>
    simp only [R.bind_ok]
    cases a with
    | v d =>
      cases d with
      | ref n =>
        simp only [KX4]
        rcases hs : s[n]? with _ | c
        · rfl
        · cases c with
          | lst l =>
            simp only [KX3, cL]
            cases fa e s with
            | ok b s2 =>
              simp only [R.bind_ok, KX2]
              rcases hs2 : s2[n]? with _ | c2
              · rfl
              · cases c2 with
                | lst l2 =>
                  simp only [cL]
                  cases seqM s2 b <;> rfl
                | _ => rfl
            | _ => rfl
          | _ => rfl
      | _ => rfl
    | t l => rfl
  | _ => rfl
@[simp] theorem oSet_at (j n : Nat) (l : List D) (d : D) (e : SEnv) (s : Store) : oSet (some j) n l d e s = .nx e (s.set n (.lst (l.set j d))) := .trans rfl rfl
@[simp] theorem KP0_at (l : List D) (n : Nat) (k : Int) (d : D) (e : SEnv) (s : Store) : KP0 (some l) n k d e s = oSet (L2.ixN l.length k) n l d e s := .trans rfl rfl
@[simp] theorem KP1_at (e : SEnv) (d : D) (n : Nat) (k : Int) (s : Store) : KP1 e d (.v (.ref n)) (.v (.int k)) s = KP0 (cL s[n]?) n k d e s := .trans rfl rfl
@[simp] theorem KP2_at (fi : EE) (e : SEnv) (d : D) (o : RV) (s : Store) : KP2 fi e d o s = (fi e s).toS e (KP1 e d o) := .trans rfl rfl
@[simp] theorem KP3_at (fo fi : EE) (e : SEnv) (d : D) (s : Store) : KP3 fo fi e d s = (fo e s).toS e (KP2 fi e d) := .trans rfl rfl
@[simp] theorem KP4_at (fo fi : EE) (e : SEnv) (a : RV) (s : Store) : KP4 fo fi e a s = (mat a s).toS e (KP3 fo fi e) := .trans rfl rfl
@[simp] theorem sPutIx_at (fa fo fi : EE) (e : SEnv) (st : Store) : sPutIx fa fo fi e st = (fa e st).toS e (KP4 fo fi e) := by
  unfold sPutIx
  cases fa e st with
  | ok a s1 =>
    simp only [R.toS_ok, KP4]
    cases mat a s1 with
    | ok d s2 =>
      simp only [R.toS_ok, KP3]
      cases fo e s2 with
      | ok o s3 =>
        simp only [R.toS_ok, KP2]
        cases fi e s3 with
        | ok i s4 =>
          simp only [R.toS_ok, KP1]
          cases o with
          | v o =>
            cases o with
            | ref n =>
              cases i with
              | v i =>
                cases i with
                | int k =>
                  simp only
                  rcases hs : s4[n]? with _ | c
                  · rfl
                  · cases c with
                    | lst l => rfl
                    | _ => rfl
                | _ => rfl
              | t l => rfl
            | _ => rfl
          | t l => rfl
        | _ => rfl
      | _ => rfl
    | _ => rfl
  | _ => rfl
@[simp] theorem outV_t_at (n : Nat) (st : Store) (l : List D) : outV n st (.t l) = if D.lows n l then some (.t l) else none := .trans rfl rfl
@[simp] theorem outV_non_at (n : Nat) (st : Store)  : outV n st (.v .non) = some (.v .non) := .trans rfl rfl
@[simp] theorem outV_bl_at (n : Nat) (st : Store) (b : Bool) : outV n st (.v (.bl b)) = some (.v (.bl b)) := .trans rfl rfl
@[simp] theorem outV_int_at (n : Nat) (st : Store) (i : Int) : outV n st (.v (.int i)) = some (.v (.int i)) := .trans rfl rfl
@[simp] theorem outV_str_at (n : Nat) (st : Store) (s : List Nat) : outV n st (.v (.str s)) = some (.v (.str s)) := .trans rfl rfl
@[simp] theorem outV_tup_at (n : Nat) (st : Store) (l : List D) : outV n st (.v (.tup l)) = if D.lows n l then some (.v (.tup l)) else none := .trans rfl rfl
@[simp] theorem bind_ite {α β : Type} (c : Prop) [Decidable c] (x y : R α) (f : α → Store → R β) : (if c then x else y).bind f = if c then x.bind f else y.bind f := by split <;> rfl
@[simp] theorem toS_ite {α : Type} (c : Prop) [Decidable c] (x y : R α) (e : SEnv) (f : α → Store → SR) : (if c then x else y).toS e f = if c then x.toS e f else y.toS e f := by split <;> rfl
@[simp] theorem seq_ite (c : Prop) [Decidable c] (x y : SR) (f : SEnv → Store → SR) : (if c then x else y).seq f = if c then x.seq f else y.seq f := by split <;> rfl
@[simp] theorem loop_ite (c : Prop) [Decidable c] (x y : SR) (f : SEnv → Store → SR) : (if c then x else y).loop f = if c then x.loop f else y.loop f := by split <;> rfl
@[simp] theorem lift_ite (c : Prop) [Decidable c] (x y : Option RV) (s : Store) : lift (if c then x else y) s = if c then lift x s else lift y s := by split <;> rfl
section
variable {st : Store}
@[simp] theorem dAdd_int (i j : Int) : dAdd (.v (.int i)) (.v (.int j)) st = some (.v (.int (i + j))) := .trans rfl rfl
@[simp] theorem dSub_int (i j : Int) : dSub (.v (.int i)) (.v (.int j)) st = some (.v (.int (i - j))) := .trans rfl rfl
@[simp] theorem dEq_int (i j : Int) : dEq (.v (.int i)) (.v (.int j)) st = some (.v (.bl (i == j))) := .trans rfl rfl
@[simp] theorem dNe_int (i j : Int) : dNe (.v (.int i)) (.v (.int j)) st = some (.v (.bl (!(i == j)))) := .trans rfl rfl
@[simp] theorem dEq_str (i j : List Nat) : dEq (.v (.str i)) (.v (.str j)) st = some (.v (.bl (decide (i = j)))) := .trans rfl rfl
@[simp] theorem dNe_str (i j : List Nat) : dNe (.v (.str i)) (.v (.str j)) st = some (.v (.bl (!(decide (i = j))))) := .trans rfl rfl
@[simp] theorem dIx_ref (n : Nat) (i : Int) : dIx (.v (.ref n)) (.v (.int i)) st = match lstM st (.v (.ref n)) with
    | some l => (L2.atI l i).map .v
    | none => ixK (.v (.ref n)) (.v (.int i)) st := .trans rfl rfl
@[simp] theorem dIx_rol (l : List D) (i : Int) : dIx (.v (.rol l)) (.v (.int i)) st = (L2.atI l i).map .v := .trans rfl rfl
@[simp] theorem dIx_tup (l : List D) (i : Int) : dIx (.v (.tup l)) (.v (.int i)) st = (L2.atI l i).map .v := .trans rfl rfl
@[simp] theorem dIx_t (l : List D) (i : Int) : dIx (.t l) (.v (.int i)) st = (L2.atI l i).map .v := .trans rfl rfl
@[simp] theorem dLen_ref (n : Nat) : dLen (.v (.ref n)) st = match lstM st (.v (.ref n)) with
    | some l => some (.v (.int l.length))
    | none => lenK (.v (.ref n)) st := .trans rfl rfl
@[simp] theorem dLen_tup (l : List D) : dLen (.v (.tup l)) st = some (.v (.int l.length)) := .trans rfl rfl
@[simp] theorem dLen_t (l : List D) : dLen (.t l) st = some (.v (.int l.length)) := .trans rfl rfl
open Classical in
@[simp] theorem dMul_int (i j : Int) : dMul (.v (.int i)) (.v (.int j)) st = if mOk i j then some (.v (.int (i * j))) else none := .trans rfl rfl
@[simp] theorem dDiv_int (i j : Int) : dDiv (.v (.int i)) (.v (.int j)) st = if 0 < j ∧ j < 1073741824 then some (.v (.int (i / j))) else none := .trans rfl rfl
@[simp] theorem dMod_int (i j : Int) : dMod (.v (.int i)) (.v (.int j)) st = if 0 < j then some (.v (.int (i % j))) else none := .trans rfl rfl
@[simp] theorem dPow_int (i j : Int) : dPow (.v (.int i)) (.v (.int j)) st = if 0 ≤ j ∧ j ≤ 1000000 ∧ i.natAbs < 2 ^ 64 then some (.v (.int (i ^ j.toNat))) else none := .trans rfl rfl
@[simp] theorem dNeg_int (i : Int) : dNeg (.v (.int i)) st = some (.v (.int (-i))) := .trans rfl rfl
@[simp] theorem dLt_int (i j : Int) : dLt (.v (.int i)) (.v (.int j)) st = some (.v (.bl (decide (i < j)))) := .trans rfl rfl
@[simp] theorem dLe_int (i j : Int) : dLe (.v (.int i)) (.v (.int j)) st = some (.v (.bl (decide (i ≤ j)))) := .trans rfl rfl
@[simp] theorem dGt_int (i j : Int) : dGt (.v (.int i)) (.v (.int j)) st = some (.v (.bl (decide (i > j)))) := .trans rfl rfl
@[simp] theorem dGe_int (i j : Int) : dGe (.v (.int i)) (.v (.int j)) st = some (.v (.bl (decide (i ≥ j)))) := .trans rfl rfl
@[simp] theorem dAbs_int (i : Int) : dAbs (.v (.int i)) st = some (.v (.int (if i < 0 then -i else i))) := .trans rfl rfl
@[simp] theorem dInt_int (i : Int) : dInt (.v (.int i)) st = some (.v (.int i)) := .trans rfl rfl
@[simp] theorem dMax2_int (i j : Int) : dMax2 (.v (.int i)) (.v (.int j)) st = some (.v (.int (if j > i then j else i))) := .trans rfl rfl
@[simp] theorem dMin2_int (i j : Int) : dMin2 (.v (.int i)) (.v (.int j)) st = some (.v (.int (if j < i then j else i))) := .trans rfl rfl
@[simp] theorem itV_rol (l : List D) : itV st (.v (.rol l)) = some l := .trans rfl rfl
@[simp] theorem itV_tup (l : List D) : itV st (.v (.tup l)) = some l := .trans rfl rfl
@[simp] theorem itV_t (l : List D) : itV st (.t l) = some l := .trans rfl rfl
@[simp] theorem itV_str (l : List Nat) : itV st (.v (.str l)) = some (l.map fun c => .str [c]) := .trans rfl rfl
@[simp] theorem itV_ref (n : Nat) : itV st (.v (.ref n)) = lstM st (.v (.ref n)) := .trans rfl rfl
@[simp] theorem dList_rol (l : List D) : dList (.v (.rol l)) st = some (.t l) := .trans rfl rfl
@[simp] theorem dList_tup (l : List D) : dList (.v (.tup l)) st = some (.t l) := .trans rfl rfl
@[simp] theorem dList_t (l : List D) : dList (.t l) st = some (.t l) := .trans rfl rfl
@[simp] theorem dList_ref (n : Nat) : dList (.v (.ref n)) st = match lstM st (.v (.ref n)) with
    | some l => some (.t l)
    | none => none := .trans rfl rfl
@[simp] theorem dTuple_rol (l : List D) : dTuple (.v (.rol l)) st = some (.v (.tup l)) := .trans rfl rfl
@[simp] theorem dTuple_str (s : List Nat) : dTuple (.v (.str s)) st = if s.length ≤ sLine then some (.v (.tup (s.map fun c => .str [c]))) else none := .trans rfl rfl
@[simp] theorem dTuple_tup (l : List D) : dTuple (.v (.tup l)) st = some (.v (.tup l)) := .trans rfl rfl
@[simp] theorem dTuple_t (l : List D) : dTuple (.t l) st = some (.v (.tup l)) := .trans rfl rfl
@[simp] theorem dTuple_ref (n : Nat) : dTuple (.v (.ref n)) st = match lstM st (.v (.ref n)) with
    | some l => some (.v (.tup l))
    | none => (keysV st (.v (.ref n))).map fun l => .v (.tup l) := .trans rfl rfl
@[simp] theorem dLen_rol (l : List D) : dLen (.v (.rol l)) st = some (.v (.int l.length)) := .trans rfl rfl
@[simp] theorem dLen_str (l : List Nat) : dLen (.v (.str l)) st = if l.length ≤ sLine then some (.v (.int l.length)) else none := .trans rfl rfl
@[simp] theorem dIx_str (l : List Nat) (i : Int) : dIx (.v (.str l)) (.v (.int i)) st = if l.length ≤ sLine then (L2.atI l i).map fun c => .v (.str [c]) else none := .trans rfl rfl
@[simp] theorem dAdd_str (s t : List Nat) : dAdd (.v (.str s)) (.v (.str t)) st = if s.length + t.length ≤ sLine then some (.v (.str (s ++ t))) else none := .trans rfl rfl
@[simp] theorem dAdd_tup (s t : List D) : dAdd (.v (.tup s)) (.v (.tup t)) st = if s.length + t.length ≤ sLine then some (.v (.tup (s ++ t))) else none := .trans rfl rfl
@[simp] theorem dSl_tup (l : List D) (a b : Option Int) : dSl (.v (.tup l)) a b st = some (.v (.tup (cut l a b))) := .trans rfl rfl
@[simp] theorem dSl_str (l : List Nat) (a b : Option Int) : dSl (.v (.str l)) a b st = if l.length ≤ sLine then some (.v (.str (cut l a b))) else none := .trans rfl rfl
@[simp] theorem dTru_bl (b : Bool) : dTru (.v (.bl b)) st = some b := .trans rfl rfl
@[simp] theorem dTru_non : dTru (.v .non) st = some false := .trans rfl rfl
@[simp] theorem dTru_int (i : Int) : dTru (.v (.int i)) st = some (i != 0) := .trans rfl rfl
@[simp] theorem dTru_tup (l : List D) : dTru (.v (.tup l)) st = some (!l.isEmpty) := .trans rfl rfl
@[simp] theorem dTru_t (l : List D) : dTru (.t l) st = some (!l.isEmpty) := .trans rfl rfl
@[simp] theorem dTru_str (s : List Nat) : dTru (.v (.str s)) st = if s.length ≤ sLine then some (!s.isEmpty) else none := .trans rfl rfl
@[simp] theorem dIsi_tup (T : String) (l : List D) : dIsi T (.v (.tup l)) st = some (.v (.bl (isiB "tuple" T))) := .trans rfl rfl
@[simp] theorem dIsi_int (T : String) (i : Int) : dIsi T (.v (.int i)) st = some (.v (.bl (isiB "int" T))) := .trans rfl rfl
@[simp] theorem dIsi_str (T : String) (s : List Nat) : dIsi T (.v (.str s)) st = some (.v (.bl (isiB "str" T))) := .trans rfl rfl
@[simp] theorem dIsi_bl (T : String) (b : Bool) : dIsi T (.v (.bl b)) st = some (.v (.bl (isiB "bool" T))) := .trans rfl rfl
@[simp] theorem dIsi_non (T : String) : dIsi T (.v .non) st = some (.v (.bl (isiB "NoneType" T))) := .trans rfl rfl
@[simp] theorem seqM_t (l : List D) : seqM st (.t l) = some l := .trans rfl rfl
@[simp] theorem seqM_tup (l : List D) : seqM st (.v (.tup l)) = some l := .trans rfl rfl
@[simp] theorem seqM_ref (n : Nat) : seqM st (.v (.ref n)) = lstM st (.v (.ref n)) := .trans rfl rfl
@[simp] theorem lstM_t (l : List D) : lstM st (.t l) = some l := .trans rfl rfl
@[simp] theorem dAdd_refs (m n : Nat) : dAdd (.v (.ref m)) (.v (.ref n)) st = match lstM st (.v (.ref m)), lstM st (.v (.ref n)) with
    | some s, some t => if s.length + t.length ≤ sLine then some (.t (s ++ t)) else none
    | _, _ => none := .trans rfl rfl
@[simp] theorem dAdd_tt (s t : List D) : dAdd (.t s) (.t t) st = if s.length + t.length ≤ sLine then some (.t (s ++ t)) else none := .trans rfl rfl
@[simp] theorem lstM_ref (n : Nat) : lstM st (.v (.ref n)) = match st[n]? with
    | some (.lst l) => some l
    | _ => none := .trans rfl rfl
end
@[simp] theorem gAppend_at (d : D) (l : List D) : gAppend [d] l = if l.length < sLine then some (.non, l ++ [d]) else none := .trans rfl rfl
@[simp] theorem isiB_tuple_tuple : isiB "tuple" "tuple" = true := by decide
@[simp] theorem isiB_int_tuple : isiB "int" "tuple" = false := by decide
@[simp] theorem isiB_str_tuple : isiB "str" "tuple" = false := by decide
@[simp] theorem isiB_bool_tuple : isiB "bool" "tuple" = false := by decide
@[simp] theorem isiB_NoneType_tuple : isiB "NoneType" "tuple" = false := by decide
@[simp] theorem isiB_list_tuple : isiB "list" "tuple" = false := by decide
@[simp] theorem isiB_tuple_int : isiB "tuple" "int" = false := by decide
@[simp] theorem isiB_int_int : isiB "int" "int" = true := by decide
@[simp] theorem isiB_str_int : isiB "str" "int" = false := by decide
@[simp] theorem isiB_bool_int : isiB "bool" "int" = true := by decide
@[simp] theorem isiB_NoneType_int : isiB "NoneType" "int" = false := by decide
@[simp] theorem isiB_list_int : isiB "list" "int" = false := by decide
@[simp] theorem isiB_tuple_str : isiB "tuple" "str" = false := by decide
@[simp] theorem isiB_int_str : isiB "int" "str" = false := by decide
@[simp] theorem isiB_str_str : isiB "str" "str" = true := by decide
@[simp] theorem isiB_bool_str : isiB "bool" "str" = false := by decide
@[simp] theorem isiB_NoneType_str : isiB "NoneType" "str" = false := by decide
@[simp] theorem isiB_list_str : isiB "list" "str" = false := by decide
@[simp] theorem isiB_tuple_bool : isiB "tuple" "bool" = false := by decide
@[simp] theorem isiB_int_bool : isiB "int" "bool" = false := by decide
@[simp] theorem isiB_str_bool : isiB "str" "bool" = false := by decide
@[simp] theorem isiB_bool_bool : isiB "bool" "bool" = true := by decide
@[simp] theorem isiB_NoneType_bool : isiB "NoneType" "bool" = false := by decide
@[simp] theorem isiB_list_bool : isiB "list" "bool" = false := by decide
@[simp] theorem isiB_tuple_list : isiB "tuple" "list" = false := by decide
@[simp] theorem isiB_int_list : isiB "int" "list" = false := by decide
@[simp] theorem isiB_str_list : isiB "str" "list" = false := by decide
@[simp] theorem isiB_bool_list : isiB "bool" "list" = false := by decide
@[simp] theorem isiB_NoneType_list : isiB "NoneType" "list" = false := by decide
@[simp] theorem isiB_list_list : isiB "list" "list" = true := by decide
@[simp] theorem atI_nil {α : Type} (i : Int) : L2.atI ([] : List α) i = none := by
  unfold L2.atI
  cases h : L2.ixN ([] : List α).length i <;> simp
theorem atI_lit {α : Type} (l : List α) (k : Nat) : L2.atI l (k : Int) = l[k]? := by
  cases h : l[k]? with
  | some x => exact L2.atI_nat h
  | none =>
    have hk : l.length ≤ k := List.getElem?_eq_none_iff.mp h
    unfold L2.atI L2.ixN
    rw [if_pos (by omega), if_neg (by omega)]
    rfl
theorem ixN_lit (n k : Nat) : L2.ixN n (k : Int) = if k < n then some k else none := by
  unfold L2.ixN
  rw [if_pos (by omega)]
  by_cases h : k < n
  · rw [if_pos h, if_pos (by omega)]; rfl
  · rw [if_neg h, if_neg (by omega)]
@[simp] theorem atI_0 {α : Type} (l : List α) : L2.atI l 0 = l[0]? := atI_lit l 0
@[simp] theorem ixN_0 (n : Nat) : L2.ixN n 0 = if 0 < n then some 0 else none := ixN_lit n 0
@[simp] theorem atI_1 {α : Type} (l : List α) : L2.atI l 1 = l[1]? := atI_lit l 1
@[simp] theorem ixN_1 (n : Nat) : L2.ixN n 1 = if 1 < n then some 1 else none := ixN_lit n 1
@[simp] theorem atI_2 {α : Type} (l : List α) : L2.atI l 2 = l[2]? := atI_lit l 2
@[simp] theorem ixN_2 (n : Nat) : L2.ixN n 2 = if 2 < n then some 2 else none := ixN_lit n 2
@[simp] theorem atI_3 {α : Type} (l : List α) : L2.atI l 3 = l[3]? := atI_lit l 3
@[simp] theorem ixN_3 (n : Nat) : L2.ixN n 3 = if 3 < n then some 3 else none := ixN_lit n 3
@[simp] theorem atI_4 {α : Type} (l : List α) : L2.atI l 4 = l[4]? := atI_lit l 4
@[simp] theorem ixN_4 (n : Nat) : L2.ixN n 4 = if 4 < n then some 4 else none := ixN_lit n 4
@[simp] theorem atI_5 {α : Type} (l : List α) : L2.atI l 5 = l[5]? := atI_lit l 5
@[simp] theorem ixN_5 (n : Nat) : L2.ixN n 5 = if 5 < n then some 5 else none := ixN_lit n 5
@[simp] theorem atI_6 {α : Type} (l : List α) : L2.atI l 6 = l[6]? := atI_lit l 6
@[simp] theorem ixN_6 (n : Nat) : L2.ixN n 6 = if 6 < n then some 6 else none := ixN_lit n 6
@[simp] theorem atI_7 {α : Type} (l : List α) : L2.atI l 7 = l[7]? := atI_lit l 7
@[simp] theorem ixN_7 (n : Nat) : L2.ixN n 7 = if 7 < n then some 7 else none := ixN_lit n 7
@[simp] theorem atI_8 {α : Type} (l : List α) : L2.atI l 8 = l[8]? := atI_lit l 8
@[simp] theorem ixN_8 (n : Nat) : L2.ixN n 8 = if 8 < n then some 8 else none := ixN_lit n 8
@[simp] theorem atI_9 {α : Type} (l : List α) : L2.atI l 9 = l[9]? := atI_lit l 9
@[simp] theorem ixN_9 (n : Nat) : L2.ixN n 9 = if 9 < n then some 9 else none := ixN_lit n 9
@[simp] theorem atI_10 {α : Type} (l : List α) : L2.atI l 10 = l[10]? := atI_lit l 10
@[simp] theorem ixN_10 (n : Nat) : L2.ixN n 10 = if 10 < n then some 10 else none := ixN_lit n 10
@[simp] theorem atI_11 {α : Type} (l : List α) : L2.atI l 11 = l[11]? := atI_lit l 11
@[simp] theorem ixN_11 (n : Nat) : L2.ixN n 11 = if 11 < n then some 11 else none := ixN_lit n 11
@[simp] theorem atI_12 {α : Type} (l : List α) : L2.atI l 12 = l[12]? := atI_lit l 12
@[simp] theorem ixN_12 (n : Nat) : L2.ixN n 12 = if 12 < n then some 12 else none := ixN_lit n 12
@[simp] theorem atI_neg1 {α : Type} (l : List α) (x : α) : L2.atI (l ++ [x]) (-1) = some x := L2.atI_last l x
@[simp] theorem KM0_none (n : Nat) (s : Store) : KM0 none n s = .bad := .trans rfl rfl
@[simp] theorem KVar_none (s : Store) : KVar none s = .bad := .trans rfl rfl
@[simp] theorem KVar_none2 (s : Store) : KVar (some none) s = .bad := .trans rfl rfl
@[simp] theorem WpR_bad (Q : RV → Store → Prop) : WpR .bad Q = False := .trans rfl rfl
@[simp] theorem toS_bad {α : Type} (e : SEnv) (k : α → Store → SR) : (R.bad : R α).toS e k = .bad := .trans rfl rfl
@[simp] theorem WpR_nx (e : SEnv) (st : Store) (Q : RV → Store → Prop) : WpR (.nx e st) Q = Q (.v .non) st := .trans rfl rfl
@[simp] theorem WpR_ret (a : RV) (st : Store) (Q : RV → Store → Prop) : WpR (.ret a st) Q = Q a st := .trans rfl rfl
theorem WpR_seq (r : SR) (k : SEnv → Store → SR) (Q : RV → Store → Prop) : WpR (r.seq k) Q = WpS r ⟨fun e s => WpR (k e s) Q, fun _ _ => False, fun _ _ => False, Q⟩ := by
  cases r <;> rfl
@[simp] theorem WpR_ite (c : Prop) [Decidable c] (x y : SR) (Q : RV → Store → Prop) : WpR (if c then x else y) Q = if c then WpR x Q else WpR y Q := by split <;> rfl
@[simp] theorem WpS_ite (c : Prop) [Decidable c] (x y : SR) (T : Es) : WpS (if c then x else y) T = if c then WpS x T else WpS y T := by split <;> rfl
@[simp] theorem Wp_ite {α : Type} (c : Prop) [Decidable c] (x y : R α) (Q : α → Store → Prop) : Wp (if c then x else y) Q = if c then Wp x Q else Wp y Q := by split <;> rfl
end Ev

/-! ## Ev14a -/
set_option Elab.async false
set_option linter.all false
set_option maxRecDepth 100000
namespace Ev
open PySem
open Classical in
noncomputable def KRg1 (a : RV) (s : Store) : R RV := match a with
  | .v (.int j) => if rgOk 0 j then .ok (.t (rngL 0 j.toNat)) s else .bad
  | _ => .bad
open Classical in
noncomputable def KRg2 (fb : EE) (e : SEnv) (a : RV) (s : Store) : R RV := (fb e s).bind fun b st2 => match a, b with
  | .v (.int i), .v (.int j) => if rgOk i j then .ok (.t (rngL i (j - i).toNat)) st2 else .bad
  | _, _ => .bad
open Classical in
noncomputable def KRg3 (a b : RV) (st2 : Store) : R RV := match a, b with
  | .v (.int i), .v (.int j) => if rgOk i j then .ok (.t (rngL i (j - i).toNat)) st2 else .bad
  | _, _ => .bad
def KRevO (o : Option (List D)) (s : Store) : R RV := match o with
  | some l => .ok (.t l.reverse) s
  | none => .bad
def KRevL (a : RV) (s : Store) : R RV := KRevO (lstV s a) s
def KRevA (a : RV) (s : Store) : R RV := match a with
  | .v (.tup l) => .ok (.v (.tup l.reverse)) s
  | a => KRevO (lstV s a) s
def KWR (o : Option (List D)) (a : RV) (s : Store) : R Walk := match o with
    | some l => .ok ⟨l.reverse, fun s => itR s a = some l⟩ s
    | none => .bad
def KWRev (a : RV) (s : Store) : R Walk := KWR (itR s a) a s
open Classical in
noncomputable def KWR1 (a : RV) (s : Store) : R Walk := match a with
  | .v (.int j) => if rOk j then .ok ⟨(rngL 0 j.toNat).reverse, fun _ => True⟩ s else .bad
  | _ => .bad
@[simp] theorem eRg1_at (fa : EE) (e : SEnv) (st : Store) : eRg1 fa e st = (fa e st).bind KRg1 := .trans rfl rfl
open Classical in
@[simp] theorem KRg1_at (j : Int) (s : Store) : KRg1 (.v (.int j)) s = if rgOk 0 j then .ok (.t (rngL 0 j.toNat)) s else .bad := .trans rfl rfl
open Classical in
noncomputable def KRgD3 (l : List D) (st1 : Store) : R RV := match l with
  | [.int i, .int j, .int k] => if k = -1 ∧ rgOkD i j then .ok (.t (rngD i (i - j).toNat)) st1 else .bad
  | _ => .bad
@[simp] theorem eRg3_at (fr : EA) (e : SEnv) (st : Store) : eRg3 fr e st = (fr e st).bind KRgD3 := .trans rfl rfl
@[simp] theorem eRg2_at (fa fb : EE) (e : SEnv) (st : Store) : eRg2 fa fb e st = (fa e st).bind (KRg2 fb e) := .trans rfl rfl
open Classical in
@[simp] theorem KRg2_at (fb : EE) (e : SEnv) (a : RV) (s : Store) : KRg2 fb e a s = (fb e s).bind (KRg3 a) := .trans rfl rfl
open Classical in
@[simp] theorem KRg3_at (i j : Int) (s : Store) : KRg3 (.v (.int i)) (.v (.int j)) s = if rgOk i j then .ok (.t (rngL i (j - i).toNat)) s else .bad := .trans rfl rfl
@[simp] theorem eRevL_at (fa : EE) (e : SEnv) (st : Store) : eRevL fa e st = (fa e st).bind KRevL := .trans rfl rfl
@[simp] theorem KRevL_at (a : RV) (s : Store) : KRevL a s = KRevO (lstV s a) s := .trans rfl rfl
@[simp] theorem eRevA_at (fa : EE) (e : SEnv) (st : Store) : eRevA fa e st = (fa e st).bind KRevA := .trans rfl rfl
@[simp] theorem KRevA_tup (l : List D) (s : Store) : KRevA (.v (.tup l)) s = .ok (.v (.tup l.reverse)) s := .trans rfl rfl
@[simp] theorem KRevA_t (l : List D) (s : Store) : KRevA (.t l) s = .ok (.t l.reverse) s := .trans rfl rfl
@[simp] theorem KRevA_ref (n : Nat) (s : Store) : KRevA (.v (.ref n)) s = KRevO (lstV s (.v (.ref n))) s := .trans rfl rfl
@[simp] theorem KRevO_at (l : List D) (s : Store) : KRevO (some l) s = .ok (.t l.reverse) s := .trans rfl rfl
@[simp] theorem wRev_at (fa : EE) (e : SEnv) (st : Store) : wRev fa e st = (fa e st).bind KWRev := .trans rfl rfl
@[simp] theorem KWRev_at (a : RV) (s : Store) : KWRev a s = KWR (itR s a) a s := .trans rfl rfl
@[simp] theorem KWR_at (l : List D) (a : RV) (s : Store) : KWR (some l) a s = .ok ⟨l.reverse, fun s => itR s a = some l⟩ s := .trans rfl rfl
@[simp] theorem wRevR1_at (fa : EE) (e : SEnv) (st : Store) : wRevR1 fa e st = (fa e st).bind KWR1 := .trans rfl rfl
open Classical in
@[simp] theorem KWR1_at (j : Int) (s : Store) : KWR1 (.v (.int j)) s = if rOk j then .ok ⟨(rngL 0 j.toNat).reverse, fun _ => True⟩ s else .bad := .trans rfl rfl
section
variable {st : Store}
@[simp] theorem lstV_t (l : List D) : lstV st (.t l) = some l := .trans rfl rfl
@[simp] theorem lstV_rol (l : List D) : lstV st (.v (.rol l)) = some l := .trans rfl rfl
@[simp] theorem lstV_ref (n : Nat) : lstV st (.v (.ref n)) = lstM st (.v (.ref n)) := .trans rfl rfl
@[simp] theorem itR_tup (l : List D) : itR st (.v (.tup l)) = some l := .trans rfl rfl
@[simp] theorem itR_t (l : List D) : itR st (.t l) = some l := .trans rfl rfl
@[simp] theorem itR_ref (n : Nat) : itR st (.v (.ref n)) = lstM st (.v (.ref n)) := .trans rfl rfl
theorem strsOf_mapA (ps : List (List Nat)) : strsOf (ps.map D.str) = some ps := by
  induction ps with
  | nil => rfl
  | cons p ps ih => simp [strsOf, ih]
@[simp] theorem dStr_int (i : Int) : dStr (.v (.int i)) st = if i.natAbs.log2 < 1920 then some (.v (.str (iShown i))) else none := .trans rfl rfl
end
open Classical in
noncomputable def KTRg1 (a : RV) (s : Store) : R RV := match a with
  | .v (.int j) => if rgOk 0 j then .ok (.v (.tup (rngL 0 j.toNat))) s else .bad
  | _ => .bad
@[simp] theorem eTRg1_at (fa : EE) (e : SEnv) (st : Store) : eTRg1 fa e st = (fa e st).bind KTRg1 := .trans rfl rfl
open Classical in
@[simp] theorem KTRg1_at (j : Int) (s : Store) : KTRg1 (.v (.int j)) s = if rgOk 0 j then .ok (.v (.tup (rngL 0 j.toNat))) s else .bad := .trans rfl rfl
open Classical in
noncomputable def KWR3 (as : List RV) (st1 : Store) : R Walk := match as with
  | [.v (.int i), .v (.int j), .v (.int k)] => if k = -1 ∧ rgOkD i j then .ok ⟨rngD i (i - j).toNat, fun _ => True⟩ st1 else .bad
  | _ => .bad
@[simp] theorem wRng3_at (fs : EB) (e : SEnv) (st : Store) : wRng3 fs e st = (fs e st).bind KWR3 := .trans rfl rfl
open Classical in
@[simp] theorem KWR3_at (i j : Int) (s : Store) : KWR3 [.v (.int i), .v (.int j), .v (.int (-1))] s = if rgOkD i j then .ok ⟨rngD i (i - j).toNat, fun _ => True⟩ s else .bad := by
  show (if (-1 : Int) = -1 ∧ rgOkD i j then _ else _) = _
  simp
end Ev

/-! ## Ev15 -/
set_option Elab.async false
set_option linter.all false
set_option maxRecDepth 100000
namespace Ev
open PySem
instance (j : Int) : Decidable (rOk j) := inferInstanceAs (Decidable (_ ∧ _))
instance (i j : Int) : Decidable (rOk2 i j) := inferInstanceAs (Decidable (_ ∧ _))
instance (i j : Int) : Decidable (mOk i j) := inferInstanceAs (Decidable (_ ∨ _))
instance (a b : Int) : Decidable (rgOk a b) := inferInstanceAs (Decidable (_ ∧ _))
noncomputable def d_l_tape : SS :=
  (sSeq (sSet 1 (eC (.int 7)))
  (sSeq (sFor (wVal (eVar 0)) (.one 2) (
    (sSeq (sSet 1 (e2 dMod (eN (g1 dInt) (bCons (e2 dAdd (e2 dMulS (eVar 1) (eC (.int 31))) (eN (g1 dAbs) (bCons (eN (g1 dInt) (bCons (eVar 2) bNil)) bNil))) bNil)) (eC (.int 2147483647)))) sNil)))
  (sSeq (sRet (eLst (aCons (eN (g1 dList) (bCons (eVar 0) bNil)) (aCons (eC (.int 0)) (aCons (eC (.int 0)) (aCons (eVar 1) aNil)))))) sNil)))
noncomputable def c_l_tape : List D → Store → R RV := callB 3 d_l_tape
noncomputable def d_l_draw : SS :=
  (sSeq (sIf (eBool (e2 dEq (e2 dIx (eVar 0) (eC (.int 2))) (eC (.int 0)))) (
    (sSeq (sSet 2 (e2 dIx (eVar 0) (eC (.int 1))))
    (sSeq (sSet 3 (eC (.int 0)))
    (sSeq (sIf (eBool (e2 dLt (eVar 2) (eN (g1 dLen) (bCons (e2 dIx (eVar 0) (eC (.int 0))) bNil)))) (
      (sSeq (sSet 3 (eN (g1 dAbs) (bCons (eN (g1 dInt) (bCons (e2 dIx (e2 dIx (eVar 0) (eC (.int 0))) (eVar 2)) bNil)) bNil))) sNil)) (
      (sSeq (sPutIx (e2 dMod (eN (g1 dInt) (bCons (e2 dAdd (e2 dAdd (e2 dMulS (e2 dIx (eVar 0) (eC (.int 3))) (eC (.int 48271))) (eVar 2)) (eC (.int 1))) bNil)) (eC (.int 2147483647))) (eVar 0) (eC (.int 3)))
      (sSeq (sSet 3 (e2 dIx (eVar 0) (eC (.int 3)))) sNil))))
    (sSeq (sPutIx (e2 dAdd (eVar 2) (eC (.int 1))) (eVar 0) (eC (.int 1)))
    (sSeq (sIf (eBool (e2 dLt (eVar 3) (e2 dPow (eC (.int 10)) (eC (.int 18))))) (
      (sSeq (sSet 3 (e2 dMod (eN (g1 dInt) (bCons (e2 dAdd (e2 dAdd (e2 dMulS (eVar 3) (eC (.int 48271))) (e2 dMulS (eVar 2) (eC (.int 69621)))) (eC (.int 5))) bNil)) (eC (.int 2147483647))))
      (sSeq (sSet 3 (e2 dMod (eN (g1 dInt) (bCons (e2 dMulS (eVar 3) (eC (.int 69621))) bNil)) (eC (.int 2147483629))))
      (sSeq (sRet (e2 dMod (eN (g1 dInt) (bCons (eVar 3) bNil)) (eN (g2 dMax2) (bCons (eVar 1) (bCons (eC (.int 1)) bNil))))) sNil)))) sNil)
    (sSeq (sPutIx (eVar 3) (eVar 0) (eC (.int 2))) sNil))))))) sNil)
  (sSeq (sSet 3 (e2 dIx (eVar 0) (eC (.int 2))))
  (sSeq (sPutIx (e2 dDiv (eVar 3) (eN (g2 dMax2) (bCons (eVar 1) (bCons (eC (.int 2)) bNil)))) (eVar 0) (eC (.int 2)))
  (sSeq (sRet (e2 dMod (eN (g1 dInt) (bCons (eVar 3) bNil)) (eN (g2 dMax2) (bCons (eVar 1) (bCons (eC (.int 1)) bNil))))) sNil))))
noncomputable def c_l_draw : List D → Store → R RV := callB 4 d_l_draw
def Lv (st : Store) (Q : RV → Store → Prop) (a : RV) (st' : Store) : Prop :=
  ∃ st0 more a', st' = st0 ++ more ∧ st0.length = st.length ∧ (∀ (i : Nat) (c : Cell), st0[i]? = some c → st[i]? = some c ∨ Cell.low st.length c = true) ∧ outV st.length st' a = some a' ∧ Q a' st0
theorem wpc {n : Nat} {g : SS} {ds : List D} {st : Store} {Q : RV → Store → Prop} (h : WpR (g (startE n ds) st) (Lv st Q)) : Wp (callB n g ds st) Q := wp_call h
theorem outV_pure {n : Nat} {st : Store} {d : D} (h : D.pure d = true) : outV n st (.v d) = some (.v d) := by
  cases d with
  | ref m => simp [D.pure] at h
  | _ => simp only [outV]; rw [if_pos (D.low_of_pure _ _ h)]
theorem Lv.same {st more : Store} {Q : RV → Store → Prop} {d : D} (hd : D.pure d = true) (q : Q (.v d) st) : Lv st Q (.v d) (st ++ more) := ⟨st, more, _, rfl, rfl, fun _ _ h => .inl h, outV_pure hd, q⟩
def mkT (xs : List Int) (p q t : Int) (rest : Store) : Store := .lst (xs.map .int) :: .lst [.ref 0, .int p, .int q, .int t] :: rest
section
variable {xs : List Int} {p q t p' q' t' : Int} {rest more : Store}
@[simp high] theorem mkT_0 : (mkT xs p q t rest)[0]? = some (.lst (xs.map .int)) := rfl
@[simp high] theorem mkT_1 : (mkT xs p q t rest)[1]? = some (.lst [.ref 0, .int p, .int q, .int t]) := rfl
@[simp high] theorem mkT_at (n : Nat) : (mkT xs p q t rest)[n + 2]? = rest[n]? := rfl
@[simp high] theorem mkT_len : (mkT xs p q t rest).length = rest.length + 2 := rfl
@[simp high] theorem mkT_set : (mkT xs p q t rest).set 1 (.lst [.ref 0, .int p', .int q', .int t']) = mkT xs p' q' t' rest := rfl
@[simp high] theorem mkT_app : mkT xs p q t rest ++ more = mkT xs p q t (rest ++ more) := rfl
@[simp high] theorem mkT_setAt (n : Nat) (c : Cell) : (mkT xs p q t rest).set (n + 2) c = mkT xs p q t (rest.set n c) := rfl
theorem mkT_keep (i : Nat) (c : Cell) (h : (mkT xs p' q' t' rest)[i]? = some c) : (mkT xs p q t rest)[i]? = some c ∨ Cell.low (mkT xs p q t rest).length c = true := by
  match i, h with
  | 0, h => exact .inl h
  | 1, h =>
    refine .inr ?_
    simp at h
    subst h
    simp [Cell.low, D.lows, D.low]
  | i + 2, h => exact .inl h
theorem Lv.tape0 {Q : RV → Store → Prop} {d : D} (hd : D.pure d = true) (k : Q (.v d) (mkT xs p' q' t' rest)) : Lv (mkT xs p q t rest) Q (.v d) (mkT xs p' q' t' rest) :=
  ⟨mkT xs p' q' t' rest, [], _, by rw [List.append_nil], rfl, mkT_keep, outV_pure hd, k⟩
end
theorem tape_draw {xs : List Int} {p q t many : Int} {rest : Store} (hp : 0 ≤ p) (hq : 0 ≤ q) (hm : many < 1073741824) :
    ∃ r p' q' t', c_l_draw [.ref 1, .int many] (mkT xs p q t rest) = .ok (.v (.int r)) (mkT xs p' q' t' rest) ∧ 0 ≤ r ∧ r < max many 1 ∧ 0 ≤ p' ∧ 0 ≤ q' := by
  have main : Wp (c_l_draw [.ref 1, .int many] (mkT xs p q t rest)) fun a s => ∃ r p' q' t', a = .v (.int r) ∧ s = mkT xs p' q' t' rest ∧ 0 ≤ r ∧ r < max many 1 ∧ 0 ≤ p' ∧ 0 ≤ q' := by
    refine wpc ?_
    have key : ∀ n p' q' t' : Int, 0 ≤ p' → 0 ≤ q' → Lv (mkT xs p q t rest) (fun a s => ∃ r p' q' t', a = .v (.int r) ∧ s = mkT xs p' q' t' rest ∧ 0 ≤ r ∧ r < max many 1 ∧ 0 ≤ p' ∧ 0 ≤ q') (.v (.int (n % (if many < 1 then 1 else many)))) (mkT xs p' q' t' rest) := by
      intro n p' q' t' h1 h2
      have e : (if many < 1 then 1 else many) = max many 1 := by split <;> omega
      rw [e]
      exact Lv.tape0 rfl ⟨_, p', q', t', rfl, rfl, Int.emod_nonneg _ (by omega), Int.emod_lt_of_pos n (by omega), h1, h2⟩
    generalize Lv (mkT xs p q t rest) _ = Q at key ⊢
    have c1 : (0 : Int) < if many < 1 then 1 else many := by split <;> omega
    have c2 : (0 : Int) < (if many < 2 then 2 else many) ∧ (if many < 2 then 2 else many) < 1073741824 := by split <;> omega
    have dv : ∀ n : Int, 0 ≤ n → 0 ≤ n / (if many < 2 then 2 else many) := fun n h => Int.ediv_nonneg h (by omega)
    unfold d_l_draw
    simp [c1, c2, mOk_r]
    split
    · rename_i hq0
      split
      · rename_i hlt
        obtain ⟨b, e⟩ : ∃ b, L2.atI (xs.map D.int) p = some (.int b) := by
          obtain ⟨k, rfl⟩ := Int.eq_ofNat_of_zero_le hp
          have hk : k < xs.length := by omega
          exact ⟨xs[k], by rw [atI_lit, List.getElem?_map, List.getElem?_eq_getElem hk]; rfl⟩
        have hn : (0 : Int) ≤ if b < 0 then -b else b := by split <;> omega
        simp only [e, Option.map_some, lift_some, R.bind_ok, KB1_at, bNil_at, KB2_at, KN_at, g1_at, dInt_int, dAbs_int, R.toS_ok, KSet1_at, mat_v, KSet2_at]
        generalize (if b < 0 then -b else b) = a at hn ⊢
        simp [c1, c2, mOk_r]
        split
        · exact key _ _ _ _ (by omega) hq
        · exact key _ _ _ _ (by omega) (dv _ hn)
      · split
        · exact key _ _ _ _ (by omega) hq
        · exact key _ _ _ _ (by omega) (dv _ (Int.emod_nonneg _ (by decide)))
    · exact key _ _ _ _ hp (dv _ hq)
  obtain ⟨a, s, e, r, p', q', t', rfl, rfl, h⟩ := main.out
  exact ⟨r, p', q', t', e, h⟩
theorem tape_start {ns : List Int} : ∃ t, c_l_tape [.rol (ns.map .int)] [] = .ok (.t [.ref 0, .int 0, .int 0, .int t]) [.lst (ns.map .int)] := by
  have main : Wp (c_l_tape [.rol (ns.map .int)] []) fun a s => ∃ t, a = .t [.ref 0, .int 0, .int 0, .int t] ∧ s = [.lst (ns.map .int)] := by
    have h : WpR (d_l_tape (startE 3 [.rol (ns.map .int)]) []) fun a s => ∃ t, a = .t [.ref 0, .int 0, .int 0, .int t] ∧ s = [.lst (ns.map .int)] := by
      unfold d_l_tape
      simp
      rw [WpR_seq]
      refine wp_forL (fun ds e s => ∃ r t c, ds = r.map D.int ∧ e = [some (.rol (ns.map .int)), some (.int t), c] ∧ s = []) ⟨ns, 7, none, rfl, rfl, rfl⟩ ?_ ?_
      · rintro d ds e s ⟨r, t, c, h1, rfl, rfl⟩
        cases r with
        | nil => cases h1
        | cons n r =>
          cases h1
          refine ⟨_, rfl, ?_⟩
          simp [mOk_r]
          exact ⟨r, rfl⟩
      · rintro e s ⟨r, t, c, h1, rfl, rfl⟩
        simp [sLine]
    obtain ⟨a, s, h1, t, rfl, rfl⟩ := h.out
    refine Wp.of (a := .t [.ref 0, .int 0, .int 0, .int t]) (st := [.lst (ns.map .int)]) ?_ ⟨t, rfl, rfl⟩
    unfold c_l_tape callB
    rw [h1]
    simp [leave, D.lows, D.low]
  obtain ⟨a, s, e, t, rfl, rfl⟩ := main.out
  exact ⟨t, e⟩
end Ev


/-! ## Ev16 -/
set_option Elab.async false
set_option linter.all false
set_option maxRecDepth 100000
namespace Ev
open PySem
def cpsOk (s : List Nat) : Bool := s.all fun c => decide (c < 0x110000)
-- plain data without truth values, nested at most k deep
mutual
def D.ok : Nat → D → Bool
  | _, .non => true
  | _, .int _ => true
  | _, .str s => cpsOk s
  | k, .tup l => match k with
    | 0 => false
    | k + 1 => D.oks k l
  | _, _ => false
def D.oks : Nat → List D → Bool
  | _, [] => true
  | k, d :: l => D.ok k d && D.oks k l
end
theorem oks_iff {k : Nat} : ∀ {l : List D}, D.oks k l = true ↔ ∀ d ∈ l, D.ok k d = true
  | [] => by simp [D.oks]
  | d :: l => by simp [D.oks, oks_iff (l := l)]
mutual
theorem ok_pure : ∀ (k : Nat) (d : D), D.ok k d = true → D.pure d = true
  | _, .non, _ => rfl
  | _, .int _, _ => rfl
  | _, .str s, _ => rfl
  | 0, .tup l, h => by simp [D.ok] at h
  | k + 1, .tup l, h => by
    rw [D.pure]
    exact oks_pures k l (by simpa [D.ok] using h)
  | _, .bl _, h => by simp [D.ok] at h
  | _, .rol _, h => by simp [D.ok] at h
  | _, .ref _, h => by simp [D.ok] at h
theorem oks_pures : ∀ (k : Nat) (l : List D), D.oks k l = true → D.pures l = true
  | _, [], _ => rfl
  | k, d :: l, h => by
    simp only [D.oks, Bool.and_eq_true] at h
    simp only [D.pures, Bool.and_eq_true]
    exact ⟨ok_pure k d h.1, oks_pures k l h.2⟩
end
mutual
theorem ok_lay : ∀ (k : Nat) (d : D), D.ok k d = true → (D.toPy d).canLay0 = true ∧ (D.toPy d).depth ≤ k
  | _, .non, _ => ⟨rfl, Nat.zero_le _⟩
  | _, .int _, _ => ⟨rfl, Nat.zero_le _⟩
  | _, .str s, h => by
    refine ⟨?_, Nat.zero_le _⟩
    simp only [D.ok, cpsOk] at h
    simp only [D.toPy, PyData.canLay0, PyData.strOk]
    simpa using h
  | 0, .tup l, h => by simp [D.ok] at h
  | k + 1, .tup l, h => by
    obtain ⟨h1, h2⟩ := oks_lay k l (by simpa [D.ok] using h)
    exact ⟨by simpa [D.toPy, PyData.canLay0] using h1, by simp only [D.toPy, PyData.depth]; omega⟩
  | _, .bl _, h => by simp [D.ok] at h
  | _, .rol _, h => by simp [D.ok] at h
  | _, .ref _, h => by simp [D.ok] at h
theorem oks_lay : ∀ (k : Nat) (l : List D), D.oks k l = true → PyData.canLayAll0 (D.toPys l) = true ∧ PyData.depthAll (D.toPys l) ≤ k
  | k, [], _ => ⟨rfl, Nat.zero_le _⟩
  | k, d :: l, h => by
    simp only [D.oks, Bool.and_eq_true] at h
    obtain ⟨h1, h2⟩ := ok_lay k d h.1
    obtain ⟨h3, h4⟩ := oks_lay k l h.2
    refine ⟨?_, ?_⟩
    · simp only [D.toPys, PyData.canLayAll0, h1, h3, Bool.and_self]
    · simp only [D.toPys, PyData.depthAll]; omega
end
theorem ok_shaped {d : D} (h : D.ok 64 d = true) : SeqAt.shaped (D.toPy d) = true := by
  obtain ⟨h1, h2⟩ := ok_lay 64 d h
  simp [SeqAt.shaped, h1, h2]
mutual
theorem eqv_ok : ∀ (k j : Nat) (a b : D), D.ok k a = true → D.ok j b = true → (PyData.eqv (D.toPy a) (D.toPy b) = true ↔ a = b)
  | k, j, .non, b, h, h2 => by cases b <;> simp [D.toPy, PyData.eqv, D.ok] at h2 ⊢
  | k, j, .int i, b, h, h2 => by cases b <;> simp [D.toPy, PyData.eqv, D.ok] at h2 ⊢
  | k, j, .str s, b, h, h2 => by
    cases b <;> simp [D.toPy, PyData.eqv, D.ok] at h2 ⊢
  | 0, j, .tup l, b, h, h2 => by simp [D.ok] at h
  | k + 1, j, .tup l, b, h, h2 => by
    cases b with
    | tup m =>
      cases j with
      | zero => simp [D.ok] at h2
      | succ j =>
        have := eqvs_ok k j l m (by simpa [D.ok] using h) (by simpa [D.ok] using h2)
        simpa [D.toPy, PyData.eqv] using this
    | _ => simp [D.toPy, PyData.eqv, D.ok] at h2 ⊢
  | k, j, .bl _, b, h, h2 => by simp [D.ok] at h
  | k, j, .rol _, b, h, h2 => by simp [D.ok] at h
  | k, j, .ref _, b, h, h2 => by simp [D.ok] at h
theorem eqvs_ok : ∀ (k j : Nat) (l m : List D), D.oks k l = true → D.oks j m = true → (PyData.eqvAll (D.toPys l) (D.toPys m) = true ↔ l = m)
  | k, j, [], [], _, _ => by simp [D.toPys, PyData.eqvAll]
  | k, j, [], d :: m, _, _ => by simp [D.toPys, PyData.eqvAll]
  | k, j, d :: l, [], _, _ => by simp [D.toPys, PyData.eqvAll]
  | k, j, d :: l, e :: m, h, h2 => by
    simp only [D.oks, Bool.and_eq_true] at h h2
    have a := eqv_ok k j d e h.1 h2.1
    have b := eqvs_ok k j l m h.2 h2.2
    simp only [D.toPys, PyData.eqvAll, Bool.and_eq_true, a, b, List.cons.injEq]
end
noncomputable instance : DecidableEq D := fun a b => Classical.propDecidable (a = b)
theorem dat_ok1 {st : Store} {d : D} (h : D.ok 64 d = true) : dat st (.v d) = some (D.toPy d) := by
  have hp := ok_pure _ _ h
  cases d with
  | ref n => simp [D.ok] at h
  | _ => simp only [dat]; rw [if_pos hp]
theorem eqB_plain {st : Store} {a b : D} (ha : D.ok 64 a = true) (hb : D.ok 64 b = true) : eqB (.v a) (.v b) st = some (decide (a = b)) := by
  have main : (match dat st (.v a), dat st (.v b) with
      | some x, some y => if SeqAt.shaped x && SeqAt.shaped y then some (PyData.eqv x y) else none
      | _, _ => none) = some (decide (a = b)) := by
    rw [dat_ok1 ha, dat_ok1 hb]
    simp only [ok_shaped ha, ok_shaped hb, Bool.and_self, if_true, Option.some.injEq]
    have := eqv_ok 64 64 a b ha hb
    by_cases h : a = b
    · simp [h, this.mpr h] ; subst h; exact this.mpr rfl
    · simp [h]
      cases q : PyData.eqv (D.toPy a) (D.toPy b) with
      | true => exact absurd (this.mp q) h
      | false => rfl
  unfold eqB
  split
  · rename_i e1 e2; cases e1; cases e2; simp [Bool.beq_eq_decide_eq]
  · rename_i e1 e2; cases e1; cases e2; simp
  · rename_i e1 e2; cases e1; simp [D.ok] at ha
  · rename_i e1 e2; cases e1; cases e2; simp
  · rename_i e1 e2; cases e1; cases e2; simp
  · rename_i e1 e2; cases e1; cases e2; simp
  · rename_i e1 e2; cases e1; cases e2; simp
  · rename_i e1 e2; cases e1; cases e2; simp
  · exact main
theorem dEq_plain {st : Store} {a b : D} (ha : D.ok 64 a = true) (hb : D.ok 64 b = true) : dEq (.v a) (.v b) st = some (.v (.bl (decide (a = b)))) := by
  rw [dEq, eqB_plain ha hb]; rfl
theorem any_ok {a : D} (ha : D.ok 64 a = true) : ∀ {k : Nat} {l : List D}, D.oks k l = true → ((D.toPys l).any fun z => PyData.eqv z (D.toPy a)) = decide (a ∈ l)
  | k, [], _ => by simp [D.toPys]
  | k, d :: l, h => by
    simp only [D.oks, Bool.and_eq_true] at h
    simp only [D.toPys, List.any_cons, any_ok ha h.2]
    have := eqv_ok k 64 d a h.1 ha
    by_cases q : d = a
    · simp [q, this.mpr q]; subst q; simp [this.mpr rfl]
    · have q' : a ≠ d := fun e => q e.symm
      cases e : PyData.eqv (D.toPy d) (D.toPy a) with
      | true => exact absurd (this.mp e) q
      | false => simp [q']
theorem inB_tup {st : Store} {a : D} {l : List D} (ha : D.ok 64 a = true) (hl : D.ok 64 (.tup l) = true) : inB (.v a) (.v (.tup l)) st = some (decide (a ∈ l)) := by
  unfold inB
  split
  · rename_i e1 e2; cases e2
  · rw [dat_ok1 ha, dat_ok1 hl]
    have hs := ok_shaped hl
    simp only [D.toPy] at hs ⊢
    simp only [ok_shaped ha, hs, Bool.and_self, if_true, Option.some.injEq]
    exact any_ok ha (k := 63) (by simpa [D.ok] using hl)
theorem dIn_tup {st : Store} {a : D} {l : List D} (ha : D.ok 64 a = true) (hl : D.ok 64 (.tup l) = true) : dIn (.v a) (.v (.tup l)) st = some (.v (.bl (decide (a ∈ l)))) := by
  rw [dIn, inB_tup ha hl]; rfl
theorem dNotIn_tup {st : Store} {a : D} {l : List D} (ha : D.ok 64 a = true) (hl : D.ok 64 (.tup l) = true) : dNotIn (.v a) (.v (.tup l)) st = some (.v (.bl (!decide (a ∈ l)))) := by
  rw [dNotIn, inB_tup ha hl]; rfl
@[simp] theorem strsOf_map (ps : List (List Nat)) : strsOf (ps.map D.str) = some ps := by
  induction ps with
  | nil => rfl
  | cons p ps ih => simp [strsOf, ih]
theorem join_t {st : Store} {ps : List (List Nat)} (h : (ps.map (·.length)).sum ≤ sLine) : gJoin [] [.t (ps.map D.str)] st = some (.v (.str ps.flatten)) := by
  simp [gJoin, seqV, lstV, h]
theorem sum_ones {cs : List Nat} : ((cs.map fun c => [c]).map (·.length)).sum = cs.length := by
  induction cs with
  | nil => rfl
  | cons c cs ih => simp only [List.map_cons, List.sum_cons, ih, List.length_cons, List.length_nil]; omega
theorem flat_ones (cs : List Nat) : (cs.map fun c => [c]).flatten = cs := by
  induction cs with
  | nil => rfl
  | cons c cs ih => simp only [List.map_cons, List.flatten_cons, ih]; rfl
theorem join_signs {st : Store} {cs : List Nat} (h : cs.length ≤ sLine) : gJoin [] [.t (cs.map fun c => D.str [c])] st = some (.v (.str cs)) := by
  have e : (cs.map fun c => D.str [c]) = (cs.map fun c => [c]).map D.str := by simp
  rw [e, join_t (by rw [sum_ones]; exact h), flat_ones]
@[simp high] theorem set_last (st : Store) (c c' : Cell) : (st ++ [c]).set st.length c' = st ++ [c'] := by
  rw [List.set_append_right _ _ (Nat.le_refl _), Nat.sub_self]; rfl
@[simp high] theorem at_last (st : Store) (c : Cell) : (st ++ [c])[st.length]? = some c := by simp
theorem cut_nat {α : Type} (l : List α) (a b : Nat) : cut l (some (a : Int)) (some (b : Int)) = (l.drop a).take (b - a) := by
  unfold cut
  rw [HT.sIx_nat, HT.sIx_nat]
  by_cases h : a ≤ l.length
  · rw [Nat.min_eq_left h]
    by_cases h2 : b ≤ l.length
    · rw [Nat.min_eq_left h2]
    · rw [Nat.min_eq_right (show l.length ≤ b by omega), List.take_of_length_le (by rw [List.length_drop]; omega), List.take_of_length_le (by rw [List.length_drop]; omega)]
  · rw [Nat.min_eq_right (show l.length ≤ a by omega), List.drop_eq_nil_of_le (Nat.le_refl _), List.drop_eq_nil_of_le (by omega)]; simp
theorem rngL_len (lo : Int) (n : Nat) : (rngL lo n).length = n := by simp [rngL]
theorem rngL_cons (lo : Int) (n : Nat) : rngL lo (n + 1) = .int lo :: rngL (lo + 1) n := by
  unfold rngL
  rw [List.range_succ_eq_map]
  simp only [List.map_cons, List.map_map]
  congr 1
  · simp
  · apply List.map_congr_left
    intro i _
    simp only [Function.comp]
    congr 1
    omega
@[simp] theorem rngL_zero (lo : Int) : rngL lo 0 = [] := rfl
end Ev

/-! ## Ev17 -/
set_option Elab.async false
set_option linter.all false
set_option maxRecDepth 100000
namespace Ev
open PySem
-- what repr shows: ints below 10 ** 40, nested at most k deep
mutual
def D.rp : Nat → D → Bool
  | _, .non => true
  | _, .bl _ => true
  | _, .int i => decide (i.natAbs < 10 ^ 40)
  | _, .str s => cpsOk s
  | k, .tup l => match k with
    | 0 => false
    | k + 1 => D.rps k l
  | _, _ => false
def D.rps : Nat → List D → Bool
  | _, [] => true
  | k, d :: l => D.rp k d && D.rps k l
end
mutual
def D.wt : D → Nat
  | .int _ => 140
  | .str s => s.length
  | .tup l => D.wts l
  | _ => 0
def D.wts : List D → Nat
  | [] => 0
  | d :: l => D.wt d + 1 + D.wts l
end
theorem log_40 {n : Nat} (h : n < 10 ^ 40) : n.log2 < 139 := by
  by_cases h0 : n = 0
  · subst h0; decide
  · exact (Nat.log2_lt h0).mpr (Nat.lt_of_lt_of_le h (by decide))
mutual
theorem rp_pure : ∀ (k : Nat) (d : D), D.rp k d = true → D.pure d = true
  | _, .non, _ => rfl
  | _, .bl _, _ => rfl
  | _, .int _, _ => rfl
  | _, .str s, _ => rfl
  | 0, .tup l, h => by simp [D.rp] at h
  | k + 1, .tup l, h => by
    rw [D.pure]
    exact rps_pures k l (by simpa [D.rp] using h)
  | _, .rol _, h => by simp [D.rp] at h
  | _, .ref _, h => by simp [D.rp] at h
theorem rps_pures : ∀ (k : Nat) (l : List D), D.rps k l = true → D.pures l = true
  | _, [], _ => rfl
  | k, d :: l, h => by
    simp only [D.rps, Bool.and_eq_true] at h
    simp only [D.pures, Bool.and_eq_true]
    exact ⟨rp_pure k d h.1, rps_pures k l h.2⟩
end
structure Shows (k w : Nat) (p : PyData) : Prop where
  sh : p.showable = true
  nd : p.hasDict = false
  dp : p.depth ≤ k
  lv : p.leavesShort 41 = true
  wt : p.weight ≤ w
structure ShowsAll (k w : Nat) (p : List PyData) : Prop where
  sh : PyData.showableAll p = true
  nd : PyData.hasDictAll p = false
  dp : PyData.depthAll p ≤ k
  lv : PyData.leavesShortAll 41 p = true
  wt : PyData.weightAll p ≤ w
mutual
theorem rp_show : ∀ (k : Nat) (d : D), D.rp k d = true → Shows k (D.wt d) (D.toPy d)
  | k, .non, _ => ⟨rfl, rfl, Nat.zero_le _, rfl, Nat.le_refl _⟩
  | k, .bl b, _ => ⟨rfl, rfl, Nat.zero_le _, rfl, Nat.le_refl _⟩
  | k, .int i, h => by
    have h0 : i.natAbs < 10 ^ 40 := by
      simp only [D.rp] at h
      exact of_decide_eq_true h
    have hl := log_40 h0
    refine ⟨?_, rfl, Nat.zero_le _, ?_, ?_⟩
    · simp only [D.toPy, PyData.showable]
      exact decide_eq_true (by omega)
    · simp only [D.toPy, PyData.leavesShort]
      refine decide_eq_true ?_
      show (Str.ofString (toString i)).length ≤ 41
      rw [PySem.ofString_length]
      exact int_text_length_le10 (k := 40) (by decide) h0
    · simp only [D.toPy, PyData.weight, D.wt]
      split
      · exact Nat.zero_le _
      · omega
  | k, .str s, h => by
    refine ⟨rfl, rfl, Nat.zero_le _, ?_, ?_⟩
    · simp only [D.rp, cpsOk, List.all_eq_true, decide_eq_true_eq] at h
      simp only [D.toPy, PyData.leavesShort, List.all_eq_true, decide_eq_true_eq]
      intro c hc
      have := h c hc
      have e : (16 : Nat) ^ 8 = 4294967296 := by decide
      omega
    · simp [D.toPy, PyData.weight, D.wt]
  | 0, .tup l, h => by simp [D.rp] at h
  | k + 1, .tup l, h => by
    obtain ⟨h1, h2, h3, h4, h5⟩ := rps_show k l (by simpa [D.rp] using h)
    refine ⟨?_, ?_, ?_, ?_, ?_⟩
    · simpa [D.toPy, PyData.showable] using h1
    · simpa [D.toPy, PyData.hasDict] using h2
    · simp only [D.toPy, PyData.depth]; omega
    · simpa [D.toPy, PyData.leavesShort] using h4
    · simpa [D.toPy, PyData.weight, D.wt] using h5
  | _, .rol _, h => by simp [D.rp] at h
  | _, .ref _, h => by simp [D.rp] at h
theorem rps_show : ∀ (k : Nat) (l : List D), D.rps k l = true → ShowsAll k (D.wts l) (D.toPys l)
  | k, [], _ => ⟨rfl, rfl, Nat.zero_le _, rfl, Nat.le_refl _⟩
  | k, d :: l, h => by
    simp only [D.rps, Bool.and_eq_true] at h
    obtain ⟨a1, a2, a3, a4, a5⟩ := rp_show k d h.1
    obtain ⟨h1, h2, h3, h4, h5⟩ := rps_show k l h.2
    refine ⟨?_, ?_, ?_, ?_, ?_⟩
    · simp only [D.toPys, PyData.showableAll, a1, h1, Bool.and_self]
    · simp only [D.toPys, PyData.hasDictAll, a2, h2, Bool.or_self]
    · simp only [D.toPys, PyData.depthAll]; omega
    · simp only [D.toPys, PyData.leavesShortAll, a4, h4, Bool.and_self]
    · simp only [D.toPys, PyData.weightAll, D.wts]; omega
end
def rpr (d : D) : List Nat := (D.toPy d).shown.cps.toList
end Ev

/-! ## Ev18 -/
set_option Elab.async false
set_option linter.all false
set_option maxRecDepth 100000
namespace Ev
open PySem
abbrev Ch := Nat × Int × Int
def chD (c : Ch) : D := .tup [.str [c.1], .int c.2.1, .int c.2.2]
def txD (l : List Ch) : D := .tup (l.map chD)
end Ev

/-! ## Ev19 -/
set_option Elab.async false
set_option linter.all false
set_option maxRecDepth 100000
namespace Ev
open PySem
@[simp] theorem sl_tx (l : List Ch) (a b : Option Int) (st : Store) : dSl (.v (txD l)) a b st = some (.v (.tup (cut (l.map chD) a b))) := .trans rfl rfl
@[simp] theorem len_tx (l : List Ch) (st : Store) : dLen (.v (txD l)) st = some (.v (.int l.length)) := by
  show some (RV.v (D.int ((l.map chD).length : Nat))) = _
  rw [List.length_map]
def tOk (l : List Ch) : Prop := ∀ c ∈ l, c.1 < 0x110000 ∧ c.2.1.natAbs < 1000000 ∧ c.2.2.natAbs < 1000000
theorem tOk.sub {l m : List Ch} (h : tOk l) (hs : ∀ c ∈ m, c ∈ l) : tOk m := fun c hc => h c (hs c hc)
theorem cut_mem {α : Type} {l : List α} {a b : Option Int} {x : α} (h : x ∈ cut l a b) : x ∈ l := List.mem_of_mem_drop (List.mem_of_mem_take h)
theorem cut_len {α : Type} (l : List α) (a b : Option Int) : (cut l a b).length ≤ l.length := by
  unfold cut
  rw [List.length_take, List.length_drop]
  omega
theorem cps_cut {l : List Nat} {a b : Option Int} (h : cpsOk l = true) : cpsOk (cut l a b) = true := by
  simp only [cpsOk, List.all_eq_true] at h ⊢
  exact fun x hx => h x (cut_mem hx)
end Ev

/-! ## Ev20 -/
set_option Elab.async false
set_option linter.all false
set_option maxRecDepth 100000
namespace Ev
open PySem
-- what repr shows: ints below 10 ** 12, nested at most k deep
mutual
def D.rq : Nat → D → Bool
  | _, .non => true
  | _, .bl _ => true
  | _, .int i => decide (i.natAbs < 10 ^ 12)
  | _, .str s => cpsOk s
  | k, .tup l => match k with
    | 0 => false
    | k + 1 => D.rqs k l
  | _, _ => false
def D.rqs : Nat → List D → Bool
  | _, [] => true
  | k, d :: l => D.rq k d && D.rqs k l
end
mutual
def D.wq : D → Nat
  | .int _ => 41
  | .str s => s.length
  | .tup l => D.wqs l
  | _ => 0
def D.wqs : List D → Nat
  | [] => 0
  | d :: l => D.wq d + 1 + D.wqs l
end
theorem log_12 {n : Nat} (h : n < 10 ^ 12) : n.log2 < 40 := by
  by_cases h0 : n = 0
  · subst h0; decide
  · exact (Nat.log2_lt h0).mpr (Nat.lt_of_lt_of_le h (by decide))
mutual
theorem rq_pure : ∀ (k : Nat) (d : D), D.rq k d = true → D.pure d = true
  | _, .non, _ => rfl
  | _, .bl _, _ => rfl
  | _, .int _, _ => rfl
  | _, .str s, _ => rfl
  | 0, .tup l, h => by simp [D.rq] at h
  | k + 1, .tup l, h => by
    rw [D.pure]
    exact rqs_pures k l (by simpa [D.rq] using h)
  | _, .rol _, h => by simp [D.rq] at h
  | _, .ref _, h => by simp [D.rq] at h
theorem rqs_pures : ∀ (k : Nat) (l : List D), D.rqs k l = true → D.pures l = true
  | _, [], _ => rfl
  | k, d :: l, h => by
    simp only [D.rqs, Bool.and_eq_true] at h
    simp only [D.pures, Bool.and_eq_true]
    exact ⟨rq_pure k d h.1, rqs_pures k l h.2⟩
end
structure ShowsQ (k w : Nat) (p : PyData) : Prop where
  sh : p.showable = true
  nd : p.hasDict = false
  dp : p.depth ≤ k
  lv : p.leavesShort 13 = true
  wt : p.weight ≤ w
structure ShowsQs (k w : Nat) (p : List PyData) : Prop where
  sh : PyData.showableAll p = true
  nd : PyData.hasDictAll p = false
  dp : PyData.depthAll p ≤ k
  lv : PyData.leavesShortAll 13 p = true
  wt : PyData.weightAll p ≤ w
mutual
theorem rq_show : ∀ (k : Nat) (d : D), D.rq k d = true → ShowsQ k (D.wq d) (D.toPy d)
  | k, .non, _ => ⟨rfl, rfl, Nat.zero_le _, rfl, Nat.le_refl _⟩
  | k, .bl b, _ => ⟨rfl, rfl, Nat.zero_le _, rfl, Nat.le_refl _⟩
  | k, .int i, h => by
    have h0 : i.natAbs < 10 ^ 12 := by
      simp only [D.rq] at h
      exact of_decide_eq_true h
    have hl := log_12 h0
    refine ⟨?_, rfl, Nat.zero_le _, ?_, ?_⟩
    · simp only [D.toPy, PyData.showable]
      exact decide_eq_true (by omega)
    · simp only [D.toPy, PyData.leavesShort]
      refine decide_eq_true ?_
      show (Str.ofString (toString i)).length ≤ 13
      rw [PySem.ofString_length]
      exact int_text_length_le10 (k := 12) (by decide) h0
    · simp only [D.toPy, PyData.weight, D.wq]
      split
      · exact Nat.zero_le _
      · omega
  | k, .str s, h => by
    refine ⟨rfl, rfl, Nat.zero_le _, ?_, ?_⟩
    · simp only [D.rq, cpsOk, List.all_eq_true, decide_eq_true_eq] at h
      simp only [D.toPy, PyData.leavesShort, List.all_eq_true, decide_eq_true_eq]
      intro c hc
      have := h c hc
      have e : (16 : Nat) ^ 8 = 4294967296 := by decide
      omega
    · simp [D.toPy, PyData.weight, D.wq]
  | 0, .tup l, h => by simp [D.rq] at h
  | k + 1, .tup l, h => by
    obtain ⟨h1, h2, h3, h4, h5⟩ := rqs_show k l (by simpa [D.rq] using h)
    refine ⟨?_, ?_, ?_, ?_, ?_⟩
    · simpa [D.toPy, PyData.showable] using h1
    · simpa [D.toPy, PyData.hasDict] using h2
    · simp only [D.toPy, PyData.depth]; omega
    · simpa [D.toPy, PyData.leavesShort] using h4
    · simpa [D.toPy, PyData.weight, D.wq] using h5
  | _, .rol _, h => by simp [D.rq] at h
  | _, .ref _, h => by simp [D.rq] at h
theorem rqs_show : ∀ (k : Nat) (l : List D), D.rqs k l = true → ShowsQs k (D.wqs l) (D.toPys l)
  | k, [], _ => ⟨rfl, rfl, Nat.zero_le _, rfl, Nat.le_refl _⟩
  | k, d :: l, h => by
    simp only [D.rqs, Bool.and_eq_true] at h
    obtain ⟨a1, a2, a3, a4, a5⟩ := rq_show k d h.1
    obtain ⟨h1, h2, h3, h4, h5⟩ := rqs_show k l h.2
    refine ⟨?_, ?_, ?_, ?_, ?_⟩
    · simp only [D.toPys, PyData.showableAll, a1, h1, Bool.and_self]
    · simp only [D.toPys, PyData.hasDictAll, a2, h2, Bool.or_self]
    · simp only [D.toPys, PyData.depthAll]; omega
    · simp only [D.toPys, PyData.leavesShortAll, a4, h4, Bool.and_self]
    · simp only [D.toPys, PyData.weightAll, D.wqs]; omega
end
theorem dRepr_q {st : Store} {d : D} (h : D.rq 64 d = true) (hw : D.wq d ≤ 1000000) : dRepr (.v d) st = some (.v (.str (rpr d))) := by
  obtain ⟨h1, h2, h3, h4, h5⟩ := rq_show 64 d h
  have hl := PyData.shown_le 13 (by decide) (D.toPy d) h4
  have hdat : dat st (.v d) = some (D.toPy d) := by
    have hp := rq_pure _ _ h
    cases d with
    | ref n => simp [D.rq] at h
    | _ => simp only [dat]; rw [if_pos hp]
  have hs : (D.toPy d).shown.length ≤ sLine := by
    have e : (13 + 2) * (D.toPy d).weight ≤ 15 * 1000000 := Nat.mul_le_mul (by decide) (by omega)
    show _ ≤ 16777216
    omega
  simp only [dRepr, hdat]
  rw [if_pos ⟨h1, h2, h3, hs⟩]
  rfl
end Ev

/-! ## Ev21 -/
set_option Elab.async false
set_option linter.all false
set_option maxRecDepth 100000
namespace Ev
open PySem
noncomputable def d_tokens_of : SS :=
  (sSeq (sSet 1 (eLst aNil))
  (sSeq (sSet 2 (eC (.int 0)))
  (sSeq (sWhile (eBool (e2 dLt (eVar 2) (eN (g1 dLen) (bCons (eVar 0) bNil)))) (
    (sSeq (sIf (eBool (e2 dEq (eSl (eVar 0) (some (eVar 2)) (some (e2 dAdd (eVar 2) (eC (.int 2))))) (eC (.str [42, 42])))) (
      (sSeq (sExpr (eMtL gAppend (eVar 1) (aCons (eC (.str [42, 42])) aNil))) sNil)) (
      (sSeq (sExpr (eMtL gAppend (eVar 1) (aCons (e2 dIx (eVar 0) (eVar 2)) aNil))) sNil)))
    (sSeq (sSet 2 (e2 dAdd (eVar 2) (eN (g1 dLen) (bCons (e2 dIx (eVar 1) (e1 dNeg (eC (.int 1)))) bNil)))) sNil))))
  (sSeq (sRet (eN (g1 dTuple) (bCons (eVar 1) bNil))) sNil))))
noncomputable def c_tokens_of : List D → Store → R RV := callB 3 d_tokens_of
noncomputable def d_is_star : SS :=
  (sSeq (sRet (eOr (e2 dEq (eVar 0) (eC (.str [42]))) (e2 dEq (eVar 0) (eC (.str [42, 42]))))) sNil)
noncomputable def c_is_star : List D → Store → R RV := callB 1 d_is_star
noncomputable def d_may_contain : SS :=
  (sSeq (sIf (eBool (e2 dEq (eVar 0) (eC (.str [42])))) (
    (sSeq (sRet (e2 dNe (eVar 1) (eC (.str [47])))) sNil)) sNil)
  (sSeq (sRet (eOr (e2 dEq (eVar 0) (eC (.str [42, 42]))) (e2 dEq (eVar 0) (eVar 1)))) sNil))
noncomputable def c_may_contain : List D → Store → R RV := callB 2 d_may_contain
def toks : List Nat → List (List Nat)
  | [] => []
  | [c] => [[c]]
  | c :: d :: r => if c = 42 ∧ d = 42 then [42, 42] :: toks r else [c] :: toks (d :: r)
theorem toks_cons (c : Nat) (r : List Nat) : toks (c :: r) = if c = 42 ∧ r.take 1 = [42] then [42, 42] :: toks (r.drop 1) else [c] :: toks r := by
  cases r with
  | nil => simp [toks]
  | cons d r => simp [toks]
theorem tokens_ok {s : List Nat} {st : Store} (h : s.length ≤ 1000) : c_tokens_of [.str s] st = .ok (.v (.tup ((toks s).map D.str))) st := by
  have hsl : s.length ≤ sLine := Nat.le_trans h (by decide)
  refine call_pure ?_ ?_
  · unfold d_tokens_of
    simp
    rw [WpR_seq]
    refine wp_while (fun m e w => ∃ (done : List (List Nat)) (k : Nat), e = [some (.str s), some (.ref st.length), some (.int k)] ∧ w = st ++ [.lst (done.map D.str)] ∧ toks s = done ++ toks (s.drop k) ∧ k ≤ s.length ∧ m = s.length - k ∧ done.length ≤ k) (m := s.length) (by show _ < 1000000; omega) ⟨[], 0, rfl, rfl, rfl, Nat.zero_le _, rfl, Nat.le_refl _⟩ ?_
    rintro m e w ⟨done, k, rfl, rfl, ht, hk, rfl, hd⟩
    have hc : cut s (some (k : Int)) (some ((k : Int) + 2)) = (s.drop k).take 2 := by
      have := cut_nat s k (k + 2)
      rw [show k + 2 - k = 2 by omega] at this
      exact this
    by_cases hlt : k < s.length
    · obtain ⟨c, r, hr⟩ : ∃ c r, s.drop k = c :: r := ⟨s[k], s.drop (k + 1), List.drop_eq_getElem_cons hlt⟩
      have e1 : L2.atI s (k : Int) = some c := by
        rw [atI_lit, ← List.head?_drop, hr]; rfl
      have hd2 : done.length < sLine := by show _ < 16777216; omega
      have hr1 : s.drop (k + 1) = r := by rw [← List.drop_drop, hr]; rfl
      have hr2 : s.drop (k + 2) = r.drop 1 := by rw [← hr1, List.drop_drop]
      rw [hr, toks_cons] at ht
      by_cases hcc : c = 42 ∧ List.take 1 r = [42]
      · rw [if_pos hcc] at ht
        have hrl : 2 ≤ s.length - k := by
          have := congrArg List.length hr
          have h2 := congrArg List.length hcc.2
          simp only [List.length_drop, List.length_cons, List.length_take, List.length_nil] at this h2
          omega
        simp [hsl, hlt, hc, hr, e1, hd2, hcc.1, hcc.2]
        refine ⟨by decide, s.length - (k + 2), by omega, done ++ [[42, 42]], k + 2, rfl, by simp, ?_, by omega, rfl, by simp; omega⟩
        rw [ht, hr2]; simp
      · rw [if_neg hcc] at ht
        simp [hsl, hlt, hc, hr, e1, hd2, hcc]
        refine ⟨by decide, s.length - (k + 1), by omega, done ++ [[c]], k + 1, rfl, by simp, ?_, by omega, rfl, by simp; omega⟩
        rw [ht, hr1]; simp
    · have hk2 : k = s.length := by omega
      subst hk2
      simp [hsl, toks] at ht ⊢
      rw [ht]
  · simp only [D.pure]
    have : ∀ ps : List (List Nat), D.pures (ps.map D.str) = true := by
      intro ps
      induction ps with
      | nil => rfl
      | cons p ps ih => simpa [D.pures, D.pure] using ih
    exact this _
theorem toks_flat : ∀ s : List Nat, (toks s).flatten = s
  | [] => rfl
  | [c] => rfl
  | c :: d :: r => by
    have h1 := toks_flat r
    have h2 := toks_flat (d :: r)
    unfold toks
    split
    · rename_i h
      simp [h1, h.1, h.2]
    · simp [h2]
theorem toks_one : ∀ (s p : List Nat), p ∈ toks s → p = [42, 42] ∨ p.length = 1
  | [], p, h => by simp [toks] at h
  | [c], p, h => by simp [toks] at h; subst h; exact .inr rfl
  | c :: d :: r, p, h => by
    have h1 := toks_one r p
    have h2 := toks_one (d :: r) p
    unfold toks at h
    split at h
    · rcases List.mem_cons.mp h with rfl | h
      · exact .inl rfl
      · exact h1 h
    · rcases List.mem_cons.mp h with rfl | h
      · exact .inr rfl
      · exact h2 h
theorem sum_flat (l : List (List Nat)) : (l.map (·.length)).sum = l.flatten.length := by
  induction l with
  | nil => rfl
  | cons p l ih => simp only [List.map_cons, List.sum_cons, List.flatten_cons, List.length_append, ih]
def starB (t : List Nat) : Bool := decide (t = [42]) || decide (t = [42, 42])
def mayB (t : List Nat) (c : Nat) : Bool := if t = [42] then !(decide ([c] = [47])) else (decide (t = [42, 42]) || decide (t = [c]))
theorem is_star_ok (t : List Nat) (st : Store) : c_is_star [.str t] st = .ok (.v (.bl (starB t))) st := by
  refine call_pure ?_ rfl
  unfold d_is_star starB
  by_cases h : t = [42]
  · simp [h]
  · simp [h]
theorem may_ok (t : List Nat) (c : Nat) (st : Store) : c_may_contain [.str t, .str [c]] st = .ok (.v (.bl (mayB t c))) st := by
  refine call_pure ?_ rfl
  unfold d_may_contain mayB
  by_cases h : t = [42]
  · simp [h]
  · by_cases h2 : t = [42, 42]
    · simp [h2]
    · simp [h, h2]
def stepM (t : List Nat) : Bool → List Bool → List Nat → List Bool
  | prev, e :: e' :: es, c :: s => (((if starB t then prev else e) && mayB t c) || (starB t && e')) :: stepM t (((if starB t then prev else e) && mayB t c) || (starB t && e')) (e' :: es) s
  | _, _, _ => []
def nextE (t s : List Nat) : List Bool → List Bool
  | [] => []
  | e :: es => (e && starB t) :: stepM t (e && starB t) (e :: es) s
def endsOf (p s : List Nat) : List Bool := (toks p).foldl (fun es t => nextE t s es) (true :: s.map fun _ => false)
def matchB (p s : List Nat) : Bool := (endsOf p s).getD s.length false
end Ev

/-! ## Ev22 -/
set_option Elab.async false
set_option linter.all false
set_option maxRecDepth 100000
namespace Ev
open PySem
@[simp] theorem dTru_ref (n : Nat) (st : Store) : dTru (.v (.ref n)) st = (match lstM st (.v (.ref n)) with
    | some l => some (!l.isEmpty)
    | none => none) := .trans rfl rfl
end Ev

/-! ## Ev23 -/
set_option Elab.async false
set_option linter.all false
set_option maxRecDepth 100000
namespace Ev
open PySem
structure Tp where
  xs : List Int
  p : Int
  q : Int
  t : Int
  hp : 0 ≤ p
  hq : 0 ≤ q
def mk (T : Tp) (rest : Store) : Store := mkT T.xs T.p T.q T.t rest
section
variable {T T' : Tp} {rest more : Store}
@[simp high] theorem mk_at (n : Nat) : (mk T rest)[n + 2]? = rest[n]? := rfl
@[simp high] theorem mk_at2 : (mk T rest)[2]? = rest[0]? := rfl
@[simp high] theorem mk_at3 : (mk T rest)[3]? = rest[1]? := rfl
@[simp high] theorem mk_at4 : (mk T rest)[4]? = rest[2]? := rfl
@[simp high] theorem mk_at5 : (mk T rest)[5]? = rest[3]? := rfl
@[simp high] theorem mk_at6 : (mk T rest)[6]? = rest[4]? := rfl
@[simp high] theorem mk_at7 : (mk T rest)[7]? = rest[5]? := rfl
@[simp high] theorem mk_at8 : (mk T rest)[8]? = rest[6]? := rfl
@[simp high] theorem mk_len : (mk T rest).length = rest.length + 2 := rfl
@[simp high] theorem mk_app : mk T rest ++ more = mk T (rest ++ more) := rfl
@[simp high] theorem mk_setAt (n : Nat) (c : Cell) : (mk T rest).set (n + 2) c = mk T (rest.set n c) := rfl
@[simp high] theorem mk_set2 (c : Cell) : (mk T rest).set 2 c = mk T (rest.set 0 c) := rfl
@[simp high] theorem mk_set3 (c : Cell) : (mk T rest).set 3 c = mk T (rest.set 1 c) := rfl
@[simp high] theorem mk_set4 (c : Cell) : (mk T rest).set 4 c = mk T (rest.set 2 c) := rfl
@[simp high] theorem mk_set5 (c : Cell) : (mk T rest).set 5 c = mk T (rest.set 3 c) := rfl
@[simp high] theorem mk_set6 (c : Cell) : (mk T rest).set 6 c = mk T (rest.set 4 c) := rfl
theorem mk_keep (hx : T.xs = T'.xs) (i : Nat) (c : Cell) (h : (mk T' rest)[i]? = some c) : (mk T rest)[i]? = some c ∨ Cell.low (mk T rest).length c = true := by
  unfold mk at h ⊢
  rw [hx]
  exact mkT_keep i c h
end
theorem draw_ex (T : Tp) (many : Int) (hm : many < 1073741824) : ∃ (r : Int) (T' : Tp), T'.xs = T.xs ∧ (0 ≤ r ∧ r < max many 1) ∧ ∀ rest, c_l_draw [.ref 1, .int many] (mk T rest) = .ok (.v (.int r)) (mk T' rest) := by
  obtain ⟨xs, p, q, t, hp, hq⟩ := T
  have fin : ∀ (r p' q' t' : Int) (hp' : 0 ≤ p') (hq' : 0 ≤ q'), 0 ≤ r ∧ r < max many 1 → (∀ rest, Wp (c_l_draw [.ref 1, .int many] (mkT xs p q t rest)) fun a s => a = .v (.int r) ∧ s = mkT xs p' q' t' rest) →
      ∃ (r : Int) (T' : Tp), T'.xs = xs ∧ (0 ≤ r ∧ r < max many 1) ∧ ∀ rest, c_l_draw [.ref 1, .int many] (mk ⟨xs, p, q, t, hp, hq⟩ rest) = .ok (.v (.int r)) (mk T' rest) := by
    intro r p' q' t' hp' hq' hr h
    refine ⟨r, ⟨xs, p', q', t', hp', hq'⟩, rfl, hr, fun rest => ?_⟩
    obtain ⟨a, s, e, rfl, rfl⟩ := (h rest).out
    exact e
  have e1 : (if many < 1 then 1 else many) = max many 1 := by split <;> omega
  have e2 : (if many < 2 then 2 else many) = max many 2 := by split <;> omega
  have c1 : (0 : Int) < max many 1 := by omega
  have c2 : (0 : Int) < max many 2 ∧ max many 2 < 1073741824 := by omega
  have lv : ∀ (n p' q' t' : Int) (rest : Store), Lv (mkT xs p q t rest) (fun a s => a = .v (.int n) ∧ s = mkT xs p' q' t' rest) (.v (.int n)) (mkT xs p' q' t' rest) := fun n p' q' t' rest => Lv.tape0 rfl ⟨rfl, rfl⟩
  have bnd : ∀ n : Int, 0 ≤ n % max many 1 ∧ n % max many 1 < max many 1 := fun n => ⟨Int.emod_nonneg _ (by omega), Int.emod_lt_of_pos n c1⟩
  have dv : ∀ n : Int, 0 ≤ n → 0 ≤ n / max many 2 := fun n h => Int.ediv_nonneg h (by omega)
  by_cases hq0 : q = 0
  · subst hq0
    by_cases hlt : p < xs.length
    · obtain ⟨b, e⟩ : ∃ b, L2.atI (xs.map D.int) p = some (.int b) := by
        obtain ⟨k, rfl⟩ := Int.eq_ofNat_of_zero_le hp
        have hk : k < xs.length := by omega
        exact ⟨xs[k], by rw [atI_lit, List.getElem?_map, List.getElem?_eq_getElem hk]; rfl⟩
      have hn : (0 : Int) ≤ if b < 0 then -b else b := by split <;> omega
      by_cases hb : (if b < 0 then -b else b) < 10 ^ 18
      · refine fin ((((if b < 0 then -b else b) * 48271 + p * 69621 + 5) % 2147483647 * 69621 % 2147483629) % max many 1) (p + 1) 0 t (by omega) (by omega) (bnd _) fun rest => wpc ?_
        have lv := lv ((((if b < 0 then -b else b) * 48271 + p * 69621 + 5) % 2147483647 * 69621 % 2147483629) % max many 1) (p + 1) 0 t rest
        generalize Lv (mkT xs p 0 t rest) _ = Q at lv ⊢
        unfold d_l_draw
        simp [hlt]
        simp only [e, Option.map_some, lift_some, R.bind_ok, KB1_at, bNil_at, KB2_at, KN_at, g1_at, dInt_int, dAbs_int, R.toS_ok, KSet1_at, mat_v, KSet2_at]
        generalize (if b < 0 then -b else b) = a at hn hb lv ⊢
        simp [c1, c2, mOk_r, e1, e2]
        rw [if_pos (by simpa using hb)]
        exact lv
      · refine fin ((if b < 0 then -b else b) % max many 1) (p + 1) ((if b < 0 then -b else b) / max many 2) t (by omega) (dv _ hn) (bnd _) fun rest => wpc ?_
        have lv := lv ((if b < 0 then -b else b) % max many 1) (p + 1) ((if b < 0 then -b else b) / max many 2) t rest
        generalize Lv (mkT xs p 0 t rest) _ = Q at lv ⊢
        unfold d_l_draw
        simp [hlt]
        simp only [e, Option.map_some, lift_some, R.bind_ok, KB1_at, bNil_at, KB2_at, KN_at, g1_at, dInt_int, dAbs_int, R.toS_ok, KSet1_at, mat_v, KSet2_at]
        generalize (if b < 0 then -b else b) = a at hn hb lv ⊢
        simp [c1, c2, mOk_r, e1, e2]
        rw [if_neg (by simpa using hb)]
        exact lv
    · have hs : (0 : Int) ≤ (t * 48271 + p + 1) % 2147483647 := Int.emod_nonneg _ (by decide)
      have hs2 : (t * 48271 + p + 1) % 2147483647 < 10 ^ 18 := by
        have := Int.emod_lt_of_pos (t * 48271 + p + 1) (show (0 : Int) < 2147483647 by decide)
        omega
      refine fin ((((t * 48271 + p + 1) % 2147483647 * 48271 + p * 69621 + 5) % 2147483647 * 69621 % 2147483629) % max many 1) (p + 1) 0 ((t * 48271 + p + 1) % 2147483647) (by omega) (by omega) (bnd _) fun rest => wpc ?_
      have lv := lv ((((t * 48271 + p + 1) % 2147483647 * 48271 + p * 69621 + 5) % 2147483647 * 69621 % 2147483629) % max many 1) (p + 1) 0 ((t * 48271 + p + 1) % 2147483647) rest
      generalize Lv (mkT xs p 0 t rest) _ = Q at lv ⊢
      unfold d_l_draw
      have hg : ¬ p < (xs.length : Int) := hlt
      simp [hg, mOk_r]
      generalize (t * 48271 + p + 1) % 2147483647 = a at hs hs2 lv ⊢
      simp [c1, c2, mOk_r, e1, e2]
      rw [if_pos (by simpa using hs2)]
      exact lv
  · refine fin (q % max many 1) p (q / max many 2) t hp (dv _ hq) (bnd _) fun rest => wpc ?_
    have lv := lv (q % max many 1) p (q / max many 2) t rest
    generalize Lv (mkT xs p q t rest) _ = Q at lv ⊢
    unfold d_l_draw
    simp [hq0, c1, c2, mOk_r, e1, e2]
    exact lv
open Classical in
noncomputable def dr (T : Tp) (many : Int) : Int := if h : many < 1073741824 then (draw_ex T many h).choose else 0
open Classical in
noncomputable def nx (T : Tp) (many : Int) : Tp := if h : many < 1073741824 then (draw_ex T many h).choose_spec.choose else T
@[simp] theorem nx_xs (T : Tp) (many : Int) : (nx T many).xs = T.xs := by
  unfold nx
  split
  · rename_i h; exact (draw_ex T many h).choose_spec.choose_spec.1
  · rfl
theorem draw_at (T : Tp) (many : Int) (rest : Store) (h : many < 1073741824) : c_l_draw [.ref 1, .int many] (mk T rest) = .ok (.v (.int (dr T many))) (mk (nx T many) rest) := by
  unfold dr nx
  rw [dif_pos h, dif_pos h]
  exact (draw_ex T many h).choose_spec.choose_spec.2.2 rest
theorem dr_nn (T : Tp) (many : Int) : 0 ≤ dr T many := by
  unfold dr
  split
  · rename_i h; exact (draw_ex T many h).choose_spec.choose_spec.2.1.1
  · exact Int.le_refl _
theorem dr_lt (T : Tp) (many : Int) (h0 : 0 < many) : dr T many < many := by
  unfold dr
  split
  · rename_i h
    have := (draw_ex T many h).choose_spec.choose_spec.2.1.2
    omega
  · exact h0
theorem pick_ex {α : Type} (l : List α) (T : Tp) (h : l ≠ []) : ∃ x ∈ l, L2.atI l (dr T l.length) = some x := by
  have h0 : 0 < l.length := List.length_pos_iff.mpr h
  have h1 := dr_nn T l.length
  have h2 := dr_lt T l.length (by omega)
  obtain ⟨k, e⟩ := Int.eq_ofNat_of_zero_le h1
  rw [e] at h2 ⊢
  have hk : k < l.length := by omega
  exact ⟨l[k], List.getElem_mem hk, by rw [atI_lit, List.getElem?_eq_getElem hk]⟩
open Classical in
noncomputable def pk {α : Type} [Inhabited α] (l : List α) (T : Tp) : α := if h : l ≠ [] then (pick_ex l T h).choose else default
theorem pk_mem {α : Type} [Inhabited α] {l : List α} {T : Tp} (h : l ≠ []) : pk l T ∈ l := by
  unfold pk; rw [dif_pos h]; exact (pick_ex l T h).choose_spec.1
theorem pk_at {α : Type} [Inhabited α] (l : List α) (T : Tp) (n : Int) (hn : n = l.length) (h : l ≠ []) : L2.atI l (dr T n) = some (pk l T) := by
  subst hn
  unfold pk; rw [dif_pos h]; exact (pick_ex l T h).choose_spec.2
instance : Inhabited D := ⟨.non⟩
theorem pk_map {α : Type} [Inhabited α] {f : α → D} {l : List α} {T : Tp} {n : Int} (hn : n = l.length) (h : l ≠ []) : L2.atI (l.map f) (dr T n) = some (f (pk l T)) := by
  have := pk_at l T n hn h
  have h1 := dr_nn T n
  obtain ⟨k, e⟩ := Int.eq_ofNat_of_zero_le h1
  rw [e] at this ⊢
  rw [atI_lit] at this ⊢
  rw [List.getElem?_map, this]; rfl
section
variable {T T' : Tp} {rest more : Store} {Q : RV → Store → Prop}
theorem Lv.out {d : D} (hx : T.xs = T'.xs) (hd : D.pure d = true) (k : Q (.v d) (mk T' rest)) : Lv (Ev.mk T rest) Q (.v d) (Ev.mk T' (rest ++ more)) :=
  ⟨Ev.mk T' rest, more, _, rfl, rfl, mk_keep hx, outV_pure hd, k⟩
theorem Lv.outR {l : List D} (hx : T.xs = T'.xs) (hd : D.pures l = true) (k : Q (.t l) (mk T' rest)) : Lv (Ev.mk T rest) Q (.v (.ref (rest.length + 2))) (Ev.mk T' (rest ++ .lst l :: more)) := by
  refine ⟨Ev.mk T' rest, .lst l :: more, _, rfl, rfl, mk_keep hx, ?_, k⟩
  simp [outV, D.lows_of_pures _ _ hd]
end
theorem pures_map {α : Type} {f : α → D} {l : List α} (h : ∀ a ∈ l, D.pure (f a) = true) : D.pures (l.map f) = true := by
  induction l with
  | nil => rfl
  | cons a l ih =>
    simp only [List.map_cons, D.pures, Bool.and_eq_true]
    exact ⟨h a (List.mem_cons_self ..), ih fun b hb => h b (List.mem_cons_of_mem _ hb)⟩
@[simp] theorem pures_int (l : List Int) : D.pures (l.map D.int) = true := pures_map fun _ _ => rfl
@[simp] theorem pures_str (l : List (List Nat)) : D.pures (l.map D.str) = true := pures_map fun _ _ => rfl
@[simp] theorem pures_bl (l : List Bool) : D.pures (l.map D.bl) = true := pures_map fun _ _ => rfl
theorem comp_filterA {α : Type} {gd : Store → Prop} {t : Tg} {tt : SEnv → Store → R Bool} {fe : SEnv → Store → R RV} {env : SEnv} {st : Store} {enc F : α → D} {q : α → Bool} : ∀ {l : List α} (hg : gd st)
    (h : ∀ a ∈ l, ∃ env1, t.put (enc a) env = some env1 ∧ tt env1 st = .ok (q a) st ∧ (q a = true → fe env1 st = .ok (.v (F a)) st)), compL gd t tt fe env (l.map enc) st = .ok ((l.filter q).map F) st
  | [], _, _ => rfl
  | d :: ds, hg, h => by
    obtain ⟨env1, h1, h2, h3⟩ := h d (List.mem_cons_self ..)
    have ih := comp_filterA (l := ds) hg fun d hd => h d (List.mem_cons_of_mem _ hd)
    cases hp : q d with
    | false => simp only [compL, List.map_cons, h1, h2, R.bindN, hp, Bool.false_eq_true, if_false, if_pos hg, ih, List.filter_cons]
    | true => simp only [compL, List.map_cons, h1, h2, R.bindN, hp, if_true, h3 hp, mat_v, R.bind_ok, if_pos hg, ih, List.filter_cons]
@[simp] theorem dEq_bl (a b : Bool) (st : Store) : dEq (.v (.bl a)) (.v (.bl b)) st = some (.v (.bl (a == b))) := .trans rfl rfl
@[simp] theorem dNe_bl (a b : Bool) (st : Store) : dNe (.v (.bl a)) (.v (.bl b)) st = some (.v (.bl (!(a == b)))) := .trans rfl rfl
end Ev

/-! ## Ev24 -/
set_option Elab.async false
set_option linter.all false
set_option maxRecDepth 100000
namespace Ev
open PySem
theorem oks_map {α : Type} {k : Nat} {f : α → D} {l : List α} (h : ∀ a ∈ l, D.ok k (f a) = true) : D.oks k (l.map f) = true := by
  rw [oks_iff]
  intro d hd
  obtain ⟨a, ha, rfl⟩ := List.mem_map.mp hd
  exact h a ha
@[simp] theorem oks_int (k : Nat) (l : List Int) : D.oks k (l.map D.int) = true := oks_map fun _ _ => rfl
@[simp] theorem loop_nx (e : SEnv) (s : Store) (k : SEnv → Store → SR) : (SR.nx e s).loop k = k e s := .trans rfl rfl
@[simp] theorem loop_ct (e : SEnv) (s : Store) (k : SEnv → Store → SR) : (SR.ct e s).loop k = k e s := .trans rfl rfl
theorem hide {α : Sort _} {P : Prop} (a : α) (h : ∀ x : α, x = a → P) : P := h a rfl
abbrev LI := List D → SEnv → Store → Prop
abbrev WI := Nat → SEnv → Store → Prop
theorem wp_forS {gd : Store → Prop} {t : Tg} {f : SS} {k : SEnv → Store → SR} {Q : RV → Store → Prop} {ds : List D} {env : SEnv} {st : Store} (I : List D → SEnv → Store → Prop) (h0 : I ds env st)
    (step : ∀ (d : D) (ds : List D) (env : SEnv) (st : Store), I (d :: ds) env st → ∃ env1, t.put d env = some env1 ∧ WpS (f env1 st) ⟨fun e s => gd s ∧ I ds e s, fun _ _ => False, fun e s => gd s ∧ I ds e s, fun _ _ => False⟩)
    (fin : ∀ (env : SEnv) (st : Store), I [] env st → WpR (k env st) Q) : WpR ((forL gd t f ds env st).seq k) Q := by
  rw [WpR_seq]
  refine wp_forL I h0 (fun d ds e s i => ?_) fin
  obtain ⟨e1, h1, h2⟩ := step d ds e s i
  exact ⟨e1, h1, h2.mono (fun _ _ q => q) (fun _ _ q => q.elim) (fun _ _ q => q) fun _ _ q => q.elim⟩
theorem wp_whileS {g : SEnv → Store → R Bool} {f : SS} {k : SEnv → Store → SR} {Q : RV → Store → Prop} (I : Nat → SEnv → Store → Prop) {m : Nat} {env : SEnv} {st : Store} (hm : m < fuel) (h0 : I m env st)
    (step : ∀ (m : Nat) (env : SEnv) (st : Store), I m env st → Wp (g env st) fun c st1 => if c = true then WpS (f env st1) ⟨fun e s => ∃ m', m' < m ∧ I m' e s, fun _ _ => False, fun e s => ∃ m', m' < m ∧ I m' e s, fun _ _ => False⟩ else WpR (k env st1) Q) : WpR ((sWhile g f env st).seq k) Q := by
  rw [WpR_seq]
  refine wp_while I hm h0 fun m e s i => (step m e s i).mono fun c s1 q => ?_
  cases c with
  | false => simpa using q
  | true =>
    simp only [if_true] at q ⊢
    exact q.mono (fun _ _ q => q) (fun _ _ q => q.elim) (fun _ _ q => q) fun _ _ q => q.elim
end Ev

/-! ## Ev25 -/
set_option Elab.async false
set_option linter.all false
set_option maxRecDepth 100000
namespace Ev
open PySem
abbrev Hk := Int × Int × D
def hk (h : Hk) : D := .tup [.int h.1, .int h.2.1, h.2.2]
@[simp] theorem hk_0 (h : Hk) (st : Store) : dIx (.v (hk h)) (.v (.int 0)) st = some (.v (.int h.1)) := .trans rfl rfl
@[simp] theorem hk_1 (h : Hk) (st : Store) : dIx (.v (hk h)) (.v (.int 1)) st = some (.v (.int h.2.1)) := .trans rfl rfl
@[simp] theorem hk_2 (h : Hk) (st : Store) : dIx (.v (hk h)) (.v (.int 2)) st = some (.v h.2.2) := .trans rfl rfl
@[simp] theorem hk_put (h : Hk) (a b c : Nat) (e : SEnv) : (Tg.many [a, b, c]).put (hk h) e = some (((e.set a (some (.int h.1))).set b (some (.int h.2.1))).set c (some h.2.2)) := .trans rfl rfl
def gl : D → Nat
  | .tup l => l.length
  | .str s => s.length
  | _ => 0
def sq (d : D) : Prop := (∃ l, d = .tup l ∧ D.pures l = true ∧ l.length ≤ sLine) ∨ ∃ s, d = .str s ∧ s.length ≤ sLine
abbrev HW := Int × Int × List Nat
abbrev HX := Int × Int × List Ch
def hx (h : HX) : Hk := (h.1, h.2.1, txD h.2.2)
def hw (h : HW) : Hk := (h.1, h.2.1, .str h.2.2)
def tw (h : HW) : D := hk (hw h)
def tx (h : HX) : D := hk (hx h)
def en (h : Hk) : Int := h.1 + h.2.1
def dlt (h : Hk) : Int := (gl h.2.2 : Int) - h.2.1
def shI (x : Int) (l : List Hk) : Int := ((l.filter fun h => decide (en h < x)).map dlt).sum
def rebI (a b : List Hk) : List Hk := a.map fun h => (h.1 + shI h.1 b, h.2)
theorem shI_cons (x : Int) (h : Hk) (l : List Hk) : shI x (h :: l) = (if en h < x then dlt h else 0) + shI x l := by
  unfold shI
  rw [List.filter_cons]
  by_cases q : en h < x
  · simp [q]
  · simp [q]
@[simp] theorem rebI_len (a b : List Hk) : (rebI a b).length = a.length := by simp [rebI]
def sepH (g h : Hk) : Prop := en g < h.1 ∨ en h < g.1
def ascH (l : List Hk) : Prop := l.Pairwise fun g h => en g < h.1
def posH (l : List Hk) : Prop := ∀ h ∈ l, 0 ≤ h.2.1
theorem gap : ∀ {M : List Hk} {lo hi : Int}, ascH M → posH M → lo < hi → (∀ o ∈ M, lo < o.1) → lo + 1 - hi ≤ shI hi M
  | [], lo, hi, _, _, h, _ => by simp [shI]; omega
  | o :: M, lo, hi, ha, hp, h, hlo => by
    rw [shI_cons]
    have ho := hlo o (List.mem_cons_self ..)
    have hr := hp o (List.mem_cons_self ..)
    have ha' := List.pairwise_cons.mp ha
    by_cases q : en o < hi
    · have ih := gap (M := M) (lo := en o) (hi := hi) ha'.2 (fun x hx => hp x (List.mem_cons_of_mem _ hx)) q ha'.1
      simp only [q, if_true, dlt]
      unfold en at *
      omega
    · have ih := gap (M := M) (lo := lo) (hi := hi) ha'.2 (fun x hx => hp x (List.mem_cons_of_mem _ hx)) h fun x hx => hlo x (List.mem_cons_of_mem _ hx)
      simp only [q, if_false]
      omega
theorem shI_split {g : Hk} {hi : Int} (hg : 0 ≤ g.2.1) (h : en g < hi) : ∀ {M : List Hk}, posH M → (∀ o ∈ M, sepH g o) → shI hi M = shI g.1 M + shI hi (M.filter fun o => decide (en g < o.1))
  | [], _, _ => by simp [shI]
  | o :: M, hp, hs => by
    have ih := shI_split (M := M) hg h (fun x hx => hp x (List.mem_cons_of_mem _ hx)) fun x hx => hs x (List.mem_cons_of_mem _ hx)
    have ho := hp o (List.mem_cons_self ..)
    rw [shI_cons, shI_cons, ih]
    rcases hs o (List.mem_cons_self ..) with q | q
    · have f : (o :: M).filter (fun o => decide (en g < o.1)) = o :: M.filter fun o => decide (en g < o.1) := List.filter_cons_of_pos (by simpa using q)
      rw [f, shI_cons, show (if en o < g.1 then dlt o else 0) = 0 from if_neg (by unfold en at q ⊢; omega)]
      omega
    · have f : (o :: M).filter (fun o => decide (en g < o.1)) = M.filter fun o => decide (en g < o.1) := List.filter_cons_of_neg (by simp; unfold en at q ⊢; omega)
      rw [f, if_pos (show en o < g.1 from q), if_pos (show en o < hi by unfold en at q h ⊢; omega)]
      omega
theorem mono {g h : Hk} {M : List Hk} (hg : 0 ≤ g.2.1) (hh : en g < h.1) (ha : ascH M) (hp : posH M) (hs : ∀ o ∈ M, sepH g o) : en g + shI g.1 M < h.1 + shI h.1 M := by
  have e := shI_split hg hh hp hs
  have k := gap (M := M.filter fun o => decide (en g < o.1)) (lo := en g) (hi := h.1) (ha.sublist (List.filter_sublist)) (fun x hx => hp x (List.mem_filter.mp hx).1) hh fun o ho => by simpa using (List.mem_filter.mp ho).2
  omega
structure Apart (a b : List Hk) : Prop where
  sep : ∀ g ∈ a, ∀ h ∈ b, sepH g h
theorem Apart.symm {a b : List Hk} (h : Apart a b) : Apart b a := ⟨fun g hg k hk => (h.sep k hk g hg).symm⟩
end Ev

/-! ## Ev26 -/
set_option Elab.async false
set_option linter.all false
set_option maxRecDepth 100000
namespace Ev
open PySem
def wr (h : HX) : HW := (h.1, h.2.1, h.2.2.map (·.1))
structure Deal {α : Type} (l a b c : List α) : Prop where
  sa : a.Sublist l
  sb : b.Sublist l
  sc : c.Sublist l
  cross : ∀ R : α → α → Prop, l.Pairwise R → (∀ x ∈ a, ∀ y ∈ b, R x y ∨ R y x) ∧ (∀ x ∈ a, ∀ y ∈ c, R x y ∨ R y x) ∧ ∀ x ∈ b, ∀ y ∈ c, R x y ∨ R y x
theorem Deal.nil {α : Type} : Deal ([] : List α) [] [] [] := ⟨.slnil, .slnil, .slnil, fun _ _ => ⟨by simp, by simp, by simp⟩⟩
theorem Deal.one {α : Type} {l a b c : List α} (h : Deal l a b c) (x : α) : Deal (l ++ [x]) (a ++ [x]) b c ∧ Deal (l ++ [x]) a (b ++ [x]) c ∧ Deal (l ++ [x]) a b (c ++ [x]) := by
  have kp : ∀ {m : List α}, m.Sublist l → m.Sublist (l ++ [x]) := fun h => h.trans (List.sublist_append_left _ _)
  have ex : ∀ {m : List α}, m.Sublist l → (m ++ [x]).Sublist (l ++ [x]) := fun h => h.append_right _
  have new : ∀ {R : α → α → Prop} {m : List α}, (l ++ [x]).Pairwise R → m.Sublist l → ∀ y ∈ m, R y x := fun hR hm y hy => (List.pairwise_append.mp hR).2.2 y (hm.subset hy) x (by simp)
  have old : ∀ {R : α → α → Prop}, (l ++ [x]).Pairwise R → l.Pairwise R := fun hR => (List.pairwise_append.mp hR).1
  refine ⟨⟨ex h.sa, kp h.sb, kp h.sc, fun R hR => ?_⟩, ⟨kp h.sa, ex h.sb, kp h.sc, fun R hR => ?_⟩, ⟨kp h.sa, kp h.sb, ex h.sc, fun R hR => ?_⟩⟩
  · obtain ⟨c1, c2, c3⟩ := h.cross R (old hR)
    refine ⟨fun u hu y hy => ?_, fun u hu y hy => ?_, c3⟩
    · rcases List.mem_append.mp hu with hu | hu
      · exact c1 u hu y hy
      · simp at hu; subst hu; exact .inr (new hR h.sb y hy)
    · rcases List.mem_append.mp hu with hu | hu
      · exact c2 u hu y hy
      · simp at hu; subst hu; exact .inr (new hR h.sc y hy)
  · obtain ⟨c1, c2, c3⟩ := h.cross R (old hR)
    refine ⟨fun u hu y hy => ?_, c2, fun u hu y hy => ?_⟩
    · rcases List.mem_append.mp hy with hy | hy
      · exact c1 u hu y hy
      · simp at hy; subst hy; exact .inl (new hR h.sa u hu)
    · rcases List.mem_append.mp hu with hu | hu
      · exact c3 u hu y hy
      · simp at hu; subst hu; exact .inr (new hR h.sc y hy)
  · obtain ⟨c1, c2, c3⟩ := h.cross R (old hR)
    refine ⟨c1, fun u hu y hy => ?_, fun u hu y hy => ?_⟩
    · rcases List.mem_append.mp hy with hy | hy
      · exact c2 u hu y hy
      · simp at hy; subst hy; exact .inl (new hR h.sa u hu)
    · rcases List.mem_append.mp hy with hy | hy
      · exact c3 u hu y hy
      · simp at hy; subst hy; exact .inl (new hR h.sb u hu)
end Ev

/-! ## Ev27 -/
set_option Elab.async false
set_option linter.all false
set_option maxRecDepth 100000
namespace Ev
open PySem
def chOk (c : Ch) : Prop := c.1 < 0x110000 ∧ c.2.1.natAbs < 10 ^ 12 ∧ c.2.2.natAbs < 10 ^ 12
structure GoodX (n : Int) (l : List HX) : Prop where
  len : l.length ≤ 6
  each : ∀ h ∈ l, 0 ≤ h.1 ∧ 0 ≤ h.2.1 ∧ h.1 + h.2.1 ≤ n ∧ h.2.2.length ≤ 3 ∧ (0 < h.2.1 ∨ 0 < h.2.2.length) ∧ ∀ c ∈ h.2.2, chOk c
  asc : l.Pairwise fun g h => g.1 + g.2.1 < h.1
  sml : ∀ h ∈ l, h.2.1 ≤ 3
theorem GoodX.sub {n : Int} {l m : List HX} (G : GoodX n l) (h : m.Sublist l) : GoodX n m :=
  ⟨Nat.le_trans h.length_le G.len, fun x hx => G.each x (h.subset hx), G.asc.sublist h, fun x hx => G.sml x (h.subset hx)⟩
end Ev

/-! ## Ev28 -/
set_option Elab.async false
set_option linter.all false
set_option maxRecDepth 100000
namespace Ev
open PySem
noncomputable def d_l_pattern : SS :=
  (sSeq (sSet 2 (eCall c_l_draw [] (aCons (eVar 0) (aCons (eC (.int 8)) aNil))))
  (sSeq (sSet 3 (eCall c_l_draw [] (aCons (eVar 0) (aCons (e2 dAdd (eN (g1 dLen) (bCons (eVar 1) bNil)) (eC (.int 1))) aNil))))
  (sSeq (sIf (eBool (e2 dEq (eVar 2) (eC (.int 0)))) (
    (sSeq (sRet (eVar 1)) sNil)) sNil)
  (sSeq (sIf (eBool (e2 dEq (eVar 2) (eC (.int 1)))) (
    (sSeq (sRet (e2 dIx (eLst (aCons (eC (.str [42])) (aCons (eC (.str [42, 42])) (aCons (eC (.str [42, 42, 42])) (aCons (eC (.str [42, 58, 42])) (aCons (eC (.str [42, 42, 47, 42, 42])) (aCons (eC (.str [42, 58])) aNil))))))) (eCall c_l_draw [] (aCons (eVar 0) (aCons (eC (.int 6)) aNil))))) sNil)) sNil)
  (sSeq (sIf (eBool (e2 dLt (eVar 2) (eC (.int 5)))) (
    (sSeq (sRet (e2 dAdd (eSl (eVar 1) none (some (eVar 3))) (e2 dIx (eLst (aCons (eC (.str [42])) (aCons (eC (.str [42, 42])) aNil))) (eCall c_l_draw [] (aCons (eVar 0) (aCons (eC (.int 2)) aNil)))))) sNil)) sNil)
  (sSeq (sIf (eBool (e2 dEq (eVar 2) (eC (.int 5)))) (
    (sSeq (sRet (e2 dAdd (eC (.str [42, 42])) (eSl (eVar 1) (some (eVar 3)) none))) sNil)) sNil)
  (sSeq (sSet 4 (e2 dAdd (eVar 3) (eCall c_l_draw [] (aCons (eVar 0) (aCons (e2 dAdd (e2 dSub (eN (g1 dLen) (bCons (eVar 1) bNil)) (eVar 3)) (eC (.int 1))) aNil)))))
  (sSeq (sRet (e2 dAdd (e2 dAdd (eSl (eVar 1) none (some (eVar 3))) (e2 dIx (eLst (aCons (eC (.str [42])) (aCons (eC (.str [42, 42])) (aCons (eC (.str [42, 97])) (aCons (eC (.str [45])) aNil))))) (eCall c_l_draw [] (aCons (eVar 0) (aCons (eC (.int 4)) aNil))))) (eSl (eVar 1) (some (eVar 4)) none))) sNil))))))))
noncomputable def c_l_pattern : List D → Store → R RV := callB 5 d_l_pattern
noncomputable def d_l_keys : SS :=
  (sSeq (sSet 2 (eLst (aCons (eC (.str [111, 119, 110, 101, 114, 115, 58])) aNil)))
  (sSeq (sFor (wVal (eVar 1)) (.one 3) (
    (sSeq (sExpr (eMtL gAppend (eVar 2) (aCons (e2 dAdd (e2 dIx (eLst (aCons (eC (.str [102, 105, 108, 101, 58])) (aCons (eC (.str [114, 117, 108, 101, 58])) (aCons (eC (.str [116, 101, 115, 116, 58])) (aCons (eC (.str [112, 97, 103, 101, 58])) aNil))))) (eCall c_l_draw [] (aCons (eVar 0) (aCons (eC (.int 4)) aNil)))) (eVar 3)) aNil))) sNil)))
  (sSeq (sRet (eVar 2)) sNil)))
noncomputable def c_l_keys : List D → Store → R RV := callB 4 d_l_keys
@[simp] theorem dIsN_non (st : Store) : dIsN (.v .non) (.v .non) st = some (.v (.bl true)) := .trans rfl rfl
@[simp] theorem dIsN_int (i : Int) (st : Store) : dIsN (.v (.int i)) (.v .non) st = some (.v (.bl false)) := .trans rfl rfl
@[simp] theorem dIsN_str (i : List Nat) (st : Store) : dIsN (.v (.str i)) (.v .non) st = some (.v (.bl false)) := .trans rfl rfl
@[simp] theorem dIsN_tup (i : List D) (st : Store) : dIsN (.v (.tup i)) (.v .non) st = some (.v (.bl false)) := .trans rfl rfl
@[simp] theorem dNotN_non (st : Store) : dNotN (.v .non) (.v .non) st = some (.v (.bl false)) := .trans rfl rfl
@[simp] theorem dNotN_int (i : Int) (st : Store) : dNotN (.v (.int i)) (.v .non) st = some (.v (.bl true)) := .trans rfl rfl
@[simp] theorem dNotN_str (i : List Nat) (st : Store) : dNotN (.v (.str i)) (.v .non) st = some (.v (.bl true)) := .trans rfl rfl
@[simp] theorem dNotN_tup (i : List D) (st : Store) : dNotN (.v (.tup i)) (.v .non) st = some (.v (.bl true)) := .trans rfl rfl
@[simp] theorem dIsN_bl (i j : Bool) (st : Store) : dIsN (.v (.bl i)) (.v (.bl j)) st = some (.v (.bl (decide (i = j)))) := .trans rfl rfl
@[simp] theorem dIsN_bln (i : Bool) (st : Store) : dIsN (.v (.bl i)) (.v .non) st = some (.v (.bl false)) := .trans rfl rfl
def decN (q : Nat → Bool) : Nat → D
  | 0 => .non
  | n + 1 => if q n then .int n else decN q n
def mq (ps : List (List Nat)) (s : List Nat) (k : Nat) : Bool := matchB (ps.getD k []) s
abbrev Ru := List Nat × List (List Nat)
def ruD (r : Ru) : D := .tup [.str r.1, .tup (r.2.map .str)]
@[simp] theorem ruD_0 (r : Ru) (st : Store) : dIx (.v (ruD r)) (.v (.int 0)) st = some (.v (.str r.1)) := .trans rfl rfl
@[simp] theorem ruD_1 (r : Ru) (st : Store) : dIx (.v (ruD r)) (.v (.int 1)) st = some (.v (.tup (r.2.map .str))) := .trans rfl rfl
def ownL (rs : List Ru) (key : List Nat) : List (List Nat) := rs.foldl (fun acc r => if matchB r.1 key then r.2 else acc) []
theorem own_take {rs : List Ru} {key : List Nat} : ∀ n, n ≤ rs.length → (decN (mq (rs.map (·.1)) key) n = .non ∧ ownL (rs.take n) key = []) ∨ ∃ (k : Nat) (r : Ru), k < n ∧ rs[k]? = some r ∧ decN (mq (rs.map (·.1)) key) n = .int k ∧ ownL (rs.take n) key = r.2
  | 0, _ => .inl ⟨rfl, rfl⟩
  | n + 1, h => by
    have hn : n < rs.length := by omega
    have e : rs.take (n + 1) = rs.take n ++ [rs[n]] := by rw [List.take_succ, List.getElem?_eq_getElem hn]; rfl
    have hq : mq (rs.map (·.1)) key n = matchB rs[n].1 key := by simp [mq, hn]
    have ow : ownL (rs.take (n + 1)) key = if matchB rs[n].1 key then rs[n].2 else ownL (rs.take n) key := by
      unfold ownL
      rw [e, List.foldl_append]; rfl
    simp only [decN, hq, ow]
    cases hb : matchB rs[n].1 key with
    | true => exact .inr ⟨n, rs[n], by omega, List.getElem?_eq_getElem hn, by simp, by simp⟩
    | false =>
      simp only [Bool.false_eq_true, if_false]
      rcases own_take (rs := rs) (key := key) n (by omega) with h | ⟨k, r, h1, h2⟩
      · exact .inl h
      · exact .inr ⟨k, r, by omega, h2⟩
structure okR (rs : List Ru) : Prop where
  len : rs.length ≤ 100
  each : ∀ r ∈ rs, r.1.length ≤ 900 ∧ cpsOk r.1 = true ∧ r.2.length ≤ 100 ∧ ∀ x ∈ r.2, x.length ≤ 900 ∧ cpsOk x = true
theorem okR.own {rs : List Ru} (h : okR rs) (key : List Nat) : (ownL rs key).length ≤ 100 ∧ ∀ x ∈ ownL rs key, x.length ≤ 900 ∧ cpsOk x = true := by
  have := own_take (rs := rs) (key := key) rs.length (Nat.le_refl _)
  rw [List.take_length] at this
  rcases this with ⟨_, h2⟩ | ⟨k, r, _, h1, _, h2⟩
  · rw [h2]; simp
  · rw [h2]
    have := h.each r (List.mem_of_getElem? h1)
    exact ⟨this.2.2.1, this.2.2.2⟩
theorem strs_pure (ps : List (List Nat)) : D.pures (ps.map D.str) = true := pures_str ps
end Ev

/-! ## Ev29 -/
set_option Elab.async false
set_option linter.all false
set_option maxRecDepth 100000
namespace Ev
open PySem
theorem cpsOk_app {s t : List Nat} (h1 : cpsOk s = true) (h2 : cpsOk t = true) : cpsOk (s ++ t) = true := by
  simp only [cpsOk, List.all_append, Bool.and_eq_true] at h1 h2 ⊢
  exact ⟨h1, h2⟩
theorem keys_at (T : Tp) (rest : Store) {names : List (List Nat)} {i : Nat} (hi : rest[i]? = some (.lst (names.map .str))) (hl : names.length ≤ 100) (cn : ∀ x ∈ names, x.length ≤ 100 ∧ cpsOk x = true) :
    ∃ (ks : List (List Nat)) (T' : Tp), c_l_keys [.ref 1, .ref (i + 2)] (mk T rest) = .ok (.t (ks.map .str)) (mk T' rest) ∧ ks ≠ [] ∧ ks.length ≤ 101 ∧ (∀ x ∈ ks, x ≠ [] ∧ x.length ≤ 110 ∧ cpsOk x = true) ∧ T'.xs = T.xs := by
  have hsl : sLine = 16777216 := rfl
  have hil : i < rest.length := (List.getElem?_eq_some_iff.mp hi).1
  have fI : ∀ X, (rest ++ X)[i]? = some (.lst (names.map .str)) := fun X => by rw [List.getElem?_append_left hil]; exact hi
  have main : Wp (c_l_keys [.ref 1, .ref (i + 2)] (mk T rest)) fun a w => ∃ (ks : List (List Nat)) (T' : Tp), a = .t (ks.map .str) ∧ w = mk T' rest ∧ ks ≠ [] ∧ ks.length ≤ 101 ∧ (∀ x ∈ ks, x ≠ [] ∧ x.length ≤ 110 ∧ cpsOk x = true) ∧ T'.xs = T.xs := by
    refine wpc ?_
    have key : ∀ (ks : List (List Nat)) (T' : Tp), ks ≠ [] → ks.length ≤ 101 → (∀ x ∈ ks, x ≠ [] ∧ x.length ≤ 110 ∧ cpsOk x = true) → T'.xs = T.xs → Lv (mk T rest) (fun a w => ∃ (ks : List (List Nat)) (T' : Tp), a = .t (ks.map .str) ∧ w = mk T' rest ∧ ks ≠ [] ∧ ks.length ≤ 101 ∧ (∀ x ∈ ks, x ≠ [] ∧ x.length ≤ 110 ∧ cpsOk x = true) ∧ T'.xs = T.xs) (.v (.ref (rest.length + 2))) (mk T' (rest ++ [.lst (ks.map .str)])) :=
      fun ks T' a1 a2 a3 a4 => Lv.outR a4.symm (pures_str _) ⟨ks, T', rfl, rfl, a1, a2, a3, a4⟩
    generalize Lv (mk T rest) _ = Q at key ⊢
    unfold d_l_keys
    simp [show 1 ≤ sLine by decide, fI]
    refine hide (α := LI) (fun ds e w => ∃ (ks d r : List (List Nat)) (T' : Tp) (x3 : Option D), names = d ++ r ∧ ds = r.map .str ∧ ks.length = d.length + 1 ∧ (∀ x ∈ ks, x ≠ [] ∧ x.length ≤ 110 ∧ cpsOk x = true) ∧ T'.xs = T.xs ∧ e = [some (.ref 1), some (.ref (i + 2)), some (.ref (rest.length + 2)), x3] ∧ w = mk T' (rest ++ [.lst (ks.map .str)])) fun I hI => ?_
    refine wp_forS I (by
      rw [hI]
      refine ⟨[[111, 119, 110, 101, 114, 115, 58]], [], names, T, none, rfl, rfl, rfl, ?_, rfl, rfl, rfl⟩
      intro x hx
      simp at hx; subst hx
      exact ⟨by simp, by decide, by decide⟩) ?_ ?_
    · intro d ds e w h
      rw [hI] at h
      obtain ⟨ks, dn, r, T', x3, hd, h1, hk, hks, hx, rfl, rfl⟩ := h
      cases r with
      | nil => cases h1
      | cons nm r =>
        cases h1
        refine ⟨_, rfl, ?_⟩
        have hnm := cn nm (by rw [hd]; simp)
        have hdl : dn.length < names.length := by rw [hd]; simp
        have hm := pk_mem (l := [[102, 105, 108, 101, 58], [114, 117, 108, 101, 58], [116, 101, 115, 116, 58], ([112, 97, 103, 101, 58] : List Nat)]) (T := T') (by simp)
        have em : L2.atI [D.str [102, 105, 108, 101, 58], D.str [114, 117, 108, 101, 58], D.str [116, 101, 115, 116, 58], D.str [112, 97, 103, 101, 58]] (dr T' 4) = some (.str (pk [[102, 105, 108, 101, 58], [114, 117, 108, 101, 58], [116, 101, 115, 116, 58], ([112, 97, 103, 101, 58] : List Nat)] T')) := pk_map (f := D.str) (l := [[102, 105, 108, 101, 58], [114, 117, 108, 101, 58], [116, 101, 115, 116, 58], ([112, 97, 103, 101, 58] : List Nat)]) rfl (by simp)
        generalize pk [[102, 105, 108, 101, 58], [114, 117, 108, 101, 58], [116, 101, 115, 116, 58], ([112, 97, 103, 101, 58] : List Nat)] T' = m at hm em
        have hm' : m ≠ [] ∧ m.length ≤ 5 ∧ cpsOk m = true := by
          simp at hm
          rcases hm with rfl | rfl | rfl | rfl <;> exact ⟨by simp, by decide, by decide⟩
        simp [draw_at, em, fI, show 4 ≤ sLine by decide, show m.length + nm.length ≤ sLine by omega, show ks.length < sLine by omega]
        rw [hI]
        refine ⟨ks ++ [m ++ nm], dn ++ [nm], r, nx T' 4, _, by rw [hd]; simp, rfl, by simp; omega, ?_, by rw [nx_xs, hx], rfl, by simp⟩
        intro x hx'
        rcases List.mem_append.mp hx' with h | h
        · exact hks x h
        · simp at h; subst h; exact ⟨by simp [hm'.1], by simp; omega, cpsOk_app hm'.2.2 hnm.2⟩
    · intro e w h
      rw [hI] at h
      obtain ⟨ks, dn, r, T', x3, hd, h1, hk, hks, hx, rfl, rfl⟩ := h
      have : r = [] := by cases r with
        | nil => rfl
        | cons _ _ => cases h1
      subst this
      have : dn = names := by simpa using hd.symm
      subst this
      simp
      exact key ks T' (fun z => by rw [z] at hk; simp at hk) (by omega) hks hx
  obtain ⟨a, w, e, ks, T', rfl, rfl, h⟩ := main.out
  exact ⟨ks, T', e, h⟩
end Ev

/-! ## Ev30 -/
set_option Elab.async false
set_option linter.all false
set_option maxRecDepth 100000
namespace Ev
open PySem
@[simp] theorem dAdd_tref (s : List D) (n : Nat) (st : Store) : dAdd (.t s) (.v (.ref n)) st = match lstM st (.v (.ref n)) with
    | some t => if s.length + t.length ≤ sLine then some (.t (s ++ t)) else none
    | none => none := by
  cases h : lstM st (.v (.ref n)) with
  | none => simp [dAdd, h]
  | some t => simp [dAdd, h]
end Ev

/-! ## Ev31 -/
set_option Elab.async false
set_option linter.all false
set_option maxRecDepth 100000
namespace Ev
open PySem
noncomputable def d_common_length : SS :=
  (sSeq (sSet 2 (eC (.int 0)))
  (sSeq (sWhile (tAndB (eBool (e2 dLt (eVar 2) (eN (g1 dLen) (bCons (eVar 0) bNil)))) (tAndB (eBool (e2 dLt (eVar 2) (eN (g1 dLen) (bCons (eVar 1) bNil)))) (eBool (e2 dEq (e2 dIx (eVar 0) (eVar 2)) (e2 dIx (eVar 1) (eVar 2)))))) (
    (sSeq (sSet 2 (e2 dAdd (eVar 2) (eC (.int 1)))) sNil)))
  (sSeq (sRet (eVar 2)) sNil)))
noncomputable def c_common_length : List D → Store → R RV := callB 3 d_common_length
def comLen : List Ch → List Ch → Nat
  | a :: x, b :: y => if a = b then comLen x y + 1 else 0
  | _, _ => 0
theorem comLen_step {a b : List Ch} {j : Nat} (ha : j < a.length) (hb : j < b.length) : comLen (a.drop j) (b.drop j) = if a[j] = b[j] then comLen (a.drop (j + 1)) (b.drop (j + 1)) + 1 else 0 := by
  rw [List.drop_eq_getElem_cons ha, List.drop_eq_getElem_cons hb]; rfl
inductive Op where
  | ins (c : Ch) | cp (i l : Nat)
def piece (old : List Ch) : Op → List Ch
  | .ins c => [c]
  | .cp i l => (old.drop i).take l
def Op.size : Op → Nat
  | .ins _ => 1
  | .cp _ l => l
theorem chD_inj {a b : Ch} (h : chD a = chD b) : a = b := by
  simp only [chD, D.tup.injEq, List.cons.injEq, D.str.injEq, D.int.injEq, and_true] at h
  exact Prod.ext h.1 (Prod.ext h.2.1 h.2.2)
theorem chD_ok {c : Ch} (k : Nat) (h : c.1 < 0x110000) : D.ok (k + 1) (chD c) = true := by
  simp [chD, D.ok, D.oks, cpsOk, h]
theorem chD_eq {a b : Ch} {st : Store} (ha : a.1 < 0x110000) (hb : b.1 < 0x110000) : dEq (.v (chD a)) (.v (chD b)) st = some (.v (.bl (decide (a = b)))) := by
  rw [dEq_plain (chD_ok 63 ha) (chD_ok 63 hb)]
  congr 3
  by_cases h : a = b
  · subst h; simp
  · have : chD a ≠ chD b := fun z => h (chD_inj z)
    simp [h, this]
abbrev sOk (l : List Ch) : Prop := ∀ c ∈ l, c.1 < 0x110000
theorem common_ok {a b : List Ch} {st : Store} (ha : sOk a) (hb : sOk b) (la : a.length ≤ 10000) : c_common_length [txD a, txD b] st = .ok (.v (.int (comLen a b : Nat))) st := by
  refine call_pure ?_ rfl
  refine hide (fun (r : RV) (st' : Store) => r = RV.v (.int (comLen a b : Nat)) ∧ ∃ more, st' = st ++ more) fun Q hQ => ?_
  rw [← hQ]
  have fin : ∀ n : Nat, comLen a b = n → Q (.v (.int (n : Int))) st := by intro n hn; rw [hQ, hn]; exact ⟨rfl, [], by simp⟩
  unfold d_common_length
  simp [txD]
  refine hide (α := WI) (fun n e w => ∃ j : Nat, j + n = a.length ∧ comLen a b = j + comLen (a.drop j) (b.drop j) ∧ e = [some (.tup (a.map chD)), some (.tup (b.map chD)), some (.int j)] ∧ w = st) fun I hI => ?_
  refine wp_whileS I (m := a.length) (by unfold fuel; omega) (by rw [hI]; exact ⟨0, by omega, by simp, rfl, rfl⟩) ?_
  intro n e w h
  rw [hI] at h
  obtain ⟨j, hj, hc, rfl, rfl⟩ := h
  by_cases h1 : j < a.length
  · by_cases h2 : j < b.length
    · have ea : L2.atI (a.map chD) (j : Int) = some (chD a[j]) := by rw [atI_lit, List.getElem?_map, List.getElem?_eq_getElem h1]; rfl
      have eb : L2.atI (b.map chD) (j : Int) = some (chD b[j]) := by rw [atI_lit, List.getElem?_map, List.getElem?_eq_getElem h2]; rfl
      have eq := fun st => chD_eq (st := st) (ha _ (List.getElem_mem h1)) (hb _ (List.getElem_mem h2))
      rw [comLen_step h1 h2] at hc
      by_cases h3 : a[j] = b[j]
      · rw [if_pos h3] at hc
        have eq' : ∀ st, dEq (.v (chD a[j])) (.v (chD b[j])) st = some (.v (.bl true)) := fun st => by rw [eq]; simp [h3]
        simp [h1, h2, ea, eb, eq']
        refine ⟨n - 1, by omega, ?_⟩
        rw [hI]
        exact ⟨j + 1, by omega, by omega, by simp, rfl⟩
      · rw [if_neg h3] at hc
        have eq' : ∀ st, dEq (.v (chD a[j])) (.v (chD b[j])) st = some (.v (.bl false)) := fun st => by rw [eq]; simp [h3]
        simp [h1, h2, ea, eb, eq']
        exact fin j (by omega)
    · rw [show b.drop j = [] from List.drop_eq_nil_of_le (by omega)] at hc
      have : comLen (a.drop j) [] = 0 := by cases a.drop j <;> rfl
      simp [h1, h2]
      exact fin j (by omega)
  · rw [show a.drop j = [] from List.drop_eq_nil_of_le (by omega)] at hc
    simp [h1]
    exact fin j (by simpa [comLen] using hc)
theorem sOk.drop {l : List Ch} (h : sOk l) (k : Nat) : sOk (l.drop k) := fun c hc => h c (List.mem_of_mem_drop hc)
end Ev

/-! ## Ev32 -/
set_option Elab.async false
set_option linter.all false
set_option maxRecDepth 100000
namespace Ev
open PySem PySem.Spec PyProof.Rows L2
structure FunV (K : PySem.W.Frag) (x qual : Str) (st : Stmt) (dV : Value) (f : Addr) (fd : FuncData) : Prop where
  ex : ∃ (oc : Value) (od : Option Addr) (kV doc pm : Value) (an : Option Addr) (cdv ct : Value) (osl : Array (Option Value)),
    fd = PySem.W.fnOf x qual (defArgs st) (defBody st) (defScope st) dV kV doc pm an cdv ct ∧ K.lookup f = some ⟨oc, od, .func fd, osl⟩ ∧ PySem.W.codeIn K cdv qual = true
  kp : PySem.W.keepIn K (.ref f) = true
theorem FunV.binds {K : PySem.W.Frag} {x qual : Str} {st : Stmt} {T : Addr} {f : Addr} {fd : FuncData} {ps : List Str} {o : Obj} {its : List Value} {m : Nat} (F : FunV K x qual st (.ref T) f fd) (lT : K.lookup T = some o) (oT : o.data = .seq its.toArray m) (n j : Nat) (hn : n + (its.length - j) = ps.length)
    (h : ∀ (kV doc pm : Value) (an : Option Addr) (cdv ct : Value) (us : List Value), us.length = n →
      ∃ k, bindArgs (PySem.W.fnOf x qual (defArgs st) (defBody st) (defScope st) (.ref T) kV doc pm an cdv ct) ⟨us, []⟩ = seqItems? (.ref T) >>= k ∧ k (some its.toArray) = pure (ps.zip (us ++ its.drop j))) : Binds K fd ps (its.drop j) := by
  obtain ⟨oc, od, kV, doc, pm, an, cdv, ct, osl, rfl, lk, hcd⟩ := F.ex
  intro s us X hlen
  have l2 : us.length = n := by
    rw [List.length_append, List.length_drop] at hlen
    omega
  obtain ⟨k, e1, e2⟩ := h kV doc pm an cdv ct us l2
  refine BindsTo.of_looks fun M => ?_
  rw [e1]
  exact looks_items X lT oT (.of_pure e2)
section
variable {P : Program} {w : World} {K : PySem.W.Frag} {mg : Str → Option Value} {base : Heap}
end
section
variable {st : Store} {e : SEnv}
@[simp] theorem eDNewT_at : eDNewT e st = .ok (.v (.ref st.length)) (st ++ [.dict true []]) := rfl
noncomputable def KDG2 (o : RV) (l : List D) (st2 : Store) : R RV := match o with
  | .v (.ref n) => match st2[n]? with
    | some (.dict true kvs) => match keysD l, dvV kvs (.tup l) with
      | some _, some d => if l.length ≤ sLine then .ok (.v d) st2 else .bad
      | _, _ => .bad
    | _ => .bad
  | _ => .bad
noncomputable def KDG1 (fr : EA) (e : SEnv) (o : RV) (st1 : Store) : R RV := (fr e st1).bind (KDG2 o)
@[simp] theorem eDGetT_at (fo : EE) (fr : EA) : eDGetT fo fr e st = (fo e st).bind (KDG1 fr e) := rfl
@[simp] theorem KDG1_at (fr : EA) (o : RV) : KDG1 fr e o st = (fr e st).bind (KDG2 o) := rfl
theorem KDG2_ok {n : Nat} {l : List D} {kvs : List (D × D)} {ks : List Key} {d : D} (h1 : st[n]? = some (.dict true kvs)) (h2 : keysD l = some ks) (h3 : dvV kvs (.tup l) = some d) (h4 : l.length ≤ sLine) : KDG2 (.v (.ref n)) l st = .ok (.v d) st := by
  simp only [KDG2, h1, h2, h3, if_pos h4]
noncomputable def KDP4 (d : D) (e : SEnv) (o : RV) (l : List D) (st4 : Store) : SR := match o with
  | .v (.ref n) => match st4[n]? with
    | some (.dict true kvs) => match keysD l with
      | some _ => if l.length ≤ sLine ∧ kvs.length < sLine then .nx e (st4.set n (.dict true (dputD kvs (.tup l) d))) else .bad
      | none => .bad
    | _ => .bad
  | _ => .bad
noncomputable def KDP3 (fr : EA) (d : D) (e : SEnv) (o : RV) (st3 : Store) : SR := (fr e st3).toS e (KDP4 d e o)
noncomputable def KDP2 (fo : EE) (fr : EA) (e : SEnv) (d : D) (st2 : Store) : SR := (fo e st2).toS e (KDP3 fr d e)
noncomputable def KDP1 (fo : EE) (fr : EA) (e : SEnv) (a : RV) (st1 : Store) : SR := (mat a st1).toS e (KDP2 fo fr e)
@[simp] theorem sDPutT_at (fa fo : EE) (fr : EA) : sDPutT fa fo fr e st = (fa e st).toS e (KDP1 fo fr e) := rfl
@[simp] theorem KDP1_at (fo : EE) (fr : EA) (a : RV) : KDP1 fo fr e a st = (mat a st).toS e (KDP2 fo fr e) := rfl
@[simp] theorem KDP2_at (fo : EE) (fr : EA) (d : D) : KDP2 fo fr e d st = (fo e st).toS e (KDP3 fr d e) := rfl
@[simp] theorem KDP3_at (fr : EA) (d : D) (o : RV) : KDP3 fr d e o st = (fr e st).toS e (KDP4 d e o) := rfl
theorem KDP4_ok {n : Nat} {l : List D} {kvs : List (D × D)} {ks : List Key} {d : D} (h1 : st[n]? = some (.dict true kvs)) (h2 : keysD l = some ks) (h4 : l.length ≤ sLine ∧ kvs.length < sLine) : KDP4 d e (.v (.ref n)) l st = .nx e (st.set n (.dict true (dputD kvs (.tup l) d))) := by
  simp only [KDP4, h1, h2, if_pos h4]
end
open Classical in
theorem dvV_cons (p : D × D) (r : List (D × D)) (j : D) : dvV (p :: r) j = if p.1 = j then some p.2 else dvV r j := by
  unfold dvV
  rw [List.find?_cons]
  by_cases h : p.1 = j
  · rw [if_pos h, decide_eq_true h]; rfl
  · rw [if_neg h, decide_eq_false h]
open Classical in
theorem dvV_put (kvs : List (D × D)) (k v j : D) : dvV (dputD kvs k v) j = if j = k then some v else dvV kvs j := by
  have other : ¬ j = k → ∀ r : List (D × D), dvV (r.map fun p => if p.1 = k then (p.1, v) else p) j = dvV r j := by
    intro e r
    induction r with
    | nil => rfl
    | cons p r ih =>
      rw [List.map_cons, dvV_cons, dvV_cons, ih]
      by_cases q : p.1 = k
      · have : ¬ p.1 = j := fun z => e (z.symm.trans q)
        rw [if_pos q, if_neg this, if_neg this]
      · rw [if_neg q]
  have map : ∀ kvs : List (D × D), (kvs.any fun p => decide (p.1 = k)) = true → dvV (kvs.map fun p => if p.1 = k then (p.1, v) else p) j = if j = k then some v else dvV kvs j := by
    intro kvs h
    by_cases e : j = k
    · rw [if_pos e]
      induction kvs with
      | nil => cases h
      | cons p r ih =>
        rw [List.map_cons, dvV_cons]
        by_cases q : p.1 = k
        · rw [if_pos q, if_pos (q.trans e.symm)]
        · rw [if_neg q, if_neg fun z => q (z.trans e)]
          refine ih ?_
          rw [List.any_cons, decide_eq_false q, Bool.false_or] at h
          exact h
    · rw [if_neg e, other e]
  have snoc : ∀ kvs : List (D × D), ¬ (kvs.any fun p => decide (p.1 = k)) = true → dvV (kvs ++ [(k, v)]) j = if j = k then some v else dvV kvs j := by
    intro kvs h
    induction kvs with
    | nil =>
      rw [List.nil_append, dvV_cons]
      by_cases e : j = k
      · rw [if_pos e, if_pos e.symm]
      · rw [if_neg e, if_neg fun z => e z.symm]
    | cons p r ih =>
      rw [List.any_cons, Bool.or_eq_true, not_or] at h
      have q : ¬ p.1 = k := fun z => h.1 (decide_eq_true z)
      rw [List.cons_append, dvV_cons, dvV_cons, ih h.2]
      by_cases z : p.1 = j
      · have e : ¬ j = k := fun y => q (z.trans y)
        rw [if_pos z, if_neg e, if_pos z]
      · rw [if_neg z, if_neg z]
  unfold dputD
  split
  · rename_i h; exact map kvs h
  · rename_i h; exact snoc kvs h
theorem dputD_len (kvs : List (D × D)) (k v : D) : (dputD kvs k v).length ≤ kvs.length + 1 := by
  unfold dputD
  split <;> simp
end Ev

/-! ## Ev33 -/
set_option Elab.async false
set_option linter.all false
set_option maxRecDepth 100000
namespace Ev
open PySem PySem.Spec PyProof.Rows L2
section
variable {P : Program} {w : World} {K : PySem.W.Frag} {mg : Str → Option Value} {base : Heap}
end
def CstT (K : PySem.W.Frag) (a : Addr) (l : List (List Nat)) : Prop :=
  ∃ (o : Obj) (its : Array Value) (n : Nat), K.lookup a = some o ∧ o.cls = .type "tuple" ∧ o.data = .seq its n ∧ its.size ≤ sizeLine ∧ Vals (l.map fun s => V.str ⟨s.toArray⟩) its.toList
theorem CstT.of {K : PySem.W.Frag} {a : Addr} {l : List (List Nat)} {o : Obj} {its : List Value} {n : Nat} (h1 : K.lookup a = some o) (h2 : o.cls = .type "tuple") (h3 : o.data = .seq its.toArray n) (h4 : Vals (l.map fun s => V.str ⟨s.toArray⟩) its) (hl : l.length ≤ 1000 := by decide) : CstT K a l := by
  refine ⟨o, its.toArray, n, h1, h2, h3, ?_, by simpa using h4⟩
  have := h4.length
  rw [List.length_map] at this
  have hs : (1000 : Nat) ≤ sizeLine := by decide
  show its.toArray.size ≤ _
  simp only [List.size_toArray]
  omega
theorem rds_strs {K : PySem.W.Frag} {ρ : List Addr} {H : Hp} : ∀ l : List (List Nat), RDs K ρ H (l.map .str) (l.map fun s => V.str ⟨s.toArray⟩)
  | [] => rfl
  | s :: l => ⟨_, _, rfl, rfl, rds_strs l⟩
theorem CstT.rd {K : PySem.W.Frag} {a : Addr} {l : List (List Nat)} (h : CstT K a l) {ρ : List Addr} {H : Hp} : RD K ρ H (.tup (l.map .str)) (.ref a) := by
  obtain ⟨o, its, n, h1, h2, h3, h4, h5⟩ := h
  exact ⟨a, _, rfl, .inr ⟨o, its, n, h1, h2, h3, h4, h5⟩, rds_strs l⟩
end Ev

/-! ## Ev34 -/
set_option Elab.async false
set_option linter.all false
set_option maxRecDepth 100000
namespace Ev
open PySem PySem.Spec PyProof.Rows L2
variable {tbs : List (Addr × Str)} {w : World}
def clM (w : World) (mg : Str → Option Value) (tbs : List (Addr × Str)) : CT := ⟨fun x => match mg x with
  | some (.ref C) => some C
  | _ => none, tbs, NestedKey.hash w⟩
theorem clM_at {mg : Str → Option Value} {x : Str} {C : Addr} (h : mg x = some (.ref C)) : clM w mg tbs x = some C := by show (match mg x with | some (.ref C) => some C | _ => none) = some C; rw [h]
structure ExC (K : PySem.W.Frag) (mg : Str → Option Value) (x : Str) (C : Addr) : Prop where
  q : PySem.W.excIn K C [.type "ValueError", .type "Exception", .type "BaseException", .type "object"] "ValueError.__new__" = true
  m : mg x = some (.ref C)
  k : PySem.W.keepIn K (.ref C) = true
  s : PySem.W.subIn K (.ref C) (.type "BaseException") = some true
  t : PySem.W.typeIn K (.ref C) = some (.type "type")
theorem ExC.f {K : PySem.W.Frag} {mg : Str → Option Value} {x : Str} {C : Addr} (h : ExC K mg x C) (nd : (x == ("__debug__" : Str)) = false := by decide) : ExF K mg (clM w mg tbs) x :=
  ⟨⟨C, _, _, _, _, PySem.F.excBase_ValueError, h.q, h.m, h.k, h.s, h.t, clM_at h.m⟩, nd⟩
def ExFacts (K : PySem.W.Frag) (mg : Str → Option Value) (cl : CT) : List Str → Prop
  | [] => True
  | x :: r => ExF K mg cl x ∧ ExFacts K mg cl r
theorem ExFacts.look {K : PySem.W.Frag} {mg : Str → Option Value} {cl : CT} : ∀ {l : List Str}, ExFacts K mg cl l → ∀ x, x ∈ l → ExF K mg cl x
  | [], _, x, h => by cases h
  | y :: r, hf, x, h => by
    rcases List.mem_cons.mp h with rfl | h
    · exact hf.1
    · exact hf.2.look x h
def TabOk (K : PySem.W.Frag) (mg : Str → Option Value) (C : Addr) : List (Str × Bool) → Prop
  | [] => True
  | (y, b) :: r => (∃ Cy, mg y = some (.ref Cy) ∧ PySem.W.exmOne K (.ref Cy) (.ref C) = some b) ∧ TabOk K mg C r
theorem TabOk.look {K : PySem.W.Frag} {mg : Str → Option Value} {C : Addr} : ∀ {l : List (Str × Bool)}, TabOk K mg C l → ∀ y b, l.lookup y = some b → ∀ Cy, clM w mg tbs y = some Cy → PySem.W.exmOne K (.ref Cy) (.ref C) = some b
  | [], _, y, b, h, _, _ => by cases h
  | (z, d) :: r, hf, y, b, h, Cy, hc => by
    rw [List.lookup_cons] at h
    split at h
    · rename_i e
      cases h
      have e : y = z := by simpa using e
      subst e
      obtain ⟨C', h1, h2⟩ := hf.1
      rw [clM_at h1] at hc
      cases hc
      exact h2
    · exact hf.2.look y b h Cy hc
def TrFacts (K : PySem.W.Frag) (mg : Str → Option Value) (cl : CT) : List (Str × List (Str × Bool)) → Prop
  | [] => True
  | (x, t) :: r => TrF K mg cl x t ∧ TrFacts K mg cl r
theorem TrFacts.look {K : PySem.W.Frag} {mg : Str → Option Value} {cl : CT} : ∀ {l : List (Str × List (Str × Bool))}, TrFacts K mg cl l → ∀ x t, l.lookup x = some t → TrF K mg cl x t
  | [], _, x, t, h => by cases h
  | (y, u) :: r, hf, x, t, h => by
    rw [List.lookup_cons] at h
    split at h
    · rename_i e
      cases h
      have e : x = y := by simpa using e
      subst e
      exact hf.1
    · exact hf.2.look x t h
section
variable {P : Program} {w : World} {K : PySem.W.Frag} {mg : Str → Option Value} {base : Heap}
end
def IsTab (K : PySem.W.Frag) (mg : Str → Option Value) (cv : Value) : List (Str × Bool) → Prop
  | [] => True
  | (y, b) :: r => (∃ Cy, mg y = some (.ref Cy) ∧ PySem.W.kitOne K (.ref Cy) cv = some b) ∧ IsTab K mg cv r
theorem IsTab.look {K : PySem.W.Frag} {mg : Str → Option Value} {cv : Value} : ∀ {l : List (Str × Bool)}, IsTab K mg cv l → ∀ y b, l.lookup y = some b → ∀ Cy, clM w mg tbs y = some Cy → PySem.W.kitOne K (.ref Cy) cv = some b
  | [], _, y, b, h, _, _ => by cases h
  | (z, d) :: r, hf, y, b, h, Cy, hc => by
    rw [List.lookup_cons] at h
    split at h
    · rename_i e
      cases h
      have e : y = z := by simpa using e
      subst e
      obtain ⟨C', h1, h2⟩ := hf.1
      rw [clM_at h1] at hc
      cases hc
      exact h2
    · exact hf.2.look y b h Cy hc
def IsFacts (K : PySem.W.Frag) (mg : Str → Option Value) (cl : CT) : List (Str × List (Str × Bool)) → Prop
  | [] => True
  | (x, t) :: r => IsF K mg cl x t ∧ IsFacts K mg cl r
theorem IsFacts.look {K : PySem.W.Frag} {mg : Str → Option Value} {cl : CT} : ∀ {l : List (Str × List (Str × Bool))}, IsFacts K mg cl l → ∀ x t, l.lookup x = some t → IsF K mg cl x t
  | [], _, x, t, h => by cases h
  | (y, u) :: r, hf, x, t, h => by
    rw [List.lookup_cons] at h
    split at h
    · rename_i e
      cases h
      have e : x = y := by simpa using e
      subst e
      exact hf.1
    · exact hf.2.look x t h
def FlNo (K : PySem.W.Frag) (C : Addr) : List Str → Prop
  | [] => True
  | f :: r => PySem.W.findIn K (.ref C) f = some none ∧ FlNo K C r
theorem FlNo.look {K : PySem.W.Frag} {C : Addr} : ∀ {l : List Str}, FlNo K C l → ∀ f, f ∈ l → PySem.W.findIn K (.ref C) f = some none
  | [], _, f, h => by cases h
  | g :: r, hf, f, h => by
    rcases List.mem_cons.mp h with rfl | h
    · exact hf.1
    · exact hf.2.look f h
def ErFacts (K : PySem.W.Frag) (mg : Str → Option Value) : List (Str × List Str) → Prop
  | [] => True
  | (y, fl) :: r => (∃ C, mg y = some (.ref C) ∧ ErrC K C ∧ FlNo K C fl) ∧ ErFacts K mg r
theorem ErFacts.look {K : PySem.W.Frag} {mg : Str → Option Value} : ∀ {l : List (Str × List Str)}, ErFacts K mg l → ∀ y fl, l.lookup y = some fl → ErF K (clM w mg tbs) y fl
  | [], _, y, fl, h => by cases h
  | (z, gl) :: r, hf, y, fl, h => by
    rw [List.lookup_cons] at h
    split at h
    · rename_i e
      cases h
      have e : y = z := by simpa using e
      subst e
      obtain ⟨C, h1, h2, h3⟩ := hf.1
      refine ⟨fun Cy hc => ?_⟩
      rw [clM_at h1] at hc
      cases hc
      exact ⟨h2, h3.look⟩
    · exact hf.2.look y fl h
section
variable {P : Program} {w : World} {K : PySem.W.Frag} {mg : Str → Option Value} {base : Heap}
end
def SR.tryS (tab : List (Str × Bool)) (k : SS) (r : SR) : SR := match r with
  | .exc e env' st' => match tab.lookup e.cls with
    | some true => k env' st'
    | some false => .exc e env' st'
    | none => .bad
  | r => r
@[simp] theorem sTry1_at (tab : List (Str × Bool)) (f k : SS) (e : SEnv) (st : Store) : sTry1 tab f k e st = SR.tryS tab k (f e st) := by
  unfold sTry1 SR.tryS
  cases f e st <;> rfl
@[simp] theorem tryS_nx (tab : List (Str × Bool)) (k : SS) (e : SEnv) (st : Store) : SR.tryS tab k (.nx e st) = .nx e st := .trans rfl rfl
@[simp] theorem tryS_ret (tab : List (Str × Bool)) (k : SS) (a : RV) (st : Store) : SR.tryS tab k (.ret a st) = .ret a st := .trans rfl rfl
@[simp] theorem tryS_exc (tab : List (Str × Bool)) (k : SS) (x : Str) (e : SEnv) (st : Store) : SR.tryS tab k (.exc ⟨x, []⟩ e st) = match tab.lookup x with
    | some true => k e st
    | some false => .exc ⟨x, []⟩ e st
    | none => .bad := .trans rfl rfl
@[simp] theorem sRaise_at (x : Str) (e : SEnv) (st : Store) : sRaise x e st = .exc ⟨x, []⟩ e st := .trans rfl rfl
@[simp] theorem bind_exc {α β : Type} (x : Exn) (st : Store) (k : α → Store → R β) : (R.exc x st).bind k = .exc x st := .trans rfl rfl
@[simp] theorem toS_exc {α : Type} (x : Exn) (st : Store) (e : SEnv) (k : α → Store → SR) : (R.exc x st).toS e k = .exc x e st := .trans rfl rfl
def SR.tryA (tab : List (Str × Bool)) (i : Nat) (k : Exn → SS) (r : SR) : SR := match r with
  | .exc e env' st' => match tab.lookup e.cls with
    | some true => if i < env'.length then SR.unb i (k e (env'.set i none) st') else .bad
    | some false => .exc e env' st'
    | none => .bad
  | r => r
@[simp] theorem sTryAs_at (tab : List (Str × Bool)) (i : Nat) (f : SS) (k : Exn → SS) (e : SEnv) (st : Store) : sTryAs tab i f k e st = SR.tryA tab i k (f e st) := by
  unfold sTryAs SR.tryA
  cases f e st <;> rfl
@[simp] theorem tryA_nx (tab : List (Str × Bool)) (i : Nat) (k : Exn → SS) (e : SEnv) (st : Store) : SR.tryA tab i k (.nx e st) = .nx e st := .trans rfl rfl
@[simp] theorem tryA_ret (tab : List (Str × Bool)) (i : Nat) (k : Exn → SS) (a : RV) (st : Store) : SR.tryA tab i k (.ret a st) = .ret a st := .trans rfl rfl
@[simp] theorem tryA_exc (tab : List (Str × Bool)) (i : Nat) (k : Exn → SS) (x : Exn) (e : SEnv) (st : Store) : SR.tryA tab i k (.exc x e st) = match tab.lookup x.cls with
    | some true => if i < e.length then SR.unb i (k x (e.set i none) st) else .bad
    | some false => .exc x e st
    | none => .bad := .trans rfl rfl
@[simp] theorem unb_nx (i : Nat) (e : SEnv) (st : Store) : SR.unb i (.nx e st) = .nx (e.set i none) st := .trans rfl rfl
@[simp] theorem unb_ret (i : Nat) (a : RV) (st : Store) : SR.unb i (.ret a st) = .ret a st := .trans rfl rfl
end Ev

/-! ## Ev34a -/
set_option Elab.async false
set_option linter.all false
set_option maxRecDepth 100000
namespace Ev
open PySem PySem.Spec PyProof.Rows L2
def dd {γ : Type} [DecidableEq γ] (l : List γ) (r : List γ) : List γ := r.foldl (fun a x => if x ∈ a then a else a ++ [x]) l
def KMat2 (d : D) (st2 : Store) : R RV := .ok (.v d) st2
def KMat (a : RV) (st1 : Store) : R RV := (mat a st1).bind KMat2
@[simp] theorem eMat_at (fo : EE) (e : SEnv) (st : Store) : eMat fo e st = (fo e st).bind KMat := .trans rfl rfl
@[simp] theorem KMat_at (a : RV) (st : Store) : KMat a st = (mat a st).bind KMat2 := .trans rfl rfl
@[simp] theorem KMat2_at (d : D) (st : Store) : KMat2 d st = .ok (.v d) st := .trans rfl rfl
end Ev

/-! ## K08a -/
set_option Elab.async false
set_option linter.all false
set_option maxRecDepth 100000
namespace Law
open PySem PySem.Spec PyProof.Rows L2 Ev
def topS (i : Nat) : Stmt := PySem.Challenge.pw_shiptrace_k08_common_match.main.body.getD i (.Pass ⟨0, 0, 0, 0⟩)
abbrev s_l_tape : Stmt := topS 8
def N_l_tape : List Str := ["_law_script", "_law_total", "_law_cell"]
theorem sc_l_tape : FnScope N_l_tape ["_law_script"] (defScope s_l_tape) := ⟨rfl, rfl, rfl, by decide +kernel, rfl, by decide +kernel, by decide +kernel⟩
noncomputable def F_l_tape : List (Str × FnI) := []
noncomputable def C_l_tape : List (Str × D) := []
def B_l_tape : List Str := ["list", "int", "abs"]
theorem e_l_tape : denSs 60 (scOf N_l_tape (defScope s_l_tape) F_l_tape C_l_tape B_l_tape) (defBody s_l_tape) = d_l_tape := by kernel_rfl
abbrev s_l_draw : Stmt := topS 9
def N_l_draw : List Str := ["_law_tape_here", "_law_many", "_law_place", "_law_number"]
theorem sc_l_draw : FnScope N_l_draw ["_law_tape_here", "_law_many"] (defScope s_l_draw) := ⟨rfl, rfl, rfl, by decide +kernel, rfl, by decide +kernel, by decide +kernel⟩
noncomputable def F_l_draw : List (Str × FnI) := []
noncomputable def C_l_draw : List (Str × D) := []
def B_l_draw : List Str := ["max", "int", "len", "abs"]
theorem e_l_draw : denSs 60 (scOf N_l_draw (defScope s_l_draw) F_l_draw C_l_draw B_l_draw) (defBody s_l_draw) = d_l_draw := by kernel_rfl
abbrev s_l_pattern : Stmt := topS 10
def N_l_pattern : List Str := ["_law_tape_here", "_law_most", "_law_menu", "_law_k"]
theorem sc_l_pattern : FnScope N_l_pattern ["_law_tape_here", "_law_most"] (defScope s_l_pattern) := ⟨rfl, rfl, rfl, by decide +kernel, rfl, by decide +kernel, by decide +kernel⟩
noncomputable def d_l_pattern : SS :=
  (sSeq (sSet 2 (e2 dIx (eLst (aCons (eC (.str [97, 42])) (aCons (eC (.str [97, 98, 47, 42])) (aCons (eC (.str [97, 42, 47, 58])) (aCons (eC (.str [97, 98, 99, 100, 101, 102, 103, 104, 105, 106, 107, 108, 109, 110, 111, 112, 113, 114, 115, 116, 117, 118, 119, 120, 121, 122, 48, 49, 50, 51, 52, 53, 54, 55, 56, 57, 45, 46, 47, 58, 42, 42, 42])) aNil))))) (eCall c_l_draw [] (aCons (eVar 0) (aCons (eC (.int 4)) aNil)))))
  (sSeq (sRet (eMtS gJoin (eC (.str [])) (bCons (eComp (wRng1 (bCons (e2 dAdd (eC (.int 1)) (eCall c_l_draw [] (aCons (eVar 0) (aCons (eVar 1) aNil)))) bNil)) (.one 3) ttYes [3] (e2 dIx (eVar 2) (eCall c_l_draw [] (aCons (eVar 0) (aCons (eN (g1 dLen) (bCons (eVar 2) bNil)) aNil))))) bNil))) sNil))
noncomputable def c_l_pattern : List D → Store → R RV := callB 4 d_l_pattern
noncomputable def F_l_pattern : List (Str × FnI) := [("_law_draw", ⟨2, [], c_l_draw⟩)]
noncomputable def C_l_pattern : List (Str × D) := []
def B_l_pattern : List Str := ["range", "len"]
theorem e_l_pattern : denSs 60 (scOf N_l_pattern (defScope s_l_pattern) F_l_pattern C_l_pattern B_l_pattern) (defBody s_l_pattern) = d_l_pattern := by kernel_rfl
abbrev s_l_parts : Stmt := topS 11
def N_l_parts : List Str := ["_law_pattern_here", "_law_parts_here", "_law_at", "_law_k", "_law_size"]
theorem sc_l_parts : FnScope N_l_parts ["_law_pattern_here"] (defScope s_l_parts) := ⟨rfl, rfl, rfl, by decide +kernel, rfl, by decide +kernel, by decide +kernel⟩
noncomputable def d_l_parts : SS :=
  (sSeq (sSet 1 (eLst aNil))
  (sSeq (sSet 2 (eC (.int 0)))
  (sSeq (sFor (wRng1 (bCons (eN (g1 dLen) (bCons (eVar 0) bNil)) bNil)) (.one 3) (
    (sSeq (sIf (eBool (e2 dLt (eVar 2) (eN (g1 dLen) (bCons (eVar 0) bNil)))) (
      (sSeq (sSet 4 (eC (.int 1)))
      (sSeq (sIf (eBool (e2 dEq (eSl (eVar 0) (some (eVar 2)) (some (e2 dAdd (eVar 2) (eC (.int 2))))) (eC (.str [42, 42])))) (
        (sSeq (sSet 4 (eC (.int 2))) sNil)) sNil)
      (sSeq (sExpr (eMtL gAppend (eVar 1) (aCons (eSl (eVar 0) (some (eVar 2)) (some (e2 dAdd (eVar 2) (eVar 4)))) aNil)))
      (sSeq (sSet 2 (e2 dAdd (eVar 2) (eVar 4))) sNil))))) sNil) sNil)))
  (sSeq (sRet (eVar 1)) sNil))))
noncomputable def c_l_parts : List D → Store → R RV := callB 5 d_l_parts
noncomputable def F_l_parts : List (Str × FnI) := []
noncomputable def C_l_parts : List (Str × D) := []
def B_l_parts : List Str := ["range", "len"]
theorem e_l_parts : denSs 60 (scOf N_l_parts (defScope s_l_parts) F_l_parts C_l_parts B_l_parts) (defBody s_l_parts) = d_l_parts := by kernel_rfl
abbrev s_l_filled : Stmt := topS 12
def N_l_filled : List Str := ["_law_tape_here", "_law_pattern_here", "_law_string", "_law_part", "_law_k"]
theorem sc_l_filled : FnScope N_l_filled ["_law_tape_here", "_law_pattern_here"] (defScope s_l_filled) := ⟨rfl, rfl, rfl, by decide +kernel, rfl, by decide +kernel, by decide +kernel⟩
noncomputable def d_l_filled : SS :=
  (sSeq (sSet 2 (eC (.str [])))
  (sSeq (sFor (wVal (eCall c_l_parts [] (aCons (eVar 1) aNil))) (.one 3) (
    (sSeq (sIf (eBool (e2 dEq (eVar 3) (eC (.str [42])))) (
      (sSeq (sSet 2 (e2 dAdd (eVar 2) (eMtS gJoin (eC (.str [])) (bCons (eComp (wRng1 (bCons (eCall c_l_draw [] (aCons (eVar 0) (aCons (eC (.int 3)) aNil))) bNil)) (.one 4) ttYes [4] (e2 dIx (eC (.str [97, 98, 58])) (eCall c_l_draw [] (aCons (eVar 0) (aCons (eC (.int 3)) aNil))))) bNil)))) sNil)) (
      (sSeq (sIf (eBool (e2 dEq (eVar 3) (eC (.str [42, 42])))) (
        (sSeq (sSet 2 (e2 dAdd (eVar 2) (eMtS gJoin (eC (.str [])) (bCons (eComp (wRng1 (bCons (eCall c_l_draw [] (aCons (eVar 0) (aCons (eC (.int 3)) aNil))) bNil)) (.one 4) ttYes [4] (e2 dIx (eC (.str [97, 47, 98])) (eCall c_l_draw [] (aCons (eVar 0) (aCons (eC (.int 3)) aNil))))) bNil)))) sNil)) (
        (sSeq (sSet 2 (e2 dAdd (eVar 2) (eVar 3))) sNil))) sNil))) sNil)))
  (sSeq (sRet (eVar 2)) sNil)))
noncomputable def c_l_filled : List D → Store → R RV := callB 5 d_l_filled
noncomputable def F_l_filled : List (Str × FnI) := [("_law_parts", ⟨1, [], c_l_parts⟩), ("_law_draw", ⟨2, [], c_l_draw⟩)]
noncomputable def C_l_filled : List (Str × D) := []
def B_l_filled : List Str := ["range"]
theorem e_l_filled : denSs 60 (scOf N_l_filled (defScope s_l_filled) F_l_filled C_l_filled B_l_filled) (defBody s_l_filled) = d_l_filled := by kernel_rfl
abbrev s_l_second : Stmt := topS 18
def N_l_second : List Str := ["_law_tape_here", "_law_pattern_here", "_law_most", "_law_choice", "_law_out", "_law_sign", "_law_at"]
theorem sc_l_second : FnScope N_l_second ["_law_tape_here", "_law_pattern_here", "_law_most"] (defScope s_l_second) := ⟨rfl, rfl, rfl, by decide +kernel, rfl, by decide +kernel, by decide +kernel⟩
noncomputable def d_l_second : SS :=
  (sSeq (sSet 3 (eCall c_l_draw [] (aCons (eVar 0) (aCons (eC (.int 4)) aNil))))
  (sSeq (sIf (eBool (e2 dEq (eVar 3) (eC (.int 0)))) (
    (sSeq (sRet (eCall c_l_pattern [] (aCons (eVar 0) (aCons (eC (.int 9)) aNil)))) sNil)) sNil)
  (sSeq (sSet 4 (eC (.str [])))
  (sSeq (sFor (wVal (eCall c_l_filled [] (aCons (eVar 0) (aCons (eVar 1) aNil)))) (.one 5) (
    (sSeq (sSet 4 (e2 dAdd (eVar 4) (e2 dIx (eLst (aCons (eVar 5) (aCons (eVar 5) (aCons (eC (.str [42])) (aCons (eC (.str [42, 42])) (aCons (e2 dAdd (eC (.str [42])) (eVar 5)) (aCons (eC (.str [])) aNil))))))) (eCall c_l_draw [] (aCons (eVar 0) (aCons (eC (.int 6)) aNil)))))) sNil)))
  (sSeq (sIf (eBool (e2 dEq (eVar 3) (eC (.int 1)))) (
    (sSeq (sSet 6 (eCall c_l_draw [] (aCons (eVar 0) (aCons (e2 dAdd (eN (g1 dLen) (bCons (eVar 4) bNil)) (eC (.int 1))) aNil))))
    (sSeq (sSet 4 (e2 dAdd (e2 dAdd (eSl (eVar 4) none (some (eVar 6))) (e2 dIx (eC (.str [97, 47, 98])) (eCall c_l_draw [] (aCons (eVar 0) (aCons (eC (.int 3)) aNil))))) (eSl (eVar 4) (some (e2 dAdd (eVar 6) (eC (.int 1)))) none))) sNil))) sNil)
  (sSeq (sRet (eSl (e2 dAdd (eVar 4) (eC (.str [42]))) none (some (eVar 2)))) sNil))))))
noncomputable def c_l_second : List D → Store → R RV := callB 7 d_l_second
noncomputable def F_l_second : List (Str × FnI) := [("_law_draw", ⟨2, [], c_l_draw⟩), ("_law_filled", ⟨2, [], c_l_filled⟩), ("_law_pattern", ⟨2, [], c_l_pattern⟩)]
noncomputable def C_l_second : List (Str × D) := []
def B_l_second : List Str := ["len"]
theorem e_l_second : denSs 60 (scOf N_l_second (defScope s_l_second) F_l_second C_l_second B_l_second) (defBody s_l_second) = d_l_second := by kernel_rfl
abbrev s_l_lets : Stmt := topS 15
def N_l_lets : List Str := ["_law_star", "_law_sign"]
theorem sc_l_lets : FnScope N_l_lets ["_law_star", "_law_sign"] (defScope s_l_lets) := ⟨rfl, rfl, rfl, by decide +kernel, rfl, by decide +kernel, by decide +kernel⟩
noncomputable def d_l_lets : SS :=
  (sSeq (sRet (eOr (e2 dEq (eVar 0) (eC (.str [42, 42]))) (eAnd (e2 dEq (eVar 0) (eC (.str [42]))) (e2 dNe (eVar 1) (eC (.str [47])))))) sNil)
noncomputable def c_l_lets : List D → Store → R RV := callB 2 d_l_lets
noncomputable def F_l_lets : List (Str × FnI) := []
noncomputable def C_l_lets : List (Str × D) := []
def B_l_lets : List Str := []
theorem e_l_lets : denSs 60 (scOf N_l_lets (defScope s_l_lets) F_l_lets C_l_lets B_l_lets) (defBody s_l_lets) = d_l_lets := by kernel_rfl
abbrev s_l_behind : Stmt := topS 14
def N_l_behind : List Str := ["_law_sign", "_law_rest"]
theorem sc_l_behind : FnScope N_l_behind ["_law_sign", "_law_rest"] (defScope s_l_behind) := ⟨rfl, rfl, rfl, by decide +kernel, rfl, by decide +kernel, by decide +kernel⟩
noncomputable def d_l_behind : SS :=
  (sSeq (sIf (eBool (e2 dIsN (eVar 1) (eC .non))) (
    (sSeq (sRet (eC .non)) sNil)) sNil)
  (sSeq (sRet (e2 dAdd (eVar 0) (eVar 1))) sNil))
noncomputable def c_l_behind : List D → Store → R RV := callB 2 d_l_behind
noncomputable def F_l_behind : List (Str × FnI) := []
noncomputable def C_l_behind : List (Str × D) := []
def B_l_behind : List Str := []
theorem e_l_behind : denSs 60 (scOf N_l_behind (defScope s_l_behind) F_l_behind C_l_behind B_l_behind) (defBody s_l_behind) = d_l_behind := by kernel_rfl
abbrev s_l_ways : Stmt := topS 16
def N_l_ways : List Str := ["_law_left", "_law_right", "_law_i", "_law_j", "_law_rows", "_law_ways_here", "_law_one", "_law_two"]
theorem sc_l_ways : FnScope N_l_ways ["_law_left", "_law_right", "_law_i", "_law_j", "_law_rows"] (defScope s_l_ways) := ⟨rfl, rfl, rfl, by decide +kernel, rfl, by decide +kernel, by decide +kernel⟩
noncomputable def d_l_ways : SS :=
  (sSeq (sSet 5 (eLst aNil))
  (sSeq (sSet 6 (e2 dIx (e2 dAdd (eVar 0) (eLst (aCons (eC (.str [])) aNil))) (eVar 2)))
  (sSeq (sSet 7 (e2 dIx (e2 dAdd (eVar 1) (eLst (aCons (eC (.str [])) aNil))) (eVar 3)))
  (sSeq (sIf (eBool (e2 dIn (eVar 6) (eTup (aCons (eC (.str [42])) (aCons (eC (.str [42, 42])) aNil))))) (
    (sSeq (sExpr (eMtL gAppend (eVar 5) (aCons (eDGetT (eVar 4) (aCons (e2 dAdd (eVar 2) (eC (.int 1))) (aCons (eVar 3) aNil))) aNil))) sNil)) sNil)
  (sSeq (sIf (eBool (e2 dIn (eVar 7) (eTup (aCons (eC (.str [42])) (aCons (eC (.str [42, 42])) aNil))))) (
    (sSeq (sExpr (eMtL gAppend (eVar 5) (aCons (eDGetT (eVar 4) (aCons (eVar 2) (aCons (e2 dAdd (eVar 3) (eC (.int 1))) aNil))) aNil))) sNil)) sNil)
  (sSeq (sIf (tAndB (eBool (e2 dNe (eVar 6) (eC (.str [])))) (tAndB (eBool (e2 dEq (eVar 6) (eVar 7))) (eBool (e2 dNotIn (eVar 6) (eTup (aCons (eC (.str [42])) (aCons (eC (.str [42, 42])) aNil))))))) (
    (sSeq (sExpr (eMtL gAppend (eVar 5) (aCons (eCall c_l_behind [] (aCons (eVar 6) (aCons (eDGetT (eVar 4) (aCons (e2 dAdd (eVar 2) (eC (.int 1))) (aCons (e2 dAdd (eVar 3) (eC (.int 1))) aNil))) aNil))) aNil))) sNil)) sNil)
  (sSeq (sIf (tAndB (eBool (e2 dNotIn (eVar 6) (eTup (aCons (eC (.str [])) (aCons (eC (.str [42])) (aCons (eC (.str [42, 42])) aNil)))))) (eTru (eCall c_l_lets [] (aCons (eVar 7) (aCons (eVar 6) aNil))))) (
    (sSeq (sExpr (eMtL gAppend (eVar 5) (aCons (eCall c_l_behind [] (aCons (eVar 6) (aCons (eDGetT (eVar 4) (aCons (e2 dAdd (eVar 2) (eC (.int 1))) (aCons (eVar 3) aNil))) aNil))) aNil))) sNil)) sNil)
  (sSeq (sIf (tAndB (eBool (e2 dNotIn (eVar 7) (eTup (aCons (eC (.str [])) (aCons (eC (.str [42])) (aCons (eC (.str [42, 42])) aNil)))))) (eTru (eCall c_l_lets [] (aCons (eVar 6) (aCons (eVar 7) aNil))))) (
    (sSeq (sExpr (eMtL gAppend (eVar 5) (aCons (eCall c_l_behind [] (aCons (eVar 7) (aCons (eDGetT (eVar 4) (aCons (eVar 2) (aCons (e2 dAdd (eVar 3) (eC (.int 1))) aNil))) aNil))) aNil))) sNil)) sNil)
  (sSeq (sRet (eVar 5)) sNil)))))))))
noncomputable def c_l_ways : List D → Store → R RV := callB 8 d_l_ways
noncomputable def F_l_ways : List (Str × FnI) := [("_law_lets", ⟨2, [], c_l_lets⟩), ("_law_behind", ⟨2, [], c_l_behind⟩)]
noncomputable def C_l_ways : List (Str × D) := []
def B_l_ways : List Str := []
theorem e_l_ways : denSs 60 (scOf N_l_ways (defScope s_l_ways) F_l_ways C_l_ways B_l_ways) (defBody s_l_ways) = d_l_ways := by kernel_rfl
abbrev s_l_less : Stmt := topS 13
def N_l_less : List Str := ["_law_one", "_law_other"]
theorem sc_l_less : FnScope N_l_less ["_law_one", "_law_other"] (defScope s_l_less) := ⟨rfl, rfl, rfl, by decide +kernel, rfl, by decide +kernel, by decide +kernel⟩
noncomputable def d_l_less : SS :=
  (sSeq (sIf (tOrB (eBool (e2 dIsN (eVar 0) (eC .non))) (eBool (e2 dIsN (eVar 1) (eC .non)))) (
    (sSeq (sRet (e2 dIsN (eVar 1) (eC .non))) sNil)) sNil)
  (sSeq (sRet (e2 dLt (eTup (aCons (eN (g1 dLen) (bCons (eVar 0) bNil)) (aCons (eVar 0) aNil))) (eTup (aCons (eN (g1 dLen) (bCons (eVar 1) bNil)) (aCons (eVar 1) aNil))))) sNil))
noncomputable def c_l_less : List D → Store → R RV := callB 2 d_l_less
noncomputable def F_l_less : List (Str × FnI) := []
noncomputable def C_l_less : List (Str × D) := []
def B_l_less : List Str := ["len"]
theorem e_l_less : denSs 60 (scOf N_l_less (defScope s_l_less) F_l_less C_l_less B_l_less) (defBody s_l_less) = d_l_less := by kernel_rfl
abbrev s_l_due : Stmt := topS 17
def N_l_due : List Str := ["_law_left", "_law_right", "_law_rows", "_law_i", "_law_j", "_law_best", "_law_way"]
theorem sc_l_due : FnScope N_l_due ["_law_left", "_law_right"] (defScope s_l_due) := ⟨rfl, rfl, rfl, by decide +kernel, rfl, by decide +kernel, by decide +kernel⟩
noncomputable def d_l_due : SS :=
  (sSeq (sSet 2 eDNewT)
  (sSeq (sFor (wRng3 (bCons (eN (g1 dLen) (bCons (eVar 0) bNil)) (bCons (e1 dNeg (eC (.int 1))) (bCons (e1 dNeg (eC (.int 1))) bNil)))) (.one 3) (
    (sSeq (sFor (wRng3 (bCons (eN (g1 dLen) (bCons (eVar 1) bNil)) (bCons (e1 dNeg (eC (.int 1))) (bCons (e1 dNeg (eC (.int 1))) bNil)))) (.one 4) (
      (sSeq (sSet 5 (eC .non))
      (sSeq (sIf (tAndB (eBool (e2 dEq (eVar 3) (eN (g1 dLen) (bCons (eVar 0) bNil)))) (eBool (e2 dEq (eVar 4) (eN (g1 dLen) (bCons (eVar 1) bNil))))) (
        (sSeq (sSet 5 (eC (.str []))) sNil)) sNil)
      (sSeq (sFor (wVal (eCall c_l_ways [] (aCons (eVar 0) (aCons (eVar 1) (aCons (eVar 3) (aCons (eVar 4) (aCons (eVar 2) aNil))))))) (.one 6) (
        (sSeq (sIf (eTru (eCall c_l_less [] (aCons (eVar 6) (aCons (eVar 5) aNil)))) (
          (sSeq (sSet 5 (eVar 6)) sNil)) sNil) sNil)))
      (sSeq (sDPutT (eVar 5) (eVar 2) (aCons (eVar 3) (aCons (eVar 4) aNil))) sNil)))))) sNil)))
  (sSeq (sRet (eDGetT (eVar 2) (aCons (eC (.int 0)) (aCons (eC (.int 0)) aNil)))) sNil)))
noncomputable def c_l_due : List D → Store → R RV := callB 7 d_l_due
noncomputable def F_l_due : List (Str × FnI) := [("_law_ways", ⟨5, [], c_l_ways⟩), ("_law_less", ⟨2, [], c_l_less⟩)]
noncomputable def C_l_due : List (Str × D) := []
def B_l_due : List Str := ["range", "len"]
theorem e_l_due : denSs 60 (scOf N_l_due (defScope s_l_due) F_l_due C_l_due B_l_due) (defBody s_l_due) = d_l_due := by kernel_rfl
abbrev s_tokens_of : Stmt := topS 1
def N_tokens_of : List Str := ["pattern", "found", "k"]
theorem sc_tokens_of : FnScope N_tokens_of ["pattern"] (defScope s_tokens_of) := ⟨rfl, rfl, rfl, by decide +kernel, rfl, by decide +kernel, by decide +kernel⟩
noncomputable def F_tokens_of : List (Str × FnI) := []
noncomputable def C_tokens_of : List (Str × D) := []
def B_tokens_of : List Str := ["tuple", "len"]
theorem e_tokens_of : denSs 60 (scOf N_tokens_of (defScope s_tokens_of) F_tokens_of C_tokens_of B_tokens_of) (defBody s_tokens_of) = d_tokens_of := by kernel_rfl
abbrev s_is_star : Stmt := topS 2
def N_is_star : List Str := ["token"]
theorem sc_is_star : FnScope N_is_star ["token"] (defScope s_is_star) := ⟨rfl, rfl, rfl, by decide +kernel, rfl, by decide +kernel, by decide +kernel⟩
noncomputable def F_is_star : List (Str × FnI) := []
noncomputable def C_is_star : List (Str × D) := []
def B_is_star : List Str := []
theorem e_is_star : denSs 60 (scOf N_is_star (defScope s_is_star) F_is_star C_is_star B_is_star) (defBody s_is_star) = d_is_star := by kernel_rfl
abbrev s_may_contain : Stmt := topS 3
def N_may_contain : List Str := ["token", "sign"]
theorem sc_may_contain : FnScope N_may_contain ["token", "sign"] (defScope s_may_contain) := ⟨rfl, rfl, rfl, by decide +kernel, rfl, by decide +kernel, by decide +kernel⟩
noncomputable def F_may_contain : List (Str × FnI) := []
noncomputable def C_may_contain : List (Str × D) := []
def B_may_contain : List Str := []
theorem e_may_contain : denSs 60 (scOf N_may_contain (defScope s_may_contain) F_may_contain C_may_contain B_may_contain) (defBody s_may_contain) = d_may_contain := by kernel_rfl
abbrev s_continuations : Stmt := topS 5
def N_continuations : List Str := ["left", "right", "i", "j", "best", "found", "rest", "string"]
theorem sc_continuations : FnScope N_continuations ["left", "right", "i", "j", "best"] (defScope s_continuations) := ⟨rfl, rfl, rfl, by decide +kernel, rfl, by decide +kernel, by decide +kernel⟩
noncomputable def d_continuations : SS :=
  (sSeq (sSet 5 (eLst aNil))
  (sSeq (sIf (tAndB (eBool (e2 dLt (eVar 2) (eN (g1 dLen) (bCons (eVar 0) bNil)))) (eTru (eCall c_is_star [] (aCons (e2 dIx (eVar 0) (eVar 2)) aNil)))) (
    (sSeq (sExpr (eMtL gAppend (eVar 5) (aCons (eDGetT (eVar 4) (aCons (e2 dAdd (eVar 2) (eC (.int 1))) (aCons (eVar 3) aNil))) aNil))) sNil)) sNil)
  (sSeq (sIf (tAndB (eBool (e2 dLt (eVar 3) (eN (g1 dLen) (bCons (eVar 1) bNil)))) (eTru (eCall c_is_star [] (aCons (e2 dIx (eVar 1) (eVar 3)) aNil)))) (
    (sSeq (sExpr (eMtL gAppend (eVar 5) (aCons (eDGetT (eVar 4) (aCons (eVar 2) (aCons (e2 dAdd (eVar 3) (eC (.int 1))) aNil))) aNil))) sNil)) sNil)
  (sSeq (sIf (tAndB (eBool (e2 dLt (eVar 2) (eN (g1 dLen) (bCons (eVar 0) bNil)))) (eBool (e2 dLt (eVar 3) (eN (g1 dLen) (bCons (eVar 1) bNil))))) (
    (sSeq (sIf (tAndB (tNotB (eTru (eCall c_is_star [] (aCons (e2 dIx (eVar 0) (eVar 2)) aNil)))) (eTru (eCall c_may_contain [] (aCons (e2 dIx (eVar 1) (eVar 3)) (aCons (e2 dIx (eVar 0) (eVar 2)) aNil))))) (
      (sSeq (sSet 6 (eIf (eTru (eCall c_is_star [] (aCons (e2 dIx (eVar 1) (eVar 3)) aNil))) (eDGetT (eVar 4) (aCons (e2 dAdd (eVar 2) (eC (.int 1))) (aCons (eVar 3) aNil))) (eDGetT (eVar 4) (aCons (e2 dAdd (eVar 2) (eC (.int 1))) (aCons (e2 dAdd (eVar 3) (eC (.int 1))) aNil)))))
      (sSeq (sExpr (eMtL gAppend (eVar 5) (aCons (eIf (eBool (e2 dIsN (eVar 6) (eC .non))) (eC .non) (e2 dAdd (e2 dIx (eVar 0) (eVar 2)) (eVar 6))) aNil))) sNil))) (
      (sSeq (sIf (tAndB (tNotB (eTru (eCall c_is_star [] (aCons (e2 dIx (eVar 1) (eVar 3)) aNil)))) (eTru (eCall c_may_contain [] (aCons (e2 dIx (eVar 0) (eVar 2)) (aCons (e2 dIx (eVar 1) (eVar 3)) aNil))))) (
        (sSeq (sSet 6 (eDGetT (eVar 4) (aCons (eVar 2) (aCons (e2 dAdd (eVar 3) (eC (.int 1))) aNil))))
        (sSeq (sExpr (eMtL gAppend (eVar 5) (aCons (eIf (eBool (e2 dIsN (eVar 6) (eC .non))) (eC .non) (e2 dAdd (e2 dIx (eVar 1) (eVar 3)) (eVar 6))) aNil))) sNil))) sNil) sNil))) sNil)) sNil)
  (sSeq (sRet (eComp (wVal (eVar 5)) (.one 7) (eBool (e2 dNotN (eVar 7) (eC .non))) [7] (eVar 7))) sNil)))))
noncomputable def c_continuations : List D → Store → R RV := callB 8 d_continuations
noncomputable def F_continuations : List (Str × FnI) := [("is_star", ⟨1, [], c_is_star⟩), ("may_contain", ⟨2, [], c_may_contain⟩)]
noncomputable def C_continuations : List (Str × D) := []
def B_continuations : List Str := ["len"]
theorem e_continuations : denSs 60 (scOf N_continuations (defScope s_continuations) F_continuations C_continuations B_continuations) (defBody s_continuations) = d_continuations := by kernel_rfl
abbrev s_least : Stmt := topS 4
def N_least : List Str := ["strings"]
theorem sc_least : FnScope N_least ["strings"] (defScope s_least) := ⟨rfl, rfl, rfl, by decide +kernel, rfl, by decide +kernel, by decide +kernel⟩
noncomputable def d_least : SS :=
  (sSeq (sIf (eBool (e2 dEq (eN (g1 dLen) (bCons (eVar 0) bNil)) (eC (.int 0)))) (
    (sSeq (sRet (eC .non)) sNil)) sNil)
  (sSeq (sRet (e1 dMinSL (eVar 0))) sNil))
noncomputable def c_least : List D → Store → R RV := callB 1 d_least
noncomputable def O_least : OB := ⟨[], [], [], [], [], true, [], false⟩
noncomputable def F_least : List (Str × FnI) := []
noncomputable def C_least : List (Str × D) := []
def B_least : List Str := ["min", "len"]
theorem e_least : denSs 60 (scOfA N_least (defScope s_least) F_least C_least B_least [] [] [] [] [] false O_least) (defBody s_least) = d_least := by kernel_rfl
abbrev s_common_match : Stmt := topS 6
def N_common_match : List Str := ["first", "second", "left", "right", "best", "i", "j", "found"]
theorem sc_common_match : FnScope N_common_match ["first", "second"] (defScope s_common_match) := ⟨rfl, rfl, rfl, by decide +kernel, rfl, by decide +kernel, by decide +kernel⟩
noncomputable def d_common_match : SS :=
  (sSeq (sSet 2 (eCall c_tokens_of [] (aCons (eVar 0) aNil)))
  (sSeq (sSet 3 (eCall c_tokens_of [] (aCons (eVar 1) aNil)))
  (sSeq (sSet 4 eDNewT)
  (sSeq (sFor (wRevR1 (e2 dAdd (eN (g1 dLen) (bCons (eVar 2) bNil)) (eC (.int 1)))) (.one 5) (
    (sSeq (sFor (wRevR1 (e2 dAdd (eN (g1 dLen) (bCons (eVar 3) bNil)) (eC (.int 1)))) (.one 6) (
      (sSeq (sSet 7 (eCall c_continuations [] (aCons (eVar 2) (aCons (eVar 3) (aCons (eVar 5) (aCons (eVar 6) (aCons (eVar 4) aNil)))))))
      (sSeq (sDPutT (eIf (tAndB (eBool (e2 dEq (eVar 5) (eN (g1 dLen) (bCons (eVar 2) bNil)))) (eBool (e2 dEq (eVar 6) (eN (g1 dLen) (bCons (eVar 3) bNil))))) (eC (.str [])) (eCall c_least [] (aCons (eVar 7) aNil))) (eVar 4) (aCons (eVar 5) (aCons (eVar 6) aNil))) sNil)))) sNil)))
  (sSeq (sRet (eDGetT (eVar 4) (aCons (eC (.int 0)) (aCons (eC (.int 0)) aNil)))) sNil)))))
noncomputable def c_common_match : List D → Store → R RV := callB 8 d_common_match
noncomputable def F_common_match : List (Str × FnI) := [("tokens_of", ⟨1, [], c_tokens_of⟩), ("continuations", ⟨5, [], c_continuations⟩), ("least", ⟨1, [], c_least⟩)]
noncomputable def C_common_match : List (Str × D) := []
def B_common_match : List Str := ["reversed", "range", "len"]
theorem e_common_match : denSs 60 (scOf N_common_match (defScope s_common_match) F_common_match C_common_match B_common_match) (defBody s_common_match) = d_common_match := by kernel_rfl
abbrev s_law : Stmt := topS 19
def N_law : List Str := ["_law_script", "_law_tape_here", "_law_most", "_law_pattern_here", "_law_other", "_law_due_here"]
theorem sc_law : FnScope N_law ["_law_script"] (defScope s_law) := ⟨rfl, rfl, rfl, by decide +kernel, rfl, by decide +kernel, by decide +kernel⟩
noncomputable def d_law : SS :=
  (sSeq (sSet 1 (eCall c_l_tape [] (aCons (eVar 0) aNil)))
  (sSeq (sSet 2 (e2 dIx (eLst (aCons (eC (.int 24)) (aCons (eC (.int 10)) (aCons (eC (.int 10)) (aCons (eC (.int 10)) (aCons (eC (.int 10)) (aCons (eC (.int 10)) (aCons (eC (.int 10)) (aCons (eC (.int 10)) aNil))))))))) (eCall c_l_draw [] (aCons (eVar 1) (aCons (eC (.int 8)) aNil)))))
  (sSeq (sSet 3 (eCall c_l_pattern [] (aCons (eVar 1) (aCons (eVar 2) aNil))))
  (sSeq (sSet 4 (eCall c_l_second [] (aCons (eVar 1) (aCons (eVar 3) (aCons (eVar 2) aNil)))))
  (sSeq (sSet 5 (eCall c_l_due [] (aCons (eCall c_l_parts [] (aCons (eVar 3) aNil)) (aCons (eCall c_l_parts [] (aCons (eVar 4) aNil)) aNil))))
  (sSeq (sIf (eBool (e2 dNe (eN (g1 dRepr) (bCons (eCall c_common_match [] (aCons (eVar 3) (aCons (eVar 4) aNil))) bNil)) (eN (g1 dRepr) (bCons (eVar 5) bNil)))) (
    (sSeq (sRet (eC (.bl false))) sNil)) sNil)
  (sSeq (sRet (e2 dEq (eN (g1 dRepr) (bCons (eCall c_common_match [] (aCons (eVar 4) (aCons (eVar 3) aNil))) bNil)) (eN (g1 dRepr) (bCons (eVar 5) bNil)))) sNil)))))))
noncomputable def c_law : List D → Store → R RV := callB 6 d_law
noncomputable def F_law : List (Str × FnI) := [("_law_tape", ⟨1, [], c_l_tape⟩), ("_law_pattern", ⟨2, [], c_l_pattern⟩), ("_law_second", ⟨3, [], c_l_second⟩), ("_law_due", ⟨2, [], c_l_due⟩), ("_law_draw", ⟨2, [], c_l_draw⟩), ("_law_parts", ⟨1, [], c_l_parts⟩), ("common_match", ⟨2, [], c_common_match⟩)]
noncomputable def C_law : List (Str × D) := []
def B_law : List Str := ["repr"]
theorem e_law : denSs 60 (scOf N_law (defScope s_law) F_law C_law B_law) (defBody s_law) = d_law := by kernel_rfl
end Law

/-! ## K08p -/
set_option Elab.async false
set_option linter.all false
set_option maxRecDepth 100000
namespace Law
open PySem Ev
theorem pattern_ok {xs : List Int} {p q t most : Int} {rest : Store} (hp : 0 ≤ p) (hq : 0 ≤ q) (hm : 1 ≤ most) (hm2 : most ≤ 1000) :
    ∃ s p' q' t', c_l_pattern [.ref 1, .int most] (mkT xs p q t rest) = .ok (.v (.str s)) (mkT xs p' q' t' rest) ∧ 1 ≤ s.length ∧ (s.length : Int) ≤ most ∧ cpsOk s = true ∧ 0 ≤ p' ∧ 0 ≤ q' := by
  have main : Wp (c_l_pattern [.ref 1, .int most] (mkT xs p q t rest)) fun a w => ∃ s p' q' t', a = .v (.str s) ∧ w = mkT xs p' q' t' rest ∧ 1 ≤ s.length ∧ (s.length : Int) ≤ most ∧ cpsOk s = true ∧ 0 ≤ p' ∧ 0 ≤ q' := by
    refine wpc ?_
    unfold d_l_pattern
    simp [sLine]
    obtain ⟨r, p1, q1, t1, e1, r0, r1, hp1, hq1⟩ := tape_draw (xs := xs) (t := t) (many := 4) (rest := rest) hp hq (by decide)
    obtain ⟨m, e2, m1, m2, m3⟩ : ∃ m : List Nat, L2.atI [D.str [97, 42], D.str [97, 98, 47, 42], D.str [97, 42, 47, 58], D.str [97, 98, 99, 100, 101, 102, 103, 104, 105, 106, 107, 108, 109, 110, 111, 112, 113, 114, 115, 116, 117, 118, 119, 120, 121, 122, 48, 49, 50, 51, 52, 53, 54, 55, 56, 57, 45, 46, 47, 58, 42, 42, 42]] r = some (.str m) ∧ 1 ≤ m.length ∧ m.length ≤ 43 ∧ cpsOk m = true := by
      have : r = 0 ∨ r = 1 ∨ r = 2 ∨ r = 3 := by omega
      rcases this with rfl | rfl | rfl | rfl <;> exact ⟨_, rfl, by decide, by decide, by decide⟩
    obtain ⟨n, p2, q2, t2, e3, n0, n1, hp2, hq2⟩ := tape_draw (xs := xs) (t := t1) (many := most) (rest := rest) hp1 hq1 (by omega)
    simp [e1, e2, e3]
    have hsl : sLine = 16777216 := rfl
    have hml : m.length ≤ sLine := by omega
    refine ⟨⟨by omega, by omega⟩, by rw [rngL_len]; omega, ?_⟩
    simp only [WpR_seq, WpS_toS, Wp_bind]
    refine wp_comp (fun ds acc w => ∃ (cs : List Nat) (p q t : Int), acc = cs.map (fun c => D.str [c]) ∧ w = mkT xs p q t rest ∧ 0 ≤ p ∧ 0 ≤ q ∧ cpsOk cs = true ∧ cs.length + ds.length = (1 + n).toNat) ⟨[], p2, q2, t2, rfl, rfl, hp2, hq2, rfl, by rw [rngL_len]; simp⟩ ?_ ?_
    · rintro d ds acc w ⟨cs, p, q, t, rfl, rfl, hp, hq, hcs, hl⟩
      refine ⟨_, rfl, ?_⟩
      obtain ⟨r, p1, q1, t1, e1, r0, r1, hp1, hq1⟩ := tape_draw (xs := xs) (t := t) (many := m.length) (rest := rest) hp hq (by omega)
      obtain ⟨k, rfl⟩ := Int.eq_ofNat_of_zero_le r0
      have hk : k < m.length := by omega
      have e2 : L2.atI m (k : Int) = some m[k] := by rw [atI_lit, List.getElem?_eq_getElem hk]
      simp [hml, e1, e2]
      refine ⟨cs ++ [m[k]], by simp, p1, q1, ⟨t1, rfl⟩, hp1, hq1, ?_, ?_⟩
      · simp only [cpsOk, List.all_append, List.all_cons, List.all_nil, Bool.and_true, Bool.and_eq_true] at hcs m3 ⊢
        exact ⟨hcs, List.all_eq_true.mp m3 _ (List.getElem_mem hk)⟩
      · simp only [List.length_cons] at hl
        simp
        omega
    · rintro acc w ⟨cs, p, q, t, rfl, rfl, hp, hq, hcs, hl⟩
      simp only [List.length_nil, Nat.add_zero] at hl
      have e := join_signs (st := mkT xs p q t rest) (cs := cs) (by omega)
      simp [e]
      exact Lv.tape0 rfl ⟨cs, rfl, p, q, ⟨t, rfl⟩, by omega, by omega, hcs, hp, hq⟩
  obtain ⟨a, w, e, s, p', q', t', rfl, rfl, h⟩ := main.out
  exact ⟨s, p', q', t', e, h⟩
theorem toks_pos (s : List Nat) : ∀ p ∈ toks s, 1 ≤ p.length := fun p hp => by
  rcases toks_one s p hp with rfl | h
  · decide
  · omega
theorem len_le_sum : ∀ l : List (List Nat), (∀ p ∈ l, 1 ≤ p.length) → l.length ≤ (l.map (·.length)).sum
  | [], _ => Nat.le_refl _
  | p :: l, h => by
    have h5 := h p (List.mem_cons_self ..)
    have h6 := len_le_sum l fun q hq => h q (List.mem_cons_of_mem _ hq)
    simp only [List.map_cons, List.sum_cons, List.length_cons]
    omega
theorem toks_len (s : List Nat) : (toks s).length ≤ s.length := by
  have h1 := len_le_sum (toks s) (toks_pos s)
  rw [sum_flat, toks_flat] at h1
  exact h1
theorem strs_pure (ps : List (List Nat)) : D.pures (ps.map D.str) = true := by
  induction ps with
  | nil => rfl
  | cons p ps ih => simpa [D.pures, D.pure] using ih
def InvP (p : List Nat) (st : Store) (ds : List D) (e : SEnv) (w : Store) : Prop :=
  ∃ (i n k : Nat) (dn : List (List Nat)) (c3 c4 : Option D), ds = rngL i n ∧ i + n = p.length ∧ e = [some (.str p), some (.ref st.length), some (.int k), c3, c4] ∧ w = st ++ [.lst (dn.map D.str)] ∧ dn ++ toks (p.drop k) = toks p ∧ (i ≤ k ∨ p.length ≤ k) ∧ dn.length ≤ i
theorem parts_ok {p : List Nat} {st : Store} (hp : p.length ≤ 1000) : c_l_parts [.str p] st = .ok (.t ((toks p).map D.str)) st := by
  refine call_list ?_ (strs_pure _)
  have hsl : sLine = 16777216 := rfl
  have g0 : 0 ≤ sLine := by decide
  have gp : p.length ≤ sLine := by omega
  unfold d_l_parts
  simp [g0, gp]
  refine ⟨rOk_of (by omega) (by omega), ?_⟩
  rw [WpR_seq]
  refine wp_forL (InvP p st) ⟨0, p.length, 0, [], none, none, rfl, by omega, rfl, rfl, rfl, .inl (Nat.le_refl _), Nat.le_refl _⟩ ?_ ?_
  · rintro d ds e w ⟨i, n, k, dn, c3, c4, h1, h2, rfl, rfl, h3, h4, h5⟩
    cases n with
    | zero => cases h1
    | succ n =>
      rw [rngL_cons] at h1
      cases h1
      refine ⟨_, rfl, ?_⟩
      by_cases hk : k < p.length
      · have c1 : cut p (some (k : Int)) (some ((k : Int) + 2)) = (p.drop k).take 2 := by
          have := cut_nat p k (k + 2)
          rw [show k + 2 - k = 2 by omega] at this
          exact this
        have c2 : cut p (some (k : Int)) (some ((k : Int) + 1)) = (p.drop k).take 1 := by
          have := cut_nat p k (k + 1)
          rw [show k + 1 - k = 1 by omega] at this
          exact this
        obtain ⟨c, r, hr⟩ : ∃ c r, p.drop k = c :: r := ⟨p[k], p.drop (k + 1), List.drop_eq_getElem_cons hk⟩
        have hr1 : p.drop (k + 1) = r := by rw [← List.drop_drop, hr]; rfl
        have hr2 : p.drop (k + 2) = r.drop 1 := by rw [← hr1, List.drop_drop]
        have gd : dn.length < sLine := by omega
        rw [hr, toks_cons] at h3
        by_cases hcc : c = 42 ∧ List.take 1 r = [42]
        · rw [if_pos hcc] at h3
          simp [hk, gp, c1, c2, hr, hcc.1, hcc.2, gd]
          exact ⟨i + 1, n, k + 2, dn ++ [[42, 42]], _, _, rfl, by omega, rfl, by simp, by rw [← h3, hr2]; simp, by omega, by rw [List.length_append]; simp only [List.length_cons, List.length_nil]; omega⟩
        · rw [if_neg hcc] at h3
          simp [hk, gp, c1, c2, hr, hcc, gd]
          exact ⟨i + 1, n, k + 1, dn ++ [[c]], _, _, rfl, by omega, rfl, by simp, by rw [← h3, hr1]; simp, by omega, by rw [List.length_append]; simp only [List.length_cons, List.length_nil]; omega⟩
      · simp [hk, gp]
        exact ⟨i + 1, n, k, dn, _, _, rfl, by omega, rfl, rfl, h3, .inr (by omega), by omega⟩
  · rintro e w ⟨i, n, k, dn, c3, c4, h1, h2, rfl, rfl, h3, h4, h5⟩
    have hn : n = 0 := by
      cases n with
      | zero => rfl
      | succ n => rw [rngL_cons] at h1; cases h1
    subst hn
    have e0 : p.drop k = [] := List.drop_eq_nil_of_le (by omega)
    rw [e0] at h3
    simp [toks] at h3
    simp [h3]
theorem toks_cps {s p : List Nat} (h : cpsOk s = true) (hp : p ∈ toks s) : cpsOk p = true := by
  simp only [cpsOk, List.all_eq_true] at h ⊢
  intro c hc
  refine h c ?_
  rw [← toks_flat s]
  exact List.mem_flatten.mpr ⟨p, hp, hc⟩
theorem fill_ok {xs : List Int} {rest : Store} {M : List Nat} (hM : M.length = 3) (x1 x2 x3 : Option D) (n : Nat) {p q t : Int} (hp : 0 ≤ p) (hq : 0 ≤ q) :
    ∃ (cs : List Nat) (p' q' t' : Int), compL (fun _ => True) (.one 4) ttYes (e2 dIx (eC (.str M)) (eCall c_l_draw [] (aCons (eVar 0) (aCons (eC (.int 3)) aNil)))) [some (.ref 1), x1, x2, x3, none] (rngL 0 n) (mkT xs p q t rest) = .ok (cs.map fun c => D.str [c]) (mkT xs p' q' t' rest) ∧ cs.length = n ∧ (∀ c ∈ cs, c ∈ M) ∧ 0 ≤ p' ∧ 0 ≤ q' := by
  have main := wp_comp (gd := fun _ => True) (t := .one 4) (tt := ttYes) (fe := e2 dIx (eC (.str M)) (eCall c_l_draw [] (aCons (eVar 0) (aCons (eC (.int 3)) aNil)))) (env := [some (.ref 1), x1, x2, x3, none]) (ds := rngL 0 n) (st := mkT xs p q t rest)
    (Q := fun acc w => ∃ (cs : List Nat) (p' q' t' : Int), acc = cs.map (fun c => D.str [c]) ∧ w = mkT xs p' q' t' rest ∧ cs.length = n ∧ (∀ c ∈ cs, c ∈ M) ∧ 0 ≤ p' ∧ 0 ≤ q')
    (fun ds acc w => ∃ (cs : List Nat) (p q t : Int), acc = cs.map (fun c => D.str [c]) ∧ w = mkT xs p q t rest ∧ 0 ≤ p ∧ 0 ≤ q ∧ cs.length + ds.length = n ∧ (∀ c ∈ cs, c ∈ M)) ⟨[], p, q, t, rfl, rfl, hp, hq, by rw [rngL_len]; simp, by simp⟩ (by
      rintro d ds acc w ⟨cs, p, q, t, rfl, rfl, hp, hq, hl, hc⟩
      refine ⟨_, rfl, ?_⟩
      obtain ⟨r, p1, q1, t1, e1, r0, r1, hp1, hq1⟩ := tape_draw (xs := xs) (t := t) (many := 3) (rest := rest) hp hq (by decide)
      obtain ⟨k, rfl⟩ := Int.eq_ofNat_of_zero_le r0
      have hk : k < M.length := by omega
      have e2 : L2.atI M (k : Int) = some M[k] := by rw [atI_lit, List.getElem?_eq_getElem hk]
      simp [e1, e2, hM, show 3 ≤ sLine by decide]
      refine ⟨cs ++ [M[k]], by simp, p1, q1, ⟨t1, rfl⟩, hp1, hq1, ?_, ?_⟩
      · simp only [List.length_cons] at hl
        simp
        omega
      · intro c h
        rcases List.mem_append.mp h with h | h
        · exact hc c h
        · simp at h; rw [h]; exact List.getElem_mem hk) (by
      rintro acc w ⟨cs, p, q, t, rfl, rfl, hp, hq, hl, hc⟩
      exact ⟨cs, p, q, t, rfl, rfl, by simpa using hl, hc, hp, hq⟩)
  obtain ⟨a, w, e, cs, p', q', t', rfl, rfl, h⟩ := main.out
  exact ⟨cs, p', q', t', e, h⟩
def InvF (xs : List Int) (rest : Store) (P : List Nat) (ds : List D) (e : SEnv) (w : Store) : Prop :=
  ∃ (dn r : List (List Nat)) (u : List Nat) (p q t : Int) (c3 c4 : Option D), toks P = dn ++ r ∧ ds = r.map D.str ∧ e = [some (.ref 1), some (.str P), some (.str u), c3, c4] ∧ w = mkT xs p q t rest ∧ u.length ≤ 2 * dn.length ∧ cpsOk u = true ∧ 0 ≤ p ∧ 0 ≤ q
theorem filled_ok {xs : List Int} {p q t : Int} {rest : Store} {P : List Nat} (hp : 0 ≤ p) (hq : 0 ≤ q) (hP : P.length ≤ 100) (hc : cpsOk P = true) :
    ∃ (u : List Nat) (p' q' t' : Int), c_l_filled [.ref 1, .str P] (mkT xs p q t rest) = .ok (.v (.str u)) (mkT xs p' q' t' rest) ∧ u.length ≤ 200 ∧ cpsOk u = true ∧ 0 ≤ p' ∧ 0 ≤ q' := by
  have main : Wp (c_l_filled [.ref 1, .str P] (mkT xs p q t rest)) fun a w => ∃ (u : List Nat) (p' q' t' : Int), a = .v (.str u) ∧ w = mkT xs p' q' t' rest ∧ u.length ≤ 200 ∧ cpsOk u = true ∧ 0 ≤ p' ∧ 0 ≤ q' := by
    refine wpc ?_
    have key : ∀ (u : List Nat) (p' q' t' : Int), u.length ≤ 200 → cpsOk u = true → 0 ≤ p' → 0 ≤ q' → Lv (mkT xs p q t rest) (fun a w => ∃ (u : List Nat) (p' q' t' : Int), a = .v (.str u) ∧ w = mkT xs p' q' t' rest ∧ u.length ≤ 200 ∧ cpsOk u = true ∧ 0 ≤ p' ∧ 0 ≤ q') (.v (.str u)) (mkT xs p' q' t' rest) :=
      fun u p' q' t' h2 h3 h4 h5 => Lv.tape0 rfl ⟨u, p', q', t', rfl, rfl, h2, h3, h4, h5⟩
    generalize Lv (mkT xs p q t rest) _ = Q at key ⊢
    have e1 := fun st => parts_ok (p := P) (st := st) (by omega)
    have tl := toks_len P
    unfold d_l_filled
    simp [e1]
    rw [WpR_seq]
    refine wp_forL (InvF xs rest P) ⟨[], toks P, [], p, q, t, none, none, rfl, rfl, rfl, rfl, Nat.le_refl _, rfl, hp, hq⟩ ?_ ?_
    · rintro d ds e w ⟨dn, r, u, p, q, t, c3, c4, h1, h2, rfl, rfl, h4, h5, hp, hq⟩
      cases r with
      | nil => cases h2
      | cons y r =>
        cases h2
        refine ⟨_, rfl, ?_⟩
        have hy : y ∈ toks P := by rw [h1]; simp
        have hdl : dn.length + 1 ≤ 100 := by
          have := congrArg List.length h1
          rw [List.length_append, List.length_cons] at this
          omega
        have gu : ∀ f : List Nat, f.length ≤ 2 → u.length + f.length ≤ sLine := fun f h => by show _ ≤ 16777216; omega
        have next : ∀ (f : List Nat) (p q t : Int) (c4 : Option D), f.length ≤ 2 → cpsOk f = true → 0 ≤ p → 0 ≤ q → InvF xs rest P (r.map D.str) [some (.ref 1), some (.str P), some (.str (u ++ f)), some (.str y), c4] (mkT xs p q t rest) :=
          fun f p q t c4 hf hcf hp hq => ⟨dn ++ [y], r, u ++ f, p, q, t, _, c4, by rw [h1]; simp, rfl, rfl, rfl, by rw [List.length_append, List.length_append]; simp only [List.length_cons, List.length_nil]; omega, by simp only [cpsOk, List.all_append, Bool.and_eq_true] at h5 hcf ⊢; exact ⟨h5, hcf⟩, hp, hq⟩
        obtain ⟨a, p1, q1, t1, e2, a0, a1, hp1, hq1⟩ := tape_draw (xs := xs) (t := t) (many := 3) (rest := rest) hp hq (by decide)
        have hr : rOk a := rOk_of (by omega) (by omega)
        have ha2 : a.toNat ≤ sLine := by show _ ≤ 16777216; omega
        by_cases y1 : y = [42]
        · subst y1
          obtain ⟨cs, p2, q2, t2, e3, l1, l2, hp2, hq2⟩ := fill_ok (xs := xs) (rest := rest) (M := [97, 98, 58]) rfl (some (.str P)) (some (.str u)) (some (.str [42])) a.toNat (t := t1) hp1 hq1
          have jn := join_signs (st := mkT xs p2 q2 t2 rest) (cs := cs) (by omega)
          have gg := gu cs (by omega)
          simp [e2, e3, hr, rngL_len, ha2, jn, gg]
          refine next cs _ _ _ _ (by omega) ?_ hp2 hq2
          · simp only [cpsOk, List.all_eq_true, decide_eq_true_eq]
            intro c hc
            have := l2 c hc
            simp at this
            omega
        · by_cases y2 : y = [42, 42]
          · subst y2
            obtain ⟨cs, p2, q2, t2, e3, l1, l2, hp2, hq2⟩ := fill_ok (xs := xs) (rest := rest) (M := [97, 47, 98]) rfl (some (.str P)) (some (.str u)) (some (.str [42, 42])) a.toNat (t := t1) hp1 hq1
            have jn := join_signs (st := mkT xs p2 q2 t2 rest) (cs := cs) (by omega)
            have gg := gu cs (by omega)
            simp [e2, e3, hr, rngL_len, ha2, jn, gg]
            refine next cs _ _ _ _ (by omega) ?_ hp2 hq2
            · simp only [cpsOk, List.all_eq_true, decide_eq_true_eq]
              intro c hc
              have := l2 c hc
              simp at this
              omega
          · have yl := (toks_one P y hy).resolve_left y2
            have gg := gu y (by omega)
            simp [y1, y2, gg]
            exact next y _ _ _ _ (by omega) (toks_cps hc hy) hp hq
    · rintro e w ⟨dn, r, u, p, q, t, c3, c4, h1, h2, rfl, rfl, h4, h5, hp, hq⟩
      have : r = [] := by cases r with
        | nil => rfl
        | cons _ _ => cases h2
      subst this
      rw [List.append_nil] at h1
      rw [← h1] at h4
      simp
      exact key u p q t (by omega) h5 hp hq
  obtain ⟨a, w, e, u, p', q', t', rfl, rfl, h⟩ := main.out
  exact ⟨u, p', q', t', e, h⟩
end Law

/-! ## K08q -/
set_option Elab.async false
set_option linter.all false
set_option maxRecDepth 100000
namespace Law
open PySem Ev
abbrev OS : Type := Option (List Nat)
def lsO (w b : OS) : Bool := match w, b with
  | none, b => b.isNone
  | some _, none => true
  | some x, some y => shl x y
def mnS (b w : OS) : OS := if lsO w b then w else b
@[simp] theorem mnS_l (w : OS) : mnS none w = w := by cases w <;> rfl
@[simp] theorem mnS_r (w : OS) : mnS w none = w := by cases w <;> rfl
theorem shl_tot {x y : List Nat} (h : shl x y = false) (k : shl y x = false) : x = y := congrArg Prod.snd (sordA.tot _ _ h k)
theorem mnS_comm (x y : OS) : mnS x y = mnS y x := by
  cases x with
  | none => simp
  | some x =>
    cases y with
    | none => simp
    | some y =>
      show (if shl y x then some y else some x) = (if shl x y then some x else some y)
      cases h : shl y x <;> cases k : shl x y
      · rw [shl_tot h k]
      · rfl
      · rfl
      · have : shl x x = true := sordA.tr _ _ _ k h
        have ir : shl x x = false := sordA.ir _
        rw [ir] at this
        cases this
def lets (s g : List Nat) : Bool := decide (s = [42, 42]) || (decide (s = [42]) && !decide (g = [47]))
def third (a b : List Nat) (X Y Z : OS) : List OS :=
  if starB a then (if starB b then [] else if lets a b then [Y.map (b ++ ·)] else [])
  else if starB b then (if lets b a then [X.map (a ++ ·)] else []) else if a = b then [Z.map (a ++ ·)] else []
def cands (a b : List Nat) (X Y Z : OS) : List OS := (if starB a then [X] else []) ++ ((if starB b then [Y] else []) ++ third a b X Y Z)
def bst : List (List Nat) → List (List Nat) → OS
  | [], [] => some []
  | a :: l, [] => (if starB a then [bst l []] else []).foldl mnS none
  | [], b :: r => (if starB b then [bst [] r] else []).foldl mnS none
  | a :: l, b :: r => (cands a b (bst l (b :: r)) (bst (a :: l) r) (bst l r)).foldl mnS none
termination_by l r => l.length + r.length
theorem third_swap (a b : List Nat) (X Y Z : OS) : third a b X Y Z = third b a Y X Z := by
  unfold third
  cases ha : starB a <;> cases hb : starB b <;> simp
  by_cases h : a = b
  · subst h; simp
  · have : ¬ b = a := fun q => h q.symm
    simp [h, this]
theorem bst_comm : ∀ l r : List (List Nat), bst l r = bst r l
  | [], [] => rfl
  | a :: l, [] => by rw [bst, bst, bst_comm l []]
  | [], b :: r => by rw [bst, bst, bst_comm [] r]
  | a :: l, b :: r => by
    rw [bst, bst, bst_comm l (b :: r), bst_comm (a :: l) r, bst_comm l r]
    unfold cands
    rw [third_swap a b]
    cases starB a <;> cases starB b <;> simp [mnS_comm]
termination_by l r => l.length + r.length
/-- the candidates at a cell -/
def wlist : List (List Nat) → List (List Nat) → List OS
  | [], [] => []
  | a :: l, [] => if starB a then [bst l []] else []
  | [], b :: r => if starB b then [bst [] r] else []
  | a :: l, b :: r => cands a b (bst l (b :: r)) (bst (a :: l) r) (bst l r)
theorem bst_wl (l r : List (List Nat)) : bst l r = (wlist l r).foldl mnS (if l = [] ∧ r = [] then some [] else none) := by
  cases l <;> cases r <;> rw [bst] <;> rfl
/-- one sign or a star -/
def TkOk (l : List (List Nat)) : Prop := ∀ t ∈ l, cpsOk t = true ∧ (t.length = 1 ∨ t = [42, 42])
theorem TkOk.tail {a : List Nat} {l : List (List Nat)} (h : TkOk (a :: l)) : TkOk l := fun t ht => h t (List.mem_cons_of_mem _ ht)
theorem fold_mem : ∀ {l : List OS} {b : OS} {s : List Nat}, l.foldl mnS b = some s → b = some s ∨ some s ∈ l
  | [], b, s, h => .inl h
  | w :: l, b, s, h => by
    rcases fold_mem (l := l) h with h | h
    · unfold mnS at h
      split at h
      · exact .inr (by rw [← h]; exact List.mem_cons_self ..)
      · exact .inl h
    · exact .inr (List.mem_cons_of_mem _ h)
def BsOk (n : Nat) (o : OS) : Prop := ∀ s, o = some s → s.length ≤ n ∧ cpsOk s = true
theorem BsOk.pre {n : Nat} {o : OS} {a : List Nat} (h : BsOk n o) (ha : a.length = 1) (hc : cpsOk a = true) : BsOk (n + 1) (o.map (a ++ ·)) := by
  intro s hs
  cases o with
  | none => cases hs
  | some x =>
    cases hs
    obtain ⟨h1, h2⟩ := h x rfl
    refine ⟨by rw [List.length_append]; omega, ?_⟩
    simp only [cpsOk, List.all_append, Bool.and_eq_true] at h2 hc ⊢
    exact ⟨hc, h2⟩
theorem BsOk.mono {n m : Nat} {o : OS} (h : BsOk n o) (hm : n ≤ m) : BsOk m o := fun s hs => ⟨Nat.le_trans (h s hs).1 hm, (h s hs).2⟩
theorem third_ok {a b : List Nat} {X Y Z : OS} {n : Nat} (ha : cpsOk a = true ∧ (a.length = 1 ∨ a = [42, 42])) (hb : cpsOk b = true ∧ (b.length = 1 ∨ b = [42, 42])) (hX : BsOk n X) (hY : BsOk n Y) (hZ : BsOk n Z) : ∀ o ∈ third a b X Y Z, BsOk (n + 1) o := by
  have one : ∀ {t : List Nat}, starB t = false → (t.length = 1 ∨ t = [42, 42]) → t.length = 1 := fun {t} h k => by
    rcases k with k | rfl
    · exact k
    · cases h
  intro o ho
  unfold third at ho
  cases sa : starB a <;> cases sb : starB b <;> simp only [sa, sb, if_true, if_false, Bool.false_eq_true] at ho
  · split at ho
    · rw [List.mem_singleton.mp ho]; exact hZ.pre (one sa ha.2) ha.1
    · cases ho
  · split at ho
    · rw [List.mem_singleton.mp ho]; exact hX.pre (one sa ha.2) ha.1
    · cases ho
  · split at ho
    · rw [List.mem_singleton.mp ho]; exact hY.pre (one sb hb.2) hb.1
    · cases ho
  · cases ho
theorem ites_mem {c : Bool} {X o : OS} (h : o ∈ (if c then [X] else [])) : o = X := by
  cases c
  · cases h
  · exact List.mem_singleton.mp h
theorem bst_ok : ∀ (l r : List (List Nat)), TkOk l → TkOk r → BsOk (l.length + r.length) (bst l r)
  | [], [], _, _ => by
    rw [bst]
    rintro s ⟨⟩
    exact ⟨Nat.le_refl _, rfl⟩
  | a :: l, [], hl, hr => by
    intro s hs
    rw [bst] at hs
    rcases fold_mem hs with h | h
    · cases h
    · have := ites_mem h
      have ih := (bst_ok l [] hl.tail hr).mono (m := (a :: l).length + ([] : List (List Nat)).length) (by simp)
      exact ih s this.symm
  | [], b :: r, hl, hr => by
    intro s hs
    rw [bst] at hs
    rcases fold_mem hs with h | h
    · cases h
    · have := ites_mem h
      have ih := (bst_ok [] r hl hr.tail).mono (m := ([] : List (List Nat)).length + (b :: r).length) (by simp)
      exact ih s this.symm
  | a :: l, b :: r, hl, hr => by
    intro s hs
    rw [bst] at hs
    have hX := (bst_ok l (b :: r) hl.tail hr).mono (m := l.length + r.length + 1) (by simp; omega)
    have hY := (bst_ok (a :: l) r hl hr.tail).mono (m := l.length + r.length + 1) (by simp; omega)
    have hZ := (bst_ok l r hl.tail hr.tail).mono (m := l.length + r.length + 1) (by omega)
    have n2 : (a :: l).length + (b :: r).length = l.length + r.length + 1 + 1 := by simp; omega
    rw [n2]
    rcases fold_mem hs with h | h
    · cases h
    · unfold cands at h
      rcases List.mem_append.mp h with h | h
      · exact (hX.mono (Nat.le_succ _)) s (ites_mem h).symm
      · rcases List.mem_append.mp h with h | h
        · exact (hY.mono (Nat.le_succ _)) s (ites_mem h).symm
        · exact third_ok (hl a (List.mem_cons_self ..)) (hr b (List.mem_cons_self ..)) hX hY hZ _ h s rfl
termination_by l r => l.length + r.length
/-- the least of those that are there -/
theorem fold_some : ∀ (l : List OS) (x : List Nat), l.foldl mnS (some x) = some ((l.filterMap id).foldl (fun a y => if shl y a then y else a) x)
  | [], x => rfl
  | none :: l, x => by
    rw [List.foldl_cons, mnS_r, fold_some l x]
    rfl
  | some y :: l, x => by
    rw [List.foldl_cons]
    have : mnS (some x) (some y) = some (if shl y x then y else x) := by
      show (if shl y x then some y else some x) = _
      split <;> rfl
    rw [this, fold_some l]
    rfl
def leastO : List (List Nat) → OS
  | [] => none
  | x :: xs => some (minSL x xs)
theorem fold_none : ∀ (l : List OS), l.foldl mnS none = leastO (l.filterMap id)
  | [] => rfl
  | none :: l => by
    rw [List.foldl_cons, mnS_r, fold_none l]
    rfl
  | some y :: l => by
    rw [List.foldl_cons, mnS_l, fold_some]
    rfl
theorem toks_tk {s : List Nat} (h : cpsOk s = true) : TkOk (toks s) := fun t ht => ⟨by
  simp only [cpsOk, List.all_eq_true] at h ⊢
  intro c hc
  refine h c ?_
  rw [← toks_flat s]
  exact List.mem_flatten.mpr ⟨t, ht, hc⟩, (toks_one s t ht).symm⟩
theorem wlist_ok (l r : List (List Nat)) (hl : TkOk l) (hr : TkOk r) : ∀ o ∈ wlist l r, BsOk (l.length + r.length) o := by
  intro o ho
  cases l with
  | nil =>
    cases r with
    | nil => cases ho
    | cons b r =>
      rw [ites_mem (show o ∈ (if starB b then [bst [] r] else []) from ho)]
      exact (bst_ok [] r hl hr.tail).mono (by simp)
  | cons a l =>
    cases r with
    | nil =>
      rw [ites_mem (show o ∈ (if starB a then [bst l []] else []) from ho)]
      exact (bst_ok l [] hl.tail hr).mono (by simp)
    | cons b r =>
      have hX := (bst_ok l (b :: r) hl.tail hr).mono (m := l.length + r.length + 1) (by simp; omega)
      have hY := (bst_ok (a :: l) r hl hr.tail).mono (m := l.length + r.length + 1) (by simp; omega)
      have hZ := (bst_ok l r hl.tail hr.tail).mono (m := l.length + r.length + 1) (by omega)
      have n2 : (a :: l).length + (b :: r).length = l.length + r.length + 1 + 1 := by simp; omega
      rw [n2]
      have h : o ∈ cands a b (bst l (b :: r)) (bst (a :: l) r) (bst l r) := ho
      unfold cands at h
      rcases List.mem_append.mp h with h | h
      · rw [ites_mem h]; exact hX.mono (Nat.le_succ _)
      · rcases List.mem_append.mp h with h | h
        · rw [ites_mem h]; exact hY.mono (Nat.le_succ _)
        · exact third_ok (hl a (List.mem_cons_self ..)) (hr b (List.mem_cons_self ..)) hX hY hZ _ h
end Law

/-! ## K08r -/
set_option Elab.async false
set_option linter.all false
set_option maxRecDepth 100000
namespace Law
open PySem Ev
def optD : OS → D
  | none => .non
  | some s => .str s
theorem optDs_pure (l : List OS) : D.pures (l.map optD) = true := by
  induction l with
  | nil => rfl
  | cons o l ih => cases o <;> simpa [optD, D.pures, D.pure] using ih
theorem optD_pure (o : OS) : D.pure (optD o) = true := by cases o <;> rfl
/-! ### small defs -/
theorem lets_ok (s g : List Nat) (st : Store) : c_l_lets [.str s, .str g] st = .ok (.v (.bl (lets s g))) st := by
  refine call_pure ?_ rfl
  unfold d_l_lets lets
  by_cases h : s = [42, 42]
  · simp [h]
  · by_cases h2 : s = [42]
    · simp [h, h2]
    · simp [h, h2]
theorem behind_ok {a : List Nat} {o : OS} {n : Nat} (hn : n ≤ 100000) (h : BsOk n o) (ha : a.length ≤ 2) (st : Store) : c_l_behind [.str a, optD o] st = .ok (.v (optD (o.map (a ++ ·)))) st := by
  refine call_pure ?_ (optD_pure _)
  have hsl : sLine = 16777216 := rfl
  unfold d_l_behind
  cases o with
  | none => simp [optD]
  | some s =>
    have := (h s rfl).1
    have g : a.length + s.length ≤ sLine := by omega
    simp [optD, g]
@[simp] theorem dLt_tups (l m : List D) (st : Store) : dLt (.v (.tup l)) (.v (.tup m)) st = (ltD l m).map fun k => .v (.bl k) := .trans rfl rfl
theorem ltD_sl {x y : List Nat} (hx : cpsOk x = true) (hy : cpsOk y = true) : ltD [.int x.length, .str x] [.int y.length, .str y] = some (shl x y) := by
  have sh : SeqAt.shaped (.tuple (D.toPys [D.int x.length, .str x])) = true := ok_shaped (d := .tup [.int x.length, .str x]) (by simp [D.ok, D.oks, hx])
  have al : PySem.W.alike (.tuple (D.toPys [D.int x.length, D.str x])) (.tuple (D.toPys [D.int y.length, D.str y])) = true := by simp [D.toPys, D.toPy, PySem.W.alike, PySem.W.alikeAll]
  unfold ltD
  rw [al, sh]
  simp only [D.pures, D.pure, Bool.and_self, if_true]
  exact congrArg some (dataLt_is (x.length : Int) (y.length : Int) ⟨x.toArray⟩ ⟨y.toArray⟩)
theorem less_ok {w b : OS} {n : Nat} (hn : n ≤ 100000) (hw : BsOk n w) (hb : BsOk n b) (st : Store) : c_l_less [optD w, optD b] st = .ok (.v (.bl (lsO w b))) st := by
  refine call_pure ?_ rfl
  have hsl : sLine = 16777216 := rfl
  unfold d_l_less
  cases w with
  | none => cases b <;> simp [optD, lsO]
  | some x =>
    cases b with
    | none => simp [optD, lsO]
    | some y =>
      obtain ⟨x1, x2⟩ := hw x rfl
      obtain ⟨y1, y2⟩ := hb y rfl
      have g1 : x.length ≤ sLine := by omega
      have g2 : y.length ≤ sLine := by omega
      simp [optD, lsO, g1, g2, ltD_sl x2 y2]
      omega
theorem least_ok {ns : List (List Nat)} {r : Nat} {st : Store} (h : st[r]? = some (.lst (ns.map D.str))) (hl : ns.length ≤ 1000) (hz : ∀ x ∈ ns, x.length ≤ 100000) : c_least [.ref r] st = .ok (.v (optD (leastO ns))) st := by
  refine call_pure ?_ (optD_pure _)
  have hsl : sLine = 16777216 := rfl
  unfold d_least
  have g : ns.length ≤ sLine := by omega
  cases ns with
  | nil => simp [h, leastO, optD]
  | cons x xs =>
    have e : dMinSL (.v (.ref r)) st = some (.v (.str (minSL x xs))) := by
      have l1 : lstV st (.v (.ref r)) = some ((x :: xs).map D.str) := by simp [lstV, h]
      unfold dMinSL
      rw [l1]
      simp only [strsOf_map]
      rw [if_pos]
      rw [List.all_eq_true]
      exact fun y hy => decide_eq_true (hz y hy)
    have g' : xs.length + 1 ≤ sLine := g
    simp [h, leastO, optD, e, g']
    omega
/-! ### membership in the tuples of stars -/
theorem in2 {a : List Nat} (h : cpsOk a = true) (st : Store) : dIn (.v (.str a)) (.v (.tup [.str [42], .str [42, 42]])) st = some (.v (.bl (starB a))) := by
  rw [dIn_tup (by simpa [D.ok] using h) (by decide +kernel)]
  simp [starB]
theorem nin2 {a : List Nat} (h : cpsOk a = true) (st : Store) : dNotIn (.v (.str a)) (.v (.tup [.str [42], .str [42, 42]])) st = some (.v (.bl (!starB a))) := by
  rw [dNotIn_tup (by simpa [D.ok] using h) (by decide +kernel)]
  simp [starB]
theorem nin3 {a : List Nat} (h : cpsOk a = true) (st : Store) : dNotIn (.v (.str a)) (.v (.tup [.str [], .str [42], .str [42, 42]])) st = some (.v (.bl (!(decide (a = []) || starB a)))) := by
  rw [dNotIn_tup (by simpa [D.ok] using h) (by decide +kernel)]
  simp [starB]
theorem dAdd_e {L : List (List Nat)} {p : Nat} {w : Store} (h : w[p]? = some (.lst (L.map D.str))) (hl : L.length ≤ 1000) : dAdd (.v (.ref p)) (.t [.str []]) w = some (.t (L.map D.str ++ [.str []])) := by
  have hsl : sLine = 16777216 := rfl
  have g : L.length + 1 ≤ sLine := by omega
  have l1 : lstM w (.v (.ref p)) = some (L.map D.str) := by simp [lstM, h]
  show (match lstM w (.v (.ref p)), lstM w (.t [.str []]) with
    | some s, some t => if s.length + t.length ≤ sLine then some (RV.t (s ++ t)) else none
    | _, _ => none) = _
  rw [l1]
  have l2 : lstM w (.t [.str []]) = some [.str []] := rfl
  rw [l2]
  simp [g]
/-! ### the table -/
def TbK (kvs : List (D × D)) (L R : List (List Nat)) (i k : Nat) : Prop := ∀ i' j' : Nat, i' ≤ L.length → j' ≤ R.length → (i < i' ∨ (i = i' ∧ k ≤ j')) → dvV kvs (.tup [.int (i' : Int), .int (j' : Int)]) = some (optD (bst (L.drop i') (R.drop j')))
theorem TbK.get {kvs : List (D × D)} {L R : List (List Nat)} {i k m : Nat} (t : TbK kvs L R i k) {w : Store} (hw : w[m]? = some (.dict true kvs)) {i' j' : Nat} (h1 : i' ≤ L.length) (h2 : j' ≤ R.length) (h3 : i < i' ∨ (i = i' ∧ k ≤ j')) {x y : Int} (hx : x = (i' : Int)) (hy : y = (j' : Int)) :
    KDG2 (.v (.ref m)) [.int x, .int y] w = .ok (.v (optD (bst (L.drop i') (R.drop j')))) w := by
  subst hx hy
  exact KDG2_ok (ks := [.inl (i' : Int), .inl (j' : Int)]) hw rfl (t i' j' h1 h2 h3) (show (2 : Nat) ≤ sLine by decide)
def tk (L : List (List Nat)) (i : Nat) : List Nat := (L ++ [[]]).getD i []
theorem tk_at {L : List (List Nat)} {i : Nat} (hi : i ≤ L.length) (w : Store) : dIx (.t (L.map D.str ++ [D.str []])) (.v (.int (i : Int))) w = some (.v (.str (tk L i))) := by
  have e : L2.atI ((L ++ [[]]).map D.str) (i : Int) = some (.str (tk L i)) := by
    rw [atI_lit, List.getElem?_map]
    have : i < (L ++ [[]]).length := by simp; omega
    rw [List.getElem?_eq_getElem this]
    simp only [Option.map_some, Option.some.injEq, D.str.injEq]
    unfold tk
    rw [List.getD_eq_getElem?_getD, List.getElem?_eq_getElem this]
    rfl
  rw [List.map_append] at e
  have e2 : dIx (.t (L.map D.str ++ [D.str []])) (.v (.int (i : Int))) w = (L2.atI (L.map D.str ++ [D.str []]) (i : Int)).map .v := by simp
  rw [e2]
  have e3 : ([[]] : List (List Nat)).map D.str = [D.str []] := rfl
  rw [e3] at e
  rw [e]
  rfl
theorem tk_lt {L : List (List Nat)} {i : Nat} (hi : i < L.length) : tk L i = L[i] := by
  unfold tk
  rw [List.getD_eq_getElem?_getD, List.getElem?_append_left hi, List.getElem?_eq_getElem hi]
  rfl
theorem tk_end (L : List (List Nat)) : tk L L.length = [] := by
  unfold tk
  rw [List.getD_eq_getElem?_getD, List.getElem?_append_right (Nat.le_refl _)]
  simp
theorem star_one {a : List Nat} (h : starB a = false) (k : a.length = 1 ∨ a = [42, 42]) : a.length = 1 := by
  rcases k with k | rfl
  · exact k
  · cases h
theorem ne_of_one {a : List Nat} (h : a.length = 1) : a ≠ [] := by
  rintro rfl
  cases h
theorem ne_of_star {a : List Nat} (h : starB a = true) : a ≠ [] := by
  rintro rfl
  cases h
theorem lets_ns {s g : List Nat} (h : starB s = false) : lets s g = false := by
  unfold starB at h
  simp only [Bool.or_eq_false_iff, decide_eq_false_iff_not] at h
  unfold lets
  simp [h.1, h.2]
theorem ways_ok {L R : List (List Nat)} {i j p q m : Nat} {st : Store} {kvs : List (D × D)} (hL : TkOk L) (hR : TkOk R) (lL : L.length ≤ 1000) (lR : R.length ≤ 1000) (hi : i ≤ L.length) (hj : j ≤ R.length) (hp : st[p]? = some (.lst (L.map D.str))) (hq : st[q]? = some (.lst (R.map D.str))) (hm : st[m]? = some (.dict true kvs)) (tb : TbK kvs L R i (j + 1)) :
    c_l_ways [.ref p, .ref q, .int (i : Int), .int (j : Int), .ref m] st = .ok (.t ((wlist (L.drop i) (R.drop j)).map optD)) st := by
  refine call_list ?_ (optDs_pure _)
  have hsl : sLine = 16777216 := rfl
  have g0 : 0 ≤ sLine := by decide
  have z0 : 0 < sLine := by decide
  have z1 : 1 < sLine := by decide
  have z2 : 2 < sLine := by decide
  have z3 : 2 ≤ sLine := by decide
  have z4 : 3 ≤ sLine := by decide
  have z5 : 1 ≤ sLine := by decide
  have keep : ∀ {k : Nat} {C : Cell}, st[k]? = some C → ∀ x : Store, (st ++ x)[k]? = some C := fun {k C} h x => by
    rw [List.getElem?_append_left (List.getElem?_eq_some_iff.mp h).1]; exact h
  have a1 := fun x : Store => dAdd_e (keep hp x) lL
  have a2 := fun x : Store => dAdd_e (keep hq x) lR
  have i1 := fun w => tk_at hi w
  have i2 := fun w => tk_at hj w
  have km := fun x : Store => keep hm x
  unfold d_l_ways
  by_cases hi2 : i < L.length <;> by_cases hj2 : j < R.length
  · have dL : L.drop i = L[i] :: L.drop (i + 1) := List.drop_eq_getElem_cons hi2
    have dR : R.drop j = R[j] :: R.drop (j + 1) := List.drop_eq_getElem_cons hj2
    obtain ⟨ca, la⟩ := hL L[i] (List.getElem_mem hi2)
    obtain ⟨cb, lb⟩ := hR R[j] (List.getElem_mem hj2)
    rw [tk_lt hi2] at i1
    rw [tk_lt hj2] at i2
    have gX := fun x : Store => tb.get (km x) (i' := i + 1) (j' := j) hi2 (by omega) (.inl (by omega)) (x := (i : Int) + 1) (y := (j : Int)) (by omega) rfl
    have gY := fun x : Store => tb.get (km x) (i' := i) (j' := j + 1) (by omega) hj2 (.inr ⟨rfl, by omega⟩) (x := (i : Int)) (y := (j : Int) + 1) rfl (by omega)
    have gZ := fun x : Store => tb.get (km x) (i' := i + 1) (j' := j + 1) hi2 hj2 (.inl (by omega)) (x := (i : Int) + 1) (y := (j : Int) + 1) (by omega) (by omega)
    have oX := bst_ok (L.drop (i + 1)) (R.drop j) (fun t ht => hL t (List.mem_of_mem_drop ht)) (fun t ht => hR t (List.mem_of_mem_drop ht))
    have oY := bst_ok (L.drop i) (R.drop (j + 1)) (fun t ht => hL t (List.mem_of_mem_drop ht)) (fun t ht => hR t (List.mem_of_mem_drop ht))
    have oZ := bst_ok (L.drop (i + 1)) (R.drop (j + 1)) (fun t ht => hL t (List.mem_of_mem_drop ht)) (fun t ht => hR t (List.mem_of_mem_drop ht))
    have lX : (L.drop (i + 1)).length + (R.drop j).length ≤ 100000 := by rw [List.length_drop, List.length_drop]; omega
    have lY : (L.drop i).length + (R.drop (j + 1)).length ≤ 100000 := by rw [List.length_drop, List.length_drop]; omega
    have lZ : (L.drop (i + 1)).length + (R.drop (j + 1)).length ≤ 100000 := by rw [List.length_drop, List.length_drop]; omega
    have wl : wlist (L.drop i) (R.drop j) = cands L[i] R[j] (bst (L.drop (i + 1)) (R.drop j)) (bst (L.drop i) (R.drop (j + 1))) (bst (L.drop (i + 1)) (R.drop (j + 1))) := by
      rw [dL, dR]; rfl
    rw [wl]
    have two : ∀ {t : List Nat}, (t.length = 1 ∨ t = [42, 42]) → t.length ≤ 2 := fun {t} h => by
      rcases h with h | rfl
      · omega
      · decide
    have bX := fun w => behind_ok lX oX (two la) w
    have bY := fun w => behind_ok lY oY (two lb) w
    have bZ := fun w => behind_ok lZ oZ (two la) w
    have lab := fun w => lets_ok L[i] R[j] w
    have lba := fun w => lets_ok R[j] L[i] w
    generalize bst (L.drop (i + 1)) (R.drop j) = X at *
    generalize bst (L.drop i) (R.drop (j + 1)) = Y at *
    generalize bst (L.drop (i + 1)) (R.drop (j + 1)) = Z at *
    generalize L[i] = a at *
    generalize R[j] = b at *
    have m1 := fun st => in2 ca st
    have m2 := fun st => in2 cb st
    have m3 := fun st => nin2 ca st
    have m4 := fun st => nin3 ca st
    have m5 := fun st => nin3 cb st
    unfold cands third
    cases sa : starB a <;> cases sb : starB b
    · have na := ne_of_one (star_one sa la)
      have nb := ne_of_one (star_one sb lb)
      have q1 : lets a b = false := lets_ns sa
      have q2 : lets b a = false := lets_ns sb
      by_cases ab : a = b
      · subst ab
        simp [g0, a1, a2, i1, i2, km, m1, m2, m3, m4, m5, sa, sb, na, nb, gX, gY, gZ, bX, bY, bZ, lab, lba, z0, z1, z2, z3, z4, z5, q1]
      · simp [g0, a1, a2, i1, i2, km, m1, m2, m3, m4, m5, sa, sb, na, nb, gX, gY, gZ, bX, bY, bZ, lab, lba, z0, z1, z2, z3, z4, z5, ab, q1, q2]
    · have na := ne_of_one (star_one sa la)
      have nb := ne_of_star sb
      have ab : a ≠ b := by rintro rfl; rw [sa] at sb; cases sb
      have q1 : lets a b = false := lets_ns sa
      cases q : lets b a
      · simp [g0, a1, a2, i1, i2, km, m1, m2, m3, m4, m5, sa, sb, na, nb, gX, gY, gZ, bX, bY, bZ, lab, lba, z0, z1, z2, z3, z4, z5, ab, q, q1]
      · simp [g0, a1, a2, i1, i2, km, m1, m2, m3, m4, m5, sa, sb, na, nb, gX, gY, gZ, bX, bY, bZ, lab, lba, z0, z1, z2, z3, z4, z5, ab, q, q1]
    · have na := ne_of_star sa
      have nb := ne_of_one (star_one sb lb)
      have ab : a ≠ b := by rintro rfl; rw [sa] at sb; cases sb
      have q1 : lets b a = false := lets_ns sb
      cases q : lets a b
      · simp [g0, a1, a2, i1, i2, km, m1, m2, m3, m4, m5, sa, sb, na, nb, gX, gY, gZ, bX, bY, bZ, lab, lba, z0, z1, z2, z3, z4, z5, ab, q, q1]
      · simp [g0, a1, a2, i1, i2, km, m1, m2, m3, m4, m5, sa, sb, na, nb, gX, gY, gZ, bX, bY, bZ, lab, lba, z0, z1, z2, z3, z4, z5, ab, q, q1]
    · have na := ne_of_star sa
      have nb := ne_of_star sb
      by_cases ab : a = b
      · subst ab
        simp [g0, a1, a2, i1, i2, km, m1, m2, m3, m4, m5, sa, sb, na, nb, gX, gY, gZ, bX, bY, bZ, lab, lba, z0, z1, z2, z3, z4, z5]
      · simp [g0, a1, a2, i1, i2, km, m1, m2, m3, m4, m5, sa, sb, na, nb, gX, gY, gZ, bX, bY, bZ, lab, lba, z0, z1, z2, z3, z4, z5, ab]
  · have hj3 : j = R.length := by omega
    subst hj3
    have dL : L.drop i = L[i] :: L.drop (i + 1) := List.drop_eq_getElem_cons hi2
    have dR : R.drop R.length = [] := List.drop_eq_nil_of_le (Nat.le_refl _)
    obtain ⟨ca, la⟩ := hL L[i] (List.getElem_mem hi2)
    rw [tk_lt hi2] at i1
    rw [tk_end] at i2
    have gX := fun x : Store => tb.get (km x) (i' := i + 1) (j' := R.length) hi2 (Nat.le_refl _) (.inl (by omega)) (x := (i : Int) + 1) (y := (R.length : Int)) (by omega) rfl
    rw [dR] at gX
    have wl : wlist (L.drop i) (R.drop R.length) = if starB L[i] then [bst (L.drop (i + 1)) []] else [] := by
      rw [dL, dR]; rfl
    rw [wl]
    have lab := fun w => lets_ok L[i] [] w
    have lba := fun w => lets_ok [] L[i] w
    have q2 : lets [] L[i] = false := lets_ns rfl
    generalize bst (L.drop (i + 1)) [] = X at *
    generalize L[i] = a at *
    have m1 := fun st => in2 ca st
    have m2 := fun st => in2 (a := []) rfl st
    have m3 := fun st => nin2 ca st
    have m4 := fun st => nin3 ca st
    have m5 := fun st => nin3 (a := []) rfl st
    have s0 : starB [] = false := rfl
    cases sa : starB a
    · have na := ne_of_one (star_one sa la)
      simp [g0, a1, a2, i1, i2, km, m1, m2, m3, m4, m5, sa, s0, na, gX, lab, lba, q2, z0, z1, z2, z3, z4, z5]
    · have na := ne_of_star sa
      simp [g0, a1, a2, i1, i2, km, m1, m2, m3, m4, m5, sa, s0, na, gX, lab, lba, q2, z0, z1, z2, z3, z4, z5]
  · have hi3 : i = L.length := by omega
    subst hi3
    have dR : R.drop j = R[j] :: R.drop (j + 1) := List.drop_eq_getElem_cons hj2
    have dL : L.drop L.length = [] := List.drop_eq_nil_of_le (Nat.le_refl _)
    obtain ⟨cb, lb⟩ := hR R[j] (List.getElem_mem hj2)
    rw [tk_end] at i1
    rw [tk_lt hj2] at i2
    have gY := fun x : Store => tb.get (km x) (i' := L.length) (j' := j + 1) (Nat.le_refl _) hj2 (.inr ⟨rfl, by omega⟩) (x := (L.length : Int)) (y := (j : Int) + 1) rfl (by omega)
    rw [dL] at gY
    have wl : wlist (L.drop L.length) (R.drop j) = if starB R[j] then [bst [] (R.drop (j + 1))] else [] := by
      rw [dL, dR]; rfl
    rw [wl]
    have lab := fun w => lets_ok R[j] [] w
    have lba := fun w => lets_ok [] R[j] w
    have q2 : lets [] R[j] = false := lets_ns rfl
    generalize bst [] (R.drop (j + 1)) = Y at *
    generalize R[j] = b at *
    have m1 := fun st => in2 (a := []) rfl st
    have m2 := fun st => in2 cb st
    have m3 := fun st => nin2 (a := []) rfl st
    have m4 := fun st => nin3 (a := []) rfl st
    have m5 := fun st => nin3 cb st
    have s0 : starB [] = false := rfl
    cases sb : starB b
    · have nb := ne_of_one (star_one sb lb)
      have nb2 : ¬ [] = b := fun h => nb h.symm
      simp [g0, a1, a2, i1, i2, km, m1, m2, m3, m4, m5, sb, s0, nb, nb2, gY, lab, lba, q2, z0, z1, z2, z3, z4, z5]
    · have nb := ne_of_star sb
      have nb2 : ¬ [] = b := fun h => nb h.symm
      simp [g0, a1, a2, i1, i2, km, m1, m2, m3, m4, m5, sb, s0, nb, nb2, gY, lab, lba, q2, z0, z1, z2, z3, z4, z5]
  · have hi3 : i = L.length := by omega
    have hj3 : j = R.length := by omega
    subst hi3 hj3
    have dL : L.drop L.length = [] := List.drop_eq_nil_of_le (Nat.le_refl _)
    have dR : R.drop R.length = [] := List.drop_eq_nil_of_le (Nat.le_refl _)
    rw [tk_end] at i1
    rw [tk_end] at i2
    have wl : wlist (L.drop L.length) (R.drop R.length) = [] := by rw [dL, dR]; rfl
    rw [wl]
    have m1 := fun st => in2 (a := []) rfl st
    have m3 := fun st => nin2 (a := []) rfl st
    have m4 := fun st => nin3 (a := []) rfl st
    have s0 : starB [] = false := rfl
    simp [g0, a1, a2, i1, i2, km, m1, m3, m4, s0, z0, z1, z2, z3, z4, z5]
end Law

/-! ## K08s -/
set_option Elab.async false
set_option linter.all false
set_option maxRecDepth 100000
namespace Law
open PySem Ev
theorem may_st {a b : List Nat} (hb : starB b = true) (ha : a.length = 1) (st : Store) : c_may_contain [.str b, .str a] st = .ok (.v (.bl (lets b a))) st := by
  obtain ⟨c, rfl⟩ : ∃ c, a = [c] := by
    cases a with
    | nil => cases ha
    | cons c r => cases r with
      | nil => exact ⟨c, rfl⟩
      | cons _ _ => simp at ha
  rw [may_ok]
  congr 3
  unfold starB at hb
  simp only [Bool.or_eq_true, decide_eq_true_eq] at hb
  unfold mayB lets
  rcases hb with rfl | rfl <;> simp
theorem may_ns {a b : List Nat} (hb : starB b = false) (ha : a.length = 1) (st : Store) : c_may_contain [.str b, .str a] st = .ok (.v (.bl (decide (b = a)))) st := by
  obtain ⟨c, rfl⟩ : ∃ c, a = [c] := by
    cases a with
    | nil => cases ha
    | cons c r => cases r with
      | nil => exact ⟨c, rfl⟩
      | cons _ _ => simp at ha
  rw [may_ok]
  congr 3
  unfold starB at hb
  simp only [Bool.or_eq_false_iff, decide_eq_false_iff_not] at hb
  unfold mayB
  simp [hb.1, hb.2]
theorem cpL {gd : Store → Prop} {x0 x1 x2 x3 x4 x5 x6 x7 : Option D} {st : Store} (hg : gd st) (l : List OS) : compL gd (.one 7) (eBool (e2 dNotN (eVar 7) (eC .non))) (eVar 7) [x0, x1, x2, x3, x4, x5, x6, x7] (l.map optD) st = .ok ((l.filterMap id).map D.str) st := by
  rw [comp_filterA (enc := optD) (F := optD) (q := fun o => o.isSome) hg fun o ho => ⟨_, rfl, by cases o <;> simp [optD], fun _ => by simp⟩]
  congr 1
  induction l with
  | nil => rfl
  | cons o l ih => cases o <;> simp [optD, ih]
theorem fin_cp {gd : Store → Prop} {x0 x1 x2 x3 x4 x5 x6 x7 : Option D} {st w : Store} {env : SEnv} {ds : List D} (hw : ∃ more, w = st ++ more) (hg : gd w) (l : List OS) (hd : ds = l.map optD) :
    WpR ((((compL gd (.one 7) (eBool (e2 dNotN (eVar 7) (eC .non))) (eVar 7) [x0, x1, x2, x3, x4, x5, x6, x7] ds w).bind KT).toS env SR.ret).seq sNil) fun a st' => (∃ more, st' = st ++ more) ∧ (a = .t ((l.filterMap id).map D.str) ∨ ∃ m, a = .v (.ref m) ∧ st.length ≤ m ∧ st'[m]? = some (.lst ((l.filterMap id).map D.str))) := by
  subst hd
  rw [cpL hg l]
  exact ⟨hw, .inl rfl⟩
theorem conts_ok {L R : List (List Nat)} {i j m : Nat} {st : Store} {kvs : List (D × D)} (hL : TkOk L) (hR : TkOk R) (lL : L.length ≤ 1000) (lR : R.length ≤ 1000) (hi : i ≤ L.length) (hj : j ≤ R.length) (hm : st[m]? = some (.dict true kvs)) (tb : TbK kvs L R i (j + 1)) :
    c_continuations [.tup (L.map D.str), .tup (R.map D.str), .int (i : Int), .int (j : Int), .ref m] st = .ok (.t (((wlist (L.drop i) (R.drop j)).filterMap id).map D.str)) st := by
  refine call_list ?_ (strs_pure _)
  have hsl : sLine = 16777216 := rfl
  have g0 : 0 ≤ sLine := by decide
  have z0 : 0 < sLine := by decide
  have z1 : 1 < sLine := by decide
  have z2 : 2 < sLine := by decide
  have z3 : 2 ≤ sLine := by decide
  have z5 : 1 ≤ sLine := by decide
  have gl : L.length ≤ sLine := by omega
  have gr : R.length ≤ sLine := by omega
  have keep : ∀ {k : Nat} {C : Cell}, st[k]? = some C → ∀ x : Store, (st ++ x)[k]? = some C := fun {k C} h x => by
    rw [List.getElem?_append_left (List.getElem?_eq_some_iff.mp h).1]; exact h
  have km := fun x : Store => keep hm x
  unfold d_continuations
  by_cases hi2 : i < L.length <;> by_cases hj2 : j < R.length
  · have dL : L.drop i = L[i] :: L.drop (i + 1) := List.drop_eq_getElem_cons hi2
    have dR : R.drop j = R[j] :: R.drop (j + 1) := List.drop_eq_getElem_cons hj2
    obtain ⟨ca, la⟩ := hL L[i] (List.getElem_mem hi2)
    obtain ⟨cb, lb⟩ := hR R[j] (List.getElem_mem hj2)
    have i1 : L2.atI (L.map D.str) (i : Int) = some (.str L[i]) := by rw [atI_lit, List.getElem?_map, List.getElem?_eq_getElem hi2]; rfl
    have i2 : L2.atI (R.map D.str) (j : Int) = some (.str R[j]) := by rw [atI_lit, List.getElem?_map, List.getElem?_eq_getElem hj2]; rfl
    have gX := fun x : Store => tb.get (km x) (i' := i + 1) (j' := j) hi2 (by omega) (.inl (by omega)) (x := (i : Int) + 1) (y := (j : Int)) (by omega) rfl
    have gY := fun x : Store => tb.get (km x) (i' := i) (j' := j + 1) (by omega) hj2 (.inr ⟨rfl, by omega⟩) (x := (i : Int)) (y := (j : Int) + 1) rfl (by omega)
    have gZ := fun x : Store => tb.get (km x) (i' := i + 1) (j' := j + 1) hi2 hj2 (.inl (by omega)) (x := (i : Int) + 1) (y := (j : Int) + 1) (by omega) (by omega)
    have oX := bst_ok (L.drop (i + 1)) (R.drop j) (fun t ht => hL t (List.mem_of_mem_drop ht)) (fun t ht => hR t (List.mem_of_mem_drop ht))
    have oY := bst_ok (L.drop i) (R.drop (j + 1)) (fun t ht => hL t (List.mem_of_mem_drop ht)) (fun t ht => hR t (List.mem_of_mem_drop ht))
    have oZ := bst_ok (L.drop (i + 1)) (R.drop (j + 1)) (fun t ht => hL t (List.mem_of_mem_drop ht)) (fun t ht => hR t (List.mem_of_mem_drop ht))
    have lX : (L.drop (i + 1)).length + (R.drop j).length ≤ 100000 := by rw [List.length_drop, List.length_drop]; omega
    have lY : (L.drop i).length + (R.drop (j + 1)).length ≤ 100000 := by rw [List.length_drop, List.length_drop]; omega
    have lZ : (L.drop (i + 1)).length + (R.drop (j + 1)).length ≤ 100000 := by rw [List.length_drop, List.length_drop]; omega
    have wl : wlist (L.drop i) (R.drop j) = cands L[i] R[j] (bst (L.drop (i + 1)) (R.drop j)) (bst (L.drop i) (R.drop (j + 1))) (bst (L.drop (i + 1)) (R.drop (j + 1))) := by
      rw [dL, dR]; rfl
    rw [wl]
    have s1 := fun w => is_star_ok L[i] w
    have s2 := fun w => is_star_ok R[j] w
    generalize bst (L.drop (i + 1)) (R.drop j) = X at *
    generalize bst (L.drop i) (R.drop (j + 1)) = Y at *
    generalize bst (L.drop (i + 1)) (R.drop (j + 1)) = Z at *
    generalize L[i] = a at *
    generalize R[j] = b at *
    have zX : ∀ s, X = some s → s.length + 1 ≤ sLine := fun s hs => by have := (oX s hs).1; omega
    have zY : ∀ s, Y = some s → s.length + 1 ≤ sLine := fun s hs => by have := (oY s hs).1; omega
    have zZ : ∀ s, Z = some s → s.length + 1 ≤ sLine := fun s hs => by have := (oZ s hs).1; omega
    clear oX oY oZ
    unfold cands third
    cases sa : starB a <;> cases sb : starB b
    · have na := star_one sa la
      have nb := star_one sb lb
      have y1 := fun w => may_ns sa nb w
      have y2 := fun w => may_ns sb na w
      by_cases ab : a = b
      · subst ab
        cases Z with
        | none =>
          simp [g0, gl, gr, hi2, hj2, i1, i2, s1, s2, km, sa, sb, gX, gY, gZ, optD, z0, z1, z2, z3, z5, na, nb, y1, y2]
          exact fin_cp ⟨_, rfl⟩ (by simp [optD]) [none] rfl
        | some z =>
          have zz := zZ z rfl
          have zz2 : 1 + z.length ≤ sLine := by omega
          simp [g0, gl, gr, hi2, hj2, i1, i2, s1, s2, km, sa, sb, gX, gY, gZ, optD, z0, z1, z2, z3, z5, na, nb, y1, y2, zz, zz2]
          exact fin_cp ⟨_, rfl⟩ (by simp [optD]) [some (a ++ z)] rfl
      · have ab2 : ¬ b = a := fun h => ab h.symm
        simp [g0, gl, gr, hi2, hj2, i1, i2, s1, s2, km, sa, sb, gX, gY, gZ, optD, z0, z1, z2, z3, z5, na, nb, y1, y2, ab, ab2]
        exact fin_cp ⟨_, rfl⟩ (by simp) [] rfl
    · have na := star_one sa la
      have y2 := fun w => may_st sb na w
      cases q : lets b a
      · simp [g0, gl, gr, hi2, hj2, i1, i2, s1, s2, km, sa, sb, gX, gY, gZ, optD, z0, z1, z2, z3, z5, na, y2, q]
        exact fin_cp ⟨_, rfl⟩ (by simp [optD]) [Y] rfl
      · -- X
        cases X with
        | none =>
          simp [g0, gl, gr, hi2, hj2, i1, i2, s1, s2, km, sa, sb, gX, gY, gZ, optD, z0, z1, z2, z3, z5, na, y2, q]
          exact fin_cp ⟨_, rfl⟩ (by simp [optD]) [Y, none] rfl
        | some z =>
          have zz := zX z rfl
          have zz2 : 1 + z.length ≤ sLine := by omega
          simp [g0, gl, gr, hi2, hj2, i1, i2, s1, s2, km, sa, sb, gX, gY, gZ, optD, z0, z1, z2, z3, z5, na, y2, q, zz, zz2]
          exact fin_cp ⟨_, rfl⟩ (by simp [optD]) [Y, some (a ++ z)] rfl
    · have nb := star_one sb lb
      have y1 := fun w => may_st sa nb w
      cases q : lets a b
      · simp [g0, gl, gr, hi2, hj2, i1, i2, s1, s2, km, sa, sb, gX, gY, gZ, optD, z0, z1, z2, z3, z5, nb, y1, q]
        exact fin_cp ⟨_, rfl⟩ (by simp [optD]) [X] rfl
      · -- Y
        cases Y with
        | none =>
          simp [g0, gl, gr, hi2, hj2, i1, i2, s1, s2, km, sa, sb, gX, gY, gZ, optD, z0, z1, z2, z3, z5, nb, y1, q]
          exact fin_cp ⟨_, rfl⟩ (by simp [optD]) [X, none] rfl
        | some z =>
          have zz := zY z rfl
          have zz2 : 1 + z.length ≤ sLine := by omega
          simp [g0, gl, gr, hi2, hj2, i1, i2, s1, s2, km, sa, sb, gX, gY, gZ, optD, z0, z1, z2, z3, z5, nb, y1, q, zz, zz2]
          exact fin_cp ⟨_, rfl⟩ (by simp [optD]) [X, some (b ++ z)] rfl
    · simp [g0, gl, gr, hi2, hj2, i1, i2, s1, s2, km, sa, sb, gX, gY, gZ, z0, z1, z2, z3, z5]
      exact fin_cp ⟨_, rfl⟩ (by simp) [X, Y] rfl
  · have hj3 : j = R.length := by omega
    subst hj3
    have dL : L.drop i = L[i] :: L.drop (i + 1) := List.drop_eq_getElem_cons hi2
    have dR : R.drop R.length = [] := List.drop_eq_nil_of_le (Nat.le_refl _)
    have i1 : L2.atI (L.map D.str) (i : Int) = some (.str L[i]) := by rw [atI_lit, List.getElem?_map, List.getElem?_eq_getElem hi2]; rfl
    have gX := fun x : Store => tb.get (km x) (i' := i + 1) (j' := R.length) hi2 (Nat.le_refl _) (.inl (by omega)) (x := (i : Int) + 1) (y := (R.length : Int)) (by omega) rfl
    rw [dR] at gX
    have wl : wlist (L.drop i) (R.drop R.length) = if starB L[i] then [bst (L.drop (i + 1)) []] else [] := by
      rw [dL, dR]; rfl
    rw [wl]
    have s1 := fun w => is_star_ok L[i] w
    generalize bst (L.drop (i + 1)) [] = X at *
    generalize L[i] = a at *
    cases sa : starB a
    · simp [g0, gl, gr, hi2, i1, s1, km, sa, gX, z0, z1, z2, z3, z5]
      exact fin_cp ⟨_, rfl⟩ (by simp) [] rfl
    · simp [g0, gl, gr, hi2, i1, s1, km, sa, gX, z0, z1, z2, z3, z5]
      exact fin_cp ⟨_, rfl⟩ (by simp) [X] rfl
  · have hi3 : i = L.length := by omega
    subst hi3
    have dR : R.drop j = R[j] :: R.drop (j + 1) := List.drop_eq_getElem_cons hj2
    have dL : L.drop L.length = [] := List.drop_eq_nil_of_le (Nat.le_refl _)
    have i2 : L2.atI (R.map D.str) (j : Int) = some (.str R[j]) := by rw [atI_lit, List.getElem?_map, List.getElem?_eq_getElem hj2]; rfl
    have gY := fun x : Store => tb.get (km x) (i' := L.length) (j' := j + 1) (Nat.le_refl _) hj2 (.inr ⟨rfl, by omega⟩) (x := (L.length : Int)) (y := (j : Int) + 1) rfl (by omega)
    rw [dL] at gY
    have wl : wlist (L.drop L.length) (R.drop j) = if starB R[j] then [bst [] (R.drop (j + 1))] else [] := by
      rw [dL, dR]; rfl
    rw [wl]
    have s2 := fun w => is_star_ok R[j] w
    generalize bst [] (R.drop (j + 1)) = Y at *
    generalize R[j] = b at *
    cases sb : starB b
    · simp [g0, gl, gr, hj2, i2, s2, km, sb, gY, z0, z1, z2, z3, z5]
      exact fin_cp ⟨_, rfl⟩ (by simp) [] rfl
    · simp [g0, gl, gr, hj2, i2, s2, km, sb, gY, z0, z1, z2, z3, z5]
      exact fin_cp ⟨_, rfl⟩ (by simp) [Y] rfl
  · have hi3 : i = L.length := by omega
    have hj3 : j = R.length := by omega
    subst hi3 hj3
    have dL : L.drop L.length = [] := List.drop_eq_nil_of_le (Nat.le_refl _)
    have dR : R.drop R.length = [] := List.drop_eq_nil_of_le (Nat.le_refl _)
    have wl : wlist (L.drop L.length) (R.drop R.length) = [] := by rw [dL, dR]; rfl
    rw [wl]
    simp [g0, gl, gr, km, z0, z1, z2, z3, z5]
    exact fin_cp ⟨_, rfl⟩ (by simp) [] rfl
end Law

/-! ## K08u -/
set_option Elab.async false
set_option linter.all false
set_option maxRecDepth 100000
namespace Law
open PySem Ev
open Classical in
theorem forL_consL {gd : Store → Prop} {t : Tg} {f : SS} {d : D} {ds : List D} {e : SEnv} {s : Store} : forL gd t f (d :: ds) e s = match t.put d e with
    | some e1 => (f e1 s).loop fun e2 s2 => if gd s2 then forL gd t f ds e2 s2 else .bad
    | none => .bad := by
  simp only [forL] <;> (cases t.put d e <;> rfl)
/-! ### downwards -/
def dsc : Nat → List D
  | 0 => []
  | k + 1 => .int (k : Int) :: dsc k
theorem rngD_succ (i : Int) (k : Nat) : rngD i (k + 1) = .int i :: rngD (i - 1) k := by
  unfold rngD
  rw [List.range_succ_eq_map, List.map_cons, List.map_map]
  congr 1
  · simp
  · refine List.map_congr_left fun j _ => ?_
    simp only [Function.comp, D.int.injEq]
    omega
theorem rngD_dsc : ∀ n : Nat, rngD (n : Int) (n + 1) = dsc (n + 1)
  | 0 => rfl
  | n + 1 => by
    rw [rngD_succ]
    have e : ((n + 1 : Nat) : Int) - 1 = (n : Int) := by omega
    rw [e, rngD_dsc n]
    rfl
theorem rev_dsc : ∀ n : Nat, (rngL 0 n).reverse = dsc n
  | 0 => rfl
  | n + 1 => by
    have : rngL 0 (n + 1) = rngL 0 n ++ [.int (n : Int)] := by
      unfold rngL
      rw [List.range_succ, List.map_append]
      simp
    rw [this, List.reverse_append, rev_dsc n]
    rfl
/-! ### one cell of the table -/
theorem TbK.put {kvs : List (D × D)} {L R : List (List Nat)} {i k : Nat} (t : TbK kvs L R i (k + 1)) : TbK (dputD kvs (.tup [.int (i : Int), .int (k : Int)]) (optD (bst (L.drop i) (R.drop k)))) L R i k := by
  intro i' j' h1 h2 h3
  rw [dvV_put]
  by_cases e : i' = i ∧ j' = k
  · obtain ⟨rfl, rfl⟩ := e
    rw [if_pos rfl]
  · rw [if_neg]
    · refine t i' j' h1 h2 ?_
      omega
    · intro q
      simp only [D.tup.injEq, List.cons.injEq, D.int.injEq, and_true] at q
      exact e (by omega)
theorem BsOk.mn {n : Nat} {b o : OS} (hb : BsOk n b) (ho : BsOk n o) : BsOk n (mnS b o) := by
  unfold mnS
  split
  · exact ho
  · exact hb
noncomputable def lessB : SS := (sSeq (sIf (eTru (eCall c_l_less [] (aCons (eVar 6) (aCons (eVar 5) aNil)))) (
          (sSeq (sSet 5 (eVar 6)) sNil)) sNil) sNil)
theorem less_loop {N : Nat} (hN : N ≤ 100000) {gd : Store → Prop} {st : Store} (hg : gd st) {x0 x1 x2 x3 x4 : Option D} : ∀ (l : List OS) (b : OS) (x6 : Option D), (∀ o ∈ l, BsOk N o) → BsOk N b →
    ∃ y6, forL gd (.one 6) lessB (l.map optD) [x0, x1, x2, x3, x4, some (optD b), x6] st = .nx [x0, x1, x2, x3, x4, some (optD (l.foldl mnS b)), y6] st
  | [], b, x6, _, _ => ⟨x6, rfl⟩
  | o :: l, b, x6, hl, hb => by
    have ho := hl o (List.mem_cons_self ..)
    obtain ⟨y6, e⟩ := less_loop hN hg (x0 := x0) (x1 := x1) (x2 := x2) (x3 := x3) (x4 := x4) l (mnS b o) (some (optD o)) (fun a ha => hl a (List.mem_cons_of_mem _ ha)) (hb.mn ho)
    refine ⟨y6, ?_⟩
    rw [List.map_cons, forL_consL]
    have pt : (Tg.one 6).put (optD o) [x0, x1, x2, x3, x4, some (optD b), x6] = some [x0, x1, x2, x3, x4, some (optD b), some (optD o)] := rfl
    rw [pt]
    have st1 : lessB [x0, x1, x2, x3, x4, some (optD b), some (optD o)] st = .nx [x0, x1, x2, x3, x4, some (optD (mnS b o)), some (optD o)] st := by
      have lo := less_ok hN ho hb st
      unfold lessB mnS
      cases h : lsO o b <;> simp [lo, h]
    simp only
    rw [st1]
    simp only [SR.loop]
    rw [if_pos hg, e]
    rfl
noncomputable def dueB : SS := (sSeq (sSet 5 (eC .non))
      (sSeq (sIf (tAndB (eBool (e2 dEq (eVar 3) (eN (g1 dLen) (bCons (eVar 0) bNil)))) (eBool (e2 dEq (eVar 4) (eN (g1 dLen) (bCons (eVar 1) bNil))))) (
        (sSeq (sSet 5 (eC (.str []))) sNil)) sNil)
      (sSeq (sFor (wVal (eCall c_l_ways [] (aCons (eVar 0) (aCons (eVar 1) (aCons (eVar 3) (aCons (eVar 4) (aCons (eVar 2) aNil))))))) (.one 6) lessB)
      (sSeq (sDPutT (eVar 5) (eVar 2) (aCons (eVar 3) (aCons (eVar 4) aNil))) sNil))))
noncomputable def dueO : SS := (sSeq (sFor (wRng3 (bCons (eN (g1 dLen) (bCons (eVar 1) bNil)) (bCons (e1 dNeg (eC (.int 1))) (bCons (e1 dNeg (eC (.int 1))) bNil)))) (.one 4) dueB) sNil)
theorem due_eq : d_l_due = (sSeq (sSet 2 eDNewT)
  (sSeq (sFor (wRng3 (bCons (eN (g1 dLen) (bCons (eVar 0) bNil)) (bCons (e1 dNeg (eC (.int 1))) (bCons (e1 dNeg (eC (.int 1))) bNil)))) (.one 3) dueO)
  (sSeq (sRet (eDGetT (eVar 2) (aCons (eC (.int 0)) (aCons (eC (.int 0)) aNil)))) sNil))) := rfl
section
variable {L R : List (List Nat)} {p q m : Nat}
theorem due_one (hL : TkOk L) (hR : TkOk R) (lL : L.length ≤ 1000) (lR : R.length ≤ 1000) {i k : Nat} (hi : i ≤ L.length) (hk : k ≤ R.length) {st : Store} {kvs : List (D × D)} (hp : st[p]? = some (.lst (L.map D.str))) (hq : st[q]? = some (.lst (R.map D.str))) (hm : st[m]? = some (.dict true kvs)) (tb : TbK kvs L R i (k + 1)) (hz : kvs.length ≤ 10000000) (x5 x6 : Option D) :
    ∃ y5 y6, dueB [some (.ref p), some (.ref q), some (.ref m), some (.int (i : Int)), some (.int (k : Int)), x5, x6] st = .nx [some (.ref p), some (.ref q), some (.ref m), some (.int (i : Int)), some (.int (k : Int)), y5, y6] (st.set m (.dict true (dputD kvs (.tup [.int (i : Int), .int (k : Int)]) (optD (bst (L.drop i) (R.drop k)))))) := by
  have hsl : sLine = 16777216 := rfl
  have gl : L.length ≤ sLine := by omega
  have gr : R.length ≤ sLine := by omega
  have wf := ways_ok hL hR lL lR hi hk hp hq hm tb
  have hLd : TkOk (L.drop i) := fun t ht => hL t (List.mem_of_mem_drop ht)
  have hRd : TkOk (R.drop k) := fun t ht => hR t (List.mem_of_mem_drop ht)
  have wo := wlist_ok (L.drop i) (R.drop k) hLd hRd
  have hN : (L.drop i).length + (R.drop k).length ≤ 100000 := by rw [List.length_drop, List.length_drop]; omega
  have kd : ∀ e, KDP4 (optD (bst (L.drop i) (R.drop k))) e (.v (.ref m)) [.int (i : Int), .int (k : Int)] st = .nx e (st.set m (.dict true (dputD kvs (.tup [.int (i : Int), .int (k : Int)]) (optD (bst (L.drop i) (R.drop k)))))) := fun e => KDP4_ok (ks := [.inl (i : Int), .inl (k : Int)]) hm rfl ⟨show (2 : Nat) ≤ sLine by decide, by omega⟩
  unfold dueB
  by_cases h : i = L.length ∧ k = R.length
  · have e0 : bst (L.drop i) (R.drop k) = (wlist (L.drop i) (R.drop k)).foldl mnS (some []) := by
      rw [bst_wl, if_pos]
      exact ⟨List.drop_eq_nil_of_le (by omega), List.drop_eq_nil_of_le (by omega)⟩
    have b0 : BsOk ((L.drop i).length + (R.drop k).length) (some []) := fun s hs => by cases hs; exact ⟨Nat.zero_le _, rfl⟩
    obtain ⟨y6, e⟩ := less_loop (st := st) (gd := fun _ => True) hN trivial (x0 := some (.ref p)) (x1 := some (.ref q)) (x2 := some (.ref m)) (x3 := some (.int (i : Int))) (x4 := some (.int (k : Int))) (wlist (L.drop i) (R.drop k)) (some []) x6 wo b0
    rw [← e0] at e
    refine ⟨some (optD (bst (L.drop i) (R.drop k))), y6, ?_⟩
    obtain ⟨h1, h2⟩ := h
    generalize hv : bst (L.drop i) (R.drop k) = v at *
    generalize hw : wlist (L.drop i) (R.drop k) = W at *
    have e' : forL (fun _ => True) (.one 6) lessB (W.map optD) [some (.ref p), some (.ref q), some (.ref m), some (.int (i : Int)), some (.int (k : Int)), some (.str []), x6] st = _ := e
    simp [hp, hq, gl, gr, ← h1, ← h2, wf, e', kd]
  · have e0 : bst (L.drop i) (R.drop k) = (wlist (L.drop i) (R.drop k)).foldl mnS none := by
      rw [bst_wl, if_neg]
      rintro ⟨a, b⟩
      have := List.drop_eq_nil_iff.mp a
      have := List.drop_eq_nil_iff.mp b
      omega
    have b0 : BsOk ((L.drop i).length + (R.drop k).length) none := fun s hs => by cases hs
    obtain ⟨y6, e⟩ := less_loop (st := st) (gd := fun _ => True) hN trivial (x0 := some (.ref p)) (x1 := some (.ref q)) (x2 := some (.ref m)) (x3 := some (.int (i : Int))) (x4 := some (.int (k : Int))) (wlist (L.drop i) (R.drop k)) none x6 wo b0
    rw [← e0] at e
    refine ⟨some (optD (bst (L.drop i) (R.drop k))), y6, ?_⟩
    generalize hv : bst (L.drop i) (R.drop k) = v at *
    generalize hw : wlist (L.drop i) (R.drop k) = W at *
    have e' : forL (fun _ => True) (.one 6) lessB (W.map optD) [some (.ref p), some (.ref q), some (.ref m), some (.int (i : Int)), some (.int (k : Int)), some .non, x6] st = _ := e
    by_cases h1 : i = L.length
    · have h2 : ¬ k = R.length := fun z => h ⟨h1, z⟩
      have h2' : ¬ (k : Int) = (R.length : Int) := by omega
      simp [hp, hq, gl, gr, ← h1, h2, wf, e', kd]
      exact fun z => absurd z h2'
    · have h1' : ¬ (i : Int) = (L.length : Int) := by omega
      simp [hp, hq, gl, gr, h1, wf, e', kd]
      exact fun z => absurd z h1'
theorem set_self {st : Store} {m : Nat} {C : Cell} (h : st[m]? = some C) : st.set m C = st := by
  obtain ⟨hl, e⟩ := List.getElem?_eq_some_iff.mp h
  rw [← e]
  exact List.set_getElem_self hl
theorem due_in (hL : TkOk L) (hR : TkOk R) (lL : L.length ≤ 1000) (lR : R.length ≤ 1000) {i : Nat} (hi : i ≤ L.length) : ∀ (k : Nat) {st : Store} {kvs : List (D × D)} (x4 x5 x6 : Option D), k ≤ R.length + 1 → st[p]? = some (.lst (L.map D.str)) → st[q]? = some (.lst (R.map D.str)) → st[m]? = some (.dict true kvs) → TbK kvs L R i k → kvs.length + k ≤ 10000000 →
    ∃ kvs' y4 y5 y6, forL (fun _ => True) (.one 4) dueB (dsc k) [some (.ref p), some (.ref q), some (.ref m), some (.int (i : Int)), x4, x5, x6] st = .nx [some (.ref p), some (.ref q), some (.ref m), some (.int (i : Int)), y4, y5, y6] (st.set m (.dict true kvs')) ∧ TbK kvs' L R i 0 ∧ kvs'.length ≤ kvs.length + k
  | 0, st, kvs, x4, x5, x6, _, _, _, hm, tb, _ => ⟨kvs, x4, x5, x6, by rw [set_self hm]; rfl, tb, Nat.le_refl _⟩
  | k + 1, st, kvs, x4, x5, x6, hk, hp, hq, hm, tb, hz => by
    obtain ⟨y5, y6, e1⟩ := due_one hL hR lL lR hi (k := k) (by omega) hp hq hm tb (by omega) x5 x6
    have pm : m ≠ p := by rintro rfl; rw [hp] at hm; cases hm
    have qm : m ≠ q := by rintro rfl; rw [hq] at hm; cases hm
    have ml := (List.getElem?_eq_some_iff.mp hm).1
    have l1 := dputD_len kvs (.tup [.int (i : Int), .int (k : Int)]) (optD (bst (L.drop i) (R.drop k)))
    obtain ⟨kvs', y4, z5, z6, e2, t2, l2⟩ := due_in hL hR lL lR hi k (st := st.set m (.dict true (dputD kvs (.tup [.int (i : Int), .int (k : Int)]) (optD (bst (L.drop i) (R.drop k)))))) (some (.int (k : Int))) y5 y6 (by omega)
      (by rw [List.getElem?_set_ne pm]; exact hp) (by rw [List.getElem?_set_ne qm]; exact hq) (by rw [List.getElem?_set_self ml]) tb.put (by omega)
    refine ⟨kvs', y4, z5, z6, ?_, t2, by omega⟩
    show forL _ _ _ (.int (k : Int) :: dsc k) _ _ = _
    rw [forL_consL]
    have pt : (Tg.one 4).put (.int (k : Int)) [some (.ref p), some (.ref q), some (.ref m), some (.int (i : Int)), x4, x5, x6] = some [some (.ref p), some (.ref q), some (.ref m), some (.int (i : Int)), some (.int (k : Int)), x5, x6] := rfl
    rw [pt]
    simp only
    rw [e1]
    simp only [SR.loop]
    rw [if_pos trivial, e2, List.set_set]
theorem due_out (hL : TkOk L) (hR : TkOk R) (lL : L.length ≤ 1000) (lR : R.length ≤ 1000) : ∀ (k : Nat) {st : Store} {kvs : List (D × D)} (x3 x4 x5 x6 : Option D), k ≤ L.length + 1 → st[p]? = some (.lst (L.map D.str)) → st[q]? = some (.lst (R.map D.str)) → st[m]? = some (.dict true kvs) → (∀ i' j' : Nat, i' ≤ L.length → j' ≤ R.length → k ≤ i' → dvV kvs (.tup [.int (i' : Int), .int (j' : Int)]) = some (optD (bst (L.drop i') (R.drop j')))) → kvs.length + k * 1001 ≤ 5000000 →
    ∃ kvs' y3 y4 y5 y6, forL (fun _ => True) (.one 3) dueO (dsc k) [some (.ref p), some (.ref q), some (.ref m), x3, x4, x5, x6] st = .nx [some (.ref p), some (.ref q), some (.ref m), y3, y4, y5, y6] (st.set m (.dict true kvs')) ∧ (∀ i' j' : Nat, i' ≤ L.length → j' ≤ R.length → dvV kvs' (.tup [.int (i' : Int), .int (j' : Int)]) = some (optD (bst (L.drop i') (R.drop j'))))
  | 0, st, kvs, x3, x4, x5, x6, _, _, _, hm, tb, _ => ⟨kvs, x3, x4, x5, x6, by rw [set_self hm]; rfl, fun i' j' h1 h2 => tb i' j' h1 h2 (Nat.zero_le _)⟩
  | k + 1, st, kvs, x3, x4, x5, x6, hk, hp, hq, hm, tb, hz => by
    have hsl : sLine = 16777216 := rfl
    have gr : R.length ≤ sLine := by omega
    have tk0 : TbK kvs L R k (R.length + 1) := fun i' j' h1 h2 h3 => tb i' j' h1 h2 (by omega)
    obtain ⟨kvs1, y4, y5, y6, e1, t1, l1⟩ := due_in hL hR lL lR (i := k) (by omega) (R.length + 1) x4 x5 x6 (Nat.le_refl _) hp hq hm tk0 (by omega)
    have pm : m ≠ p := by rintro rfl; rw [hp] at hm; cases hm
    have qm : m ≠ q := by rintro rfl; rw [hq] at hm; cases hm
    have ml := (List.getElem?_eq_some_iff.mp hm).1
    obtain ⟨kvs', z3, z4, z5, z6, e2, t2⟩ := due_out hL hR lL lR k (st := st.set m (.dict true kvs1)) (some (.int (k : Int))) y4 y5 y6 (by omega)
      (by rw [List.getElem?_set_ne pm]; exact hp) (by rw [List.getElem?_set_ne qm]; exact hq) (by rw [List.getElem?_set_self ml]) (fun i' j' h1 h2 h3 => t1 i' j' h1 h2 (by omega)) (by omega)
    refine ⟨kvs', z3, z4, z5, z6, ?_, t2⟩
    show forL _ _ _ (.int (k : Int) :: dsc k) _ _ = _
    rw [forL_consL]
    have pt : (Tg.one 3).put (.int (k : Int)) [some (.ref p), some (.ref q), some (.ref m), x3, x4, x5, x6] = some [some (.ref p), some (.ref q), some (.ref m), some (.int (k : Int)), x4, x5, x6] := rfl
    rw [pt]
    simp only
    have st1 : dueO [some (.ref p), some (.ref q), some (.ref m), some (.int (k : Int)), x4, x5, x6] st = .nx [some (.ref p), some (.ref q), some (.ref m), some (.int (k : Int)), y4, y5, y6] (st.set m (.dict true kvs1)) := by
      have rg : rgOkD (R.length : Int) (-1) := by unfold rgOkD; omega
      have tn : ((R.length : Int) - -1).toNat = R.length + 1 := by omega
      rw [← rngD_dsc] at e1
      unfold dueO
      simp [hq, gr, rg, tn, e1]
    rw [st1]
    simp only [SR.loop]
    rw [if_pos trivial, e2, List.set_set]
end
theorem due_ok {L R : List (List Nat)} {p q : Nat} {st : Store} (hL : TkOk L) (hR : TkOk R) (lL : L.length ≤ 1000) (lR : R.length ≤ 1000) (hp : st[p]? = some (.lst (L.map D.str))) (hq : st[q]? = some (.lst (R.map D.str))) : c_l_due [.ref p, .ref q] st = .ok (.v (optD (bst L R))) st := by
  refine call_pure ?_ (optD_pure _)
  have hsl : sLine = 16777216 := rfl
  have gl : L.length ≤ sLine := by omega
  have keep : ∀ {k : Nat} {C : Cell}, st[k]? = some C → ∀ x : Store, (st ++ x)[k]? = some C := fun {k C} h x => by
    rw [List.getElem?_append_left (List.getElem?_eq_some_iff.mp h).1]; exact h
  have m0 : (st ++ [Cell.dict true []])[st.length]? = some (.dict true []) := by simp
  obtain ⟨kvs, y3, y4, y5, y6, e1, t1⟩ := due_out hL hR lL lR (m := st.length) (L.length + 1) none none none none (Nat.le_refl _) (keep hp [.dict true []]) (keep hq [.dict true []]) m0 (fun i' j' h1 h2 h3 => by omega) (by simp; omega)
  have sm : (st ++ [Cell.dict true []]).set st.length (.dict true kvs) = st ++ [.dict true kvs] := by simp
  rw [sm, ← rngD_dsc] at e1
  have t0 := t1 0 0 (Nat.zero_le _) (Nat.zero_le _)
  have kg : KDG2 (.v (.ref st.length)) [.int 0, .int 0] (st ++ [.dict true kvs]) = .ok (.v (optD (bst L R))) (st ++ [.dict true kvs]) := KDG2_ok (ks := [.inl 0, .inl 0]) (by simp) rfl t0 (show (2 : Nat) ≤ sLine by decide)
  have rg : rgOkD (L.length : Int) (-1) := by unfold rgOkD; omega
  have tn : ((L.length : Int) - -1).toNat = L.length + 1 := by omega
  have hp1 := keep hp [.dict true []]
  rw [due_eq]
  simp [hp1, gl, rg, tn, e1, kg]
end Law

/-! ## K08v -/
set_option Elab.async false
set_option linter.all false
set_option maxRecDepth 100000
namespace Law
open PySem Ev
theorem wlist_len (l r : List (List Nat)) : (wlist l r).length ≤ 3 := by
  have one : ∀ (c : Bool) (X : OS), (if c = true then [X] else []).length ≤ 1 := fun c X => by cases c <;> simp
  cases l with
  | nil => cases r with
    | nil => simp [wlist]
    | cons b r => exact Nat.le_trans (one _ _) (by decide)
  | cons a l => cases r with
    | nil => exact Nat.le_trans (one _ _) (by decide)
    | cons b r =>
      show (cands a b _ _ _).length ≤ 3
      have t1 : ∀ X Y Z : OS, (third a b X Y Z).length ≤ 1 := fun X Y Z => by
        unfold third
        split
        · split
          · simp
          · split <;> simp
        · split
          · split <;> simp
          · split <;> simp
      unfold cands
      rw [List.length_append, List.length_append]
      have := t1 (bst l (b :: r)) (bst (a :: l) r) (bst l r)
      have := one (starB a) (bst l (b :: r))
      have := one (starB b) (bst (a :: l) r)
      omega
noncomputable def cmB : SS := (sSeq (sSet 7 (eCall c_continuations [] (aCons (eVar 2) (aCons (eVar 3) (aCons (eVar 5) (aCons (eVar 6) (aCons (eVar 4) aNil)))))))
      (sSeq (sDPutT (eIf (tAndB (eBool (e2 dEq (eVar 5) (eN (g1 dLen) (bCons (eVar 2) bNil)))) (eBool (e2 dEq (eVar 6) (eN (g1 dLen) (bCons (eVar 3) bNil))))) (eC (.str [])) (eCall c_least [] (aCons (eVar 7) aNil))) (eVar 4) (aCons (eVar 5) (aCons (eVar 6) aNil))) sNil))
noncomputable def cmO : SS := (sSeq (sFor (wRevR1 (e2 dAdd (eN (g1 dLen) (bCons (eVar 3) bNil)) (eC (.int 1)))) (.one 6) cmB) sNil)
theorem cm_eq : d_common_match = (sSeq (sSet 2 (eCall c_tokens_of [] (aCons (eVar 0) aNil)))
  (sSeq (sSet 3 (eCall c_tokens_of [] (aCons (eVar 1) aNil)))
  (sSeq (sSet 4 eDNewT)
  (sSeq (sFor (wRevR1 (e2 dAdd (eN (g1 dLen) (bCons (eVar 2) bNil)) (eC (.int 1)))) (.one 5) cmO)
  (sSeq (sRet (eDGetT (eVar 4) (aCons (eC (.int 0)) (aCons (eC (.int 0)) aNil)))) sNil))))) := rfl
section
variable {L R : List (List Nat)} {m : Nat} {x0 x1 : Option D}
theorem cm_one (hL : TkOk L) (hR : TkOk R) (lL : L.length ≤ 1000) (lR : R.length ≤ 1000) {i k : Nat} (hi : i ≤ L.length) (hk : k ≤ R.length) {st : Store} {kvs : List (D × D)} (hm : st[m]? = some (.dict true kvs)) (tb : TbK kvs L R i (k + 1)) (hz : kvs.length ≤ 10000000) (x7 : Option D) :
    ∃ y7 more, cmB [x0, x1, some (.tup (L.map D.str)), some (.tup (R.map D.str)), some (.ref m), some (.int (i : Int)), some (.int (k : Int)), x7] st = .nx [x0, x1, some (.tup (L.map D.str)), some (.tup (R.map D.str)), some (.ref m), some (.int (i : Int)), some (.int (k : Int)), y7] (st.set m (.dict true (dputD kvs (.tup [.int (i : Int), .int (k : Int)]) (optD (bst (L.drop i) (R.drop k))))) ++ more) := by
  have hsl : sLine = 16777216 := rfl
  have gl : L.length ≤ sLine := by omega
  have gr : R.length ≤ sLine := by omega
  have wf := conts_ok hL hR lL lR hi hk hm tb
  have hLd : TkOk (L.drop i) := fun t ht => hL t (List.mem_of_mem_drop ht)
  have hRd : TkOk (R.drop k) := fun t ht => hR t (List.mem_of_mem_drop ht)
  have wo := wlist_ok (L.drop i) (R.drop k) hLd hRd
  have wl := wlist_len (L.drop i) (R.drop k)
  have hN : (L.drop i).length + (R.drop k).length ≤ 100000 := by rw [List.length_drop, List.length_drop]; omega
  have ml := (List.getElem?_eq_some_iff.mp hm).1
  have km : ∀ x : Store, (st ++ x)[m]? = some (.dict true kvs) := fun x => by rw [List.getElem?_append_left ml]; exact hm
  have kd : ∀ (x : Store) e, KDP4 (optD (bst (L.drop i) (R.drop k))) e (.v (.ref m)) [.int (i : Int), .int (k : Int)] (st ++ x) = .nx e (st.set m (.dict true (dputD kvs (.tup [.int (i : Int), .int (k : Int)]) (optD (bst (L.drop i) (R.drop k))))) ++ x) := fun x e => by
    have h2 : [D.int (i : Int), D.int (k : Int)].length ≤ sLine ∧ kvs.length < sLine := ⟨show (2 : Nat) ≤ sLine by decide, by omega⟩
    have := KDP4_ok (e := e) (d := optD (bst (L.drop i) (R.drop k))) (ks := [.inl (i : Int), .inl (k : Int)]) (km x) rfl h2
    rw [List.set_append_left _ _ ml] at this
    exact this
  have fl : ((wlist (L.drop i) (R.drop k)).filterMap id).length ≤ 1000 := Nat.le_trans (List.length_filterMap_le _ _) (by omega)
  have fz : ∀ x ∈ (wlist (L.drop i) (R.drop k)).filterMap id, x.length ≤ 100000 := fun x hx => by
    obtain ⟨o, ho, e⟩ := List.mem_filterMap.mp hx
    have := (wo o ho x e).1
    omega
  have lf := least_ok (r := st.length) (st := st ++ [.lst (((wlist (L.drop i) (R.drop k)).filterMap id).map D.str)]) (by simp) fl fz
  unfold cmB
  refine ⟨some (.ref st.length), [.lst (((wlist (L.drop i) (R.drop k)).filterMap id).map D.str)], ?_⟩
  by_cases h : i = L.length ∧ k = R.length
  · have e0 : bst (L.drop i) (R.drop k) = some [] := by
      have a : L.drop i = [] := List.drop_eq_nil_of_le (by omega)
      have b : R.drop k = [] := List.drop_eq_nil_of_le (by omega)
      rw [a, b, bst]
    obtain ⟨h1, h2⟩ := h
    rw [e0] at kd ⊢
    generalize hw : wlist (L.drop i) (R.drop k) = W at *
    generalize W.filterMap id = F at *
    have kd' : ∀ (x : Store) e, KDP4 (.str []) e (.v (.ref m)) [.int (i : Int), .int (k : Int)] (st ++ x) = _ := kd
    simp [gl, gr, ← h1, ← h2, wf, kd']
  · have e0 : bst (L.drop i) (R.drop k) = leastO ((wlist (L.drop i) (R.drop k)).filterMap id) := by
      rw [bst_wl, if_neg, fold_none]
      rintro ⟨a, b⟩
      have := List.drop_eq_nil_iff.mp a
      have := List.drop_eq_nil_iff.mp b
      omega
    rw [← e0] at lf
    generalize hv : bst (L.drop i) (R.drop k) = v at *
    generalize hw : wlist (L.drop i) (R.drop k) = W at *
    generalize W.filterMap id = F at *
    by_cases h1 : i = L.length
    · have h2 : ¬ k = R.length := fun z => h ⟨h1, z⟩
      have h2' : ¬ (k : Int) = (R.length : Int) := by omega
      simp [gl, gr, ← h1, h2, h2', wf, lf, kd]
    · have h1' : ¬ (i : Int) = (L.length : Int) := by omega
      simp [gl, gr, h1, h1', wf, lf, kd]
theorem cm_in (hL : TkOk L) (hR : TkOk R) (lL : L.length ≤ 1000) (lR : R.length ≤ 1000) {i : Nat} (hi : i ≤ L.length) : ∀ (k : Nat) {st : Store} {kvs : List (D × D)} (x6 x7 : Option D), k ≤ R.length + 1 → st[m]? = some (.dict true kvs) → TbK kvs L R i k → kvs.length + k ≤ 10000000 →
    ∃ kvs' y6 y7 more, forL (fun _ => True) (.one 6) cmB (dsc k) [x0, x1, some (.tup (L.map D.str)), some (.tup (R.map D.str)), some (.ref m), some (.int (i : Int)), x6, x7] st = .nx [x0, x1, some (.tup (L.map D.str)), some (.tup (R.map D.str)), some (.ref m), some (.int (i : Int)), y6, y7] (st.set m (.dict true kvs') ++ more) ∧ TbK kvs' L R i 0 ∧ kvs'.length ≤ kvs.length + k
  | 0, st, kvs, x6, x7, _, hm, tb, _ => ⟨kvs, x6, x7, [], by rw [set_self hm, List.append_nil]; rfl, tb, Nat.le_refl _⟩
  | k + 1, st, kvs, x6, x7, hk, hm, tb, hz => by
    obtain ⟨y7, m1, e1⟩ := cm_one (x0 := x0) (x1 := x1) hL hR lL lR hi (k := k) (by omega) hm tb (by omega) x7
    have ml := (List.getElem?_eq_some_iff.mp hm).1
    have l1 := dputD_len kvs (.tup [.int (i : Int), .int (k : Int)]) (optD (bst (L.drop i) (R.drop k)))
    have ml2 : m < (st.set m (.dict true (dputD kvs (.tup [.int (i : Int), .int (k : Int)]) (optD (bst (L.drop i) (R.drop k)))))).length := by rw [List.length_set]; exact ml
    obtain ⟨kvs', z6, z7, m2, e2, t2, l2⟩ := cm_in hL hR lL lR hi k (st := st.set m (.dict true (dputD kvs (.tup [.int (i : Int), .int (k : Int)]) (optD (bst (L.drop i) (R.drop k))))) ++ m1) (some (.int (k : Int))) y7 (by omega)
      (by rw [List.getElem?_append_left ml2, List.getElem?_set_self ml]) tb.put (by omega)
    refine ⟨kvs', z6, z7, m1 ++ m2, ?_, t2, by omega⟩
    show forL _ _ _ (.int (k : Int) :: dsc k) _ _ = _
    rw [forL_consL]
    have pt : (Tg.one 6).put (.int (k : Int)) [x0, x1, some (.tup (L.map D.str)), some (.tup (R.map D.str)), some (.ref m), some (.int (i : Int)), x6, x7] = some [x0, x1, some (.tup (L.map D.str)), some (.tup (R.map D.str)), some (.ref m), some (.int (i : Int)), some (.int (k : Int)), x7] := rfl
    rw [pt]
    simp only
    rw [e1]
    simp only [SR.loop]
    rw [if_pos trivial, e2, List.set_append_left _ _ ml2, List.set_set, List.append_assoc]
theorem cm_out (hL : TkOk L) (hR : TkOk R) (lL : L.length ≤ 1000) (lR : R.length ≤ 1000) : ∀ (k : Nat) {st : Store} {kvs : List (D × D)} (x5 x6 x7 : Option D), k ≤ L.length + 1 → st[m]? = some (.dict true kvs) → (∀ i' j' : Nat, i' ≤ L.length → j' ≤ R.length → k ≤ i' → dvV kvs (.tup [.int (i' : Int), .int (j' : Int)]) = some (optD (bst (L.drop i') (R.drop j')))) → kvs.length + k * 1001 ≤ 5000000 →
    ∃ kvs' y5 y6 y7 more, forL (fun _ => True) (.one 5) cmO (dsc k) [x0, x1, some (.tup (L.map D.str)), some (.tup (R.map D.str)), some (.ref m), x5, x6, x7] st = .nx [x0, x1, some (.tup (L.map D.str)), some (.tup (R.map D.str)), some (.ref m), y5, y6, y7] (st.set m (.dict true kvs') ++ more) ∧ (∀ i' j' : Nat, i' ≤ L.length → j' ≤ R.length → dvV kvs' (.tup [.int (i' : Int), .int (j' : Int)]) = some (optD (bst (L.drop i') (R.drop j'))))
  | 0, st, kvs, x5, x6, x7, _, hm, tb, _ => ⟨kvs, x5, x6, x7, [], by rw [set_self hm, List.append_nil]; rfl, fun i' j' h1 h2 => tb i' j' h1 h2 (Nat.zero_le _)⟩
  | k + 1, st, kvs, x5, x6, x7, hk, hm, tb, hz => by
    have hsl : sLine = 16777216 := rfl
    have gr : R.length ≤ sLine := by omega
    have tk0 : TbK kvs L R k (R.length + 1) := fun i' j' h1 h2 h3 => tb i' j' h1 h2 (by omega)
    obtain ⟨kvs1, y6, y7, m1, e1, t1, l1⟩ := cm_in (x0 := x0) (x1 := x1) hL hR lL lR (i := k) (by omega) (R.length + 1) x6 x7 (Nat.le_refl _) hm tk0 (by omega)
    have ml := (List.getElem?_eq_some_iff.mp hm).1
    have ml2 : m < (st.set m (.dict true kvs1)).length := by rw [List.length_set]; exact ml
    obtain ⟨kvs', z5, z6, z7, m2, e2, t2⟩ := cm_out hL hR lL lR k (st := st.set m (.dict true kvs1) ++ m1) (some (.int (k : Int))) y6 y7 (by omega)
      (by rw [List.getElem?_append_left ml2, List.getElem?_set_self ml]) (fun i' j' h1 h2 h3 => t1 i' j' h1 h2 (by omega)) (by omega)
    refine ⟨kvs', z5, z6, z7, m1 ++ m2, ?_, t2⟩
    show forL _ _ _ (.int (k : Int) :: dsc k) _ _ = _
    rw [forL_consL]
    have pt : (Tg.one 5).put (.int (k : Int)) [x0, x1, some (.tup (L.map D.str)), some (.tup (R.map D.str)), some (.ref m), x5, x6, x7] = some [x0, x1, some (.tup (L.map D.str)), some (.tup (R.map D.str)), some (.ref m), some (.int (k : Int)), x6, x7] := rfl
    rw [pt]
    simp only
    have st1 : cmO [x0, x1, some (.tup (L.map D.str)), some (.tup (R.map D.str)), some (.ref m), some (.int (k : Int)), x6, x7] st = .nx [x0, x1, some (.tup (L.map D.str)), some (.tup (R.map D.str)), some (.ref m), some (.int (k : Int)), y6, y7] (st.set m (.dict true kvs1) ++ m1) := by
      have rg : rOk ((R.length : Int) + 1) := rOk_of (by omega) (by omega)
      have tn : ((R.length : Int) + 1).toNat = R.length + 1 := by omega
      have rv := rev_dsc (R.length + 1)
      unfold cmO
      simp [gr, rg, tn, rv, e1]
    rw [st1]
    simp only [SR.loop]
    rw [if_pos trivial, e2, List.set_append_left _ _ ml2, List.set_set, List.append_assoc]
end
theorem toks_ln (s : List Nat) : (toks s).length ≤ s.length := toks_len s
theorem common_ok {s t : List Nat} (hs : s.length ≤ 1000) (ht : t.length ≤ 1000) (cs : cpsOk s = true) (ct : cpsOk t = true) (st : Store) : c_common_match [.str s, .str t] st = .ok (.v (optD (bst (toks s) (toks t)))) st := by
  refine call_pure ?_ (optD_pure _)
  have hsl : sLine = 16777216 := rfl
  have k1 := fun st => tokens_ok (s := s) (st := st) hs
  have k2 := fun st => tokens_ok (s := t) (st := st) ht
  have hL := toks_tk cs
  have hR := toks_tk ct
  have lL : (toks s).length ≤ 1000 := Nat.le_trans (toks_ln s) hs
  have lR : (toks t).length ≤ 1000 := Nat.le_trans (toks_ln t) ht
  generalize toks s = L at *
  generalize toks t = R at *
  have gl : L.length ≤ sLine := by omega
  have m0 : (st ++ [Cell.dict true []])[st.length]? = some (.dict true []) := by simp
  obtain ⟨kvs, y5, y6, y7, more, e1, t1⟩ := cm_out (x0 := some (.str s)) (x1 := some (.str t)) hL hR lL lR (m := st.length) (L.length + 1) none none none (Nat.le_refl _) m0 (fun i' j' h1 h2 h3 => by omega) (by simp; omega)
  have sm : (st ++ [Cell.dict true []]).set st.length (.dict true kvs) = st ++ [.dict true kvs] := by simp
  rw [sm] at e1
  have t0 := t1 0 0 (Nat.zero_le _) (Nat.zero_le _)
  have kg : KDG2 (.v (.ref st.length)) [.int 0, .int 0] (st ++ [.dict true kvs] ++ more) = .ok (.v (optD (bst L R))) (st ++ [.dict true kvs] ++ more) := KDG2_ok (ks := [.inl 0, .inl 0]) (by simp) rfl t0 (show (2 : Nat) ≤ sLine by decide)
  have rg : rOk ((L.length : Int) + 1) := rOk_of (by omega) (by omega)
  have tn : ((L.length : Int) + 1).toNat = L.length + 1 := by omega
  have rv := rev_dsc (L.length + 1)
  rw [List.append_assoc] at kg e1
  have kg' : KDG2 (.v (.ref st.length)) [.int 0, .int 0] (st ++ Cell.dict true kvs :: more) = .ok (.v (optD (bst L R))) (st ++ Cell.dict true kvs :: more) := kg
  rw [cm_eq]
  simp [k1, k2, gl, rg, tn, rv, e1, kg']
end Law

/-! ## K08t -/
set_option Elab.async false
set_option linter.all false
set_option maxRecDepth 100000
namespace Law
open PySem Ev
def InvS (xs : List Int) (rest : Store) (P : List Nat) (most ch : Int) (ds : List D) (e : SEnv) (w : Store) : Prop :=
  ∃ (r o : List Nat) (p q t : Int) (c5 : Option D), ds = r.map (fun c => D.str [c]) ∧ e = [some (.ref 1), some (.str P), some (.int most), some (.int ch), some (.str o), c5, none] ∧ w = mkT xs p q t rest ∧ o.length + 2 * r.length ≤ 400 ∧ cpsOk o = true ∧ cpsOk r = true ∧ 0 ≤ p ∧ 0 ≤ q
theorem second_ok {xs : List Int} {p q t : Int} {rest : Store} {P : List Nat} {most : Int} (hp : 0 ≤ p) (hq : 0 ≤ q) (hP : P.length ≤ 100) (hc : cpsOk P = true) (hm1 : 10 ≤ most) (hm2 : most ≤ 24) :
    ∃ (u : List Nat) (p' q' t' : Int), c_l_second [.ref 1, .str P, .int most] (mkT xs p q t rest) = .ok (.v (.str u)) (mkT xs p' q' t' rest) ∧ u.length ≤ 1000 ∧ cpsOk u = true ∧ 0 ≤ p' ∧ 0 ≤ q' := by
  have main : Wp (c_l_second [.ref 1, .str P, .int most] (mkT xs p q t rest)) fun a w => ∃ (u : List Nat) (p' q' t' : Int), a = .v (.str u) ∧ w = mkT xs p' q' t' rest ∧ u.length ≤ 1000 ∧ cpsOk u = true ∧ 0 ≤ p' ∧ 0 ≤ q' := by
    refine wpc ?_
    have key : ∀ (u : List Nat) (p' q' t' : Int), u.length ≤ 1000 → cpsOk u = true → 0 ≤ p' → 0 ≤ q' → Lv (mkT xs p q t rest) (fun a w => ∃ (u : List Nat) (p' q' t' : Int), a = .v (.str u) ∧ w = mkT xs p' q' t' rest ∧ u.length ≤ 1000 ∧ cpsOk u = true ∧ 0 ≤ p' ∧ 0 ≤ q') (.v (.str u)) (mkT xs p' q' t' rest) :=
      fun u p' q' t' h2 h3 h4 h5 => Lv.tape0 rfl ⟨u, p', q', t', rfl, rfl, h2, h3, h4, h5⟩
    generalize Lv (mkT xs p q t rest) _ = Q at key ⊢
    have hsl : sLine = 16777216 := rfl
    obtain ⟨ch, p1, q1, t1, e1, r0, r1, hp1, hq1⟩ := tape_draw (xs := xs) (t := t) (many := 4) (rest := rest) hp hq (by decide)
    unfold d_l_second
    by_cases h0 : ch = 0
    · subst h0
      obtain ⟨s, p2, q2, t2, e2, a1, a2, a3, hp2, hq2⟩ := pattern_ok (xs := xs) (t := t1) (most := 9) (rest := rest) hp1 hq1 (by decide) (by decide)
      simp [e1, e2]
      exact key _ _ _ _ (by omega) a3 hp2 hq2
    · obtain ⟨u, p2, q2, t2, e2, c2, c3, hp2, hq2⟩ := filled_ok (xs := xs) (t := t1) (rest := rest) (P := P) hp1 hq1 hP hc
      have gu : u.length ≤ sLine := by omega
      simp [e1, e2, h0, gu]
      rw [WpR_seq]
      refine wp_forL (InvS xs rest P most ch) ⟨u, [], p2, q2, t2, none, rfl, rfl, rfl, by simp; omega, rfl, c3, hp2, hq2⟩ ?_ ?_
      · rintro d ds e w ⟨r, o, p, q, t, c5, h1, rfl, rfl, h4, h5, h6, hp, hq⟩
        cases r with
        | nil => cases h1
        | cons c r =>
          cases h1
          refine ⟨_, rfl, ?_⟩
          obtain ⟨k, p3, q3, t3, e3, k0, k1, hp3, hq3⟩ := tape_draw (xs := xs) (t := t) (many := 6) (rest := rest) hp hq (by decide)
          have hcc : cpsOk [c] = true ∧ cpsOk r = true := by
            simp only [cpsOk, List.all_cons, Bool.and_eq_true, List.all_nil, Bool.and_true] at h6 ⊢
            exact h6
          have c1 : c < 1114112 := by
            have := hcc.1
            simpa [cpsOk] using this
          obtain ⟨f, e4, f1, f2⟩ : ∃ f : List Nat, L2.atI [D.str [c], D.str [c], D.str [42], D.str [42, 42], D.str [42, c], D.str []] k = some (.str f) ∧ f.length ≤ 2 ∧ cpsOk f = true := by
            have : k = 0 ∨ k = 1 ∨ k = 2 ∨ k = 3 ∨ k = 4 ∨ k = 5 := by omega
            rcases this with rfl | rfl | rfl | rfl | rfl | rfl
            · exact ⟨_, rfl, by simp, hcc.1⟩
            · exact ⟨_, rfl, by simp, hcc.1⟩
            · exact ⟨_, rfl, by simp, by decide⟩
            · exact ⟨_, rfl, by simp, by decide⟩
            · exact ⟨_, rfl, by simp, by simp [cpsOk, c1]⟩
            · exact ⟨_, rfl, by simp, rfl⟩
          have g2 : 2 ≤ sLine := by omega
          have g6 : 6 ≤ sLine := by omega
          have go : o.length + f.length ≤ sLine := by
            simp only [List.length_cons] at h4
            omega
          simp [e3, e4, g2, g6, go]
          refine ⟨r, o ++ f, p3, q3, t3, _, rfl, rfl, rfl, ?_, ?_, hcc.2, hp3, hq3⟩
          · simp only [List.length_cons] at h4
            rw [List.length_append]
            omega
          · simp only [cpsOk, List.all_append, Bool.and_eq_true] at h5 f2 ⊢
            exact ⟨h5, f2⟩
      · rintro e w ⟨r, o, p, q, t, c5, h1, rfl, rfl, h4, h5, h6, hp, hq⟩
        have : r = [] := by cases r with
          | nil => rfl
          | cons _ _ => cases h1
        subst this
        have ol : o.length ≤ 400 := by simpa using h4
        have fin : ∀ (v : List Nat) (p q t : Int), v.length ≤ 900 → cpsOk v = true → 0 ≤ p → 0 ≤ q → Q (.v (.str (cut (v ++ [42]) none (some most)))) (mkT xs p q t rest) := fun v p q t h1 h2 h3 h4 => by
          refine key _ _ _ _ (Nat.le_trans (cut_len _ _ _) (by rw [List.length_append]; simp; omega)) (Ev.cps_cut ?_) h3 h4
          simp only [cpsOk, List.all_append, Bool.and_eq_true] at h2 ⊢
          exact ⟨h2, by decide⟩
        have go : o.length ≤ sLine := by omega
        have go1 : o.length + 1 ≤ sLine := by omega
        by_cases h2 : ch = 1
        · subst h2
          obtain ⟨a, p3, q3, t3, e3, a0, a1, hp3, hq3⟩ := tape_draw (xs := xs) (t := t) (many := (o.length : Int) + 1) (rest := rest) hp hq (by omega)
          obtain ⟨b, p4, q4, t4, e4, b0, b1, hp4, hq4⟩ := tape_draw (xs := xs) (t := t3) (many := 3) (rest := rest) hp3 hq3 (by decide)
          obtain ⟨f, e5, f1, f2⟩ : ∃ f : Nat, L2.atI [97, 47, 98] b = some f ∧ cpsOk [f] = true ∧ True := by
            have : b = 0 ∨ b = 1 ∨ b = 2 := by omega
            rcases this with rfl | rfl | rfl
            · exact ⟨_, rfl, by decide, trivial⟩
            · exact ⟨_, rfl, by decide, trivial⟩
            · exact ⟨_, rfl, by decide, trivial⟩
          obtain ⟨x, hx⟩ : ∃ x, x = cut o none (some a) := ⟨_, rfl⟩
          obtain ⟨y, hy⟩ : ∃ y, y = cut o (some (a + 1)) none := ⟨_, rfl⟩
          have x1 : x.length ≤ 400 := by rw [hx]; exact Nat.le_trans (cut_len _ _ _) ol
          have y1 : y.length ≤ 400 := by rw [hy]; exact Nat.le_trans (cut_len _ _ _) ol
          have x2 : cpsOk x = true := by rw [hx]; exact Ev.cps_cut h5
          have y2 : cpsOk y = true := by rw [hy]; exact Ev.cps_cut h5
          have g3 : 3 ≤ sLine := by omega
          have g4 : x.length + 1 ≤ sLine := by omega
          have g5 : x.length + 1 + y.length ≤ sLine := by omega
          have g5' : x.length + (y.length + 1) ≤ sLine := by omega
          have g6 : x.length + 1 + y.length + 1 ≤ sLine := by omega
          have g6' : x.length + (y.length + 1) + 1 ≤ sLine := by omega
          have g6'' : x.length + (y.length + 1 + 1) ≤ sLine := by omega
          have fn := fin (x ++ f :: y) p4 q4 t4 (by simp; omega) (by
            simp only [cpsOk, List.all_append, List.all_cons, List.all_nil, Bool.and_true, Bool.and_eq_true] at x2 y2 f1 ⊢
            exact ⟨x2, f1, y2⟩) hp4 hq4
          simp [e3, e4, e5, go, ← hx, ← hy, g3, g4, g5, g5', g6, g6', g6'']
          simpa using fn
        · simp [h2, go1]
          exact fin o p q t (by omega) h5 hp hq
  obtain ⟨a, w, e, u, p', q', t', rfl, rfl, h⟩ := main.out
  exact ⟨u, p', q', t', e, h⟩
theorem repr_o {o : OS} {n : Nat} (hn : n ≤ 100000) (h : BsOk n o) : ∃ s, ∀ st, dRepr (.v (optD o)) st = some (.v (.str s)) := by
  refine ⟨rpr (optD o), fun st => dRepr_q ?_ ?_⟩
  · cases o with
    | none => rfl
    | some s => exact (h s rfl).2
  · cases o with
    | none => exact Nat.zero_le _
    | some s =>
      have := (h s rfl).1
      show s.length ≤ 1000000
      omega
theorem law_true (ns : List Int) (hn : ns.length ≤ 63) : ∃ st', c_law [.rol (ns.map .int)] [] = .ok (.v (.bl true)) st' := by
  have main : Wp (c_law [.rol (ns.map .int)] []) fun a _ => a = .v (.bl true) := by
    refine wpc ?_
    have fin : ∀ st : Store, Lv [] (fun a _ => a = .v (.bl true)) (.v (.bl true)) st := fun st => Lv.same (st := []) rfl rfl
    generalize Lv [] (fun a _ => a = .v (.bl true)) = Q at fin ⊢
    obtain ⟨t, e0⟩ := tape_start (ns := ns)
    obtain ⟨r, p1, q1, t1, e1, r0, r1, hp1, hq1⟩ := tape_draw (xs := ns) (p := 0) (q := 0) (t := t) (many := 8) (rest := []) (by decide) (by decide) (by decide)
    obtain ⟨mo, e2, m1, m2⟩ : ∃ m : Int, L2.atI [D.int 24, D.int 10, D.int 10, D.int 10, D.int 10, D.int 10, D.int 10, D.int 10] r = some (.int m) ∧ 10 ≤ m ∧ m ≤ 24 := by
      have : r = 0 ∨ r = 1 ∨ r = 2 ∨ r = 3 ∨ r = 4 ∨ r = 5 ∨ r = 6 ∨ r = 7 := by omega
      rcases this with rfl | rfl | rfl | rfl | rfl | rfl | rfl | rfl <;> exact ⟨_, rfl, by decide, by decide⟩
    obtain ⟨P, p2, q2, t2, e3, a1, a2, a3, hp2, hq2⟩ := pattern_ok (xs := ns) (t := t1) (most := mo) (rest := []) hp1 hq1 (by omega) (by omega)
    obtain ⟨g, p3, q3, t3, e5, c1, c3, hp3, hq3⟩ := second_ok (xs := ns) (t := t2) (rest := []) (P := P) (most := mo) hp2 hq2 (by omega) a3 m1 m2
    have pa := fun st => parts_ok (p := P) (st := st) (by omega)
    have pb := fun st => parts_ok (p := g) (st := st) (by omega)
    have hL := toks_tk a3
    have hR := toks_tk c3
    have lL : (toks P).length ≤ 1000 := Nat.le_trans (toks_len P) (by omega)
    have lR : (toks g).length ≤ 1000 := Nat.le_trans (toks_len g) c1
    have du := fun (p q : Nat) (st : Store) => due_ok (p := p) (q := q) (st := st) hL hR lL lR
    have cm1 := fun st => common_ok (s := P) (t := g) (by omega) c1 a3 c3 st
    have cm2 := fun st => common_ok (s := g) (t := P) c1 (by omega) c3 a3 st
    rw [bst_comm (toks g) (toks P)] at cm2
    obtain ⟨sr, rp⟩ := repr_o (by omega) (bst_ok _ _ hL hR)
    have g8 : 8 ≤ sLine := by decide
    generalize toks P = L at *
    generalize toks g = R at *
    generalize bst L R = v at *
    unfold d_law
    simp [e0]
    rw [show [Cell.lst (ns.map D.int), Cell.lst [D.ref 0, D.int 0, D.int 0, D.int t]] = mkT ns 0 0 t [] from rfl]
    simp [e1, e2, e3, e5, pa, pb, g8]
    have d1 := du 2 3 (mkT ns p3 q3 t3 [Cell.lst (L.map D.str), Cell.lst (R.map D.str)]) rfl rfl
    simp [d1, cm1, cm2, rp]
    exact fin _
  obtain ⟨a, w, e, rfl⟩ := main.out
  exact ⟨w, e⟩
end Law

/-! ## Ev12t -/
set_option Elab.async false
set_option linter.all false
set_option maxRecDepth 100000
set_option maxHeartbeats 1000000
/-! Ev12t: the end of a law in which some defs make lambdas: their tables of code objects are tracked. -/
namespace Ev
open PySem PySem.Spec PyProof.Rows L2
/-- what is told of the defs that make lambdas: code object and table -/
structure TbF (K : PySem.W.Frag) (h : Heap) (z : Addr × Addr) : Prop where
  emp : h.get? z.2 = some { cls := .none, data := .fields #[] }
  out : K.lookup z.2 = none
  code : PySem.W.CodeHd h z.1 z.2
theorem lawGT {P : Program} {w : World} {K : PySem.W.Frag} {mg mb : Str → Option Value} {k : Nat} {fa a : Addr} {fd : FuncData} {x : Str} {c : List D → Store → R RV} {cl : CT} {cs : List (Addr × Addr)} {z : Shared} {vs : List Value} {ns : List Int}
    (hK : K.In z.heap) (hns : z.heap.Ns mainGlobals mg) (hmb : z.heap.Ns builtinsNs mb) (hbb : ∀ x : Str, x ≠ "__name__" → mb x = bootBuiltins x) (hlim : z.heap.NoLimit) (hgens : z.gens = #[])
    (tf : ∀ q ∈ cs, TbF K z.heap q) (hbm : ∃ (bm : Addr) (ob : Obj), mg "__builtins__" = some (.ref bm) ∧ bm ≠ builtinsNs ∧ z.heap.get? bm = some ob ∧ ob.cls = .type "module" ∧ ob.dict = some builtinsNs ∧ ob.data = .plain)
    (tcl : ∀ q ∈ cl.tabs, ∃ y ∈ cs, y.2 = q.1)
    (hat : z.heap.get? a = some { cls := .type "list", data := .seq vs.toArray }) (hi : IntsAre vs ns) (hl : ns.length ≤ sizeLine) (hr : Room k callerA)
    (F : ∀ base : Heap, K.In base → base.Ns mainGlobals mg → (∀ q ∈ cs, LamX.TabB base mg q.1 q.2) → FnG false P w K mg base k fa fd [x] (spD K cl 1 c)) (hbind : ∀ (s : Shared) (u : Value), BindsTo s fd ⟨[u], []⟩ [(x, u)])
    (hc : ∃ st', c [.rol (ns.map .int)] [] = .ok (.v (.bl true)) st') :
    codeAny (model P w) callerA (.call (.ref fa) ⟨[.ref a], []⟩) (fun r s' => r = .ok (.ret (.bool true)) ∧ OldK z.heap s'.heap ∧ s'.os = z.os ∧ AllBare s'.gens) z := by
  have hv := vals_ints hi
  have hvl := hi.length
  have intsR : ∀ (ns : List Int) (ρ : List Addr) (H : Hp), RDs K ρ H (ns.map .int) (ns.map V.int) := by
    intro ns ρ H
    induction ns with
    | nil => rfl
    | cons n r ih => exact ⟨.int n, _, rfl, rfl, ih⟩
  let inT : Addr → Prop := fun b => ∃ q ∈ cs, q.2 = b
  have empT : ∀ b, inT b → z.heap.get? b = some { cls := .none, data := .fields #[] } := by
    rintro b ⟨q, hq, rfl⟩; exact (tf q hq).emp
  have aNo : ¬ inT a := fun h => by
    have e := empT a h
    rw [hat] at e
    cases (show Data.seq vs.toArray _ = Data.fields #[] from congrArg Obj.data (Option.some.inj e))
  have main : ∀ H : Hp, (∀ b, inT b → H b = some (.tbl #[])) → (∀ b, H b = none ∨ inT b ∨ ∃ o xs, H b = some (.frz o (.lst xs))) → RoL K H a (ns.map V.int) → HOk P w H z.heap → (∀ b, H b ≠ none → b = a ∨ inT b) → (H a ≠ none → K.lookup a = none) →
      codeAny (model P w) callerA (.call (.ref fa) ⟨[.ref a], []⟩) (fun r s' => r = .ok (.ret (.bool true)) ∧ OldK z.heap s'.heap ∧ s'.os = z.os ∧ AllBare s'.gens) z := by
    intro H atT shape rol hok honly hfree
    have keepB : ∀ {b : Addr} {o : Obj}, z.heap.get? b = some o → H b = none → (hidT z.heap H).get? b = some o := fun e n => hidT_get e n
    have untracked : ∀ {b : Addr} {o : Obj}, z.heap.get? b = some o → (∀ us m, o.data ≠ .seq us m) → o.data ≠ .fields #[] → H b = none := by
      intro b o e n1 n2
      cases q : H b with
      | none => rfl
      | some u =>
        rcases honly b (by rw [q]; simp) with rfl | h
        · rw [hat] at e; cases e; exact absurd rfl (n1 _ _)
        · rw [empT b h] at e; cases e; exact absurd rfl n2
    have dictFree : ∀ {b : Addr} {o : Obj} {es : Array DictEntry} {ep : Nat}, z.heap.get? b = some o → o.data = .dict es ep → H b = none := fun e d => untracked e (fun _ _ y => by rw [d] at y; cases y) (fun y => by rw [d] at y; cases y)
    have nsB : ∀ {b : Addr} {m : Str → Option Value}, z.heap.Ns b m → (hidT z.heap H).Ns b m := fun {b m} ⟨o, es, ep, e, d, r⟩ => ⟨o, es, ep, keepB e (dictFree e d), d, r⟩
    have kB : K.In (hidT z.heap H) := by
      intro b o e
      refine keepB (hK b o e) ?_
      cases q : H b with
      | none => rfl
      | some u =>
        rcases honly b (by rw [q]; simp) with rfl | ⟨y, hy, rfl⟩
        · rw [hfree (by rw [q]; simp)] at e; cases e
        · rw [(tf y hy).out] at e; cases e
    have modB : Mod K mg (hidT z.heap H) := ⟨kB, nsB hns, ⟨mb, nsB hmb, hbb⟩, hlim.elim fun mc h => ⟨mc, nsB h.1, h.2⟩⟩
    have tabB : ∀ y ∈ cs, LamX.TabB (hidT z.heap H) mg y.1 y.2 := by
      intro y hy
      have ey := (tf y hy).emp
      refine ⟨?_, ?_, fun e => ?_⟩
      · obtain ⟨oc, us, fl, tk, fg, ti, b1, lc, tl, k0, k1, k2, k3, k4, k5, k6, k7, k8, k9⟩ := (tf y hy).code
        refine ⟨oc, us, fl, tk, fg, ti, b1, lc, tl, keepB k0 (untracked k0 (fun _ _ q => by rw [k2] at q; cases q) fun q => ?_), k1, k2, k3, k4, k5, k6, k7, k8, k9⟩
        rw [k2] at q
        cases q
        simp at k3
      · obtain ⟨bm, ob, k1, k2, k3, k4, k5, k6⟩ := hbm
        refine ⟨bm, ob, k1, k2, fun e => ?_, fun e => ?_, keepB k3 (untracked k3 (fun _ _ q => by rw [k6] at q; cases q) fun q => by rw [k6] at q; cases q), k4, k5, k6⟩
        · obtain ⟨o, es, ep, e1, e2, _⟩ := hns
          rw [e, e1] at k3
          cases k3
          rw [e2] at k6
          cases k6
        · rw [e, ey] at k3
          cases k3
          cases k6
      · obtain ⟨o, es, ep, e1, e2, _⟩ := hns
        rw [e, ey] at e1
        cases e1
        cases e2
    have noFr : ∀ b : Addr, b ∉ frs [] := fun b h => by cases h
    have ent : Env0 P w K mg (hidT z.heap H) callerA [] z H := ⟨rfl, modB, fun b o e => of_hidT e, Nat.le_of_eq (hidT_size _ _), trivial, fun b hb => absurd hb (noFr b), hok, .of_eq hgens⟩
    obtain ⟨st', hst⟩ := hc
    have prom : spD K cl 1 c [.ref a] H (fun v _ => v = .bl true) fun _ _ _ => False := by
      refine ⟨[], [], [.rol (ns.map .int)], ⟨rfl, List.nodup_nil, (fun n c a h => by simp at h), fun q hq => LamX.TabS.nil (atT q.1 (by obtain ⟨y, hy, e⟩ := tcl q hq; exact ⟨y, hy, e⟩))⟩, ⟨.ref a, [], rfl, ⟨a, ns.map V.int, rfl, rol, intsR ns _ _⟩, rfl⟩, rfl, ?_⟩
      rw [hst]
      exact fun ρ' H' v x S r => r
    refine codeAny_mono ((F _ kB (nsB hns) tabB).go callerA [] z H ⟨[.ref a], []⟩ [.ref a] [.ref a] _ _ rfl hr ent (hbind z (.ref a)) (.cons rfl .nil) prom) fun r s' h => ?_
    match r, h with
    | .error e, ⟨_, _, _, _, _, _, _, _, _, _, _, _, q⟩ => exact q.elim
    | .ok (.ret u), ⟨v, H', os, bare, un, hok', r', q⟩ =>
      have q : v = .bl true := q
      subst q
      obtain rfl : u = Value.bool true := r'
      have same : ∀ b o, ¬ inT b → z.heap.get? b = some o → s'.heap.get? b = some o := by
        intro b o nb e
        cases q : H b with
        | none => exact un.keep b o e q (noFr b) (by simp)
        | some u =>
          rcases shape b with y | y | ⟨ob, xs, y⟩
          · rw [q] at y; cases y
          · exact absurd y nb
          · obtain ⟨e1, _⟩ := hok b _ y
            obtain ⟨e2, _⟩ := hok' b _ (un.frzs b ob _ y)
            rw [e] at e1; cases e1
            exact e2
      have grown : ∀ b, inT b → ∃ ys : Array Value, s'.heap.get? b = some { cls := .none, data := .fields ys } := by
        intro b hb
        obtain ⟨ys, y⟩ := un.tbls b #[] (atT b hb)
        exact ⟨_, hok' b _ y⟩
      refine ⟨rfl, ⟨fun b o e => ?_, fun b o e => ?_⟩, os, bare⟩
      · by_cases hb : inT b
        · obtain ⟨ys, hy⟩ := grown b hb
          obtain ⟨y, hy1, rfl⟩ := hb
          have ey := (tf y hy1).emp
          rw [ey] at e
          cases e
          exact .inr (.inl ⟨((tf y hy1).code.tab ey).isCodeTable, rfl, #[], ys, rfl, by rw [Array.empty_append]; exact hy⟩)
        · exact .inl (same b o hb e)
      · by_cases hb : inT b
        · obtain ⟨ys, hy⟩ := grown b hb
          exact ⟨_, hy⟩
        · exact ⟨o, same b o hb e⟩
  classical
  let HT : Hp := fun b => if inT b then some (.tbl #[]) else none
  have onT : ∀ b, inT b → HT b = some (.tbl #[]) := fun b h => if_pos h
  have offT : ∀ b, ¬ inT b → HT b = none := fun b h => if_neg h
  cases hka : K.lookup a with
  | some o =>
    have e := hK a o hka
    rw [hat] at e
    cases e
    refine main HT onT (fun b => ?_) (.inr ⟨_, vs.toArray, _, hka, rfl, rfl, rfl, by rw [List.size_toArray, hvl]; exact hl, by simpa using hv⟩) (fun b u y => ?_) (fun b y => ?_) fun y => absurd (offT a aNo) y
    · by_cases h : inT b
      · exact .inr (.inl h)
      · exact .inl (offT b h)
    · by_cases h : inT b
      · rw [onT b h] at y; cases y
        exact empT b h
      · rw [offT b h] at y; cases y
    · by_cases h : inT b
      · exact .inr h
      · exact absurd (offT b h) y
  | none =>
    let H0 : Hp := fun b => if b = a then some (.frz { cls := .type "list", data := .seq vs.toArray } (.lst (ns.map V.int))) else HT b
    have at0 : H0 a = some (.frz { cls := .type "list", data := .seq vs.toArray } (.lst (ns.map V.int))) := if_pos rfl
    have ne0 : ∀ b, b ≠ a → H0 b = HT b := fun b h => if_neg h
    refine main H0 (fun b h => ?_) (fun b => ?_) (.inl ⟨_, at0⟩) (fun b u y => ?_) (fun b y => ?_) fun _ => hka
    · rw [ne0 b fun e => aNo (e ▸ h)]; exact onT b h
    · by_cases h : b = a
      · subst h; exact .inr (.inr ⟨_, _, at0⟩)
      · rw [ne0 b h]
        by_cases h2 : inT b
        · exact .inr (.inl h2)
        · exact .inl (offT b h2)
    · by_cases h : b = a
      · subst h
        rw [at0] at y; cases y
        exact ⟨hat, by rw [List.length_map]; exact hl, vs, _, hv, hat⟩
      · rw [ne0 b h] at y
        by_cases h2 : inT b
        · rw [onT b h2] at y; cases y
          exact empT b h2
        · rw [offT b h2] at y; cases y
    · by_cases h : b = a
      · exact .inl h
      · rw [ne0 b h] at y
        by_cases h2 : inT b
        · exact .inr h2
        · exact absurd (offT b h2) y
theorem walkGT {l : PySem.W.OpenLaw} {n k : Nat} {q : Program} {loose : List Str} {XP : (Str → Option Value) → Heap → Prop} {YP : World → Heap → Prop} {d : DefRec} {K : Params → PySem.W.Frag} {x : Str} {c : List D → Store → R RV}
    (hn : l.most = some n) (hn2 : n ≤ sizeLine) (hdf : d.params.defaults = []) (hr : Room k callerA) (hY : ∀ (w : World) (h : Heap), YP w h → (K w.params).In h)
    (F : ∀ (w : World) (mg : Str → Option Value) (fa : Addr) (h : Heap), YP w h → (K w.params).In h → h.Ns mainGlobals mg → mg d.name = some (.ref fa) →
      ∃ (fd : FuncData) (cs : List (Addr × Addr)) (cl : CT), (∀ q ∈ cs, TbF (K w.params) h q) ∧ (∀ q ∈ cl.tabs, ∃ y ∈ cs, y.2 = q.1) ∧ (∀ (s : Shared) (u : Value), BindsTo s fd ⟨[u], []⟩ [(x, u)]) ∧
        ∀ base : Heap, (K w.params).In base → base.Ns mainGlobals mg → (∀ q ∈ cs, LamX.TabB base mg q.1 q.2) → FnG false l.prog w (K w.params) mg base k fa fd [x] (spD (K w.params) cl 1 c))
    (hc : ∀ ns : List Int, ns.length ≤ n → ∃ st', c [.rol (ns.map .int)] [] = .ok (.v (.bl true)) st') : PySem.W.WalkO q loose XP YP l.row.toRowW d [] (fun f vs => PySem.call f vs) := by
  refine Att.attach_call hn hdf fun w s₀ s₁ mg mb fa o pm cd doc a vs ns G Y ho hd hcd hmg hobj hints hlen hg => ?_
  obtain ⟨fd, cs, cl, ht, htc, hb, hF⟩ := F w mg fa _ Y (hY w _ Y) G.T.g hmg
  exact lawGT (hY w _ Y) G.T.g G.T.b G.T.builtins G.T.nolimit hg ht G.T.bmain htc hobj hints (Nat.le_trans hlen hn2) hr hF hb (hc ns hlen)
/-- the table of a code object -/
def tabA (K : PySem.W.Frag) (c : Addr) : Addr := match K.lookup c with
  | some ⟨_, _, .fields vs, _⟩ => (match (vs[11]? : Option Value) with
    | some (.ref P) => P
    | _ => 0)
  | _ => 0
theorem tbF_mk {K : Params → PySem.W.Frag} {as : List Addr} {e : ∀ P, as = (K P).map (·.1)} {ts : List Addr} {w : World} {h : Heap} {c : Addr} (Y : (PySem.W.kmHook K as e ts).says w h) (hc : PySem.W.codeHdIn (K w.params) c (tabA (K w.params) c) = true)
    (hm : ts.contains (tabA (K w.params) c) = true) (ho : (K w.params).lookup (tabA (K w.params) c) = none) : TbF (K w.params) h (c, tabA (K w.params) c) :=
  ⟨PySem.W.km_tabs_of Y _ (by simpa using hm), ho, PySem.W.codeHd_of_K (PySem.W.km_in_of Y) hc⟩
end Ev

/-! ## Ev70 -/
set_option Elab.async false
set_option linter.all false
set_option maxRecDepth 100000
namespace Ev
open PySem PySem.Spec PyProof.Rows L2
end Ev
namespace Ev
open PySem
theorem dvV_drop (kvs : List (D × D)) (k j : D) : dvV (ddrop kvs k) j = if j = k then none else dvV kvs j := by
  induction kvs with
  | nil => simp [ddrop, dvV]
  | cons p r ih =>
    unfold ddrop at ih ⊢
    by_cases e : p.1 = k
    · rw [List.filter_cons_of_neg (by simpa using e), ih]
      by_cases q : j = k
      · rw [if_pos q, if_pos q]
      · rw [if_neg q, if_neg q, dvV_cons, if_neg (fun z => q (z.symm.trans e))]
    · rw [List.filter_cons_of_pos (by simpa using e), dvV_cons, dvV_cons, ih]
      by_cases q : j = k
      · have : ¬ p.1 = j := fun z => e (z.trans q)
        simp only [if_pos q, if_neg this]
      · simp only [if_neg q]
theorem dvV_none {kvs : List (D × D)} {k : D} (h : ∀ p ∈ kvs, p.1 ≠ k) : dvV kvs k = none := by
  induction kvs with
  | nil => rfl
  | cons p r ih =>
    rw [dvV_cons, if_neg (h p (List.mem_cons_self ..))]
    exact ih fun q hq => h q (List.mem_cons_of_mem _ hq)
theorem dvV_some {kvs : List (D × D)} {k d : D} (h : dvV kvs k = some d) : k ∈ kvs.map (·.1) := by
  refine Classical.byContradiction fun hn => ?_
  rw [dvV_none fun p hp e => hn (List.mem_map.mpr ⟨p, hp, e⟩)] at h
  cases h
theorem ddrop_keys (kvs : List (D × D)) (k : D) : (ddrop kvs k).map (·.1) = (kvs.map (·.1)).filter fun j => @decide (j ≠ k) (Classical.propDecidable _) := by
  unfold ddrop
  rw [List.filter_map]
  congr 1
  apply List.filter_congr
  intro p _
  rw [Bool.eq_iff_iff]
  simp
theorem perm_out {α : Type} {k : α} : ∀ {l : List α}, l.Nodup → k ∈ l → l.Perm (k :: l.filter fun j => @decide (j ≠ k) (Classical.propDecidable _))
  | [], _, h => by cases h
  | x :: l, hn, h => by
    rw [List.nodup_cons] at hn
    by_cases e : x = k
    · subst e
      rw [List.filter_cons_of_neg (by simp)]
      have : l.filter (fun j => @decide (j ≠ x) (Classical.propDecidable _)) = l := List.filter_eq_self.mpr fun y hy => by
        have : y ≠ x := fun z => hn.1 (z ▸ hy)
        simpa using this
      rw [this]
    · rw [List.filter_cons_of_pos (by simpa using e)]
      have hk : k ∈ l := (List.mem_cons.mp h).resolve_left fun z => e z.symm
      exact (List.Perm.cons x (perm_out hn.2 hk)).trans (List.Perm.swap k x _)
theorem dput_keys {kvs : List (D × D)} {k v : D} (hn : (kvs.map (·.1)).Nodup) : ((dputD kvs k v).map (·.1)).Perm (k :: (kvs.map (·.1)).filter fun j => @decide (j ≠ k) (Classical.propDecidable _)) := by
  unfold dputD
  split
  · rename_i ha
    have e : (kvs.map fun p => @ite _ (p.1 = k) (Classical.propDecidable _) (p.1, v) p).map (·.1) = kvs.map (·.1) := by
      rw [List.map_map]
      apply List.map_congr_left
      intro p _
      simp only [Function.comp_apply]
      split <;> rfl
    rw [e]
    obtain ⟨p, hp, hd⟩ := List.any_eq_true.mp ha
    exact perm_out hn (List.mem_map.mpr ⟨p, hp, of_decide_eq_true hd⟩)
  · rename_i ha
    have hno : ∀ j ∈ kvs.map (·.1), j ≠ k := fun j hj e => by
      obtain ⟨p, hp, rfl⟩ := List.mem_map.mp hj
      exact ha (List.any_eq_true.mpr ⟨p, hp, decide_eq_true e⟩)
    have : (kvs.map (·.1)).filter (fun j => @decide (j ≠ k) (Classical.propDecidable _)) = kvs.map (·.1) := List.filter_eq_self.mpr fun y hy => by simpa using hno y hy
    rw [this, List.map_append]
    exact List.perm_append_comm
abbrev Prs : Type := List (List Nat × List Ch)
abbrev dK (p : List Nat × List Ch) : D := .str p.1
def withE (P : Prs) (n : List Nat) (v : List Ch) : Prs := (P.filter fun p => decide (p.1 < n)) ++ [(n, v)] ++ P.filter fun p => decide (n < p.1)
def outE (P : Prs) (n : List Nat) : Prs := P.filter fun p => !decide (p.1 = n)
theorem nlt_tri {a b : List Nat} (h : a ≠ b) : (decide (a < b) = true ∧ decide (b < a) = false) ∨ (decide (a < b) = false ∧ decide (b < a) = true) := by
  by_cases h1 : a < b
  · have h2 : ¬ b < a := fun z => List.lt_irrefl a (List.lt_trans h1 z)
    exact .inl ⟨decide_eq_true h1, decide_eq_false h2⟩
  · have h2 : b < a := Classical.byContradiction fun z => h (nlt_anti (a := a) (b := b) z h1)
    exact .inr ⟨decide_eq_false h1, decide_eq_true h2⟩
theorem with_perm (P : Prs) (n : List Nat) (v : List Ch) : (withE P n v).Perm ((n, v) :: outE P n) := by
  have e : (P.filter fun p => decide (p.1 < n)) = (outE P n).filter fun p => decide (p.1 < n) := by
    unfold outE
    rw [List.filter_filter]
    apply List.filter_congr
    intro p _
    by_cases h : p.1 = n
    · have : ¬ p.1 < n := by rw [h]; exact List.lt_irrefl n
      simp [h, this, List.lt_irrefl]
    · simp [h]
  have e2 : (P.filter fun p => decide (n < p.1)) = (outE P n).filter fun p => !decide (p.1 < n) := by
    unfold outE
    rw [List.filter_filter]
    apply List.filter_congr
    intro p _
    by_cases h : p.1 = n
    · simp [h, List.lt_irrefl]
    · rcases nlt_tri h with ⟨a, b⟩ | ⟨a, b⟩ <;> simp [h, a, b]
  unfold withE
  rw [e, e2]
  refine (List.Perm.append_right _ List.perm_append_comm).trans ?_
  rw [List.append_assoc]
  exact List.Perm.cons _ (List.filter_append_perm _ _)
def Srt (P : Prs) : Prop := P.Pairwise fun a b => a.1 < b.1
theorem with_srt {P : Prs} (h : Srt P) (n : List Nat) (v : List Ch) : Srt (withE P n v) := by
  unfold Srt withE at *
  rw [List.append_assoc, List.pairwise_append]
  refine ⟨h.filter _, ?_, ?_⟩
  · rw [List.singleton_append, List.pairwise_cons]
    exact ⟨fun p hp => of_decide_eq_true (List.mem_filter.mp hp).2, h.filter _⟩
  · intro a ha b hb
    have h1 : a.1 < n := of_decide_eq_true (List.mem_filter.mp ha).2
    rcases List.mem_append.mp hb with hb | hb
    · rw [List.mem_singleton] at hb
      rw [hb]; exact h1
    · exact List.lt_trans h1 (of_decide_eq_true (List.mem_filter.mp hb).2)
theorem srt_nodup {P : Prs} (h : Srt P) : (P.map (·.1)).Nodup := by
  unfold List.Nodup
  rw [List.pairwise_map]
  refine List.Pairwise.imp (R := fun a b : List Nat × List Ch => a.1 < b.1) ?_ h
  intro a b h e
  rw [e] at h
  exact List.lt_irrefl b.1 h
structure MR (P : Prs) (M : List (D × D)) : Prop where
  srt : Srt P
  perm : (M.map (·.1)).Perm (P.map dK)
  val : ∀ p ∈ P, dvV M (dK p) = some (txD p.2)
theorem MR.nodup {P : Prs} {M : List (D × D)} (h : MR P M) : (M.map (·.1)).Nodup := by
  rw [h.perm.nodup_iff]
  have := srt_nodup h.srt
  unfold List.Nodup at *
  rw [List.pairwise_map] at *
  exact this.imp fun {a b} (h : a.1 ≠ b.1) (e : dK a = dK b) => h (by injection e)
theorem MR.nil : MR [] [] := ⟨.nil, .nil, fun p hp => by cases hp⟩
theorem filter_keys (P : Prs) (n : List Nat) : (P.map dK).filter (fun j => @decide (j ≠ D.str n) (Classical.propDecidable _)) = (outE P n).map dK := by
  unfold outE
  rw [List.filter_map]
  congr 1
  apply List.filter_congr
  intro p _
  rw [Bool.eq_iff_iff]
  simp [dK]
theorem MR.put {P : Prs} {M : List (D × D)} (h : MR P M) (n : List Nat) (v : List Ch) : MR (withE P n v) (dputD M (.str n) (txD v)) := by
  have wp := with_perm P n v
  refine ⟨with_srt h.srt n v, ?_, fun p hp => ?_⟩
  · refine (dput_keys h.nodup).trans (List.Perm.trans ?_ (wp.map dK).symm)
    refine List.Perm.cons _ ?_
    rw [← filter_keys]
    exact h.perm.filter _
  · rw [dvV_put]
    rcases List.mem_cons.mp (wp.mem_iff.mp hp) with rfl | hp
    · rw [if_pos rfl]
    · have := List.mem_filter.mp hp
      have hne : ¬ dK p = D.str n := fun e => by
        have h2 := this.2
        injection e with e
        simp [e] at h2
      rw [if_neg hne]
      exact h.val p this.1
theorem MR.drop {P : Prs} {M : List (D × D)} (h : MR P M) (n : List Nat) : MR (outE P n) (ddrop M (.str n)) := by
  refine ⟨h.srt.filter _, ?_, fun p hp => ?_⟩
  · rw [ddrop_keys, ← filter_keys]
    exact h.perm.filter _
  · have := List.mem_filter.mp hp
    rw [dvV_drop]
    have hne : ¬ dK p = D.str n := fun e => by
      have h2 := this.2
      injection e with e
      simp [e] at h2
    rw [if_neg hne]
    exact h.val p this.1
theorem MR.has {P : Prs} {M : List (D × D)} (h : MR P M) (n : List Nat) : (dvV M (.str n)).isSome = true ↔ n ∈ P.map (·.1) := by
  constructor
  · intro hs
    obtain ⟨d, hd⟩ := Option.isSome_iff_exists.mp hs
    have := h.perm.mem_iff.mp (dvV_some hd)
    obtain ⟨p, hp, e⟩ := List.mem_map.mp this
    injection e with e
    exact List.mem_map.mpr ⟨p, hp, e⟩
  · intro hn
    obtain ⟨p, hp, rfl⟩ := List.mem_map.mp hn
    have := h.val p hp
    rw [show D.str p.1 = dK p from rfl, this]; rfl
theorem MR.keys {P : Prs} {M : List (D × D)} (h : MR P M) : ∃ ss : List (List Nat), strsOf (M.map (·.1)) = some ss ∧ ss.length = P.length ∧ sSort ss = P.map (·.1) := by
  let un : D → List Nat := fun d => match d with
    | .str s => s
    | _ => []
  have e1 : M.map (·.1) = ((M.map (·.1)).map un).map D.str := by
    rw [List.map_map]
    conv => lhs; rw [← List.map_id (M.map (·.1))]
    apply List.map_congr_left
    intro d hd
    obtain ⟨p, _, rfl⟩ := List.mem_map.mp (h.perm.mem_iff.mp hd)
    rfl
  have pm : ((M.map (·.1)).map un).Perm (P.map (·.1)) := by
    have := h.perm.map un
    rw [List.map_map (f := dK)] at this
    exact this
  refine ⟨(M.map (·.1)).map un, ?_, ?_, ?_⟩
  · conv => lhs; rw [e1]
    exact strsOf_mapA _
  · rw [pm.length_eq, List.length_map]
  · refine (sSort_uniq pm.symm ?_).symm
    rw [List.pairwise_map]
    refine List.Pairwise.imp (R := fun a b : List Nat × List Ch => a.1 < b.1) ?_ h.srt
    intro a b h z
    exact List.lt_irrefl a.1 (List.lt_trans h z)
theorem starts_eq (s t : List Nat) : Txt.startswith ⟨s.toArray⟩ ⟨t.toArray⟩ = decide (s.take t.length = t) := by
  unfold Txt.startswith
  rw [StrLaws.subAt_eq]
  have l1 : (⟨s.toArray⟩ : Str).length = s.length := by rw [strlen]
  have l2 : (⟨t.toArray⟩ : Str).length = t.length := by rw [strlen]
  rw [l1, l2]
  rw [Bool.eq_iff_iff, Bool.and_eq_true, decide_eq_true_eq, decide_eq_true_eq, beq_iff_eq]
  constructor
  · rintro ⟨_, h⟩; simpa using h
  · intro h
    have := congrArg List.length h
    rw [List.length_take] at this
    exact ⟨by omega, by simpa using h⟩
@[simp] theorem gStarts_at (s t : List Nat) (st : Store) : gStarts s [.v (.str t)] st = some (.v (.bl (decide (s.take t.length = t)))) := by
  show some (RV.v (.bl (Txt.startswith ⟨s.toArray⟩ ⟨t.toArray⟩))) = _
  rw [starts_eq]
@[simp] theorem eDNewK_at (e : SEnv) (st : Store) : eDNewK e st = .ok (.v (.ref st.length)) (st ++ [.dict false []]) := rfl
end Ev

/-! ## Ev71 -/
set_option Elab.async false
set_option linter.all false
set_option maxRecDepth 100000
namespace Ev
open PySem PySem.Spec PyProof.Rows L2
variable {tbs : List (Addr × Str)} {w : World}
def NoAs (K : PySem.W.Frag) (C : Addr) : List Str → Prop
  | [] => True
  | f :: r => NoAttr K C f ∧ NoAs K C r
theorem NoAs.look {K : PySem.W.Frag} {C : Addr} : ∀ {l : List Str}, NoAs K C l → ∀ f, f ∈ l → NoAttr K C f
  | [], _, f, h => by cases h
  | g :: r, hf, f, h => by
    rcases List.mem_cons.mp h with rfl | h
    · exact hf.1
    · exact hf.2.look f h
def FldL (K : PySem.W.Frag) (mg : Str → Option Value) : FTab → Prop
  | [] => True
  | (c, fs) :: r => (∃ C, mg c = some (.ref C) ∧ Cls K C ∧ NoAs K C fs) ∧ FldL K mg r
theorem FldL.ok {K : PySem.W.Frag} {mg : Str → Option Value} : ∀ {tab : FTab}, FldL K mg tab → FldF K (clM w mg tbs) tab
  | [], _ => ⟨fun _ _ h => by cases h⟩
  | (c0, fs) :: r, hf => ⟨fun c f h C hc => by
    unfold ftOk at h
    rw [List.lookup_cons] at h
    split at h
    · rename_i l e
      split at e
      · rename_i q
        cases e
        have q : c = c0 := by simpa using q
        subst q
        obtain ⟨C', h1, h2, h3⟩ := hf.1
        rw [clM_at h1] at hc
        cases hc
        exact ⟨h2, h3.look f (by simpa using h)⟩
      · exact (FldL.ok hf.2).ok c f (by unfold ftOk; rw [e]; exact h) C hc
    · cases h⟩
section
variable {μ : Bool} {P : Program} {w : World} {K : PySem.W.Frag} {mg : Str → Option Value} {base : Heap} {cl : CT} {k : Nat}
variable (μ P w K mg base cl k)
def MthL : List (Str × (Str × FnI)) → Prop
  | [] => True
  | (m, c, i) :: r => MthF μ P w K mg base cl k m c i ∧ MthL r
def PrpL : List (Str × (Str × FnI)) → Prop
  | [] => True
  | (m, c, i) :: r => PrpF μ P w K mg base cl k m c i ∧ PrpL r
def OMkL : List (Str × FnI) → Prop
  | [] => True
  | (m, i) :: r => MkF μ P w K mg base cl k m i ∧ OMkL r
variable {μ P w K mg base cl k}
theorem MthL.look : ∀ {l : List (Str × (Str × FnI))}, MthL μ P w K mg base cl k l → ∀ m c i, l.lookup m = some (c, i) → MthF μ P w K mg base cl k m c i
  | [], _, m, c, i, h => by cases h
  | (m0, c0, i0) :: r, hf, m, c, i, h => by
    rw [List.lookup_cons] at h
    split at h
    · rename_i q
      cases h
      have q : m = m0 := by simpa using q
      subst q
      exact hf.1
    · exact MthL.look hf.2 m c i h
theorem PrpL.look : ∀ {l : List (Str × (Str × FnI))}, PrpL μ P w K mg base cl k l → ∀ m c i, l.lookup m = some (c, i) → PrpF μ P w K mg base cl k m c i
  | [], _, m, c, i, h => by cases h
  | (m0, c0, i0) :: r, hf, m, c, i, h => by
    rw [List.lookup_cons] at h
    split at h
    · rename_i q
      cases h
      have q : m = m0 := by simpa using q
      subst q
      exact hf.1
    · exact PrpL.look hf.2 m c i h
theorem OMkL.look : ∀ {l : List (Str × FnI)}, OMkL μ P w K mg base cl k l → ∀ m i, l.lookup m = some i → MkF μ P w K mg base cl k m i
  | [], _, m, i, h => by cases h
  | (m0, i0) :: r, hf, m, i, h => by
    rw [List.lookup_cons] at h
    split at h
    · rename_i q
      cases h
      have q : m = m0 := by simpa using q
      subst q
      exact hf.1
    · exact OMkL.look hf.2 m i h
end
abbrev EEf := SEnv → Store → R RV
def KFld2 (tab : FTab) (f : Str) (o : Option Cell) (st : Store) : R RV := match o with
  | some (.ins c fs) => if ftOk tab c f = true then match fs.lookup f with
    | some d => .ok (.v d) st
    | none => .bad else .bad
  | _ => .bad
def KFld (tab : FTab) (f : Str) (a : RV) (st : Store) : R RV := match a with
  | .v (.ref n) => KFld2 tab f st[n]? st
  | _ => .bad
@[simp] theorem eFld_at (tab : FTab) (f : Str) (fo : EEf) (e : SEnv) (st : Store) : eFld tab f fo e st = (fo e st).bind (KFld tab f) := rfl
@[simp] theorem KFld_ref (tab : FTab) (f : Str) (n : Nat) (st : Store) : KFld tab f (.v (.ref n)) st = KFld2 tab f st[n]? st := rfl
noncomputable def KSF2 (tab : FTab) (f : Str) (d : D) (e : SEnv) (n : Nat) (o : Option Cell) (st : Store) : SR := match o with
  | some (.ins c fs) => if ftOk tab c f = true ∧ fs.length < 1000 then .nx e (st.set n (.ins c (putFd f d fs))) else .bad
  | _ => .bad
noncomputable def KSF (tab : FTab) (f : Str) (d : D) (e : SEnv) (a : RV) (st : Store) : SR := match a with
  | .v (.ref n) => KSF2 tab f d e n st[n]? st
  | _ => .bad
noncomputable def KSF1 (tab : FTab) (f : Str) (fo : EEf) (e : SEnv) (d : D) (st : Store) : SR := (fo e st).toS e (KSF tab f d e)
noncomputable def KSF0 (tab : FTab) (f : Str) (fo : EEf) (e : SEnv) (a : RV) (st : Store) : SR := (mat a st).toS e (KSF1 tab f fo e)
@[simp] theorem sFldSet_at (tab : FTab) (f : Str) (fa fo : EEf) (e : SEnv) (st : Store) : sFldSet tab f fa fo e st = (fa e st).toS e (KSF0 tab f fo e) := rfl
@[simp] theorem KSF0_v (tab : FTab) (f : Str) (fo : EEf) (e : SEnv) (d : D) (st : Store) : KSF0 tab f fo e (.v d) st = KSF1 tab f fo e d st := rfl
@[simp] theorem KSF1_at (tab : FTab) (f : Str) (fo : EEf) (e : SEnv) (d : D) (st : Store) : KSF1 tab f fo e d st = (fo e st).toS e (KSF tab f d e) := rfl
@[simp] theorem KSF_ref (tab : FTab) (f : Str) (d : D) (e : SEnv) (n : Nat) (st : Store) : KSF tab f d e (.v (.ref n)) st = KSF2 tab f d e n st[n]? st := rfl
def KMg (g : List D → Store → R RV) (n : Nat) (ds : List D) (st : Store) : R RV := g (.ref n :: ds) st
def KMe2 (c m : Str) (g : List D → Store → R RV) (fr : SEnv → Store → R (List D)) (e : SEnv) (n : Nat) (o : Option Cell) (st : Store) : R RV := match o with
  | some (.ins c' fs) => if c' = c ∧ fs.lookup m = none then (fr e st).bind (KMg g n) else .bad
  | _ => .bad
def KMe (c m : Str) (g : List D → Store → R RV) (fr : SEnv → Store → R (List D)) (e : SEnv) (a : RV) (st : Store) : R RV := match a with
  | .v (.ref n) => KMe2 c m g fr e n st[n]? st
  | _ => .bad
@[simp] theorem eMeth_at (c m : Str) (g : List D → Store → R RV) (fo : EEf) (fr : SEnv → Store → R (List D)) (e : SEnv) (st : Store) : eMeth c m g fo fr e st = (fo e st).bind (KMe c m g fr e) := rfl
@[simp] theorem KMe_ref (c m : Str) (g : List D → Store → R RV) (fr : SEnv → Store → R (List D)) (e : SEnv) (n : Nat) (st : Store) : KMe c m g fr e (.v (.ref n)) st = KMe2 c m g fr e n st[n]? st := rfl
@[simp] theorem KMg_at (g : List D → Store → R RV) (n : Nat) (ds : List D) (st : Store) : KMg g n ds st = g (.ref n :: ds) st := rfl
def OPr3 (r : R RV) : R RV := match r with
  | .ok a st => .ok a st
  | _ => .bad
@[simp] theorem OPr3_ok (a : RV) (st : Store) : OPr3 (.ok a st) = .ok a st := rfl
def OPr2 (c : Str) (g : List D → Store → R RV) (n : Nat) (o : Option Cell) (st : Store) : R RV := match o with
  | some (.ins c' _) => if c' = c then OPr3 (g [.ref n] st) else .bad
  | _ => .bad
def OPr (c : Str) (g : List D → Store → R RV) (a : RV) (st : Store) : R RV := match a with
  | .v (.ref n) => OPr2 c g n st[n]? st
  | _ => .bad
@[simp] theorem eProp_at (c : Str) (g : List D → Store → R RV) (fo : EEf) (e : SEnv) (st : Store) : eProp c g fo e st = (fo e st).bind (OPr c g) := rfl
@[simp] theorem OPr_ref (c : Str) (g : List D → Store → R RV) (n : Nat) (st : Store) : OPr c g (.v (.ref n)) st = OPr2 c g n st[n]? st := rfl
def OMk2 (n : Nat) (a : RV) (st : Store) : R RV := match a with
  | .v .non => .ok (.v (.ref n)) st
  | _ => .bad
def OMk (c : Str) (g : List D → Store → R RV) (ds : List D) (st : Store) : R RV := (g (.ref st.length :: ds) (st ++ [.ins c []])).bind (OMk2 st.length)
@[simp] theorem eMake_at (c : Str) (g : List D → Store → R RV) (fr : SEnv → Store → R (List D)) (e : SEnv) (st : Store) : eMake c g fr e st = (fr e st).bind (OMk c g) := rfl
@[simp] theorem OMk_at (c : Str) (g : List D → Store → R RV) (ds : List D) (st : Store) : OMk c g ds st = (g (.ref st.length :: ds) (st ++ [.ins c []])).bind (OMk2 st.length) := rfl
@[simp] theorem OMk2_at (n : Nat) (st : Store) : OMk2 n (.v .non) st = .ok (.v (.ref n)) st := rfl
def SR.tryC (cs : List ClaS) (r : SR) : SR := match r with
  | .exc e env st => pickC cs e env st
  | r => r
@[simp] theorem sTryC_at (cs : List ClaS) (f : SS) (e : SEnv) (st : Store) : sTryC cs f e st = SR.tryC cs (f e st) := by
  unfold sTryC SR.tryC
  cases f e st <;> rfl
@[simp] theorem tryC_nx (cs : List ClaS) (e : SEnv) (st : Store) : SR.tryC cs (.nx e st) = .nx e st := rfl
@[simp] theorem tryC_ret (cs : List ClaS) (a : RV) (st : Store) : SR.tryC cs (.ret a st) = .ret a st := rfl
@[simp] theorem tryC_exc (cs : List ClaS) (x : Exn) (e : SEnv) (st : Store) : SR.tryC cs (.exc x e st) = pickC cs x e st := rfl
@[simp] theorem pickC_cons (tab : List (Str × Bool)) (i : Nat) (k : Exn → SS) (r : List ClaS) (x : Exn) (e : SEnv) (st : Store) : pickC ((tab, some i, k) :: r) x e st = match tab.lookup x.cls with
    | some true => if i < e.length then SR.unb i (k x (e.set i none) st) else .bad
    | some false => pickC r x e st
    | none => .bad := rfl
@[simp] theorem pickC_cons0 (tab : List (Str × Bool)) (k : Exn → SS) (r : List ClaS) (x : Exn) (e : SEnv) (st : Store) : pickC ((tab, none, k) :: r) x e st = match tab.lookup x.cls with
    | some true => k x e st
    | some false => pickC r x e st
    | none => .bad := rfl
@[simp] theorem pickC_nil (x : Exn) (e : SEnv) (st : Store) : pickC [] x e st = .exc x e st := rfl
end Ev

/-! ## Ev40 -/
set_option Elab.async false
set_option linter.all false
set_option maxRecDepth 100000
namespace Ev
open PySem PySem.Spec PyProof.Rows L2
def TabOkD (K : PySem.W.Frag) (a : Addr) : Tab → Prop
  | [] => True
  | (s, some d) :: r => (∃ (u : Value) (v : V), PySem.W.nsIn K a ⟨s.toArray⟩ = some (some u) ∧ RelV v u ∧ ∀ ρ H, RD K ρ H d v) ∧ TabOkD K a r
  | (s, none) :: r => PySem.W.nsIn K a ⟨s.toArray⟩ = some none ∧ TabOkD K a r
theorem TabOkD.look {K : PySem.W.Frag} {a : Addr} : ∀ {t : Tab}, TabOkD K a t → ∀ s o, t.lookup s = some o → match o with
    | some d => ∃ (u : Value) (v : V), PySem.W.nsIn K a ⟨s.toArray⟩ = some (some u) ∧ RelV v u ∧ ∀ ρ H, RD K ρ H d v
    | none => PySem.W.nsIn K a ⟨s.toArray⟩ = some none
  | [], _, s, o, h => by cases h
  | (z, q) :: r, hf, s, o, h => by
    rw [List.lookup_cons] at h
    split at h
    · rename_i e
      have e : s = z := by simpa using e
      subst e
      cases h
      cases q with
      | some d => exact hf.1
      | none => exact hf.1
    · cases q with
      | some d => exact TabOkD.look hf.2 s o h
      | none => exact TabOkD.look hf.2 s o h
def DctFacts (K : PySem.W.Frag) (w : World) (mg : Str → Option Value) : List (Str × Tab) → Prop
  | [] => True
  | (x, t) :: r => DctF K w mg x t ∧ DctFacts K w mg r
theorem DctFacts.look {K : PySem.W.Frag} {w : World} {mg : Str → Option Value} : ∀ {l : List (Str × Tab)}, DctFacts K w mg l → ∀ x t, l.lookup x = some t → DctF K w mg x t
  | [], _, x, t, h => by cases h
  | (y, u) :: r, hf, x, t, h => by
    rw [List.lookup_cons] at h
    split at h
    · rename_i e
      cases h
      have e : x = y := by simpa using e
      subst e
      exact hf.1
    · exact hf.2.look x t h
section
variable {P : Program} {w : World} {K : PySem.W.Frag} {mg : Str → Option Value} {base : Heap}
end
end Ev

/-! ## Ev72 -/
set_option Elab.async false
set_option linter.all false
set_option maxRecDepth 100000
namespace Ev
open PySem PySem.Spec PyProof.Rows L2
variable {tbs : List (Addr × Str)}
section
variable {P : Program} {w : World} {K : PySem.W.Frag} {mg : Str → Option Value} {base : Heap}
def ExiL (P : Program) (w : World) (K : PySem.W.Frag) (mg : Str → Option Value) (base : Heap) (cl : CT) (k : Nat) : List (Str × Str) → Prop
  | [] => True
  | (x, f) :: r => (1 ≤ k ∧ ExiF P w K mg base cl x f) ∧ ExiL P w K mg base cl k r
theorem ExiL.look {cl : CT} {k : Nat} : ∀ {l : List (Str × Str)}, ExiL P w K mg base cl k l → ∀ x f, l.lookup x = some f → 1 ≤ k ∧ ExiF P w K mg base cl x f
  | [], _, x, f, h => by cases h
  | (y, g) :: r, hf, x, f, h => by
    rw [List.lookup_cons] at h
    split at h
    · rename_i q
      cases h
      have q : x = y := by simpa using q
      subst q
      exact hf.1
    · exact hf.2.look x f h
def IdxL (K : PySem.W.Frag) (mg : Str → Option Value) : List Str → Prop
  | [] => True
  | x :: r => IdxF K mg x ∧ IdxL K mg r
theorem IdxL.look {K : PySem.W.Frag} {mg : Str → Option Value} : ∀ {l : List Str}, IdxL K mg l → ∀ x, x ∈ l → IdxF K mg x
  | [], _, x, h => by cases h
  | y :: r, i, x, h => by
    rcases List.mem_cons.mp h with rfl | h
    · exact i.1
    · exact i.2.look x h
theorem obE {cl : CT} {k : Nat} {ei : List (Str × Str)} {lm : Bool} {ix : List Str} {dx : Bool} (h5 : ExiL P w K mg base cl k ei) (h6 : IdxL K mg ix) (h7 : dx = true → cl.hs = NestedKey.hash w := by intro _; rfl) : ObF μ P w K mg base cl k ⟨[], [], [], [], ei, lm, ix, dx⟩ :=
  ⟨⟨fun _ _ h => by cases h⟩, fun _ _ _ h => by (cases h), fun _ _ _ h => by (cases h), (fun _ _ h => by (cases h)), h5.look, h6.look, h7⟩
theorem fn_byA {k n : Nat} {f : Addr} {x qual : Str} {st : Stmt} {fd : FuncData} {N ps : List Str} {fns : List (Str × FnI)} {cst : List (Str × D)} {blt exs : List Str} {trs iss : List (Str × List (Str × Bool))} {ers : List (Str × List Str)} {dct : List (Str × Tab)} {dk : Bool} {ob : OB} {g : SS} (F : Fun K x qual st f fd) (sco : FnScope N ps (defScope st))
    (hf : FnFacts μ P w K mg base (clM w mg tbs) k fns) (hc : CstFacts K mg cst) (hb : BltFacts mg blt) (he : ExFacts K mg (clM w mg tbs) exs) (ht : TrFacts K mg (clM w mg tbs) trs) (hi : IsFacts K mg (clM w mg tbs) iss) (hr : ErFacts K mg ers) (hd : DctFacts K w mg dct) (ho : ObF μ P w K mg base (clM w mg tbs) k ob)
    (hg : denSs n (scOfA N (defScope st) fns cst blt exs trs iss ers dct dk ob) (defBody st) = g) (hm : trs = [] ∨ μ = false := by first | exact .inr rfl | exact .inl rfl) (hl : ob.lam = true → LamF mg base (clM w mg tbs) fd.code (qual ++ ".<locals>.") := by intro h; exact Bool.noConfusion (show false = true from h)) : FnG μ P w K mg base (k + 1) f fd ps (spD K (clM w mg tbs) ps.length (callB N.length g)) := by
  subst hg
  refine fn_den F sco fun cdv A fr z H E hgd hro hco => ?_
  have fit : Fit μ (scOfA N (defScope st) fns cst blt exs trs iss ers dct dk ob) k (clM w mg tbs) (cxOf (CXm μ P w) P w K mg base N qual (defScope st) f cdv A fr z H E) :=
    ⟨rfl, sco.nd, rfl, rfl, rfl, hro, hgd, sco.kind, hf.look, hc.look, hb.look, he.look, (fun x tab h => ⟨hm.elim (fun z => by rw [z] at h; cases h) id, ht.look x tab h⟩), hi.look, hr.look, hd.look, ho, fun h => by have := hl h; rw [hco] at this; exact this⟩
  exact seqs_ok fun s => denS_ok (passes_of rfl) fit (takesM_of rfl rfl rfl rfl) rfl rfl n s
end
end Ev

/-! ## K08z -/
set_option Elab.async false
set_option linter.all false
set_option maxRecDepth 100000
namespace Law
open PySem PySem.Spec PyProof.Rows L2 Ev
section
variable {P : Program} {w : World} {K : PySem.W.Frag} {mg : Str → Option Value} {base : Heap} {tbs : List (Addr × Str)}
theorem ok_l_tape {μ : Bool} {f : Addr} {fd : FuncData} (F : Fun K "_law_tape" "_law_tape" s_l_tape f fd) (z_list : mg "list" = none) (z_int : mg "int" = none) (z_abs : mg "abs" = none) : FnG μ P w K mg base 1 f fd ["_law_script"] (spD K (clM w mg tbs) 1 c_l_tape) :=
  fn_by (N := N_l_tape) (k := 0) (n := 60) F sc_l_tape (fns := F_l_tape) (cst := C_l_tape) (blt := B_l_tape) trivial trivial ⟨⟨z_list, by decide +kernel, by decide +kernel⟩, ⟨z_int, by decide +kernel, by decide +kernel⟩, ⟨z_abs, by decide +kernel, by decide +kernel⟩, trivial⟩ e_l_tape
theorem ok_l_draw {μ : Bool} {f : Addr} {fd : FuncData} (F : Fun K "_law_draw" "_law_draw" s_l_draw f fd) (z_max : mg "max" = none) (z_int : mg "int" = none) (z_len : mg "len" = none) (z_abs : mg "abs" = none) : FnG μ P w K mg base 1 f fd ["_law_tape_here", "_law_many"] (spD K (clM w mg tbs) 2 c_l_draw) :=
  fn_by (N := N_l_draw) (k := 0) (n := 60) F sc_l_draw (fns := F_l_draw) (cst := C_l_draw) (blt := B_l_draw) trivial trivial ⟨⟨z_max, by decide +kernel, by decide +kernel⟩, ⟨z_int, by decide +kernel, by decide +kernel⟩, ⟨z_len, by decide +kernel, by decide +kernel⟩, ⟨z_abs, by decide +kernel, by decide +kernel⟩, trivial⟩ e_l_draw
theorem ok_l_pattern {μ : Bool} {f : Addr} {fd : FuncData} (F : Fun K "_law_pattern" "_law_pattern" s_l_pattern f fd) {f_l_draw : Addr} {fd_l_draw : FuncData} (G_l_draw : FnG μ P w K mg base 1 f_l_draw fd_l_draw ["_law_tape_here", "_law_many"] (spD K (clM w mg tbs) 2 c_l_draw)) (g_l_draw : mg "_law_draw" = some (.ref f_l_draw)) (k_l_draw : PySem.W.keepIn K (.ref f_l_draw) = true) (b_l_draw : Binds K fd_l_draw ["_law_tape_here", "_law_many"] []) (z_range : mg "range" = none) (z_len : mg "len" = none) : FnG μ P w K mg base 2 f fd ["_law_tape_here", "_law_most"] (spD K (clM w mg tbs) 2 c_l_pattern) :=
  fn_by (N := N_l_pattern) (k := 1) (n := 60) F sc_l_pattern (fns := F_l_pattern) (cst := C_l_pattern) (blt := B_l_pattern) ⟨⟨⟨f_l_draw, fd_l_draw, _, _, [], [], by decide, G_l_draw, g_l_draw, k_l_draw, b_l_draw, b_l_draw, .nil, fun _ _ => rfl⟩⟩, trivial⟩ trivial ⟨⟨z_range, by decide +kernel, by decide +kernel⟩, ⟨z_len, by decide +kernel, by decide +kernel⟩, trivial⟩ e_l_pattern
theorem ok_l_parts {μ : Bool} {f : Addr} {fd : FuncData} (F : Fun K "_law_parts" "_law_parts" s_l_parts f fd) (z_range : mg "range" = none) (z_len : mg "len" = none) : FnG μ P w K mg base 1 f fd ["_law_pattern_here"] (spD K (clM w mg tbs) 1 c_l_parts) :=
  fn_by (N := N_l_parts) (k := 0) (n := 60) F sc_l_parts (fns := F_l_parts) (cst := C_l_parts) (blt := B_l_parts) trivial trivial ⟨⟨z_range, by decide +kernel, by decide +kernel⟩, ⟨z_len, by decide +kernel, by decide +kernel⟩, trivial⟩ e_l_parts
theorem ok_l_filled {μ : Bool} {f : Addr} {fd : FuncData} (F : Fun K "_law_filled" "_law_filled" s_l_filled f fd) {f_l_parts : Addr} {fd_l_parts : FuncData} (G_l_parts : FnG μ P w K mg base 1 f_l_parts fd_l_parts ["_law_pattern_here"] (spD K (clM w mg tbs) 1 c_l_parts)) (g_l_parts : mg "_law_parts" = some (.ref f_l_parts)) (k_l_parts : PySem.W.keepIn K (.ref f_l_parts) = true) (b_l_parts : Binds K fd_l_parts ["_law_pattern_here"] []) {f_l_draw : Addr} {fd_l_draw : FuncData} (G_l_draw : FnG μ P w K mg base 1 f_l_draw fd_l_draw ["_law_tape_here", "_law_many"] (spD K (clM w mg tbs) 2 c_l_draw)) (g_l_draw : mg "_law_draw" = some (.ref f_l_draw)) (k_l_draw : PySem.W.keepIn K (.ref f_l_draw) = true) (b_l_draw : Binds K fd_l_draw ["_law_tape_here", "_law_many"] []) (z_range : mg "range" = none) : FnG μ P w K mg base 2 f fd ["_law_tape_here", "_law_pattern_here"] (spD K (clM w mg tbs) 2 c_l_filled) :=
  fn_by (N := N_l_filled) (k := 1) (n := 60) F sc_l_filled (fns := F_l_filled) (cst := C_l_filled) (blt := B_l_filled) ⟨⟨⟨f_l_parts, fd_l_parts, _, _, [], [], by decide, G_l_parts, g_l_parts, k_l_parts, b_l_parts, b_l_parts, .nil, fun _ _ => rfl⟩⟩, ⟨⟨f_l_draw, fd_l_draw, _, _, [], [], by decide, G_l_draw, g_l_draw, k_l_draw, b_l_draw, b_l_draw, .nil, fun _ _ => rfl⟩⟩, trivial⟩ trivial ⟨⟨z_range, by decide +kernel, by decide +kernel⟩, trivial⟩ e_l_filled
theorem ok_l_second {μ : Bool} {f : Addr} {fd : FuncData} (F : Fun K "_law_second" "_law_second" s_l_second f fd) {f_l_draw : Addr} {fd_l_draw : FuncData} (G_l_draw : FnG μ P w K mg base 1 f_l_draw fd_l_draw ["_law_tape_here", "_law_many"] (spD K (clM w mg tbs) 2 c_l_draw)) (g_l_draw : mg "_law_draw" = some (.ref f_l_draw)) (k_l_draw : PySem.W.keepIn K (.ref f_l_draw) = true) (b_l_draw : Binds K fd_l_draw ["_law_tape_here", "_law_many"] []) {f_l_filled : Addr} {fd_l_filled : FuncData} (G_l_filled : FnG μ P w K mg base 2 f_l_filled fd_l_filled ["_law_tape_here", "_law_pattern_here"] (spD K (clM w mg tbs) 2 c_l_filled)) (g_l_filled : mg "_law_filled" = some (.ref f_l_filled)) (k_l_filled : PySem.W.keepIn K (.ref f_l_filled) = true) (b_l_filled : Binds K fd_l_filled ["_law_tape_here", "_law_pattern_here"] []) {f_l_pattern : Addr} {fd_l_pattern : FuncData} (G_l_pattern : FnG μ P w K mg base 2 f_l_pattern fd_l_pattern ["_law_tape_here", "_law_most"] (spD K (clM w mg tbs) 2 c_l_pattern)) (g_l_pattern : mg "_law_pattern" = some (.ref f_l_pattern)) (k_l_pattern : PySem.W.keepIn K (.ref f_l_pattern) = true) (b_l_pattern : Binds K fd_l_pattern ["_law_tape_here", "_law_most"] []) (z_len : mg "len" = none) : FnG μ P w K mg base 3 f fd ["_law_tape_here", "_law_pattern_here", "_law_most"] (spD K (clM w mg tbs) 3 c_l_second) :=
  fn_by (N := N_l_second) (k := 2) (n := 60) F sc_l_second (fns := F_l_second) (cst := C_l_second) (blt := B_l_second) ⟨⟨⟨f_l_draw, fd_l_draw, _, _, [], [], by decide, G_l_draw, g_l_draw, k_l_draw, b_l_draw, b_l_draw, .nil, fun _ _ => rfl⟩⟩, ⟨⟨f_l_filled, fd_l_filled, _, _, [], [], by decide, G_l_filled, g_l_filled, k_l_filled, b_l_filled, b_l_filled, .nil, fun _ _ => rfl⟩⟩, ⟨⟨f_l_pattern, fd_l_pattern, _, _, [], [], by decide, G_l_pattern, g_l_pattern, k_l_pattern, b_l_pattern, b_l_pattern, .nil, fun _ _ => rfl⟩⟩, trivial⟩ trivial ⟨⟨z_len, by decide +kernel, by decide +kernel⟩, trivial⟩ e_l_second
theorem ok_l_lets {μ : Bool} {f : Addr} {fd : FuncData} (F : Fun K "_law_lets" "_law_lets" s_l_lets f fd) : FnG μ P w K mg base 1 f fd ["_law_star", "_law_sign"] (spD K (clM w mg tbs) 2 c_l_lets) :=
  fn_by (N := N_l_lets) (k := 0) (n := 60) F sc_l_lets (fns := F_l_lets) (cst := C_l_lets) (blt := B_l_lets) trivial trivial trivial e_l_lets
theorem ok_l_behind {μ : Bool} {f : Addr} {fd : FuncData} (F : Fun K "_law_behind" "_law_behind" s_l_behind f fd) : FnG μ P w K mg base 1 f fd ["_law_sign", "_law_rest"] (spD K (clM w mg tbs) 2 c_l_behind) :=
  fn_by (N := N_l_behind) (k := 0) (n := 60) F sc_l_behind (fns := F_l_behind) (cst := C_l_behind) (blt := B_l_behind) trivial trivial trivial e_l_behind
theorem ok_l_ways {μ : Bool} {f : Addr} {fd : FuncData} (F : Fun K "_law_ways" "_law_ways" s_l_ways f fd) {f_l_lets : Addr} {fd_l_lets : FuncData} (G_l_lets : FnG μ P w K mg base 1 f_l_lets fd_l_lets ["_law_star", "_law_sign"] (spD K (clM w mg tbs) 2 c_l_lets)) (g_l_lets : mg "_law_lets" = some (.ref f_l_lets)) (k_l_lets : PySem.W.keepIn K (.ref f_l_lets) = true) (b_l_lets : Binds K fd_l_lets ["_law_star", "_law_sign"] []) {f_l_behind : Addr} {fd_l_behind : FuncData} (G_l_behind : FnG μ P w K mg base 1 f_l_behind fd_l_behind ["_law_sign", "_law_rest"] (spD K (clM w mg tbs) 2 c_l_behind)) (g_l_behind : mg "_law_behind" = some (.ref f_l_behind)) (k_l_behind : PySem.W.keepIn K (.ref f_l_behind) = true) (b_l_behind : Binds K fd_l_behind ["_law_sign", "_law_rest"] []) : FnG μ P w K mg base 2 f fd ["_law_left", "_law_right", "_law_i", "_law_j", "_law_rows"] (spD K (clM w mg tbs) 5 c_l_ways) :=
  fn_by (N := N_l_ways) (k := 1) (n := 60) F sc_l_ways (fns := F_l_ways) (cst := C_l_ways) (blt := B_l_ways) ⟨⟨⟨f_l_lets, fd_l_lets, _, _, [], [], by decide, G_l_lets, g_l_lets, k_l_lets, b_l_lets, b_l_lets, .nil, fun _ _ => rfl⟩⟩, ⟨⟨f_l_behind, fd_l_behind, _, _, [], [], by decide, G_l_behind, g_l_behind, k_l_behind, b_l_behind, b_l_behind, .nil, fun _ _ => rfl⟩⟩, trivial⟩ trivial trivial e_l_ways
theorem ok_l_less {μ : Bool} {f : Addr} {fd : FuncData} (F : Fun K "_law_less" "_law_less" s_l_less f fd) (z_len : mg "len" = none) : FnG μ P w K mg base 1 f fd ["_law_one", "_law_other"] (spD K (clM w mg tbs) 2 c_l_less) :=
  fn_by (N := N_l_less) (k := 0) (n := 60) F sc_l_less (fns := F_l_less) (cst := C_l_less) (blt := B_l_less) trivial trivial ⟨⟨z_len, by decide +kernel, by decide +kernel⟩, trivial⟩ e_l_less
theorem ok_l_due {μ : Bool} {f : Addr} {fd : FuncData} (F : Fun K "_law_due" "_law_due" s_l_due f fd) {f_l_ways : Addr} {fd_l_ways : FuncData} (G_l_ways : FnG μ P w K mg base 2 f_l_ways fd_l_ways ["_law_left", "_law_right", "_law_i", "_law_j", "_law_rows"] (spD K (clM w mg tbs) 5 c_l_ways)) (g_l_ways : mg "_law_ways" = some (.ref f_l_ways)) (k_l_ways : PySem.W.keepIn K (.ref f_l_ways) = true) (b_l_ways : Binds K fd_l_ways ["_law_left", "_law_right", "_law_i", "_law_j", "_law_rows"] []) {f_l_less : Addr} {fd_l_less : FuncData} (G_l_less : FnG μ P w K mg base 1 f_l_less fd_l_less ["_law_one", "_law_other"] (spD K (clM w mg tbs) 2 c_l_less)) (g_l_less : mg "_law_less" = some (.ref f_l_less)) (k_l_less : PySem.W.keepIn K (.ref f_l_less) = true) (b_l_less : Binds K fd_l_less ["_law_one", "_law_other"] []) (z_range : mg "range" = none) (z_len : mg "len" = none) : FnG μ P w K mg base 3 f fd ["_law_left", "_law_right"] (spD K (clM w mg tbs) 2 c_l_due) :=
  fn_by (N := N_l_due) (k := 2) (n := 60) F sc_l_due (fns := F_l_due) (cst := C_l_due) (blt := B_l_due) ⟨⟨⟨f_l_ways, fd_l_ways, _, _, [], [], by decide, G_l_ways, g_l_ways, k_l_ways, b_l_ways, b_l_ways, .nil, fun _ _ => rfl⟩⟩, ⟨⟨f_l_less, fd_l_less, _, _, [], [], by decide, G_l_less, g_l_less, k_l_less, b_l_less, b_l_less, .nil, fun _ _ => rfl⟩⟩, trivial⟩ trivial ⟨⟨z_range, by decide +kernel, by decide +kernel⟩, ⟨z_len, by decide +kernel, by decide +kernel⟩, trivial⟩ e_l_due
theorem ok_tokens_of {μ : Bool} {f : Addr} {fd : FuncData} (F : Fun K "tokens_of" "tokens_of" s_tokens_of f fd) (z_tuple : mg "tuple" = none) (z_len : mg "len" = none) : FnG μ P w K mg base 1 f fd ["pattern"] (spD K (clM w mg tbs) 1 c_tokens_of) :=
  fn_by (N := N_tokens_of) (k := 0) (n := 60) F sc_tokens_of (fns := F_tokens_of) (cst := C_tokens_of) (blt := B_tokens_of) trivial trivial ⟨⟨z_tuple, by decide +kernel, by decide +kernel⟩, ⟨z_len, by decide +kernel, by decide +kernel⟩, trivial⟩ e_tokens_of
theorem ok_is_star {μ : Bool} {f : Addr} {fd : FuncData} (F : Fun K "is_star" "is_star" s_is_star f fd) : FnG μ P w K mg base 1 f fd ["token"] (spD K (clM w mg tbs) 1 c_is_star) :=
  fn_by (N := N_is_star) (k := 0) (n := 60) F sc_is_star (fns := F_is_star) (cst := C_is_star) (blt := B_is_star) trivial trivial trivial e_is_star
theorem ok_may_contain {μ : Bool} {f : Addr} {fd : FuncData} (F : Fun K "may_contain" "may_contain" s_may_contain f fd) : FnG μ P w K mg base 1 f fd ["token", "sign"] (spD K (clM w mg tbs) 2 c_may_contain) :=
  fn_by (N := N_may_contain) (k := 0) (n := 60) F sc_may_contain (fns := F_may_contain) (cst := C_may_contain) (blt := B_may_contain) trivial trivial trivial e_may_contain
theorem ok_continuations {μ : Bool} {f : Addr} {fd : FuncData} (F : Fun K "continuations" "continuations" s_continuations f fd) {f_is_star : Addr} {fd_is_star : FuncData} (G_is_star : FnG μ P w K mg base 1 f_is_star fd_is_star ["token"] (spD K (clM w mg tbs) 1 c_is_star)) (g_is_star : mg "is_star" = some (.ref f_is_star)) (k_is_star : PySem.W.keepIn K (.ref f_is_star) = true) (b_is_star : Binds K fd_is_star ["token"] []) {f_may_contain : Addr} {fd_may_contain : FuncData} (G_may_contain : FnG μ P w K mg base 1 f_may_contain fd_may_contain ["token", "sign"] (spD K (clM w mg tbs) 2 c_may_contain)) (g_may_contain : mg "may_contain" = some (.ref f_may_contain)) (k_may_contain : PySem.W.keepIn K (.ref f_may_contain) = true) (b_may_contain : Binds K fd_may_contain ["token", "sign"] []) (z_len : mg "len" = none) : FnG μ P w K mg base 2 f fd ["left", "right", "i", "j", "best"] (spD K (clM w mg tbs) 5 c_continuations) :=
  fn_by (N := N_continuations) (k := 1) (n := 60) F sc_continuations (fns := F_continuations) (cst := C_continuations) (blt := B_continuations) ⟨⟨⟨f_is_star, fd_is_star, _, _, [], [], by decide, G_is_star, g_is_star, k_is_star, b_is_star, b_is_star, .nil, fun _ _ => rfl⟩⟩, ⟨⟨f_may_contain, fd_may_contain, _, _, [], [], by decide, G_may_contain, g_may_contain, k_may_contain, b_may_contain, b_may_contain, .nil, fun _ _ => rfl⟩⟩, trivial⟩ trivial ⟨⟨z_len, by decide +kernel, by decide +kernel⟩, trivial⟩ e_continuations
theorem ok_least {μ : Bool} {f : Addr} {fd : FuncData} (F : Fun K "least" "least" s_least f fd) (z_min : mg "min" = none) (z_len : mg "len" = none) (lf_ : LamF mg base (clM w mg tbs) fd.code (("least" : Str) ++ ".<locals>.")) : FnG μ P w K mg base 1 f fd ["strings"] (spD K (clM w mg tbs) 1 c_least) :=
  fn_byA (N := N_least) (k := 0) (n := 60) F sc_least (fns := F_least) (cst := C_least) (blt := B_least) (exs := []) (trs := []) (iss := []) (ers := []) (dct := []) (dk := false) (ob := O_least) trivial trivial ⟨⟨z_min, by decide +kernel, by decide +kernel⟩, ⟨z_len, by decide +kernel, by decide +kernel⟩, trivial⟩ trivial trivial trivial trivial trivial (obE trivial trivial) e_least (hl := fun _ => lf_)
theorem ok_common_match {μ : Bool} {f : Addr} {fd : FuncData} (F : Fun K "common_match" "common_match" s_common_match f fd) {f_tokens_of : Addr} {fd_tokens_of : FuncData} (G_tokens_of : FnG μ P w K mg base 1 f_tokens_of fd_tokens_of ["pattern"] (spD K (clM w mg tbs) 1 c_tokens_of)) (g_tokens_of : mg "tokens_of" = some (.ref f_tokens_of)) (k_tokens_of : PySem.W.keepIn K (.ref f_tokens_of) = true) (b_tokens_of : Binds K fd_tokens_of ["pattern"] []) {f_continuations : Addr} {fd_continuations : FuncData} (G_continuations : FnG μ P w K mg base 2 f_continuations fd_continuations ["left", "right", "i", "j", "best"] (spD K (clM w mg tbs) 5 c_continuations)) (g_continuations : mg "continuations" = some (.ref f_continuations)) (k_continuations : PySem.W.keepIn K (.ref f_continuations) = true) (b_continuations : Binds K fd_continuations ["left", "right", "i", "j", "best"] []) {f_least : Addr} {fd_least : FuncData} (G_least : FnG μ P w K mg base 1 f_least fd_least ["strings"] (spD K (clM w mg tbs) 1 c_least)) (g_least : mg "least" = some (.ref f_least)) (k_least : PySem.W.keepIn K (.ref f_least) = true) (b_least : Binds K fd_least ["strings"] []) (z_reversed : mg "reversed" = none) (z_range : mg "range" = none) (z_len : mg "len" = none) : FnG μ P w K mg base 3 f fd ["first", "second"] (spD K (clM w mg tbs) 2 c_common_match) :=
  fn_by (N := N_common_match) (k := 2) (n := 60) F sc_common_match (fns := F_common_match) (cst := C_common_match) (blt := B_common_match) ⟨⟨⟨f_tokens_of, fd_tokens_of, _, _, [], [], by decide, G_tokens_of, g_tokens_of, k_tokens_of, b_tokens_of, b_tokens_of, .nil, fun _ _ => rfl⟩⟩, ⟨⟨f_continuations, fd_continuations, _, _, [], [], by decide, G_continuations, g_continuations, k_continuations, b_continuations, b_continuations, .nil, fun _ _ => rfl⟩⟩, ⟨⟨f_least, fd_least, _, _, [], [], by decide, G_least, g_least, k_least, b_least, b_least, .nil, fun _ _ => rfl⟩⟩, trivial⟩ trivial ⟨⟨z_reversed, by decide +kernel, by decide +kernel⟩, ⟨z_range, by decide +kernel, by decide +kernel⟩, ⟨z_len, by decide +kernel, by decide +kernel⟩, trivial⟩ e_common_match
theorem ok_law {μ : Bool} {f : Addr} {fd : FuncData} (F : Fun K "law" "law" s_law f fd) {f_l_tape : Addr} {fd_l_tape : FuncData} (G_l_tape : FnG μ P w K mg base 1 f_l_tape fd_l_tape ["_law_script"] (spD K (clM w mg tbs) 1 c_l_tape)) (g_l_tape : mg "_law_tape" = some (.ref f_l_tape)) (k_l_tape : PySem.W.keepIn K (.ref f_l_tape) = true) (b_l_tape : Binds K fd_l_tape ["_law_script"] []) {f_l_pattern : Addr} {fd_l_pattern : FuncData} (G_l_pattern : FnG μ P w K mg base 2 f_l_pattern fd_l_pattern ["_law_tape_here", "_law_most"] (spD K (clM w mg tbs) 2 c_l_pattern)) (g_l_pattern : mg "_law_pattern" = some (.ref f_l_pattern)) (k_l_pattern : PySem.W.keepIn K (.ref f_l_pattern) = true) (b_l_pattern : Binds K fd_l_pattern ["_law_tape_here", "_law_most"] []) {f_l_second : Addr} {fd_l_second : FuncData} (G_l_second : FnG μ P w K mg base 3 f_l_second fd_l_second ["_law_tape_here", "_law_pattern_here", "_law_most"] (spD K (clM w mg tbs) 3 c_l_second)) (g_l_second : mg "_law_second" = some (.ref f_l_second)) (k_l_second : PySem.W.keepIn K (.ref f_l_second) = true) (b_l_second : Binds K fd_l_second ["_law_tape_here", "_law_pattern_here", "_law_most"] []) {f_l_due : Addr} {fd_l_due : FuncData} (G_l_due : FnG μ P w K mg base 3 f_l_due fd_l_due ["_law_left", "_law_right"] (spD K (clM w mg tbs) 2 c_l_due)) (g_l_due : mg "_law_due" = some (.ref f_l_due)) (k_l_due : PySem.W.keepIn K (.ref f_l_due) = true) (b_l_due : Binds K fd_l_due ["_law_left", "_law_right"] []) {f_l_draw : Addr} {fd_l_draw : FuncData} (G_l_draw : FnG μ P w K mg base 1 f_l_draw fd_l_draw ["_law_tape_here", "_law_many"] (spD K (clM w mg tbs) 2 c_l_draw)) (g_l_draw : mg "_law_draw" = some (.ref f_l_draw)) (k_l_draw : PySem.W.keepIn K (.ref f_l_draw) = true) (b_l_draw : Binds K fd_l_draw ["_law_tape_here", "_law_many"] []) {f_l_parts : Addr} {fd_l_parts : FuncData} (G_l_parts : FnG μ P w K mg base 1 f_l_parts fd_l_parts ["_law_pattern_here"] (spD K (clM w mg tbs) 1 c_l_parts)) (g_l_parts : mg "_law_parts" = some (.ref f_l_parts)) (k_l_parts : PySem.W.keepIn K (.ref f_l_parts) = true) (b_l_parts : Binds K fd_l_parts ["_law_pattern_here"] []) {f_common_match : Addr} {fd_common_match : FuncData} (G_common_match : FnG μ P w K mg base 3 f_common_match fd_common_match ["first", "second"] (spD K (clM w mg tbs) 2 c_common_match)) (g_common_match : mg "common_match" = some (.ref f_common_match)) (k_common_match : PySem.W.keepIn K (.ref f_common_match) = true) (b_common_match : Binds K fd_common_match ["first", "second"] []) (z_repr : mg "repr" = none) : FnG μ P w K mg base 4 f fd ["_law_script"] (spD K (clM w mg tbs) 1 c_law) :=
  fn_by (N := N_law) (k := 3) (n := 60) F sc_law (fns := F_law) (cst := C_law) (blt := B_law) ⟨⟨⟨f_l_tape, fd_l_tape, _, _, [], [], by decide, G_l_tape, g_l_tape, k_l_tape, b_l_tape, b_l_tape, .nil, fun _ _ => rfl⟩⟩, ⟨⟨f_l_pattern, fd_l_pattern, _, _, [], [], by decide, G_l_pattern, g_l_pattern, k_l_pattern, b_l_pattern, b_l_pattern, .nil, fun _ _ => rfl⟩⟩, ⟨⟨f_l_second, fd_l_second, _, _, [], [], by decide, G_l_second, g_l_second, k_l_second, b_l_second, b_l_second, .nil, fun _ _ => rfl⟩⟩, ⟨⟨f_l_due, fd_l_due, _, _, [], [], by decide, G_l_due, g_l_due, k_l_due, b_l_due, b_l_due, .nil, fun _ _ => rfl⟩⟩, ⟨⟨f_l_draw, fd_l_draw, _, _, [], [], by decide, G_l_draw, g_l_draw, k_l_draw, b_l_draw, b_l_draw, .nil, fun _ _ => rfl⟩⟩, ⟨⟨f_l_parts, fd_l_parts, _, _, [], [], by decide, G_l_parts, g_l_parts, k_l_parts, b_l_parts, b_l_parts, .nil, fun _ _ => rfl⟩⟩, ⟨⟨f_common_match, fd_common_match, _, _, [], [], by decide, G_common_match, g_common_match, k_common_match, b_common_match, b_common_match, .nil, fun _ _ => rfl⟩⟩, trivial⟩ trivial ⟨⟨z_repr, by decide +kernel, by decide +kernel⟩, trivial⟩ e_law
end
set_option maxHeartbeats 0 in
theorem all_mk {P : Program} {w : World} {K : PySem.W.Frag} {h : Heap} {mg : Str → Option Value} {fa : Addr} (X : K.In h) (G : h.Ns mainGlobals mg) (hfa : mg "law" = some (.ref fa))
    {fa_l_tape : Addr} {od_l_tape an_l_tape : Option Addr} {sl_l_tape : Array (Option Value)} {oc_l_tape kV_l_tape dc_l_tape pm_l_tape cd_l_tape ct_l_tape : Value} (a_l_tape : PySem.W.nsIn K mainGlobals "_law_tape" = some (some (.ref fa_l_tape))) (l_l_tape : K.lookup fa_l_tape = some ⟨oc_l_tape, od_l_tape, .func (PySem.W.fnOf "_law_tape" "_law_tape" (defArgs s_l_tape) (defBody s_l_tape) (defScope s_l_tape) .none kV_l_tape dc_l_tape pm_l_tape an_l_tape cd_l_tape ct_l_tape), sl_l_tape⟩) (c_l_tape0 : PySem.W.codeIn K cd_l_tape "_law_tape" = true) (k_l_tape : PySem.W.keepIn K (.ref fa_l_tape) = true)
    {fa_l_draw : Addr} {od_l_draw an_l_draw : Option Addr} {sl_l_draw : Array (Option Value)} {oc_l_draw kV_l_draw dc_l_draw pm_l_draw cd_l_draw ct_l_draw : Value} (a_l_draw : PySem.W.nsIn K mainGlobals "_law_draw" = some (some (.ref fa_l_draw))) (l_l_draw : K.lookup fa_l_draw = some ⟨oc_l_draw, od_l_draw, .func (PySem.W.fnOf "_law_draw" "_law_draw" (defArgs s_l_draw) (defBody s_l_draw) (defScope s_l_draw) .none kV_l_draw dc_l_draw pm_l_draw an_l_draw cd_l_draw ct_l_draw), sl_l_draw⟩) (c_l_draw0 : PySem.W.codeIn K cd_l_draw "_law_draw" = true) (k_l_draw : PySem.W.keepIn K (.ref fa_l_draw) = true)
    {fa_l_pattern : Addr} {od_l_pattern an_l_pattern : Option Addr} {sl_l_pattern : Array (Option Value)} {oc_l_pattern kV_l_pattern dc_l_pattern pm_l_pattern cd_l_pattern ct_l_pattern : Value} (a_l_pattern : PySem.W.nsIn K mainGlobals "_law_pattern" = some (some (.ref fa_l_pattern))) (l_l_pattern : K.lookup fa_l_pattern = some ⟨oc_l_pattern, od_l_pattern, .func (PySem.W.fnOf "_law_pattern" "_law_pattern" (defArgs s_l_pattern) (defBody s_l_pattern) (defScope s_l_pattern) .none kV_l_pattern dc_l_pattern pm_l_pattern an_l_pattern cd_l_pattern ct_l_pattern), sl_l_pattern⟩) (c_l_pattern0 : PySem.W.codeIn K cd_l_pattern "_law_pattern" = true) (k_l_pattern : PySem.W.keepIn K (.ref fa_l_pattern) = true)
    {fa_l_parts : Addr} {od_l_parts an_l_parts : Option Addr} {sl_l_parts : Array (Option Value)} {oc_l_parts kV_l_parts dc_l_parts pm_l_parts cd_l_parts ct_l_parts : Value} (a_l_parts : PySem.W.nsIn K mainGlobals "_law_parts" = some (some (.ref fa_l_parts))) (l_l_parts : K.lookup fa_l_parts = some ⟨oc_l_parts, od_l_parts, .func (PySem.W.fnOf "_law_parts" "_law_parts" (defArgs s_l_parts) (defBody s_l_parts) (defScope s_l_parts) .none kV_l_parts dc_l_parts pm_l_parts an_l_parts cd_l_parts ct_l_parts), sl_l_parts⟩) (c_l_parts0 : PySem.W.codeIn K cd_l_parts "_law_parts" = true) (k_l_parts : PySem.W.keepIn K (.ref fa_l_parts) = true)
    {fa_l_filled : Addr} {od_l_filled an_l_filled : Option Addr} {sl_l_filled : Array (Option Value)} {oc_l_filled kV_l_filled dc_l_filled pm_l_filled cd_l_filled ct_l_filled : Value} (a_l_filled : PySem.W.nsIn K mainGlobals "_law_filled" = some (some (.ref fa_l_filled))) (l_l_filled : K.lookup fa_l_filled = some ⟨oc_l_filled, od_l_filled, .func (PySem.W.fnOf "_law_filled" "_law_filled" (defArgs s_l_filled) (defBody s_l_filled) (defScope s_l_filled) .none kV_l_filled dc_l_filled pm_l_filled an_l_filled cd_l_filled ct_l_filled), sl_l_filled⟩) (c_l_filled0 : PySem.W.codeIn K cd_l_filled "_law_filled" = true) (k_l_filled : PySem.W.keepIn K (.ref fa_l_filled) = true)
    {fa_l_second : Addr} {od_l_second an_l_second : Option Addr} {sl_l_second : Array (Option Value)} {oc_l_second kV_l_second dc_l_second pm_l_second cd_l_second ct_l_second : Value} (a_l_second : PySem.W.nsIn K mainGlobals "_law_second" = some (some (.ref fa_l_second))) (l_l_second : K.lookup fa_l_second = some ⟨oc_l_second, od_l_second, .func (PySem.W.fnOf "_law_second" "_law_second" (defArgs s_l_second) (defBody s_l_second) (defScope s_l_second) .none kV_l_second dc_l_second pm_l_second an_l_second cd_l_second ct_l_second), sl_l_second⟩) (c_l_second0 : PySem.W.codeIn K cd_l_second "_law_second" = true) (k_l_second : PySem.W.keepIn K (.ref fa_l_second) = true)
    {fa_l_lets : Addr} {od_l_lets an_l_lets : Option Addr} {sl_l_lets : Array (Option Value)} {oc_l_lets kV_l_lets dc_l_lets pm_l_lets cd_l_lets ct_l_lets : Value} (a_l_lets : PySem.W.nsIn K mainGlobals "_law_lets" = some (some (.ref fa_l_lets))) (l_l_lets : K.lookup fa_l_lets = some ⟨oc_l_lets, od_l_lets, .func (PySem.W.fnOf "_law_lets" "_law_lets" (defArgs s_l_lets) (defBody s_l_lets) (defScope s_l_lets) .none kV_l_lets dc_l_lets pm_l_lets an_l_lets cd_l_lets ct_l_lets), sl_l_lets⟩) (c_l_lets0 : PySem.W.codeIn K cd_l_lets "_law_lets" = true) (k_l_lets : PySem.W.keepIn K (.ref fa_l_lets) = true)
    {fa_l_behind : Addr} {od_l_behind an_l_behind : Option Addr} {sl_l_behind : Array (Option Value)} {oc_l_behind kV_l_behind dc_l_behind pm_l_behind cd_l_behind ct_l_behind : Value} (a_l_behind : PySem.W.nsIn K mainGlobals "_law_behind" = some (some (.ref fa_l_behind))) (l_l_behind : K.lookup fa_l_behind = some ⟨oc_l_behind, od_l_behind, .func (PySem.W.fnOf "_law_behind" "_law_behind" (defArgs s_l_behind) (defBody s_l_behind) (defScope s_l_behind) .none kV_l_behind dc_l_behind pm_l_behind an_l_behind cd_l_behind ct_l_behind), sl_l_behind⟩) (c_l_behind0 : PySem.W.codeIn K cd_l_behind "_law_behind" = true) (k_l_behind : PySem.W.keepIn K (.ref fa_l_behind) = true)
    {fa_l_ways : Addr} {od_l_ways an_l_ways : Option Addr} {sl_l_ways : Array (Option Value)} {oc_l_ways kV_l_ways dc_l_ways pm_l_ways cd_l_ways ct_l_ways : Value} (a_l_ways : PySem.W.nsIn K mainGlobals "_law_ways" = some (some (.ref fa_l_ways))) (l_l_ways : K.lookup fa_l_ways = some ⟨oc_l_ways, od_l_ways, .func (PySem.W.fnOf "_law_ways" "_law_ways" (defArgs s_l_ways) (defBody s_l_ways) (defScope s_l_ways) .none kV_l_ways dc_l_ways pm_l_ways an_l_ways cd_l_ways ct_l_ways), sl_l_ways⟩) (c_l_ways0 : PySem.W.codeIn K cd_l_ways "_law_ways" = true) (k_l_ways : PySem.W.keepIn K (.ref fa_l_ways) = true)
    {fa_l_less : Addr} {od_l_less an_l_less : Option Addr} {sl_l_less : Array (Option Value)} {oc_l_less kV_l_less dc_l_less pm_l_less cd_l_less ct_l_less : Value} (a_l_less : PySem.W.nsIn K mainGlobals "_law_less" = some (some (.ref fa_l_less))) (l_l_less : K.lookup fa_l_less = some ⟨oc_l_less, od_l_less, .func (PySem.W.fnOf "_law_less" "_law_less" (defArgs s_l_less) (defBody s_l_less) (defScope s_l_less) .none kV_l_less dc_l_less pm_l_less an_l_less cd_l_less ct_l_less), sl_l_less⟩) (c_l_less0 : PySem.W.codeIn K cd_l_less "_law_less" = true) (k_l_less : PySem.W.keepIn K (.ref fa_l_less) = true)
    {fa_l_due : Addr} {od_l_due an_l_due : Option Addr} {sl_l_due : Array (Option Value)} {oc_l_due kV_l_due dc_l_due pm_l_due cd_l_due ct_l_due : Value} (a_l_due : PySem.W.nsIn K mainGlobals "_law_due" = some (some (.ref fa_l_due))) (l_l_due : K.lookup fa_l_due = some ⟨oc_l_due, od_l_due, .func (PySem.W.fnOf "_law_due" "_law_due" (defArgs s_l_due) (defBody s_l_due) (defScope s_l_due) .none kV_l_due dc_l_due pm_l_due an_l_due cd_l_due ct_l_due), sl_l_due⟩) (c_l_due0 : PySem.W.codeIn K cd_l_due "_law_due" = true) (k_l_due : PySem.W.keepIn K (.ref fa_l_due) = true)
    {fa_tokens_of : Addr} {od_tokens_of an_tokens_of : Option Addr} {sl_tokens_of : Array (Option Value)} {oc_tokens_of kV_tokens_of dc_tokens_of pm_tokens_of cd_tokens_of ct_tokens_of : Value} (a_tokens_of : PySem.W.nsIn K mainGlobals "tokens_of" = some (some (.ref fa_tokens_of))) (l_tokens_of : K.lookup fa_tokens_of = some ⟨oc_tokens_of, od_tokens_of, .func (PySem.W.fnOf "tokens_of" "tokens_of" (defArgs s_tokens_of) (defBody s_tokens_of) (defScope s_tokens_of) .none kV_tokens_of dc_tokens_of pm_tokens_of an_tokens_of cd_tokens_of ct_tokens_of), sl_tokens_of⟩) (c_tokens_of0 : PySem.W.codeIn K cd_tokens_of "tokens_of" = true) (k_tokens_of : PySem.W.keepIn K (.ref fa_tokens_of) = true)
    {fa_is_star : Addr} {od_is_star an_is_star : Option Addr} {sl_is_star : Array (Option Value)} {oc_is_star kV_is_star dc_is_star pm_is_star cd_is_star ct_is_star : Value} (a_is_star : PySem.W.nsIn K mainGlobals "is_star" = some (some (.ref fa_is_star))) (l_is_star : K.lookup fa_is_star = some ⟨oc_is_star, od_is_star, .func (PySem.W.fnOf "is_star" "is_star" (defArgs s_is_star) (defBody s_is_star) (defScope s_is_star) .none kV_is_star dc_is_star pm_is_star an_is_star cd_is_star ct_is_star), sl_is_star⟩) (c_is_star0 : PySem.W.codeIn K cd_is_star "is_star" = true) (k_is_star : PySem.W.keepIn K (.ref fa_is_star) = true)
    {fa_may_contain : Addr} {od_may_contain an_may_contain : Option Addr} {sl_may_contain : Array (Option Value)} {oc_may_contain kV_may_contain dc_may_contain pm_may_contain cd_may_contain ct_may_contain : Value} (a_may_contain : PySem.W.nsIn K mainGlobals "may_contain" = some (some (.ref fa_may_contain))) (l_may_contain : K.lookup fa_may_contain = some ⟨oc_may_contain, od_may_contain, .func (PySem.W.fnOf "may_contain" "may_contain" (defArgs s_may_contain) (defBody s_may_contain) (defScope s_may_contain) .none kV_may_contain dc_may_contain pm_may_contain an_may_contain cd_may_contain ct_may_contain), sl_may_contain⟩) (c_may_contain0 : PySem.W.codeIn K cd_may_contain "may_contain" = true) (k_may_contain : PySem.W.keepIn K (.ref fa_may_contain) = true)
    {fa_continuations : Addr} {od_continuations an_continuations : Option Addr} {sl_continuations : Array (Option Value)} {oc_continuations kV_continuations dc_continuations pm_continuations cd_continuations ct_continuations : Value} (a_continuations : PySem.W.nsIn K mainGlobals "continuations" = some (some (.ref fa_continuations))) (l_continuations : K.lookup fa_continuations = some ⟨oc_continuations, od_continuations, .func (PySem.W.fnOf "continuations" "continuations" (defArgs s_continuations) (defBody s_continuations) (defScope s_continuations) .none kV_continuations dc_continuations pm_continuations an_continuations cd_continuations ct_continuations), sl_continuations⟩) (c_continuations0 : PySem.W.codeIn K cd_continuations "continuations" = true) (k_continuations : PySem.W.keepIn K (.ref fa_continuations) = true)
    {ca_least : Addr} {fa_least : Addr} {od_least an_least : Option Addr} {sl_least : Array (Option Value)} {oc_least kV_least dc_least pm_least ct_least : Value} (a_least : PySem.W.nsIn K mainGlobals "least" = some (some (.ref fa_least))) (l_least : K.lookup fa_least = some ⟨oc_least, od_least, .func (PySem.W.fnOf "least" "least" (defArgs s_least) (defBody s_least) (defScope s_least) .none kV_least dc_least pm_least an_least (.ref ca_least) ct_least), sl_least⟩) (c_least0 : PySem.W.codeIn K (.ref ca_least) "least" = true) (k_least : PySem.W.keepIn K (.ref fa_least) = true) (tf_least : TbF K h (ca_least, tabA K ca_least))
    {fa_common_match : Addr} {od_common_match an_common_match : Option Addr} {sl_common_match : Array (Option Value)} {oc_common_match kV_common_match dc_common_match pm_common_match cd_common_match ct_common_match : Value} (a_common_match : PySem.W.nsIn K mainGlobals "common_match" = some (some (.ref fa_common_match))) (l_common_match : K.lookup fa_common_match = some ⟨oc_common_match, od_common_match, .func (PySem.W.fnOf "common_match" "common_match" (defArgs s_common_match) (defBody s_common_match) (defScope s_common_match) .none kV_common_match dc_common_match pm_common_match an_common_match cd_common_match ct_common_match), sl_common_match⟩) (c_common_match0 : PySem.W.codeIn K cd_common_match "common_match" = true) (k_common_match : PySem.W.keepIn K (.ref fa_common_match) = true)
    {fa_law : Addr} {od_law an_law : Option Addr} {sl_law : Array (Option Value)} {oc_law kV_law dc_law pm_law cd_law ct_law : Value} (a_law : PySem.W.nsIn K mainGlobals "law" = some (some (.ref fa_law))) (l_law : K.lookup fa_law = some ⟨oc_law, od_law, .func (PySem.W.fnOf "law" "law" (defArgs s_law) (defBody s_law) (defScope s_law) .none kV_law dc_law pm_law an_law cd_law ct_law), sl_law⟩) (c_law0 : PySem.W.codeIn K cd_law "law" = true) (k_law : PySem.W.keepIn K (.ref fa_law) = true)
    (z_list : PySem.W.nsIn K mainGlobals "list" = some none)
    (z_int : PySem.W.nsIn K mainGlobals "int" = some none)
    (z_abs : PySem.W.nsIn K mainGlobals "abs" = some none)
    (z_max : PySem.W.nsIn K mainGlobals "max" = some none)
    (z_len : PySem.W.nsIn K mainGlobals "len" = some none)
    (z_range : PySem.W.nsIn K mainGlobals "range" = some none)
    (z_tuple : PySem.W.nsIn K mainGlobals "tuple" = some none)
    (z_min : PySem.W.nsIn K mainGlobals "min" = some none)
    (z_reversed : PySem.W.nsIn K mainGlobals "reversed" = some none)
    (z_repr : PySem.W.nsIn K mainGlobals "repr" = some none) :
    ∃ (fd : FuncData) (cs : List (Addr × Addr)) (cl : CT), (∀ q ∈ cs, TbF K h q) ∧ (∀ q ∈ cl.tabs, ∃ y ∈ cs, y.2 = q.1) ∧ (∀ (s : Shared) (u : Value), BindsTo s fd ⟨[u], []⟩ [("_law_script", u)]) ∧ ∀ base : Heap, K.In base → base.Ns mainGlobals mg → (∀ q ∈ cs, LamX.TabB base mg q.1 q.2) → FnG false P w K mg base 4 fa fd ["_law_script"] (spD K cl 1 c_law) := by
  cases hfa.symm.trans (PySem.W.mg_of X G a_law)
  have F_l_tape := fun_mk (st := s_l_tape) l_l_tape c_l_tape0 k_l_tape
  have b_l_tape := F_l_tape.binds (ps := ["_law_script"]) fun _ _ _ _ _ _ us hl => match us, hl with | [_], _ => rfl
  have F_l_draw := fun_mk (st := s_l_draw) l_l_draw c_l_draw0 k_l_draw
  have b_l_draw := F_l_draw.binds (ps := ["_law_tape_here", "_law_many"]) fun _ _ _ _ _ _ us hl => match us, hl with | [_, _], _ => rfl
  have F_l_pattern := fun_mk (st := s_l_pattern) l_l_pattern c_l_pattern0 k_l_pattern
  have b_l_pattern := F_l_pattern.binds (ps := ["_law_tape_here", "_law_most"]) fun _ _ _ _ _ _ us hl => match us, hl with | [_, _], _ => rfl
  have F_l_parts := fun_mk (st := s_l_parts) l_l_parts c_l_parts0 k_l_parts
  have b_l_parts := F_l_parts.binds (ps := ["_law_pattern_here"]) fun _ _ _ _ _ _ us hl => match us, hl with | [_], _ => rfl
  have F_l_filled := fun_mk (st := s_l_filled) l_l_filled c_l_filled0 k_l_filled
  have b_l_filled := F_l_filled.binds (ps := ["_law_tape_here", "_law_pattern_here"]) fun _ _ _ _ _ _ us hl => match us, hl with | [_, _], _ => rfl
  have F_l_second := fun_mk (st := s_l_second) l_l_second c_l_second0 k_l_second
  have b_l_second := F_l_second.binds (ps := ["_law_tape_here", "_law_pattern_here", "_law_most"]) fun _ _ _ _ _ _ us hl => match us, hl with | [_, _, _], _ => rfl
  have F_l_lets := fun_mk (st := s_l_lets) l_l_lets c_l_lets0 k_l_lets
  have b_l_lets := F_l_lets.binds (ps := ["_law_star", "_law_sign"]) fun _ _ _ _ _ _ us hl => match us, hl with | [_, _], _ => rfl
  have F_l_behind := fun_mk (st := s_l_behind) l_l_behind c_l_behind0 k_l_behind
  have b_l_behind := F_l_behind.binds (ps := ["_law_sign", "_law_rest"]) fun _ _ _ _ _ _ us hl => match us, hl with | [_, _], _ => rfl
  have F_l_ways := fun_mk (st := s_l_ways) l_l_ways c_l_ways0 k_l_ways
  have b_l_ways := F_l_ways.binds (ps := ["_law_left", "_law_right", "_law_i", "_law_j", "_law_rows"]) fun _ _ _ _ _ _ us hl => match us, hl with | [_, _, _, _, _], _ => rfl
  have F_l_less := fun_mk (st := s_l_less) l_l_less c_l_less0 k_l_less
  have b_l_less := F_l_less.binds (ps := ["_law_one", "_law_other"]) fun _ _ _ _ _ _ us hl => match us, hl with | [_, _], _ => rfl
  have F_l_due := fun_mk (st := s_l_due) l_l_due c_l_due0 k_l_due
  have b_l_due := F_l_due.binds (ps := ["_law_left", "_law_right"]) fun _ _ _ _ _ _ us hl => match us, hl with | [_, _], _ => rfl
  have F_tokens_of := fun_mk (st := s_tokens_of) l_tokens_of c_tokens_of0 k_tokens_of
  have b_tokens_of := F_tokens_of.binds (ps := ["pattern"]) fun _ _ _ _ _ _ us hl => match us, hl with | [_], _ => rfl
  have F_is_star := fun_mk (st := s_is_star) l_is_star c_is_star0 k_is_star
  have b_is_star := F_is_star.binds (ps := ["token"]) fun _ _ _ _ _ _ us hl => match us, hl with | [_], _ => rfl
  have F_may_contain := fun_mk (st := s_may_contain) l_may_contain c_may_contain0 k_may_contain
  have b_may_contain := F_may_contain.binds (ps := ["token", "sign"]) fun _ _ _ _ _ _ us hl => match us, hl with | [_, _], _ => rfl
  have F_continuations := fun_mk (st := s_continuations) l_continuations c_continuations0 k_continuations
  have b_continuations := F_continuations.binds (ps := ["left", "right", "i", "j", "best"]) fun _ _ _ _ _ _ us hl => match us, hl with | [_, _, _, _, _], _ => rfl
  have F_least := fun_mk (st := s_least) l_least c_least0 k_least
  have b_least := F_least.binds (ps := ["strings"]) fun _ _ _ _ _ _ us hl => match us, hl with | [_], _ => rfl
  have F_common_match := fun_mk (st := s_common_match) l_common_match c_common_match0 k_common_match
  have b_common_match := F_common_match.binds (ps := ["first", "second"]) fun _ _ _ _ _ _ us hl => match us, hl with | [_, _], _ => rfl
  have F_law := fun_mk (st := s_law) l_law c_law0 k_law
  refine ⟨PySem.W.fnOf "law" "law" (defArgs s_law) (defBody s_law) (defScope s_law) .none kV_law dc_law pm_law an_law cd_law ct_law, [(ca_least, tabA K ca_least)], (clM w mg [(tabA K ca_least, (("least" : Str) ++ ".<locals>.") ++ "<lambda>")]), ?_, ?_, fun s v => .of_eq rfl, fun base _ _ tb_ => ?_⟩
  · intro q hq
    simp only [List.mem_cons, List.not_mem_nil, or_false] at hq
    rcases hq with rfl <;> assumption
  · intro q hq
    simp only [clM, List.mem_cons, List.not_mem_nil, or_false] at hq
    rcases hq with rfl
    · exact ⟨(ca_least, tabA K ca_least), by simp, rfl⟩
  have lf_least : LamF mg base (clM w mg [(tabA K ca_least, (("least" : Str) ++ ".<locals>.") ++ "<lambda>")]) (.ref ca_least) (("least" : Str) ++ ".<locals>.") := by
    refine ⟨ca_least, tabA K ca_least, tb_ (ca_least, tabA K ca_least) (by simp), rfl, by simp [clM], fun z hz he => ?_⟩
    simp only [clM, List.mem_cons, List.not_mem_nil, or_false] at hz
    rcases hz with rfl
    · rfl
  have G_l_tape := fun (μ : Bool) => ok_l_tape (μ := μ) (P := P) (w := w) (mg := mg) (base := base) (tbs := [(tabA K ca_least, (("least" : Str) ++ ".<locals>.") ++ "<lambda>")]) F_l_tape (PySem.W.mg_none_of X G z_list) (PySem.W.mg_none_of X G z_int) (PySem.W.mg_none_of X G z_abs)
  have G_l_draw := fun (μ : Bool) => ok_l_draw (μ := μ) (P := P) (w := w) (mg := mg) (base := base) (tbs := [(tabA K ca_least, (("least" : Str) ++ ".<locals>.") ++ "<lambda>")]) F_l_draw (PySem.W.mg_none_of X G z_max) (PySem.W.mg_none_of X G z_int) (PySem.W.mg_none_of X G z_len) (PySem.W.mg_none_of X G z_abs)
  have G_l_pattern := fun (μ : Bool) => ok_l_pattern (μ := μ) (P := P) (w := w) (mg := mg) (base := base) (tbs := [(tabA K ca_least, (("least" : Str) ++ ".<locals>.") ++ "<lambda>")]) F_l_pattern (G_l_draw μ) (PySem.W.mg_of X G a_l_draw) k_l_draw b_l_draw (PySem.W.mg_none_of X G z_range) (PySem.W.mg_none_of X G z_len)
  have G_l_parts := fun (μ : Bool) => ok_l_parts (μ := μ) (P := P) (w := w) (mg := mg) (base := base) (tbs := [(tabA K ca_least, (("least" : Str) ++ ".<locals>.") ++ "<lambda>")]) F_l_parts (PySem.W.mg_none_of X G z_range) (PySem.W.mg_none_of X G z_len)
  have G_l_filled := fun (μ : Bool) => ok_l_filled (μ := μ) (P := P) (w := w) (mg := mg) (base := base) (tbs := [(tabA K ca_least, (("least" : Str) ++ ".<locals>.") ++ "<lambda>")]) F_l_filled (G_l_parts μ) (PySem.W.mg_of X G a_l_parts) k_l_parts b_l_parts (G_l_draw μ) (PySem.W.mg_of X G a_l_draw) k_l_draw b_l_draw (PySem.W.mg_none_of X G z_range)
  have G_l_second := fun (μ : Bool) => ok_l_second (μ := μ) (P := P) (w := w) (mg := mg) (base := base) (tbs := [(tabA K ca_least, (("least" : Str) ++ ".<locals>.") ++ "<lambda>")]) F_l_second (G_l_draw μ) (PySem.W.mg_of X G a_l_draw) k_l_draw b_l_draw (G_l_filled μ) (PySem.W.mg_of X G a_l_filled) k_l_filled b_l_filled (G_l_pattern μ) (PySem.W.mg_of X G a_l_pattern) k_l_pattern b_l_pattern (PySem.W.mg_none_of X G z_len)
  have G_l_lets := fun (μ : Bool) => ok_l_lets (μ := μ) (P := P) (w := w) (mg := mg) (base := base) (tbs := [(tabA K ca_least, (("least" : Str) ++ ".<locals>.") ++ "<lambda>")]) F_l_lets
  have G_l_behind := fun (μ : Bool) => ok_l_behind (μ := μ) (P := P) (w := w) (mg := mg) (base := base) (tbs := [(tabA K ca_least, (("least" : Str) ++ ".<locals>.") ++ "<lambda>")]) F_l_behind
  have G_l_ways := fun (μ : Bool) => ok_l_ways (μ := μ) (P := P) (w := w) (mg := mg) (base := base) (tbs := [(tabA K ca_least, (("least" : Str) ++ ".<locals>.") ++ "<lambda>")]) F_l_ways (G_l_lets μ) (PySem.W.mg_of X G a_l_lets) k_l_lets b_l_lets (G_l_behind μ) (PySem.W.mg_of X G a_l_behind) k_l_behind b_l_behind
  have G_l_less := fun (μ : Bool) => ok_l_less (μ := μ) (P := P) (w := w) (mg := mg) (base := base) (tbs := [(tabA K ca_least, (("least" : Str) ++ ".<locals>.") ++ "<lambda>")]) F_l_less (PySem.W.mg_none_of X G z_len)
  have G_l_due := fun (μ : Bool) => ok_l_due (μ := μ) (P := P) (w := w) (mg := mg) (base := base) (tbs := [(tabA K ca_least, (("least" : Str) ++ ".<locals>.") ++ "<lambda>")]) F_l_due (G_l_ways μ) (PySem.W.mg_of X G a_l_ways) k_l_ways b_l_ways (G_l_less μ) (PySem.W.mg_of X G a_l_less) k_l_less b_l_less (PySem.W.mg_none_of X G z_range) (PySem.W.mg_none_of X G z_len)
  have G_tokens_of := fun (μ : Bool) => ok_tokens_of (μ := μ) (P := P) (w := w) (mg := mg) (base := base) (tbs := [(tabA K ca_least, (("least" : Str) ++ ".<locals>.") ++ "<lambda>")]) F_tokens_of (PySem.W.mg_none_of X G z_tuple) (PySem.W.mg_none_of X G z_len)
  have G_is_star := fun (μ : Bool) => ok_is_star (μ := μ) (P := P) (w := w) (mg := mg) (base := base) (tbs := [(tabA K ca_least, (("least" : Str) ++ ".<locals>.") ++ "<lambda>")]) F_is_star
  have G_may_contain := fun (μ : Bool) => ok_may_contain (μ := μ) (P := P) (w := w) (mg := mg) (base := base) (tbs := [(tabA K ca_least, (("least" : Str) ++ ".<locals>.") ++ "<lambda>")]) F_may_contain
  have G_continuations := fun (μ : Bool) => ok_continuations (μ := μ) (P := P) (w := w) (mg := mg) (base := base) (tbs := [(tabA K ca_least, (("least" : Str) ++ ".<locals>.") ++ "<lambda>")]) F_continuations (G_is_star μ) (PySem.W.mg_of X G a_is_star) k_is_star b_is_star (G_may_contain μ) (PySem.W.mg_of X G a_may_contain) k_may_contain b_may_contain (PySem.W.mg_none_of X G z_len)
  have G_least := fun (μ : Bool) => ok_least (μ := μ) (P := P) (w := w) (mg := mg) (base := base) (tbs := [(tabA K ca_least, (("least" : Str) ++ ".<locals>.") ++ "<lambda>")]) F_least (PySem.W.mg_none_of X G z_min) (PySem.W.mg_none_of X G z_len) lf_least
  have G_common_match := fun (μ : Bool) => ok_common_match (μ := μ) (P := P) (w := w) (mg := mg) (base := base) (tbs := [(tabA K ca_least, (("least" : Str) ++ ".<locals>.") ++ "<lambda>")]) F_common_match (G_tokens_of μ) (PySem.W.mg_of X G a_tokens_of) k_tokens_of b_tokens_of (G_continuations μ) (PySem.W.mg_of X G a_continuations) k_continuations b_continuations (G_least μ) (PySem.W.mg_of X G a_least) k_least b_least (PySem.W.mg_none_of X G z_reversed) (PySem.W.mg_none_of X G z_range) (PySem.W.mg_none_of X G z_len)
  exact ok_law (μ := false) (tbs := [(tabA K ca_least, (("least" : Str) ++ ".<locals>.") ++ "<lambda>")]) F_law (G_l_tape false) (PySem.W.mg_of X G a_l_tape) k_l_tape b_l_tape (G_l_pattern false) (PySem.W.mg_of X G a_l_pattern) k_l_pattern b_l_pattern (G_l_second false) (PySem.W.mg_of X G a_l_second) k_l_second b_l_second (G_l_due false) (PySem.W.mg_of X G a_l_due) k_l_due b_l_due (G_l_draw false) (PySem.W.mg_of X G a_l_draw) k_l_draw b_l_draw (G_l_parts false) (PySem.W.mg_of X G a_l_parts) k_l_parts b_l_parts (G_common_match false) (PySem.W.mg_of X G a_common_match) k_common_match b_common_match (PySem.W.mg_none_of X G z_repr)
end Law
open PySem PySem.W PyProof.Rows in
set_option maxHeartbeats 0 in
theorem PySem.Challenge.cw_shiptrace_k08_common_match_holds : PySem.Challenge.rw_shiptrace_k08_common_match.Holds := by
  w_on; o_law; k_head; (case hw => w_witness2)
  k_fill
  refine Ev.walkGT (l := PySem.Challenge.rw_shiptrace_k08_common_match) (n := 63) (k := 4) (x := "_law_script") (c := Law.c_law) rfl (by decide) rfl ⟨rfl, by decide, by decide⟩ (fun w h Y => PySem.W.km_in_of Y) ?F Law.law_true
  case F =>
    intro w mg fa h Y KX G hmg
    refine' Law.all_mk KX G hmg ?a_l_tape ?l_l_tape ?c_l_tape0 ?k_l_tape ?a_l_draw ?l_l_draw ?c_l_draw0 ?k_l_draw ?a_l_pattern ?l_l_pattern ?c_l_pattern0 ?k_l_pattern ?a_l_parts ?l_l_parts ?c_l_parts0 ?k_l_parts ?a_l_filled ?l_l_filled ?c_l_filled0 ?k_l_filled ?a_l_second ?l_l_second ?c_l_second0 ?k_l_second ?a_l_lets ?l_l_lets ?c_l_lets0 ?k_l_lets ?a_l_behind ?l_l_behind ?c_l_behind0 ?k_l_behind ?a_l_ways ?l_l_ways ?c_l_ways0 ?k_l_ways ?a_l_less ?l_l_less ?c_l_less0 ?k_l_less ?a_l_due ?l_l_due ?c_l_due0 ?k_l_due ?a_tokens_of ?l_tokens_of ?c_tokens_of0 ?k_tokens_of ?a_is_star ?l_is_star ?c_is_star0 ?k_is_star ?a_may_contain ?l_may_contain ?c_may_contain0 ?k_may_contain ?a_continuations ?l_continuations ?c_continuations0 ?k_continuations ?a_least ?l_least ?c_least0 ?k_least ?tf_least ?a_common_match ?l_common_match ?c_common_match0 ?k_common_match ?a_law ?l_law ?c_law0 ?k_law ?z_list ?z_int ?z_abs ?z_max ?z_len ?z_range ?z_tuple ?z_min ?z_reversed ?z_repr
    (case a_l_tape => k_is); (case l_l_tape => k_is); (case c_l_tape0 => k_is); (case k_l_tape => k_is); (case a_l_draw => k_is); (case l_l_draw => k_is); (case c_l_draw0 => k_is); (case k_l_draw => k_is); (case a_l_pattern => k_is); (case l_l_pattern => k_is); (case c_l_pattern0 => k_is); (case k_l_pattern => k_is); (case a_l_parts => k_is); (case l_l_parts => k_is); (case c_l_parts0 => k_is); (case k_l_parts => k_is); (case a_l_filled => k_is); (case l_l_filled => k_is); (case c_l_filled0 => k_is); (case k_l_filled => k_is); (case a_l_second => k_is); (case l_l_second => k_is); (case c_l_second0 => k_is); (case k_l_second => k_is); (case a_l_lets => k_is); (case l_l_lets => k_is); (case c_l_lets0 => k_is); (case k_l_lets => k_is); (case a_l_behind => k_is); (case l_l_behind => k_is); (case c_l_behind0 => k_is); (case k_l_behind => k_is); (case a_l_ways => k_is); (case l_l_ways => k_is); (case c_l_ways0 => k_is); (case k_l_ways => k_is); (case a_l_less => k_is); (case l_l_less => k_is); (case c_l_less0 => k_is); (case k_l_less => k_is); (case a_l_due => k_is); (case l_l_due => k_is); (case c_l_due0 => k_is); (case k_l_due => k_is); (case a_tokens_of => k_is); (case l_tokens_of => k_is); (case c_tokens_of0 => k_is); (case k_tokens_of => k_is); (case a_is_star => k_is); (case l_is_star => k_is); (case c_is_star0 => k_is); (case k_is_star => k_is); (case a_may_contain => k_is); (case l_may_contain => k_is); (case c_may_contain0 => k_is); (case k_may_contain => k_is); (case a_continuations => k_is); (case l_continuations => k_is); (case c_continuations0 => k_is); (case k_continuations => k_is); (case a_least => k_is); (case l_least => k_is); (case c_least0 => k_is); (case k_least => k_is); (case tf_least => exact Ev.tbF_mk Y (by first | rfl | decide +kernel | k_is) (by first | rfl | decide +kernel) (by first | rfl | decide +kernel | k_is)); (case a_common_match => k_is); (case l_common_match => k_is); (case c_common_match0 => k_is); (case k_common_match => k_is); (case a_law => k_is); (case l_law => k_is); (case c_law0 => k_is); (case k_law => k_is); (case z_list => k_is); (case z_int => k_is); (case z_abs => k_is); (case z_max => k_is); (case z_len => k_is); (case z_range => k_is); (case z_tuple => k_is); (case z_min => k_is); (case z_reversed => k_is); (case z_repr => k_is)

