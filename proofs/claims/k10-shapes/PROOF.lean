import PyProof.Rows.All
import Wide.All
import OpenK.AllK
import Wide.FinOn
import HandS.ForMost
import HandS.ForExc
import HandS.TupAny
import HandS.TupMul
import HandS.Deep
import HandS.Style
import HandS.IsInst
import HandS.SortInts
import HandS.RevRange
import HandS.Rev
import HandS.CallSlots
import HandS.SortKw
import HandS.Conv
import HandS.Dict
import HandS.More
import HandS.HeadHook3
import PyProof.StrOps2
import HandS.ExcOwn
import HandS.TryOnly
import PyProof.ExcBaseAll.ValueError
import KE.KIsAll
import KE.KExcIs
import HandS.ExcField
import HandS.Defaults
import PyProof.TableCode
import PySem.Challenge.RW_shiptrace_k10_shapes
import HandS.Head0
import HandS.HeadEnd
/-! ## Ev1 -/
set_option Elab.async false
set_option linter.all false
set_option maxRecDepth 100000
/-! Ev1: deep values, the store of mutable cells, what represents them on the tracked heap. -/
namespace Ev
open PySem PySem.Spec PyProof.Rows L2

/-- a value: data, or the number of a cell of the store; rol: a list that is only read -/
inductive D where
  | non | bl (b : Bool) | int (i : Int) | str (s : List Nat) | tup (l : List D) | rol (l : List D) | ref (n : Nat)
inductive Cell where
  | lst (l : List D)
  | dict (t : Bool) (kvs : List (D × D))
  | ins (c : Str) (fs : List (Str × D))
abbrev Store := List Cell
/-- what an expression gives: a value, or a new list that nobody else holds -/
inductive RV where
  | v (d : D) | t (l : List D)
structure Exn where
  cls : Str
  fs : List (Str × D)
inductive R (α : Type) where
  | ok (a : α) (st : Store) | exc (x : Exn) (st : Store) | bad
abbrev SEnv := List (Option D)

def R.bind {α β : Type} (r : R α) (f : α → Store → R β) : R β := match r with
  | .ok a st => f a st
  | .exc x st => .exc x st
  | .bad => .bad
@[simp] theorem R.bind_ok {α β : Type} (a : α) (st : Store) (f : α → Store → R β) : (R.ok a st).bind f = f a st := .trans rfl rfl
@[simp] theorem R.bind_exc {α β : Type} (x : Exn) (st : Store) (f : α → Store → R β) : (R.exc x st : R α).bind f = .exc x st := .trans rfl rfl
@[simp] theorem R.bind_bad {α β : Type} (f : α → Store → R β) : (R.bad : R α).bind f = .bad := .trans rfl rfl

/-! ### data -/
mutual
def D.toPy : D → PyData
  | .non => .none
  | .bl b => .bool b
  | .int i => .int i
  | .str s => .str ⟨s.toArray⟩
  | .tup l => .tuple (D.toPys l)
  | .rol l => .list (D.toPys l)
  | .ref _ => .none
def D.toPys : List D → List PyData
  | [] => []
  | d :: l => D.toPy d :: D.toPys l
end
mutual
def D.pure : D → Bool
  | .tup l => D.pures l
  | .rol l => D.pures l
  | .ref _ => false
  | _ => true
def D.pures : List D → Bool
  | [] => true
  | d :: l => D.pure d && D.pures l
end
-- every reference is below n
mutual
def D.low (n : Nat) : D → Bool
  | .tup l => D.lows n l
  | .rol l => D.lows n l
  | .ref m => decide (m < n)
  | _ => true
def D.lows (n : Nat) : List D → Bool
  | [] => true
  | d :: l => D.low n d && D.lows n l
end
mutual
theorem D.low_of_pure (n : Nat) : ∀ d : D, D.pure d = true → D.low n d = true
  | .tup l, h => by rw [D.low]; exact D.lows_of_pures n l (by simpa [D.pure] using h)
  | .rol l, h => by rw [D.low]; exact D.lows_of_pures n l (by simpa [D.pure] using h)
  | .ref m, h => by simp [D.pure] at h
  | .non, _ => by simp [D.low]
  | .bl _, _ => by simp [D.low]
  | .int _, _ => by simp [D.low]
  | .str _, _ => by simp [D.low]
theorem D.lows_of_pures (n : Nat) : ∀ l : List D, D.pures l = true → D.lows n l = true
  | [], _ => by simp [D.lows]
  | d :: l, h => by
    simp only [D.pures, Bool.and_eq_true] at h
    simp only [D.lows, Bool.and_eq_true]
    exact ⟨D.low_of_pure n d h.1, D.lows_of_pures n l h.2⟩
end

/-! ### representation -/
section
variable (K : PySem.W.Frag) (ρ : List Addr) (H : Hp)
/-- a list that is only read -/
def RoL (a : Addr) (vs : List V) : Prop := (∃ o, H a = some (.frz o (.lst vs))) ∨
    ∃ (o : Obj) (its : Array Value) (n : Nat), K.lookup a = some o ∧ o.cls = .type "list" ∧ o.dict = none ∧ o.data = .seq its n ∧ its.size ≤ sizeLine ∧ Vals vs its.toList
mutual
def RD : D → V → Prop
  | .non, v => v = .non
  | .bl b, v => v = .bl b
  | .int i, v => v = .int i
  | .str s, v => v = .str ⟨s.toArray⟩
  | .tup l, v => ∃ a vs, v = .ref a ∧ SqT K H a vs ∧ RDs l vs
  | .rol l, v => ∃ a vs, v = .ref a ∧ RoL K H a vs ∧ RDs l vs
  | .ref n, v => ∃ a, v = .ref a ∧ ρ[n]? = some a
def RDs : List D → List V → Prop
  | [], vs => vs = []
  | d :: l, vs => ∃ v r, vs = v :: r ∧ RD d v ∧ RDs l r
end
/-- H0: the heap ahead of the evaluation -/
def RRV (H0 : Hp) : RV → V → Prop
  | .v d, v => RD K ρ H d v
  | .t l, v => ∃ a vs, v = .ref a ∧ H a = some (.lst vs) ∧ a ∉ ρ ∧ H0 a = none ∧ RDs K ρ H l vs
/-- a dict's key -/
inductive RKey : D → Key → Prop
  | int (i : Int) : RKey (.int i) (.inl i)
  | str (s : List Nat) : RKey (.str s) (.inr ⟨s.toArray⟩)
inductive RKeys : List D → List Key → Prop
  | nil : RKeys [] []
  | cons {d l k ks} : RKey d k → RKeys l ks → RKeys (d :: l) (k :: ks)
inductive RKT : D → List Key → Prop
  | tup {l ks} : RKeys l ks → RKT (.tup l) ks
def RKV : List (D × D) → List (Key × V) → Prop
  | [], kvs => kvs = []
  | (k, d) :: r, kvs => ∃ k' v r', kvs = (k', v) :: r' ∧ RKey k k' ∧ RD K ρ H d v ∧ RKV r r'
def RKVT : List (D × D) → List (List Key × V) → Prop
  | [], kvs => kvs = []
  | (k, d) :: r, kvs => ∃ k' v r', kvs = (k', v) :: r' ∧ RKT k k' ∧ RD K ρ H d v ∧ RKVT r r'
def RFs : List (Str × D) → List (Str × V) → Prop
  | [], fs => fs = []
  | (f, d) :: r, fs => ∃ v r', fs = (f, v) :: r' ∧ RD K ρ H d v ∧ RFs r r'
-- where the classes of the program stand
variable (cl : Str → Option Addr)
def RC (a : Addr) : Cell → Prop
  | .lst l => ∃ vs, H a = some (.lst vs) ∧ RDs K ρ H l vs
  | .dict t kvs => (t = false ∧ ∃ vs, H a = some (.dK vs) ∧ RKV K ρ H kvs vs) ∨ (t = true ∧ ∃ vs, H a = some (.dT vs) ∧ RKVT K ρ H kvs vs)
  | .ins c fs => ∃ C dx vs, cl c = some C ∧ H a = some (.ins C dx vs) ∧ RFs K ρ H fs vs
structure RS (st : Store) : Prop where
  len : ρ.length = st.length
  nd : ρ.Nodup
  at_ : ∀ (n : Nat) (c : Cell) (a : Addr), st[n]? = some c → ρ[n]? = some a → RC K ρ H cl a c
/-- what an evaluation leaves: the cells' addresses stay, all else that was tracked stays as it was -/
structure Ext (ρ : List Addr) (H : Hp) (ρ' : List Addr) (H' : Hp) : Prop where
  pre : ∃ more, ρ' = ρ ++ more
  same : ∀ a o, H a = some o → a ∉ ρ → H' a = some o ∧ a ∉ ρ'
structure RE (σ : L2.St) (env : SEnv) : Prop where
  len : σ.length = env.length
  at_ : ∀ (i : Nat) (d : D), env[i]? = some (some d) → ∃ v, σ[i]? = some (some v) ∧ RD K ρ H d v
end

theorem Ext.refl (ρ : List Addr) (H : Hp) : Ext ρ H ρ H := ⟨⟨[], by simp⟩, fun _ _ h n => ⟨h, n⟩⟩
theorem Ext.trans {ρ ρ1 ρ2 : List Addr} {H H1 H2 : Hp} (a : Ext ρ H ρ1 H1) (b : Ext ρ1 H1 ρ2 H2) : Ext ρ H ρ2 H2 := by
  obtain ⟨m1, e1⟩ := a.pre
  obtain ⟨m2, e2⟩ := b.pre
  refine ⟨⟨m1 ++ m2, by rw [e2, e1, List.append_assoc]⟩, fun c o h n => ?_⟩
  obtain ⟨h1, n1⟩ := a.same c o h n
  exact b.same c o h1 n1
/-- a new object that is no cell -/
theorem Ext.new {ρ : List Addr} {H : Hp} {p : Addr} {o : HO} (hp : H p = none) : Ext ρ H ρ (upd H p o) :=
  ⟨⟨[], by simp⟩, fun a u h n => ⟨by rw [upd_ne (ne_of_none h hp)]; exact h, n⟩⟩
/-- a cell is written -/
theorem Ext.put {ρ : List Addr} {H : Hp} {p : Addr} {o : HO} (hp : p ∈ ρ) : Ext ρ H ρ (upd H p o) :=
  ⟨⟨[], by simp⟩, fun a u h n => ⟨by rw [upd_ne (fun e => n (by rw [e]; exact hp))]; exact h, n⟩⟩

section
variable {K : PySem.W.Frag} {cl : Str → Option Addr} {ρ ρ' : List Addr} {H H' H0 : Hp} {st : Store}
theorem RS.obj (S : RS K ρ H cl st) {a : Addr} (ha : a ∈ ρ) : ∃ o, H a = some o ∧ (∀ xs, o ≠ .tup xs) ∧ ∀ b u, o ≠ .frz b u := by
  obtain ⟨n, hn⟩ := List.getElem?_of_mem ha
  have hlt : n < st.length := by rw [← S.len]; exact (List.getElem?_eq_some_iff.mp hn).1
  have hc := S.at_ n st[n] a (List.getElem?_eq_getElem hlt) hn
  cases e : st[n] with
  | lst l => rw [e] at hc; obtain ⟨vs, h, _⟩ := hc; exact ⟨_, h, (fun _ z => by cases z), fun _ _ z => by cases z⟩
  | dict t l => rw [e] at hc; obtain ⟨_, vs, h, _⟩ | ⟨_, vs, h, _⟩ := hc <;> exact ⟨_, h, (fun _ z => by cases z), fun _ _ z => by cases z⟩
  | ins c fs => rw [e] at hc; obtain ⟨C, dx, vs, _, h, _⟩ := hc; exact ⟨_, h, (fun _ z => by cases z), fun _ _ z => by cases z⟩
theorem RS.cell (S : RS K ρ H cl st) {n : Nat} {a : Addr} (h : ρ[n]? = some a) : ∃ c, st[n]? = some c ∧ RC K ρ H cl a c := by
  have hlt : n < st.length := by rw [← S.len]; exact (List.getElem?_eq_some_iff.mp h).1
  exact ⟨st[n], List.getElem?_eq_getElem hlt, S.at_ n st[n] a (List.getElem?_eq_getElem hlt) h⟩
theorem RS.addr (S : RS K ρ H cl st) {n : Nat} {c : Cell} (h : st[n]? = some c) : ∃ a, ρ[n]? = some a ∧ RC K ρ H cl a c := by
  have hlt : n < ρ.length := by rw [S.len]; exact (List.getElem?_eq_some_iff.mp h).1
  exact ⟨ρ[n], List.getElem?_eq_getElem hlt, S.at_ n c _ h (List.getElem?_eq_getElem hlt)⟩
/-- what data leans on -/
structure Mono (K : PySem.W.Frag) (ρ : List Addr) (H : Hp) (ρ' : List Addr) (H' : Hp) : Prop where
  pre : ∃ more, ρ' = ρ ++ more
  tup : ∀ a vs, SqT K H a vs → SqT K H' a vs
  rol : ∀ a vs, RoL K H a vs → RoL K H' a vs
theorem Ext.mono (S : RS K ρ H cl st) (x : Ext ρ H ρ' H') : Mono K ρ H ρ' H' := by
  refine ⟨x.pre, fun a vs h => ?_, fun a vs h => ?_⟩
  · rcases h with (h | ⟨o, h⟩) | h
    · refine .inl (.inl (x.same a _ h fun ha => ?_).1)
      obtain ⟨o, e, n, _⟩ := S.obj ha
      rw [h] at e; cases e; exact n _ rfl
    · refine .inl (.inr ⟨o, (x.same a _ h fun ha => ?_).1⟩)
      obtain ⟨o, e, _, n⟩ := S.obj ha
      rw [h] at e; cases e; exact n _ _ rfl
    · exact .inr h
  · rcases h with ⟨o, h⟩ | h
    · refine .inl ⟨o, (x.same a _ h fun ha => ?_).1⟩
      obtain ⟨o, e, _, n⟩ := S.obj ha
      rw [h] at e; cases e; exact n _ _ rfl
    · exact .inr h
theorem Mono.grow (m : List Addr) : Mono K ρ H (ρ ++ m) H := ⟨⟨m, rfl⟩, fun _ _ h => h, fun _ _ h => h⟩
theorem RoL.sq {a : Addr} {vs : List V} (h : RoL K H a vs) : SqL K H a vs := by
  rcases h with ⟨o, h⟩ | h
  · exact .inl (.inr ⟨o, h⟩)
  · exact .inr h
mutual
theorem RD.mono (x : Mono K ρ H ρ' H') : ∀ (d : D) (v : V), RD K ρ H d v → RD K ρ' H' d v
  | .non, _, h => h
  | .bl _, _, h => h
  | .int _, _, h => h
  | .str _, _, h => h
  | .tup l, _, h => by
    obtain ⟨a, vs, rfl, h1, h2⟩ := h
    exact ⟨a, vs, rfl, x.tup _ _ h1, RDs.mono x l vs h2⟩
  | .rol l, _, h => by
    obtain ⟨a, vs, rfl, h1, h2⟩ := h
    exact ⟨a, vs, rfl, x.rol _ _ h1, RDs.mono x l vs h2⟩
  | .ref n, _, h => by
    obtain ⟨a, rfl, h1⟩ := h
    obtain ⟨m, e⟩ := x.pre
    refine ⟨a, rfl, ?_⟩
    have hlt : n < ρ.length := (List.getElem?_eq_some_iff.mp h1).1
    rw [e, List.getElem?_append_left hlt]
    exact h1
theorem RDs.mono (x : Mono K ρ H ρ' H') : ∀ (l : List D) (vs : List V), RDs K ρ H l vs → RDs K ρ' H' l vs
  | [], _, h => h
  | d :: l, _, h => by
    obtain ⟨v, r, rfl, h1, h2⟩ := h
    exact ⟨v, r, rfl, RD.mono x d v h1, RDs.mono x l r h2⟩
end
theorem RE.mono {σ : L2.St} {env : SEnv} (x : Mono K ρ H ρ' H') (h : RE K ρ H σ env) : RE K ρ' H' σ env :=
  ⟨h.len, fun i d e => let ⟨v, h1, h2⟩ := h.at_ i d e; ⟨v, h1, RD.mono x d v h2⟩⟩
theorem RKV.mono (x : Mono K ρ H ρ' H') : ∀ (l : List (D × D)) (vs : List (Key × V)), RKV K ρ H l vs → RKV K ρ' H' l vs
  | [], _, h => h
  | (k, d) :: l, _, h => by
    obtain ⟨k', v, r, rfl, h0, h1, h2⟩ := h
    exact ⟨k', v, r, rfl, h0, RD.mono x d v h1, RKV.mono x l r h2⟩
theorem RKVT.mono (x : Mono K ρ H ρ' H') : ∀ (l : List (D × D)) (vs : List (List Key × V)), RKVT K ρ H l vs → RKVT K ρ' H' l vs
  | [], _, h => h
  | (k, d) :: l, _, h => by
    obtain ⟨k', v, r, rfl, h0, h1, h2⟩ := h
    exact ⟨k', v, r, rfl, h0, RD.mono x d v h1, RKVT.mono x l r h2⟩
theorem RFs.mono (x : Mono K ρ H ρ' H') : ∀ (l : List (Str × D)) (vs : List (Str × V)), RFs K ρ H l vs → RFs K ρ' H' l vs
  | [], _, h => h
  | (k, d) :: l, _, h => by
    obtain ⟨v, r, rfl, h1, h2⟩ := h
    exact ⟨v, r, rfl, RD.mono x d v h1, RFs.mono x l r h2⟩
theorem RC.mono (x : Mono K ρ H ρ' H') {a : Addr} {c : Cell} (e : H' a = H a) (h : RC K ρ H cl a c) : RC K ρ' H' cl a c := by
  cases c with
  | lst l => obtain ⟨vs, h1, h2⟩ := h; exact ⟨vs, e.trans h1, RDs.mono x l vs h2⟩
  | dict t l =>
    obtain ⟨ht, vs, h1, h2⟩ | ⟨ht, vs, h1, h2⟩ := h
    · exact .inl ⟨ht, vs, e.trans h1, RKV.mono x l vs h2⟩
    · exact .inr ⟨ht, vs, e.trans h1, RKVT.mono x l vs h2⟩
  | ins c fs => obtain ⟨C, dx, vs, h0, h1, h2⟩ := h; exact ⟨C, dx, vs, h0, e.trans h1, RFs.mono x fs vs h2⟩
theorem RRV.ext (S : RS K ρ H cl st) (x : Ext ρ H ρ' H') {a : RV} {v : V} (h : RRV K ρ H H0 a v) : RRV K ρ' H' H0 a v := by
  cases a with
  | v d => exact RD.mono (x.mono S) d v h
  | t l =>
    obtain ⟨a, vs, rfl, h1, h2, h0, h3⟩ := h
    exact ⟨a, vs, rfl, (x.same a _ h1 h2).1, (x.same a _ h1 h2).2, h0, RDs.mono (x.mono S) l vs h3⟩
/-- what is free behind was free ahead -/
theorem Ext.free {st' : Store} (S' : RS K ρ' H' cl st') (x : Ext ρ H ρ' H') {a : Addr} (h : H' a = none) : H a = none := by
  cases e : H a with
  | none => rfl
  | some o =>
    by_cases ha : a ∈ ρ
    · obtain ⟨m, em⟩ := x.pre
      obtain ⟨u, hu, _⟩ := S'.obj (a := a) (by rw [em]; exact List.mem_append_left _ ha)
      rw [h] at hu; cases hu
    · rw [(x.same a o e ha).1] at h; cases h
theorem RRV.back {st' : Store} {H1 : Hp} {ρ1 : List Addr} (S1 : RS K ρ1 H1 cl st') (x : Ext ρ H ρ1 H1) {a : RV} {v : V} (h : RRV K ρ' H' H1 a v) : RRV K ρ' H' H a v := by
  cases a with
  | v d => exact h
  | t l =>
    obtain ⟨a, vs, rfl, h1, h2, h0, h3⟩ := h
    exact ⟨a, vs, rfl, h1, h2, x.free S1 h0, h3⟩
/-- a new object that is no cell -/
theorem RS.new (S : RS K ρ H cl st) {p : Addr} {o : HO} (hp : H p = none) : RS K ρ (upd H p o) cl st := by
  refine ⟨S.len, S.nd, fun n c a h1 h2 => (S.at_ n c a h1 h2).mono ((Ext.new hp).mono S) ?_⟩
  obtain ⟨u, e, _⟩ := S.obj (List.mem_of_getElem? h2)
  rw [upd_ne (ne_of_none e hp)]
theorem nodup_at : ∀ {l : List Addr} {i j : Nat} {x : Addr}, l.Nodup → l[i]? = some x → l[j]? = some x → i = j
  | [], _, _, _, _, h, _ => by simp at h
  | y :: l, 0, 0, _, _, _, _ => rfl
  | y :: l, 0, j + 1, x, nd, h1, h2 => by
    simp only [List.getElem?_cons_zero, Option.some.injEq] at h1
    simp only [List.getElem?_cons_succ] at h2
    subst h1
    exact absurd (List.mem_of_getElem? h2) (List.nodup_cons.mp nd).1
  | y :: l, i + 1, 0, x, nd, h1, h2 => by
    simp only [List.getElem?_cons_zero, Option.some.injEq] at h2
    simp only [List.getElem?_cons_succ] at h1
    subst h2
    exact absurd (List.mem_of_getElem? h1) (List.nodup_cons.mp nd).1
  | y :: l, i + 1, j + 1, x, nd, h1, h2 => by
    simp only [List.getElem?_cons_succ] at h1 h2
    rw [nodup_at (List.nodup_cons.mp nd).2 h1 h2]
/-- a cell is written -/
theorem RS.put (S : RS K ρ H cl st) {n : Nat} {p : Addr} {o : HO} {c : Cell} (hn : ρ[n]? = some p) (h : RC K ρ (upd H p o) cl p c) : RS K ρ (upd H p o) cl (st.set n c) := by
  refine ⟨by rw [List.length_set]; exact S.len, S.nd, fun m c' a h1 h2 => ?_⟩
  by_cases e : m = n
  · subst e
    have hlt : m < st.length := by rw [← S.len]; exact (List.getElem?_eq_some_iff.mp hn).1
    rw [List.getElem?_set_self hlt] at h1
    cases h1
    rw [hn] at h2; cases h2
    exact h
  · rw [List.getElem?_set_ne (Ne.symm e)] at h1
    refine (S.at_ m c' a h1 h2).mono ((Ext.put (List.mem_of_getElem? hn)).mono S) ?_
    refine upd_ne fun z => e ?_
    subst z
    exact nodup_at S.nd h2 hn
/-- an object becomes a cell -/
theorem RS.grow (S : RS K ρ H cl st) {p : Addr} {c : Cell} (np : p ∉ ρ) (h : RC K (ρ ++ [p]) H cl p c) : RS K (ρ ++ [p]) H cl (st ++ [c]) := by
  refine ⟨by rw [List.length_append, List.length_append, S.len]; rfl, ?_, fun m c' a h1 h2 => ?_⟩
  · refine List.nodup_append.mpr ⟨S.nd, by simp, fun x hx y hy e => ?_⟩
    simp only [List.mem_singleton] at hy
    subst hy; subst e
    exact np hx
  · by_cases e : m < st.length
    · rw [List.getElem?_append_left e] at h1
      rw [List.getElem?_append_left (by rw [S.len]; exact e)] at h2
      exact (S.at_ m c' a h1 h2).mono (Mono.grow _) rfl
    · have hm : m < (st ++ [c]).length := (List.getElem?_eq_some_iff.mp h1).1
      rw [List.length_append, List.length_singleton] at hm
      have : m = st.length := by omega
      subst this
      rw [List.getElem?_append_right (Nat.le_refl _)] at h1
      rw [← S.len, List.getElem?_append_right (Nat.le_refl _)] at h2
      simp at h1 h2
      subst h1; subst h2
      exact h
theorem Ext.grow {ρ1 : List Addr} {H1 : Hp} (x : Ext ρ H ρ1 H1) {p : Addr} (hp : H p = none) : Ext ρ H (ρ1 ++ [p]) H1 := by
  obtain ⟨m, e⟩ := x.pre
  refine ⟨⟨m ++ [p], by rw [e, List.append_assoc]⟩, fun a o h n => ?_⟩
  obtain ⟨h1, n1⟩ := x.same a o h n
  refine ⟨h1, fun z => ?_⟩
  rcases List.mem_append.mp z with z | z
  · exact n1 z
  · simp only [List.mem_singleton] at z
    subst z
    rw [hp] at h; cases h
end

/-! ### materialization: a new list becomes a cell -/
def mat (a : RV) (st : Store) : R D := match a with
  | .v d => .ok d st
  | .t l => .ok (.ref st.length) (st ++ [.lst l])
@[simp] theorem mat_v (d : D) (st : Store) : mat (.v d) st = .ok d st := .trans rfl rfl
@[simp] theorem mat_t (l : List D) (st : Store) : mat (.t l) st = .ok (.ref st.length) (st ++ [.lst l]) := .trans rfl rfl
section
variable {K : PySem.W.Frag} {cl : Str → Option Addr} {ρ ρ1 : List Addr} {H H1 : Hp} {st : Store}
theorem mat_ok (S : RS K ρ1 H1 cl st) (x : Ext ρ H ρ1 H1) {a : RV} {v : V} (h : RRV K ρ1 H1 H a v) :
    ∃ d st' ρ', mat a st = .ok d st' ∧ Ext ρ H ρ' H1 ∧ RS K ρ' H1 cl st' ∧ RD K ρ' H1 d v ∧ Mono K ρ1 H1 ρ' H1 := by
  cases a with
  | v d => exact ⟨d, st, ρ1, rfl, x, S, h, ⟨⟨[], by simp⟩, fun _ _ z => z, fun _ _ z => z⟩⟩
  | t l =>
    obtain ⟨p, vs, rfl, h1, h2, h0, h3⟩ := h
    refine ⟨_, _, ρ1 ++ [p], rfl, x.grow h0, S.grow h2 ⟨vs, h1, RDs.mono (Mono.grow _) l vs h3⟩, ⟨p, rfl, ?_⟩, Mono.grow _⟩
    rw [← S.len, List.getElem?_append_right (Nat.le_refl _)]
    simp
end
end Ev

/-! ## Ev2 -/
set_option Elab.async false
set_option linter.all false
set_option maxRecDepth 100000
/-! Ev2: readings by evaluation: Post, tG, names, constants, operators. -/
namespace Ev
open PySem PySem.Spec PyProof.Rows L2

/-- an exception as it lies -/
def RX (K : PySem.W.Frag) (ρ : List Addr) (H : Hp) (cl : Str → Option Addr) (c : Value) (d : Option Addr) (x : Exn) : Prop :=
  ∃ C, cl x.cls = some C ∧ c = .ref C ∧ ((x.fs = [] ∧ d = none) ∨ ∃ dx vs, d = some dx ∧ H dx = some (.xd vs) ∧ RFs K ρ H x.fs vs)
abbrev Rel (α β : Type) := Hp → List Addr → Hp → α → β → Prop
section
variable (K : PySem.W.Frag) (cl : Str → Option Addr) (W : WX) (σ : L2.St)
def relV : Rel RV V := fun H0 ρ H a v => RRV K ρ H H0 a v
def relB : Rel Bool Bool := fun _ _ _ a b => a = b
def relA : Rel (List D) (List V) := fun _ ρ H l vs => RDs K ρ H l vs
def Post {α β : Type} (rel : Rel α β) (ρ : List Addr) (H : Hp) (r : R α) (Q : β → Hp → Prop) : Prop := match r with
  | .ok a st' => ∀ ρ' H' v, Ext ρ H ρ' H' → RS K ρ' H' cl st' → rel H ρ' H' a v → Q v H'
  | .exc x st' => ∀ ρ' H' c d, Ext ρ H ρ' H' → RS K ρ' H' cl st' → RX K ρ' H' cl c d x → W c d σ H'
  | .bad => False
end
/-- the reading of a construct whose value f reckons -/
def tG (K : PySem.W.Frag) (cl : Str → Option Addr) (W : WX) {α β : Type} (rel : Rel α β) (f : SEnv → Store → R α) : L2.St → Hp → (β → Hp → Prop) → Prop :=
  fun σ H Q => ∃ ρ env st, RS K ρ H cl st ∧ RE K ρ H σ env ∧ Post K cl W σ rel ρ H (f env st) Q
abbrev tF (K : PySem.W.Frag) (cl : Str → Option Addr) (W : WX) (f : SEnv → Store → R RV) : TE := tG K cl W (relV K) f
abbrev tB1 (K : PySem.W.Frag) (cl : Str → Option Addr) (W : WX) (f : SEnv → Store → R Bool) : TT := tG K cl W relB f
abbrev tA1 (K : PySem.W.Frag) (cl : Str → Option Addr) (W : WX) (f : SEnv → Store → R (List D)) : TA := tG K cl W (relA K) f
/-- what is new relative to a later heap is new relative to an earlier one -/
structure Back (K : PySem.W.Frag) (cl : Str → Option Addr) {α β : Type} (rel : Rel α β) : Prop where
  back : ∀ {ρ ρ1 ρ' : List Addr} {H H1 H' : Hp} {st1 : Store} {a : α} {v : β}, RS K ρ1 H1 cl st1 → Ext ρ H ρ1 H1 → rel H1 ρ' H' a v → rel H ρ' H' a v
section
variable {K : PySem.W.Frag} {cl : Str → Option Addr} {W : WX} {σ : L2.St}
theorem backV : Back K cl (relV K) := ⟨fun S x h => RRV.back S x h⟩
theorem backB : Back K cl relB := ⟨fun _ _ h => h⟩
theorem backA : Back K cl (relA K) := ⟨fun _ _ h => h⟩
theorem Post.mono {α β : Type} {rel : Rel α β} {ρ : List Addr} {H : Hp} {r : R α} {Q Q' : β → Hp → Prop} (h : Post K cl W σ rel ρ H r Q) (hq : ∀ v H', Q v H' → Q' v H') : Post K cl W σ rel ρ H r Q' := by
  cases r with
  | ok a st => exact fun ρ' H' v x S r => hq _ _ (h ρ' H' v x S r)
  | exc x st => exact h
  | bad => exact h
theorem Post.from {α β : Type} {rel : Rel α β} (hb : Back K cl rel) {ρ ρ1 : List Addr} {H H1 : Hp} {st1 : Store} {r : R α} {Q : β → Hp → Prop} (S1 : RS K ρ1 H1 cl st1) (x1 : Ext ρ H ρ1 H1) (h : Post K cl W σ rel ρ H r Q) : Post K cl W σ rel ρ1 H1 r Q := by
  cases r with
  | ok a st => exact fun ρ' H' v x S r => h ρ' H' v (x1.trans x) S (hb.back S1 x1 r)
  | exc e st => exact fun ρ' H' c d x S r => h ρ' H' c d (x1.trans x) S r
  | bad => exact h
theorem Post.bind {α β γ δ : Type} {relα : Rel α β} {relγ : Rel γ δ} (hb : Back K cl relγ) {ρ : List Addr} {H : Hp} {r : R α} {g : α → Store → R γ} {Q : δ → Hp → Prop}
    (h : Post K cl W σ relγ ρ H (r.bind g) Q) : Post K cl W σ relα ρ H r fun v H1 => ∃ ρ1 st1 a, Ext ρ H ρ1 H1 ∧ RS K ρ1 H1 cl st1 ∧ relα H ρ1 H1 a v ∧ Post K cl W σ relγ ρ1 H1 (g a st1) Q := by
  cases r with
  | ok a st1 => exact fun ρ1 H1 v x S r => ⟨ρ1, st1, a, x, S, r, Post.from hb S x h⟩
  | exc e st => exact h
  | bad => exact h
/-- the same, what follows reckoned from the start -/
theorem Post.bind0 {α β γ δ : Type} {relα : Rel α β} {relγ : Rel γ δ} {ρ : List Addr} {H : Hp} {r : R α} {g : α → Store → R γ} {Q : δ → Hp → Prop}
    (h : Post K cl W σ relγ ρ H (r.bind g) Q) : Post K cl W σ relα ρ H r fun v H1 => ∃ ρ1 st1 a, Ext ρ H ρ1 H1 ∧ RS K ρ1 H1 cl st1 ∧ relα H ρ1 H1 a v ∧ Post K cl W σ relγ ρ H (g a st1) Q := by
  cases r with
  | ok a st1 => exact fun ρ1 H1 v x S r => ⟨ρ1, st1, a, x, S, r, h⟩
  | exc e st => exact h
  | bad => exact h
end
/-- weaken a reading -/
theorem PEw {X : Cx} {e : Expr} {t t' : TE} (h : PE X e t) (w : ∀ σ H Q, t' σ H Q → t σ H Q) : PE X e t' := ⟨fun pins s σ H Q I q => h.run pins s σ H Q I (w _ _ _ q)⟩
theorem PTw {X : Cx} {e : Expr} {t t' : TT} (h : PT X e t) (w : ∀ σ H Q, t' σ H Q → t σ H Q) : PT X e t' := ⟨fun pins s σ H Q I q => h.run pins s σ H Q I (w _ _ _ q)⟩
theorem PWw {X : Cx} {e : Expr} {t t' : TT} (h : PW X e t) (w : ∀ σ H Q, t' σ H Q → t σ H Q) : PW X e t' := ⟨fun wh pins s σ H Q I q => h.run wh pins s σ H Q I (w _ _ _ q)⟩
theorem PAw {X : Cx} {e : List Expr} {t t' : TA} (h : PA X e t) (w : ∀ σ H Q, t' σ H Q → t σ H Q) : PA X e t' := ⟨fun p pins s σ H Q I q => h.run p pins s σ H Q I (w _ _ _ q)⟩
theorem PSw {X : Cx} {e : Stmt} {t t' : TS} (h : PS X e t) (w : ∀ D σ H, t' D σ H → t D σ H) : PS X e t' := ⟨fun pins s σ H D I q => h.run pins s σ H D I (w _ _ _ q)⟩
theorem PSsw {X : Cx} {e : List Stmt} {t t' : TS} (h : PSs X e t) (w : ∀ D σ H, t' D σ H → t D σ H) : PSs X e t' := ⟨fun pins s σ H D I q => h.run pins s σ H D I (w _ _ _ q)⟩

/-! ### names and constants -/
def eVar (i : Nat) : SEnv → Store → R RV := fun env st => match env[i]? with
  | some (some d) => .ok (.v d) st
  | _ => .bad
def eC (d : D) : SEnv → Store → R RV := fun _ st => .ok (.v d) st
def lift (o : Option RV) (st : Store) : R RV := match o with
  | some c => .ok c st
  | none => .bad
@[simp] theorem lift_some (c : RV) (st : Store) : lift (some c) st = .ok c st := rfl
@[simp] theorem lift_none (st : Store) : lift none st = .bad := rfl
def e1 (g : RV → Store → Option RV) (fa : SEnv → Store → R RV) : SEnv → Store → R RV := fun env st => (fa env st).bind fun a st1 => lift (g a st1) st1
def e2 (g : RV → RV → Store → Option RV) (fa fb : SEnv → Store → R RV) : SEnv → Store → R RV := fun env st => (fa env st).bind fun a st1 => (fb env st1).bind fun b st2 => lift (g a b st2) st2
def e3 (g : RV → RV → RV → Store → Option RV) (fa fb fc : SEnv → Store → R RV) : SEnv → Store → R RV := fun env st => (fa env st).bind fun a st1 => (fb env st1).bind fun b st2 => (fc env st2).bind fun c st3 => lift (g a b c st3) st3
section
variable {X : Cx} {cl : Str → Option Addr} {W : WX}
theorem de_var {i : Nat} {x : Str} {pos : Pos} (h : PE X (.Name x pos) (tVar i)) : PE X (.Name x pos) (tF X.K cl W (eVar i)) := by
  refine PEw h fun σ H Q ⟨ρ, env, st, S, E, P⟩ => ?_
  unfold eVar at P
  split at P
  · rename_i d e
    obtain ⟨v, h1, h2⟩ := E.at_ i d e
    exact ⟨v, h1, P ρ H v (Ext.refl _ _) S h2⟩
  · exact P.elim
theorem de_c {e : Expr} {v : V} {d : D} (h : PE X e (tC v)) (hd : ∀ ρ H, RD X.K ρ H d v) : PE X e (tF X.K cl W (eC d)) :=
  PEw h fun σ H Q ⟨ρ, env, st, S, E, P⟩ => P ρ H v (Ext.refl _ _) S (hd ρ H)

/-! ### operators on values -/
/-- what a primitive wants: it gives c and leaves the store -/
def Prim (K : PySem.W.Frag) (cl : Str → Option Addr) (st : Store) (ρ : List Addr) (H : Hp) (o : Option RV) (Q : VK) : Prop :=
  ∃ c, o = some c ∧ ∀ ρ' H' v, Ext ρ H ρ' H' → RS K ρ' H' cl st → RRV K ρ' H' H c v → Q v H'
theorem Post.prim {K : PySem.W.Frag} {σ : L2.St} {ρ : List Addr} {H : Hp} {o : Option RV} {st : Store} {Q : VK} (h : Post K cl W σ (relV K) ρ H (lift o st) Q) : Prim K cl st ρ H o Q := by
  cases o with
  | some c => exact ⟨c, rfl, h⟩
  | none => exact h.elim
def rP2 (K : PySem.W.Frag) (cl : Str → Option Addr) (g : RV → RV → Store → Option RV) : R2 := fun x y H Q =>
  ∃ ρ st a b H0 H1, RS K ρ H cl st ∧ RRV K ρ H H0 a x ∧ RRV K ρ H H1 b y ∧ Prim K cl st ρ H (g a b st) Q
def rP1 (K : PySem.W.Frag) (cl : Str → Option Addr) (g : RV → Store → Option RV) : V → Hp → VK → Prop := fun x H Q =>
  ∃ ρ st a H0, RS K ρ H cl st ∧ RRV K ρ H H0 a x ∧ Prim K cl st ρ H (g a st) Q
variable {a b c : Expr} {fa fb fc : SEnv → Store → R RV} {g : RV → RV → Store → Option RV} {pos : Pos}
theorem w_op2 {K : PySem.W.Frag} (σ : L2.St) (H : Hp) (Q : VK) (h : tF K cl W (e2 g fa fb) σ H Q) : tOp (rP2 K cl g) (tF K cl W fa) (tF K cl W fb) σ H Q := by
  obtain ⟨ρ, env, st, S, E, P⟩ := h
  refine ⟨ρ, env, st, S, E, (Post.bind backV P).mono ?_⟩
  rintro x H1 ⟨ρ1, st1, a, x1, S1, r1, P1⟩
  refine ⟨ρ1, env, st1, S1, E.mono (x1.mono S), (Post.bind backV P1).mono ?_⟩
  rintro y H2 ⟨ρ2, st2, b, x2, S2, r2, P2⟩
  exact ⟨ρ2, st2, a, b, H, H1, S2, RRV.ext S1 x2 r1, r2, P2.prim⟩
theorem de_op {op : Operator} (ho : OpR X (binaryOp op) (rP2 X.K cl g)) (ha : PE X a (tF X.K cl W fa)) (hb : PE X b (tF X.K cl W fb)) : PE X (.BinOp a op b pos) (tF X.K cl W (e2 g fa fb)) :=
  PEw (pe_op ho ha hb) w_op2
theorem de_cmp {op : CmpOp} (ho : OpR X (compareOp op) (rP2 X.K cl g)) (ha : PE X a (tF X.K cl W fa)) (hb : PE X b (tF X.K cl W fb)) (hm : behindInMarks op b = false) : PE X (.Compare a [op] [b] pos) (tF X.K cl W (e2 g fa fb)) :=
  PEw (pe_cmpR ho ha hb hm) w_op2
theorem w_op1 {K : PySem.W.Frag} {g : RV → Store → Option RV} (σ : L2.St) (H : Hp) (Q : VK) (h : tF K cl W (e1 g fa) σ H Q) : tUn (rP1 K cl g) (tF K cl W fa) σ H Q := by
  obtain ⟨ρ, env, st, S, E, P⟩ := h
  refine ⟨ρ, env, st, S, E, (Post.bind backV P).mono ?_⟩
  rintro x H1 ⟨ρ1, st1, a, x1, S1, r1, P1⟩
  exact ⟨ρ1, st1, a, H, S1, r1, P1.prim⟩
theorem de_un {op : UnaryOp} {g : RV → Store → Option RV} (ho : UnR X (unaryOp op) (rP1 X.K cl g)) (ha : PE X a (tF X.K cl W fa)) : PE X (.UnaryOp op a pos) (tF X.K cl W (e1 g fa)) :=
  PEw (pe_un ho ha) w_op1
end

/-! ### views of values -/
/-- a list that may be written -/
def lstM (st : Store) : RV → Option (List D)
  | .t l => some l
  | .v (.ref n) => match st[n]? with
    | some (.lst l) => some l
    | _ => none
  | _ => none
/-- a list -/
def lstV (st : Store) : RV → Option (List D)
  | .v (.rol l) => some l
  | a => lstM st a
section
variable {K : PySem.W.Frag} {cl : Str → Option Addr} {ρ : List Addr} {H H0 : Hp} {st : Store} {a : RV} {x : V} {l : List D}
theorem lstM_ok (S : RS K ρ H cl st) (r : RRV K ρ H H0 a x) (h : lstM st a = some l) : ∃ p vs, x = .ref p ∧ H p = some (.lst vs) ∧ RDs K ρ H l vs := by
  cases a with
  | t l' =>
    obtain ⟨p, vs, rfl, h1, _, _, h3⟩ := r
    cases h
    exact ⟨p, vs, rfl, h1, h3⟩
  | v d =>
    cases d with
    | ref n =>
      obtain ⟨p, rfl, hp⟩ := r
      obtain ⟨c, hc, rc⟩ := S.cell hp
      simp only [lstM, hc] at h
      cases c with
      | lst l' =>
        simp only [Option.some.injEq] at h
        subst h
        obtain ⟨vs, h1, h2⟩ := rc
        exact ⟨p, vs, rfl, h1, h2⟩
      | _ => cases h
    | _ => cases h
theorem lstV_ok (S : RS K ρ H cl st) (r : RRV K ρ H H0 a x) (h : lstV st a = some l) : ∃ p vs, x = .ref p ∧ SqL K H p vs ∧ RDs K ρ H l vs := by
  cases a with
  | t l' =>
    obtain ⟨p, vs, e, h1, h2⟩ := lstM_ok S r h
    exact ⟨p, vs, e, SqL.of h1, h2⟩
  | v d =>
    cases d with
    | rol l' =>
      obtain ⟨p, vs, rfl, h1, h2⟩ := r
      cases h
      exact ⟨p, vs, rfl, h1.sq, h2⟩
    | ref n =>
      obtain ⟨p, vs, e, h1, h2⟩ := lstM_ok S r h
      exact ⟨p, vs, e, SqL.of h1, h2⟩
    | _ => cases h
end
theorem RDs.length {K : PySem.W.Frag} {ρ : List Addr} {H : Hp} : ∀ {l : List D} {vs : List V}, RDs K ρ H l vs → l.length = vs.length
  | [], _, h => by
    have : _ = [] := h
    subst this; rfl
  | d :: l, _, h => by
    obtain ⟨v, r, rfl, _, h2⟩ := h
    rw [List.length_cons, List.length_cons, RDs.length h2]
theorem RDs.append {K : PySem.W.Frag} {ρ : List Addr} {H : Hp} : ∀ {l m : List D} {vs ws : List V}, RDs K ρ H l vs → RDs K ρ H m ws → RDs K ρ H (l ++ m) (vs ++ ws)
  | [], _, _, _, h, h' => by
    have : _ = [] := h
    subst this; exact h'
  | d :: l, _, _, _, h, h' => by
    obtain ⟨v, r, rfl, h1, h2⟩ := h
    exact ⟨v, _, rfl, h1, RDs.append h2 h'⟩
theorem RDs.get {K : PySem.W.Frag} {ρ : List Addr} {H : Hp} : ∀ {l : List D} {vs : List V} {i : Nat} {d : D}, RDs K ρ H l vs → l[i]? = some d → ∃ v, vs[i]? = some v ∧ RD K ρ H d v
  | [], _, _, _, _, e => by simp at e
  | d :: l, _, 0, _, h, e => by
    obtain ⟨v, r, rfl, h1, h2⟩ := h
    simp at e; subst e
    exact ⟨v, rfl, h1⟩
  | d :: l, _, i + 1, _, h, e => by
    obtain ⟨v, r, rfl, h1, h2⟩ := h
    obtain ⟨w, e1, e2⟩ := RDs.get (i := i) h2 (by simpa using e)
    exact ⟨w, by simpa using e1, e2⟩
theorem RDs.take {K : PySem.W.Frag} {ρ : List Addr} {H : Hp} : ∀ {l : List D} {vs : List V} (n : Nat), RDs K ρ H l vs → RDs K ρ H (l.take n) (vs.take n)
  | [], _, n, h => by
    have : _ = [] := h
    subst this; simp [RDs]
  | d :: l, _, 0, h => by simp [RDs]
  | d :: l, _, n + 1, h => by
    obtain ⟨v, r, rfl, h1, h2⟩ := h
    exact ⟨v, _, rfl, h1, RDs.take n h2⟩
theorem RDs.drop {K : PySem.W.Frag} {ρ : List Addr} {H : Hp} : ∀ {l : List D} {vs : List V} (n : Nat), RDs K ρ H l vs → RDs K ρ H (l.drop n) (vs.drop n)
  | [], _, n, h => by
    have : _ = [] := h
    subst this; simp [RDs]
  | d :: l, _, 0, h => h
  | d :: l, _, n + 1, h => by
    obtain ⟨v, r, rfl, h1, h2⟩ := h
    exact RDs.drop n h2
theorem RDs.set {K : PySem.W.Frag} {ρ : List Addr} {H : Hp} {d' : D} {v' : V} (hd : RD K ρ H d' v') : ∀ {l : List D} {vs : List V} (n : Nat), RDs K ρ H l vs → RDs K ρ H (l.set n d') (vs.set n v')
  | [], _, n, h => by
    have : _ = [] := h
    subst this; simp [RDs]
  | d :: l, _, 0, h => by
    obtain ⟨v, r, rfl, h1, h2⟩ := h
    exact ⟨v', r, rfl, hd, h2⟩
  | d :: l, _, n + 1, h => by
    obtain ⟨v, r, rfl, h1, h2⟩ := h
    exact ⟨v, _, rfl, h1, RDs.set hd n h2⟩
theorem RDs.nil_iff {K : PySem.W.Frag} {ρ : List Addr} {H : Hp} {l : List D} {vs : List V} (h : RDs K ρ H l vs) : vs = [] ↔ l = [] := by
  have e := RDs.length h
  cases l <;> cases vs <;> simp_all

/-! ### + -/
def sLine : Nat := 16777216
theorem sLine_eq : sizeLine = sLine := sizeLine_eq
def dAdd (a b : RV) (st : Store) : Option RV := match a, b with
  | .v (.int i), .v (.int j) => some (.v (.int (i + j)))
  | .v (.str s), .v (.str t) => if s.length + t.length ≤ sLine then some (.v (.str (s ++ t))) else none
  | .v (.tup s), .v (.tup t) => if s.length + t.length ≤ sLine then some (.v (.tup (s ++ t))) else none
  | a, b => match lstM st a, lstM st b with
    | some s, some t => if s.length + t.length ≤ sLine then some (.t (s ++ t)) else none
    | _, _ => none
section
variable {X : Cx} {cl : Str → Option Addr}
theorem strapp (s t : List Nat) : (⟨s.toArray⟩ : Str) ++ (⟨t.toArray⟩ : Str) = ⟨(s ++ t).toArray⟩ := by
  show (⟨s.toArray ++ t.toArray⟩ : Str) = _
  rw [List.append_toArray]
theorem strlen (s : List Nat) : (⟨s.toArray⟩ : Str).length = s.length := by
  show s.toArray.size = _
  simp
theorem opd_add : OpR X (binaryOp .Add) (rP2 X.K cl dAdd) := by
  rintro pins s σ H x y v u Q I rx ry ⟨ρ, st, a, b, H0, H1, S, ra, rb, c, hc, q⟩
  have lists : ∀ la lb, lstM st a = some la → lstM st b = some lb → (if la.length + lb.length ≤ sLine then some (RV.t (la ++ lb)) else none) = some c → wpAny (model X.prog X.w) X.A (binaryOp .Add v u) (EP X pins σ Q) X.xe s := by
    intro la lb ha hb hc
    split at hc
    · rename_i hz
      cases hc
      obtain ⟨p, vs, rfl, h1, h2⟩ := lstM_ok S ra ha
      obtain ⟨p', vs', rfl, h1', h2'⟩ := lstM_ok S rb hb
      refine op_cat pins s σ H _ _ v u Q I rx ry ⟨p, p', vs, vs', rfl, rfl, h1, h1', ?_, fun n hn => q ρ _ _ (Ext.new hn) (S.new hn) ⟨n, _, rfl, upd_same, fun z => ?_, hn, RDs.mono ((Ext.new hn).mono S) _ _ (h2.append h2')⟩⟩
      · rw [← h2.length, ← h2'.length, sLine_eq]; exact hz
      · obtain ⟨o, e, _⟩ := S.obj z
        rw [hn] at e; cases e
    · cases hc
  unfold dAdd at hc
  split at hc
  · cases hc
    cases ra; cases rb
    exact op_add pins s σ H _ _ v u Q I rx ry ⟨_, _, rfl, rfl, q ρ H _ (Ext.refl _ _) S rfl⟩
  · split at hc
    · rename_i hz
      cases hc
      cases ra; cases rb
      refine op_add_str pins s σ H _ _ v u Q I rx ry ⟨_, _, rfl, rfl, ?_, q ρ H _ (Ext.refl _ _) S ?_⟩
      · rw [strlen, strlen, sLine_eq]; exact hz
      · exact congrArg V.str (strapp _ _)
    · cases hc
  · rename_i l m
    split at hc
    · rename_i hz
      cases hc
      obtain ⟨p, vs, rfl, h1, h2⟩ := ra
      obtain ⟨p', vs', rfl, h1', h2'⟩ := rb
      refine op_catA pins s σ H _ _ v u Q I rx ry ⟨p, p', vs, vs', rfl, rfl, h1, h1', ?_, fun e => ?_, fun e1 e2 => ?_, fun e1 e2 n hn => ?_⟩
      · rw [← h2.length, ← h2'.length, sLine_eq]; exact hz
      · have : l = [] := h2.nil_iff.mp e
        subst this
        exact q ρ H _ (Ext.refl _ _) S ⟨p', vs', rfl, h1', h2'⟩
      · have : m = [] := h2'.nil_iff.mp e2
        subst this
        rw [List.append_nil] at q
        exact q ρ H _ (Ext.refl _ _) S ⟨p, vs, rfl, h1, h2⟩
      · exact q ρ _ _ (Ext.new hn) (S.new hn) ⟨n, _, rfl, SqT.of upd_same, RDs.mono ((Ext.new hn).mono S) _ _ (h2.append h2')⟩
    · cases hc
  · split at hc
    · rename_i h1 h2
      exact lists _ _ h1 h2 hc
    · cases hc
end
end Ev

/-! ## Ev3 -/
set_option Elab.async false
set_option linter.all false
set_option maxRecDepth 100000
/-! Ev3: primitives: arithmetic, comparisons, truth, places, slices. -/
namespace Ev
open PySem PySem.Spec PyProof.Rows L2
section
variable {K : PySem.W.Frag} {cl : Str → Option Addr} {st : Store} {ρ : List Addr} {H : Hp} {Q : VK}
/-- an answer that makes nothing new -/
theorem fin_v {d : D} {v : V} {o : Option RV} (S : RS K ρ H cl st) (q : Prim K cl st ρ H o Q) (e : o = some (.v d)) (r : RD K ρ H d v) : Q v H := by
  obtain ⟨c, h, q⟩ := q
  rw [h] at e
  cases e
  exact q ρ H v (Ext.refl _ _) S r
theorem fin_tup {l : List D} {vs : List V} {o : Option RV} {n : Addr} (S : RS K ρ H cl st) (q : Prim K cl st ρ H o Q) (e : o = some (.v (.tup l))) (r : RDs K ρ H l vs) (hn : H n = none) : Q (.ref n) (upd H n (.tup vs)) := by
  obtain ⟨c, h, q⟩ := q
  rw [h] at e
  cases e
  exact q ρ _ _ (Ext.new hn) (S.new hn) ⟨n, _, rfl, SqT.of upd_same, RDs.mono ((Ext.new hn).mono S) _ _ r⟩
theorem fin_lst {l : List D} {vs : List V} {o : Option RV} {n : Addr} (S : RS K ρ H cl st) (q : Prim K cl st ρ H o Q) (e : o = some (.t l)) (r : RDs K ρ H l vs) (hn : H n = none) : Q (.ref n) (upd H n (.lst vs)) := by
  obtain ⟨c, h, q⟩ := q
  rw [h] at e
  cases e
  refine q ρ _ _ (Ext.new hn) (S.new hn) ⟨n, _, rfl, upd_same, fun z => ?_, hn, RDs.mono ((Ext.new hn).mono S) _ _ r⟩
  obtain ⟨o, e, _⟩ := S.obj z
  rw [hn] at e; cases e
end
/-! ### - * // % ** -/
def dSub (a b : RV) (_ : Store) : Option RV := match a, b with
  | .v (.int i), .v (.int j) => some (.v (.int (i - j)))
  | _, _ => none
def mOk (i j : Int) : Prop := (-(2 ^ 64) < i ∧ i < 2 ^ 64) ∨ (-(2 ^ 64) < j ∧ j < 2 ^ 64)
open Classical in
noncomputable def dMul (a b : RV) (st : Store) : Option RV := match a, b with
  | .v (.int i), .v (.int j) => if mOk i j then some (.v (.int (i * j))) else none
  | _, _ => none
def dDiv (a b : RV) (_ : Store) : Option RV := match a, b with
  | .v (.int i), .v (.int j) => if 0 < j ∧ j < 1073741824 then some (.v (.int (i / j))) else none
  | _, _ => none
def dMod (a b : RV) (_ : Store) : Option RV := match a, b with
  | .v (.int i), .v (.int j) => if 0 < j then some (.v (.int (i % j))) else none
  | _, _ => none
def dPow (a b : RV) (_ : Store) : Option RV := match a, b with
  | .v (.int i), .v (.int j) => if 0 ≤ j ∧ j ≤ 1000000 ∧ i.natAbs < 2 ^ 64 then some (.v (.int (i ^ j.toNat))) else none
  | _, _ => none
def dNeg (a : RV) (_ : Store) : Option RV := match a with
  | .v (.int i) => some (.v (.int (-i)))
  | _ => none
section
variable {X : Cx} {cl : Str → Option Addr}
/-- an operator on two ints -/
theorem opd_int {f : Value → Value → Sem Value} {C : Int → Int → Prop} {h : Int → Int → V} {k : Int → Int → D} {g : RV → RV → Store → Option RV} (ho : OpR X f (rI C h)) (hk : ∀ (ρ : List Addr) (H : Hp) i j, RD X.K ρ H (k i j) (h i j))
    (hg : ∀ a b st c, g a b st = some c → ∃ i j, a = .v (.int i) ∧ b = .v (.int j) ∧ C i j ∧ c = .v (k i j)) : OpR X f (rP2 X.K cl g) := by
  rintro pins s σ H x y v u Q I rx ry ⟨ρ, st, a, b, H0, H1, S, ra, rb, c, hc, q⟩
  obtain ⟨i, j, rfl, rfl, hC, rfl⟩ := hg _ _ _ _ hc
  cases ra; cases rb
  exact ho pins s σ H _ _ v u Q I rx ry ⟨i, j, rfl, rfl, hC, q ρ H _ (Ext.refl _ _) S (hk ρ H i j)⟩
theorem opd_int0 {f : Value → Value → Sem Value} {h : Int → Int → V} {k : Int → Int → D} {g : RV → RV → Store → Option RV} (ho : OpR X f (rI0 h)) (hk : ∀ (ρ : List Addr) (H : Hp) i j, RD X.K ρ H (k i j) (h i j))
    (hg : ∀ a b st c, g a b st = some c → ∃ i j, a = .v (.int i) ∧ b = .v (.int j) ∧ c = .v (k i j)) : OpR X f (rP2 X.K cl g) :=
  opd_int (C := fun _ _ => True) (h := h) (k := k) (fun pins s σ H x y v u Q I rx ry q => by
    obtain ⟨i, j, e1, e2, _, q⟩ := q
    exact ho pins s σ H x y v u Q I rx ry ⟨i, j, e1, e2, q⟩) hk fun a b st c e => by
    obtain ⟨i, j, e1, e2, e3⟩ := hg a b st c e
    exact ⟨i, j, e1, e2, trivial, e3⟩
theorem opd_sub : OpR X (binaryOp .Sub) (rP2 X.K cl dSub) := opd_int0 (k := fun i j => .int (i - j)) op_sub (fun _ _ _ _ => rfl) fun a b st c e => by
  unfold dSub at e; split at e
  · cases e; exact ⟨_, _, rfl, rfl, rfl⟩
  · cases e
theorem opd_mul : OpR X (binaryOp .Mult) (rP2 X.K cl dMul) := opd_int (k := fun i j => .int (i * j)) op_mul (fun _ _ _ _ => rfl) fun a b st c e => by
  unfold dMul at e; split at e
  · split at e
    · rename_i hC
      cases e; exact ⟨_, _, rfl, rfl, hC, rfl⟩
    · cases e
  · cases e
theorem opd_div : OpR X (binaryOp .FloorDiv) (rP2 X.K cl dDiv) := opd_int (k := fun i j => .int (i / j)) op_fdiv (fun _ _ _ _ => rfl) fun a b st c e => by
  unfold dDiv at e; split at e
  · split at e
    · rename_i hC
      cases e; exact ⟨_, _, rfl, rfl, hC, rfl⟩
    · cases e
  · cases e
theorem opd_mod : OpR X (binaryOp .Mod) (rP2 X.K cl dMod) := opd_int (k := fun i j => .int (i % j)) op_mod (fun _ _ _ _ => rfl) fun a b st c e => by
  unfold dMod at e; split at e
  · split at e
    · rename_i hC
      cases e; exact ⟨_, _, rfl, rfl, hC, rfl⟩
    · cases e
  · cases e
theorem opd_pow : OpR X (binaryOp .Pow) (rP2 X.K cl dPow) := opd_int (k := fun i j => .int (i ^ j.toNat)) op_pow (fun _ _ _ _ => rfl) fun a b st c e => by
  unfold dPow at e; split at e
  · split at e
    · rename_i hC
      cases e; exact ⟨_, _, rfl, rfl, hC, rfl⟩
    · cases e
  · cases e
theorem und_neg : UnR X (unaryOp .USub) (rP1 X.K cl dNeg) := by
  rintro pins s σ H x v Q I rx ⟨ρ, st, a, H0, S, ra, c, hc, q⟩
  unfold dNeg at hc
  split at hc
  · cases hc; cases ra
    exact un_neg pins s σ H _ v Q I rx ⟨_, rfl, q ρ H _ (Ext.refl _ _) S rfl⟩
  · cases hc
end

/-! ### == != -/
section
variable {K : PySem.W.Frag} {ρ : List Addr} {H : Hp}
mutual
theorem dp_of : ∀ (d : D) (v : V), D.pure d = true → RD K ρ H d v → Dp K H v d.toPy
  | .non, _, _, h => by cases h; rw [D.toPy]; exact .non
  | .bl b, _, _, h => by cases h; rw [D.toPy]; exact .bl b
  | .int i, _, _, h => by cases h; rw [D.toPy]; exact .int i
  | .str s, _, _, h => by cases h; rw [D.toPy]; exact .str _
  | .tup l, _, hp, h => by
    obtain ⟨a, vs, rfl, h1, h2⟩ := h
    rw [D.toPy]
    exact .tup h1 (dps_of l vs (by simpa [D.pure] using hp) h2)
  | .rol l, _, hp, h => by
    obtain ⟨a, vs, rfl, h1, h2⟩ := h
    rw [D.toPy]
    exact .lst h1.sq (dps_of l vs (by simpa [D.pure] using hp) h2)
  | .ref n, _, hp, h => by simp [D.pure] at hp
theorem dps_of : ∀ (l : List D) (vs : List V), D.pures l = true → RDs K ρ H l vs → DpAll K H vs (D.toPys l)
  | [], _, _, h => by
    have : _ = [] := h
    subst this
    rw [D.toPys]; exact .nil
  | d :: l, _, hp, h => by
    obtain ⟨v, r, rfl, h1, h2⟩ := h
    simp only [D.pures, Bool.and_eq_true] at hp
    rw [D.toPys]
    exact .cons (dp_of d v hp.1 h1) (dps_of l r hp.2 h2)
end
end
/-- data as == sees it: a value, or a list that may be written -/
def dat (st : Store) (a : RV) : Option PyData := match a with
  | .v (.ref n) => match st[n]? with
    | some (.lst l) => if D.pures l then some (.list (D.toPys l)) else none
    | _ => none
  | .v d => if D.pure d then some d.toPy else none
  | .t l => if D.pures l then some (.list (D.toPys l)) else none
def eqB (a b : RV) (st : Store) : Option Bool := match a, b with
  | .v (.int i), .v (.int j) => some (i == j)
  | .v (.str s), .v (.str t) => some (decide (s = t))
  | .v (.bl s), .v (.bl t) => some (s == t)
  | .v .non, .v .non => some true
  | .v .non, .v (.int _) => some false
  | .v (.int _), .v .non => some false
  | .v .non, .v (.str _) => some false
  | .v (.str _), .v .non => some false
  | a, b => match dat st a, dat st b with
    | some x, some y => if SeqAt.shaped x && SeqAt.shaped y then some (PyData.eqv x y) else none
    | _, _ => none
def dEq (a b : RV) (st : Store) : Option RV := (eqB a b st).map fun k => .v (.bl k)
def dNe (a b : RV) (st : Store) : Option RV := (eqB a b st).map fun k => .v (.bl (!k))
section
variable {X : Cx} {cl : Str → Option Addr} {ρ : List Addr} {H H0 H1 : Hp} {st : Store} {a b : RV} {x y : V}
theorem dat_ok {p : PyData} (S : RS X.K ρ H cl st) (r : RRV X.K ρ H H0 a x) (h : dat st a = some p) : Dp X.K H x p := by
  unfold dat at h
  split at h
  · split at h
    · rename_i n l e
      split at h
      · rename_i hp
        cases h
        obtain ⟨a, rfl, ha⟩ := r
        obtain ⟨vs, h1, h2⟩ := S.at_ _ _ _ e ha
        exact .lst (SqL.of h1) (dps_of _ _ hp h2)
      · cases h
    · cases h
  · split at h
    · rename_i hp
      cases h
      exact dp_of _ _ hp r
    · cases h
  · split at h
    · rename_i hp
      cases h
      obtain ⟨p, vs, rfl, h1, _, _, h3⟩ := r
      exact .lst (SqL.of h1) (dps_of _ _ hp h3)
    · cases h
theorem dec_V {α : Type} [DecidableEq α] {f : α → V} (hf : ∀ a b, f a = f b → a = b) (a b : α) : decide (f a = f b) = decide (a = b) := by
  by_cases h : a = b
  · subst h; simp
  · rw [decide_eq_false h, decide_eq_false fun e => h (hf _ _ e)]
theorem eqB_ok {k : Bool} (S : RS X.K ρ H cl st) (ra : RRV X.K ρ H H0 a x) (rb : RRV X.K ρ H H1 b y) (h : eqB a b st = some k) :
    (scal x y = true ∧ decide (x = y) = k) ∨ ∃ d e, Dp X.K H x d ∧ Dp X.K H y e ∧ SeqAt.shaped d = true ∧ SeqAt.shaped e = true ∧ PyData.eqv d e = k := by
  unfold eqB at h
  split at h
  · cases h; cases ra; cases rb
    refine .inl ⟨rfl, ?_⟩
    rw [dec_V (f := V.int) (fun _ _ e => by cases e; rfl), Bool.beq_eq_decide_eq]
  · cases h; cases ra; cases rb
    refine .inl ⟨rfl, ?_⟩
    rw [dec_V (f := fun s : List Nat => V.str ⟨s.toArray⟩) (fun _ _ e => by
      injection e with e
      injection e with e
      simpa using e)]
  · cases h; cases ra; cases rb
    refine .inl ⟨rfl, ?_⟩
    rw [dec_V (f := V.bl) (fun _ _ e => by cases e; rfl), Bool.beq_eq_decide_eq]
  · cases h; cases ra; cases rb; exact .inl ⟨rfl, rfl⟩
  · cases h; cases ra; cases rb; exact .inl ⟨rfl, rfl⟩
  · cases h; cases ra; cases rb; exact .inl ⟨rfl, rfl⟩
  · cases h; cases ra; cases rb; exact .inl ⟨rfl, rfl⟩
  · cases h; cases ra; cases rb; exact .inl ⟨rfl, rfl⟩
  · split at h
    · rename_i p q h1 h2
      split at h
      · rename_i hs
        cases h
        simp only [Bool.and_eq_true] at hs
        exact .inr ⟨_, _, dat_ok S ra h1, dat_ok S rb h2, hs.1, hs.2, rfl⟩
      · cases h
    · cases h
theorem opd_eq (hu : X.A.units + 64 < cLine) : OpR X (compareOp .Eq) (rP2 X.K cl dEq) := by
  rintro pins s σ H x y v u Q I rx ry ⟨ρ, st, a, b, H0, H1, S, ra, rb, q⟩
  cases e : eqB a b st with
  | none =>
    obtain ⟨c, h, _⟩ := q
    simp [dEq, e] at h
  | some k =>
    have fin : Q (.bl k) H := fin_v (d := .bl k) S q (by simp [dEq, e]) rfl
    rcases eqB_ok S ra rb e with ⟨h1, h2⟩ | ⟨d, e', h1, h2, h3, h4, h5⟩
    · exact op_eq pins s σ H x y v u Q I rx ry ⟨h1, by rw [h2]; exact fin⟩
    · exact op_eqD hu pins s σ H x y v u Q I rx ry ⟨d, e', h1, h2, h3, h4, by rw [h5]; exact fin⟩
theorem opd_ne (hu : X.A.units + 64 < cLine) : OpR X (compareOp .NotEq) (rP2 X.K cl dNe) := by
  rintro pins s σ H x y v u Q I rx ry ⟨ρ, st, a, b, H0, H1, S, ra, rb, q⟩
  cases e : eqB a b st with
  | none =>
    obtain ⟨c, h, _⟩ := q
    simp [dNe, e] at h
  | some k =>
    have fin : Q (.bl (!k)) H := fin_v (d := .bl (!k)) S q (by simp [dNe, e]) rfl
    rcases eqB_ok S ra rb e with ⟨h1, h2⟩ | ⟨d, e', h1, h2, h3, h4, h5⟩
    · exact op_ne pins s σ H x y v u Q I rx ry ⟨h1, by rw [h2]; exact fin⟩
    · exact op_neD hu pins s σ H x y v u Q I rx ry ⟨d, e', h1, h2, h3, h4, by rw [h5]; exact fin⟩
end

/-! ### in, not in -/
def inB (a b : RV) (st : Store) : Option Bool := match a, b with
  | .v (.str [c]), .v (.str s) => some (decide (c ∈ s))
  | a, b => match dat st a, dat st b with
    | some x, some (.list ys) => if SeqAt.shaped x && SeqAt.shaped (.list ys) then some (ys.any fun z => PyData.eqv z x) else none
    | some x, some (.tuple ys) => if SeqAt.shaped x && SeqAt.shaped (.tuple ys) then some (ys.any fun z => PyData.eqv z x) else none
    | _, _ => none
def dIn (a b : RV) (st : Store) : Option RV := (inB a b st).map fun k => .v (.bl k)
def dNotIn (a b : RV) (st : Store) : Option RV := (inB a b st).map fun k => .v (.bl (!k))
section
variable {X : Cx} {cl : Str → Option Addr}
theorem inB_ok {k : Bool} {ρ : List Addr} {H H0 H1 : Hp} {st : Store} {a b : RV} {x y : V} (S : RS X.K ρ H cl st) (ra : RRV X.K ρ H H0 a x) (rb : RRV X.K ρ H H1 b y) (h : inB a b st = some k) :
    (∃ (c : Nat) (z : Str), x = .str ⟨#[c]⟩ ∧ y = .str z ∧ decide (c ∈ z.cps.toList) = k) ∨
    ∃ d ds, Dp X.K H x d ∧ SeqAt.shaped d = true ∧ (ds.any fun z => PyData.eqv z d) = k ∧ ((Dp X.K H y (.list ds) ∧ SeqAt.shaped (.list ds) = true) ∨ (Dp X.K H y (.tuple ds) ∧ SeqAt.shaped (.tuple ds) = true)) := by
  unfold inB at h
  split at h
  · rename_i c s
    cases h; cases ra; cases rb
    exact .inl ⟨c, _, rfl, rfl, rfl⟩
  · split at h
    · rename_i d ds h1 h2
      split at h
      · rename_i hs
        cases h
        simp only [Bool.and_eq_true] at hs
        exact .inr ⟨_, _, dat_ok S ra h1, hs.1, rfl, .inl ⟨dat_ok S rb h2, hs.2⟩⟩
      · cases h
    · rename_i d ds h1 h2
      split at h
      · rename_i hs
        cases h
        simp only [Bool.and_eq_true] at hs
        exact .inr ⟨_, _, dat_ok S ra h1, hs.1, rfl, .inr ⟨dat_ok S rb h2, hs.2⟩⟩
      · cases h
    · cases h
theorem opd_in (hu : X.A.units + 65 < cLine) : OpR X (compareOp .In) (rP2 X.K cl dIn) := by
  rintro pins s σ H x y v u Q I rx ry ⟨ρ, st, a, b, H0, H1, S, ra, rb, q⟩
  cases e : inB a b st with
  | none =>
    obtain ⟨c, h, _⟩ := q
    simp [dIn, e] at h
  | some k =>
    have fin : Q (.bl k) H := fin_v (d := .bl k) S q (by simp [dIn, e]) rfl
    rcases inB_ok S ra rb e with ⟨c, z, rfl, rfl, h⟩ | ⟨d, ds, h1, h2, h3, h4⟩
    · exact op_in_sign pins s σ H _ _ v u Q I rx ry ⟨c, z, rfl, rfl, by rw [h]; exact fin⟩
    · obtain ⟨as, r1⟩ := Dp.reads I d x v h1 rx
      rcases h4 with ⟨h4, h5⟩ | ⟨h4, h5⟩
      · obtain ⟨bs, r2⟩ := Dp.reads I (.list ds) y u h4 ry
        exact SeqAt.in_list_reads r2 r1 (SeqAt.canLay_of_shaped h5) (SeqAt.canLay_of_shaped h2) (room_in_shaped h2 hu) ⟨.bl _, H, I, rfl, by rw [h3]; exact fin⟩
      · obtain ⟨bs, r2⟩ := Dp.reads I (.tuple ds) y u h4 ry
        exact SeqAt.in_tuple_reads r2 r1 (SeqAt.canLay_of_shaped h5) (SeqAt.canLay_of_shaped h2) (room_in_shaped h2 hu) ⟨.bl _, H, I, rfl, by rw [h3]; exact fin⟩
theorem opd_notIn (hu : X.A.units + 65 < cLine) : OpR X (compareOp .NotIn) (rP2 X.K cl dNotIn) := by
  rintro pins s σ H x y v u Q I rx ry ⟨ρ, st, a, b, H0, H1, S, ra, rb, q⟩
  cases e : inB a b st with
  | none =>
    obtain ⟨c, h, _⟩ := q
    simp [dNotIn, e] at h
  | some k =>
    have fin : Q (.bl (!k)) H := fin_v (d := .bl (!k)) S q (by simp [dNotIn, e]) rfl
    rcases inB_ok S ra rb e with ⟨c, z, rfl, rfl, h⟩ | ⟨d, ds, h1, h2, h3, h4⟩
    · exact op_notIn_sign pins s σ H _ _ v u Q I rx ry ⟨c, z, rfl, rfl, by rw [h]; exact fin⟩
    · obtain ⟨as, r1⟩ := Dp.reads I d x v h1 rx
      rcases h4 with ⟨h4, h5⟩ | ⟨h4, h5⟩
      · obtain ⟨bs, r2⟩ := Dp.reads I (.list ds) y u h4 ry
        exact SeqAt.notIn_list_reads r2 r1 (SeqAt.canLay_of_shaped h5) (SeqAt.canLay_of_shaped h2) (room_in_shaped h2 hu) ⟨.bl _, H, I, rfl, by rw [h3]; exact fin⟩
      · obtain ⟨bs, r2⟩ := Dp.reads I (.tuple ds) y u h4 ry
        exact SeqAt.notIn_tuple_reads r2 r1 (SeqAt.canLay_of_shaped h5) (SeqAt.canLay_of_shaped h2) (room_in_shaped h2 hu) ⟨.bl _, H, I, rfl, by rw [h3]; exact fin⟩
end

/-! ### < <= > >= -/
def strLt (s t : List Nat) : Bool := decide (s < t)
def dLt (a b : RV) (_ : Store) : Option RV := match a, b with
  | .v (.int i), .v (.int j) => some (.v (.bl (decide (i < j))))
  | .v (.str s), .v (.str t) => some (.v (.bl (strLt s t)))
  | _, _ => none
def dLe (a b : RV) (_ : Store) : Option RV := match a, b with
  | .v (.int i), .v (.int j) => some (.v (.bl (decide (i ≤ j))))
  | .v (.str s), .v (.str t) => some (.v (.bl (!strLt t s)))
  | _, _ => none
def dGt (a b : RV) (_ : Store) : Option RV := match a, b with
  | .v (.int i), .v (.int j) => some (.v (.bl (decide (j < i))))
  | .v (.str s), .v (.str t) => some (.v (.bl (strLt t s)))
  | _, _ => none
def dGe (a b : RV) (_ : Store) : Option RV := match a, b with
  | .v (.int i), .v (.int j) => some (.v (.bl (decide (j ≤ i))))
  | .v (.str s), .v (.str t) => some (.v (.bl (!strLt s t)))
  | _, _ => none
section
variable {X : Cx} {cl : Str → Option Addr}
theorem opd_lt : OpR X (compareOp .Lt) (rP2 X.K cl dLt) := by
  rintro pins s σ H x y v u Q I rx ry ⟨ρ, st, a, b, H0, H1, S, ra, rb, c, hc, q⟩
  unfold dLt at hc
  split at hc
  · cases hc; cases ra; cases rb
    exact op_lt pins s σ H _ _ v u Q I rx ry ⟨_, _, rfl, rfl, q ρ H _ (Ext.refl _ _) S rfl⟩
  · cases hc; cases ra; cases rb
    exact op_lt_str pins s σ H _ _ v u Q I rx ry ⟨_, _, rfl, rfl, q ρ H _ (Ext.refl _ _) S rfl⟩
  · cases hc
theorem opd_le : OpR X (compareOp .LtE) (rP2 X.K cl dLe) := by
  rintro pins s σ H x y v u Q I rx ry ⟨ρ, st, a, b, H0, H1, S, ra, rb, c, hc, q⟩
  unfold dLe at hc
  split at hc
  · cases hc; cases ra; cases rb
    exact op_le pins s σ H _ _ v u Q I rx ry ⟨_, _, rfl, rfl, q ρ H _ (Ext.refl _ _) S rfl⟩
  · cases hc; cases ra; cases rb
    exact op_le_str pins s σ H _ _ v u Q I rx ry ⟨_, _, rfl, rfl, q ρ H _ (Ext.refl _ _) S rfl⟩
  · cases hc
theorem opd_gt : OpR X (compareOp .Gt) (rP2 X.K cl dGt) := by
  rintro pins s σ H x y v u Q I rx ry ⟨ρ, st, a, b, H0, H1, S, ra, rb, c, hc, q⟩
  unfold dGt at hc
  split at hc
  · cases hc; cases ra; cases rb
    exact op_gt pins s σ H _ _ v u Q I rx ry ⟨_, _, rfl, rfl, q ρ H _ (Ext.refl _ _) S rfl⟩
  · cases hc; cases ra; cases rb
    exact op_gt_str pins s σ H _ _ v u Q I rx ry ⟨_, _, rfl, rfl, q ρ H _ (Ext.refl _ _) S rfl⟩
  · cases hc
theorem opd_ge : OpR X (compareOp .GtE) (rP2 X.K cl dGe) := by
  rintro pins s σ H x y v u Q I rx ry ⟨ρ, st, a, b, H0, H1, S, ra, rb, c, hc, q⟩
  unfold dGe at hc
  split at hc
  · cases hc; cases ra; cases rb
    exact op_ge pins s σ H _ _ v u Q I rx ry ⟨_, _, rfl, rfl, q ρ H _ (Ext.refl _ _) S rfl⟩
  · cases hc; cases ra; cases rb
    exact op_ge_str pins s σ H _ _ v u Q I rx ry ⟨_, _, rfl, rfl, q ρ H _ (Ext.refl _ _) S rfl⟩
  · cases hc
end

/-! ### is None -/
def dIsN (a b : RV) (_ : Store) : Option RV := match a, b with
  | .v .non, .v .non => some (.v (.bl true))
  | _, .v .non => some (.v (.bl false))
  | .v (.bl i), .v (.bl j) => some (.v (.bl (decide (i = j))))
  | _, _ => none
def dNotN (a b : RV) (_ : Store) : Option RV := match a, b with
  | .v .non, .v .non => some (.v (.bl false))
  | _, .v .non => some (.v (.bl true))
  | .v (.bl i), .v (.bl j) => some (.v (.bl (!decide (i = j))))
  | _, _ => none
section
variable {X : Cx} {cl : Str → Option Addr}
theorem isN_ok {K : PySem.W.Frag} {ρ : List Addr} {H H0 : Hp} {a : RV} {x : V} (r : RRV K ρ H H0 a x) : decide (x = .non) = match a with
  | .v .non => true
  | _ => false := by
  cases a with
  | t l => obtain ⟨p, vs, rfl, _⟩ := r; rfl
  | v d =>
    cases d with
    | non => cases r; rfl
    | bl b => cases r; rfl
    | int b => cases r; rfl
    | str b => cases r; rfl
    | tup l => obtain ⟨a, vs, rfl, _⟩ := r; rfl
    | rol l => obtain ⟨a, vs, rfl, _⟩ := r; rfl
    | ref l => obtain ⟨a, rfl, _⟩ := r; rfl
theorem opd_isN : OpR X (compareOp .Is) (rP2 X.K cl dIsN) := by
  rintro pins s σ H x y v u Q I rx ry ⟨ρ, st, a, b, H0, H1, S, ra, rb, c, hc, q⟩
  have e := isN_ok ra
  unfold dIsN at hc
  split at hc
  · cases hc; cases rb
    exact op_isN pins s σ H _ _ v u Q I rx ry ⟨rfl, by rw [e]; exact q ρ H _ (Ext.refl _ _) S rfl⟩
  · rename_i h
    cases hc; cases rb
    refine op_isN pins s σ H _ _ v u Q I rx ry ⟨rfl, ?_⟩
    have e2 : decide (x = .non) = false := by
      rw [e]
      split
      · exact absurd rfl h
      · rfl
    rw [e2]
    exact q ρ H _ (Ext.refl _ _) S rfl
  · cases hc; cases ra; cases rb
    exact op_isBl pins s σ H _ _ v u Q I rx ry ⟨_, _, rfl, rfl, q ρ H _ (Ext.refl _ _) S rfl⟩
  · cases hc
theorem opd_notN : OpR X (compareOp .IsNot) (rP2 X.K cl dNotN) := by
  rintro pins s σ H x y v u Q I rx ry ⟨ρ, st, a, b, H0, H1, S, ra, rb, c, hc, q⟩
  have e := isN_ok ra
  unfold dNotN at hc
  split at hc
  · cases hc; cases rb
    exact op_notN pins s σ H _ _ v u Q I rx ry ⟨rfl, by rw [e]; exact q ρ H _ (Ext.refl _ _) S rfl⟩
  · rename_i h
    cases hc; cases rb
    refine op_notN pins s σ H _ _ v u Q I rx ry ⟨rfl, ?_⟩
    have e2 : decide (x = .non) = false := by
      rw [e]
      split
      · exact absurd rfl h
      · rfl
    rw [e2]
    exact q ρ H _ (Ext.refl _ _) S rfl
  · cases hc; cases ra; cases rb
    exact op_notBl pins s σ H _ _ v u Q I rx ry ⟨_, _, rfl, rfl, q ρ H _ (Ext.refl _ _) S rfl⟩
  · cases hc
end
end Ev

/-! ## Ev4 -/
set_option Elab.async false
set_option linter.all false
set_option maxRecDepth 100000
/-! Ev4: arguments, displays, places, slices, truth. -/
namespace Ev
open PySem PySem.Spec PyProof.Rows L2

/-! ### arguments -/
def aNil : SEnv → Store → R (List D) := fun _ st => .ok [] st
def aCons (fa : SEnv → Store → R RV) (fr : SEnv → Store → R (List D)) : SEnv → Store → R (List D) := fun env st =>
  (fa env st).bind fun a st1 => (mat a st1).bind fun d st2 => (fr env st2).bind fun ds st3 => .ok (d :: ds) st3
/-- arguments of a built-in: new lists stay new -/
def bNil : SEnv → Store → R (List RV) := fun _ st => .ok [] st
def bCons (fa : SEnv → Store → R RV) (fr : SEnv → Store → R (List RV)) : SEnv → Store → R (List RV) := fun env st =>
  (fa env st).bind fun a st1 => (fr env st1).bind fun as st2 => .ok (a :: as) st2
def RRVs (K : PySem.W.Frag) (ρ : List Addr) (H H0 : Hp) : List RV → List V → Prop
  | [], vs => vs = []
  | a :: l, vs => ∃ v r, vs = v :: r ∧ RRV K ρ H H0 a v ∧ RRVs K ρ H H0 l r
def relR (K : PySem.W.Frag) : Rel (List RV) (List V) := fun H0 ρ H l vs => RRVs K ρ H H0 l vs
section
variable {K : PySem.W.Frag} {cl : Str → Option Addr} {ρ ρ' : List Addr} {H H' H0 : Hp} {st : Store}
theorem RRVs.ext (S : RS K ρ H cl st) (x : Ext ρ H ρ' H') : ∀ {l : List RV} {vs : List V}, RRVs K ρ H H0 l vs → RRVs K ρ' H' H0 l vs
  | [], _, h => h
  | a :: l, _, h => by
    obtain ⟨v, r, rfl, h1, h2⟩ := h
    exact ⟨v, r, rfl, RRV.ext S x h1, RRVs.ext S x h2⟩
theorem RRVs.back {ρ1 : List Addr} {H1 : Hp} (S1 : RS K ρ1 H1 cl st) (x : Ext ρ H ρ1 H1) : ∀ {l : List RV} {vs : List V}, RRVs K ρ' H' H1 l vs → RRVs K ρ' H' H l vs
  | [], _, h => h
  | a :: l, _, h => by
    obtain ⟨v, r, rfl, h1, h2⟩ := h
    exact ⟨v, r, rfl, RRV.back S1 x h1, RRVs.back S1 x h2⟩
theorem backR : Back K cl (relR K) := ⟨fun S x h => RRVs.back S x h⟩
end
section
variable {X : Cx} {cl : Str → Option Addr} {W : WX} {e : Expr} {es : List Expr} {fa : SEnv → Store → R RV} {fr : SEnv → Store → R (List D)} {gr : SEnv → Store → R (List RV)} {pos : Pos}
theorem da_nil : PA X [] (tA1 X.K cl W aNil) := PAw pa_nil fun σ H Q ⟨ρ, env, st, S, E, P⟩ => P ρ H [] (Ext.refl _ _) S rfl
theorem db_nil : PA X [] (tG X.K cl W (relR X.K) bNil) := PAw pa_nil fun σ H Q ⟨ρ, env, st, S, E, P⟩ => P ρ H [] (Ext.refl _ _) S rfl
theorem da_cons (ha : PE X e (tF X.K cl W fa)) (hr : PA X es (tA1 X.K cl W fr)) (hs : starEach (e :: es) X.env = (false, eval e X.env) :: starEach es X.env) : PA X (e :: es) (tA1 X.K cl W (aCons fa fr)) := by
  refine PAw (pa_cons ha hr hs) fun σ H Q ⟨ρ, env, st, S, E, P⟩ => ?_
  refine ⟨ρ, env, st, S, E, (Post.bind0 P).mono ?_⟩
  rintro x H1 ⟨ρ1, st1, a, x1, S1, r1, P1⟩
  obtain ⟨d, st2, ρ2, e2, x2, S2, r2, m2⟩ := mat_ok S1 x1 r1
  rw [e2, R.bind_ok] at P1
  refine ⟨ρ2, env, st2, S2, (E.mono (x1.mono S)).mono m2, (Post.bind0 (relα := relA X.K) (Post.from backA S2 x2 P1)).mono ?_⟩
  rintro xs H3 ⟨ρ3, st3, ds, x3, S3, r3, P3⟩
  exact P3 ρ3 H3 (x :: xs) x3 S3 ⟨x, xs, rfl, RD.mono (x3.mono S2) _ _ r2, r3⟩
theorem db_cons (ha : PE X e (tF X.K cl W fa)) (hr : PA X es (tG X.K cl W (relR X.K) gr)) (hs : starEach (e :: es) X.env = (false, eval e X.env) :: starEach es X.env) : PA X (e :: es) (tG X.K cl W (relR X.K) (bCons fa gr)) := by
  refine PAw (pa_cons ha hr hs) fun σ H Q ⟨ρ, env, st, S, E, P⟩ => ?_
  refine ⟨ρ, env, st, S, E, (Post.bind0 P).mono ?_⟩
  rintro x H1 ⟨ρ1, st1, a, x1, S1, r1, P1⟩
  refine ⟨ρ1, env, st1, S1, E.mono (x1.mono S), ?_⟩
  cases hg : gr env st1 with
  | ok as st2 =>
    rw [hg] at P1
    intro ρ2 H2 xs x2 S2 r2
    exact P1 ρ2 H2 (x :: xs) (x1.trans x2) S2 ⟨x, xs, rfl, RRV.ext S1 x2 r1, RRVs.back S1 x1 r2⟩
  | exc x' st2 =>
    rw [hg] at P1
    exact fun ρ2 H2 c d x2 S2 r2 => P1 ρ2 H2 c d (x1.trans x2) S2 r2
  | bad =>
    rw [hg] at P1
    exact P1
/-! ### displays -/
def eTup (fr : SEnv → Store → R (List D)) : SEnv → Store → R RV := fun env st => (fr env st).bind fun ds st1 => if ds.length ≤ sLine then .ok (.v (.tup ds)) st1 else .bad
def eLst (fr : SEnv → Store → R (List D)) : SEnv → Store → R RV := fun env st => (fr env st).bind fun ds st1 => if ds.length ≤ sLine then .ok (.t ds) st1 else .bad
theorem de_tup {x1} (h : PA X es (tA1 X.K cl W fr)) : PE X (.Tuple es x1 pos) (tF X.K cl W (eTup fr)) := by
  refine PEw (pe_tup h) fun σ H Q ⟨ρ, env, st, S, E, P⟩ => ?_
  refine ⟨ρ, env, st, S, E, (Post.bind backV P).mono ?_⟩
  rintro xs H1 ⟨ρ1, st1, ds, x1, S1, r1, P1⟩
  split at P1
  · rename_i hz
    refine ⟨by rw [← RDs.length r1, sLine_eq]; exact hz, fun p hp => ?_⟩
    exact P1 ρ1 _ _ (Ext.new hp) (S1.new hp) ⟨p, xs, rfl, SqT.of upd_same, RDs.mono ((Ext.new hp).mono S1) _ _ r1⟩
  · exact P1.elim
theorem de_lst (h : PA X es (tA1 X.K cl W fr)) : PE X (.List es pos) (tF X.K cl W (eLst fr)) := by
  refine PEw (pe_lst h) fun σ H Q ⟨ρ, env, st, S, E, P⟩ => ?_
  refine ⟨ρ, env, st, S, E, (Post.bind backV P).mono ?_⟩
  rintro xs H1 ⟨ρ1, st1, ds, x1, S1, r1, P1⟩
  split at P1
  · rename_i hz
    refine ⟨by rw [← RDs.length r1, sLine_eq]; exact hz, fun p hp => ?_⟩
    refine P1 ρ1 _ _ (Ext.new hp) (S1.new hp) ⟨p, xs, rfl, upd_same, fun z => ?_, hp, RDs.mono ((Ext.new hp).mono S1) _ _ r1⟩
    obtain ⟨o, e, _⟩ := S1.obj z
    rw [hp] at e; cases e
  · exact P1.elim
end

/-! ### places -/
def dIx (a b : RV) (st : Store) : Option RV := match b with
  | .v (.int i) => match a with
    | .v (.tup l) => (atI l i).map .v
    | .v (.str s) => if s.length ≤ sLine then (atI s i).map fun c => .v (.str [c]) else none
    | a => match lstV st a with
      | some l => (atI l i).map .v
      | none => none
  | _ => none
theorem atI_rds {K : PySem.W.Frag} {ρ : List Addr} {H : Hp} {l : List D} {vs : List V} {i : Int} {d : D} (r : RDs K ρ H l vs) (h : atI l i = some d) : ∃ v, atI vs i = some v ∧ RD K ρ H d v := by
  unfold atI at h ⊢
  rw [← r.length]
  cases e : ixN l.length i with
  | none => rw [e] at h; cases h
  | some j =>
    rw [e] at h
    exact r.get h
section
variable {X : Cx} {cl : Str → Option Addr} {W : WX} {a b : Expr} {fa fb : SEnv → Store → R RV} {pos : Pos}
theorem ixd : IxR X (rP2 X.K cl dIx) := by
  rintro value slice pins s σ H x y v u Q I rx ry ⟨ρ, st, a, b, H0, H1, S, ra, rb, q⟩ hs
  have hq : ∃ c, dIx a b st = some c := ⟨_, q.choose_spec.1⟩
  obtain ⟨c, hc⟩ := hq
  cases b with
  | t l => simp [dIx] at hc
  | v d =>
    cases d with
    | int i =>
      cases rb
      have lists : ∀ l, lstV st a = some l → (atI l i).map RV.v = some c → wpAny (model X.prog X.w) X.A (subscriptTail value slice v u) (EP X pins σ Q) X.xe s := by
        intro l hl hc'
        obtain ⟨p, vs, rfl, h1, h2⟩ := lstV_ok S ra hl
        cases e : atI l i with
        | none => rw [e] at hc'; cases hc'
        | some d =>
          rw [e] at hc'
          cases hc'
          obtain ⟨w, hw, rw'⟩ := atI_rds h2 e
          exact ix_list value slice pins s σ H _ _ v u Q I rx ry ⟨p, vs, i, w, rfl, rfl, h1, hw, fin_v S q hc rw'⟩ hs
      cases a with
      | t l => exact lists l rfl hc
      | v d =>
        cases d with
        | tup l =>
          obtain ⟨p, vs, rfl, h1, h2⟩ := ra
          cases e : atI l i with
          | none => simp [dIx, e] at hc
          | some d =>
            obtain ⟨w, hw, rw'⟩ := atI_rds h2 e
            exact ix_tup value slice pins s σ H _ _ v u Q I rx ry ⟨p, vs, i, w, rfl, rfl, h1, hw, fin_v S q (by simp [dIx, e]) rw'⟩ hs
        | str z =>
          cases ra
          simp only [dIx] at hc
          split at hc
          · rename_i hz
            cases e : atI z i with
            | none => rw [e] at hc; cases hc
            | some ch => exact ix_str value slice pins s σ H _ _ v u Q I rx ry ⟨_, i, ch, rfl, rfl, by rw [strlen, sLine_eq]; exact hz, by simpa using e, fin_v (d := .str [ch]) S q (by simp [dIx, e, hz]) rfl⟩ hs
          · cases hc
        | ref n =>
          have hc2 := hc
          simp only [dIx] at hc2
          cases e : lstV st (.v (.ref n)) with
          | none => rw [e] at hc2; cases hc2
          | some l => rw [e] at hc2; exact lists l e hc2
        | rol l => exact lists l rfl hc
        | _ => simp [dIx, lstV, lstM] at hc
    | _ => simp [dIx] at hc
theorem de_ix (ha : PE X a (tF X.K cl W fa)) (hb : PE X b (tF X.K cl W fb)) (hs : PlainIx b) : PE X (.Subscript a b pos) (tF X.K cl W (e2 dIx fa fb)) := PEw (pe_ix ixd ha hb hs) w_op2
end

/-! ### slices -/
def sPart : Option (SEnv → Store → R RV) → SEnv → Store → R (Option Int)
  | none => fun _ st => .ok none st
  | some f => fun env st => (f env st).bind fun a st1 => match a with
    | .v (.int i) => .ok (some i) st1
    | _ => .bad
def relO : Rel (Option Int) (Option Int) := fun _ _ _ a b => a = b
def cut {α : Type} (l : List α) (lo hi : Option Int) : List α := (l.drop (HT.sIx l.length 0 lo)).take (HT.sIx l.length l.length hi - HT.sIx l.length 0 lo)
def dSl (a : RV) (lo hi : Option Int) (st : Store) : Option RV := match a with
  | .v (.tup l) => some (.v (.tup (cut l lo hi)))
  | .v (.str s) => if s.length ≤ sLine then some (.v (.str (cut s lo hi))) else none
  | a => match lstV st a with
    | some l => some (.t (cut l lo hi))
    | none => none
def eSl (fa : SEnv → Store → R RV) (lo hi : Option (SEnv → Store → R RV)) : SEnv → Store → R RV := fun env st =>
  (fa env st).bind fun a st1 => (sPart lo env st1).bind fun l st2 => (sPart hi env st2).bind fun u st3 => lift (dSl a l u st3) st3
theorem RDs.cut {K : PySem.W.Frag} {ρ : List Addr} {H : Hp} {l : List D} {vs : List V} {lo hi : Option Int} (r : RDs K ρ H l vs) : RDs K ρ H (cut l lo hi) (cutV vs lo hi) := by
  unfold Ev.cut cutV
  rw [r.length]
  exact RDs.take _ (RDs.drop _ r)
theorem cut_whole {α : Type} {l : List α} {lo hi : Option Int} (h : HT.sIx l.length 0 lo = 0 ∧ HT.sIx l.length l.length hi = l.length) : cut l lo hi = l := by
  unfold cut
  rw [h.1, h.2]
  simp
section
variable {X : Cx} {cl : Str → Option Addr} {W : WX} {a : Expr} {fa : SEnv → Store → R RV} {pos p2 : Pos}
theorem dpo_none : PO X none (tG X.K cl W relO (sPart none)) := ⟨fun pins s σ H Q I ⟨ρ, env, st, S, E, P⟩ => (po_none (X := X)).run pins s σ H Q I (P ρ H none (Ext.refl _ _) S rfl)⟩
theorem dpo_some {e : Expr} {f : SEnv → Store → R RV} (h : PE X e (tF X.K cl W f)) : PO X (some e) (tG X.K cl W relO (sPart (some f))) := by
  refine ⟨fun pins s σ H Q I ⟨ρ, env, st, S, E, P⟩ => (po_some h).run pins s σ H Q I ⟨ρ, env, st, S, E, (Post.bind0 P).mono ?_⟩⟩
  rintro x H1 ⟨ρ1, st1, a, x1, S1, r1, P1⟩
  split at P1
  · cases r1
    exact ⟨_, rfl, P1 ρ1 H1 _ x1 S1 rfl⟩
  · exact P1.elim
def rPS (K : PySem.W.Frag) (cl : Str → Option Addr) : V → Option Int → Option Int → Hp → VK → Prop := fun x lo hi H Q =>
  ∃ ρ st a H0, RS K ρ H cl st ∧ RRV K ρ H H0 a x ∧ Prim K cl st ρ H (dSl a lo hi st) Q
theorem sld : SlR X (rPS X.K cl) := by
  rintro pins s σ H x v vl vu lo hi sl Q I rx hs pl pu ⟨ρ, st, a, H0, S, ra, q⟩
  have hq : ∃ c, dSl a lo hi st = some c := ⟨_, q.choose_spec.1⟩
  obtain ⟨c, hc⟩ := hq
  have lists : ∀ l, lstV st a = some l → dSl a lo hi st = some (.t (cut l lo hi)) → ∃ T id, typeLookup (.type T) "__getitem__" = pure (some (.builtin id)) ∧ s.TypeIs v T ∧ wpAny (model X.prog X.w) X.A (getItem v (.ref sl)) (EP X pins σ Q) X.xe s := by
    intro l hl e
    obtain ⟨p, vs, rfl, h1, h2⟩ := lstV_ok S ra hl
    exact sl_list pins s σ H _ v vl vu lo hi sl Q I rx hs pl pu ⟨p, vs, rfl, h1, fun n hn => fin_lst S q e h2.cut hn⟩
  cases a with
  | t l => exact lists l rfl rfl
  | v d =>
    cases d with
    | tup l =>
      obtain ⟨p, vs, rfl, h1, h2⟩ := ra
      refine sl_tupA pins s σ H _ v vl vu lo hi sl Q I rx hs pl pu ⟨p, vs, rfl, h1, fun hw => ?_, fun hw n hn => fin_tup S q rfl h2.cut hn⟩
      refine fin_v S q rfl ⟨p, vs, rfl, h1, ?_⟩
      rw [cut_whole (by rw [h2.length]; exact hw)]
      exact h2
    | str z =>
      cases ra
      simp only [dSl] at hc
      split at hc
      · rename_i hz
        refine sl_str pins s σ H _ v vl vu lo hi sl Q I rx hs pl pu ⟨_, rfl, by rw [strlen, sLine_eq]; exact hz, fin_v (d := .str (cut z lo hi)) S q (by simp [dSl, hz]) ?_⟩
        unfold cutS Ev.cut
        rw [strlen]
        rfl
      · cases hc
    | ref n =>
      have hc2 := hc
      simp only [dSl] at hc2
      cases e : lstV st (.v (.ref n)) with
      | none => rw [e] at hc2; cases hc2
      | some l => exact lists l e (by simp [dSl, e])
    | rol l => exact lists l rfl rfl
    | _ => simp [dSl, lstV, lstM] at hc
theorem de_sl {lo hi : Option Expr} {flo fhi : Option (SEnv → Store → R RV)} (ha : PE X a (tF X.K cl W fa)) (hl : PO X lo (tG X.K cl W relO (sPart flo))) (hh : PO X hi (tG X.K cl W relO (sPart fhi))) :
    PE X (.Subscript a (.Slice lo hi none p2) pos) (tF X.K cl W (eSl fa flo fhi)) := by
  refine PEw (pe_slice (sld (cl := cl)) ha hl hh) fun σ H Q ⟨ρ, env, st, S, E, P⟩ => ?_
  refine ⟨ρ, env, st, S, E, (Post.bind backV P).mono ?_⟩
  rintro x H1 ⟨ρ1, st1, a, x1, S1, r1, P1⟩
  have E1 := E.mono (x1.mono S)
  refine ⟨ρ1, env, st1, S1, E1, (Post.bind (relα := relO) backV P1).mono ?_⟩
  rintro l H2 ⟨ρ2, st2, l', x2, S2, rfl, P2⟩
  refine ⟨ρ2, env, st2, S2, E1.mono (x2.mono S1), (Post.bind (relα := relO) backV P2).mono ?_⟩
  rintro u H3 ⟨ρ3, st3, u', x3, S3, rfl, P3⟩
  exact ⟨ρ3, st3, a, H, S3, RRV.ext S2 x3 (RRV.ext S1 x2 r1), P3.prim⟩
end

/-! ### truth -/
def dTru (a : RV) (st : Store) : Option Bool := match a with
  | .v .non => some false
  | .v (.bl b) => some b
  | .v (.int i) => some (i != 0)
  | .v (.str s) => if s.length ≤ sLine then some (!s.isEmpty) else none
  | .v (.tup l) => some (!l.isEmpty)
  | a => match lstV st a with
    | some l => some (!l.isEmpty)
    | none => none
def eTru (fa : SEnv → Store → R RV) : SEnv → Store → R Bool := fun env st => (fa env st).bind fun a st1 => match dTru a st1 with
  | some b => .ok b st1
  | none => .bad
theorem empty_rds {K : PySem.W.Frag} {ρ : List Addr} {H : Hp} {l : List D} {vs : List V} (r : RDs K ρ H l vs) : (!l.isEmpty) = !vs.isEmpty := by
  have := r.length
  cases l <;> cases vs <;> simp_all
section
variable {X : Cx} {cl : Str → Option Addr} {W : WX} {a : Expr} {fa : SEnv → Store → R RV}
theorem tru_d {K : PySem.W.Frag} {ρ : List Addr} {H H0 : Hp} {st : Store} {a : RV} {x : V} {b : Bool} (S : RS K ρ H cl st) (r : RRV K ρ H H0 a x) (h : dTru a st = some b) : TruV K x H b := by
  have lists : ∀ l, lstV st a = some l → b = (!l.isEmpty) → TruV K x H b := by
    intro l hl e
    obtain ⟨p, vs, rfl, h1, h2⟩ := lstV_ok S r hl
    exact .inl ⟨vs, h1, by rw [e, empty_rds h2]⟩
  cases a with
  | t l => exact lists l rfl (Option.some.inj h).symm
  | v d =>
    cases d with
    | non => cases r; exact (Option.some.inj h).symm
    | bl _ => cases r; exact (Option.some.inj h).symm
    | int _ => cases r; exact (Option.some.inj h).symm
    | str z =>
      cases r
      simp only [dTru] at h
      split at h
      · rename_i hz
        cases h
        refine ⟨by rw [strlen, sLine_eq]; exact hz, ?_⟩
        rw [strlen]
        cases z <;> simp
        omega
      · cases h
    | tup l =>
      obtain ⟨p, vs, rfl, h1, h2⟩ := r
      exact .inr (.inl ⟨vs, h1, by rw [← empty_rds h2]; exact (Option.some.inj h).symm⟩)
    | rol l => exact lists l rfl (Option.some.inj h).symm
    | ref n =>
      simp only [dTru] at h
      cases e : lstV st (.v (.ref n)) with
      | none => rw [e] at h; cases h
      | some l => rw [e] at h; exact lists l e (Option.some.inj h).symm
theorem dt_truth (ha : PE X a (tF X.K cl W fa)) (he : ∀ whole, isTrue a X.env whole = (do let v ← whole; standAt a.pos; holding [v] (truthy v))) : PT X a (tB1 X.K cl W (eTru fa)) := by
  refine PTw (pt_truth ha he) fun σ H Q ⟨ρ, env, st, S, E, P⟩ => ?_
  refine ⟨ρ, env, st, S, E, (Post.bind backB P).mono ?_⟩
  rintro x H1 ⟨ρ1, st1, a, x1, S1, r1, P1⟩
  cases e : dTru a st1 with
  | none => rw [e] at P1; exact P1.elim
  | some b =>
    rw [e] at P1
    exact ⟨b, tru_d S1 r1 e, P1 ρ1 H1 b (Ext.refl _ _) S1 rfl⟩
/-- a comparison as a test -/
def eBool (fa : SEnv → Store → R RV) : SEnv → Store → R Bool := fun env st => (fa env st).bind fun a st1 => match a with
  | .v (.bl b) => .ok b st1
  | _ => .bad
theorem w_bool {K : PySem.W.Frag} {t : TE} (ht : ∀ σ H Q, tF K cl W fa σ H Q → t σ H Q) (σ : L2.St) (H : Hp) (Q : Bool → Hp → Prop) (h : tB1 K cl W (eBool fa) σ H Q) : tTest t σ H Q := by
  obtain ⟨ρ, env, st, S, E, P⟩ := h
  refine ht σ H _ ⟨ρ, env, st, S, E, (Post.bind backB P).mono ?_⟩
  rintro x H1 ⟨ρ1, st1, a, x1, S1, r1, P1⟩
  split at P1
  · cases r1
    exact ⟨_, rfl, P1 ρ1 H1 _ (Ext.refl _ _) S1 rfl⟩
  · exact P1.elim
theorem dt_cmp {op : CmpOp} {b : Expr} {fb : SEnv → Store → R RV} {g : RV → RV → Store → Option RV} {pos : Pos} (ho : OpR X (compareOp op) (rP2 X.K cl g)) (ha : PE X a (tF X.K cl W fa)) (hb : PE X b (tF X.K cl W fb)) (hm : behindInMarks op b = false) : PT X (.Compare a [op] [b] pos) (tB1 X.K cl W (eBool (e2 g fa fb))) :=
  PTw (pt_cmpR ho ha hb hm) (w_bool w_op2)
/-! ### and, or, not, if -/
variable {b : Expr} {rest : List Expr} {ga gb : SEnv → Store → R Bool} {pos : Pos}
def tNotB (ga : SEnv → Store → R Bool) : SEnv → Store → R Bool := fun env st => (ga env st).bind fun c st1 => .ok (!c) st1
def tAndB (ga gb : SEnv → Store → R Bool) : SEnv → Store → R Bool := fun env st => (ga env st).bind fun c st1 => if c = true then gb env st1 else .ok false st1
def tOrB (ga gb : SEnv → Store → R Bool) : SEnv → Store → R Bool := fun env st => (ga env st).bind fun c st1 => if c = true then .ok true st1 else gb env st1
theorem dt_not (ha : PT X a (tB1 X.K cl W ga)) : PT X (.UnaryOp .Not a pos) (tB1 X.K cl W (tNotB ga)) := by
  refine PTw (pt_not ha) fun σ H Q ⟨ρ, env, st, S, E, P⟩ => ?_
  refine ⟨ρ, env, st, S, E, (Post.bind backB P).mono ?_⟩
  rintro x H1 ⟨ρ1, st1, a, x1, S1, rfl, P1⟩
  exact P1 ρ1 H1 _ (Ext.refl _ _) S1 rfl
theorem dw_and (ha : PT X a (tB1 X.K cl W ga)) (hb : PW X (.BoolOp .And (b :: rest) pos) (tB1 X.K cl W gb)) : PW X (.BoolOp .And (a :: b :: rest) pos) (tB1 X.K cl W (tAndB ga gb)) := by
  refine PWw (pw_and ha hb) fun σ H Q ⟨ρ, env, st, S, E, P⟩ => ?_
  refine ⟨ρ, env, st, S, E, (Post.bind backB P).mono ?_⟩
  rintro x H1 ⟨ρ1, st1, a, x1, S1, rfl, P1⟩
  split at P1
  · rename_i h
    subst h
    exact iteT ⟨ρ1, env, st1, S1, E.mono (x1.mono S), P1⟩
  · rename_i h
    have h : a = false := by simpa using h
    subst h
    exact iteF (P1 ρ1 H1 _ (Ext.refl _ _) S1 rfl)
theorem dw_or (ha : PT X a (tB1 X.K cl W ga)) (hb : PW X (.BoolOp .Or (b :: rest) pos) (tB1 X.K cl W gb)) : PW X (.BoolOp .Or (a :: b :: rest) pos) (tB1 X.K cl W (tOrB ga gb)) := by
  refine PWw (pw_or ha hb) fun σ H Q ⟨ρ, env, st, S, E, P⟩ => ?_
  refine ⟨ρ, env, st, S, E, (Post.bind backB P).mono ?_⟩
  rintro x H1 ⟨ρ1, st1, a, x1, S1, rfl, P1⟩
  split at P1
  · rename_i h
    subst h
    exact iteT (P1 ρ1 H1 _ (Ext.refl _ _) S1 rfl)
  · rename_i h
    have h : a = false := by simpa using h
    subst h
    exact iteF ⟨ρ1, env, st1, S1, E.mono (x1.mono S), P1⟩
/-- as values -/
def eAnd (fa fb : SEnv → Store → R RV) : SEnv → Store → R RV := fun env st => (fa env st).bind fun a st1 => match a with
  | .v (.bl c) => if c = true then fb env st1 else .ok (.v (.bl false)) st1
  | _ => .bad
def eOr (fa fb : SEnv → Store → R RV) : SEnv → Store → R RV := fun env st => (fa env st).bind fun a st1 => match a with
  | .v (.bl c) => if c = true then .ok (.v (.bl true)) st1 else fb env st1
  | _ => .bad
def eNot (fa : SEnv → Store → R RV) : SEnv → Store → R RV := fun env st => (fa env st).bind fun a st1 => match a with
  | .v (.bl c) => .ok (.v (.bl (!c))) st1
  | _ => .bad
def eIf (g : SEnv → Store → R Bool) (fa fb : SEnv → Store → R RV) : SEnv → Store → R RV := fun env st => (g env st).bind fun c st1 => if c = true then fa env st1 else fb env st1
variable {fb : SEnv → Store → R RV} {c : Expr}
theorem de_and (ha : PE X a (tF X.K cl W fa)) (hb : PE X (.BoolOp .And (b :: rest) pos) (tF X.K cl W fb)) : PE X (.BoolOp .And (a :: b :: rest) pos) (tF X.K cl W (eAnd fa fb)) := by
  refine PEw (pe_and ha hb) fun σ H Q ⟨ρ, env, st, S, E, P⟩ => ?_
  refine ⟨ρ, env, st, S, E, (Post.bind backV P).mono ?_⟩
  rintro x H1 ⟨ρ1, st1, a, x1, S1, r1, P1⟩
  split at P1
  · rename_i k
    cases r1
    refine ⟨k, rfl, ?_⟩
    cases k with
    | true => exact iteT ⟨ρ1, env, st1, S1, E.mono (x1.mono S), by simpa using P1⟩
    | false => exact iteF (P1 ρ1 H1 _ (Ext.refl _ _) S1 rfl)
  · exact P1.elim
theorem de_or (ha : PE X a (tF X.K cl W fa)) (hb : PE X (.BoolOp .Or (b :: rest) pos) (tF X.K cl W fb)) : PE X (.BoolOp .Or (a :: b :: rest) pos) (tF X.K cl W (eOr fa fb)) := by
  refine PEw (pe_or ha hb) fun σ H Q ⟨ρ, env, st, S, E, P⟩ => ?_
  refine ⟨ρ, env, st, S, E, (Post.bind backV P).mono ?_⟩
  rintro x H1 ⟨ρ1, st1, a, x1, S1, r1, P1⟩
  split at P1
  · rename_i k
    cases r1
    refine ⟨k, rfl, ?_⟩
    cases k with
    | true => exact iteT (P1 ρ1 H1 _ (Ext.refl _ _) S1 rfl)
    | false => exact iteF ⟨ρ1, env, st1, S1, E.mono (x1.mono S), by simpa using P1⟩
  · exact P1.elim
theorem de_not (ha : PE X a (tF X.K cl W fa)) : PE X (.UnaryOp .Not a pos) (tF X.K cl W (eNot fa)) := by
  refine PEw (pe_not ha) fun σ H Q ⟨ρ, env, st, S, E, P⟩ => ?_
  refine ⟨ρ, env, st, S, E, (Post.bind backV P).mono ?_⟩
  rintro x H1 ⟨ρ1, st1, a, x1, S1, r1, P1⟩
  split at P1
  · cases r1
    exact ⟨_, rfl, P1 ρ1 H1 _ (Ext.refl _ _) S1 rfl⟩
  · exact P1.elim
theorem de_if (hc : PT X c (tB1 X.K cl W ga)) (ha : PE X a (tF X.K cl W fa)) (hb : PE X b (tF X.K cl W fb)) : PE X (.IfExp c a b pos) (tF X.K cl W (eIf ga fa fb)) := by
  refine PEw (pe_ifExp hc ha hb) fun σ H Q ⟨ρ, env, st, S, E, P⟩ => ?_
  refine ⟨ρ, env, st, S, E, (Post.bind backV P).mono ?_⟩
  rintro x H1 ⟨ρ1, st1, a, x1, S1, rfl, P1⟩
  split at P1
  · rename_i h
    subst h
    exact iteT ⟨ρ1, env, st1, S1, E.mono (x1.mono S), P1⟩
  · rename_i h
    have h : a = false := by simpa using h
    subst h
    exact iteF ⟨ρ1, env, st1, S1, E.mono (x1.mono S), P1⟩
end
end Ev

/-! ## Ev5 -/
set_option Elab.async false
set_option linter.all false
set_option maxRecDepth 100000
/-! Ev5: calls of built-ins. -/
namespace Ev
open PySem PySem.Spec PyProof.Rows L2

def eN (g : List RV → Store → Option RV) (fs : SEnv → Store → R (List RV)) : SEnv → Store → R RV := fun env st => (fs env st).bind fun as st1 => lift (g as st1) st1
def rPN (K : PySem.W.Frag) (cl : Str → Option Addr) (g : List RV → Store → Option RV) : List V → Hp → VK → Prop := fun xs H Q =>
  ∃ ρ st as H0, RS K ρ H cl st ∧ RRVs K ρ H H0 as xs ∧ Prim K cl st ρ H (g as st) Q
section
variable {X : Cx} {cl : Str → Option Addr} {W : WX} {e : Expr} {es : List Expr} {fs : SEnv → Store → R (List RV)} {g : List RV → Store → Option RV} {x : Str} {p pos : Pos} {id T : String}
theorem w_N {K : PySem.W.Frag} (σ : L2.St) (H : Hp) (Q : VK) (h : tF K cl W (eN g fs) σ H Q) : tCB (rPN K cl g) (tG K cl W (relR K) fs) σ H Q := by
  obtain ⟨ρ, env, st, S, E, P⟩ := h
  refine ⟨ρ, env, st, S, E, (Post.bind backV P).mono ?_⟩
  rintro xs H1 ⟨ρ1, st1, as, x1, S1, r1, P1⟩
  exact ⟨ρ1, st1, as, H, S1, r1, P1.prim⟩
theorem de_callB (hc : CallR X (.builtin id) (rPN X.K cl g)) (hg : Gl X x) (hm : X.mg x = none) (hv : bootBuiltins x = some (.builtin id)) (ha : PA X (e :: es) (tG X.K cl W (relR X.K) fs)) (hn : x ≠ "__name__") (hdb : (x == ("__debug__" : Str)) = false)
    (he : starEach (e :: es) X.env = (false, eval e X.env) :: starEach es X.env) (hpl : (backTo pos (starEach es X.env)).any (·.1) = false) : PE X (.Call (.Name x p) (e :: es) [] pos) (tF X.K cl W (eN g fs)) :=
  PEw (pe_callB hc hg hm hv ha hn hdb he hpl) w_N
theorem de_callT (hc : CallR X (.type T) (rPN X.K cl g)) (hg : Gl X x) (hm : X.mg x = none) (hv : bootBuiltins x = some (.type T)) (ha : PA X (e :: es) (tG X.K cl W (relR X.K) fs)) (hn : x ≠ "__name__") (hdb : (x == ("__debug__" : Str)) = false)
    (he : starEach (e :: es) X.env = (false, eval e X.env) :: starEach es X.env) (hpl : (backTo pos (starEach es X.env)).any (·.1) = false) : PE X (.Call (.Name x p) (e :: es) [] pos) (tF X.K cl W (eN g fs)) :=
  PEw (pe_callTy hc hg hm hv ha hn hdb he hpl) w_N
/-- a built-in of one argument, of two -/
theorem cd_1 {f : Value} {g1 : RV → Store → Option RV} (h : ∀ (pins : List (Addr × Obj)) (s : Shared) (σ : L2.St) (H : Hp) (x : V) (u : Value) (Q : VK) (ρ : List Addr) (st : Store) (a : RV) (H0 : Hp), Inv X pins σ H s → RelV x u → RS X.K ρ H cl st → RRV X.K ρ H H0 a x → Prim X.K cl st ρ H (g1 a st) Q →
      wpAny (model X.prog X.w) X.A (call f [u]) (EP X pins σ Q) X.xe s) : CallR X f (rPN X.K cl fun as st => match as with
    | [a] => g1 a st
    | _ => none) := by
  rintro pins s σ H xs us Q I r ⟨ρ, st, as, H0, S, ra, q⟩
  rcases as with _ | ⟨a, _ | ⟨b, l⟩⟩
  · obtain ⟨c, h, _⟩ := q; cases h
  · obtain ⟨v, r', rfl, ra', rn⟩ := ra
    have : r' = [] := rn
    subst this
    obtain ⟨u, rfl, ru⟩ := Vals.one r
    exact h pins s σ H v u Q ρ st a H0 I ru S ra' q
  · obtain ⟨c, h, _⟩ := q; cases h
theorem cd_2 {f : Value} {g2 : RV → RV → Store → Option RV} (h : ∀ (pins : List (Addr × Obj)) (s : Shared) (σ : L2.St) (H : Hp) (x y : V) (u w : Value) (Q : VK) (ρ : List Addr) (st : Store) (a b : RV) (H0 : Hp), Inv X pins σ H s → RelV x u → RelV y w → RS X.K ρ H cl st → RRV X.K ρ H H0 a x → RRV X.K ρ H H0 b y → Prim X.K cl st ρ H (g2 a b st) Q →
      wpAny (model X.prog X.w) X.A (call f [u, w]) (EP X pins σ Q) X.xe s) : CallR X f (rPN X.K cl fun as st => match as with
    | [a, b] => g2 a b st
    | _ => none) := by
  rintro pins s σ H xs us Q I r ⟨ρ, st, as, H0, S, ra, q⟩
  rcases as with _ | ⟨a, _ | ⟨b, _ | ⟨c, l⟩⟩⟩
  · obtain ⟨c, h, _⟩ := q; cases h
  · obtain ⟨c, h, _⟩ := q; cases h
  · obtain ⟨v, r', rfl, ra', w, r2, rfl, rb, rn⟩ := ra
    have : r2 = [] := rn
    subst this
    obtain ⟨u, w', rfl, ru, rw'⟩ := Vals.two r
    exact h pins s σ H v w u w' Q ρ st a b H0 I ru rw' S ra' rb q
  · obtain ⟨c, h, _⟩ := q; cases h
end
def g1 (g : RV → Store → Option RV) : List RV → Store → Option RV := fun as st => match as with
    | [a] => g a st
    | _ => none
def g2 (g : RV → RV → Store → Option RV) : List RV → Store → Option RV := fun as st => match as with
    | [a, b] => g a b st
    | _ => none

/-! ### len abs int max min -/
def dLen (a : RV) (st : Store) : Option RV := match a with
  | .v (.str s) => if s.length ≤ sLine then some (.v (.int s.length)) else none
  | .v (.tup l) => some (.v (.int l.length))
  | a => match lstV st a with
    | some l => some (.v (.int l.length))
    | none => none
def dAbs (a : RV) (_ : Store) : Option RV := match a with
  | .v (.int i) => some (.v (.int (if i < 0 then -i else i)))
  | _ => none
def dInt (a : RV) (_ : Store) : Option RV := match a with
  | .v (.int i) => some (.v (.int i))
  | .v (.bl b) => some (.v (.int (if b then 1 else 0)))
  | _ => none
def dMax2 (a b : RV) (_ : Store) : Option RV := match a, b with
  | .v (.int i), .v (.int j) => some (.v (.int (if j > i then j else i)))
  | _, _ => none
def dMin2 (a b : RV) (_ : Store) : Option RV := match a, b with
  | .v (.int i), .v (.int j) => some (.v (.int (if j < i then j else i)))
  | _, _ => none
def dTuple (a : RV) (st : Store) : Option RV := match a with
  | .v (.tup l) => some (.v (.tup l))
  | a => match lstV st a with
    | some l => some (.v (.tup l))
    | none => none
def dList (a : RV) (st : Store) : Option RV := match a with
  | .v (.tup l) => some (.t l)
  | a => match lstV st a with
    | some l => some (.t l)
    | none => none
def dRepr (a : RV) (st : Store) : Option RV := match dat st a with
  | some p => if p.showable = true ∧ p.hasDict = false ∧ p.depth ≤ 64 ∧ p.shown.length ≤ sLine then some (.v (.str p.shown.cps.toList)) else none
  | none => none
section
variable {X : Cx} {cl : Str → Option Addr}
theorem cd_len : CallR X (.builtin "len") (rPN X.K cl (g1 dLen)) := cd_1 (g1 := dLen) fun pins s σ H x u Q ρ st a H0 I ru S ra q => by
  obtain ⟨c, hc⟩ : ∃ c, dLen a st = some c := ⟨_, q.choose_spec.1⟩
  have lists : ∀ l, lstV st a = some l → dLen a st = some (.v (.int l.length)) → wpAny (model X.prog X.w) X.A (call (.builtin "len") [u]) (EP X pins σ Q) X.xe s := by
    intro l hl e
    obtain ⟨p, vs, rfl, h1, h2⟩ := lstV_ok S ra hl
    exact call_len_seq pins s σ H [_] [u] Q I (.cons ru .nil) ⟨p, vs, rfl, .inl h1, by rw [← h2.length]; exact fin_v S q e rfl⟩
  cases a with
  | t l => exact lists l rfl rfl
  | v d =>
    cases d with
    | str z =>
      cases ra
      simp only [dLen] at hc
      split at hc
      · rename_i hz
        exact call_len_str pins s σ H [_] [u] Q I (.cons ru .nil) ⟨_, rfl, by rw [strlen, sLine_eq]; exact hz, by rw [strlen]; exact fin_v (d := .int z.length) S q (by simp [dLen, hz]) rfl⟩
      · cases hc
    | tup l =>
      obtain ⟨p, vs, rfl, h1, h2⟩ := ra
      exact call_len_seq pins s σ H [_] [u] Q I (.cons ru .nil) ⟨p, vs, rfl, .inr h1, by rw [← h2.length]; exact fin_v S q rfl rfl⟩
    | ref n =>
      have hc2 := hc
      simp only [dLen] at hc2
      cases e : lstV st (.v (.ref n)) with
      | none => rw [e] at hc2; cases hc2
      | some l => exact lists l e (by simp [dLen, e])
    | rol l => exact lists l rfl rfl
    | _ => simp [dLen, lstV, lstM] at hc
theorem cd_abs : CallR X (.builtin "abs") (rPN X.K cl (g1 dAbs)) := cd_1 (g1 := dAbs) fun pins s σ H x u Q ρ st a H0 I ru S ra q => by
  obtain ⟨c, hc, q⟩ := q
  unfold dAbs at hc
  split at hc
  · cases hc; cases ra
    exact call_abs pins s σ H [_] [u] Q I (.cons ru .nil) ⟨_, rfl, q ρ H _ (Ext.refl _ _) S rfl⟩
  · cases hc
theorem cd_int : CallR X (.type "int") (rPN X.K cl (g1 dInt)) := cd_1 (g1 := dInt) fun pins s σ H x u Q ρ st a H0 I ru S ra q => by
  obtain ⟨c, hc, q⟩ := q
  unfold dInt at hc
  split at hc
  · cases hc; cases ra
    exact call_int1 pins s σ H [_] [u] Q I (.cons ru .nil) (.inl ⟨_, rfl, q ρ H _ (Ext.refl _ _) S rfl⟩)
  · cases hc; cases ra
    exact call_int1 pins s σ H [_] [u] Q I (.cons ru .nil) (.inr ⟨_, rfl, q ρ H _ (Ext.refl _ _) S rfl⟩)
  · cases hc
theorem cd_max2 (hc : X.calm = true) : CallR X (.builtin "max") (rPN X.K cl (g2 dMax2)) := cd_2 (g2 := dMax2) fun pins s σ H x y u w Q ρ st a b H0 I ru rw' S ra rb q => by
  obtain ⟨c, h, q⟩ := q
  unfold dMax2 at h
  split at h
  · cases h; cases ra; cases rb
    exact call_max2 hc pins s σ H [_, _] [u, w] Q I (.cons ru (.cons rw' .nil)) ⟨_, _, rfl, q ρ H _ (Ext.refl _ _) S rfl⟩
  · cases h
theorem cd_min2 (hc : X.calm = true) : CallR X (.builtin "min") (rPN X.K cl (g2 dMin2)) := cd_2 (g2 := dMin2) fun pins s σ H x y u w Q ρ st a b H0 I ru rw' S ra rb q => by
  obtain ⟨c, h, q⟩ := q
  unfold dMin2 at h
  split at h
  · cases h; cases ra; cases rb
    exact call_min2 hc pins s σ H [_, _] [u, w] Q I (.cons ru (.cons rw' .nil)) ⟨_, _, rfl, q ρ H _ (Ext.refl _ _) S rfl⟩
  · cases h
theorem cd_tuple : CallR X (.type "tuple") (rPN X.K cl (g1 dTuple)) := cd_1 (g1 := dTuple) fun pins s σ H x u Q ρ st a H0 I ru S ra q => by
  obtain ⟨c, hc⟩ : ∃ c, dTuple a st = some c := ⟨_, q.choose_spec.1⟩
  have lists : ∀ l, lstV st a = some l → dTuple a st = some (.v (.tup l)) → wpAny (model X.prog X.w) X.A (call (.type "tuple") [u]) (EP X pins σ Q) X.xe s := by
    intro l hl e
    obtain ⟨p, vs, rfl, h1, h2⟩ := lstV_ok S ra hl
    exact call_tuple_of pins s σ H [_] [u] Q I (.cons ru .nil) ⟨p, vs, rfl, .inl ⟨h1, fun n hn => fin_tup S q e h2 hn⟩⟩
  cases a with
  | t l => exact lists l rfl rfl
  | v d =>
    cases d with
    | tup l =>
      obtain ⟨p, vs, rfl, h1, h2⟩ := ra
      exact call_tuple_of pins s σ H [_] [u] Q I (.cons ru .nil) ⟨p, vs, rfl, .inr ⟨h1, fin_v S q rfl ⟨p, vs, rfl, h1, h2⟩⟩⟩
    | ref n =>
      have hc2 := hc
      simp only [dTuple] at hc2
      cases e : lstV st (.v (.ref n)) with
      | none => rw [e] at hc2; cases hc2
      | some l => exact lists l e (by simp [dTuple, e])
    | rol l => exact lists l rfl rfl
    | _ => simp [dTuple, lstV, lstM] at hc
theorem cd_list : CallR X (.type "list") (rPN X.K cl (g1 dList)) := cd_1 (g1 := dList) fun pins s σ H x u Q ρ st a H0 I ru S ra q => by
  obtain ⟨c, hc⟩ : ∃ c, dList a st = some c := ⟨_, q.choose_spec.1⟩
  have lists : ∀ l, lstV st a = some l → dList a st = some (.t l) → wpAny (model X.prog X.w) X.A (call (.type "list") [u]) (EP X pins σ Q) X.xe s := by
    intro l hl e
    obtain ⟨p, vs, rfl, h1, h2⟩ := lstV_ok S ra hl
    exact call_list_of pins s σ H [_] [u] Q I (.cons ru .nil) ⟨p, vs, rfl, .inl h1, fun n hn => fin_lst S q e h2 hn⟩
  cases a with
  | t l => exact lists l rfl rfl
  | v d =>
    cases d with
    | tup l =>
      obtain ⟨p, vs, rfl, h1, h2⟩ := ra
      exact call_list_of pins s σ H [_] [u] Q I (.cons ru .nil) ⟨p, vs, rfl, .inr h1, fun n hn => fin_lst S q rfl h2 hn⟩
    | ref n =>
      have hc2 := hc
      simp only [dList] at hc2
      cases e : lstV st (.v (.ref n)) with
      | none => rw [e] at hc2; cases hc2
      | some l => exact lists l e (by simp [dList, e])
    | rol l => exact lists l rfl rfl
    | _ => simp [dList, lstV, lstM] at hc
theorem str_eta (x : Str) : (⟨x.cps.toList.toArray⟩ : Str) = x := by
  cases x; simp
theorem cd_repr (hg : X.A.guards = some []) (hu : X.A.units + 66 < cLine) : CallR X (.builtin "repr") (rPN X.K cl (g1 dRepr)) := cd_1 (g1 := dRepr) fun pins s σ H x u Q ρ st a H0 I ru S ra q => by
  obtain ⟨c, hc⟩ : ∃ c, dRepr a st = some c := ⟨_, q.choose_spec.1⟩
  cases e : dat st a with
  | none => simp [dRepr, e] at hc
  | some p =>
    simp only [dRepr, e] at hc
    split at hc
    · rename_i hz
      obtain ⟨h1, h2, h3, h4⟩ := hz
      have h4' : p.shown.length ≤ sizeLine := by rw [sLine_eq]; exact h4
      have dp := dat_ok S ra e
      have fin : Q (.str p.shown) H := fin_v (d := .str p.shown.cps.toList) S q (by simp only [dRepr, e]; rw [if_pos ⟨h1, h2, h3, h4⟩]) (by
        show V.str p.shown = V.str ⟨p.shown.cps.toList.toArray⟩
        rw [str_eta])
      obtain ⟨as, rd⟩ := Dp.reads I p x u dp ru
      cases dp with
      | non =>
        cases ru
        have fin' : Q (.str "None") H := by simpa only [PyData.shown] using fin
        exact PySem.P.repr_of_none ⟨.str "None", H, I.tok _, ⟨_, rfl⟩, fin'⟩
      | bl b =>
        cases ru
        have fin' : Q (.str (if b then "True" else "False")) H := by simpa only [PyData.shown] using fin
        exact PySem.P.repr_of_bool ⟨.str _, H, I.tok _, ⟨_, rfl⟩, fin'⟩
      | int i =>
        obtain ⟨t, rfl⟩ := ru
        have fin' : Q (.str (toString i)) H := by simpa only [PyData.shown] using fin
        exact PySem.P.repr_of_int (by simpa [PyData.showable] using h1) ⟨.str _, H, I.tok _, ⟨_, rfl⟩, fin'⟩
      | str z =>
        obtain ⟨t, rfl⟩ := ru
        have fin' : Q (.str (reprText z)) H := by simpa only [PyData.shown] using fin
        exact PySem.P.repr_of_str ⟨.str _, H, I.tok _, ⟨_, rfl⟩, fin'⟩ (by simpa only [PyData.shown] using h4')
      | lst _ _ =>
        cases ru
        exact repr_of_reads' rd h1 (fun z => by rw [h2] at z; cases z) hg (by omega) (fun _ _ z => z) (fun h' w tk hk => ⟨.str _, H, I.kept (t' := tk) hk, ⟨_, rfl⟩, fin⟩) h4'
      | tup _ _ =>
        cases ru
        exact repr_of_reads' rd h1 (fun z => by rw [h2] at z; cases z) hg (by omega) (fun _ _ z => z) (fun h' w tk hk => ⟨.str _, H, I.kept (t' := tk) hk, ⟨_, rfl⟩, fin⟩) h4'
    · cases hc
end

/-! ### isinstance of a built-in class -/
def tyName (st : Store) (a : RV) : Option String := match a with
  | .t _ => some "list"
  | .v .non => some "NoneType"
  | .v (.bl _) => some "bool"
  | .v (.int _) => some "int"
  | .v (.str _) => some "str"
  | .v (.tup _) => some "tuple"
  | .v (.rol _) => some "list"
  | .v (.ref n) => match st[n]? with
    | some (.lst _) => some "list"
    | some (.dict _ _) => some "dict"
    | _ => none
def isiB (t T : String) : Bool := t == T || (t == "bool" && T == "int")
def dIsi (T : String) (a : RV) (st : Store) : Option RV := (tyName st a).map fun t => .v (.bl (isiB t T))
section
variable {X : Cx} {cl : Str → Option Addr} {W : WX} {e : Expr} {fa : SEnv → Store → R RV} {x : Str} {p pos p2 : Pos} {T : String} {y : Str}
theorem ty_ok {K : PySem.W.Frag} {ρ : List Addr} {H H0 : Hp} {st : Store} {a : RV} {x : V} {t : String} (S : RS K ρ H cl st) (r : RRV K ρ H H0 a x) (h : tyName st a = some t) : TyX K H x (.type t) := by
  unfold tyName at h
  split at h
  · cases h; obtain ⟨p, vs, rfl, h1, _⟩ := r; exact .base (.lst h1)
  · cases h; cases r; exact .base .non
  · cases h; cases r; exact .base (.bl _)
  · cases h; cases r; exact .base (.int _)
  · cases h; cases r; exact .base (.str _)
  · cases h
    obtain ⟨p, vs, rfl, h1, _⟩ := r
    rcases h1 with (h1 | ⟨o, h1⟩) | ⟨o, its, n, h1, h2, _⟩
    · exact .base (.tup h1)
    · exact .fTuple h1
    · exact .kTuple h1 h2
  · cases h
    obtain ⟨p, vs, rfl, h1, _⟩ := r
    rcases h1 with ⟨o, h1⟩ | ⟨o, its, n, h1, h2, _⟩
    · exact .base (.frz h1)
    · exact .kList h1 h2
  · split at h
    · rename_i n l e
      cases h
      obtain ⟨p, rfl, hp⟩ := r
      obtain ⟨vs, h1, _⟩ := S.at_ _ _ _ e hp
      exact .base (.lst h1)
    · rename_i n t l e
      cases h
      obtain ⟨p, rfl, hp⟩ := r
      obtain ⟨_, vs, h1, _⟩ | ⟨_, vs, h1, _⟩ := S.at_ _ _ _ e hp
      · exact .base (.dK h1)
      · exact .base (.dT h1)
    · cases h
def isiKnown (T : String) : Prop := ∀ (K : PySem.W.Frag) (t : String), t ∈ ["list", "NoneType", "bool", "int", "str", "tuple", "dict"] → PySem.W.kitOne K (.type t) (.type T) = some (isiB t T)
theorem ty_in {st : Store} {a : RV} {t : String} (h : tyName st a = some t) : t ∈ ["list", "NoneType", "bool", "int", "str", "tuple", "dict"] := by
  unfold tyName at h
  repeat' split at h
  all_goals first | (cases h; simp) | cases h
theorem isi_int : isiKnown "int" := by
  intro K t ht
  simp only [List.mem_cons, List.not_mem_nil, or_false] at ht
  rcases ht with rfl | rfl | rfl | rfl | rfl | rfl | rfl <;> rfl
theorem isi_str : isiKnown "str" := by
  intro K t ht
  simp only [List.mem_cons, List.not_mem_nil, or_false] at ht
  rcases ht with rfl | rfl | rfl | rfl | rfl | rfl | rfl <;> rfl
theorem isi_tuple : isiKnown "tuple" := by
  intro K t ht
  simp only [List.mem_cons, List.not_mem_nil, or_false] at ht
  rcases ht with rfl | rfl | rfl | rfl | rfl | rfl | rfl <;> rfl
theorem isi_list : isiKnown "list" := by
  intro K t ht
  simp only [List.mem_cons, List.not_mem_nil, or_false] at ht
  rcases ht with rfl | rfl | rfl | rfl | rfl | rfl | rfl <;> rfl
theorem isi_bool : isiKnown "bool" := by
  intro K t ht
  simp only [List.mem_cons, List.not_mem_nil, or_false] at ht
  rcases ht with rfl | rfl | rfl | rfl | rfl | rfl | rfl <;> rfl
theorem de_isi (hk : isiKnown T) (hg : Gl X x) (hm : X.mg x = none) (hv : bootBuiltins x = some (.builtin "isinstance")) (hn : x ≠ "__name__") (hdb : (x == ("__debug__" : Str)) = false)
    (hg2 : Gl X y) (hm2 : X.mg y = none) (hv2 : bootBuiltins y = some (.type T)) (hn2 : y ≠ "__name__") (hdb2 : (y == ("__debug__" : Str)) = false) (ha : PE X e (tF X.K cl W fa))
    (hs : ∀ es, starEach (e :: es) X.env = (false, eval e X.env) :: starEach es X.env) :
    PE X (.Call (.Name x p) [e, .Name y p2] [] pos) (tF X.K cl W (e1 (dIsi T) fa)) := by
  have hT : PE X (.Name y p2) (tC (.ty T)) := pe_bltn hg2 hm2 hv2 rfl hn2 hdb2
  refine PEw (pe_callB call_isi hg hm hv (pa_cons ha (pa_cons hT pa_nil) (hs _)) hn hdb (hs _)) fun σ H Q ⟨ρ, env, st, S, E, P⟩ => ?_
  refine ⟨ρ, env, st, S, E, (Post.bind backV P).mono ?_⟩
  rintro x H1 ⟨ρ1, st1, a, x1, S1, r1, P1⟩
  cases e : tyName st1 a with
  | none => simp [dIsi, e] at P1; exact P1.elim
  | some t => exact ⟨x, .ty T, .type t, .type T, isiB t T, rfl, .ty T, ty_ok S1 r1 e, hk X.K t (ty_in e), fin_v (d := .bl (isiB t T)) S1 P1.prim (by simp [dIsi, e]) rfl⟩
end
end Ev

/-! ## Ev6 -/
set_option Elab.async false
set_option linter.all false
set_option maxRecDepth 100000
/-! Ev6: statements, loops. -/
namespace Ev
open PySem PySem.Spec PyProof.Rows L2

inductive SR where
  | nx (env : SEnv) (st : Store) | brk (env : SEnv) (st : Store) | ct (env : SEnv) (st : Store) | ret (a : RV) (st : Store) | exc (x : Exn) (env : SEnv) (st : Store) | bad
def R.toS {α : Type} (r : R α) (env : SEnv) (k : α → Store → SR) : SR := match r with
  | .ok a st => k a st
  | .exc x st => .exc x env st
  | .bad => .bad
@[simp] theorem R.toS_ok {α : Type} (a : α) (st : Store) (env : SEnv) (k : α → Store → SR) : (R.ok a st).toS env k = k a st := .trans rfl rfl
@[simp] theorem R.toS_exc {α : Type} (x : Exn) (st : Store) (env : SEnv) (k : α → Store → SR) : (R.exc x st : R α).toS env k = .exc x env st := .trans rfl rfl
@[simp] theorem R.toS_bad {α : Type} (env : SEnv) (k : α → Store → SR) : (R.bad : R α).toS env k = .bad := .trans rfl rfl
def SR.seq (r : SR) (k : SEnv → Store → SR) : SR := match r with
  | .nx env st => k env st
  | r => r
@[simp] theorem SR.seq_nx (env : SEnv) (st : Store) (k : SEnv → Store → SR) : (SR.nx env st).seq k = k env st := .trans rfl rfl
@[simp] theorem SR.seq_brk (env : SEnv) (st : Store) (k : SEnv → Store → SR) : (SR.brk env st).seq k = .brk env st := .trans rfl rfl
@[simp] theorem SR.seq_ct (env : SEnv) (st : Store) (k : SEnv → Store → SR) : (SR.ct env st).seq k = .ct env st := .trans rfl rfl
@[simp] theorem SR.seq_ret (a : RV) (st : Store) (k : SEnv → Store → SR) : (SR.ret a st).seq k = .ret a st := .trans rfl rfl
@[simp] theorem SR.seq_exc (x : Exn) (env : SEnv) (st : Store) (k : SEnv → Store → SR) : (SR.exc x env st).seq k = .exc x env st := .trans rfl rfl
@[simp] theorem SR.seq_bad (k : SEnv → Store → SR) : SR.bad.seq k = .bad := .trans rfl rfl
/-- a loop's body done: on to the next turn -/
def SR.loop (r : SR) (k : SEnv → Store → SR) : SR := match r with
  | .nx env st => k env st
  | .ct env st => k env st
  | .brk env st => .nx env st
  | r => r
@[simp] theorem SR.loop_nx (env : SEnv) (st : Store) (k : SEnv → Store → SR) : (SR.nx env st).loop k = k env st := .trans rfl rfl
@[simp] theorem SR.loop_brk (env : SEnv) (st : Store) (k : SEnv → Store → SR) : (SR.brk env st).loop k = .nx env st := .trans rfl rfl
@[simp] theorem SR.loop_ct (env : SEnv) (st : Store) (k : SEnv → Store → SR) : (SR.ct env st).loop k = k env st := .trans rfl rfl
@[simp] theorem SR.loop_ret (a : RV) (st : Store) (k : SEnv → Store → SR) : (SR.ret a st).loop k = .ret a st := .trans rfl rfl
@[simp] theorem SR.loop_exc (x : Exn) (env : SEnv) (st : Store) (k : SEnv → Store → SR) : (SR.exc x env st).loop k = .exc x env st := .trans rfl rfl
@[simp] theorem SR.loop_bad (k : SEnv → Store → SR) : SR.bad.loop k = .bad := .trans rfl rfl
abbrev SS := SEnv → Store → SR

def PostS (K : PySem.W.Frag) (cl : Str → Option Addr) (W : WX) (ρ : List Addr) (H : Hp) (r : SR) (D : Ends) : Prop := match r with
  | .nx env' st' => ∀ ρ' H' σ', Ext ρ H ρ' H' → RS K ρ' H' cl st' → RE K ρ' H' σ' env' → D.nx σ' H'
  | .brk env' st' => ∀ ρ' H' σ', Ext ρ H ρ' H' → RS K ρ' H' cl st' → RE K ρ' H' σ' env' → D.bk σ' H'
  | .ct env' st' => ∀ ρ' H' σ', Ext ρ H ρ' H' → RS K ρ' H' cl st' → RE K ρ' H' σ' env' → D.ct σ' H'
  | .ret a st' => ∀ ρ' H' v, Ext ρ H ρ' H' → RS K ρ' H' cl st' → RRV K ρ' H' H a v → D.rt v H'
  | .exc x env' st' => ∀ ρ' H' σ' c d, Ext ρ H ρ' H' → RS K ρ' H' cl st' → RE K ρ' H' σ' env' → RX K ρ' H' cl c d x → W c d σ' H'
  | .bad => False
def tS (K : PySem.W.Frag) (cl : Str → Option Addr) (W : WX) (f : SS) : TS := fun D σ H => ∃ ρ env st, RS K ρ H cl st ∧ RE K ρ H σ env ∧ PostS K cl W ρ H (f env st) D
section
variable {K : PySem.W.Frag} {cl : Str → Option Addr} {W : WX} {ρ ρ1 : List Addr} {H H1 : Hp} {st1 : Store}
theorem PostS.from {r : SR} {D : Ends} (S1 : RS K ρ1 H1 cl st1) (x1 : Ext ρ H ρ1 H1) (h : PostS K cl W ρ H r D) : PostS K cl W ρ1 H1 r D := by
  cases r with
  | nx env st => exact fun ρ' H' σ' x S E => h ρ' H' σ' (x1.trans x) S E
  | brk env st => exact fun ρ' H' σ' x S E => h ρ' H' σ' (x1.trans x) S E
  | ct env st => exact fun ρ' H' σ' x S E => h ρ' H' σ' (x1.trans x) S E
  | ret a st => exact fun ρ' H' v x S r => h ρ' H' v (x1.trans x) S (RRV.back S1 x1 r)
  | exc e env st => exact fun ρ' H' σ' c d x S E r => h ρ' H' σ' c d (x1.trans x) S E r
  | bad => exact h
/-- an expression within a statement -/
theorem PostS.toS {α β : Type} {rel : Rel α β} {σ : L2.St} {env : SEnv} {st : Store} {r : R α} {k : α → Store → SR} {D : Ends} (S : RS K ρ H cl st) (E : RE K ρ H σ env) (h : PostS K cl W ρ H (r.toS env k) D) :
    Post K cl W σ rel ρ H r fun v H1 => ∃ ρ1 st1 a, Ext ρ H ρ1 H1 ∧ RS K ρ1 H1 cl st1 ∧ rel H ρ1 H1 a v ∧ PostS K cl W ρ H (k a st1) D := by
  cases r with
  | ok a st1 => exact fun ρ1 H1 v x S1 r => ⟨ρ1, st1, a, x, S1, r, h⟩
  | exc e st1 => exact fun ρ1 H1 c d x S1 r => h ρ1 H1 σ c d x S1 (E.mono (x.mono S)) r
  | bad => exact h
end
theorem RE.set {K : PySem.W.Frag} {ρ : List Addr} {H : Hp} {σ : L2.St} {env : SEnv} {d : D} {v : V} (E : RE K ρ H σ env) (i : Nat) (r : RD K ρ H d v) : RE K ρ H (σ.set i (some v)) (env.set i (some d)) := by
  refine ⟨by rw [List.length_set, List.length_set]; exact E.len, fun j e h => ?_⟩
  by_cases hj : i = j
  · subst hj
    by_cases hl : i < env.length
    · rw [List.getElem?_set_self hl] at h
      cases h
      exact ⟨v, List.getElem?_set_self (by rw [E.len]; exact hl), r⟩
    · rw [List.getElem?_eq_none (by rw [List.length_set]; omega)] at h
      cases h
  · rw [List.getElem?_set_ne hj] at h
    obtain ⟨w, h1, h2⟩ := E.at_ j e h
    exact ⟨w, by rw [List.getElem?_set_ne hj]; exact h1, h2⟩
def sNil : SS := fun env st => .nx env st
def sSeq (f g : SS) : SS := fun env st => (f env st).seq g
def sSet (i : Nat) (fa : SEnv → Store → R RV) : SS := fun env st => (fa env st).toS env fun a st1 => (mat a st1).toS env fun d st2 => .nx (env.set i (some d)) st2
def sExpr (fa : SEnv → Store → R RV) : SS := fun env st => (fa env st).toS env fun _ st1 => .nx env st1
def sRet (fa : SEnv → Store → R RV) : SS := fun env st => (fa env st).toS env fun a st1 => .ret a st1
def sRetN : SS := fun _ st => .ret (.v .non) st
def sIf (g : SEnv → Store → R Bool) (f1 f2 : SS) : SS := fun env st => (g env st).toS env fun c st1 => if c = true then f1 env st1 else f2 env st1
def sBrk : SS := fun env st => .brk env st
def sCt : SS := fun env st => .ct env st
section
variable {X : Cx} {cl : Str → Option Addr} {W : WX} {s : Stmt} {rest : List Stmt} {f g : SS} {e : Expr} {fa : SEnv → Store → R RV} {ga : SEnv → Store → R Bool} {pos : Pos}
theorem ds_nil : PSs X [] (tS X.K cl W sNil) := PSsw pss_nil fun D σ H ⟨ρ, env, st, S, E, P⟩ => P ρ H σ (Ext.refl _ _) S E
theorem w_seq {K : PySem.W.Frag} (D : Ends) (σ : L2.St) (H : Hp) (h : tS K cl W (sSeq f g) D σ H) : tSeq (tS K cl W f) (tS K cl W g) D σ H := by
  obtain ⟨ρ, env, st, S, E, P⟩ := h
  refine ⟨ρ, env, st, S, E, ?_⟩
  unfold sSeq at P
  cases hf : f env st with
  | nx env1 st1 =>
    rw [hf] at P
    exact fun ρ1 H1 σ1 x1 S1 E1 => ⟨ρ1, env1, st1, S1, E1, PostS.from S1 x1 P⟩
  | brk env1 st1 => rw [hf] at P; exact P
  | ct env1 st1 => rw [hf] at P; exact P
  | ret a st1 => rw [hf] at P; exact P
  | exc x env1 st1 => rw [hf] at P; exact P
  | bad => rw [hf] at P; exact P
theorem ds_cons (h1 : PS X s (tS X.K cl W f)) (h2 : PSs X rest (tS X.K cl W g)) : PSs X (s :: rest) (tS X.K cl W (sSeq f g)) := PSsw (pss_cons h1 h2) w_seq
theorem w_set {K : PySem.W.Frag} {i : Nat} {g : TG} (hg : ∀ v σ H (Q : L2.St → Hp → Prop), Q (σ.set i (some v)) H → g v σ H Q) (D : Ends) (σ : L2.St) (H : Hp) (h : tS K cl W (sSet i fa) D σ H) : tAsg (tF K cl W fa) g D σ H := by
  obtain ⟨ρ, env, st, S, E, P⟩ := h
  refine ⟨ρ, env, st, S, E, (PostS.toS (rel := relV K) S E P).mono ?_⟩
  rintro x H1 ⟨ρ1, st1, a, x1, S1, r1, P1⟩
  obtain ⟨d, st2, ρ2, e2, x2, S2, r2, m2⟩ := mat_ok S1 x1 r1
  rw [e2, R.toS_ok] at P1
  exact hg _ _ _ _ (P1 ρ2 H1 _ x2 S2 (((E.mono (x1.mono S)).mono m2).set i r2))
theorem ds_expr (he : PE X e (tF X.K cl W fa)) (hs : swapsWith e none pos.line X.env = pure false) : PS X (.Expr e pos) (tS X.K cl W (sExpr fa)) := by
  refine PSw (ps_expr he hs) fun D σ H ⟨ρ, env, st, S, E, P⟩ => ?_
  refine ⟨ρ, env, st, S, E, (PostS.toS (rel := relV X.K) S E P).mono ?_⟩
  rintro x H1 ⟨ρ1, st1, a, x1, S1, r1, P1⟩
  exact P1 ρ1 H1 σ x1 S1 (E.mono (x1.mono S))
theorem ds_ret (he : PE X e (tF X.K cl W fa)) : PS X (.Return (some e) pos) (tS X.K cl W (sRet fa)) := by
  refine PSw (ps_ret he) fun D σ H ⟨ρ, env, st, S, E, P⟩ => ?_
  refine ⟨ρ, env, st, S, E, (PostS.toS (rel := relV X.K) S E P).mono ?_⟩
  rintro x H1 ⟨ρ1, st1, a, x1, S1, r1, P1⟩
  exact P1 ρ1 H1 x x1 S1 r1
theorem ds_retN : PS X (.Return none pos) (tS X.K cl W sRetN) := PSw ps_retN fun D σ H ⟨ρ, env, st, S, E, P⟩ => P ρ H .non (Ext.refl _ _) S rfl
theorem ds_pass : PS X (.Pass pos) (tS X.K cl W sNil) := PSw ps_pass fun D σ H ⟨ρ, env, st, S, E, P⟩ => P ρ H σ (Ext.refl _ _) S E
theorem ds_brk : PS X (.Break pos) (tS X.K cl W sBrk) := PSw ps_break fun D σ H ⟨ρ, env, st, S, E, P⟩ => P ρ H σ (Ext.refl _ _) S E
theorem ds_ct : PS X (.Continue pos) (tS X.K cl W sCt) := PSw ps_continue fun D σ H ⟨ρ, env, st, S, E, P⟩ => P ρ H σ (Ext.refl _ _) S E
theorem ds_if {a b : List Stmt} (hc : PT X e (tB1 X.K cl W ga)) (ha : PSs X a (tS X.K cl W f)) (hb : PSs X b (tS X.K cl W g)) : PS X (.If e a b pos) (tS X.K cl W (sIf ga f g)) := by
  refine PSw (ps_if hc ha hb) fun D σ H ⟨ρ, env, st, S, E, P⟩ => ?_
  refine ⟨ρ, env, st, S, E, (PostS.toS (rel := relB) S E P).mono ?_⟩
  rintro x H1 ⟨ρ1, st1, a, x1, S1, rfl, P1⟩
  have P2 := PostS.from S1 x1 P1
  split at P2
  · rename_i h
    subst h
    exact iteT ⟨ρ1, env, st1, S1, E.mono (x1.mono S), P2⟩
  · rename_i h
    have h : a = false := by simpa using h
    subst h
    exact iteF ⟨ρ1, env, st1, S1, E.mono (x1.mono S), P2⟩
end
/-! ### targets of several names -/
def setAll : List Nat → List D → SEnv → SEnv
  | i :: is, d :: ds, env => setAll is ds (env.set i (some d))
  | _, _, env => env
/-- assign a value to names: one name, or as many as the tuple has -/
inductive Tg where
  | one (i : Nat) | many (is : List Nat)
def Tg.put (t : Tg) (d : D) (env : SEnv) : Option SEnv := match t with
  | .one i => some (env.set i (some d))
  | .many is => match d with
    | .tup l => if l.length = is.length then some (setAll is l env) else none
    | _ => none
def gNames : List Nat → TGs
  | [] => gNil
  | i :: is => gCons (gName i) (gNames is)
def Tg.g (K : PySem.W.Frag) : Tg → TG
  | .one i => gName i
  | .many is => gTup K is.length (gNames is)
section
variable {K : PySem.W.Frag} {ρ : List Addr} {H : Hp}
theorem gNames_ok : ∀ (is : List Nat) (ds : List D) (vs : List V) {σ : L2.St} {env : SEnv} {Q : L2.St → Hp → Prop}, RE K ρ H σ env → RDs K ρ H ds vs → ds.length = is.length → (∀ σ', RE K ρ H σ' (setAll is ds env) → Q σ' H) → gNames is vs σ H Q
  | [], ds, vs, σ, env, Q, E, r, hl, q => by
    have : ds = [] := List.length_eq_zero_iff.mp hl
    subst this
    have : vs = [] := r
    subst this
    exact ⟨rfl, q _ E⟩
  | i :: is, ds, vs, σ, env, Q, E, r, hl, q => by
    cases ds with
    | nil => cases hl
    | cons d ds =>
      obtain ⟨v, vr, rfl, h1, h2⟩ := r
      exact ⟨v, vr, rfl, gNames_ok is ds vr (E.set i h1) h2 (by simpa using hl) q⟩
theorem Tg.ok {t : Tg} {d : D} {v : V} {σ : L2.St} {env env' : SEnv} {Q : L2.St → Hp → Prop} (E : RE K ρ H σ env) (r : RD K ρ H d v) (h : t.put d env = some env') (q : ∀ σ', RE K ρ H σ' env' → Q σ' H) : t.g K v σ H Q := by
  cases t with
  | one i =>
    cases h
    exact q _ (E.set i r)
  | many is =>
    cases d with
    | tup l =>
      simp only [Tg.put] at h
      split at h
      · rename_i hl
        cases h
        obtain ⟨a, vs, rfl, h1, h2⟩ := r
        exact ⟨a, vs, rfl, h1, by rw [← h2.length]; exact hl, gNames_ok is l vs E h2 hl q⟩
      · cases h
    | _ => cases h
end
def sTg (t : Tg) (fa : SEnv → Store → R RV) : SS := fun env st => (fa env st).toS env fun a st1 => (mat a st1).toS env fun d st2 => match t.put d env with
  | some env' => .nx env' st2
  | none => .bad
section
variable {X : Cx} {cl : Str → Option Addr} {W : WX} {e : Expr} {fa : SEnv → Store → R RV} {pos : Pos} {t : Tg}
theorem w_tg {K : PySem.W.Frag} (D : Ends) (σ : L2.St) (H : Hp) (h : tS K cl W (sTg t fa) D σ H) : tAsg (tF K cl W fa) (t.g K) D σ H := by
  obtain ⟨ρ, env, st, S, E, P⟩ := h
  refine ⟨ρ, env, st, S, E, (PostS.toS (rel := relV K) S E P).mono ?_⟩
  rintro x H1 ⟨ρ1, st1, a, x1, S1, r1, P1⟩
  obtain ⟨d, st2, ρ2, e2, x2, S2, r2, m2⟩ := mat_ok S1 x1 r1
  rw [e2, R.toS_ok] at P1
  split at P1
  · rename_i env' he
    exact Tg.ok ((E.mono (x1.mono S)).mono m2) r2 he fun σ' E' => P1 ρ2 H1 σ' x2 S2 E'
  · exact P1.elim
end
/-! ### while -/
def whileF (g : SEnv → Store → R Bool) (f : SS) : Nat → SS
  | 0 => fun _ _ => .bad
  | n + 1 => fun env st => (g env st).toS env fun c st1 => if c = true then (f env st1).loop (whileF g f n) else .nx env st1
def fuel : Nat := 1000000
def sWhile (g : SEnv → Store → R Bool) (f : SS) : SS := whileF g f fuel
section
variable {X : Cx} {cl : Str → Option Addr} {W : WX} {e : Expr} {ga : SEnv → Store → R Bool} {f : SS} {body : List Stmt} {pos : Pos}
theorem ds_while (hp : PassesOwn (model X.prog X.w) X.A X.env X.xe) (hc : PT X e (tB1 X.K cl W ga)) (hb : PSs X body (tS X.K cl W f)) : PS X (.While e body [] pos) (tS X.K cl W (sWhile ga f)) := by
  refine PSw (ps_while hp hc hb) fun D σ H ⟨ρ, env, st, S, E, P⟩ => ?_
  refine ⟨fun m σ H => ∃ ρ env st, RS X.K ρ H cl st ∧ RE X.K ρ H σ env ∧ PostS X.K cl W ρ H (whileF ga f m env st) D, ⟨fuel, ρ, env, st, S, E, P⟩, ?_⟩
  rintro m σ H ⟨ρ, env, st, S, E, P⟩
  cases m with
  | zero => exact P.elim
  | succ m =>
    refine ⟨ρ, env, st, S, E, (PostS.toS (rel := relB) S E P).mono ?_⟩
    rintro x H1 ⟨ρ1, st1, a, x1, S1, rfl, P1⟩
    have P2 := PostS.from S1 x1 P1
    have E1 := E.mono (x1.mono S)
    split at P2
    · rename_i h
      subst h
      refine iteT ⟨fun σ' H' => ∃ ρ env st, RS X.K ρ H' cl st ∧ RE X.K ρ H' σ' env ∧ PostS X.K cl W ρ H' (whileF ga f m env st) D, fun σ' H' h => ⟨m, Nat.lt_succ_self m, h⟩, ρ1, env, st1, S1, E1, ?_⟩
      cases hf : f env st1 with
      | nx env2 st2 => rw [hf] at P2; exact fun ρ2 H2 σ2 x2 S2 E2 => ⟨ρ2, env2, st2, S2, E2, PostS.from S2 x2 P2⟩
      | ct env2 st2 => rw [hf] at P2; exact fun ρ2 H2 σ2 x2 S2 E2 => ⟨ρ2, env2, st2, S2, E2, PostS.from S2 x2 P2⟩
      | brk env2 st2 => rw [hf] at P2; exact fun ρ2 H2 σ2 x2 S2 E2 => P2 ρ2 H2 σ2 x2 S2 E2
      | ret a st2 => rw [hf] at P2; exact P2
      | exc x env2 st2 => rw [hf] at P2; exact P2
      | bad => rw [hf] at P2; exact P2
    · rename_i h
      have h : a = false := by simpa using h
      subst h
      exact iteF (P2 ρ1 H1 σ (Ext.refl _ _) S1 E1)
end
/-! ### what a loop walks -/
structure Src (K : PySem.W.Frag) (cl : Str → Option Addr) (J : It) (base : List Addr → Hp → Prop) (gd : Store → Prop) (l : List D) : Prop where
  keep : ∀ {ρ H st ρ' H'}, RS K ρ H cl st → base ρ H → Ext ρ H ρ' H' → base ρ' H'
  go : ∀ {ρ H st} {i : Nat}, RS K ρ H cl st → base ρ H → gd st → i < l.length → J.go i H
  stop : ∀ {ρ H st} {i : Nat}, RS K ρ H cl st → base ρ H → gd st → l.length ≤ i → J.stop i H
  yld : ∀ {ρ H st} {i : Nat} {x : V} {H' : Hp}, RS K ρ H cl st → base ρ H → gd st → J.yld i H x H' → i < l.length → ∃ d, l[i]? = some d ∧ Ext ρ H ρ H' ∧ RS K ρ H' cl st ∧ RD K ρ H' d x
structure Walk where
  l : List D
  gd : Store → Prop
def PostI (K : PySem.W.Frag) (cl : Str → Option Addr) (W : WX) (σ : L2.St) (ρ : List Addr) (H : Hp) (r : R Walk) (Q : It → Hp → Prop) : Prop := match r with
  | .ok w st' => ∀ ρ' H' J base, Ext ρ H ρ' H' → RS K ρ' H' cl st' → Src K cl J base w.gd w.l → base ρ' H' → w.gd st' → Q J H'
  | .exc x st' => ∀ ρ' H' c d, Ext ρ H ρ' H' → RS K ρ' H' cl st' → RX K ρ' H' cl c d x → W c d σ H'
  | .bad => False
def tI (K : PySem.W.Frag) (cl : Str → Option Addr) (W : WX) (f : SEnv → Store → R Walk) : TI := fun σ H Q => ∃ ρ env st, RS K ρ H cl st ∧ RE K ρ H σ env ∧ PostI K cl W σ ρ H (f env st) Q
theorem PIw {X : Cx} {tg e : Expr} {t t' : TI} (h : PI X tg e t) (w : ∀ σ H Q, t' σ H Q → t σ H Q) : PI X tg e t' := ⟨fun pins s σ H Q I q => h.run pins s σ H Q I (w _ _ _ q)⟩
theorem PIor {X : Cx} {tg e : Expr} {t t' : TI} (h : PI X tg e t) (h' : PI X tg e t') : PI X tg e (fun σ H Q => t σ H Q ∨ t' σ H Q) :=
  ⟨fun pins s σ H Q I q => q.elim (fun q => h.run pins s σ H Q I q) fun q => h'.run pins s σ H Q I q⟩
/-- the items of a value that is walked -/
def itV (st : Store) (a : RV) : Option (List D) := match a with
  | .v (.tup l) => some l
  | .v (.str s) => some (s.map fun c => .str [c])
  | a => lstV st a
def wVal (fa : SEnv → Store → R RV) : SEnv → Store → R Walk := fun env st => (fa env st).bind fun a st1 => match itV st1 a with
  | some l => .ok ⟨l, fun st => itV st a = some l⟩ st1
  | none => .bad
section
variable {X : Cx} {cl : Str → Option Addr} {W : WX} {tg e : Expr} {fa : SEnv → Store → R RV}
theorem src_list {K : PySem.W.Frag} {a : RV} {p : Addr} {l : List D} {H0 : Hp} (hn : ∀ st, itV st a = lstV st a) : Src K cl (Itl K p) (fun ρ H => RRV K ρ H H0 a (.ref p)) (fun st => itV st a = some l) l := by
  have key : ∀ {ρ H st}, RS K ρ H cl st → RRV K ρ H H0 a (.ref p) → itV st a = some l → ∃ vs, SqL K H p vs ∧ RDs K ρ H l vs := by
    intro ρ H st S r g
    rw [hn] at g
    obtain ⟨p', vs, e, h1, h2⟩ := lstV_ok S r g
    cases e
    exact ⟨vs, h1, h2⟩
  refine ⟨fun S r x => RRV.ext S x r, fun {ρ H st i} S r g hi => ?_, fun {ρ H st i} S r g hi => ?_, fun {ρ H st i x H'} S r g y hi => ?_⟩
  · obtain ⟨vs, h1, h2⟩ := key S r g
    obtain ⟨v, hv, _⟩ := h2.get (List.getElem?_eq_getElem hi)
    exact ⟨vs, v, h1, hv⟩
  · obtain ⟨vs, h1, h2⟩ := key S r g
    exact ⟨vs, h1, by rw [← h2.length]; exact hi⟩
  · obtain ⟨vs, h1, h2⟩ := key S r g
    obtain ⟨rfl, y⟩ := y
    obtain ⟨v, hv, rv⟩ := h2.get (List.getElem?_eq_getElem hi)
    have := y vs h1
    rw [hv] at this; cases this
    exact ⟨l[i], List.getElem?_eq_getElem hi, Ext.refl _ _, S, rv⟩
theorem src_tup {K : PySem.W.Frag} {p : Addr} {l : List D} {gd : Store → Prop} : Src K cl (Itt K p) (fun ρ H => RD K ρ H (.tup l) (.ref p)) gd l := by
  have key : ∀ {ρ H}, RD K ρ H (.tup l) (.ref p) → ∃ vs, SqT K H p vs ∧ RDs K ρ H l vs := by
    rintro ρ H ⟨p', vs, e, h1, h2⟩
    cases e
    exact ⟨vs, h1, h2⟩
  refine ⟨fun S r x => RD.mono (x.mono S) _ _ r, fun {ρ H st i} S r g hi => ?_, fun {ρ H st i} S r g hi => ?_, fun {ρ H st i x H'} S r g y hi => ?_⟩
  · obtain ⟨vs, h1, h2⟩ := key r
    obtain ⟨v, hv, _⟩ := h2.get (List.getElem?_eq_getElem hi)
    exact ⟨vs, v, h1, hv⟩
  · obtain ⟨vs, h1, h2⟩ := key r
    exact ⟨vs, h1, by rw [← h2.length]; exact hi⟩
  · obtain ⟨vs, h1, h2⟩ := key r
    obtain ⟨rfl, y⟩ := y
    obtain ⟨v, hv, rv⟩ := h2.get (List.getElem?_eq_getElem hi)
    have := y vs h1
    rw [hv] at this; cases this
    exact ⟨l[i], List.getElem?_eq_getElem hi, Ext.refl _ _, S, rv⟩
theorem src_str {K : PySem.W.Frag} {s : List Nat} {gd : Store → Prop} : Src K cl (Its ⟨s.toArray⟩) (fun _ _ => True) gd (s.map fun c => .str [c]) := by
  refine ⟨fun _ _ _ => trivial, fun {ρ H st i} S r g hi => ?_, fun {ρ H st i} S r g hi => ?_, fun {ρ H st i x H'} S r g y hi => ?_⟩
  · show i < s.toArray.size
    simpa using hi
  · show s.toArray.size ≤ i
    simpa using hi
  · obtain ⟨rfl, c, hc, rfl⟩ := y
    refine ⟨.str [c], ?_, Ext.refl _ _, S, rfl⟩
    rw [List.getElem?_map]
    have hc : s.toArray[i]? = some c := hc
    rw [List.getElem?_toArray] at hc
    rw [hc]; rfl
theorem di_val (he : PE X e (tF X.K cl W fa)) : PI X tg e (tI X.K cl W (wVal fa)) := by
  refine PIw (PIor (pi_list he) (PIor (pi_tup he) (pi_str he))) fun σ H Q ⟨ρ, env, st, S, E, P⟩ => ?_
  unfold wVal at P
  have both : ∀ {R' : V → Hp → Prop}, (∀ v H1, (∃ ρ1 st1 a, fa env st = .ok a st1 ∧ Ext ρ H ρ1 H1 ∧ RS X.K ρ1 H1 cl st1 ∧ RRV X.K ρ1 H1 H a v) → R' v H1) → (∀ x st1, fa env st = .exc x st1 → Post X.K cl W σ (relV X.K) ρ H (.exc x st1 : R RV) R') → fa env st ≠ .bad → tF X.K cl W fa σ H R' := by
    intro R' h1 h2 h3
    refine ⟨ρ, env, st, S, E, ?_⟩
    cases hf : fa env st with
    | ok a st1 => exact fun ρ1 H1 v x1 S1 r1 => h1 v H1 ⟨ρ1, st1, a, hf, x1, S1, r1⟩
    | exc x st1 => exact h2 x st1 hf
    | bad => exact absurd hf h3
  cases hf : fa env st with
  | bad => rw [hf] at P; exact P.elim
  | exc x st1 =>
    rw [hf] at P
    refine .inl (both (fun v H1 ⟨_, _, _, e, _⟩ => by rw [hf] at e; cases e) (fun x' st' e => ?_) (by rw [hf]; exact fun z => by cases z))
    rw [hf] at e; cases e
    exact fun ρ' H' c d x S r => P ρ' H' c d x S r
  | ok a st1 =>
    rw [hf] at P
    have nox : ∀ {R' : V → Hp → Prop} x st', fa env st = .exc x st' → Post X.K cl W σ (relV X.K) ρ H (.exc x st' : R RV) R' := fun x st' e => by rw [hf] at e; cases e
    have nobad : fa env st ≠ .bad := by rw [hf]; exact fun z => by cases z
    rw [R.bind_ok] at P
    cases hi : itV st1 a with
    | none => rw [hi] at P; exact P.elim
    | some l =>
      rw [hi] at P
      have lists : (∀ st, itV st a = lstV st a) → iList X.K (tF X.K cl W fa) σ H Q := fun hn => by
        refine both (fun v H1 ⟨ρ1, st1', a', e, x1, S1, r1⟩ => ?_) nox nobad
        rw [hf] at e; cases e
        have hi' := hi
        rw [hn] at hi'
        obtain ⟨p, vs, rfl, h1, h2⟩ := lstV_ok S1 r1 hi'
        exact ⟨p, rfl, ⟨vs, h1⟩, P ρ1 H1 _ _ x1 S1 (src_list hn) r1 hi⟩
      cases a with
      | t l' => exact .inl (lists fun _ => rfl)
      | v d =>
        cases d with
        | tup l' =>
          cases hi
          refine .inr (.inl (both (fun v H1 ⟨ρ1, st1', a', e, x1, S1, r1⟩ => ?_) nox nobad))
          rw [hf] at e; cases e
          obtain ⟨p, vs, rfl, h1, h2⟩ := r1
          exact ⟨p, rfl, ⟨vs, h1⟩, P ρ1 H1 _ _ x1 S1 src_tup ⟨p, vs, rfl, h1, h2⟩ rfl⟩
        | str z =>
          cases hi
          refine .inr (.inr (both (fun v H1 ⟨ρ1, st1', a', e, x1, S1, r1⟩ => ?_) nox nobad))
          rw [hf] at e; cases e
          cases r1
          exact ⟨_, rfl, P ρ1 H1 _ _ x1 S1 src_str trivial rfl⟩
        | rol l' => exact .inl (lists fun _ => rfl)
        | ref n => exact .inl (lists fun _ => rfl)
        | _ => cases hi
/-! ### range -/
def rngL (lo : Int) (n : Nat) : List D := (List.range n).map fun (i : Nat) => .int (lo + i)
theorem src_rng {K : PySem.W.Frag} {lo : Int} {n : Nat} {gd : Store → Prop} : Src K cl (Itr lo n) (fun _ _ => True) gd (rngL lo n) := by
  have hl : (rngL lo n).length = n := by simp [rngL]
  refine ⟨fun _ _ _ => trivial, fun {ρ H st i} S r g hi => ?_, fun {ρ H st i} S r g hi => ?_, fun {ρ H st i x H'} S r g y hi => ?_⟩
  · rw [hl] at hi; exact hi
  · rw [hl] at hi; exact hi
  · obtain ⟨rfl, rfl⟩ := y
    rw [hl] at hi
    exact ⟨.int (lo + i), by simp [rngL, hi], Ext.refl _ _, S, rfl⟩
def rOk (j : Int) : Prop := -(2 ^ 62) ≤ j ∧ j < 2 ^ 62
def rOk2 (i j : Int) : Prop := -(2 ^ 62) ≤ i ∧ i < 2 ^ 62 ∧ -(2 ^ 62) ≤ j ∧ j < 2 ^ 62
open Classical in
noncomputable def wRng1 (fs : SEnv → Store → R (List RV)) : SEnv → Store → R Walk := fun env st => (fs env st).bind fun as st1 => match as with
  | [.v (.int j)] => if rOk j then .ok ⟨rngL 0 j.toNat, fun _ => True⟩ st1 else .bad
  | _ => .bad
open Classical in
noncomputable def wRng2 (fs : SEnv → Store → R (List RV)) : SEnv → Store → R Walk := fun env st => (fs env st).bind fun as st1 => match as with
  | [.v (.int i), .v (.int j)] => if rOk2 i j then .ok ⟨rngL i (j - i).toNat, fun _ => True⟩ st1 else .bad
  | _ => .bad
theorem PostI.bind {K : PySem.W.Frag} {σ : L2.St} {ρ : List Addr} {H : Hp} {α β : Type} {rel : Rel α β} {r : R α} {k : α → Store → R Walk} {Q : It → Hp → Prop} (h : PostI K cl W σ ρ H (r.bind k) Q) :
    Post K cl W σ rel ρ H r fun v H1 => ∃ ρ1 st1 a, Ext ρ H ρ1 H1 ∧ RS K ρ1 H1 cl st1 ∧ rel H ρ1 H1 a v ∧ PostI K cl W σ ρ H (k a st1) Q := by
  cases r with
  | ok a st1 => exact fun ρ1 H1 v x S1 r => ⟨ρ1, st1, a, x, S1, r, h⟩
  | exc e st1 => exact fun ρ1 H1 c d x S1 r => h ρ1 H1 c d x S1 r
  | bad => exact h
theorem di_rng1 {a : Expr} {fs : SEnv → Store → R (List RV)} {p pos : Pos} (hg : Gl X "range") (hm : X.mg "range" = none) (ha : PA X [a] (tG X.K cl W (relR X.K) fs)) (hs : starEach [a] X.env = [(false, eval a X.env)]) :
    PI X tg (.Call (.Name "range" p) [a] [] pos) (tI X.K cl W (wRng1 fs)) := by
  refine PIw (pi_range1 hg hm ha hs) fun σ H Q ⟨ρ, env, st, S, E, P⟩ => ?_
  refine ⟨ρ, env, st, S, E, (PostI.bind (rel := relR X.K) P).mono ?_⟩
  rintro xs H1 ⟨ρ1, st1, as, x1, S1, r1, P1⟩
  split at P1
  · rename_i j
    split at P1
    · rename_i hj
      obtain ⟨v, r, rfl, rv, rn⟩ := r1
      cases rv
      have : r = [] := rn
      subst this
      exact ⟨j, rfl, hj.1, hj.2, P1 ρ1 H1 _ _ x1 S1 src_rng trivial trivial⟩
    · exact P1.elim
  · exact P1.elim
theorem di_rng2 {a b : Expr} {fs : SEnv → Store → R (List RV)} {p pos : Pos} (hg : Gl X "range") (hm : X.mg "range" = none) (ha : PA X [a, b] (tG X.K cl W (relR X.K) fs)) (hs : starEach [a, b] X.env = [(false, eval a X.env), (false, eval b X.env)]) (hs2 : starEach [b] X.env = [(false, eval b X.env)]) :
    PI X tg (.Call (.Name "range" p) [a, b] [] pos) (tI X.K cl W (wRng2 fs)) := by
  refine PIw (pi_range2 hg hm ha hs hs2) fun σ H Q ⟨ρ, env, st, S, E, P⟩ => ?_
  refine ⟨ρ, env, st, S, E, (PostI.bind (rel := relR X.K) P).mono ?_⟩
  rintro xs H1 ⟨ρ1, st1, as, x1, S1, r1, P1⟩
  split at P1
  · rename_i i j
    split at P1
    · rename_i hj
      obtain ⟨v, r, rfl, rv, w, r', rfl, rw', rn⟩ := r1
      cases rv; cases rw'
      have : r' = [] := rn
      subst this
      exact ⟨i, j, rfl, hj, P1 ρ1 H1 _ _ x1 S1 src_rng trivial trivial⟩
    · exact P1.elim
  · exact P1.elim
end
/-! ### for -/
open Classical in
noncomputable def forL (gd : Store → Prop) (t : Tg) (f : SS) : List D → SS
  | [] => fun env st => .nx env st
  | d :: ds => fun env st => match t.put d env with
    | some env1 => (f env1 st).loop fun env2 st2 => if gd st2 then forL gd t f ds env2 st2 else .bad
    | none => .bad
noncomputable def sFor (w : SEnv → Store → R Walk) (t : Tg) (f : SS) : SS := fun env st => (w env st).toS env fun k st1 => forL k.gd t f k.l env st1
section
variable {X : Cx} {cl : Str → Option Addr} {W : WX} {tg iter : Expr} {body : List Stmt} {w : SEnv → Store → R Walk} {t : Tg} {f : SS} {pos : Pos}
theorem ds_for (hp : PassesOwn (model X.prog X.w) X.A X.env X.xe) (hc : X.calm = true) (hi : PI X tg iter (tI X.K cl W w)) (hg : PG X tg (t.g X.K)) (hb : PSs X body (tS X.K cl W f)) (hs : ∀ x, foldedSetIterable iter X.env x = pure x) :
    PS X (.For tg iter body [] pos) (tS X.K cl W (sFor w t f)) := by
  refine PSw (ps_for hp hc hi hg hb hs) fun D σ H ⟨ρ, env, st, S, E, P⟩ => ?_
  refine ⟨ρ, env, st, S, E, ?_⟩
  unfold sFor at P
  cases hw : w env st with
  | bad => rw [hw] at P; exact P
  | exc x st1 =>
    rw [hw] at P
    exact fun ρ' H' c d x S1 r => P ρ' H' σ c d x S1 (E.mono (x.mono S)) r
  | ok k st1 =>
    rw [hw] at P
    rw [R.toS_ok] at P
    intro ρ1 H1 J base x1 S1 so b1 g1
    have P1 := PostS.from S1 x1 P
    refine ⟨fun i m σ H => m = k.l.length - i ∧ i ≤ k.l.length ∧ ∃ ρ env st, RS X.K ρ H cl st ∧ RE X.K ρ H σ env ∧ base ρ H ∧ k.gd st ∧ PostS X.K cl W ρ H (forL k.gd t f (k.l.drop i) env st) D,
      ⟨k.l.length, by simp, Nat.zero_le _, ρ1, env, st1, S1, E.mono (x1.mono S), b1, g1, P1⟩, ?_⟩
    rintro i m σ2 H2 ⟨rfl, hi2, ρ2, env2, st2, S2, E2, b2, g2, P2⟩
    by_cases hlt : i < k.l.length
    · refine .inr ⟨so.go S2 b2 g2 hlt, fun σ' H' => ∃ ρ env st, RS X.K ρ H' cl st ∧ RE X.K ρ H' σ' env ∧ base ρ H' ∧ k.gd st ∧ PostS X.K cl W ρ H' (forL k.gd t f (k.l.drop (i + 1)) env st) D, fun σ' H' h => ⟨k.l.length - (i + 1), by omega, rfl, hlt, h⟩, fun x H3 y => ?_⟩
      obtain ⟨d, hd, x3, S3, r3⟩ := so.yld S2 b2 g2 y hlt
      have e1 : k.l.drop i = d :: k.l.drop (i + 1) := by
        rw [List.drop_eq_getElem_cons hlt]
        rw [List.getElem?_eq_getElem hlt] at hd
        cases hd; rfl
      rw [e1] at P2
      have P3 := PostS.from S3 x3 P2
      simp only [forL] at P3
      split at P3
      · rename_i env3 he
        refine Tg.ok (E2.mono (x3.mono S2)) r3 he fun σ' E' => ?_
        refine ⟨ρ2, env3, st2, S3, E', ?_⟩
        have b3 := so.keep S2 b2 x3
        cases hf : f env3 st2 with
        | nx env4 st4 =>
          rw [hf] at P3
          intro ρ4 H4 σ4 x4 S4 E4
          rw [SR.loop_nx] at P3
          split at P3
          · rename_i hgd
            exact ⟨ρ4, env4, st4, S4, E4, so.keep S3 b3 x4, hgd, PostS.from S4 x4 P3⟩
          · exact P3.elim
        | ct env4 st4 =>
          rw [hf] at P3
          intro ρ4 H4 σ4 x4 S4 E4
          rw [SR.loop_ct] at P3
          split at P3
          · rename_i hgd
            exact ⟨ρ4, env4, st4, S4, E4, so.keep S3 b3 x4, hgd, PostS.from S4 x4 P3⟩
          · exact P3.elim
        | brk env4 st4 => rw [hf] at P3; exact fun ρ4 H4 σ4 x4 S4 E4 => P3 ρ4 H4 σ4 x4 S4 E4
        | ret a st4 => rw [hf] at P3; exact P3
        | exc x env4 st4 => rw [hf] at P3; exact P3
        | bad => rw [hf] at P3; exact P3
      · exact P3.elim
    · have hi3 : i = k.l.length := by omega
      subst hi3
      rw [List.drop_length] at P2
      exact .inl ⟨so.stop S2 b2 g2 (Nat.le_refl _), P2 ρ2 H2 σ2 (Ext.refl _ _) S2 E2⟩
end
end Ev

/-! ## Ev7 -/
set_option Elab.async false
set_option linter.all false
set_option maxRecDepth 100000
/-! Ev7: list comprehensions. -/
namespace Ev
open PySem PySem.Spec PyProof.Rows L2

/-- what raises is not served -/
def R.bindN {α β : Type} (r : R α) (f : α → Store → R β) : R β := match r with
  | .ok a st => f a st
  | _ => .bad
@[simp] theorem R.bindN_ok {α β : Type} (a : α) (st : Store) (f : α → Store → R β) : (R.ok a st).bindN f = f a st := rfl
@[simp] theorem R.bindN_exc {α β : Type} (x : Exn) (st : Store) (f : α → Store → R β) : (R.exc x st : R α).bindN f = .bad := rfl
@[simp] theorem R.bindN_bad {α β : Type} (f : α → Store → R β) : (R.bad : R α).bindN f = .bad := rfl
def Tg.ix : Tg → List Nat
  | .one i => [i]
  | .many is => is
def wipeE (env : SEnv) : List Nat → SEnv
  | [] => env
  | v :: vs => (wipeE env vs).set v none
open Classical in
noncomputable def compL (gd : Store → Prop) (t : Tg) (tt : SEnv → Store → R Bool) (fe : SEnv → Store → R RV) (env : SEnv) : List D → Store → R (List D)
  | [] => fun st => .ok [] st
  | d :: ds => fun st => match t.put d env with
    | some env1 => (tt env1 st).bindN fun c st1 => if c = true then (fe env1 st1).bindN fun a st2 => (mat a st2).bind fun d' st3 => if gd st3 then (compL gd t tt fe env ds st3).bind fun r st4 => .ok (d' :: r) st4 else .bad
      else if gd st1 then compL gd t tt fe env ds st1 else .bad
    | none => .bad
noncomputable def eComp (w : SEnv → Store → R Walk) (t : Tg) (tt : SEnv → Store → R Bool) (own : List Nat) (fe : SEnv → Store → R RV) : SEnv → Store → R RV := fun env st =>
  (w env st).bind fun k st1 => if k.l.length ≤ sLine then (compL k.gd t tt fe (wipeE env own) k.l st1).bind fun r st2 => .ok (.t r) st2 else .bad
def ttYes : SEnv → Store → R Bool := fun _ st => .ok true st
abbrev W0 : WX := fun _ _ _ _ => False
section
variable {K : PySem.W.Frag} {ρ : List Addr} {H : Hp} {cl : Str → Option Addr}
theorem wipe_set_out {σ : L2.St} {i : Nat} {v : Option V} : ∀ {vs : List Nat}, i ∈ vs → wipe (σ.set i v) vs = wipe σ vs
  | w :: vs, h => by
    unfold wipe
    by_cases hv : i ∈ vs
    · rw [wipe_set_out hv]
    · have : i = w := by
        rcases List.mem_cons.mp h with e | e
        · exact e
        · exact absurd e hv
      subst this
      clear h
      have : ∀ {vs : List Nat}, i ∉ vs → wipe (σ.set i v) vs = (wipe σ vs).set i v := by
        intro vs
        induction vs with
        | nil => intro _; rfl
        | cons w' vs ih =>
          intro h
          unfold wipe
          rw [ih (fun z => h (List.mem_cons_of_mem _ z)), List.set_comm _ _ (fun z => h (by rw [z]; exact List.mem_cons_self))]
      rw [this hv, List.set_set]
theorem wipe_wipe {σ : L2.St} {vs : List Nat} : wipe (wipe σ vs) vs = wipe σ vs := by
  have key : ∀ (us : List Nat), (∀ u ∈ us, u ∈ vs) → wipe (wipe σ us) vs = wipe σ vs := by
    intro us
    induction us with
    | nil => intro _; rfl
    | cons u us ih =>
      intro h
      show wipe ((wipe σ us).set u none) vs = _
      rw [wipe_set_out (h u List.mem_cons_self), ih fun z hz => h z (List.mem_cons_of_mem _ hz)]
  exact key vs fun _ h => h
theorem RE.wipe {σ : L2.St} {env : SEnv} (E : RE K ρ H σ env) : ∀ vs : List Nat, RE K ρ H (L2.wipe σ vs) (wipeE env vs)
  | [] => E
  | v :: vs => by
    have ih := E.wipe vs
    refine ⟨?_, fun j d h => ?_⟩
    · show ((L2.wipe σ vs).set v none).length = ((wipeE env vs).set v none).length
      rw [List.length_set, List.length_set]
      exact ih.len
    · have h : ((wipeE env vs).set v none)[j]? = some (some d) := h
      by_cases hj : v = j
      · subst hj
        by_cases hl : v < (wipeE env vs).length
        · rw [List.getElem?_set_self hl] at h; cases h
        · rw [List.getElem?_eq_none (by rw [List.length_set]; omega)] at h; cases h
      · rw [List.getElem?_set_ne hj] at h
        obtain ⟨w, h1, h2⟩ := ih.at_ j d h
        exact ⟨w, by show ((L2.wipe σ vs).set v none)[j]? = _; rw [List.getElem?_set_ne hj]; exact h1, h2⟩
theorem gNames_okW : ∀ (is : List Nat) (ds : List D) (vs : List V) {σ : L2.St} {env : SEnv} {Q : L2.St → Hp → Prop} {own : List Nat}, (∀ i ∈ is, i ∈ own) → RE K ρ H σ env → RDs K ρ H ds vs → ds.length = is.length →
    (∀ σ', RE K ρ H σ' (setAll is ds env) → L2.wipe σ' own = L2.wipe σ own → Q σ' H) → gNames is vs σ H Q
  | [], ds, vs, σ, env, Q, own, ho, E, r, hl, q => by
    have : ds = [] := List.length_eq_zero_iff.mp hl
    subst this
    have : vs = [] := r
    subst this
    exact ⟨rfl, q _ E rfl⟩
  | i :: is, ds, vs, σ, env, Q, own, ho, E, r, hl, q => by
    cases ds with
    | nil => cases hl
    | cons d ds =>
      obtain ⟨v, vr, rfl, h1, h2⟩ := r
      exact ⟨v, vr, rfl, gNames_okW is ds vr (fun z hz => ho z (List.mem_cons_of_mem _ hz)) (E.set i h1) h2 (by simpa using hl) fun σ' E' e => q σ' E' (e.trans (wipe_set_out (ho i List.mem_cons_self)))⟩
theorem Tg.okW {t : Tg} {d : D} {v : V} {σ : L2.St} {env env' : SEnv} {Q : L2.St → Hp → Prop} {own : List Nat} (ho : ∀ i ∈ t.ix, i ∈ own) (E : RE K ρ H σ env) (r : RD K ρ H d v) (h : t.put d env = some env')
    (q : ∀ σ', RE K ρ H σ' env' → L2.wipe σ' own = L2.wipe σ own → Q σ' H) : t.g K v σ H Q := by
  cases t with
  | one i =>
    cases h
    exact q _ (E.set i r) (wipe_set_out (ho i (List.mem_singleton.mpr rfl)))
  | many is =>
    cases d with
    | tup l =>
      simp only [Tg.put] at h
      split at h
      · rename_i hl
        cases h
        obtain ⟨a, vs, rfl, h1, h2⟩ := r
        exact ⟨a, vs, rfl, h1, by rw [← h2.length]; exact hl, gNames_okW is l vs ho E h2 hl q⟩
      · cases h
    | _ => cases h
/-- a tracked list that is no cell is written -/
theorem RS.other {st : Store} (S : RS K ρ H cl st) {p : Addr} {vs ws : List V} (hp : H p = some (.lst vs)) (n : p ∉ ρ) : RS K ρ (upd H p (.lst ws)) cl st ∧ Mono K ρ H ρ (upd H p (.lst ws)) := by
  have m : Mono K ρ H ρ (upd H p (.lst ws)) := by
    refine ⟨⟨[], by simp⟩, fun a xs h => ?_, fun a xs h => ?_⟩
    · rcases h with (h | ⟨o, h⟩) | h
      · exact .inl (.inl (by rw [upd_ne (ne_of h hp fun z => by cases z)]; exact h))
      · exact .inl (.inr ⟨o, by rw [upd_ne (ne_of h hp fun z => by cases z)]; exact h⟩)
      · exact .inr h
    · rcases h with ⟨o, h⟩ | h
      · exact .inl ⟨o, by rw [upd_ne (ne_of h hp fun z => by cases z)]; exact h⟩
      · exact .inr h
  refine ⟨⟨S.len, S.nd, fun i c a h1 h2 => (S.at_ i c a h1 h2).mono m ?_⟩, m⟩
  rw [upd_ne]
  intro z
  subst z
  exact n (List.mem_of_getElem? h2)
theorem R.bind_push {d' : D} {accl : List D} {r : R (List D)} : ((r.bind fun r s => .ok (d' :: r) s).bind fun r s => (.ok (.t (accl ++ r)) s : R RV)) = r.bind fun r s => .ok (.t ((accl ++ [d']) ++ r)) s := by
  cases r <;> simp
end
section
variable {X : Cx} {cl : Str → Option Addr} {W : WX} {elt tg iter : Expr} {ifs : List Expr} {scope : Scope} {own : List (Str × Nat)} {pos : Pos} {w : SEnv → Store → R Walk} {t : Tg} {tt : SEnv → Store → R Bool} {fe : SEnv → Store → R RV}
theorem w_comp {K : PySem.W.Frag} (ho : ∀ i ∈ t.ix, i ∈ own.map (·.2)) (σ : L2.St) (H : Hp) (Q : VK) (h : tF K cl W (eComp w t tt (own.map (·.2)) fe) σ H Q) :
    tLc (tI K cl W w) (t.g K) (tB1 K cl W0 tt) (tF K cl W0 fe) (own.map (·.2)) σ H Q := by
  obtain ⟨ρ, env, st, S, E, P⟩ := h
  refine ⟨ρ, env, st, S, E, ?_⟩
  unfold eComp at P
  cases hw : w env st with
  | bad => rw [hw] at P; exact P
  | exc x st1 => rw [hw] at P; exact P
  | ok k st1 =>
    rw [hw, R.bind_ok] at P
    split at P
    rotate_left
    · exact P.elim
    rename_i hlen
    intro ρ1 H1 J base x1 S1 so b1 g1 D hD
    have nD : ∀ {ρ' : List Addr} {H' : Hp}, Ext ρ1 (upd H1 D (.lst [])) ρ' H' → D ∉ ρ' := fun x => (x.same D _ upd_same (fun z => by
      obtain ⟨o, e, _⟩ := S1.obj z
      rw [hD] at e; cases e)).2
    have nD1 : D ∉ ρ1 := fun z => by
      obtain ⟨o, e, _⟩ := S1.obj z
      rw [hD] at e; cases e
    have D0 : H D = none := x1.free S1 hD
    generalize hwv : own.map (·.2) = vs at *
    refine ⟨fun i m H' => m = k.l.length - i ∧ i ≤ k.l.length ∧ ∃ ρ' st' acc accl, RS K ρ' H' cl st' ∧ Ext ρ1 H1 ρ' H' ∧ H' D = some (.lst acc) ∧ D ∉ ρ' ∧ RDs K ρ' H' accl acc ∧ accl.length ≤ i ∧ k.gd st' ∧
        Post K cl W σ (relV K) ρ H ((compL k.gd t tt fe (wipeE env vs) (k.l.drop i) st').bind fun r st2 => .ok (.t (accl ++ r)) st2) Q,
      ⟨k.l.length, by simp, Nat.zero_le _, ρ1, st1, [], [], S1.new hD, Ext.new hD, upd_same, nD1, rfl, Nat.le_refl _, g1, P⟩, ?_⟩
    rintro i m H2 ⟨rfl, hi2, ρ2, st2, acc, accl, S2, x2, hD2, nD2, ra, hacc, g2, P2⟩
    have b2 := so.keep S1 b1 x2
    have E2 : RE K ρ2 H2 (L2.wipe σ vs) (wipeE env vs) := ((E.mono (x1.mono S)).mono (x2.mono S1)).wipe vs
    by_cases hlt : i < k.l.length
    rotate_left
    · have hi3 : i = k.l.length := by omega
      subst hi3
      rw [List.drop_length] at P2
      refine .inl ⟨so.stop S2 b2 g2 (Nat.le_refl _), ?_⟩
      simp only [compL, R.bind_ok, List.append_nil] at P2
      exact P2 ρ2 H2 _ (x1.trans x2) S2 ⟨D, acc, rfl, hD2, nD2, D0, ra⟩
    refine .inr ⟨so.go S2 b2 g2 hlt, fun H' => ∃ ρ' st' acc accl, RS K ρ' H' cl st' ∧ Ext ρ1 H1 ρ' H' ∧ H' D = some (.lst acc) ∧ D ∉ ρ' ∧ RDs K ρ' H' accl acc ∧ accl.length ≤ i + 1 ∧ k.gd st' ∧
        Post K cl W σ (relV K) ρ H ((compL k.gd t tt fe (wipeE env vs) (k.l.drop (i + 1)) st').bind fun r st2 => .ok (.t (accl ++ r)) st2) Q, fun H' h => ⟨k.l.length - (i + 1), by omega, rfl, hlt, h⟩, fun x H3 y => ?_⟩
    obtain ⟨d, hd, x3, S3, r3⟩ := so.yld S2 b2 g2 y hlt
    have hD3 := x3.same D _ hD2 nD2
    have x13 := x2.trans x3
    have ra3 := RDs.mono (x3.mono S2) _ _ ra
    have e1 : k.l.drop i = d :: k.l.drop (i + 1) := by
      rw [List.drop_eq_getElem_cons hlt]
      rw [List.getElem?_eq_getElem hlt] at hd
      cases hd; rfl
    rw [e1] at P2
    simp only [compL] at P2
    split at P2
    rotate_left
    · exact P2.elim
    rename_i env3 he
    refine Tg.okW ho (E2.mono (x3.mono S2)) r3 he fun σ3 E3 hw3 => ⟨hw3.trans wipe_wipe, ?_⟩
    refine ⟨ρ2, env3, st2, S3, E3, ?_⟩
    cases ht : tt env3 st2 with
    | bad => rw [ht] at P2; exact P2.elim
    | exc x st4 => rw [ht] at P2; exact P2.elim
    | ok c st4 =>
      rw [ht, R.bindN_ok] at P2
      intro ρ4 H4 c' x4 S4 hc
      have hc : c = c' := hc
      subst hc
      have hD4 := x4.same D _ hD3.1 hD3.2
      have x14 := x13.trans x4
      have ra4 := RDs.mono (x4.mono S3) _ _ ra3
      cases c with
      | false =>
        rw [if_neg Bool.false_ne_true] at P2 ⊢
        split at P2
        · rename_i hg
          exact ⟨ρ4, st4, acc, accl, S4, x14, hD4.1, hD4.2, ra4, by omega, hg, P2⟩
        · exact P2.elim
      | true =>
        rw [if_pos rfl] at P2 ⊢
        refine ⟨ρ4, env3, st4, S4, E3.mono (x4.mono S3), ?_⟩
        cases hf : fe env3 st4 with
        | bad => rw [hf] at P2; exact P2.elim
        | exc x st5 => rw [hf] at P2; exact P2.elim
        | ok a st5 =>
          rw [hf, R.bindN_ok] at P2
          intro ρ5 H5 v x5 S5 r5
          obtain ⟨d', st6, ρ6, e6, x6, S6, r6, m6⟩ := mat_ok S5 x5 r5
          rw [e6, R.bind_ok] at P2
          have hD6 := x6.same D _ hD4.1 hD4.2
          have ra6 := RDs.mono (x6.mono S4) _ _ ra4
          split at P2
          · rename_i hg
            obtain ⟨S7, m7⟩ := S6.other (ws := acc ++ [v]) hD6.1 hD6.2
            refine ⟨acc, hD6.1, ?_, ρ6, st6, acc ++ [v], accl ++ [d'], S7, ⟨(x14.trans x6).pre, fun b o hb nb => ?_⟩, upd_same, hD6.2, RDs.mono m7 _ _ (ra6.append ⟨v, [], rfl, r6, rfl⟩), by rw [List.length_append]; show accl.length + 1 ≤ _; omega, hg, ?_⟩
            · rw [← RDs.length ra4, sLine_eq]; omega
            · obtain ⟨h1, h2⟩ := (x14.trans x6).same b o hb nb
              exact ⟨by rw [upd_ne (ne_of_none hb hD)]; exact h1, h2⟩
            · rw [R.bind_push] at P2
              exact P2
          · exact P2.elim
theorem de_comp (hc : X.calm = true) (hN : X.N.Nodup) (hi : PI X tg iter (tI X.K cl W w)) (ok : BlkOk X.N X.env.scope scope own) (ho : ∀ i ∈ t.ix, i ∈ own.map (·.2))
    (hg : ∀ (s : Shared) (H : Hp) (C : Addr) (c : List (Str × Addr)) (fp : List Addr), PG (X.blk s H scope (compEnvC scope c C X.env) fp) tg (t.g X.K))
    (ht : ∀ (s : Shared) (H : Hp) (C : Addr) (c : List (Str × Addr)) (fp : List Addr), PTs (X.blk s H scope (compEnvC scope c C X.env) fp) ifs (tB1 X.K cl W0 tt))
    (he : ∀ (s : Shared) (H : Hp) (C : Addr) (c : List (Str × Addr)) (fp : List Addr), PE (X.blk s H scope (compEnvC scope c C X.env) fp) elt (tF X.K cl W0 fe)) (hs : ∀ x, foldedSetIterable iter X.env x = pure x) :
    PE X (.ListComp elt [⟨tg, iter, ifs, 0⟩] scope pos) (tF X.K cl W (eComp w t tt (own.map (·.2)) fe)) :=
  PEw (pe_lc hc hN hi ok hg ht he hs) (w_comp ho)
theorem ds_setComp {i : Nat} {y : Str} {py spos : Pos} (hc : X.calm = true) (hN : X.N.Nodup) (hy : X.N[i]? = some y) (hyl : X.env.scope.names.lookup y = some .local)
    (hsw : swapsWith (.ListComp elt [⟨tg, iter, ifs, 0⟩] scope pos) (some (.Name y py)) spos.line X.env = pure true) (hi : PI X tg iter (tI X.K cl W w)) (ok : BlkOk X.N X.env.scope scope own) (ho : ∀ i ∈ t.ix, i ∈ own.map (·.2))
    (hg : ∀ (s : Shared) (H : Hp) (C : Addr) (c : List (Str × Addr)) (fp : List Addr), PG (X.blk s H scope (compEnvC scope c C X.env) fp) tg (t.g X.K))
    (ht : ∀ (s : Shared) (H : Hp) (C : Addr) (c : List (Str × Addr)) (fp : List Addr), PTs (X.blk s H scope (compEnvC scope c C X.env) fp) ifs (tB1 X.K cl W0 tt))
    (he : ∀ (s : Shared) (H : Hp) (C : Addr) (c : List (Str × Addr)) (fp : List Addr), PE (X.blk s H scope (compEnvC scope c C X.env) fp) elt (tF X.K cl W0 fe)) (hs : ∀ x, foldedSetIterable iter X.env x = pure x) :
    PS X (.Assign [.Name y py] (.ListComp elt [⟨tg, iter, ifs, 0⟩] scope pos) spos) (tS X.K cl W (sSet i (eComp w t tt (own.map (·.2)) fe))) := by
  refine PSw (ps_setLc hc hN hy hyl hsw hi ok hg ht he hs) fun D σ H h => ?_
  exact w_comp ho σ H _ (by
    obtain ⟨ρ, env, st, S, E, P⟩ := h
    refine ⟨ρ, env, st, S, E, (PostS.toS (rel := relV X.K) S E P).mono ?_⟩
    rintro x H1 ⟨ρ1, st1, a, x1, S1, r1, P1⟩
    obtain ⟨d, st2, ρ2, e2, x2, S2, r2, m2⟩ := mat_ok S1 x1 r1
    rw [e2, R.toS_ok] at P1
    exact P1 ρ2 H1 _ x2 S2 (((E.mono (x1.mono S)).mono m2).set i r2))
theorem dts_nil : PTs X [] (tB1 X.K cl W ttYes) := ⟨fun pins s σ H Q I ⟨ρ, env, st, S, E, P⟩ => (pts_nil (X := X)).run pins s σ H Q I (P ρ H true (Ext.refl _ _) S rfl)⟩
theorem dts_one {c : Expr} {g : SEnv → Store → R Bool} (h : PT X c (tB1 X.K cl W g)) : PTs X [c] (tB1 X.K cl W g) := pts_one h
end
end Ev

/-! ## Ev8 -/
set_option Elab.async false
set_option linter.all false
set_option maxRecDepth 100000
/-! Ev8: calls of the text's own defs. -/
namespace Ev
open PySem PySem.Spec PyProof.Rows L2

/-! ### leaving a def: what it made for itself is forgotten -/
def Cell.low (n : Nat) : Cell → Bool
  | .lst l => D.lows n l
  | .dict _ kvs => kvs.all fun p => D.low n p.1 && D.low n p.2
  | .ins _ fs => fs.all fun p => D.low n p.2
def Exn.low (n : Nat) (x : Exn) : Bool := x.fs.all fun p => D.low n p.2
def outV (n : Nat) (st' : Store) : RV → Option RV
  | .t l => if D.lows n l then some (.t l) else none
  | .v (.ref m) => if m < n then some (.v (.ref m)) else match st'[m]? with
    | some (.lst l) => if D.lows n l then some (.t l) else none
    | _ => none
  | .v d => if D.low n d then some (.v d) else none
/-- the older cells hold nothing new -/
def Keeps (st st' : Store) : Prop := ∀ (i : Nat) (c : Cell), i < st.length → st'[i]? = some c → st[i]? = some c ∨ Cell.low st.length c = true
open Classical in
noncomputable def leave (st : Store) (r : R RV) : R RV := match r with
  | .ok a st' => match outV st.length st' a with
    | some a' => if Keeps st st' then .ok a' (st'.take st.length) else .ok a st'
    | none => .ok a st'
  | .exc x st' => if Exn.low st.length x = true ∧ Keeps st st' then .exc x (st'.take st.length) else .exc x st'
  | .bad => .bad
def SR.toR (r : SR) : R RV := match r with
  | .nx _ st => .ok (.v .non) st
  | .ret a st => .ok a st
  | .exc x _ st => .exc x st
  | _ => .bad
def startE (n : Nat) (ds : List D) : SEnv := ds.map some ++ List.replicate (n - ds.length) none
noncomputable def callB (n : Nat) (g : SS) : List D → Store → R RV := fun ds st => leave st (g (startE n ds) st).toR
section
variable {K : PySem.W.Frag} {cl : Str → Option Addr} {ρ m : List Addr} {H : Hp} {st : Store}
mutual
theorem RD.down : ∀ (d : D) (v : V), RD K (ρ ++ m) H d v → D.low ρ.length d = true → RD K ρ H d v
  | .non, _, h, _ => h
  | .bl _, _, h, _ => h
  | .int _, _, h, _ => h
  | .str _, _, h, _ => h
  | .tup l, _, h, hl => by
    obtain ⟨a, vs, rfl, h1, h2⟩ := h
    exact ⟨a, vs, rfl, h1, RDs.down l vs h2 (by simpa [D.low] using hl)⟩
  | .rol l, _, h, hl => by
    obtain ⟨a, vs, rfl, h1, h2⟩ := h
    exact ⟨a, vs, rfl, h1, RDs.down l vs h2 (by simpa [D.low] using hl)⟩
  | .ref n, _, h, hl => by
    obtain ⟨a, rfl, h1⟩ := h
    have hn : n < ρ.length := by simpa [D.low] using hl
    rw [List.getElem?_append_left hn] at h1
    exact ⟨a, rfl, h1⟩
theorem RDs.down : ∀ (l : List D) (vs : List V), RDs K (ρ ++ m) H l vs → D.lows ρ.length l = true → RDs K ρ H l vs
  | [], _, h, _ => h
  | d :: l, _, h, hl => by
    obtain ⟨v, r, rfl, h1, h2⟩ := h
    simp only [D.lows, Bool.and_eq_true] at hl
    exact ⟨v, r, rfl, RD.down d v h1 hl.1, RDs.down l r h2 hl.2⟩
end
mutual
theorem RD.low : ∀ (d : D) (v : V), RD K ρ H d v → D.low ρ.length d = true
  | .non, _, h => by simp [D.low]
  | .bl _, _, h => by simp [D.low]
  | .int _, _, h => by simp [D.low]
  | .str _, _, h => by simp [D.low]
  | .tup l, _, h => by
    obtain ⟨a, vs, rfl, h1, h2⟩ := h
    simp only [D.low]; exact RDs.low l vs h2
  | .rol l, _, h => by
    obtain ⟨a, vs, rfl, h1, h2⟩ := h
    simp only [D.low]; exact RDs.low l vs h2
  | .ref n, _, h => by
    obtain ⟨a, rfl, h1⟩ := h
    simpa [D.low] using (List.getElem?_eq_some_iff.mp h1).1
theorem RDs.low : ∀ (l : List D) (vs : List V), RDs K ρ H l vs → D.lows ρ.length l = true
  | [], _, h => by simp [D.lows]
  | d :: l, _, h => by
    obtain ⟨v, r, rfl, h1, h2⟩ := h
    simp only [D.lows, Bool.and_eq_true]
    exact ⟨RD.low d v h1, RDs.low l r h2⟩
end
theorem RKey.low {d : D} {k : Key} {n : Nat} (h : RKey d k) : D.low n d = true := by cases h <;> simp [D.low]
theorem RKeys.low {n : Nat} : ∀ {l : List D} {ks : List Key}, RKeys l ks → D.lows n l = true
  | _, _, .nil => by simp [D.lows]
  | _, _, .cons h t => by simp only [D.lows, Bool.and_eq_true]; exact ⟨h.low, RKeys.low t⟩
theorem RKT.low {d : D} {k : List Key} {n : Nat} (h : RKT d k) : D.low n d = true := by
  cases h with
  | tup h => simp only [D.low]; exact h.low
theorem RC.low {a : Addr} : ∀ {c : Cell}, RC K ρ H cl a c → Cell.low ρ.length c = true
  | .lst l, h => by obtain ⟨vs, _, h⟩ := h; exact RDs.low l vs h
  | .dict t l, h => by
    have k1 : ∀ (l : List (D × D)) vs, RKV K ρ H l vs → Cell.low ρ.length (.dict t l) = true := by
      intro l
      induction l with
      | nil => intro _ _; rfl
      | cons p l ih =>
        rintro _ ⟨k', v, r, rfl, h0, h1, h2⟩
        have := ih _ h2
        simp only [Cell.low, List.all_cons, Bool.and_eq_true] at this ⊢
        exact ⟨⟨h0.low, RD.low _ _ h1⟩, this⟩
    have k2 : ∀ (l : List (D × D)) vs, RKVT K ρ H l vs → Cell.low ρ.length (.dict t l) = true := by
      intro l
      induction l with
      | nil => intro _ _; rfl
      | cons p l ih =>
        rintro _ ⟨k', v, r, rfl, h0, h1, h2⟩
        have := ih _ h2
        simp only [Cell.low, List.all_cons, Bool.and_eq_true] at this ⊢
        exact ⟨⟨h0.low, RD.low _ _ h1⟩, this⟩
    obtain ⟨_, vs, _, h⟩ | ⟨_, vs, _, h⟩ := h
    · exact k1 _ _ h
    · exact k2 _ _ h
  | .ins c fs, h => by
    obtain ⟨C, dx, vs, _, _, h⟩ := h
    have k1 : ∀ (l : List (Str × D)) vs, RFs K ρ H l vs → Cell.low ρ.length (.ins c l) = true := by
      intro l
      induction l with
      | nil => intro _ _; rfl
      | cons p l ih =>
        rintro _ ⟨v, r, rfl, h1, h2⟩
        have := ih _ h2
        simp only [Cell.low, List.all_cons, Bool.and_eq_true] at this ⊢
        exact ⟨RD.low _ _ h1, this⟩
    exact k1 _ _ h
theorem RFs.down : ∀ {l : List (Str × D)} {vs : List (Str × V)}, RFs K (ρ ++ m) H l vs → (l.all fun p => D.low ρ.length p.2) = true → RFs K ρ H l vs
  | [], _, h, _ => h
  | (f, d) :: l, _, h, hl => by
    obtain ⟨v, r, rfl, h1, h2⟩ := h
    simp only [List.all_cons, Bool.and_eq_true] at hl
    exact ⟨v, r, rfl, RD.down d v h1 hl.1, RFs.down h2 hl.2⟩
theorem RC.down {a : Addr} : ∀ {c : Cell}, RC K (ρ ++ m) H cl a c → Cell.low ρ.length c = true → RC K ρ H cl a c
  | .lst l, h, hl => by obtain ⟨vs, e, h⟩ := h; exact ⟨vs, e, RDs.down l vs h hl⟩
  | .dict t l, h, hl => by
    have k1 : ∀ (l : List (D × D)) vs, RKV K (ρ ++ m) H l vs → Cell.low ρ.length (.dict t l) = true → RKV K ρ H l vs := by
      intro l
      induction l with
      | nil => intro _ h _; exact h
      | cons p l ih =>
        rintro _ ⟨k', v, r, rfl, h0, h1, h2⟩ hl
        simp only [Cell.low, List.all_cons, Bool.and_eq_true] at hl
        exact ⟨k', v, r, rfl, h0, RD.down _ _ h1 hl.1.2, ih _ h2 hl.2⟩
    have k2 : ∀ (l : List (D × D)) vs, RKVT K (ρ ++ m) H l vs → Cell.low ρ.length (.dict t l) = true → RKVT K ρ H l vs := by
      intro l
      induction l with
      | nil => intro _ h _; exact h
      | cons p l ih =>
        rintro _ ⟨k', v, r, rfl, h0, h1, h2⟩ hl
        simp only [Cell.low, List.all_cons, Bool.and_eq_true] at hl
        exact ⟨k', v, r, rfl, h0, RD.down _ _ h1 hl.1.2, ih _ h2 hl.2⟩
    obtain ⟨ht, vs, e, h⟩ | ⟨ht, vs, e, h⟩ := h
    · exact .inl ⟨ht, vs, e, k1 _ _ h hl⟩
    · exact .inr ⟨ht, vs, e, k2 _ _ h hl⟩
  | .ins c fs, h, hl => by
    obtain ⟨C, dx, vs, e0, e, h⟩ := h
    exact ⟨C, dx, vs, e0, e, RFs.down h hl⟩
theorem RS.cut {ρ' : List Addr} {H' : Hp} {st' : Store} (S : RS K ρ H cl st) (x : Ext ρ H ρ' H') (S' : RS K ρ' H' cl st') (k : Keeps st st') : RS K ρ H' cl (st'.take st.length) := by
  obtain ⟨more, rfl⟩ := x.pre
  have hl : st.length ≤ st'.length := by
    rw [← S'.len, ← S.len, List.length_append]
    omega
  refine ⟨by rw [List.length_take, S.len]; omega, S.nd, fun i c a h1 h2 => ?_⟩
  have hi : i < st.length := by rw [← S.len]; exact (List.getElem?_eq_some_iff.mp h2).1
  rw [List.getElem?_take_of_lt hi] at h1
  have h3 : (ρ ++ more)[i]? = some a := by rw [List.getElem?_append_left (by rw [S.len]; exact hi)]; exact h2
  refine RC.down (S'.at_ i c a h1 h3) ?_
  rcases k i c hi h1 with e | e
  · exact RC.low (S.at_ i c a e h2)
  · rw [S.len]; exact e
theorem Ext.cut {ρ' : List Addr} {H' : Hp} (x : Ext ρ H ρ' H') : Ext ρ H ρ H' := by
  obtain ⟨more, rfl⟩ := x.pre
  exact ⟨⟨[], by simp⟩, fun a o h n => ⟨(x.same a o h n).1, n⟩⟩
theorem outV_ok {ρ' : List Addr} {H' : Hp} {st' : Store} {a a' : RV} {v : V} (S : RS K ρ H cl st) (x : Ext ρ H ρ' H') (S' : RS K ρ' H' cl st') (r : RRV K ρ' H' H a v) (h : outV st.length st' a = some a') : RRV K ρ H' H a' v := by
  obtain ⟨more, rfl⟩ := x.pre
  rw [← S.len] at h
  cases a with
  | t l =>
    simp only [outV] at h
    split at h
    · rename_i hl
      cases h
      obtain ⟨p, vs, rfl, h1, h2, h3, h4⟩ := r
      exact ⟨p, vs, rfl, h1, fun z => h2 (List.mem_append_left _ z), h3, RDs.down l vs h4 hl⟩
    · cases h
  | v d =>
    cases d with
    | ref n =>
      simp only [outV] at h
      split at h
      · rename_i hl
        cases h
        exact RD.down _ _ r (by simpa [D.low] using hl)
      · rename_i hn
        split at h
        · rename_i l e
          split at h
          · rename_i hl
            cases h
            obtain ⟨p, rfl, hp⟩ := r
            obtain ⟨vs, h1, h2⟩ := S'.at_ _ _ _ e hp
            have np : p ∉ ρ := fun z => by
              rw [List.getElem?_append_right (by omega)] at hp
              exact (List.nodup_append.mp S'.nd).2.2 p z p (List.mem_of_getElem? hp) rfl
            refine ⟨p, vs, rfl, h1, np, ?_, RDs.down l vs h2 hl⟩
            cases q : H p with
            | none => rfl
            | some o => exact absurd (List.mem_of_getElem? hp) (x.same p o q np).2
          · cases h
        · cases h
    | _ =>
      simp only [outV] at h
      split at h
      · rename_i hl
        cases h
        exact RD.down (m := more) _ _ r hl
      · cases h
end
/-! ### what a call leaves -/
def PostC (K : PySem.W.Frag) (cl : Str → Option Addr) (ρ : List Addr) (H : Hp) (r : R RV) (Q : VK) (E : XK) : Prop := match r with
  | .ok a st' => ∀ ρ' H' v, Ext ρ H ρ' H' → RS K ρ' H' cl st' → RRV K ρ' H' H a v → Q v H'
  | .exc x st' => ∀ ρ' H' c d, Ext ρ H ρ' H' → RS K ρ' H' cl st' → RX K ρ' H' cl c d x → E c d H'
  | .bad => False
/-- the promise of a def that c describes -/
def spD (K : PySem.W.Frag) (cl : Str → Option Addr) (n : Nat) (c : List D → Store → R RV) : Sp := fun vs H Q E => ∃ ρ st ds, RS K ρ H cl st ∧ RDs K ρ H ds vs ∧ ds.length = n ∧ PostC K cl ρ H (c ds st) Q E
theorem PostC.body {K : PySem.W.Frag} {cl : Str → Option Addr} {ρ : List Addr} {H : Hp} {st : Store} {r : SR} {Q : VK} {E : XK} (S : RS K ρ H cl st) (h : PostC K cl ρ H (leave st r.toR) Q E) :
    PostS K cl (fun c d _ H => E c d H) ρ H r { nx := fun _ H' => Q .non H', rt := Q } := by
  have ret : ∀ a st', PostC K cl ρ H (leave st (.ok a st')) Q E → ∀ ρ' H' v, Ext ρ H ρ' H' → RS K ρ' H' cl st' → RRV K ρ' H' H a v → Q v H' := by
    intro a st' h ρ' H' v x S' r
    simp only [leave] at h
    split at h
    · rename_i a' e
      split at h
      · rename_i hk
        exact h ρ H' v x.cut (S.cut x S' hk) (outV_ok S x S' r e)
      · exact h ρ' H' v x S' r
    · exact h ρ' H' v x S' r
  cases r with
  | nx env st' => exact fun ρ' H' σ' x S' E' => ret (.v .non) st' h ρ' H' .non x S' rfl
  | ret a st' => exact fun ρ' H' v x S' r => ret a st' h ρ' H' v x S' r
  | exc e env st' =>
    intro ρ' H' σ' c d x S' E' r
    have h : PostC K cl ρ H (leave st (.exc e st')) Q E := h
    simp only [leave] at h
    split at h
    · rename_i hk
      refine h ρ H' c d x.cut (S.cut x S' hk.2) ?_
      obtain ⟨more, rfl⟩ := x.pre
      obtain ⟨C, h1, h2, h3⟩ := r
      refine ⟨C, h1, h2, ?_⟩
      rcases h3 with h3 | ⟨dx, vs, e1, e2, e3⟩
      · exact .inl h3
      · exact .inr ⟨dx, vs, e1, e2, RFs.down e3 (by rw [S.len]; exact hk.1)⟩
    · exact h ρ' H' c d x S' r
  | brk env st' => exact h.elim
  | ct env st' => exact h.elim
  | bad => exact h.elim
/-- a def's promise, where no object is being shown -/
structure FnG (P : Program) (w : World) (K : PySem.W.Frag) (mg : Str → Option Value) (base : Heap) (k : Nat) (f : Addr) (fd : FuncData) (ps : List Str) (sp : Sp) : Prop where
  cnt : ∀ vs H Q E, sp vs H Q E → vs.length = ps.length
  go : ∀ (A : Around) (fr : List Env) (z : Shared) (H : Hp) (as : Args) (us : List Value) (vs : List V) (Q : VK) (E : XK), A.guards = some [] → Room k A → Env0 P w K mg base A fr z H → BindsTo z fd as (ps.zip us) → Vals vs us → sp vs H Q E →
    codeAny (model P w) A (.call (.ref f) as) (CR (L2.CX P w) fr P w H z Q E) z
theorem FnG.up {P : Program} {w : World} {K : PySem.W.Frag} {mg : Str → Option Value} {base : Heap} {j k : Nat} {f : Addr} {fd : FuncData} {ps : List Str} {sp : Sp} (F : FnG P w K mg base j f fd ps sp) (h : j ≤ k) : FnG P w K mg base k f fd ps sp :=
  ⟨F.cnt, fun A fr z H as us vs Q E hg hr => F.go A fr z H as us vs Q E hg (hr.mono h)⟩
section
variable {X : Cx} {cl : Str → Option Addr} {W : WX} {k : Nat} {f : Addr} {fd : FuncData} {ps : List Str} {c : List D → Store → R RV} {n : Nat}
/-- the callee runs -/
theorem run_G {pins : List (Addr × Obj)} {σ : L2.St} {H : Hp} {z : Shared} {Q : VK} {us : List Value} {vs : List V} {sp : Sp} {E : XK} {vd : List V} {ud : List Value} (F : FnG X.prog X.w X.K X.mg X.base k f fd ps sp) (hg : X.A.guards = some []) (hr : Room k X.A) (hb : Binds X.K fd ps ud) (hd : Vals vd ud)
    (hx : PassesAt (L2.CX X.prog X.w) X σ E) (I : Inv X pins σ H z) (r : Vals vs us) (h : sp (vs ++ vd) H Q E) : wpAny (model X.prog X.w) X.A (call (.ref f) us) (EP X pins σ Q) X.xe z := by
  have rr := r.append hd
  have hn : (us ++ ud).length = ps.length := rr.length.symm.trans (F.cnt _ _ _ _ h)
  have run := F.go X.A X.stack z H ⟨us, []⟩ (us ++ ud) (vs ++ vd) Q E hg hr I.env0 (hb z us I.kIn hn) rr h
  refine wpAny_call (codeAny_mono run fun res z' q => ?_)
  match res, q with
  | .error e, q => exact hx pins H z e z' I q
  | .ok (.ret u), q => exact I.after q
/-- what may be raised is taken, at the slots of the caller -/
theorem takesAt (tk : Takes X W) (σ : L2.St) : PassesAt (L2.CX X.prog X.w) X σ (fun c d H => W c d σ H) := fun pins H s e s' I c =>
  tk e s' (XE.of_call I (fun cls d H' h => h) c)
/-- f(e, ..) -/
def eCall (c : List D → Store → R RV) (dfl : List D) (fr : SEnv → Store → R (List D)) : SEnv → Store → R RV := fun env st => (fr env st).bind fun ds st1 => c (ds ++ dfl) st1
variable {x : Str} {p pos : Pos} {e : Expr} {es : List Expr} {fr : SEnv → Store → R (List D)} {dfl : List D} {dv : List V} {ud : List Value}
theorem de_call (F : FnG X.prog X.w X.K X.mg X.base k f fd ps (spD X.K cl n c)) (hgd : X.A.guards = some []) (hr : Room k X.A) (hg : Gl X x) (hm : X.mg x = some (.ref f)) (hk : PySem.W.keepIn X.K (.ref f) = true) (hb : Binds X.K fd ps ud) (hd : Vals dv ud)
    (hdd : ∀ ρ H, RDs X.K ρ H dfl dv) (tk : Takes X W) (ha : PA X (e :: es) (tA1 X.K cl W fr)) (hdb : (x == ("__debug__" : Str)) = false) (he : starEach (e :: es) X.env = (false, eval e X.env) :: starEach es X.env) (hpl : (backTo pos (starEach es X.env)).any (·.1) = false)
    (hn : ∀ env st ds st1, fr env st = .ok ds st1 → (ds ++ dfl).length = n) : PE X (.Call (.Name x p) (e :: es) [] pos) (tF X.K cl W (eCall c dfl fr)) := by
  refine ⟨fun pins s σ H Q I ⟨ρ, env, st, S, E, P⟩ => ?_⟩
  refine wpAny_Call_Name_kw (ld_glob I hg hm ?_ hdb)
  have args : tA1 X.K cl W fr σ H fun vs H1 => spD X.K cl n c (vs ++ dv) H1 Q fun c' d H' => W c' d σ H' := by
    refine ⟨ρ, env, st, S, E, ?_⟩
    unfold eCall at P
    cases hf : fr env st with
    | bad => rw [hf] at P; exact P
    | exc x st1 => rw [hf] at P; exact P
    | ok ds st1 =>
      rw [hf] at P
      intro ρ1 H1 vs x1 S1 r1
      refine ⟨ρ1, st1, ds ++ dfl, S1, r1.append (hdd ρ1 H1), hn _ _ _ _ hf, ?_⟩
      have P1 := Post.from backV S1 x1 P
      simp only [R.bind_ok] at P1
      cases hc : c (ds ++ dfl) st1 with
      | ok a st2 => rw [hc] at P1; exact P1
      | exc x st2 => rw [hc] at P1; exact P1
      | bad => rw [hc] at P1; exact P1
  refine PySem.W.callWith_K (h₀ := X.base) I.ok.mod.kin hk (thn (ha.run pos pins s σ H _ I args) fun us s1 ⟨vs, H1, I1, r, q⟩ => ⟨I1.kIn, ?_⟩) he hpl
  exact run_G F hgd hr hb hd (takesAt tk σ) I1 r q
end
/-! ### a def by its body -/
theorem RE.atStart {K : PySem.W.Frag} {ρ : List Addr} {H : Hp} {N : List Str} {ds : List D} {vs : List V} (r : RDs K ρ H ds vs) (hl : vs.length ≤ N.length) : RE K ρ H (start N vs) (startE N.length ds) := by
  have e := r.length
  refine ⟨?_, fun i d h => ?_⟩
  · unfold L2.start startE
    simp only [List.length_append, List.length_map, List.length_replicate]
    omega
  · unfold startE at h
    by_cases hi : i < ds.length
    · rw [List.getElem?_append_left (by simpa using hi), List.getElem?_map, List.getElem?_eq_getElem hi] at h
      simp only [Option.map_some, Option.some.injEq] at h
      obtain ⟨v, h1, h2⟩ := r.get (List.getElem?_eq_getElem hi)
      refine ⟨v, ?_, by rw [← h]; exact h2⟩
      unfold L2.start
      rw [List.getElem?_append_left (by simp; omega), List.getElem?_map, h1]
      rfl
    · rw [List.getElem?_append_right (by simp; omega)] at h
      rw [List.getElem?_replicate] at h
      split at h <;> cases h
section
variable {P : Program} {w : World} {K : PySem.W.Frag} {mg : Str → Option Value} {base : Heap}
theorem fnG_of {k : Nat} {f : Addr} {x qual : Str} {st : Stmt} {fd : FuncData} {N ps : List Str} {sp : Sp} (F : Fun K x qual st f fd) (sc : FnScope N ps (defScope st)) (cnt : ∀ vs H Q E, sp vs H Q E → vs.length = ps.length)
    (body : ∀ (cdv : Value) (A : Around) (fr : List Env) (z : Shared) (H : Hp) (vs : List V) (Q : VK) (E : XK), A.guards = some [] → Room k (A.deeper (envOfC qual (defScope st) z.heap.objs.size f cdv)) → sp vs H Q E →
      ∃ t, PSs (cxOf (L2.CX P w) P w K mg base N qual (defScope st) f cdv A fr z H E) (defBody st) t ∧ t { nx := fun _ H' => Q .non H', rt := Q } (start N vs) H) : FnG P w K mg base (k + 1) f fd ps sp := by
  obtain ⟨oc, od, kV, doc, pm, an, cdv, ct, osl, rfl, lk, hcd⟩ := F.ex
  refine ⟨cnt, fun A fr z H as us vs Q E hgd hroom ent hbind hvals hsp => ?_⟩
  have hcount := cnt _ _ _ _ hsp
  have hK : K.In z.heap := ent.mod.kin.keeps fun b o e => (ent.bs b o e).1
  have hlim : z.heap.NoLimit := ent.mod.nolimit.keeps fun b o e => (ent.bs b o e).1
  have hparams : ∀ y ∈ ps.zip us, (defScope st).names.lookup y.1 = some .local ∨ ((defScope st).names.lookup y.1 = some .cell ∧ ((cellsFrom (z.heap.objs.size + 1) (defScope st).names []).lookup y.1).isSome = true) := by
    rintro ⟨nm, val⟩ hy
    exact (sc.par nm (List.of_mem_zip hy).1).imp id fun q => ⟨q, PySem.W.cellsFrom_some _ _ _ (.inl q)⟩
  refine codeAny_call_function hroom.depth (hK _ _ lk) rfl sc.co sc.gen rfl (PySem.W.codeRec_of hK hcd) (hbind _ _ _ _ ?_)
  refine wpAny_newFunctionEnv_cells sc.kind hparams fun en hen z1 hin => ?_
  subst hen
  refine ⟨hlim.keeps hin.toInCall.keep, codeAny_func ?_⟩
  obtain ⟨t, ht, hq⟩ := body cdv A fr z H vs Q E hgd (hroom.deeper _) hsp
  have I0 := inv_start (CX := L2.CX P w) (E := E) sc hroom.hd ent hcount hvals hin
  refine wpAny_mono (ht.run [] z1 (start N vs) H _ I0 hq) (fun fl z' hs => ?_) fun e z' hs => hs
  match fl, hs with
  | .ret u, ⟨v, σ', H', J, rv, q⟩ => exact ⟨v, H', J.os, J.bare, J.base, J.hok, rv, q⟩
  | .next, ⟨σ', H', J, q⟩ => exact ⟨V.non, H', J.os, J.bare, J.base, J.hok, rfl, q⟩
  | .brk, ⟨_, _, _, q⟩ => exact False.elim q
  | .cont, ⟨_, _, _, q⟩ => exact False.elim q
/-- THE RULE for a def that a denotation describes -/
theorem fn_den {cl : Str → Option Addr} {k : Nat} {f : Addr} {x qual : Str} {st : Stmt} {fd : FuncData} {N ps : List Str} {g : SS} (F : Fun K x qual st f fd) (sc : FnScope N ps (defScope st))
    (body : ∀ (cdv : Value) (A : Around) (fr : List Env) (z : Shared) (H : Hp) (E : XK), A.guards = some [] → Room k (A.deeper (envOfC qual (defScope st) z.heap.objs.size f cdv)) →
      PSs (cxOf (L2.CX P w) P w K mg base N qual (defScope st) f cdv A fr z H E) (defBody st) (tS K cl (fun c d _ H => E c d H) g)) : FnG P w K mg base (k + 1) f fd ps (spD K cl ps.length (callB N.length g)) := by
  refine fnG_of F sc (fun vs H Q E h => ?_) fun cdv A fr z H vs Q E hg hr h => ⟨_, body cdv A fr z H E hg hr, ?_⟩
  · obtain ⟨ρ, st', ds, _, r, hl, _⟩ := h
    rw [← r.length]; exact hl
  · obtain ⟨ρ, st', ds, S, r, hl, Pc⟩ := h
    have hN : ps.length ≤ N.length := by
      have e := congrArg List.length sc.pre
      rw [List.length_take] at e
      omega
    exact ⟨ρ, startE N.length ds, st', S, RE.atStart r (by rw [← r.length, hl]; exact hN), PostC.body S Pc⟩
end
end Ev

/-! ## Ev9 -/
set_option Elab.async false
set_option linter.all false
set_option maxRecDepth 100000
/-! Ev9: methods of lists and texts, stores to places. -/
namespace Ev
open PySem PySem.Spec PyProof.Rows L2

/-! ### list.append, list.extend, list.pop -/
/-- a method of a list that may be written: new arguments become cells; the result, the list behind -/
def eMtL (g : List D → List D → Option (D × List D)) (fo : SEnv → Store → R RV) (fr : SEnv → Store → R (List D)) : SEnv → Store → R RV := fun env st =>
  (fo env st).bind fun o st1 => match o with
    | .v (.ref n) => match st1[n]? with
      | some (.lst _) => (fr env st1).bind fun ds st2 => match st2[n]? with
        | some (.lst l) => match g ds l with
          | some (d, l') => .ok (.v d) (st2.set n (.lst l'))
          | none => .bad
        | _ => .bad
      | _ => .bad
    | _ => .bad
section
variable {X : Cx} {cl : Str → Option Addr} {W : WX} {o e : Expr} {es : List Expr} {fo : SEnv → Store → R RV} {fr : SEnv → Store → R (List D)} {g : List D → List D → Option (D × List D)} {r : V → List V → Hp → VK → Prop}
/-- how the method's rule serves g -/
def MtG (K : PySem.W.Frag) (r : V → List V → Hp → VK → Prop) (g : List D → List D → Option (D × List D)) : Prop :=
  ∀ {ρ : List Addr} {H : Hp} {p : Addr} {vs ws : List V} {ds l l' : List D} {d : D} {Q : VK}, H p = some (.lst vs) → RDs K ρ H l vs → RDs K ρ H ds ws → g ds l = some (d, l') →
    (∀ v vs', RD K ρ H d v → RDs K ρ H l' vs' → Q v (upd H p (.lst vs'))) → r (.ref p) ws H Q
theorem w_mtl {K : PySem.W.Frag} (hr : MtG K r g) (σ : L2.St) (H : Hp) (Q : VK) (h : tF K cl W (eMtL g fo fr) σ H Q) : tBM K "list" r (tF K cl W fo) (tA1 K cl W fr) σ H Q := by
  obtain ⟨ρ, env, st, S, E, P⟩ := h
  refine ⟨ρ, env, st, S, E, (Post.bind backV P).mono ?_⟩
  rintro x H1 ⟨ρ1, st1, a, x1, S1, r1, P1⟩
  split at P1
  rotate_left
  · exact P1.elim
  rename_i n
  split at P1
  rotate_left
  · exact P1.elim
  rename_i l0 e0
  obtain ⟨p, rfl, hp⟩ := r1
  obtain ⟨vs0, h0, _⟩ := S1.at_ _ _ _ e0 hp
  refine ⟨.inl ⟨rfl, vs0, SqL.of h0⟩, ρ1, env, st1, S1, E.mono (x1.mono S), (Post.bind backV P1).mono ?_⟩
  rintro xs H2 ⟨ρ2, st2, ds, x2, S2, r2, P2⟩
  split at P2
  rotate_left
  · exact P2.elim
  rename_i l e
  split at P2
  rotate_left
  · exact P2.elim
  rename_i d l' hg
  obtain ⟨m, em⟩ := x2.pre
  have hp2 : ρ2[n]? = some p := by
    rw [em, List.getElem?_append_left (List.getElem?_eq_some_iff.mp hp).1]
    exact hp
  obtain ⟨vs, h1, h2⟩ := S2.at_ _ _ _ e hp2
  refine hr h1 h2 r2 hg fun v vs' rv rvs => ?_
  have x3 : Ext ρ2 H2 ρ2 (upd H2 p (.lst vs')) := Ext.put (List.mem_of_getElem? hp2)
  have m3 := x3.mono S2
  exact P2 ρ2 _ v x3 (S2.put hp2 ⟨vs', upd_same, RDs.mono m3 _ _ rvs⟩) (RD.mono m3 _ _ rv)
end
def gAppend (ds l : List D) : Option (D × List D) := match ds with
  | [d] => if l.length < sLine then some (.non, l ++ [d]) else none
  | _ => none
def gPop (ds l : List D) : Option (D × List D) := match ds with
  | [] => match l.getLast? with
    | some d => some (d, l.dropLast)
    | none => none
  | _ => none
def gPopAt (ds l : List D) : Option (D × List D) := match ds with
  | [.int i] => match ixN l.length i with
    | some j => match l[j]? with
      | some d => if -(2 ^ 63) ≤ i ∧ i < 2 ^ 63 then some (d, l.eraseIdx j) else none
      | none => none
    | none => none
  | _ => none
theorem mg_append {K : PySem.W.Frag} : MtG K rAppend gAppend := by
  intro ρ H p vs ws ds l l' d Q hp hl hw hg q
  unfold gAppend at hg
  split at hg
  · rename_i d0
    split at hg
    · rename_i hz
      cases hg
      obtain ⟨w, r, rfl, h1, h2⟩ := hw
      have : r = [] := h2
      subst this
      exact ⟨p, vs, w, rfl, rfl, hp, by rw [← hl.length, sLine_eq]; exact hz, q .non _ rfl (hl.append ⟨w, [], rfl, h1, rfl⟩)⟩
    · cases hg
  · cases hg
theorem RDs.dropLast {K : PySem.W.Frag} {ρ : List Addr} {H : Hp} {l : List D} {vs : List V} (h : RDs K ρ H l vs) : RDs K ρ H l.dropLast vs.dropLast := by
  rw [List.dropLast_eq_take, List.dropLast_eq_take, h.length]
  exact h.take _
theorem RDs.eraseIdx {K : PySem.W.Frag} {ρ : List Addr} {H : Hp} : ∀ {l : List D} {vs : List V} (i : Nat), RDs K ρ H l vs → RDs K ρ H (l.eraseIdx i) (vs.eraseIdx i)
  | [], _, i, h => by
    have : _ = [] := h
    subst this; simp [RDs]
  | d :: l, _, 0, h => by
    obtain ⟨v, r, rfl, h1, h2⟩ := h
    exact h2
  | d :: l, _, i + 1, h => by
    obtain ⟨v, r, rfl, h1, h2⟩ := h
    exact ⟨v, _, rfl, h1, RDs.eraseIdx i h2⟩
theorem mg_pop {K : PySem.W.Frag} : MtG K rPop gPop := by
  intro ρ H p vs ws ds l l' d Q hp hl hw hg q
  unfold gPop at hg
  split at hg
  · split at hg
    · rename_i d0 e0
      cases hg
      have : ws = [] := hw
      subst this
      rw [List.getLast?_eq_getElem?, hl.length] at e0
      obtain ⟨w, h1, h2⟩ := hl.get e0
      exact ⟨p, vs, w, rfl, rfl, hp, h1, q w _ h2 hl.dropLast⟩
    · cases hg
  · cases hg
theorem mg_popAt {K : PySem.W.Frag} : MtG K rPopAt gPopAt := by
  intro ρ H p vs ws ds l l' d Q hp hl hw hg q
  unfold gPopAt at hg
  split at hg
  · rename_i i
    split at hg
    · rename_i j ej
      split at hg
      · rename_i d0 e0
        split at hg
        · rename_i hz
          cases hg
          obtain ⟨w, r, rfl, h1, h2⟩ := hw
          cases h1
          have : r = [] := h2
          subst this
          obtain ⟨w, h1, h2⟩ := hl.get e0
          exact ⟨p, vs, i, j, w, rfl, rfl, hp, hz.1, hz.2, by rw [← hl.length]; exact (ixN_seq ej).1, h1, q w _ h2 (hl.eraseIdx j)⟩
        · cases hg
      · cases hg
    · cases hg
  · cases hg
/-- l.extend(a list) -/
def eExtend (fo fa : SEnv → Store → R RV) : SEnv → Store → R RV := fun env st =>
  (fo env st).bind fun o st1 => match o with
    | .v (.ref n) => match st1[n]? with
      | some (.lst _) => (fa env st1).bind fun a st2 => match st2[n]?, lstM st2 a with
        | some (.lst l), some m => if l.length + m.length ≤ sLine then .ok (.v .non) (st2.set n (.lst (l ++ m))) else .bad
        | _, _ => .bad
      | _ => .bad
    | _ => .bad
section
variable {X : Cx} {cl : Str → Option Addr} {W : WX} {o e : Expr} {es : List Expr} {fo fa : SEnv → Store → R RV}
def one (fa : SEnv → Store → R RV) : SEnv → Store → R (List RV) := bCons fa bNil
theorem w_extend {K : PySem.W.Frag} (σ : L2.St) (H : Hp) (Q : VK) (h : tF K cl W (eExtend fo fa) σ H Q) : tBM K "list" rExtend (tF K cl W fo) (tG K cl W (relR K) (one fa)) σ H Q := by
  obtain ⟨ρ, env, st, S, E, P⟩ := h
  refine ⟨ρ, env, st, S, E, (Post.bind backV P).mono ?_⟩
  rintro x H1 ⟨ρ1, st1, a, x1, S1, r1, P1⟩
  split at P1
  rotate_left
  · exact P1.elim
  rename_i n
  split at P1
  rotate_left
  · exact P1.elim
  rename_i l0 e0
  obtain ⟨p, rfl, hp⟩ := r1
  obtain ⟨vs0, h0, _⟩ := S1.at_ _ _ _ e0 hp
  refine ⟨.inl ⟨rfl, vs0, SqL.of h0⟩, ρ1, env, st1, S1, E.mono (x1.mono S), ?_⟩
  cases hf : fa env st1 with
  | bad => rw [hf] at P1; exact P1.elim
  | exc x st2 =>
    rw [hf] at P1
    show Post K cl W σ (relR K) ρ1 H1 ((fa env st1).bind _) _
    rw [hf]; exact P1
  | ok a st2 =>
    rw [hf] at P1
    show Post K cl W σ (relR K) ρ1 H1 ((fa env st1).bind _) _
    rw [hf]
    intro ρ2 H2 xs x2 S2 r2
    obtain ⟨v, r', rfl, r2, rn⟩ := r2
    have : r' = [] := rn
    subst this
    have P2 := Post.from backV S2 x2 P1
    simp only [R.bind_ok] at P2
    split at P2
    · rename_i l m e1 e2
      split at P2
      · rename_i hz
        obtain ⟨mo, em⟩ := x2.pre
        have hp2 : ρ2[n]? = some p := by
          rw [em, List.getElem?_append_left (List.getElem?_eq_some_iff.mp hp).1]
          exact hp
        obtain ⟨vs, h1, h2⟩ := S2.at_ _ _ _ e1 hp2
        obtain ⟨b, zs, rfl, h3, h4⟩ := lstM_ok S2 r2 e2
        refine ⟨p, b, vs, zs, rfl, rfl, h1, h3, by rw [← h2.length, ← h4.length, sLine_eq]; exact hz, ?_⟩
        have x3 : Ext ρ2 H2 ρ2 (upd H2 p (.lst (vs ++ zs))) := Ext.put (List.mem_of_getElem? hp2)
        exact P2 ρ2 _ .non x3 (S2.put hp2 ⟨_, upd_same, RDs.mono (x3.mono S2) _ _ (h2.append h4)⟩) rfl
      · exact P2.elim
    · exact P2.elim
end
/-! ### methods of texts -/
def eMtS (g : List Nat → List RV → Store → Option RV) (fo : SEnv → Store → R RV) (fr : SEnv → Store → R (List RV)) : SEnv → Store → R RV := fun env st =>
  (fo env st).bind fun o st1 => match o with
    | .v (.str s) => (fr env st1).bind fun as st2 => lift (g s as st2) st2
    | _ => .bad
def MtSG (X : Cx) (cl : Str → Option Addr) (id : String) (g : List Nat → List RV → Store → Option RV) (r : V → List V → Hp → VK → Prop) : Prop :=
  ∀ {ρ : List Addr} {H H0 : Hp} {st : Store} {s : List Nat} {as : List RV} {vs : List V} {Q : VK}, RS X.K ρ H cl st → RRVs X.K ρ H H0 as vs → Prim X.K cl st ρ H (g s as st) Q → r (.str ⟨s.toArray⟩) vs H Q
section
variable {X : Cx} {cl : Str → Option Addr} {W : WX} {g : List Nat → List RV → Store → Option RV} {fo : SEnv → Store → R RV} {fr : SEnv → Store → R (List RV)} {id : String} {r : V → List V → Hp → VK → Prop}
theorem w_mts (hr : MtSG X cl id g r) (σ : L2.St) (H : Hp) (Q : VK) (h : tF X.K cl W (eMtS g fo fr) σ H Q) : tBM X.K "str" r (tF X.K cl W fo) (tG X.K cl W (relR X.K) fr) σ H Q := by
  obtain ⟨ρ, env, st, S, E, P⟩ := h
  refine ⟨ρ, env, st, S, E, (Post.bind backV P).mono ?_⟩
  rintro x H1 ⟨ρ1, st1, a, x1, S1, r1, P1⟩
  split at P1
  rotate_left
  · exact P1.elim
  rename_i s
  cases r1
  refine ⟨rfl, ρ1, env, st1, S1, E.mono (x1.mono S), (Post.bind backV P1).mono ?_⟩
  rintro xs H2 ⟨ρ2, st2, as, x2, S2, r2, P2⟩
  exact hr S2 r2 P2.prim
end
/-- the texts of a list of texts -/
def strsOf : List D → Option (List (List Nat))
  | [] => some []
  | .str s :: l => (strsOf l).map (s :: ·)
  | _ => none
/-- a list or a tuple -/
def seqV (st : Store) (a : RV) : Option (List D) := match a with
  | .v (.tup l) => some l
  | a => lstV st a
def gJoin (s : List Nat) (as : List RV) (st : Store) : Option RV := match as with
  | [a] => match seqV st a with
    | some l => match strsOf l with
      | some ps => if s = [] ∧ (ps.map (·.length)).sum ≤ sLine then some (.v (.str ps.flatten)) else none
      | none => none
    | none => none
  | _ => none
def gFind (s : List Nat) (as : List RV) (_ : Store) : Option RV := match as with
  | [.v (.str t)] => some (.v (.int (Txt.find ⟨s.toArray⟩ ⟨t.toArray⟩)))
  | _ => none
def gStarts (s : List Nat) (as : List RV) (_ : Store) : Option RV := match as with
  | [.v (.str t)] => some (.v (.bl (Txt.startswith ⟨s.toArray⟩ ⟨t.toArray⟩)))
  | _ => none
theorem strs_rds {K : PySem.W.Frag} {ρ : List Addr} {H : Hp} : ∀ {l : List D} {vs : List V} {ps : List (List Nat)}, RDs K ρ H l vs → strsOf l = some ps → vs = (ps.map fun p => (⟨p.toArray⟩ : Str)).map V.str
  | [], _, _, h, e => by
    have : _ = [] := h
    subst this
    cases e; rfl
  | d :: l, _, ps, h, e => by
    obtain ⟨v, r, rfl, h1, h2⟩ := h
    cases d with
    | str s =>
      simp only [strsOf] at e
      cases e2 : strsOf l with
      | none => rw [e2] at e; cases e
      | some qs =>
        rw [e2] at e
        cases e
        cases h1
        rw [strs_rds h2 e2]; rfl
    | _ => cases e
theorem joinL_nil : ∀ ps : List (List Nat), TL.joinL [] ps = ps.flatten
  | [] => rfl
  | [p] => by simp [TL.joinL]
  | p :: q :: r => by
    have := joinL_nil (q :: r)
    simp only [TL.joinL, List.nil_append, this, List.flatten_cons]
theorem join_nil (ps : List (List Nat)) : Txt.join (⟨([] : List Nat).toArray⟩ : Str) (ps.map fun p => (⟨p.toArray⟩ : Str)) = ⟨ps.flatten.toArray⟩ := by
  have h := TL.tl_join (⟨([] : List Nat).toArray⟩ : Str) (ps.map fun p => (⟨p.toArray⟩ : Str))
  have e : ((ps.map fun p => (⟨p.toArray⟩ : Str)).map TL.tl) = ps := by
    rw [List.map_map]
    conv => rhs; rw [← List.map_id ps]
    exact List.map_congr_left fun p _ => by simp [TL.tl]
  rw [e] at h
  have h2 : (Str.join (⟨([] : List Nat).toArray⟩ : Str) (ps.map fun p => (⟨p.toArray⟩ : Str))).cps.toList = ps.flatten := by
    have : TL.tl (⟨([] : List Nat).toArray⟩ : Str) = [] := rfl
    rw [this, joinL_nil] at h
    exact h
  rw [TL.join_eq]
  rw [← str_eta (Str.join _ _), h2]
section
variable {X : Cx} {cl : Str → Option Addr}
theorem ms_join : MtSG X cl "str.join" gJoin (fun x xs H Q => ∃ a p, ∃ ys : List Str, x = .str a ∧ xs = [.ref p] ∧ (SqL X.K H p (ys.map V.str) ∨ SqT X.K H p (ys.map V.str)) ∧
    (ys.map (·.length)).sum + ys.length * a.length ≤ 16777216 ∧ Q (.str (Txt.join a ys)) H) := by
  intro ρ H H0 st s as vs Q S ra q
  obtain ⟨c, hc⟩ : ∃ c, gJoin s as st = some c := ⟨_, q.choose_spec.1⟩
  have hc0 := hc
  unfold gJoin at hc
  split at hc
  · rename_i a
    split at hc
    · rename_i l el
      split at hc
      · rename_i ps ep
        split at hc
        · rename_i hz
          obtain ⟨rfl, hz⟩ := hz
          cases hc
          obtain ⟨v, r', rfl, ra, rn⟩ := ra
          have : r' = [] := rn
          subst this
          have fin : Q (.str (Txt.join (⟨([] : List Nat).toArray⟩ : Str) (ps.map fun p => (⟨p.toArray⟩ : Str)))) H := by
            rw [join_nil]
            exact fin_v (d := .str ps.flatten) S q hc0 rfl
          have hz' : ((ps.map fun p => (⟨p.toArray⟩ : Str)).map (·.length)).sum + (ps.map fun p => (⟨p.toArray⟩ : Str)).length * (⟨([] : List Nat).toArray⟩ : Str).length ≤ 16777216 := by
            rw [List.map_map, strlen]
            have : (ps.map ((fun x : Str => x.length) ∘ fun p => (⟨p.toArray⟩ : Str))) = ps.map (·.length) := List.map_congr_left fun p _ => strlen p
            rw [this]
            simpa [sLine] using hz
          have lists : lstV st a = some l → ∃ p, v = .ref p ∧ (SqL X.K H p ((ps.map fun p => (⟨p.toArray⟩ : Str)).map V.str) ∨ SqT X.K H p ((ps.map fun p => (⟨p.toArray⟩ : Str)).map V.str)) := by
            intro el
            obtain ⟨p, vs, rfl, h1, h2⟩ := lstV_ok S ra el
            rw [strs_rds h2 ep] at h1
            exact ⟨p, rfl, .inl h1⟩
          have both : ∃ p, v = .ref p ∧ (SqL X.K H p ((ps.map fun p => (⟨p.toArray⟩ : Str)).map V.str) ∨ SqT X.K H p ((ps.map fun p => (⟨p.toArray⟩ : Str)).map V.str)) := by
            unfold seqV at el
            split at el
            · cases el
              obtain ⟨p, vs, rfl, h1, h2⟩ := ra
              rw [strs_rds h2 ep] at h1
              exact ⟨p, rfl, .inr h1⟩
            · exact lists el
          obtain ⟨p, rfl, h⟩ := both
          exact ⟨_, p, _, rfl, rfl, h, hz', fin⟩
        · cases hc
      · cases hc
    · cases hc
  · cases hc
end
section
variable {X : Cx} {cl : Str → Option Addr}
theorem ms_find : MtSG X cl "str.find" gFind (fun x xs H Q => ∃ a b, x = .str a ∧ xs = [.str b] ∧ Q (.int (Txt.find a b)) H) := by
  intro ρ H H0 st s as vs Q S ra q
  obtain ⟨c, hc⟩ : ∃ c, gFind s as st = some c := ⟨_, q.choose_spec.1⟩
  have hc0 := hc
  unfold gFind at hc
  split at hc
  · obtain ⟨v, r', rfl, ra, rn⟩ := ra
    have : r' = [] := rn
    subst this
    cases ra
    exact ⟨_, _, rfl, rfl, fin_v (d := .int (Txt.find ⟨s.toArray⟩ _)) S q rfl rfl⟩
  · cases hc
theorem ms_starts : MtSG X cl "str.startswith" gStarts (fun x xs H Q => ∃ a b, x = .str a ∧ xs = [.str b] ∧ Q (.bl (Txt.startswith a b)) H) := by
  intro ρ H H0 st s as vs Q S ra q
  obtain ⟨c, hc⟩ : ∃ c, gStarts s as st = some c := ⟨_, q.choose_spec.1⟩
  have hc0 := hc
  unfold gStarts at hc
  split at hc
  · obtain ⟨v, r', rfl, ra, rn⟩ := ra
    have : r' = [] := rn
    subst this
    cases ra
    exact ⟨_, _, rfl, rfl, fin_v (d := .bl (Txt.startswith ⟨s.toArray⟩ _)) S q rfl rfl⟩
  · cases hc
end
/-! ### xs[i] = e -/
def sPutIx (fa fo fi : SEnv → Store → R RV) : SS := fun env st => (fa env st).toS env fun a st1 => (mat a st1).toS env fun d st2 => (fo env st2).toS env fun o st3 => (fi env st3).toS env fun i st4 => match o, i with
  | .v (.ref n), .v (.int k) => match st4[n]? with
    | some (.lst l) => match ixN l.length k with
      | some j => .nx env (st4.set n (.lst (l.set j d)))
      | none => .bad
    | _ => .bad
  | _, _ => .bad
section
variable {X : Cx} {cl : Str → Option Addr} {W : WX} {fa fo fi : SEnv → Store → R RV}
theorem w_putIx {K : PySem.W.Frag} (D : Ends) (σ : L2.St) (H : Hp) (h : tS K cl W (sPutIx fa fo fi) D σ H) : tAsg (tF K cl W fa) (gSub (tF K cl W fo) (tF K cl W fi) rSetL) D σ H := by
  obtain ⟨ρ, env, st, S, E, P⟩ := h
  refine ⟨ρ, env, st, S, E, (PostS.toS (rel := relV K) S E P).mono ?_⟩
  rintro x H1 ⟨ρ1, st1, a, x1, S1, r1, P1⟩
  obtain ⟨d, st2, ρ2, e2, x2, S2, r2, m2⟩ := mat_ok S1 x1 r1
  rw [e2, R.toS_ok] at P1
  have P2 := PostS.from S2 x2 P1
  have E2 := (E.mono (x1.mono S)).mono m2
  refine ⟨ρ2, env, st2, S2, E2, (PostS.toS (rel := relV K) S2 E2 P2).mono ?_⟩
  rintro y H3 ⟨ρ3, st3, o, x3, S3, r3, P3⟩
  have P3' := PostS.from S3 x3 P3
  have E3 := E2.mono (x3.mono S2)
  refine ⟨ρ3, env, st3, S3, E3, (PostS.toS (rel := relV K) S3 E3 P3').mono ?_⟩
  rintro z H4 ⟨ρ4, st4, i, x4, S4, r4, P4⟩
  have r3' := RRV.ext S3 x4 r3
  split at P4
  · rename_i n k
    split at P4
    · rename_i l e
      split at P4
      · rename_i j ej
        obtain ⟨p, rfl, hp⟩ := r3'
        cases r4
        obtain ⟨vs, h1, h2⟩ := S4.at_ _ _ _ e hp
        refine ⟨p, vs, k, j, rfl, rfl, h1, by rw [← h2.length]; exact ej, ?_⟩
        have x5 : Ext ρ4 H4 ρ4 (upd H4 p (.lst (vs.set j x))) := Ext.put (List.mem_of_getElem? hp)
        have m5 := x5.mono S4
        have rd := RD.mono (x4.mono S3) _ _ (RD.mono (x3.mono S2) _ _ r2)
        exact P4 ρ4 _ σ (x4.trans x5) (S4.put hp ⟨_, upd_same, RDs.mono m5 _ _ (h2.set rd j)⟩) ((E3.mono (x4.mono S3)).mono m5)
      · exact P4.elim
    · exact P4.elim
  · exact P4.elim
end
end Ev

/-! ## Ev9a -/
set_option Elab.async false
set_option linter.all false
set_option maxRecDepth 100000
/-! Ev9a: sum, sorted, any, all, max, min of lists; str; list(range); reversed; [::-1]. -/
namespace Ev
open PySem PySem.Spec PyProof.Rows L2

def intsOf : List D → Option (List Int)
  | [] => some []
  | .int i :: r => (intsOf r).map (i :: ·)
  | _ :: _ => none
def blsOf : List D → Option (List Bool)
  | [] => some []
  | .bl i :: r => (blsOf r).map (i :: ·)
  | _ :: _ => none
@[simp] theorem intsOf_map (ns : List Int) : intsOf (ns.map D.int) = some ns := by
  induction ns with
  | nil => rfl
  | cons n ns ih => simp [intsOf, ih]
@[simp] theorem blsOf_map (ns : List Bool) : blsOf (ns.map D.bl) = some ns := by
  induction ns with
  | nil => rfl
  | cons n ns ih => simp [blsOf, ih]
theorem intsOf_ok : ∀ {l : List D} {ns : List Int}, intsOf l = some ns → l = ns.map D.int
  | [], ns, h => by cases h; rfl
  | d :: l, ns, h => by
    cases d with
    | int i =>
      simp only [intsOf] at h
      cases e : intsOf l with
      | none => rw [e] at h; cases h
      | some ms => rw [e] at h; cases h; rw [intsOf_ok e]; rfl
    | _ => cases h
theorem blsOf_ok : ∀ {l : List D} {ns : List Bool}, blsOf l = some ns → l = ns.map D.bl
  | [], ns, h => by cases h; rfl
  | d :: l, ns, h => by
    cases d with
    | bl i =>
      simp only [blsOf] at h
      cases e : blsOf l with
      | none => rw [e] at h; cases h
      | some ms => rw [e] at h; cases h; rw [blsOf_ok e]; rfl
    | _ => cases h
theorem strsOf_ok : ∀ {l : List D} {ns : List (List Nat)}, strsOf l = some ns → l = ns.map D.str
  | [], ns, h => by cases h; rfl
  | d :: l, ns, h => by
    cases d with
    | str i =>
      simp only [strsOf] at h
      cases e : strsOf l with
      | none => rw [e] at h; cases h
      | some ms => rw [e] at h; cases h; rw [strsOf_ok e]; rfl
    | _ => cases h
theorem RDs_int {K : PySem.W.Frag} {ρ : List Addr} {H : Hp} : ∀ {ns : List Int} {vs : List V}, RDs K ρ H (ns.map D.int) vs → vs = ns.map V.int
  | [], _, h => h
  | n :: ns, _, h => by
    obtain ⟨v, r, rfl, h1, h2⟩ := h
    rw [RDs_int h2]
    cases h1; rfl
theorem RDs_bl {K : PySem.W.Frag} {ρ : List Addr} {H : Hp} : ∀ {ns : List Bool} {vs : List V}, RDs K ρ H (ns.map D.bl) vs → vs = ns.map V.bl
  | [], _, h => h
  | n :: ns, _, h => by
    obtain ⟨v, r, rfl, h1, h2⟩ := h
    rw [RDs_bl h2]
    cases h1; rfl
theorem int_RDs (K : PySem.W.Frag) (ρ : List Addr) (H : Hp) : ∀ (ns : List Int), RDs K ρ H (ns.map D.int) (ns.map V.int)
  | [] => rfl
  | n :: ns => ⟨_, _, rfl, rfl, int_RDs K ρ H ns⟩
theorem str_RDs (K : PySem.W.Frag) (ρ : List Addr) (H : Hp) : ∀ (ns : List (List Nat)), RDs K ρ H (ns.map D.str) ((ns.map fun p => (⟨p.toArray⟩ : Str)).map V.str)
  | [] => rfl
  | n :: ns => ⟨_, _, rfl, rfl, str_RDs K ρ H ns⟩
/-! ### what they reckon -/
def lMax : List Int → Int
  | [] => 0
  | [x] => x
  | x :: y :: r => max x (lMax (y :: r))
def lMin : List Int → Int
  | [] => 0
  | [x] => x
  | x :: y :: r => min x (lMin (y :: r))
theorem lMax_mem : ∀ {l : List Int}, l ≠ [] → lMax l ∈ l
  | [], h => absurd rfl h
  | [x], _ => by simp [lMax]
  | x :: y :: r, _ => by
    have := lMax_mem (l := y :: r) (by simp)
    simp only [lMax]
    by_cases h : x ≤ lMax (y :: r)
    · rw [Int.max_eq_right h]; exact List.mem_cons_of_mem _ this
    · rw [Int.max_eq_left (by omega)]; exact List.mem_cons_self ..
theorem lMax_le : ∀ {l : List Int} {x : Int}, x ∈ l → x ≤ lMax l
  | [x], y, h => by
    simp at h; subst h; exact Int.le_refl _
  | x :: y :: r, z, h => by
    simp only [lMax]
    rcases List.mem_cons.mp h with rfl | h
    · omega
    · have := lMax_le (l := y :: r) h
      omega
theorem lMin_mem : ∀ {l : List Int}, l ≠ [] → lMin l ∈ l
  | [], h => absurd rfl h
  | [x], _ => by simp [lMin]
  | x :: y :: r, _ => by
    have := lMin_mem (l := y :: r) (by simp)
    simp only [lMin]
    by_cases h : x ≤ lMin (y :: r)
    · rw [Int.min_eq_left h]; exact List.mem_cons_self ..
    · rw [Int.min_eq_right (by omega)]; exact List.mem_cons_of_mem _ this
theorem lMin_le : ∀ {l : List Int} {x : Int}, x ∈ l → lMin l ≤ x
  | [x], y, h => by
    simp at h; subst h; exact Int.le_refl _
  | x :: y :: r, z, h => by
    simp only [lMin]
    rcases List.mem_cons.mp h with rfl | h
    · omega
    · have := lMin_le (l := y :: r) h
      omega
def iSort (l : List Int) : List Int := l.mergeSort fun a b => decide (a ≤ b)
def sSort (l : List (List Nat)) : List (List Nat) := l.mergeSort fun a b => !decide (b < a)
theorem iSort_perm (l : List Int) : (iSort l).Perm l := List.mergeSort_perm _ _
theorem sSort_perm (l : List (List Nat)) : (sSort l).Perm l := List.mergeSort_perm _ _
theorem iSort_sorted (l : List Int) : (iSort l).Pairwise (· ≤ ·) := by
  have := List.pairwise_mergeSort (le := fun (a b : Int) => decide (a ≤ b)) (fun a b c h1 h2 => by simp at h1 h2 ⊢; omega) (fun a b => by simp; omega) l
  exact this.imp fun h => by simpa using h
theorem iSort_uniq {l m : List Int} (h : m.Perm l) (s : m.Pairwise (· ≤ ·)) : m = iSort l :=
  List.Perm.eq_of_pairwise (fun _ _ _ _ a b => Int.le_antisymm a b) s (iSort_sorted l) (h.trans (iSort_perm l).symm)
theorem nlt_trans {a b c : List Nat} (h1 : ¬ b < a) (h2 : ¬ c < b) : ¬ c < a := by
  have h1 : a ≤ b := h1
  have h2 : b ≤ c := h2
  exact List.le_trans h1 h2
theorem nlt_total (a b : List Nat) : ¬ b < a ∨ ¬ a < b := by
  by_cases h : b < a
  · exact .inr fun k => List.lt_irrefl a (List.lt_trans k h)
  · exact .inl h
theorem nlt_anti {a b : List Nat} (h1 : ¬ b < a) (h2 : ¬ a < b) : a = b := List.le_antisymm (α := Nat) h1 h2
theorem sSort_sorted (l : List (List Nat)) : (sSort l).Pairwise fun a b => ¬ b < a := by
  have := List.pairwise_mergeSort (le := fun (a b : List Nat) => !decide (b < a)) (fun a b c h1 h2 => by simp only [Bool.not_eq_true', decide_eq_false_iff_not] at h1 h2 ⊢; exact nlt_trans h1 h2) (fun a b => by
    simp only [Bool.or_eq_true, Bool.not_eq_true', decide_eq_false_iff_not]; exact nlt_total a b) l
  exact this.imp fun h => by simpa only [Bool.not_eq_true', decide_eq_false_iff_not] using h
theorem sSort_uniq {l m : List (List Nat)} (h : m.Perm l) (s : m.Pairwise fun a b => ¬ b < a) : m = sSort l :=
  List.Perm.eq_of_pairwise (le := fun a b => ¬ b < a) (fun _ _ _ _ a b => nlt_anti a b) s (sSort_sorted l) (h.trans (sSort_perm l).symm)
theorem rising_pw : ∀ (l : List Str) (p : Str), risingS p l = true → (p :: l).Pairwise fun a b => ¬ b.cps.toList < a.cps.toList
  | [], p, _ => by simp
  | x :: r, p, h => by
    simp only [risingS, Bool.and_eq_true, Bool.not_eq_true', ltCps_eq, decide_eq_false_iff_not] at h
    have ih := rising_pw r x h.2
    refine List.pairwise_cons.mpr ⟨fun y hy => ?_, ih⟩
    rcases List.mem_cons.mp hy with rfl | hy
    · exact h.1
    · exact nlt_trans h.1 ((List.pairwise_cons.mp ih).1 y hy)
theorem sorted_pw : ∀ (l : List Str), sortedS l = true → l.Pairwise fun a b => ¬ b.cps.toList < a.cps.toList
  | [], _ => .nil
  | x :: r, h => rising_pw r x h
theorem mk_cps (l : List Str) : (l.map fun x => x.cps.toList).map (fun p => (⟨p.toArray⟩ : Str)) = l := by
  rw [List.map_map]
  induction l with
  | nil => rfl
  | cons x l ih => rw [List.map_cons, ih]; simp [str_eta]
theorem cps_mk (l : List (List Nat)) : (l.map fun p => (⟨p.toArray⟩ : Str)).map (fun x => x.cps.toList) = l := by
  rw [List.map_map]
  induction l with
  | nil => rfl
  | cons x l ih => rw [List.map_cons, ih]; simp
/-! ### the built-ins -/
def dSum (a : RV) (st : Store) : Option RV := match lstV st a with
  | some l => (intsOf l).map fun ns => .v (.int ns.sum)
  | none => none
def dAny (a : RV) (st : Store) : Option RV := match lstV st a with
  | some l => (blsOf l).map fun ns => .v (.bl (ns.any id))
  | none => none
def dAll (a : RV) (st : Store) : Option RV := match lstV st a with
  | some l => (blsOf l).map fun ns => .v (.bl (ns.all id))
  | none => none
def oMax (l : Option (List Int)) : Option RV := match l with
  | some (x :: r) => some (.v (.int (lMax (x :: r))))
  | _ => none
def oMin (l : Option (List Int)) : Option RV := match l with
  | some (x :: r) => some (.v (.int (lMin (x :: r))))
  | _ => none
def dMax1 (a : RV) (st : Store) : Option RV := match lstV st a with
  | some l => oMax (intsOf l)
  | none => none
def dMin1 (a : RV) (st : Store) : Option RV := match lstV st a with
  | some l => oMin (intsOf l)
  | none => none
def oSort (o : Option (List Int)) (p : Option (List (List Nat))) : Option RV := match o with
  | some ns => some (.t ((iSort ns).map D.int))
  | none => match p with
    | some ss => if ss.length < 64 then some (.t ((sSort ss).map D.str)) else none
    | none => none
def dSorted (a : RV) (st : Store) : Option RV := match lstV st a with
  | some l => oSort (intsOf l) (strsOf l)
  | none => none
def iShown (i : Int) : List Nat := (toString i : Str).cps.toList
def dStr (a : RV) (_ : Store) : Option RV := match a with
  | .v (.int i) => if i.natAbs.log2 < 1920 then some (.v (.str (iShown i))) else none
  | _ => none
section
variable {X : Cx} {cl : Str → Option Addr}
theorem cd_sum (hc : X.calm = true) : CallR X (.builtin "sum") (rPN X.K cl (g1 dSum)) := cd_1 (g1 := dSum) fun pins s σ H x u Q ρ st a H0 I ru S ra q => by
  obtain ⟨c, h, q⟩ := q
  unfold dSum at h
  split at h
  · rename_i l hl
    obtain ⟨p, vs, rfl, h1, h2⟩ := lstV_ok S ra hl
    cases e : intsOf l with
    | none => rw [e] at h; cases h
    | some ns =>
      rw [e] at h; cases h
      rw [intsOf_ok e] at h2
      rw [RDs_int h2] at h1
      exact cr_sum hc pins s σ H [_] [u] Q I (.cons ru .nil) ⟨p, ns, rfl, h1, q ρ H _ (Ext.refl _ _) S rfl⟩
  · cases h
theorem cd_any (hc : X.calm = true) : CallR X (.builtin "any") (rPN X.K cl (g1 dAny)) := cd_1 (g1 := dAny) fun pins s σ H x u Q ρ st a H0 I ru S ra q => by
  obtain ⟨c, h, q⟩ := q
  unfold dAny at h
  split at h
  · rename_i l hl
    obtain ⟨p, vs, rfl, h1, h2⟩ := lstV_ok S ra hl
    cases e : blsOf l with
    | none => rw [e] at h; cases h
    | some ns =>
      rw [e] at h; cases h
      rw [blsOf_ok e] at h2
      rw [RDs_bl h2] at h1
      exact cr_any hc pins s σ H [_] [u] Q I (.cons ru .nil) ⟨p, ns, rfl, h1, q ρ H _ (Ext.refl _ _) S rfl⟩
  · cases h
theorem cd_all (hc : X.calm = true) : CallR X (.builtin "all") (rPN X.K cl (g1 dAll)) := cd_1 (g1 := dAll) fun pins s σ H x u Q ρ st a H0 I ru S ra q => by
  obtain ⟨c, h, q⟩ := q
  unfold dAll at h
  split at h
  · rename_i l hl
    obtain ⟨p, vs, rfl, h1, h2⟩ := lstV_ok S ra hl
    cases e : blsOf l with
    | none => rw [e] at h; cases h
    | some ns =>
      rw [e] at h; cases h
      rw [blsOf_ok e] at h2
      rw [RDs_bl h2] at h1
      exact cr_all hc pins s σ H [_] [u] Q I (.cons ru .nil) ⟨p, ns, rfl, h1, q ρ H _ (Ext.refl _ _) S rfl⟩
  · cases h
theorem cd_max1 (hc : X.calm = true) : CallR X (.builtin "max") (rPN X.K cl (g1 dMax1)) := cd_1 (g1 := dMax1) fun pins s σ H x u Q ρ st a H0 I ru S ra q => by
  obtain ⟨c, h, q⟩ := q
  unfold dMax1 at h
  split at h
  · rename_i l hl
    obtain ⟨p, vs, rfl, h1, h2⟩ := lstV_ok S ra hl
    unfold oMax at h
    split at h
    · rename_i n ns e
      cases h
      rw [intsOf_ok e] at h2
      rw [RDs_int h2] at h1
      refine cr_max hc pins s σ H [_] [u] Q I (.cons ru .nil) ⟨p, n :: ns, rfl, h1, by simp, fun m hm hle => ?_⟩
      have : m = lMax (n :: ns) := Int.le_antisymm (lMax_le hm) (hle _ (lMax_mem (by simp)))
      subst this
      exact q ρ H _ (Ext.refl _ _) S rfl
    · cases h
  · cases h
theorem cd_min1 (hc : X.calm = true) : CallR X (.builtin "min") (rPN X.K cl (g1 dMin1)) := cd_1 (g1 := dMin1) fun pins s σ H x u Q ρ st a H0 I ru S ra q => by
  obtain ⟨c, h, q⟩ := q
  unfold dMin1 at h
  split at h
  · rename_i l hl
    obtain ⟨p, vs, rfl, h1, h2⟩ := lstV_ok S ra hl
    unfold oMin at h
    split at h
    · rename_i n ns e
      cases h
      rw [intsOf_ok e] at h2
      rw [RDs_int h2] at h1
      refine cr_min hc pins s σ H [_] [u] Q I (.cons ru .nil) ⟨p, n :: ns, rfl, h1, by simp, fun m hm hle => ?_⟩
      have : m = lMin (n :: ns) := Int.le_antisymm (hle _ (lMin_mem (by simp))) (lMin_le hm)
      subst this
      exact q ρ H _ (Ext.refl _ _) S rfl
    · cases h
  · cases h
theorem cd_sorted : CallR X (.builtin "sorted") (rPN X.K cl (g1 dSorted)) := cd_1 (g1 := dSorted) fun pins s σ H x u Q ρ st a H0 I ru S ra q => by
  obtain ⟨c, h⟩ : ∃ c, dSorted a st = some c := ⟨_, q.choose_spec.1⟩
  have h0 := h
  unfold dSorted at h
  split at h
  · rename_i l hl
    obtain ⟨p, vs, rfl, h1, h2⟩ := lstV_ok S ra hl
    unfold oSort at h
    split at h
    · rename_i ns e
      cases h
      rw [intsOf_ok e] at h2
      rw [RDs_int h2] at h1
      refine cr_sortedI pins s σ H [_] [u] Q I (.cons ru .nil) ⟨p, ns, rfl, h1, fun ms n hp hs hn => ?_⟩
      rw [iSort_uniq hp hs]
      exact fin_lst S q h0 (int_RDs _ _ _ _) hn
    · split at h
      · rename_i ss e
        split at h
        · rename_i h64
          cases h
          have hv := strs_rds h2 e
          rw [hv] at h1
          refine cr_sortedS pins s σ H [_] [u] Q I (.cons ru .nil) ⟨p, _, rfl, h1, by rw [List.length_map]; exact h64, fun ys n hp hs hn => ?_⟩
          have e2 : ys.map (fun x => x.cps.toList) = sSort ss := by
            refine sSort_uniq ?_ ?_
            · have := hp.map fun x : Str => x.cps.toList
              rwa [cps_mk] at this
            · exact List.pairwise_map.mpr (sorted_pw ys hs)
          have e3 : ys = (sSort ss).map fun p => (⟨p.toArray⟩ : Str) := by rw [← e2, mk_cps]
          rw [e3]
          exact fin_lst S q h0 (str_RDs _ _ _ _) hn
        · cases h
      · cases h
  · cases h
theorem cd_str : CallR X (.type "str") (rPN X.K cl (g1 dStr)) := cd_1 (g1 := dStr) fun pins s σ H x u Q ρ st a H0 I ru S ra q => by
  obtain ⟨c, h, q⟩ := q
  unfold dStr at h
  split at h
  · rename_i i
    split at h
    · rename_i hi
      cases h; cases ra
      exact call_str_int pins s σ H [_] [u] Q I (.cons ru .nil) ⟨i, rfl, hi, q ρ H _ (Ext.refl _ _) S (congrArg V.str (str_eta _).symm)⟩
    · cases h
  · cases h
end
/-! ### list(range(..)) -/
def rgOk (a b : Int) : Prop := -(2 ^ 62) ≤ a ∧ a < 2 ^ 62 ∧ -(2 ^ 62) ≤ b ∧ b < 2 ^ 62 ∧ (b - a).toNat ≤ sLine
open Classical in
noncomputable def eRg1 (fa : SEnv → Store → R RV) : SEnv → Store → R RV := fun env st => (fa env st).bind fun a st1 => match a with
  | .v (.int j) => if rgOk 0 j then .ok (.t (rngL 0 j.toNat)) st1 else .bad
  | _ => .bad
open Classical in
noncomputable def eRg2 (fa fb : SEnv → Store → R RV) : SEnv → Store → R RV := fun env st => (fa env st).bind fun a st1 => (fb env st1).bind fun b st2 => match a, b with
  | .v (.int i), .v (.int j) => if rgOk i j then .ok (.t (rngL i (j - i).toNat)) st2 else .bad
  | _, _ => .bad
open Classical in
/-- tuple(range(a)) -/
noncomputable def eTRg1 (fa : SEnv → Store → R RV) : SEnv → Store → R RV := fun env st => (fa env st).bind fun a st1 => match a with
  | .v (.int j) => if rgOk 0 j then .ok (.v (.tup (rngL 0 j.toNat))) st1 else .bad
  | _ => .bad
theorem rgV_eq (a b : Int) : rgV a b = (List.range (b - a).toNat).map fun i => V.int (a + (i : Nat)) := rfl
theorem rg_RDs {K : PySem.W.Frag} {ρ : List Addr} {H : Hp} (a b : Int) : RDs K ρ H (rngL a (b - a).toNat) (rgV a b) := by
  have e : rngL a (b - a).toNat = ((List.range (b - a).toNat).map fun (i : Nat) => a + (i : Int)).map D.int := by rw [List.map_map]; rfl
  have e2 : rgV a b = ((List.range (b - a).toNat).map fun (i : Nat) => a + (i : Int)).map V.int := by rw [List.map_map]; rfl
  rw [e, e2]
  exact int_RDs _ _ _ _
section
variable {X : Cx} {cl : Str → Option Addr} {W : WX} {a b e : Expr} {fa fb : SEnv → Store → R RV} {p p2 pos pos2 : Pos}
theorem fin_new {K : PySem.W.Frag} {σ : L2.St} {ρ : List Addr} {H : Hp} {st : Store} {l : List D} {vs : List V} {n : Addr} {Q : VK} (S : RS K ρ H cl st) (h : Post K cl W σ (relV K) ρ H (.ok (.t l) st) Q) (r : RDs K ρ H l vs) (hn : H n = none) : Q (.ref n) (upd H n (.lst vs)) :=
  fin_lst S (o := some (.t l)) ⟨_, rfl, h⟩ rfl r hn
theorem de_rg1 (hc : X.calm = true) (hg : Gl X "list") (hm : X.mg "list" = none) (hg2 : Gl X "range") (hm2 : X.mg "range" = none) (ha : PE X a (tF X.K cl W fa)) (na : starEach [a] X.env = (false, eval a X.env) :: starEach [] X.env)
    (nb : starEach [.Call (.Name "range" p2) [a] [] pos2] X.env = (false, eval (.Call (.Name "range" p2) [a] [] pos2) X.env) :: starEach [] X.env) :
    PE X (.Call (.Name "list" p) [.Call (.Name "range" p2) [a] [] pos2] [] pos) (tF X.K cl W (eRg1 fa)) := by
  refine PEw (pe_listRg hc hg hm (prg_1 hg2 hm2 ha na) nb) fun σ H Q ⟨ρ, env, st, S, E, P⟩ => ?_
  refine ⟨ρ, env, st, S, E, (Post.bind backV P).mono ?_⟩
  rintro x H1 ⟨ρ1, st1, a', x1, S1, r1, P1⟩
  split at P1
  · rename_i j
    split at P1
    · rename_i hj
      cases r1
      refine ⟨j, rfl, ⟨hj.1, hj.2.1, hj.2.2.1, hj.2.2.2.1, hj.2.2.2.2⟩, fun q hq => ?_⟩
      have : (j - 0).toNat = j.toNat := by rw [Int.sub_zero]
      exact fin_new S1 (by rw [← this] at P1; exact P1) (rg_RDs 0 j) hq
    · exact P1.elim
  · exact P1.elim
theorem de_trg1 (hc : X.calm = true) (hg : Gl X "tuple") (hm : X.mg "tuple" = none) (hg2 : Gl X "range") (hm2 : X.mg "range" = none) (ha : PE X a (tF X.K cl W fa)) (na : starEach [a] X.env = (false, eval a X.env) :: starEach [] X.env)
    (nb : starEach [.Call (.Name "range" p2) [a] [] pos2] X.env = (false, eval (.Call (.Name "range" p2) [a] [] pos2) X.env) :: starEach [] X.env) :
    PE X (.Call (.Name "tuple" p) [.Call (.Name "range" p2) [a] [] pos2] [] pos) (tF X.K cl W (eTRg1 fa)) := by
  refine PEw (pe_tupRg hc hg hm (prg_1 hg2 hm2 ha na) nb) fun σ H Q ⟨ρ, env, st, S, E, P⟩ => ?_
  refine ⟨ρ, env, st, S, E, (Post.bind backV P).mono ?_⟩
  rintro x H1 ⟨ρ1, st1, a', x1, S1, r1, P1⟩
  split at P1
  · rename_i j
    split at P1
    · rename_i hj
      cases r1
      refine ⟨j, rfl, ⟨hj.1, hj.2.1, hj.2.2.1, hj.2.2.2.1, hj.2.2.2.2⟩, fun q hq => ?_⟩
      have e : (j - 0).toNat = j.toNat := by rw [Int.sub_zero]
      have r := rg_RDs (K := X.K) (ρ := ρ1) (H := H1) 0 j
      rw [e] at r
      exact P1 ρ1 _ _ (Ext.new hq) (S1.new hq) ⟨q, _, rfl, SqT.of upd_same, RDs.mono ((Ext.new hq).mono S1) _ _ r⟩
    · exact P1.elim
  · exact P1.elim
theorem de_rg2 (hc : X.calm = true) (hg : Gl X "list") (hm : X.mg "list" = none) (hg2 : Gl X "range") (hm2 : X.mg "range" = none) (ha : PE X a (tF X.K cl W fa)) (hb : PE X b (tF X.K cl W fb)) (na : starEach [a, b] X.env = (false, eval a X.env) :: starEach [b] X.env) (na2 : starEach [b] X.env = (false, eval b X.env) :: starEach [] X.env)
    (nb : starEach [.Call (.Name "range" p2) [a, b] [] pos2] X.env = (false, eval (.Call (.Name "range" p2) [a, b] [] pos2) X.env) :: starEach [] X.env) :
    PE X (.Call (.Name "list" p) [.Call (.Name "range" p2) [a, b] [] pos2] [] pos) (tF X.K cl W (eRg2 fa fb)) := by
  refine PEw (pe_listRg hc hg hm (prg_2 hg2 hm2 ha hb na na2 (by rw [na2]; rfl)) nb) fun σ H Q ⟨ρ, env, st, S, E, P⟩ => ?_
  refine ⟨ρ, env, st, S, E, (Post.bind backV P).mono ?_⟩
  rintro x H1 ⟨ρ1, st1, a', x1, S1, r1, P1⟩
  refine ⟨ρ1, env, st1, S1, E.mono (x1.mono S), (Post.bind backV P1).mono ?_⟩
  rintro y H2 ⟨ρ2, st2, b', x2, S2, r2, P2⟩
  split at P2
  · rename_i i j
    split at P2
    · rename_i hj
      cases r1; cases r2
      exact ⟨i, j, rfl, rfl, ⟨hj.1, hj.2.1, hj.2.2.1, hj.2.2.2.1, hj.2.2.2.2⟩, fun q hq => fin_new S2 P2 (rg_RDs i j) hq⟩
    · exact P2.elim
  · exact P2.elim
/-! ### xs[::-1] -/
def eRevL (fa : SEnv → Store → R RV) : SEnv → Store → R RV := fun env st => (fa env st).bind fun a st1 => match lstV st1 a with
  | some l => .ok (.t l.reverse) st1
  | none => .bad
theorem RDs.reverse {K : PySem.W.Frag} {ρ : List Addr} {H : Hp} : ∀ {l : List D} {vs : List V}, RDs K ρ H l vs → RDs K ρ H l.reverse vs.reverse
  | [], _, h => by
    have : _ = [] := h
    subst this; rfl
  | d :: l, _, h => by
    obtain ⟨v, r, rfl, h1, h2⟩ := h
    rw [List.reverse_cons, List.reverse_cons]
    exact RDs.append h2.reverse ⟨v, [], rfl, h1, rfl⟩
theorem de_revL {k : Nat} {p1 p2 p3 : Pos} (ha : PE X e (tF X.K cl W fa)) : PE X (.Subscript e (.Slice none none (some (.UnaryOp .USub (.Constant (.int 1) k p1) p2)) p3) pos) (tF X.K cl W (eRevL fa)) := by
  refine PEw (pe_revL ha) fun σ H Q ⟨ρ, env, st, S, E, P⟩ => ?_
  refine ⟨ρ, env, st, S, E, (Post.bind backV P).mono ?_⟩
  rintro x H1 ⟨ρ1, st1, a', x1, S1, r1, P1⟩
  split at P1
  · rename_i l hl
    obtain ⟨p, vs, rfl, h1, h2⟩ := lstV_ok S1 r1 hl
    exact ⟨p, vs, rfl, h1, fun n hn => fin_new S1 P1 h2.reverse hn⟩
  · exact P1.elim
/-! ### reversed -/
theorem getRev {l : List D} {i : Nat} (h : i < l.length) : l.reverse[i]? = l[l.length - 1 - i]? := by
  rw [List.getElem?_reverse h]
variable {tg : Expr}
theorem src_revL {K : PySem.W.Frag} {a : RV} {p : Addr} {l : List D} {H0 : Hp} : Src K cl (Itv K p l.length) (fun ρ H => RRV K ρ H H0 a (.ref p)) (fun st => lstV st a = some l) l.reverse := by
  have key : ∀ {ρ H st}, RS K ρ H cl st → RRV K ρ H H0 a (.ref p) → lstV st a = some l → ∃ vs, SqL K H p vs ∧ RDs K ρ H l vs := by
    intro ρ H st S r g
    obtain ⟨p', vs, e, h1, h2⟩ := lstV_ok S r g
    cases e
    exact ⟨vs, h1, h2⟩
  refine ⟨fun S r x => RRV.ext S x r, fun {ρ H st i} S r g hi => ?_, fun {ρ H st i} S r g hi => ?_, fun {ρ H st i x H'} S r g y hi => ?_⟩
  · obtain ⟨vs, h1, h2⟩ := key S r g
    rw [List.length_reverse] at hi
    obtain ⟨v, hv, _⟩ := h2.get (List.getElem?_eq_getElem (show l.length - 1 - i < l.length by omega))
    exact ⟨hi, vs, v, h1, hv⟩
  · rw [List.length_reverse] at hi
    exact hi
  · obtain ⟨vs, h1, h2⟩ := key S r g
    rw [List.length_reverse] at hi
    obtain ⟨rfl, y⟩ := y
    obtain ⟨v, hv, rv⟩ := h2.get (List.getElem?_eq_getElem (show l.length - 1 - i < l.length by omega))
    have := y vs h1
    rw [hv] at this; cases this
    exact ⟨_, by rw [getRev hi]; exact List.getElem?_eq_getElem (show l.length - 1 - i < l.length by omega), Ext.refl _ _, S, rv⟩
theorem src_revT {K : PySem.W.Frag} {p : Addr} {l : List D} {gd : Store → Prop} : Src K cl (RT.ItvT K p l.length) (fun ρ H => RD K ρ H (.tup l) (.ref p)) gd l.reverse := by
  have key : ∀ {ρ H}, RD K ρ H (.tup l) (.ref p) → ∃ vs, SqT K H p vs ∧ RDs K ρ H l vs := by
    rintro ρ H ⟨p', vs, e, h1, h2⟩
    cases e
    exact ⟨vs, h1, h2⟩
  refine ⟨fun S r x => RD.mono (x.mono S) _ _ r, fun {ρ H st i} S r g hi => ?_, fun {ρ H st i} S r g hi => ?_, fun {ρ H st i x H'} S r g y hi => ?_⟩
  · obtain ⟨vs, h1, h2⟩ := key r
    rw [List.length_reverse] at hi
    obtain ⟨v, hv, _⟩ := h2.get (List.getElem?_eq_getElem (show l.length - 1 - i < l.length by omega))
    exact ⟨hi, vs, v, h1, hv⟩
  · rw [List.length_reverse] at hi
    exact hi
  · obtain ⟨vs, h1, h2⟩ := key r
    rw [List.length_reverse] at hi
    obtain ⟨rfl, y⟩ := y
    obtain ⟨v, hv, rv⟩ := h2.get (List.getElem?_eq_getElem (show l.length - 1 - i < l.length by omega))
    have := y vs h1
    rw [hv] at this; cases this
    exact ⟨_, by rw [getRev hi]; exact List.getElem?_eq_getElem (show l.length - 1 - i < l.length by omega), Ext.refl _ _, S, rv⟩
/-- the items of what is walked from its end -/
def itR (st : Store) (a : RV) : Option (List D) := match a with
  | .v (.tup l) => some l
  | a => lstV st a
def wRev (fa : SEnv → Store → R RV) : SEnv → Store → R Walk := fun env st => (fa env st).bind fun a st1 => match itR st1 a with
  | some l => .ok ⟨l.reverse, fun st => itR st a = some l⟩ st1
  | none => .bad
theorem di_rev (hg : Gl X "reversed") (hm : X.mg "reversed" = none) (he : PE X e (tF X.K cl W fa)) (hs : starEach [e] X.env = (false, eval e X.env) :: starEach [] X.env) : PI X tg (.Call (.Name "reversed" p) [e] [] pos) (tI X.K cl W (wRev fa)) := by
  refine PIw (RT.pi_revA hg hm he hs) fun σ H Q ⟨ρ, env, st, S, E, P⟩ => ?_
  refine ⟨ρ, env, st, S, E, (PostI.bind (rel := relV X.K) P).mono ?_⟩
  rintro v H1 ⟨ρ1, st1, a, x1, S1, r1, P1⟩
  cases hi : itR st1 a with
  | none => rw [hi] at P1; exact P1.elim
  | some l =>
    rw [hi] at P1
    have lists : (∀ st, itR st a = lstV st a) → ∃ (a : Addr) (xs : List V), v = .ref a ∧ ((SqL X.K H1 a xs ∧ Q (Itv X.K a xs.length) H1) ∨ (SqT X.K H1 a xs ∧ Q (RT.ItvT X.K a xs.length) H1)) := by
      intro hn
      have hi' := hi
      rw [hn] at hi'
      obtain ⟨p, vs, rfl, h1, h2⟩ := lstV_ok S1 r1 hi'
      refine ⟨p, vs, rfl, .inl ⟨h1, ?_⟩⟩
      rw [← h2.length]
      have this := src_revL (K := X.K) (cl := cl) (a := a) (p := p) (l := l) (H0 := H)
      have that : Src X.K cl (Itv X.K p l.length) (fun ρ H' => RRV X.K ρ H' H a (.ref p)) (fun st => itR st a = some l) l.reverse :=
        ⟨this.keep, fun S r g => this.go S r ((hn _).symm.trans g), fun S r g => this.stop S r ((hn _).symm.trans g), fun S r g => this.yld S r ((hn _).symm.trans g)⟩
      exact P1 ρ1 H1 _ _ x1 S1 that r1 hi
    cases a with
    | t l' => exact lists fun _ => rfl
    | v d =>
      cases d with
      | tup l' =>
        cases hi
        obtain ⟨p, vs, rfl, h1, h2⟩ := r1
        refine ⟨p, vs, rfl, .inr ⟨h1, ?_⟩⟩
        rw [← h2.length]
        exact P1 ρ1 H1 _ _ x1 S1 src_revT ⟨p, vs, rfl, h1, h2⟩ rfl
      | rol l' => exact lists fun _ => rfl
      | ref n => exact lists fun _ => rfl
      | _ => cases hi
theorem src_revR {K : PySem.W.Frag} {lo : Int} {n : Nat} {gd : Store → Prop} : Src K cl (Itc (lo + (n : Int) - 1) (-1) n) (fun _ _ => True) gd (rngL lo n).reverse := by
  have hl : (rngL lo n).length = n := by simp [rngL]
  refine ⟨fun _ _ _ => trivial, fun {ρ H st i} S r g hi => ?_, fun {ρ H st i} S r g hi => ?_, fun {ρ H st i x H'} S r g y hi => ?_⟩
  · rw [List.length_reverse, hl] at hi; exact hi
  · rw [List.length_reverse, hl] at hi; exact hi
  · obtain ⟨rfl, rfl⟩ := y
    rw [List.length_reverse] at hi
    refine ⟨.int (lo + (n : Int) - 1 + (i : Int) * (-1)), ?_, Ext.refl _ _, S, rfl⟩
    rw [getRev hi, hl]
    rw [hl] at hi
    unfold rngL
    rw [List.getElem?_map, List.getElem?_range (by omega)]
    simp only [Option.map_some, Option.some.injEq, D.int.injEq]
    omega
open Classical in
noncomputable def wRevR1 (fa : SEnv → Store → R RV) : SEnv → Store → R Walk := fun env st => (fa env st).bind fun a st1 => match a with
  | .v (.int j) => if rOk j then .ok ⟨(rngL 0 j.toNat).reverse, fun _ => True⟩ st1 else .bad
  | _ => .bad
theorem di_revR1 (hg : Gl X "reversed") (hm : X.mg "reversed" = none) (hg2 : Gl X "range") (hm2 : X.mg "range" = none) (ha : PE X a (tF X.K cl W fa)) (na : starEach [a] X.env = (false, eval a X.env) :: starEach [] X.env)
    (nb : starEach [.Call (.Name "range" p2) [a] [] pos2] X.env = (false, eval (.Call (.Name "range" p2) [a] [] pos2) X.env) :: starEach [] X.env) :
    PI X tg (.Call (.Name "reversed" p) [.Call (.Name "range" p2) [a] [] pos2] [] pos) (tI X.K cl W (wRevR1 fa)) := by
  refine PIw (pi_revR hg hm (prg_1 hg2 hm2 ha na) nb) fun σ H Q ⟨ρ, env, st, S, E, P⟩ => ?_
  refine ⟨ρ, env, st, S, E, (PostI.bind (rel := relV X.K) P).mono ?_⟩
  rintro v H1 ⟨ρ1, st1, a, x1, S1, r1, P1⟩
  split at P1
  · rename_i j
    split at P1
    · rename_i hj
      cases r1
      refine ⟨j, rfl, by decide, by decide, hj.1, hj.2, ?_⟩
      have e : (j - 0).toNat = j.toNat := by rw [Int.sub_zero]
      rw [e]
      exact P1 ρ1 H1 _ _ x1 S1 src_revR trivial trivial
    · exact P1.elim
  · exact P1.elim
end
end Ev

/-! ## Ev9b -/
set_option Elab.async false
set_option linter.all false
set_option maxRecDepth 100000
/-! Ev9b: dicts whose keys are tuples: a new one, d[a, b], d[a, b] = v. -/
namespace Ev
open PySem PySem.Spec PyProof.Rows L2
open Classical in
noncomputable def dvV (kvs : List (D × D)) (k : D) : Option D := (kvs.find? fun p => decide (p.1 = k)).map (·.2)
open Classical in
noncomputable def dputD (kvs : List (D × D)) (k v : D) : List (D × D) := if (kvs.any fun p => decide (p.1 = k)) = true then kvs.map (fun p => if p.1 = k then (p.1, v) else p) else kvs ++ [(k, v)]
/-- a key's parts -/
def keyD : D → Option Key
  | .int i => some (.inl i)
  | .str s => some (.inr ⟨s.toArray⟩)
  | _ => none
def keysD : List D → Option (List Key)
  | [] => some []
  | d :: l => match keyD d, keysD l with
    | some k, some r => some (k :: r)
    | _, _ => none
theorem keyD_rel {d : D} {k : Key} (h : keyD d = some k) : RKey d k := by
  cases d with
  | int i => cases h; exact .int i
  | str s => cases h; exact .str s
  | _ => cases h
theorem keysD_rel : ∀ {l : List D} {ks : List Key}, keysD l = some ks → RKeys l ks
  | [], _, h => by cases h; exact .nil
  | d :: l, ks, h => by
    simp only [keysD] at h
    split at h
    · rename_i k r h1 h2
      cases h
      exact .cons (keyD_rel h1) (keysD_rel h2)
    · cases h
theorem RKey.fn {d : D} {k k' : Key} (h : RKey d k) (h' : RKey d k') : k = k' := by cases h <;> cases h' <;> rfl
theorem RKey.inj {d d' : D} {k : Key} (h : RKey d k) (h' : RKey d' k) : d = d' := by cases h <;> cases h' <;> rfl
theorem RKeys.fn : ∀ {l : List D} {k k' : List Key}, RKeys l k → RKeys l k' → k = k'
  | _, _, _, .nil, .nil => rfl
  | _, _, _, .cons h t, .cons h' t' => by rw [h.fn h', RKeys.fn t t']
theorem RKeys.inj : ∀ {l l' : List D} {k : List Key}, RKeys l k → RKeys l' k → l = l'
  | _, _, _, .nil, .nil => rfl
  | _, _, _, .cons h t, .cons h' t' => by rw [h.inj h', RKeys.inj t t']
theorem RKT.same {d d' : D} {k k' : List Key} (h : RKT d k) (h' : RKT d' k') : d = d' ↔ k = k' := by
  cases h with
  | tup h =>
    cases h' with
    | tup h' =>
      constructor
      · intro e; cases e; exact h.fn h'
      · intro e; subst e; rw [h.inj h']
section
variable {K : PySem.W.Frag} {cl : Str → Option Addr} {ρ : List Addr} {H : Hp}
theorem RKVT.val {k : D} {ks : List Key} (hk : RKT k ks) : ∀ {kvs : List (D × D)} {vs : List (List Key × V)}, RKVT K ρ H kvs vs → ∀ {d}, dvV kvs k = some d → ∃ v, valV vs ks = some v ∧ RD K ρ H d v
  | [], _, _, d, h => by cases h
  | (k1, d1) :: r, _, ⟨k', v, r', e, h0, h1, h2⟩, d, h => by
    subst e
    by_cases q : k1 = k
    · have q' : k' = ks := (h0.same hk).mp q
      rw [valV_pos (p := (k', v)) q']
      simp only [dvV, List.find?_cons, q, decide_true, Option.map_some, Option.some.injEq] at h
      exact ⟨v, rfl, by rw [← h]; exact h1⟩
    · have q' : ¬ k' = ks := fun z => q ((h0.same hk).mpr z)
      rw [valV_neg (p := (k', v)) q']
      refine RKVT.val hk h2 ?_
      simp only [dvV, List.find?_cons, q, decide_false] at h
      exact h
theorem RKVT.len : ∀ {kvs : List (D × D)} {vs : List (List Key × V)}, RKVT K ρ H kvs vs → vs.length = kvs.length
  | [], _, h => by subst h; rfl
  | (k1, d1) :: r, _, ⟨k', v, r', e, h0, h1, h2⟩ => by subst e; simp [RKVT.len h2]
theorem RKVT.any {k : D} {ks : List Key} (hk : RKT k ks) : ∀ {kvs : List (D × D)} {vs : List (List Key × V)}, RKVT K ρ H kvs vs → (vs.any fun p => decide (p.1 = ks)) = (kvs.any fun p => @decide (p.1 = k) (Classical.propDecidable _))
  | [], _, h => by subst h; rfl
  | (k1, d1) :: r, _, ⟨k', v, r', e, h0, h1, h2⟩ => by
    subst e
    simp only [List.any_cons]
    rw [RKVT.any hk h2]
    congr 1
    have := h0.same hk
    by_cases q : k1 = k
    · simp [q, this.mp q]
    · simp only [q, decide_false, decide_eq_false_iff_not, fun z => q (this.mpr z)]
      exact fun z => q (this.mpr z)
theorem RKVT.snoc {k d : D} {ks : List Key} {v : V} (hk : RKT k ks) (hv : RD K ρ H d v) : ∀ {kvs : List (D × D)} {vs : List (List Key × V)}, RKVT K ρ H kvs vs → RKVT K ρ H (kvs ++ [(k, d)]) (vs ++ [(ks, v)])
  | [], _, h => by subst h; exact ⟨ks, v, [], rfl, hk, hv, rfl⟩
  | (k1, d1) :: r, _, ⟨k', v', r', e, h0, h1, h2⟩ => by subst e; exact ⟨k', v', _, rfl, h0, h1, RKVT.snoc hk hv h2⟩
theorem RKVT.rep {k d : D} {ks : List Key} {v : V} (hk : RKT k ks) (hv : RD K ρ H d v) : ∀ {kvs : List (D × D)} {vs : List (List Key × V)}, RKVT K ρ H kvs vs → RKVT K ρ H (kvs.map fun p => @ite _ (p.1 = k) (Classical.propDecidable _) (p.1, d) p) (vs.map fun p => if p.1 = ks then (p.1, v) else p)
  | [], _, h => by subst h; rfl
  | (k1, d1) :: r, _, ⟨k', v', r', e, h0, h1, h2⟩ => by
    subst e
    have := h0.same hk
    have ih := RKVT.rep hk hv h2
    by_cases q : k1 = k
    · simp only [List.map_cons, q, this.mp q, if_true]
      exact ⟨ks, v, _, rfl, hk, hv, ih⟩
    · simp only [List.map_cons, if_neg q, if_neg fun z => q (this.mpr z)]
      exact ⟨k', v', _, rfl, h0, h1, ih⟩
theorem RKVT.put {k d : D} {ks : List Key} {v : V} (hk : RKT k ks) (hv : RD K ρ H d v) {kvs : List (D × D)} {vs : List (List Key × V)} (h : RKVT K ρ H kvs vs) : RKVT K ρ H (dputD kvs k d) (putK vs ks v) := by
  unfold dputD putK
  rw [h.any hk]
  split
  · exact h.rep hk hv
  · exact h.snoc hk hv
/-- the values of a key -/
theorem RKeys.vals : ∀ {l : List D} {ks : List Key} {vs : List V}, RKeys l ks → RDs K ρ H l vs → vs = ks.map kV
  | _, _, _, .nil, h => h
  | _, _, _, .cons h t, ⟨v, r, e, h1, h2⟩ => by
    subst e
    rw [List.map_cons, ← RKeys.vals t h2]
    congr 1
    cases h with
    | int i => cases h1; rfl
    | str s => cases h1; rfl
end
/-! ### the three -/
def eDNewT : SEnv → Store → R RV := fun _ st => .ok (.v (.ref st.length)) (st ++ [.dict true []])
noncomputable def eDGetT (fo : SEnv → Store → R RV) (fr : SEnv → Store → R (List D)) : SEnv → Store → R RV := fun env st => (fo env st).bind fun o st1 => (fr env st1).bind fun l st2 => match o with
  | .v (.ref n) => match st2[n]? with
    | some (.dict true kvs) => match keysD l, dvV kvs (.tup l) with
      | some _, some d => if l.length ≤ sLine then .ok (.v d) st2 else .bad
      | _, _ => .bad
    | _ => .bad
  | _ => .bad
noncomputable def sDPutT (fa fo : SEnv → Store → R RV) (fr : SEnv → Store → R (List D)) : SS := fun env st => (fa env st).toS env fun a st1 => (mat a st1).toS env fun d st2 => (fo env st2).toS env fun o st3 => (fr env st3).toS env fun l st4 => match o with
  | .v (.ref n) => match st4[n]? with
    | some (.dict true kvs) => match keysD l with
      | some _ => if l.length ≤ sLine ∧ kvs.length < sLine then .nx env (st4.set n (.dict true (dputD kvs (.tup l) d))) else .bad
      | none => .bad
    | _ => .bad
  | _ => .bad
section
variable {X : Cx} {cl : Str → Option Addr} {W : WX} {o e : Expr} {es : List Expr} {fa fo : SEnv → Store → R RV} {fr : SEnv → Store → R (List D)} {pos pos' p : Pos}
theorem de_dnewT : PE X (.Dict [] [] pos) (tF X.K cl W eDNewT) := PEw pe_dnewT fun σ H Q ⟨ρ, env, st, S, E, P⟩ p hp => by
  have x : Ext ρ H (ρ ++ [p]) (upd H p (.dT [])) := Ext.grow (Ext.new hp) hp
  have S1 : RS X.K ρ (upd H p (.dT [])) cl st := S.new hp
  have np : p ∉ ρ := fun z => by
    obtain ⟨u, e, _⟩ := S.obj z
    rw [hp] at e; cases e
  refine P (ρ ++ [p]) _ (.ref p) x (S1.grow np (.inr ⟨rfl, [], upd_same, rfl⟩)) ⟨p, rfl, ?_⟩
  rw [← S.len, List.getElem?_append_right (Nat.le_refl _)]
  simp
theorem de_dgetT {x1} (hu : X.A.units + 1 < cLine) (ho : PE X o (tF X.K cl W fo)) (ha : PA X es (tA1 X.K cl W fr)) (hs : NoSl (.Tuple es x1 p)) : PE X (.Subscript o (.Tuple es x1 p) pos) (tF X.K cl W (eDGetT fo fr)) := by
  refine PEw (pe_dget hu ho (pe_tup ha) hs) fun σ H Q ⟨ρ, env, st, S, E, P⟩ => ?_
  refine ⟨ρ, env, st, S, E, (Post.bind0 P).mono ?_⟩
  rintro x H1 ⟨ρ1, st1, a, x1, S1, r1, P1⟩
  refine ⟨ρ1, env, st1, S1, E.mono (x1.mono S), (Post.bind0 (relα := relA X.K) (Post.from backV S1 x1 P1)).mono ?_⟩
  rintro xs H2 ⟨ρ2, st2, l, x2, S2, r2, P2⟩
  have r1' := RRV.ext S1 x2 r1
  split at P2
  · rename_i n
    split at P2
    · rename_i kvs e
      split at P2
      · rename_i ks d hk hd
        split at P2
        · rename_i hz
          obtain ⟨q, rfl, hq⟩ := r1'
          have kr := keysD_rel hk
          refine ⟨by rw [← RDs.length r2, sLine_eq]; exact hz, fun t ht => ?_⟩
          obtain ⟨b, _⟩ | ⟨_, vs, h1, h2⟩ := S2.at_ _ _ _ e hq
          · cases b
          obtain ⟨v, hv, rv⟩ := h2.val (.tup kr) hd
          have ev := kr.vals r2
          have hqt : q ≠ t := fun z => by rw [z, ht] at h1; cases h1
          have x3 : Ext ρ2 H2 ρ2 (upd H2 t (.tup xs)) := Ext.new ht
          refine ⟨q, v, rfl, ?_, P2 ρ2 _ v (x2.trans x3) (S2.new ht) (RD.mono (x3.mono S2) _ _ rv)⟩
          rw [← hv]
          exact DGet.t (by rw [upd_ne hqt]; exact h1) (by rw [upd_same, ev])
        · exact P2.elim
      · exact P2.elim
    · exact P2.elim
  · exact P2.elim
theorem ds_dputT {x1} (hu : X.A.units + 1 < cLine) (ho : PE X o (tF X.K cl W fo)) (ha : PA X es (tA1 X.K cl W fr)) (hv : PE X e (tF X.K cl W fa)) (hs : swapsWith e (some (.Subscript o (.Tuple es x1 p) pos')) pos.line X.env = pure false) :
    PS X (.Assign [.Subscript o (.Tuple es x1 p) pos'] e pos) (tS X.K cl W (sDPutT fa fo fr)) := by
  refine PSw (ps_dput hu ho (pe_tup ha) hv hs) fun D σ H ⟨ρ, env, st, S, E, P⟩ => ?_
  refine ⟨ρ, env, st, S, E, (PostS.toS (rel := relV X.K) S E P).mono ?_⟩
  rintro x H1 ⟨ρ1, st1, a, x1, S1, r1, P1⟩
  obtain ⟨d, st2, ρ2, e2, x2, S2, r2, m2⟩ := mat_ok S1 x1 r1
  rw [e2, R.toS_ok] at P1
  have P2 := PostS.from S2 x2 P1
  have E2 := (E.mono (x1.mono S)).mono m2
  refine ⟨ρ2, env, st2, S2, E2, (PostS.toS (rel := relV X.K) S2 E2 P2).mono ?_⟩
  rintro y H3 ⟨ρ3, st3, ob, x3, S3, r3, P3⟩
  have P3' := PostS.from S3 x3 P3
  have E3 := E2.mono (x3.mono S2)
  refine ⟨ρ3, env, st3, S3, E3, (PostS.toS (rel := relA X.K) S3 E3 P3').mono ?_⟩
  rintro xs H4 ⟨ρ4, st4, l, x4, S4, r4, P4⟩
  have r3' := RRV.ext S3 x4 r3
  split at P4
  · rename_i n
    split at P4
    · rename_i kvs e
      split at P4
      · rename_i ks hk
        split at P4
        · rename_i hz
          obtain ⟨q, rfl, hq⟩ := r3'
          have kr := keysD_rel hk
          refine ⟨by rw [← RDs.length r4, sLine_eq]; exact hz.1, fun t ht => ?_⟩
          obtain ⟨b, _⟩ | ⟨_, vs, h1, h2⟩ := S4.at_ _ _ _ e hq
          · cases b
          have ev := kr.vals r4
          have hqt : q ≠ t := fun z => by rw [z, ht] at h1; cases h1
          have x5 : Ext ρ4 H4 ρ4 (upd H4 t (.tup xs)) := Ext.new ht
          have S5 : RS X.K ρ4 (upd H4 t (.tup xs)) cl st4 := S4.new ht
          have rd := RD.mono (x5.mono S4) _ _ (RD.mono (x4.mono S3) _ _ (RD.mono (x3.mono S2) _ _ r2))
          have x6 : Ext ρ4 (upd H4 t (.tup xs)) ρ4 (upd (upd H4 t (.tup xs)) q (.dT (putK vs ks x))) := Ext.put (List.mem_of_getElem? hq)
          have m6 := x6.mono S5
          refine ⟨q, _, rfl, DPut.t (kvs := vs) (k := ks) (by rw [upd_ne hqt]; exact h1) (by rw [upd_same, ev]) (by rw [h2.len, sLine_eq]; exact hz.2), ?_⟩
          have h2' := RKVT.mono (x5.mono S4) _ _ h2
          exact P4 ρ4 _ σ (x4.trans (x5.trans x6)) (S5.put hq (.inr ⟨rfl, _, upd_same, RKVT.mono m6 _ _ (h2'.put (.tup kr) rd)⟩)) (((E3.mono (x4.mono S3)).mono (x5.mono S4)).mono m6)
        · exact P4.elim
      · exact P4.elim
    · exact P4.elim
  · exact P4.elim
end
end Ev

/-! ## Ev9c -/
set_option Elab.async false
set_option linter.all false
set_option maxRecDepth 100000
/-! Ev9c: s * n for texts; d.get(k, x) of a written dict. -/
namespace Ev
open PySem PySem.Spec PyProof.Rows L2
/-! ### a written dict -/
/-- what a table says of a key: its value, or that it isn't there -/
abbrev Tab := List (List Nat × Option D)
structure DctF (K : PySem.W.Frag) (w : World) (mg : Str → Option Value) (x : Str) (tab : Tab) : Prop where
  ex : ∃ (a : Addr) (es : Array DictEntry) (n : Nat), mg x = some (.ref a) ∧ KDict K w a es n ∧ ∀ s o, tab.lookup s = some o → match o with
    | some d => ∃ (u : Value) (v : V), PySem.W.nsIn K a ⟨s.toArray⟩ = some (some u) ∧ RelV v u ∧ ∀ ρ H, RD K ρ H d v
    | none => PySem.W.nsIn K a ⟨s.toArray⟩ = some none
  nd : (x == ("__debug__" : Str)) = false
def dCGet (tab : Tab) (a b : RV) (_ : Store) : Option RV := match a with
  | .v (.str s) => match tab.lookup s with
    | some (some d) => some (.v d)
    | some none => match b with
      | .v d => some (.v d)
      | _ => none
    | none => none
  | _ => none
theorem pe_kget {X : Cx} {o e f : Expr} {d : Addr} {es : Array DictEntry} {n : Nat} {ro te tf : TE} {apos cpos : Pos} (K1 : KDict X.K X.w d es n) (ho : PE X o ro) (he : PE X e te) (hf : PE X f tf) (m : M2 X o "get" apos e f cpos) :
    PE X (.Call (.Attribute o "get" apos) [e, f] [] cpos) fun σ H Q => ro σ H fun x H1 => x = .ref d ∧ te σ H1 fun y H2 => tf σ H2 fun z H3 => ∃ (k : Str) (r : Option Value), y = .str k ∧ PySem.W.nsIn X.K d k = some r ∧ match r with
      | some u => ∃ v, RelV v u ∧ Q v H3
      | none => Q z H3 := by
  refine ⟨fun pins s σ H Q I h => ?_⟩
  refine wpAny_Call_method m.base m.few m.line PySem.F.plainAttrs_dict PySem.F.slot_dict_get PySem.F.type_dict_get (thn (ho.run pins s σ H _ I h) fun u0 s1 ⟨x, H1, I1, rx, ex, q1⟩ => ?_)
  subst ex
  obtain rfl : u0 = Value.ref d := rx
  have mo := PySem.W.mapOf_K (prog := X.prog) (w := X.w) I1.kIn K1.at_ K1.lit
  refine ⟨mo.typeIs, mo.noDict, ?_⟩
  rw [m.trees]
  refine Calls.callWith_builtin rfl (Calls.evalArgs_plain (Calls.spliced_cons (thn (he.run pins s1 σ H1 _ I1 q1) fun u1 s2 ⟨y, H2, I2, ry, q2⟩ => Calls.spliced_cons (thn (hf.run pins s2 σ H2 _ I2 q2) fun u2 s3 ⟨z, H3, I3, rz, k, r, ey, hk, q3⟩ => Calls.spliced_nil ?_))))
  subst ey
  obtain ⟨t, rfl⟩ := (show ∃ t, u1 = Value.str k t from ry)
  have mo3 := PySem.W.mapOf_K (prog := X.prog) (w := X.w) I3.kIn K1.at_ K1.lit
  refine call_meetsIn PySem.F.slot_dict_get mo3.typeIs PySem.F.entry_dict_get (PySem.F.args_dict_get_3 _ _ _) (meets_dict_get_default (strKind X.prog X.w) d (strKind_is X.prog X.w k t) K1.low u2) ⟨_, mo3, ?_⟩
  rw [PySem.W.find_K K1.at_ hk]
  cases r with
  | some u =>
    obtain ⟨v, rv, q⟩ := q3
    exact ⟨v, H3, I3.tok _, rv, q⟩
  | none => exact ⟨z, H3, I3.tok _, rz, q3⟩
theorem de_cget {X : Cx} {cl : Str → Option Addr} {W : WX} {x : Str} {tab : Tab} {e f : Expr} {fa fb : SEnv → Store → R RV} {p apos cpos : Pos} (hg : Gl X x) (T : DctF X.K X.w X.mg x tab) (he : PE X e (tF X.K cl W fa)) (hf : PE X f (tF X.K cl W fb)) (m : M2 X (.Name x p) "get" apos e f cpos) :
    PE X (.Call (.Attribute (.Name x p) "get" apos) [e, f] [] cpos) (tF X.K cl W (e2 (dCGet tab) fa fb)) := by
  obtain ⟨a, es, n, hm, K1, hk⟩ := T.ex
  have hN : PE X (.Name x p) (tC (.ref a)) := pe_glob hg hm rfl T.nd
  refine PEw (pe_kget K1 hN he hf m) fun σ H Q ⟨ρ, env, st, S, E, P⟩ => ⟨rfl, ρ, env, st, S, E, (Post.bind backV P).mono ?_⟩
  rintro y H1 ⟨ρ1, st1, u, x1, S1, r1, P1⟩
  refine ⟨ρ1, env, st1, S1, E.mono (x1.mono S), (Post.bind backV P1).mono ?_⟩
  rintro z H2 ⟨ρ2, st2, w, x2, S2, r2, P2⟩
  obtain ⟨c, hc, q⟩ := P2.prim
  unfold dCGet at hc
  split at hc
  · rename_i s
    have r1 : y = .str ⟨s.toArray⟩ := r1
    subst r1
    split at hc
    · rename_i d hl
      cases hc
      obtain ⟨u, v, h1, h2, h3⟩ := hk _ _ hl
      exact ⟨_, some u, rfl, h1, v, h2, q ρ2 H2 v (Ext.refl _ _) S2 (h3 _ _)⟩
    · rename_i hl
      split at hc
      · cases hc
        exact ⟨_, none, rfl, hk _ _ hl, q ρ2 H2 z (Ext.refl _ _) S2 r2⟩
      · cases hc
    · cases hc
  · cases hc
/-! ### s * n -/
theorem foldl_app (l : List (Array Nat)) (a : Array Nat) : (l.foldl (· ++ ·) a).toList = a.toList ++ (l.map Array.toList).flatten := by
  induction l generalizing a with
  | nil => simp
  | cons b l ih => simp [ih]
theorem op_strMul {X : Cx} : OpR X (binaryOp .Mult) fun x y H Q => ∃ (s : List Nat) (k : Nat), x = .str ⟨s.toArray⟩ ∧ y = .int (k : Int) ∧ 2 ≤ k ∧ k ≤ 1000 ∧ 1 ≤ s.length ∧ s.length ≤ 1000 ∧ Q (.str ⟨((List.replicate k s).flatten).toArray⟩) H := by
  rintro pins s σ H x y v u Q I rx ry ⟨l, k, rfl, rfl, h1, h2, h3, h4, q⟩
  obtain ⟨t, rfl⟩ := (show ∃ t, v = Value.str ⟨l.toArray⟩ t from rx)
  obtain ⟨t2, rfl⟩ := (show ∃ t, u = Value.int (k : Int) t from ry)
  have hs := strlen l
  have hp : l.length * k ≤ 1000 * 1000 := Nat.mul_le_mul h4 h2
  refine PySem.P.mul_str ?_ ?_ ?_ ?_
  · simp; omega
  · intro _ _ z
    rw [hs] at z
    have : (1000 : Int) ≤ (2 ^ 63 - 1) / (k : Int) := by
      rw [Int.le_ediv_iff_mul_le (by omega)]
      have : (1000 : Int) * k ≤ 1000 * 1000 := Int.mul_le_mul_of_nonneg_left (by omega) (by omega)
      omega
    have h4' : (l.length : Int) ≤ 1000 := by omega
    exact absurd z (Int.not_lt.mpr (Int.le_trans h4' this))
  · intro _ _
    rw [hs]
    have hz : sizeLine = 16777216 := sizeLine_eq
    unfold Builtin.Str.tooLong
    rw [hz]
    simp
    omega
  · rw [if_neg (by omega), if_neg (by rw [hs]; simp only [Bool.or_eq_true, beq_iff_eq, not_or]; omega)]
    have e : (⟨List.foldl (fun x1 x2 => x1 ++ x2) #[] (List.replicate (k : Int).toNat (⟨l.toArray⟩ : Str).cps)⟩ : Str) = ⟨((List.replicate k l).flatten).toArray⟩ := by
      congr 1
      apply Array.ext'
      rw [foldl_app]
      simp
    rw [e]
    refine ⟨?_, ?_⟩
    · have hz : sizeLine = 16777216 := sizeLine_eq
      rw [strlen, hz]
      simp
      rw [Nat.mul_comm]
      omega
    · exact ⟨.str _, H, I.tok _, ⟨_, rfl⟩, q⟩
noncomputable def dMulS (a b : RV) (st : Store) : Option RV := match a, b with
  | .v (.str s), .v (.int k) => if 2 ≤ k ∧ k ≤ 1000 ∧ 1 ≤ s.length ∧ s.length ≤ 1000 then some (.v (.str (List.replicate k.toNat s).flatten)) else none
  | a, b => dMul a b st
theorem opd_mulS {X : Cx} {cl : Str → Option Addr} : OpR X (binaryOp .Mult) (rP2 X.K cl dMulS) := by
  rintro pins s σ H x y v u Q I rx ry ⟨ρ, st, a, b, H0, H1, S, ra, rb, c, hc, q⟩
  unfold dMulS at hc
  split at hc
  · rename_i l k
    split at hc
    · rename_i hb
      cases hc
      obtain ⟨n, rfl⟩ := Int.eq_ofNat_of_zero_le (show 0 ≤ k by omega)
      cases ra; cases rb
      exact op_strMul pins s σ H _ _ v u Q I rx ry ⟨l, n, rfl, rfl, by omega, by omega, hb.2.2.1, hb.2.2.2, q ρ H _ (Ext.refl _ _) S rfl⟩
    · cases hc
  · exact opd_mul pins s σ H x y v u Q I rx ry ⟨ρ, st, a, b, H0, H1, S, ra, rb, c, hc, q⟩
@[simp] theorem dMulS_int (i j : Int) (st : Store) : dMulS (.v (.int i)) (.v (.int j)) st = dMul (.v (.int i)) (.v (.int j)) st := .trans rfl rfl
@[simp] theorem dMulS_str (s : List Nat) (k : Int) (st : Store) : dMulS (.v (.str s)) (.v (.int k)) st = if 2 ≤ k ∧ k ≤ 1000 ∧ 1 ≤ s.length ∧ s.length ≤ 1000 then some (.v (.str (List.replicate k.toNat s).flatten)) else none := .trans rfl rfl
@[simp] theorem dCGet_str (tab : Tab) (s : List Nat) (d : D) (st : Store) : dCGet tab (.v (.str s)) (.v d) st = match tab.lookup s with
    | some (some d') => some (.v d')
    | some none => some (.v d)
    | none => none := .trans rfl rfl
end Ev

/-! ## Ev10 -/
set_option Elab.async false
set_option linter.all false
set_option maxRecDepth 100000
/-! Ev10: the denotation of the syntax, and that it is sound. -/
namespace Ev
open PySem PySem.Spec PyProof.Rows L2

abbrev EE := SEnv → Store → R RV
abbrev ET := SEnv → Store → R Bool
abbrev EA := SEnv → Store → R (List D)
abbrev EB := SEnv → Store → R (List RV)
abbrev EW := SEnv → Store → R Walk
def eBad : EE := fun _ _ => .bad
def tBad : ET := fun _ _ => .bad
def wBad : EW := fun _ _ => .bad
def sBad : SS := fun _ _ => .bad
/-- what is known of a def: how many parameters, the defaults of the last ones, what it does -/
structure FnI where
  np : Nat
  dfl : List D
  sem : List D → Store → R RV
/-- what is known of the place of a piece of syntax -/
structure SC where
  N : List Str
  scope : Scope
  fn : Str → Bool
  fns : List (Str × FnI)
  cst : List (Str × D)
  blt : List Str
  exs : List Str
  trs : List (Str × List (Str × Bool))
  iss : List (Str × List (Str × Bool))
  ers : List (Str × List Str)
  dct : List (Str × Tab)
/-! ### syntax -/
def noStar : Expr → Bool
  | .Starred .. => false
  | _ => true
def noSlice : Expr → Bool
  | .Slice .. => false
  | _ => true
def noComp : Expr → Bool
  | .ListComp .. => false
  | .SetComp .. => false
  | .DictComp .. => false
  | _ => true
def noTuple : Expr → Bool
  | .Tuple .. => false
  | _ => true
def noSet : Expr → Bool
  | .Set .. => false
  | _ => true
def plainTest : Expr → Bool
  | .UnaryOp .. => false
  | .BoolOp .. => false
  | .IfExp .. => false
  | .Compare .. => false
  | _ => true
def plainBase : Expr → Bool
  | .Call _ args _ _ => !args.isEmpty
  | _ => true
theorem star_cons {e : Expr} {es : List Expr} {env : Env} (h : noStar e = true) : starEach (e :: es) env = (false, eval e env) :: starEach es env := by
  cases e <;> first | rfl | cases h
theorem star_any {es : List Expr} {env : Env} {pos : Pos} (h : es.all noStar = true) : (backTo pos (starEach es env)).any (·.1) = false := by
  induction es with
  | nil => rfl
  | cons e es ih =>
    simp only [List.all_cons, Bool.and_eq_true] at h
    rw [star_cons h.1]
    show (false || (backTo pos (starEach es env)).any (·.1)) = false
    rw [ih h.2]; rfl
theorem ix_plain {b : Expr} (h : noSlice b = true) : PlainIx b := by
  cases b <;> first | exact fun _ _ => rfl | cases h
theorem base_plain {o : Expr} {name : Str} {env : Env} (h : plainBase o = true) : attributeBase o name env (eval o env) = eval o env := by
  cases o with
  | Call f args kws p =>
    cases args with
    | nil => cases h
    | cons a as => cases f <;> rfl
  | _ => rfl
theorem test_plain {e : Expr} {env : Env} (h : plainTest e = true) (whole : Sem Value) : isTrue e env whole = (do let v ← whole; standAt e.pos; holding [v] (truthy v)) := by
  cases e <;> first | rfl | cases h
theorem folded_plain {e : Expr} {env : Env} (h : noSet e = true) (x : Value) : foldedSetIterable e env x = pure x := by
  cases e <;> first | rfl | cases h
theorem swaps_plain {e : Expr} {t : Option Expr} {l : Nat} {env : Env} (h : noComp e = true) : swapsWith e t l env = pure false := by
  cases e <;> first | rfl | cases h
theorem stores_plain {t : Expr} {e : Expr} {env : Env} (h : noTuple e = true) : swappedStores [t] e env = pure none := by
  cases t <;> cases e <;> first | rfl | cases h
theorem marks_plain {op : CmpOp} {e : Expr} (h : noSet e = true) : behindInMarks op e = false := by
  cases e <;> first | rfl | cases h
/-! ### what holds of the place -/
structure FnFact (P : Program) (w : World) (K : PySem.W.Frag) (mg : Str → Option Value) (base : Heap) (cl : Str → Option Addr) (k : Nat) (x : Str) (i : FnI) : Prop where
  ex : ∃ (f : Addr) (fd : FuncData) (ps : List Str) (j : Nat) (dv : List V) (ud : List Value), j ≤ k ∧ FnG P w K mg base j f fd ps (spD K cl i.np i.sem) ∧ mg x = some (.ref f) ∧ PySem.W.keepIn K (.ref f) = true ∧ Binds K fd ps [] ∧ Binds K fd ps ud ∧ Vals dv ud ∧ ∀ ρ H, RDs K ρ H i.dfl dv
/-- what is known of a class of exceptions of the text (no __init__ of its own) -/
structure ExF (K : PySem.W.Frag) (mg : Str → Option Value) (cl : Str → Option Addr) (x : Str) : Prop where
  ex : ∃ (C : Addr) (bmB : List Value) (B newId initId : String), ExcBaseFacts B newId initId bmB ∧ PySem.W.excIn K C bmB newId = true ∧ mg x = some (.ref C) ∧ PySem.W.keepIn K (.ref C) = true ∧ PySem.W.subIn K (.ref C) (.type "BaseException") = some true ∧ PySem.W.typeIn K (.ref C) = some (.type "type") ∧ cl x = some C
  nd : (x == ("__debug__" : Str)) = false
/-- what is known of the class that an except clause names: which of the text's classes it takes -/
structure TrF (K : PySem.W.Frag) (mg : Str → Option Value) (cl : Str → Option Addr) (x : Str) (tab : List (Str × Bool)) : Prop where
  ex : ∃ C : Addr, mg x = some (.ref C) ∧ ∀ y b, tab.lookup y = some b → ∀ Cy, cl y = some Cy → PySem.W.exmOne K (.ref Cy) (.ref C) = some b
  nd : (x == ("__debug__" : Str)) = false
/-- what is known of a class that isinstance names: which of the text's classes of errors are below it -/
structure IsF (K : PySem.W.Frag) (mg : Str → Option Value) (cl : Str → Option Addr) (c : Str) (tab : List (Str × Bool)) : Prop where
  ex : ∃ (v : V) (cv : Value), (mg c = some cv ∨ (mg c = none ∧ bootBuiltins c = some cv ∧ c ≠ "__name__")) ∧ RelV v cv ∧ (∀ u, RelV v u → u = cv) ∧ ∀ y b, tab.lookup y = some b → ∀ Cy, cl y = some Cy → PySem.W.kitOne K (.ref Cy) cv = some b
  nd : (c == ("__debug__" : Str)) = false
/-- a class of errors of the text: what isinstance and a field's reading ask -/
structure ErrC (K : PySem.W.Frag) (C : Addr) : Prop where
  cl : (PySem.W.clsIn K C).isSome = true
  ga : PySem.W.findIn K (.ref C) "__getattribute__" = some (some (.builtin "BaseException.__getattribute__"))
  gg : PySem.W.findIn K (.ref C) "__getattr__" = some none
  sb : PySem.W.subIn K (.ref C) (.type "BaseException") = some true
  ca : PySem.W.findIn K (.ref C) "__class__" = some (some (.builtin "object.__class__"))
  sp : PySem.W.specialIn K (.builtin "object.__class__") "__get__" = some (some (.builtin "getset_descriptor.__get__"))
  tk : PySem.W.takesIn K (.builtin "object.__class__") = some true
  mo : PySem.W.mroIn K C (.type "object") = some true
  hd : PySem.W.hasDictIn K C = true
structure ErF (K : PySem.W.Frag) (cl : Str → Option Addr) (y : Str) (fl : List Str) : Prop where
  ex : ∀ Cy, cl y = some Cy → ErrC K Cy ∧ ∀ f, f ∈ fl → PySem.W.findIn K (.ref Cy) f = some none
structure Fit (sc : SC) (k : Nat) (cl : Str → Option Addr) (X : Cx) : Prop where
  N : X.N = sc.N
  nd : sc.N.Nodup
  sco : X.env.scope = sc.scope
  fn : X.fn = sc.fn
  calm : X.calm = true
  room : Room k X.A
  gd : X.A.guards = some []
  kind : sc.scope.kind = .function
  fns : ∀ x i, sc.fns.lookup x = some i → FnFact X.prog X.w X.K X.mg X.base cl k x i
  cst : ∀ x d, sc.cst.lookup x = some d → ∃ v u, X.mg x = some u ∧ RelV v u ∧ ∀ ρ H, RD X.K ρ H d v
  blt : ∀ x, x ∈ sc.blt → X.mg x = none ∧ x ≠ "__name__" ∧ (x == ("__debug__" : Str)) = false
  exs : ∀ x, x ∈ sc.exs → ExF X.K X.mg cl x
  trs : ∀ x tab, sc.trs.lookup x = some tab → TrF X.K X.mg cl x tab
  iss : ∀ x tab, sc.iss.lookup x = some tab → IsF X.K X.mg cl x tab
  ers : ∀ y fl, sc.ers.lookup y = some fl → ErF X.K cl y fl
  dct : ∀ x tab, sc.dct.lookup x = some tab → DctF X.K X.w X.mg x tab
def posOf (N : List Str) (x : Str) : Option Nat := N.findIdx? (fun y => decide (y = x))
def dunder (x : Str) : Bool := (x == ("__debug__" : Str)) || (x == ("__classdict__" : Str))
def visI (sc : SC) (x : Str) : Option Nat := if dunder x then none else match sc.scope.names.lookup x with
  | some .local => posOf sc.N x
  | some .cell => posOf sc.N x
  | some .free => posOf sc.N x
  | _ => none
def locI (sc : SC) (x : Str) : Option Nat := match sc.scope.names.lookup x with
  | some .local => posOf sc.N x
  | some .cell => if sc.fn x then posOf sc.N x else none
  | _ => none
def isGl (sc : SC) (x : Str) : Bool := match sc.scope.names.lookup x with
  | some .globalImplicit => true
  | _ => false
def isBlt (sc : SC) (x : Str) : Bool := isGl sc x && sc.blt.contains x
theorem posOf_ok {N : List Str} {x : Str} {i : Nat} (h : posOf N x = some i) : N[i]? = some x := by
  unfold posOf at h
  rw [List.findIdx?_eq_some_iff_getElem] at h
  obtain ⟨hi, h1, _⟩ := h
  rw [List.getElem?_eq_getElem hi]
  simpa using h1
section
variable {sc : SC} {k : Nat} {cl : Str → Option Addr} {X : Cx} {x : Str} {i : Nat}
theorem Fit.vis (F : Fit sc k cl X) (h : visI sc x = some i) : X.N[i]? = some x ∧ Vis X.env.scope x ∧ (x == ("__debug__" : Str)) = false ∧ (x == ("__classdict__" : Str)) = false := by
  unfold visI at h
  split at h
  · cases h
  · rename_i hd
    have hd' : dunder x = false := by simpa using hd
    simp only [dunder, Bool.or_eq_false_iff] at hd'
    rw [F.N, F.sco]
    split at h
    · rename_i e; exact ⟨posOf_ok h, .inl e, hd'⟩
    · rename_i e; exact ⟨posOf_ok h, .inr (.inl e), hd'⟩
    · rename_i e; exact ⟨posOf_ok h, .inr (.inr e), hd'⟩
    · cases h
theorem Fit.loc (F : Fit sc k cl X) (h : locI sc x = some i) : X.N[i]? = some x ∧ Loc X.env.scope x ∧ (X.fn x = true ∨ X.env.scope.names.lookup x = some .local) := by
  unfold locI at h
  rw [F.N, F.sco, F.fn]
  split at h
  · rename_i e; exact ⟨posOf_ok h, .inl e, .inr e⟩
  · rename_i e
    split at h
    · rename_i hf; exact ⟨posOf_ok h, .inr e, .inl hf⟩
    · cases h
  · cases h
theorem Fit.gl (F : Fit sc k cl X) (h : isGl sc x = true) : Gl X x := by
  unfold isGl at h
  split at h
  · rename_i e
    show X.env.scope.names.lookup x = _
    rw [F.sco]; exact e
  · cases h
theorem Fit.bl (F : Fit sc k cl X) (h : isBlt sc x = true) : Gl X x ∧ X.mg x = none ∧ x ≠ "__name__" ∧ (x == ("__debug__" : Str)) = false := by
  unfold isBlt at h
  simp only [Bool.and_eq_true] at h
  obtain ⟨h1, h2, h3⟩ := F.blt x (by simpa using h.2)
  exact ⟨F.gl h.1, h1, h2, h3⟩
theorem Fit.u64 (F : Fit sc k cl X) : X.A.units + 64 < cLine := F.room.units
theorem Fit.u65 (F : Fit sc k cl X) : X.A.units + 65 < cLine := by have := F.room.un; omega
theorem Fit.u66 (F : Fit sc k cl X) : X.A.units + 66 < cLine := by have := F.room.un; omega
end
/-! ### targets -/
def tgNames (sc : SC) : List Expr → Option (List Nat)
  | [] => some []
  | .Name x _ :: es => match locI sc x, tgNames sc es with
    | some i, some is => some (i :: is)
    | _, _ => none
  | _ => none
def tgOf (sc : SC) : Expr → Option Tg
  | .Name x _ => (locI sc x).map .one
  | .Tuple es _ _ => (tgNames sc es).map .many
  | _ => none
section
variable {sc : SC} {k : Nat} {cl : Str → Option Addr} {X : Cx}
theorem names_ok (F : Fit sc k cl X) : ∀ {es : List Expr} {is : List Nat}, tgNames sc es = some is → PGs X es (gNames is) ∧ (assignEach es X.env).length = is.length ∧ (assignEach es X.env).findIdx? (·.1) = none
  | [], is, h => by
    cases h
    exact ⟨pgs_nil, rfl, rfl⟩
  | e :: es, is, h => by
    cases e with
    | Name x p =>
      simp only [tgNames] at h
      split at h
      · rename_i i is' h1 h2
        cases h
        obtain ⟨a, b, c⟩ := names_ok F h2
        obtain ⟨q1, q2, q3⟩ := F.loc h1
        refine ⟨pgs_cons (pg_name (by rw [F.N]; exact F.nd) q1 q2 q3) a rfl, congrArg (· + 1) b, ?_⟩
        show ((false, assign (.Name x p) X.env) :: assignEach es X.env).findIdx? (·.1) = none
        rw [List.findIdx?_cons]
        simp only [Bool.false_eq_true, if_false, c]
        rfl
      · cases h
    | _ => cases h
theorem tg_ok (F : Fit sc k cl X) {e : Expr} {t : Tg} (h : tgOf sc e = some t) : PG X e (t.g X.K) := by
  cases e with
  | Name x p =>
    simp only [tgOf] at h
    cases hl : locI sc x with
    | none => rw [hl] at h; cases h
    | some i =>
      rw [hl] at h
      cases h
      obtain ⟨q1, q2, q3⟩ := F.loc hl
      exact pg_name (by rw [F.N]; exact F.nd) q1 q2 q3
  | Tuple es kk p =>
    simp only [tgOf] at h
    cases hl : tgNames sc es with
    | none => rw [hl] at h; cases h
    | some is =>
      rw [hl] at h
      cases h
      obtain ⟨a, b, c⟩ := names_ok F hl
      exact pg_tup F.calm a b c
  | _ => cases h
end
/-! ### operators by their signs -/
noncomputable def binOf : Operator → Option (RV → RV → Store → Option RV)
  | .Add => some dAdd
  | .Sub => some dSub
  | .Mult => some dMulS
  | .FloorDiv => some dDiv
  | .Mod => some dMod
  | .Pow => some dPow
  | _ => none
def cmpOf : CmpOp → Option (RV → RV → Store → Option RV)
  | .Eq => some dEq
  | .NotEq => some dNe
  | .Lt => some dLt
  | .LtE => some dLe
  | .Gt => some dGt
  | .GtE => some dGe
  | .Is => some dIsN
  | .IsNot => some dNotN
  | .In => some dIn
  | .NotIn => some dNotIn
theorem binOf_ok {X : Cx} {cl : Str → Option Addr} {op : Operator} {g : RV → RV → Store → Option RV} (h : binOf op = some g) : OpR X (binaryOp op) (rP2 X.K cl g) := by
  cases op <;> first | (cases h; done) | (cases h; first | exact opd_add | exact opd_sub | exact opd_mulS | exact opd_div | exact opd_mod | exact opd_pow)
theorem cmpOf_ok {X : Cx} {cl : Str → Option Addr} (hu65 : X.A.units + 65 < cLine) {op : CmpOp} {g : RV → RV → Store → Option RV} (h : cmpOf op = some g) : OpR X (compareOp op) (rP2 X.K cl g) := by
  have hu : X.A.units + 64 < cLine := Nat.lt_of_succ_lt hu65
  cases op <;> first | (cases h; done) | (cases h; first | exact opd_in hu65 | exact opd_notIn hu65 | exact opd_eq hu | exact opd_ne hu | exact opd_lt | exact opd_le | exact opd_gt | exact opd_ge | exact opd_isN | exact opd_notN)
/-! ### lists of expressions -/
def listA (f : Expr → EE) : List Expr → EA
  | [] => aNil
  | e :: es => aCons (f e) (listA f es)
def listB (f : Expr → EE) : List Expr → EB
  | [] => bNil
  | e :: es => bCons (f e) (listB f es)
section
variable {X : Cx} {cl : Str → Option Addr} {W : WX} {f : Expr → EE}
theorem listA_ok (h : ∀ e, PE X e (tF X.K cl W (f e))) : ∀ {es : List Expr}, es.all noStar = true → PA X es (tA1 X.K cl W (listA f es))
  | [], _ => da_nil
  | e :: es, hs => by
    simp only [List.all_cons, Bool.and_eq_true] at hs
    exact da_cons (h e) (listA_ok h hs.2) (star_cons hs.1)
theorem listB_ok (h : ∀ e, PE X e (tF X.K cl W (f e))) : ∀ {es : List Expr}, es.all noStar = true → PA X es (tG X.K cl W (relR X.K) (listB f es))
  | [], _ => db_nil
  | e :: es, hs => by
    simp only [List.all_cons, Bool.and_eq_true] at hs
    exact db_cons (h e) (listB_ok h hs.2) (star_cons hs.1)
theorem listA_len : ∀ {es : List Expr} {env : SEnv} {st : Store} {ds : List D} {st1 : Store}, listA f es env st = .ok ds st1 → ds.length = es.length
  | [], env, st, ds, st1, h => by cases h; rfl
  | e :: es, env, st, ds, st1, h => by
    simp only [listA, aCons] at h
    cases h1 : f e env st with
    | ok a s1 =>
      rw [h1, R.bind_ok] at h
      cases h2 : mat a s1 with
      | ok d s2 =>
        rw [h2, R.bind_ok] at h
        cases h3 : listA f es env s2 with
        | ok ds' s3 =>
          rw [h3, R.bind_ok] at h
          cases h
          rw [List.length_cons, List.length_cons, listA_len h3]
        | exc x s => rw [h3] at h; cases h
        | bad => rw [h3] at h; cases h
      | exc x s => rw [h2] at h; cases h
      | bad => rw [h2] at h; cases h
    | exc x s => rw [h1] at h; cases h
    | bad => rw [h1] at h; cases h
theorem bad_e {e : Expr} : PE X e (tF X.K cl W eBad) := ⟨fun _ _ _ _ _ _ ⟨_, _, _, _, _, P⟩ => P.elim⟩
theorem bad_t {e : Expr} : PT X e (tB1 X.K cl W tBad) := ⟨fun _ _ _ _ _ _ ⟨_, _, _, _, _, P⟩ => P.elim⟩
theorem bad_w {tg e : Expr} : PI X tg e (tI X.K cl W wBad) := ⟨fun _ _ _ _ _ _ ⟨_, _, _, _, _, P⟩ => P.elim⟩
theorem bad_s {s : Stmt} : PS X s (tS X.K cl W sBad) := ⟨fun _ _ _ _ _ _ ⟨_, _, _, _, _, P⟩ => P.elim⟩
end
/-! ### built-ins by their names -/
inductive BK where
  | fn (id : String) (g : List RV → Store → Option RV) | ty (T : String) (g : List RV → Store → Option RV)
def bltOf2 (x : Str) : Option BK :=
  if x = "sum" then some (.fn "sum" (g1 dSum))
  else if x = "sorted" then some (.fn "sorted" (g1 dSorted))
  else if x = "any" then some (.fn "any" (g1 dAny))
  else if x = "all" then some (.fn "all" (g1 dAll))
  else if x = "str" then some (.ty "str" (g1 dStr))
  else none
def bltOf (x : Str) (n : Nat) : Option BK :=
  if x = "len" then some (.fn "len" (g1 dLen))
  else if x = "abs" then some (.fn "abs" (g1 dAbs))
  else if x = "int" then some (.ty "int" (g1 dInt))
  else if x = "tuple" then some (.ty "tuple" (g1 dTuple))
  else if x = "list" then some (.ty "list" (g1 dList))
  else if x = "repr" then some (.fn "repr" (g1 dRepr))
  else if x = "max" then if n = 2 then some (.fn "max" (g2 dMax2)) else some (.fn "max" (g1 dMax1))
  else if x = "min" then if n = 2 then some (.fn "min" (g2 dMin2)) else some (.fn "min" (g1 dMin1))
  else bltOf2 x
def BK.g : BK → List RV → Store → Option RV
  | .fn _ g => g
  | .ty _ g => g
def BK.val : BK → Value
  | .fn id _ => .builtin id
  | .ty T _ => .type T
theorem bltOf2_ok {sc : SC} {k : Nat} {cl : Str → Option Addr} {X : Cx} (F : Fit sc k cl X) {x : Str} {b : BK} (h : bltOf2 x = some b) : bootBuiltins x = some b.val ∧ CallR X b.val (rPN X.K cl b.g) := by
  unfold bltOf2 at h
  split at h
  · rename_i e; cases h; subst e; exact ⟨by decide +kernel, cd_sum F.calm⟩
  split at h
  · rename_i e; cases h; subst e; exact ⟨by decide +kernel, cd_sorted⟩
  split at h
  · rename_i e; cases h; subst e; exact ⟨by decide +kernel, cd_any F.calm⟩
  split at h
  · rename_i e; cases h; subst e; exact ⟨by decide +kernel, cd_all F.calm⟩
  split at h
  · rename_i e; cases h; subst e; exact ⟨by decide +kernel, cd_str⟩
  cases h
theorem bltOf_ok {sc : SC} {k : Nat} {cl : Str → Option Addr} {X : Cx} (F : Fit sc k cl X) {x : Str} {n : Nat} {b : BK} (h : bltOf x n = some b) : bootBuiltins x = some b.val ∧ CallR X b.val (rPN X.K cl b.g) := by
  unfold bltOf at h
  split at h
  · rename_i e; cases h; subst e; exact ⟨PySem.boot_len, cd_len⟩
  split at h
  · rename_i e; cases h; subst e; exact ⟨by decide +kernel, cd_abs⟩
  split at h
  · rename_i e; cases h; subst e; exact ⟨by decide +kernel, cd_int⟩
  split at h
  · rename_i e; cases h; subst e; exact ⟨by decide +kernel, cd_tuple⟩
  split at h
  · rename_i e; cases h; subst e; exact ⟨by decide +kernel, cd_list⟩
  split at h
  · rename_i e; cases h; subst e; exact ⟨by decide +kernel, cd_repr F.gd F.u66⟩
  split at h
  · rename_i e
    split at h
    · cases h; subst e; exact ⟨by decide +kernel, cd_max2 F.calm⟩
    · cases h; subst e; exact ⟨by decide +kernel, cd_max1 F.calm⟩
  split at h
  · rename_i e
    split at h
    · cases h; subst e; exact ⟨by decide +kernel, cd_min2 F.calm⟩
    · cases h; subst e; exact ⟨by decide +kernel, cd_min1 F.calm⟩
  exact bltOf2_ok F h
/-- the classes that isinstance asks for -/
def isiT (x : Str) : Option String :=
  if x = "int" then some "int" else if x = "str" then some "str" else if x = "tuple" then some "tuple" else if x = "list" then some "list" else if x = "bool" then some "bool" else none
theorem isiT_ok {x : Str} {T : String} (h : isiT x = some T) : isiKnown T ∧ bootBuiltins x = some (.type T) := by
  unfold isiT at h
  split at h
  · rename_i e; cases h; subst e; exact ⟨isi_int, by decide +kernel⟩
  split at h
  · rename_i e; cases h; subst e; exact ⟨isi_str, by decide +kernel⟩
  split at h
  · rename_i e; cases h; subst e; exact ⟨isi_tuple, by decide +kernel⟩
  split at h
  · rename_i e; cases h; subst e; exact ⟨isi_list, by decide +kernel⟩
  split at h
  · rename_i e; cases h; subst e; exact ⟨isi_bool, by decide +kernel⟩
  cases h
theorem boot_isi : bootBuiltins ("isinstance" : Str) = some (.builtin "isinstance") := by decide +kernel
/-! ### chains a < b < c -/
def eChain (g g' : RV → RV → Store → Option RV) (fa fb fc : EE) : EE := fun env st => (fa env st).bind fun a st1 => (fb env st1).bind fun b st2 => match g a b st2 with
  | some (.v (.bl c)) => if c = true then (fc env st2).bind fun c st3 => match g' b c st3 with
      | some (.v (.bl r)) => .ok (.v (.bl r)) st3
      | _ => .bad
    else .ok (.v (.bl false)) st2
  | _ => .bad
section
variable {X : Cx} {cl : Str → Option Addr} {W : WX} {a b c : Expr} {fa fb fc : EE} {g g' : RV → RV → Store → Option RV} {op op' : CmpOp} {pos : Pos}
theorem w_chain {K : PySem.W.Frag} (σ : L2.St) (H : Hp) (Q : VK) (h : tF K cl W (eChain g g' fa fb fc) σ H Q) : tChain (rP2 K cl g) (rP2 K cl g') (tF K cl W fa) (tF K cl W fb) (tF K cl W fc) σ H Q := by
  obtain ⟨ρ, env, st, S, E, P⟩ := h
  refine ⟨ρ, env, st, S, E, (Post.bind backV P).mono ?_⟩
  rintro x H1 ⟨ρ1, st1, a, x1, S1, r1, P1⟩
  have E1 := E.mono (x1.mono S)
  refine ⟨ρ1, env, st1, S1, E1, (Post.bind backV P1).mono ?_⟩
  rintro y H2 ⟨ρ2, st2, b, x2, S2, r2, P2⟩
  split at P2
  rotate_left
  · exact P2.elim
  rename_i k e
  refine ⟨ρ2, st2, a, b, H, H1, S2, RRV.ext S1 x2 r1, r2, _, e, fun ρ' H' v x3 S3 r3 => ?_⟩
  cases r3
  refine ⟨k, rfl, ?_⟩
  have P3 := Post.from backV S3 x3 P2
  cases k with
  | false =>
    rw [if_neg Bool.false_ne_true] at P3 ⊢
    exact P3 ρ' H' _ (Ext.refl _ _) S3 rfl
  | true =>
    rw [if_pos rfl] at P3 ⊢
    refine ⟨ρ', env, st2, S3, (E1.mono (x2.mono S1)).mono (x3.mono S2), (Post.bind backV P3).mono ?_⟩
    rintro z H4 ⟨ρ4, st4, c, x4, S4, r4, P4⟩
    split at P4
    · rename_i k' e'
      exact ⟨ρ4, st4, b, c, H1, H', S4, RRV.ext S3 x4 (RRV.ext S2 x3 r2), r4, _, e', P4⟩
    · exact P4.elim
theorem de_chain (ho : OpR X (compareOp op) (rP2 X.K cl g)) (ho' : OpR X (compareOp op') (rP2 X.K cl g')) (ha : PE X a (tF X.K cl W fa)) (hb : PE X b (tF X.K cl W fb)) (hc : PE X c (tF X.K cl W fc)) (hm : noSet c = true) :
    PE X (.Compare a [op, op'] [b, c] pos) (tF X.K cl W (eChain g g' fa fb fc)) := PEw (pe_chain ho ho' ha hb hc (marks_plain hm)) w_chain
theorem dt_chain (ho : OpR X (compareOp op) (rP2 X.K cl g)) (ho' : OpR X (compareOp op') (rP2 X.K cl g')) (ha : PE X a (tF X.K cl W fa)) (hb : PE X b (tF X.K cl W fb)) (hc : PE X c (tF X.K cl W fc)) (hm : noSet c = true) :
    PT X (.Compare a [op, op'] [b, c] pos) (tB1 X.K cl W (eBool (eChain g g' fa fb fc))) := PTw (pt_chain ho ho' ha hb hc (marks_plain hm)) (w_bool w_chain)
end
end Ev

/-! ## Ev11 -/
set_option Elab.async false
set_option linter.all false
set_option maxRecDepth 100000
/-! Ev11: the denotation. -/
namespace Ev
open PySem PySem.Spec PyProof.Rows L2

def orE : List EE → EE
  | [] => eBad
  | [f] => f
  | f :: fs => eOr f (orE fs)
def andE : List EE → EE
  | [] => eBad
  | [f] => f
  | f :: fs => eAnd f (andE fs)
def orT : List ET → ET
  | [] => tBad
  | [f] => f
  | f :: fs => tOrB f (orT fs)
def andT : List ET → ET
  | [] => tBad
  | [f] => f
  | f :: fs => tAndB f (andT fs)
/-- the names that a comprehension's block has for itself -/
def ownOf (N : List Str) (scope : Scope) : List (Str × Nat) := scope.names.filterMap fun y => match y.2 with
  | .local => (posOf N y.1).map fun i => (y.1, i)
  | .cell => (posOf N y.1).map fun i => (y.1, i)
  | _ => none
def SC.blk (sc : SC) (scope : Scope) : SC := { sc with scope := relS scope sc.scope, fn := fun x => scope.names.lookup x == some .cell }
def kindOk (s : Scope) : Bool := match s.kind with
  | .function => true
  | _ => false
noncomputable def compD (sc : SC) (w : EW) (tg : Expr) (tt : Option ET) (scope : Scope) (fe : EE) : EE :=
  match tgOf (sc.blk scope) tg, tt with
  | some t, some tt => if blkC sc.N sc.scope scope (ownOf sc.N scope) && kindOk scope && t.ix.all fun i => ((ownOf sc.N scope).map (·.2)).contains i then eComp w t tt ((ownOf sc.N scope).map (·.2)) fe else eBad
  | _, _ => eBad
/-- a call of a name -/
noncomputable def callD (sc : SC) (f : Expr → EE) (x : Str) (args : List Expr) : EE :=
  if isGl sc x && args.all noStar && !dunder x then match sc.fns.lookup x with
    | some i => if args.isEmpty then eBad else if args.length = i.np then eCall i.sem [] (listA f args) else if (args.length + i.dfl.length = i.np) then eCall i.sem i.dfl (listA f args) else eBad
    | none => if isBlt sc x then match args with
      | [] => eBad
      | [a, .Name y _] => if x = "isinstance" then (if isBlt sc y then match isiT y with
          | some T => e1 (dIsi T) (f a)
          | none => eBad else eBad) else match bltOf x 2 with
        | some b => eN b.g (listB f args)
        | none => eBad
      | args => match bltOf x args.length with
        | some b => eN b.g (listB f args)
        | none => eBad
      else eBad
  else eBad
def mtlOf (m : Str) (n : Nat) : Option (List D → List D → Option (D × List D)) :=
  if m = "append" then (if n = 1 then some gAppend else none)
  else if m = "pop" then (if n = 1 then some gPopAt else none)
  else none
def mtsOf (m : Str) : Option (List Nat → List RV → Store → Option RV) :=
  if m = "join" then some gJoin else if m = "find" then some gFind else if m = "startswith" then some gStarts else none
/-- a look into a written dict: its table, the key, the value if it isn't there -/
def getTab (sc : SC) (o : Expr) (m : Str) (args : List Expr) : Option (Tab × Expr × Expr) := if m = "get" then match o, args with
    | .Name x _, [e, d] => if isGl sc x = true ∧ noStar e = true ∧ noStar d = true then (sc.dct.lookup x).map fun t => (t, e, d) else none
    | _, _ => none else none
def methD0 (sc : SC) (f : Expr → EE) (o : Expr) (m : Str) (args : List Expr) : EE :=
  match args with
  | [] => if m = "pop" then eMtL gPop (f o) aNil else eBad
  | a :: as => match mtlOf m args.length with
    | some g => eMtL g (f o) (listA f args)
    | none => if m = "extend" then (if as.isEmpty then eExtend (f o) (f a) else eBad) else match mtsOf m with
      | some g => if as.isEmpty then eMtS g (f o) (listB f args) else eBad
      | none => eBad
def methD (sc : SC) (f : Expr → EE) (o : Expr) (m : Str) (args : List Expr) : EE := match getTab sc o m args with
  | some (t, e, d) => e2 (dCGet t) (f e) (f d)
  | none => methD0 sc f o m args
/-- the step -1 -/
def isM1 : Expr → Bool
  | .UnaryOp .USub (.Constant (.int i) _ _) _ => i == 1
  | _ => false
/-- range(..) as an argument -/
def rgArgs (sc : SC) : Expr → Option (List Expr)
  | .Call (.Name x _) args [] _ => if x = "range" ∧ isBlt sc x = true ∧ args.all noStar = true then some args else none
  | _ => none
/-- list(range(..)) -/
def lrgArgs (sc : SC) (x : Str) (args : List Expr) : Option (List Expr) := match args with
  | [e] => if x = "list" ∧ isBlt sc x = true then rgArgs sc e else none
  | _ => none
/-- tuple(range(..)) -/
def trgArgs (sc : SC) (x : Str) (args : List Expr) : Option (List Expr) := match args with
  | [e] => if x = "tuple" ∧ isBlt sc x = true then rgArgs sc e else none
  | _ => none
mutual
noncomputable def denE : Nat → SC → Expr → EE
  | 0, _, _ => eBad
  | n + 1, sc, e => match e with
    | .Name x _ => match visI sc x with
      | some i => eVar i
      | none => if isGl sc x && !dunder x then match sc.cst.lookup x with
        | some d => eC d
        | none => eBad else eBad
    | .Constant c _ _ => match c with
      | .none => eC .non
      | .bool b => eC (.bl b)
      | .int i => eC (.int i)
      | .str s => eC (.str s.cps.toList)
      | _ => eBad
    | .BinOp a op b _ => match binOf op with
      | some g => e2 g (denE n sc a) (denE n sc b)
      | none => eBad
    | .UnaryOp op a _ => match op with
      | .USub => e1 dNeg (denE n sc a)
      | .Not => eNot (denE n sc a)
      | _ => eBad
    | .BoolOp op es _ => match op with
      | .And => andE (es.map fun e => denE n sc e)
      | .Or => orE (es.map fun e => denE n sc e)
    | .Compare a ops bs _ => match ops, bs with
      | [op], [b] => if noSet b then match cmpOf op with
        | some g => e2 g (denE n sc a) (denE n sc b)
        | none => eBad else eBad
      | [op, op'], [b, c] => if noSet c then match cmpOf op, cmpOf op' with
        | some g, some g' => eChain g g' (denE n sc a) (denE n sc b) (denE n sc c)
        | _, _ => eBad else eBad
      | _, _ => eBad
    | .IfExp c a b _ => eIf (denT n sc c) (denE n sc a) (denE n sc b)
    | .Tuple es _ _ => if es.all noStar then eTup (listA (fun e => denE n sc e) es) else eBad
    | .List es _ => if es.all noStar then eLst (listA (fun e => denE n sc e) es) else eBad
    | .Subscript a b _ => match b with
      | .Slice lo hi step _ => match step with
        | none => eSl (denE n sc a) (lo.map fun e => denE n sc e) (hi.map fun e => denE n sc e)
        | some s => if isM1 s && lo.isNone && hi.isNone then eRevL (denE n sc a) else eBad
      | .Tuple es _ _ => if es.all noStar then eDGetT (denE n sc a) (listA (fun e => denE n sc e) es) else eBad
      | b => e2 dIx (denE n sc a) (denE n sc b)
    | .Call f args kw pos => match kw with
      | [] => match f with
        | .Name x _ => match trgArgs sc x args with
          | some [a] => eTRg1 (denE n sc a)
          | some _ => eBad
          | none => match lrgArgs sc x args with
            | some [a] => eRg1 (denE n sc a)
            | some [a, b] => eRg2 (denE n sc a) (denE n sc b)
            | some _ => eBad
            | none => callD sc (fun e => denE n sc e) x args
        | .Attribute o m apos => if plainBase o && args.all noStar && (apos.endLine == pos.line) then methD sc (fun e => denE n sc e) o m args else eBad
        | _ => eBad
      | _ :: _ => eBad
    | .ListComp elt gens scope _ => match gens with
      | [⟨tg, iter, ifs, a⟩] => if a = 0 ∧ noSet iter = true then
          compD sc (denW n sc iter) tg (match ifs with
            | [] => some ttYes
            | [c] => some (denT n (sc.blk scope) c)
            | _ => none) scope (denE n (sc.blk scope) elt)
        else eBad
      | _ => eBad
    | .Dict ks vs _ => match ks, vs with
      | [], [] => eDNewT
      | _, _ => eBad
    | _ => eBad
noncomputable def denT : Nat → SC → Expr → ET
  | 0, _, _ => tBad
  | n + 1, sc, e => match e with
    | .UnaryOp op a _ => match op with
      | .Not => tNotB (denT n sc a)
      | _ => tBad
    | .BoolOp op es _ => match op with
      | .And => andT (es.map fun e => denT n sc e)
      | .Or => orT (es.map fun e => denT n sc e)
    | .IfExp _ _ _ _ => tBad
    | .Compare a ops bs _ => match ops, bs with
      | [op], [b] => if noSet b then match cmpOf op with
        | some g => eBool (e2 g (denE n sc a) (denE n sc b))
        | none => tBad else tBad
      | [op, op'], [b, c] => if noSet c then match cmpOf op, cmpOf op' with
        | some g, some g' => eBool (eChain g g' (denE n sc a) (denE n sc b) (denE n sc c))
        | _, _ => tBad else tBad
      | _, _ => tBad
    | e => eTru (denE n sc e)
noncomputable def denW : Nat → SC → Expr → EW
  | 0, _, _ => wBad
  | n + 1, sc, e => match e with
    | .Call f args kw _ => match kw with
      | [] => match f with
        | .Name x _ => if x = "range" ∧ isBlt sc x = true ∧ args.all noStar = true then match args with
            | [a] => wRng1 (listB (fun e => denE n sc e) args)
            | [a, b] => wRng2 (listB (fun e => denE n sc e) args)
            | _ => wBad
          else if x = "reversed" ∧ isBlt sc x = true ∧ args.all noStar = true then match args with
            | [a] => (match rgArgs sc a with
              | some [b] => wRevR1 (denE n sc b)
              | some _ => wBad
              | none => wRev (denE n sc a))
            | _ => wBad
          else wVal (denE n sc e)
        | _ => wVal (denE n sc e)
      | _ :: _ => wBad
    | e => wVal (denE n sc e)
end
/-! ### soundness -/
section
variable {X : Cx} {cl : Str → Option Addr} {W : WX} {pos : Pos}
theorem orE_ok : ∀ {es : List Expr} {f : Expr → EE}, (∀ e, PE X e (tF X.K cl W (f e))) → PE X (.BoolOp .Or es pos) (tF X.K cl W (orE (es.map f)))
  | [], f, h => bad_e
  | [e], f, h => pe_one (h e)
  | e :: e' :: es, f, h => de_or (h e) (orE_ok (es := e' :: es) h)
theorem andE_ok : ∀ {es : List Expr} {f : Expr → EE}, (∀ e, PE X e (tF X.K cl W (f e))) → PE X (.BoolOp .And es pos) (tF X.K cl W (andE (es.map f)))
  | [], f, h => bad_e
  | [e], f, h => pe_one (h e)
  | e :: e' :: es, f, h => de_and (h e) (andE_ok (es := e' :: es) h)
theorem orT_ok : ∀ {es : List Expr} {f : Expr → ET}, (∀ e, PT X e (tB1 X.K cl W (f e))) → PW X (.BoolOp .Or es pos) (tB1 X.K cl W (orT (es.map f)))
  | [], f, h => ⟨fun _ _ _ _ _ _ _ ⟨_, _, _, _, _, P⟩ => P.elim⟩
  | [e], f, h => pw_or1 (h e)
  | e :: e' :: es, f, h => dw_or (h e) (orT_ok (es := e' :: es) h)
theorem andT_ok : ∀ {es : List Expr} {f : Expr → ET}, (∀ e, PT X e (tB1 X.K cl W (f e))) → PW X (.BoolOp .And es pos) (tB1 X.K cl W (andT (es.map f)))
  | [], f, h => ⟨fun _ _ _ _ _ _ _ ⟨_, _, _, _, _, P⟩ => P.elim⟩
  | [e], f, h => pw_and1 (h e)
  | e :: e' :: es, f, h => dw_and (h e) (andT_ok (es := e' :: es) h)
end
section
variable {sc : SC} {k : Nat} {cl : Str → Option Addr} {X : Cx} {W : WX}
theorem kindOk_ok {s : Scope} (h : kindOk s = true) : s.kind = .function := by
  unfold kindOk at h
  split at h
  · assumption
  · cases h
theorem Fit.blk (F : Fit sc k cl X) {scope : Scope} (hk : scope.kind = .function) (s : Shared) (H : Hp) (C : Addr) (c : List (Str × Addr)) (fp : List Addr) : Fit (sc.blk scope) k cl (X.blk s H scope (compEnvC scope c C X.env) fp) := by
  refine ⟨F.N, F.nd, ?_, rfl, F.calm, F.room, F.gd, hk, F.fns, F.cst, F.blt, F.exs, F.trs, F.iss, F.ers, F.dct⟩
  show relS scope X.env.scope = relS scope sc.scope
  rw [F.sco]
theorem comp_ok (F : Fit sc k cl X) {elt tg iter : Expr} {ifs : List Expr} {scope : Scope} {pos : Pos} {w : EW} {tt : Option ET} {fe : EE} (hi : PI X tg iter (tI X.K cl W w))
    (ht : ∀ g, tt = some g → ∀ (s : Shared) (H : Hp) (C : Addr) (c : List (Str × Addr)) (fp : List Addr), scope.kind = .function → PTs (X.blk s H scope (compEnvC scope c C X.env) fp) ifs (tB1 X.K cl W0 g))
    (he : ∀ (s : Shared) (H : Hp) (C : Addr) (c : List (Str × Addr)) (fp : List Addr), scope.kind = .function → PE (X.blk s H scope (compEnvC scope c C X.env) fp) elt (tF X.K cl W0 fe)) (hs : noSet iter = true) :
    PE X (.ListComp elt [⟨tg, iter, ifs, 0⟩] scope pos) (tF X.K cl W (compD sc w tg tt scope fe)) := by
  unfold compD
  split
  rotate_left
  · exact bad_e
  rename_i t g e1
  split
  rotate_left
  · exact bad_e
  rename_i hc
  simp only [Bool.and_eq_true, List.all_eq_true, List.contains_iff_mem] at hc
  have hk := kindOk_ok hc.1.2
  exact de_comp F.calm (by rw [F.N]; exact F.nd) hi (blkOk_by (by rw [F.N, F.sco]; exact hc.1.1)) hc.2 (fun s H C c fp => tg_ok (F.blk hk s H C c fp) e1) (fun s H C c fp => ht g rfl s H C c fp hk) (fun s H C c fp => he s H C c fp hk) (folded_plain hs)
/-- the same given to a name at once -/
theorem setComp_ok (F : Fit sc k cl X) {elt tg iter : Expr} {ifs : List Expr} {scope : Scope} {pos : Pos} {w : EW} {tt : Option ET} {fe : EE} {i : Nat} {y : Str} {py spos : Pos} (hy : locI sc y = some i) (hyl : sc.scope.names.lookup y = some .local)
    (hsw : swapsWith (.ListComp elt [⟨tg, iter, ifs, 0⟩] scope pos) (some (.Name y py)) spos.line X.env = pure true) (hi : PI X tg iter (tI X.K cl W w))
    (ht : ∀ g, tt = some g → ∀ (s : Shared) (H : Hp) (C : Addr) (c : List (Str × Addr)) (fp : List Addr), scope.kind = .function → PTs (X.blk s H scope (compEnvC scope c C X.env) fp) ifs (tB1 X.K cl W0 g))
    (he : ∀ (s : Shared) (H : Hp) (C : Addr) (c : List (Str × Addr)) (fp : List Addr), scope.kind = .function → PE (X.blk s H scope (compEnvC scope c C X.env) fp) elt (tF X.K cl W0 fe)) (hs : noSet iter = true) :
    PS X (.Assign [.Name y py] (.ListComp elt [⟨tg, iter, ifs, 0⟩] scope pos) spos) (tS X.K cl W (sSet i (compD sc w tg tt scope fe))) := by
  have badS : PS X (.Assign [.Name y py] (.ListComp elt [⟨tg, iter, ifs, 0⟩] scope pos) spos) (tS X.K cl W (sSet i eBad)) := ⟨fun _ _ _ _ _ _ ⟨_, _, _, _, _, P⟩ => P.elim⟩
  unfold compD
  split
  rotate_left
  · exact badS
  rename_i t g e1
  split
  rotate_left
  · exact badS
  rename_i hc
  simp only [Bool.and_eq_true, List.all_eq_true, List.contains_iff_mem] at hc
  have hk := kindOk_ok hc.1.2
  exact ds_setComp F.calm (by rw [F.N]; exact F.nd) (F.loc hy).1 (by rw [F.sco]; exact hyl) hsw hi (blkOk_by (by rw [F.N, F.sco]; exact hc.1.1)) hc.2 (fun s H C c fp => tg_ok (F.blk hk s H C c fp) e1) (fun s H C c fp => ht g rfl s H C c fp hk) (fun s H C c fp => he s H C c fp hk) (folded_plain hs)
theorem call_ok (F : Fit sc k cl X) (tk : Takes X W) {f : Expr → EE} (h : ∀ e, PE X e (tF X.K cl W (f e))) {x : Str} {p pos : Pos} {args : List Expr} : PE X (.Call (.Name x p) args [] pos) (tF X.K cl W (callD sc f x args)) := by
  unfold callD
  split
  rotate_left
  · exact bad_e
  rename_i hg
  simp only [Bool.and_eq_true] at hg
  obtain ⟨⟨hg1, hg2⟩, hg3⟩ := hg
  have hGl := F.gl hg1
  have hdb : (x == ("__debug__" : Str)) = false := by
    have : dunder x = false := by simpa using hg3
    simp only [dunder, Bool.or_eq_false_iff] at this
    exact this.1
  cases args with
  | nil =>
    simp only [List.isEmpty_nil, if_true]
    split
    · exact bad_e
    · split <;> exact bad_e
  | cons e es =>
    have hst := hg2
    simp only [List.all_cons, Bool.and_eq_true] at hst
    split
    · rename_i i hi
      obtain ⟨fa, fd, ps, j, dv, ud, hj, FF, hm, hkp, hb0, hb1, hd, hdd⟩ := (F.fns x i hi).ex
      simp only [List.isEmpty_cons, Bool.false_eq_true, if_false]
      split
      · rename_i hn
        exact de_call (FF.up hj) F.gd F.room hGl hm hkp hb0 .nil (fun _ _ => rfl) tk (listA_ok h hg2) hdb (star_cons hst.1) (star_any hst.2) fun env st ds st1 e => by rw [List.append_nil, listA_len e]; exact hn
      · split
        · rename_i hn
          exact de_call (FF.up hj) F.gd F.room hGl hm hkp hb1 hd hdd tk (listA_ok h hg2) hdb (star_cons hst.1) (star_any hst.2) fun env st ds st1 e => by rw [List.length_append, listA_len e]; exact hn
        · exact bad_e
    · split
      rotate_left
      · exact bad_e
      rename_i hbl
      obtain ⟨_, hm, hn, _⟩ := F.bl hbl
      have blt : ∀ {e : Expr} {es : List Expr} {n : Nat}, (e :: es).all noStar = true → PE X (.Call (.Name x p) (e :: es) [] pos) (tF X.K cl W (match bltOf x n with
          | some b => eN b.g (listB f (e :: es))
          | none => eBad)) := by
        intro e es n hs
        have hst := hs
        simp only [List.all_cons, Bool.and_eq_true] at hst
        split
        · rename_i b hb
          obtain ⟨h1, h2⟩ := bltOf_ok F hb
          cases b with
          | fn id g => exact de_callB h2 hGl hm h1 (listB_ok h hs) hn hdb (star_cons hst.1) (star_any hst.2)
          | ty T g => exact de_callT h2 hGl hm h1 (listB_ok h hs) hn hdb (star_cons hst.1) (star_any hst.2)
        · exact bad_e
      split
      · rename_i heq; cases heq
      · rename_i a y p2 heq
        cases heq
        split
        · rename_i hx
          subst hx
          split
          · rename_i hy
            split
            · rename_i T hT
              obtain ⟨h1, h2⟩ := isiT_ok hT
              obtain ⟨q1, q2, q3, q4⟩ := F.bl hy
              exact de_isi h1 hGl hm boot_isi hn hdb q1 q2 h2 q3 q4 (h _) fun es => star_cons hst.1
            · exact bad_e
          · exact bad_e
        · exact blt hg2
      · exact blt hg2
theorem meth_ok0 (F : Fit sc k cl X) {f : Expr → EE} (h : ∀ e, PE X e (tF X.K cl W (f e))) {o : Expr} {m : Str} {apos pos : Pos} {args : List Expr} (hb : plainBase o = true) (hs : args.all noStar = true) (hl : (apos.endLine == pos.line) = true) :
    PE X (.Call (.Attribute o m apos) args [] pos) (tF X.K cl W (methD0 sc f o m args)) := by
  unfold methD0
  cases args with
  | nil =>
    simp only
    split
    · rename_i e
      subst e
      refine PEw (pe_bm0 PySem.F.plainAttrs_list PySem.F.slot_list_pop PySem.F.type_list_pop mt_pop (h o) (base_plain hb) hl) fun σ H Q hq => ?_
      obtain ⟨ρ, env, st, S, E, P⟩ := w_mtl mg_pop σ H Q hq
      refine ⟨ρ, env, st, S, E, P.mono ?_⟩
      rintro x H1 ⟨q1, ρ1, env1, st1, S1, E1, P1⟩
      exact ⟨q1, P1 ρ1 H1 [] (Ext.refl _ _) S1 rfl⟩
    · exact bad_e
  | cons a as =>
    have hst := hs
    simp only [List.all_cons, Bool.and_eq_true] at hst
    have few : ∀ (hlen : (a :: as).length < 30), ((backTo pos (starEach (a :: as) X.env)).all (fun x => !x.1) && (backToKw pos (keywordEach [] X.env)).all (fun x => x.1.isSome)
      && decide ((a :: as).length + ([] : List Keyword).length + (if ([] : List Keyword).isEmpty then 0 else 1) < 30)) = true := by
      intro hlen
      have h1 : (backTo pos (starEach (a :: as) X.env)).all (fun x => !x.1) = true := by
        have := star_any (env := X.env) (pos := pos) hs
        rw [List.any_eq_false] at this
        rw [List.all_eq_true]
        intro x hx
        simpa using this x hx
      rw [h1]
      simpa [backToKw, keywordEach] using hlen
    simp only
    split
    · rename_i g hg
      unfold mtlOf at hg
      split at hg
      · rename_i e
        split at hg
        · rename_i hn
          cases hg
          subst e
          exact PEw (pe_bm PySem.F.plainAttrs_list PySem.F.slot_list_append PySem.F.type_list_append mt_append (h o) (listA_ok h hs) (base_plain hb) (few (by omega)) hl (star_cons hst.1) (star_any hst.2)) (w_mtl mg_append)
        · cases hg
      · split at hg
        · rename_i e
          split at hg
          · rename_i hn
            cases hg
            subst e
            exact PEw (pe_bm PySem.F.plainAttrs_list PySem.F.slot_list_pop PySem.F.type_list_pop mt_popAt (h o) (listA_ok h hs) (base_plain hb) (few (by omega)) hl (star_cons hst.1) (star_any hst.2)) (w_mtl mg_popAt)
          · cases hg
        · cases hg
    · split
      · rename_i e
        subst e
        split
        · rename_i hn
          have : as = [] := by simpa using hn
          subst this
          exact PEw (pe_bm PySem.F.plainAttrs_list PySem.F.slot_list_extend PySem.F.type_list_extend mt_extend (h o) (db_cons (h a) db_nil (star_cons hst.1)) (base_plain hb) (few (by simp)) hl (star_cons hst.1) (star_any hst.2)) w_extend
        · exact bad_e
      · split
        · rename_i g hg
          split
          · rename_i hn
            have : as = [] := by simpa using hn
            subst this
            unfold mtsOf at hg
            split at hg
            · rename_i e
              cases hg; subst e
              exact PEw (pe_bm PySem.F.plainAttrs_str PySem.F.slot_str_join PySem.F.type_str_join mt_join (h o) (listB_ok h hs) (base_plain hb) (few (by simp)) hl (star_cons hst.1) (star_any hst.2)) (w_mts (id := "str.join") ms_join)
            split at hg
            · rename_i e
              cases hg; subst e
              exact PEw (pe_bm PySem.F.plainAttrs_str PySem.F.slot_str_find PySem.F.type_str_find mt_find (h o) (listB_ok h hs) (base_plain hb) (few (by simp)) hl (star_cons hst.1) (star_any hst.2)) (w_mts (id := "str.find") ms_find)
            split at hg
            · rename_i e
              cases hg; subst e
              exact PEw (pe_bm PySem.F.plainAttrs_str PySem.F.slot_str_startswith PySem.F.type_str_startswith mt_startswith (h o) (listB_ok h hs) (base_plain hb) (few (by simp)) hl (star_cons hst.1) (star_any hst.2)) (w_mts (id := "str.startswith") ms_starts)
            cases hg
          · exact bad_e
        · exact bad_e
theorem meth_ok (F : Fit sc k cl X) {f : Expr → EE} (h : ∀ e, PE X e (tF X.K cl W (f e))) {o : Expr} {m : Str} {apos pos : Pos} {args : List Expr} (hb : plainBase o = true) (hs : args.all noStar = true) (hl : (apos.endLine == pos.line) = true) :
    PE X (.Call (.Attribute o m apos) args [] pos) (tF X.K cl W (methD sc f o m args)) := by
  unfold methD
  split
  · rename_i t e d hg
    unfold getTab at hg
    split at hg
    · rename_i hm
      subst hm
      split at hg
      · rename_i x p e' d'
        split at hg
        · rename_i hc
          obtain ⟨h1, h2, h3⟩ := hc
          cases hd : sc.dct.lookup x with
          | none => rw [hd] at hg; cases hg
          | some tb =>
            rw [hd] at hg
            cases hg
            have tr : backTo pos (starEach [e, d] X.env) = [(false, eval e X.env), (false, eval d X.env)] := by rw [star_cons h2, star_cons h3]; rfl
            exact de_cget (F.gl h1) (F.dct x t hd) (h e) (h d) ⟨rfl, by rw [tr]; rfl, hl, tr⟩
        · cases hg
      · cases hg
    · cases hg
  · exact meth_ok0 F h hb hs hl
end
theorem rg_ok {sc : SC} {e : Expr} {l : List Expr} (h : rgArgs sc e = some l) : ∃ p p2, e = .Call (.Name "range" p) l [] p2 ∧ isBlt sc "range" = true ∧ l.all noStar = true := by
  unfold rgArgs at h
  split at h
  · split at h
    · rename_i hc
      obtain ⟨rfl, h1, h2⟩ := hc
      cases h
      exact ⟨_, _, rfl, h1, h2⟩
    · cases h
  · cases h
theorem lrg_ok {sc : SC} {x : Str} {args l : List Expr} (h : lrgArgs sc x args = some l) : ∃ (e1 : x = "list") (p p2 : Pos) (e2 : args = [.Call (.Name "range" p) l [] p2]), True ∧ isBlt sc "list" = true ∧ isBlt sc "range" = true ∧ l.all noStar = true := by
  unfold lrgArgs at h
  split at h
  · split at h
    · rename_i hc
      obtain ⟨rfl, h1⟩ := hc
      obtain ⟨p, p2, rfl, h2, h3⟩ := rg_ok h
      exact ⟨rfl, p, p2, rfl, trivial, h1, h2, h3⟩
    · cases h
  · cases h
theorem trg_ok {sc : SC} {x : Str} {args l : List Expr} (h : trgArgs sc x args = some l) : ∃ (e1 : x = "tuple") (p p2 : Pos) (e2 : args = [.Call (.Name "range" p) l [] p2]), True ∧ isBlt sc "tuple" = true ∧ isBlt sc "range" = true ∧ l.all noStar = true := by
  unfold trgArgs at h
  split at h
  · split at h
    · rename_i hc
      obtain ⟨rfl, h1⟩ := hc
      obtain ⟨p, p2, rfl, h2, h3⟩ := rg_ok h
      exact ⟨rfl, p, p2, rfl, trivial, h1, h2, h3⟩
    · cases h
  · cases h
/-- THE RULE: the denotation reads the syntax -/
theorem den_ok (k : Nat) (cl : Str → Option Addr) : ∀ (n : Nat) (sc : SC) (X : Cx) (W : WX), Fit sc k cl X → Takes X W → (∀ e, PE X e (tF X.K cl W (denE n sc e))) ∧ (∀ e, PT X e (tB1 X.K cl W (denT n sc e))) ∧ ∀ tg e, noSet e = true → PI X tg e (tI X.K cl W (denW n sc e))
  | 0, sc, X, W, F, tk => ⟨fun e => by simp only [denE]; exact bad_e, fun e => by simp only [denT]; exact bad_t, fun tg e _ => by simp only [denW]; exact bad_w⟩
  | n + 1, sc, X, W, F, tk => by
    obtain ⟨hE, hT, hW⟩ := den_ok k cl n sc X W F tk
    have hB := fun (sc' : SC) (X' : Cx) (F' : Fit sc' k cl X') => den_ok k cl n sc' X' W0 F' takes0
    refine ⟨fun e => ?_, fun e => ?_, fun tg e hs => ?_⟩
    · cases e with
      | Name x p =>
        simp only [denE]
        split
        · rename_i i hi
          obtain ⟨q1, q2, q3, q4⟩ := F.vis hi
          exact de_var (pe_var q1 q2 q3 q4)
        · split
          · rename_i hg
            simp only [Bool.and_eq_true] at hg
            split
            · rename_i d hd
              obtain ⟨v, u, h1, h2, h3⟩ := F.cst x d hd
              have hdb : (x == ("__debug__" : Str)) = false := by
                have : dunder x = false := by simpa using hg.2
                simp only [dunder, Bool.or_eq_false_iff] at this
                exact this.1
              exact de_c (pe_glob (F.gl hg.1) h1 h2 hdb) h3
            · exact bad_e
          · exact bad_e
      | Constant c j p =>
        simp only [denE]
        cases c with
        | none => exact de_c pe_non fun _ _ => rfl
        | bool b => exact de_c pe_bl fun _ _ => rfl
        | int i => exact de_c pe_int fun _ _ => rfl
        | str s => exact de_c pe_str fun _ _ => congrArg V.str (str_eta s).symm
        | _ => exact bad_e
      | BinOp a op b p =>
        simp only [denE]
        split
        · rename_i g hg
          exact de_op (binOf_ok hg) (hE a) (hE b)
        · exact bad_e
      | UnaryOp op a p =>
        simp only [denE]
        cases op with
        | USub => exact de_un und_neg (hE a)
        | Not => exact de_not (hE a)
        | _ => exact bad_e
      | BoolOp op es p =>
        simp only [denE]
        cases op with
        | And => exact andE_ok hE
        | Or => exact orE_ok hE
      | Compare a ops bs p =>
        simp only [denE]
        split
        · split
          · rename_i hs
            split
            · rename_i g hg
              exact de_cmp (cmpOf_ok F.u65 hg) (hE _) (hE _) (marks_plain hs)
            · exact bad_e
          · exact bad_e
        · split
          · rename_i hs
            split
            · rename_i g g' hg hg'
              exact de_chain (cmpOf_ok F.u65 hg) (cmpOf_ok F.u65 hg') (hE _) (hE _) (hE _) hs
            · exact bad_e
          · exact bad_e
        · exact bad_e
      | IfExp c a b p =>
        simp only [denE]
        exact de_if (hT c) (hE a) (hE b)
      | Tuple es kk p =>
        simp only [denE]
        split
        · rename_i hs
          exact de_tup (listA_ok hE hs)
        · exact bad_e
      | List es p =>
        simp only [denE]
        split
        · rename_i hs
          exact de_lst (listA_ok hE hs)
        · exact bad_e
      | Subscript a b p =>
        cases b with
        | Slice lo hi step p2 =>
          simp only [denE]
          cases step with
          | none =>
            refine de_sl (hE a) ?_ ?_
            · cases lo with
              | none => exact dpo_none
              | some e => exact dpo_some (hE e)
            · cases hi with
              | none => exact dpo_none
              | some e => exact dpo_some (hE e)
          | some s =>
            simp only
            split
            · rename_i hc
              simp only [Bool.and_eq_true, Option.isNone_iff_eq_none] at hc
              obtain ⟨⟨h1, rfl⟩, rfl⟩ := hc
              unfold isM1 at h1
              split at h1
              · have h1 := eq_of_beq h1
                subst h1
                exact de_revL (hE a)
              · cases h1
            · exact bad_e
        | Tuple es kk p2 =>
          simp only [denE]
          split
          · rename_i hs
            exact de_dgetT (hu_of F.room) (hE a) (listA_ok hE hs) fun _ _ => rfl
          · exact bad_e
        | _ =>
          simp only [denE]
          exact de_ix (hE a) (hE _) (ix_plain rfl)
      | Call f args kw p =>
        simp only [denE]
        cases kw with
        | cons _ _ => exact bad_e
        | nil =>
          cases f with
          | Name x p' =>
            simp only
            split
            · rename_i a hl
              obtain ⟨e1, p3, p4, rfl, _, h1, h2, h3⟩ := trg_ok hl
              obtain ⟨q1, q2, _⟩ := F.bl h1
              obtain ⟨q3, q4, _⟩ := F.bl h2
              subst e1
              exact de_trg1 F.calm q1 q2 q3 q4 (hE a) (star_cons (by simpa using h3)) (star_cons rfl)
            · exact bad_e
            split
            · rename_i a hl
              obtain ⟨e1, p3, p4, rfl, _, h1, h2, h3⟩ := lrg_ok hl
              obtain ⟨q1, q2, _⟩ := F.bl h1
              obtain ⟨q3, q4, _⟩ := F.bl h2
              subst e1
              exact de_rg1 F.calm q1 q2 q3 q4 (hE a) (star_cons (by simpa using h3)) (star_cons rfl)
            · rename_i a b hl
              obtain ⟨e1, p3, p4, rfl, _, h1, h2, h3⟩ := lrg_ok hl
              obtain ⟨q1, q2, _⟩ := F.bl h1
              obtain ⟨q3, q4, _⟩ := F.bl h2
              subst e1
              simp only [List.all_cons, List.all_nil, Bool.and_true, Bool.and_eq_true] at h3
              exact de_rg2 F.calm q1 q2 q3 q4 (hE a) (hE b) (star_cons h3.1) (star_cons h3.2) (star_cons rfl)
            · exact bad_e
            · exact call_ok F tk hE
          | Attribute o m apos =>
            simp only
            split
            · rename_i hc
              simp only [Bool.and_eq_true] at hc
              exact meth_ok F hE hc.1.1 hc.1.2 hc.2
            · exact bad_e
          | _ => exact bad_e
      | ListComp elt gens scope p =>
        simp only [denE]
        split
        · rename_i tg iter ifs a
          split
          · rename_i hc
            obtain ⟨rfl, hs⟩ := hc
            refine comp_ok F (hW tg iter hs) (fun g hg s H C c fp hk => ?_) (fun s H C c fp hk => (hB _ _ (F.blk hk s H C c fp)).1 elt) hs
            match ifs, hg with
            | [], hg => cases hg; exact dts_nil
            | [c'], hg => cases hg; exact dts_one ((hB _ _ (F.blk hk s H C c fp)).2.1 c')
          · exact bad_e
        · exact bad_e
      | Dict ks vs p =>
        cases ks with
        | nil =>
          cases vs with
          | nil => simp only [denE]; exact de_dnewT
          | cons _ _ => simp only [denE]; exact bad_e
        | cons _ _ => simp only [denE]; exact bad_e
      | _ => simp only [denE]; exact bad_e
    · cases e with
      | UnaryOp op a p =>
        simp only [denT]
        cases op with
        | Not => exact dt_not (hT a)
        | _ => exact bad_t
      | BoolOp op es p =>
        simp only [denT]
        cases op with
        | And => exact (andT_ok hT).pt
        | Or => exact (orT_ok hT).pt
      | IfExp c a b p => simp only [denT]; exact bad_t
      | Compare a ops bs p =>
        simp only [denT]
        split
        · split
          · rename_i hs
            split
            · rename_i g hg
              exact dt_cmp (cmpOf_ok F.u65 hg) (hE _) (hE _) (marks_plain hs)
            · exact bad_t
          · exact bad_t
        · split
          · rename_i hs
            split
            · rename_i g g' hg hg'
              exact dt_chain (cmpOf_ok F.u65 hg) (cmpOf_ok F.u65 hg') (hE _) (hE _) (hE _) hs
            · exact bad_t
          · exact bad_t
        · exact bad_t
      | _ => simp only [denT]; exact dt_truth (hE _) (test_plain rfl)
    · cases e with
      | Call f args kw p =>
        simp only [denW]
        cases kw with
        | cons _ _ => exact bad_w
        | nil =>
          cases f with
          | Name x p' =>
            simp only
            split
            · rename_i hc
              obtain ⟨rfl, h1, h2⟩ := hc
              obtain ⟨q1, q2, q3, q4⟩ := F.bl h1
              match args, h2 with
              | [a], h2 => exact di_rng1 q1 q2 (listB_ok hE h2) (star_cons (by simpa using h2))
              | [a, b], h2 =>
                have h2' := h2
                simp only [List.all_cons, List.all_nil, Bool.and_true, Bool.and_eq_true] at h2'
                exact di_rng2 q1 q2 (listB_ok hE h2) (by rw [star_cons h2'.1, star_cons h2'.2]; rfl) (by rw [star_cons h2'.2]; rfl)
              | [], _ => exact bad_w
              | _ :: _ :: _ :: _, _ => exact bad_w
            · split
              · rename_i hc
                obtain ⟨rfl, h1, h2⟩ := hc
                obtain ⟨q1, q2, q3, q4⟩ := F.bl h1
                match args, h2 with
                | [a], h2 =>
                  simp only
                  split
                  · rename_i b hb
                    obtain ⟨p3, p4, rfl, h3, h4⟩ := rg_ok hb
                    obtain ⟨q5, q6, _⟩ := F.bl h3
                    exact di_revR1 q1 q2 q5 q6 (hE b) (star_cons (by simpa using h4)) (star_cons rfl)
                  · exact bad_w
                  · exact di_rev q1 q2 (hE a) (star_cons (by simpa using h2))
                | [], _ => exact bad_w
                | _ :: _ :: _, _ => exact bad_w
              · exact di_val (hE _)
          | _ => exact di_val (hE _)
      | _ => simp only [denW]; exact di_val (hE _)
end Ev

/-! ## Ev11a -/
set_option Elab.async false
set_option linter.all false
set_option maxRecDepth 100000
/-! Ev11a: the suite of 'except X as n': readings that carry the caught exception. -/
namespace Ev
open PySem PySem.Spec PyProof.Rows L2

/-- what is known of the caught exception in its suite: the name's slot i holds a, its dict d holds its fields -/
structure JX (K : PySem.W.Frag) (i : Nat) (a : Addr) (d : Option Addr) (x : Exn) (ρ : List Addr) (H : Hp) (σ : L2.St) : Prop where
  at_ : σ[i]? = some (some (.ref a))
  fs : (x.fs = [] ∧ d = none) ∨ ∃ dx vs, d = some dx ∧ dx ∉ ρ ∧ H dx = some (.xd vs) ∧ RFs K ρ H x.fs vs
theorem RS.noXd {K : PySem.W.Frag} {cl : Str → Option Addr} {ρ : List Addr} {H : Hp} {st : Store} (S : RS K ρ H cl st) {a : Addr} {vs : List (Str × V)} (h : H a = some (.xd vs)) : a ∉ ρ := by
  intro ha
  obtain ⟨n, hn⟩ := List.getElem?_of_mem ha
  obtain ⟨c, hc, rc⟩ := S.cell hn
  cases c with
  | lst l => obtain ⟨_, e, _⟩ := rc; rw [h] at e; cases e
  | dict t l => obtain ⟨_, _, e, _⟩ | ⟨_, _, e, _⟩ := rc <;> (rw [h] at e; cases e)
  | ins c fs => obtain ⟨_, _, _, _, e, _⟩ := rc; rw [h] at e; cases e
section
variable {K : PySem.W.Frag} {cl : Str → Option Addr} {W : WX} {i : Nat} {a : Addr} {d : Option Addr} {x : Exn}
theorem JX.ext {ρ ρ' : List Addr} {H H' : Hp} {st : Store} {σ : L2.St} (S : RS K ρ H cl st) (e : Ext ρ H ρ' H') (j : JX K i a d x ρ H σ) : JX K i a d x ρ' H' σ := by
  refine ⟨j.at_, ?_⟩
  rcases j.fs with h | ⟨dx, vs, h1, h2, h3, h4⟩
  · exact .inl h
  · exact .inr ⟨dx, vs, h1, (e.same dx _ h3 h2).2, (e.same dx _ h3 h2).1, RFs.mono (e.mono S) _ _ h4⟩
def tJ (K : PySem.W.Frag) (cl : Str → Option Addr) (W : WX) (i : Nat) (a : Addr) (d : Option Addr) (x : Exn) {α β : Type} (rel : Rel α β) (f : SEnv → Store → R α) : L2.St → Hp → (β → Hp → Prop) → Prop :=
  fun σ H Q => ∃ ρ env st, RS K ρ H cl st ∧ RE K ρ H σ env ∧ JX K i a d x ρ H σ ∧ Post K cl W σ rel ρ H (f env st) Q
abbrev jF (K : PySem.W.Frag) (cl : Str → Option Addr) (W : WX) (i : Nat) (a : Addr) (d : Option Addr) (x : Exn) (f : EE) : TE := tJ K cl W i a d x (relV K) f
abbrev jA (K : PySem.W.Frag) (cl : Str → Option Addr) (W : WX) (i : Nat) (a : Addr) (d : Option Addr) (x : Exn) (f : EA) : TA := tJ K cl W i a d x (relA K) f
end
section
variable {X : Cx} {cl : Str → Option Addr} {W : WX} {i : Nat} {a : Addr} {d : Option Addr} {x : Exn} {e b : Expr} {es rest : List Expr} {fa fb : EE} {fr : EA} {pos : Pos}
theorem dj_bad : PE X e (jF X.K cl W i a d x eBad) := ⟨fun _ _ _ _ _ _ ⟨_, _, _, _, _, _, P⟩ => P.elim⟩
theorem dj_of (h : PE X e (tF X.K cl W fa)) : PE X e (jF X.K cl W i a d x fa) := PEw h fun σ H Q ⟨ρ, env, st, S, E, _, P⟩ => ⟨ρ, env, st, S, E, P⟩
theorem dja_nil : PA X [] (jA X.K cl W i a d x aNil) := PAw pa_nil fun σ H Q ⟨ρ, env, st, S, E, _, P⟩ => P ρ H [] (Ext.refl _ _) S rfl
theorem dja_cons (ha : PE X e (jF X.K cl W i a d x fa)) (hr : PA X es (jA X.K cl W i a d x fr)) (hs : starEach (e :: es) X.env = (false, eval e X.env) :: starEach es X.env) : PA X (e :: es) (jA X.K cl W i a d x (aCons fa fr)) := by
  refine PAw (pa_cons ha hr hs) fun σ H Q ⟨ρ, env, st, S, E, J, P⟩ => ?_
  refine ⟨ρ, env, st, S, E, J, (Post.bind0 P).mono ?_⟩
  rintro y H1 ⟨ρ1, st1, u, x1, S1, r1, P1⟩
  obtain ⟨k, st2, ρ2, e2, x2, S2, r2, m2⟩ := mat_ok S1 x1 r1
  rw [e2, R.bind_ok] at P1
  refine ⟨ρ2, env, st2, S2, (E.mono (x1.mono S)).mono m2, J.ext S x2, (Post.bind0 (relα := relA X.K) (Post.from backA S2 x2 P1)).mono ?_⟩
  rintro ys H3 ⟨ρ3, st3, ds, x3, S3, r3, P3⟩
  exact P3 ρ3 H3 (y :: ys) x3 S3 ⟨y, ys, rfl, RD.mono (x3.mono S2) _ _ r2, r3⟩
theorem dj_tup {k} (h : PA X es (jA X.K cl W i a d x fr)) : PE X (.Tuple es k pos) (jF X.K cl W i a d x (eTup fr)) := by
  refine PEw (pe_tup h) fun σ H Q ⟨ρ, env, st, S, E, J, P⟩ => ?_
  refine ⟨ρ, env, st, S, E, J, (Post.bind backV P).mono ?_⟩
  rintro ys H1 ⟨ρ1, st1, ds, x1, S1, r1, P1⟩
  split at P1
  · rename_i hz
    refine ⟨by rw [← RDs.length r1, sLine_eq]; exact hz, fun p hp => ?_⟩
    exact P1 ρ1 _ _ (Ext.new hp) (S1.new hp) ⟨p, ys, rfl, SqT.of upd_same, RDs.mono ((Ext.new hp).mono S1) _ _ r1⟩
  · exact P1.elim
theorem dj_and (ha : PE X e (jF X.K cl W i a d x fa)) (hb : PE X (.BoolOp .And (b :: rest) pos) (jF X.K cl W i a d x fb)) : PE X (.BoolOp .And (e :: b :: rest) pos) (jF X.K cl W i a d x (eAnd fa fb)) := by
  refine PEw (pe_and ha hb) fun σ H Q ⟨ρ, env, st, S, E, J, P⟩ => ?_
  refine ⟨ρ, env, st, S, E, J, (Post.bind backV P).mono ?_⟩
  rintro y H1 ⟨ρ1, st1, u, x1, S1, r1, P1⟩
  split at P1
  · rename_i k
    cases r1
    refine ⟨k, rfl, ?_⟩
    cases k with
    | true => exact iteT ⟨ρ1, env, st1, S1, E.mono (x1.mono S), J.ext S x1, by simpa using P1⟩
    | false => exact iteF (P1 ρ1 H1 _ (Ext.refl _ _) S1 rfl)
  · exact P1.elim
theorem dj_not (ha : PE X e (jF X.K cl W i a d x fa)) : PE X (.UnaryOp .Not e pos) (jF X.K cl W i a d x (eNot fa)) := by
  refine PEw (pe_not ha) fun σ H Q ⟨ρ, env, st, S, E, J, P⟩ => ?_
  refine ⟨ρ, env, st, S, E, J, (Post.bind backV P).mono ?_⟩
  rintro y H1 ⟨ρ1, st1, u, x1, S1, r1, P1⟩
  split at P1
  · cases r1
    exact ⟨_, rfl, P1 ρ1 H1 _ (Ext.refl _ _) S1 rfl⟩
  · exact P1.elim
theorem dj_cmp {op : CmpOp} {g : RV → RV → Store → Option RV} (ho : OpR X (compareOp op) (rP2 X.K cl g)) (ha : PE X e (jF X.K cl W i a d x fa)) (hb : PE X b (jF X.K cl W i a d x fb)) (hm : behindInMarks op b = false) : PE X (.Compare e [op] [b] pos) (jF X.K cl W i a d x (e2 g fa fb)) := by
  refine PEw (pe_cmpR ho ha hb hm) fun σ H Q ⟨ρ, env, st, S, E, J, P⟩ => ?_
  refine ⟨ρ, env, st, S, E, J, (Post.bind backV P).mono ?_⟩
  rintro y H1 ⟨ρ1, st1, u, x1, S1, r1, P1⟩
  refine ⟨ρ1, env, st1, S1, E.mono (x1.mono S), J.ext S x1, (Post.bind backV P1).mono ?_⟩
  rintro z H2 ⟨ρ2, st2, w, x2, S2, r2, P2⟩
  exact ⟨ρ2, st2, u, w, H, H1, S2, RRV.ext S1 x2 r1, r2, P2.prim⟩
theorem jAnd_ok : ∀ {es : List Expr} {f : Expr → EE}, (∀ e, PE X e (jF X.K cl W i a d x (f e))) → PE X (.BoolOp .And es pos) (jF X.K cl W i a d x (andE (es.map f)))
  | [], f, h => dj_bad
  | [e], f, h => pe_one (h e)
  | e :: e' :: es, f, h => dj_and (h e) (jAnd_ok (es := e' :: es) h)
theorem jList_ok {f : Expr → EE} (h : ∀ e, PE X e (jF X.K cl W i a d x (f e))) : ∀ {es : List Expr}, es.all noStar = true → PA X es (jA X.K cl W i a d x (listA f es))
  | [], _ => dja_nil
  | e :: es, hs => by
    simp only [List.all_cons, Bool.and_eq_true] at hs
    exact dja_cons (h e) (jList_ok h hs.2) (star_cons hs.1)
/-- statements of a suite -/
def jS (K : PySem.W.Frag) (cl : Str → Option Addr) (W : WX) (i : Nat) (a : Addr) (d : Option Addr) (x : Exn) (f : SS) : TS := fun D σ H => ∃ ρ env st, RS K ρ H cl st ∧ RE K ρ H σ env ∧ JX K i a d x ρ H σ ∧ PostS K cl W ρ H (f env st) D
theorem djs_bad {s : Stmt} : PS X s (jS X.K cl W i a d x sBad) := ⟨fun _ _ _ _ _ _ ⟨_, _, _, _, _, _, P⟩ => P.elim⟩
theorem djs_ret (he : PE X e (jF X.K cl W i a d x fa)) : PS X (.Return (some e) pos) (jS X.K cl W i a d x (sRet fa)) := by
  refine PSw (ps_ret he) fun D σ H ⟨ρ, env, st, S, E, J, P⟩ => ?_
  refine ⟨ρ, env, st, S, E, J, (PostS.toS (rel := relV X.K) S E P).mono ?_⟩
  rintro y H1 ⟨ρ1, st1, u, x1, S1, r1, P1⟩
  exact P1 ρ1 H1 y x1 S1 r1
theorem djs_one {s : Stmt} {f : SS} (h : PS X s (jS X.K cl W i a d x f)) : PSs X [s] (jS X.K cl W i a d x (sSeq f sNil)) := by
  refine PSsw (pss_cons h pss_nil) fun D σ H ⟨ρ, env, st, S, E, J, P⟩ => ?_
  refine ⟨ρ, env, st, S, E, J, ?_⟩
  unfold sSeq at P
  cases hf : f env st with
  | nx env1 st1 =>
    rw [hf] at P
    exact fun ρ1 H1 σ1 x1 S1 E1 => P ρ1 H1 σ1 x1 S1 E1
  | brk env1 st1 => rw [hf] at P; exact P
  | ct env1 st1 => rw [hf] at P; exact P
  | ret u st1 => rw [hf] at P; exact P
  | exc y env1 st1 => rw [hf] at P; exact P
  | bad => rw [hf] at P; exact P
end

/-! ### isinstance(e, C) and e.f -/
/-- the dict of the caught exception, if it has one, lies there -/
theorem call_isErr {X : Cx} {a C : Addr} {oe : Obj} {d : Option Addr} {pn : List (Addr × Obj)} (T : ErrC X.K C) (hz : Zc (.ref C) d oe) (hf : ∃ vs, oe.data = .fields vs) :
    CallR (X.suite a ((a, oe) :: pn)) (.builtin "isinstance") fun xs H Q => ∃ (c : V) (cv : Value) (b : Bool), xs = [.ref a, c] ∧ (∀ u, RelV c u → u = cv) ∧ PySem.W.kitOne X.K (.ref C) cv = some b ∧ (d = none ∨ ∃ dx vs, d = some dx ∧ H dx = some (.xd vs)) ∧ Q (.bl b) H := by
  intro pins s σ H xs us Q I r h
  obtain ⟨c, cv, b, rfl, hcv, e, hd, q⟩ := h
  obtain ⟨u1, u2, rfl, rx, rt⟩ := vals2 r
  obtain rfl : u1 = Value.ref a := rx
  have ec := hcv _ rt
  subst ec
  have ha := (I.pin (a, oe) (List.mem_append_left _ List.mem_cons_self)).1
  obtain ⟨vs, hv⟩ := hf
  have go : ∀ od, PySem.W.InstAt s.heap a oe C od → wpAny (model X.prog X.w) (X.suite a ((a, oe) :: pn)).A (call (.builtin "isinstance") [.ref a, u2]) (EP (X.suite a ((a, oe) :: pn)) pins σ Q) (X.suite a ((a, oe) :: pn)).xe s := fun od J =>
    PySem.W.kia_one (PySem.W.kitx_exc T.cl T.ga T.gg T.sb T.ca T.sp T.tk T.mo) I.kIn J e (fun z => nomatch z) fun tk => ⟨.bl b, H, I.kept (t' := tk) fun _ _ z => z, rfl, q⟩
  have nc : PySem.W.notCls oe = true := by unfold PySem.W.notCls; rw [hv]
  rcases hd with hd | ⟨dx, ws, hd, hx⟩
  · exact go none ⟨ha, hz.1, nc, by rw [hz.2, hd]; trivial⟩
  · obtain ⟨mA, hns, _⟩ := (show ObjOk X.prog X.w H s.heap dx (.xd ws) from I.hok dx _ hx)
    obtain ⟨od, ho, _⟩ := lookIn_ns hns
    exact go (some od) ⟨ha, hz.1, nc, by rw [hz.2, hd]; exact ho⟩
section
variable {X : Cx} {cl : Str → Option Addr} {W : WX} {i : Nat} {a C : Addr} {d : Option Addr} {x : Exn} {oe : Obj} {pn : List (Addr × Obj)} {nm : Str}
theorem dj_isi {c : V} {cv : Value} {b : Bool} {y : Str} {p p1 p2 pos : Pos} (T : ErrC X.K C) (hz : Zc (.ref C) d oe) (hf : ∃ vs, oe.data = .fields vs)
    (hn : X.N[i]? = some nm) (hv : Vis X.env.scope nm) (h1 : (nm == ("__debug__" : Str)) = false) (h2 : (nm == ("__classdict__" : Str)) = false) (hg : Gl X "isinstance") (hm : X.mg "isinstance" = none)
    (hc : PE (X.suite a ((a, oe) :: pn)) (.Name y p2) (tC c)) (hcv : ∀ u, RelV c u → u = cv) (hk : PySem.W.kitOne X.K (.ref C) cv = some b) :
    PE (X.suite a ((a, oe) :: pn)) (.Call (.Name "isinstance" p) [.Name nm p1, .Name y p2] [] pos) (jF X.K cl W i a d x (eC (.bl b))) := by
  have hN : PE (X.suite a ((a, oe) :: pn)) (.Name nm p1) (tVar i) := pe_var hn hv h1 h2
  refine PEw (pe_callB (X := X.suite a ((a, oe) :: pn)) (call_isErr T hz hf) hg hm (by rfl) (pa_cons hN (pa_cons hc pa_nil) rfl) (by decide) (by decide) rfl) fun σ H Q ⟨ρ, env, st, S, E, J, P⟩ => ?_
  refine ⟨.ref a, J.at_, c, cv, b, rfl, hcv, hk, ?_, P ρ H _ (Ext.refl _ _) S rfl⟩
  rcases J.fs with h | ⟨dx, vs, h1, _, h3, _⟩
  · exact .inl h.2
  · exact .inr ⟨dx, vs, h1, h3⟩
theorem RFs.look {K : PySem.W.Frag} {ρ : List Addr} {H : Hp} {f : Str} {d : D} : ∀ {l : List (Str × D)} {vs : List (Str × V)}, RFs K ρ H l vs → l.lookup f = some d → ∃ v, vs.lookup f = some v ∧ RD K ρ H d v
  | [], _, _, h => by cases h
  | (g, k) :: l, _, r, h => by
    obtain ⟨v, r', rfl, h1, h2⟩ := r
    rw [List.lookup_cons] at h ⊢
    split at h
    · rename_i e
      cases h
      exact ⟨v, by simp [e], h1⟩
    · rename_i e
      obtain ⟨w, h3, h4⟩ := RFs.look h2 h
      exact ⟨w, by simp [e, h3], h4⟩
theorem dj_fld {f : Str} {k : D} {p1 pos : Pos} (T : ErrC X.K C) (hno : PySem.W.findIn X.K (.ref C) f = some none) (hz : Zc (.ref C) d oe) (hf : ∃ vs, oe.data = .fields vs)
    (hn : X.N[i]? = some nm) (hv : Vis X.env.scope nm) (h1 : (nm == ("__debug__" : Str)) = false) (h2 : (nm == ("__classdict__" : Str)) = false) (hk : x.fs.lookup f = some k) :
    PE (X.suite a ((a, oe) :: pn)) (.Attribute (.Name nm p1) f pos) (jF X.K cl W i a d x (eC k)) := by
  have hN : PE (X.suite a ((a, oe) :: pn)) (.Name nm p1) (tVar i) := pe_var hn hv h1 h2
  refine PEw (pe_xf ⟨T.ga, T.gg, T.sb, T.hd⟩ hno hz hf hN rfl) fun σ H Q ⟨ρ, env, st, S, E, J, P⟩ => ?_
  refine ⟨.ref a, J.at_, rfl, rfl, ?_⟩
  rcases J.fs with h | ⟨dx, vs, e1, _, e3, e4⟩
  · rw [h.1] at hk; cases hk
  · obtain ⟨v, e5, e6⟩ := RFs.look e4 hk
    exact ⟨dx, vs, v, e1, e3, e5, P ρ H _ (Ext.refl _ _) S e6⟩
end
end Ev

/-! ## Ev12 -/
set_option Elab.async false
set_option linter.all false
set_option maxRecDepth 100000
/-! Ev12: statements; a def by its denotation; the end of a law. -/
namespace Ev
open PySem PySem.Spec PyProof.Rows L2

/-- whether a comprehension's list goes to its name at once -/
def swB (sc : SC) (e : Expr) (x : Str) (px : Pos) : Bool := match e with
  | .ListComp _ _ scope p => (match sc.scope.names.lookup x with
      | some .local => true
      | _ => false) && (px.line == p.line) && !(scope.names.any fun (n, k) => n == x && (k == .local || k == .cell))
  | _ => false
def seqs : List SS → SS
  | [] => sNil
  | f :: fs => sSeq f (seqs fs)
/-- a test at a swapped place, else plain -/
def setOk (sc : SC) (e : Expr) (x : Str) (px : Pos) : Bool := noComp e || (match e with
  | .ListComp _ _ _ _ => true
  | _ => false)
def sRaise (x : Str) : SS := fun env st => .exc ⟨x, []⟩ env st
theorem ds_raise {sc : SC} {k : Nat} {cl : Str → Option Addr} {X : Cx} {W : WX} (F : Fit sc k cl X) {x m : Str} {j : Nat} {px pm pk pos : Pos} (hg : isGl sc x = true) (e : ExF X.K X.mg cl x) (tk : Takes X W) :
    PS X (.Raise (some (.Call (.Name x px) [.Constant (.str m) j pm] [] pk)) none pos) (tS X.K cl W (sRaise x)) := by
  obtain ⟨C, bmB, B, newId, initId, h1, h2, h3, h4, h5, h6, h7⟩ := e.ex
  refine PSw (ps_raise F.calm tk (pmk_own h1 h2 h3 h4 (raises_own h5 h6) (F.gl hg) e.nd)) fun D σ H ⟨ρ, env, st, S, E, P⟩ => ?_
  exact P ρ H σ (.ref C) none (Ext.refl _ _) S E ⟨C, h7, rfl, .inl ⟨rfl, rfl⟩⟩
/-- try .. except x: (no name) -/
def sTry1 (tab : List (Str × Bool)) (f k : SS) : SS := fun env st => match f env st with
  | .exc e env' st' => match tab.lookup e.cls with
    | some true => k env' st'
    | some false => .exc e env' st'
    | none => .bad
  | r => r
theorem ds_try1 {cl : Str → Option Addr} {X : Cx} {W : WX} {x : Str} {tab : List (Str × Bool)} {body suite : List Stmt} {b₀ : Stmt} {np pos pos' : Pos} {f k : SS} (hs : X.stack = X.env :: X.outer) (hf : X.env.frame = some X.env.locals) (hg : Gl X x) (T : TrF X.K X.mg cl x tab) (tk : Takes X W)
    (hb : ∀ (W : WX) (pn : List (Addr × Obj)) (xe : Value → Shared → Prop), Takes (X.tr pn xe) W → PassesOwn (model X.prog X.w) X.A X.env xe → PSs (X.tr pn xe) body (tS X.K cl W f))
    (hsu : ∀ (a : Addr) (pn : List (Addr × Obj)), PSs (X.suite a pn) (b₀ :: suite) (tS X.K cl W k)) :
    PS X (.Try body [.ExceptHandler (some (.Name x np)) none (b₀ :: suite) pos'] [] [] pos) (tS X.K cl W (sTry1 tab f k)) := by
  obtain ⟨C, hm, ht⟩ := T.ex
  refine PSw (ps_try_only (ts := fun _ _ _ => tS X.K cl W k) hs hf ⟨hg, T.nd, .inl hm⟩ tk hb fun a oe cls d pn _ _ => hsu a _) fun D σ H ⟨ρ, env, st, S, E, P⟩ => ?_
  refine ⟨ρ, env, st, S, E, ?_⟩
  unfold sTry1 at P
  cases hr : f env st with
  | exc e env' st' =>
    rw [hr] at P
    intro ρ' H' σ' c d x' S' E' rx
    obtain ⟨Cy, h1, rfl, _⟩ := id rx
    simp only at P
    split at P
    · rename_i hl
      exact ⟨true, ht _ _ hl _ h1, fun _ a _ => ⟨ρ', env', st', S', E', PostS.from S' x' P⟩, (fun z => by cases z)⟩
    · rename_i hl
      exact ⟨false, ht _ _ hl _ h1, (fun z => by cases z), fun _ => P ρ' H' σ' (.ref Cy) d x' S' E' rx⟩
    · exact P.elim
  | nx _ _ => rw [hr] at P; exact P
  | brk _ _ => rw [hr] at P; exact P
  | ct _ _ => rw [hr] at P; exact P
  | ret _ _ => rw [hr] at P; exact P
  | bad => rw [hr] at P; exact P.elim
/-! ### try .. except X as n: return .. -/
def SR.unb (i : Nat) (r : SR) : SR := match r with
  | .nx e st => .nx (e.set i none) st
  | .brk e st => .brk (e.set i none) st
  | .ct e st => .ct (e.set i none) st
  | .ret a st => .ret a st
  | _ => .bad
def sTryAs (tab : List (Str × Bool)) (i : Nat) (f : SS) (k : Exn → SS) : SS := fun env st => match f env st with
  | .exc e env' st' => match tab.lookup e.cls with
    | some true => if i < env'.length then SR.unb i (k e (env'.set i none) st') else .bad
    | some false => .exc e env' st'
    | none => .bad
  | r => r
theorem RE.hide {K : PySem.W.Frag} {ρ : List Addr} {H : Hp} {σ : L2.St} {env : SEnv} (E : RE K ρ H σ env) (i : Nat) (v : Option V) : RE K ρ H (σ.set i v) (env.set i none) := by
  refine ⟨by rw [List.length_set, List.length_set]; exact E.len, fun j d h => ?_⟩
  by_cases hj : i = j
  · subst hj
    by_cases hl : i < env.length
    · rw [List.getElem?_set_self hl] at h; cases h
    · rw [List.getElem?_eq_none (by rw [List.length_set]; omega)] at h; cases h
  · rw [List.getElem?_set_ne hj] at h ⊢
    exact E.at_ j d h
theorem ds_tryAs {cl : Str → Option Addr} {X : Cx} {W : WX} {x nm : Str} {tab : List (Str × Bool)} {body suite : List Stmt} {b₀ : Stmt} {np pos pos' : Pos} {i : Nat} {f : SS} {k : Exn → SS} (hs : X.stack = X.env :: X.outer) (hf : X.env.frame = some X.env.locals) (hN : X.N.Nodup) (hi : X.N[i]? = some nm)
    (hl : X.env.kindOf nm = some .local) (hg : Gl X x) (T : TrF X.K X.mg cl x tab) (tk : Takes X W)
    (hb : ∀ (W : WX) (pn : List (Addr × Obj)) (xe : Value → Shared → Prop), Takes (X.tr pn xe) W → PassesOwn (model X.prog X.w) X.A X.env xe → PSs (X.tr pn xe) body (tS X.K cl W f))
    (hsu : ∀ (e : Exn) (C a : Addr) (oe : Obj) (d : Option Addr) (pn : List (Addr × Obj)), cl e.cls = some C → Zc (.ref C) d oe → (∃ vs, oe.data = .fields vs) → PSs (X.suite a ((a, oe) :: pn)) (b₀ :: suite) (jS X.K cl W0 i a d e (k e))) :
    PS X (.Try body [.ExceptHandler (some (.Name x np)) (some nm) (b₀ :: suite) pos'] [] [] pos) (tS X.K cl W (sTryAs tab i f k)) := by
  obtain ⟨C, hm, ht⟩ := T.ex
  refine PSw (ps_try_as (ts := fun a cls d D σ H => ∃ (e : Exn) (C : Addr), cl e.cls = some C ∧ cls = .ref C ∧ jS X.K cl W0 i a d e (k e) D σ H) hs hf hN hi hl ⟨hg, T.nd, .inl hm⟩ tk hb fun a oe cls d pn hz hfl => ?_) fun D σ H ⟨ρ, env, st, S, E, P⟩ => ?_
  · refine ⟨fun pins s σ H D I ⟨e, C, h1, h2, h3⟩ => ?_⟩
    subst h2
    exact (hsu e C a oe d pn h1 hz hfl).run pins s σ H D I h3
  refine ⟨ρ, env, st, S, E, ?_⟩
  unfold sTryAs at P
  cases hr : f env st with
  | exc e env' st' =>
    rw [hr] at P
    intro ρ' H' σ' c d x' S' E' rx
    obtain ⟨Cy, h1, rfl, h5⟩ := id rx
    simp only at P
    split at P
    · rename_i hlk
      split at P
      · rename_i hlt
        refine ⟨true, ht _ _ hlk _ h1, fun _ a _ => ⟨e, Cy, h1, rfl, ρ', env'.set i none, st', S', E'.hide i _, ⟨List.getElem?_set_self (by rw [E'.len]; exact hlt), ?_⟩, ?_⟩, (fun z => by cases z)⟩
        · rcases h5 with h5 | ⟨dx, vs, h6, h7, h8⟩
          · exact .inl h5
          · exact .inr ⟨dx, vs, h6, S'.noXd h7, h7, h8⟩
        · have P2 := PostS.from S' x' P
          cases hk : k e (env'.set i none) st' with
          | nx e2 s2 =>
            rw [hk] at P2
            exact fun ρ2 H2 σ2 x2 S2 E2 => P2 ρ2 H2 _ x2 S2 (E2.hide i none)
          | brk e2 s2 =>
            rw [hk] at P2
            exact fun ρ2 H2 σ2 x2 S2 E2 => P2 ρ2 H2 _ x2 S2 (E2.hide i none)
          | ct e2 s2 =>
            rw [hk] at P2
            exact fun ρ2 H2 σ2 x2 S2 E2 => P2 ρ2 H2 _ x2 S2 (E2.hide i none)
          | ret u s2 =>
            rw [hk] at P2
            exact P2
          | exc y e2 s2 => rw [hk] at P2; exact P2.elim
          | bad => rw [hk] at P2; exact P2.elim
      · exact P.elim
    · rename_i hlk
      exact ⟨false, ht _ _ hlk _ h1, (fun z => by cases z), fun _ => P ρ' H' σ' (.ref Cy) d x' S' E' rx⟩
    · exact P.elim
  | nx _ _ => rw [hr] at P; exact P
  | brk _ _ => rw [hr] at P; exact P
  | ct _ _ => rw [hr] at P; exact P
  | ret _ _ => rw [hr] at P; exact P
  | bad => rw [hr] at P; exact P.elim
def nmOf : Expr → Option Str
  | .Name y _ => some y
  | _ => none
def hIsi (tab : List (Str × Bool)) (ers : List (Str × List Str)) (x : Exn) : EE := match ers.lookup x.cls with
  | some _ => match tab.lookup x.cls with
    | some b => eC (.bl b)
    | none => eBad
  | none => eBad
def hFld (ers : List (Str × List Str)) (f : Str) (x : Exn) : EE := match ers.lookup x.cls, x.fs.lookup f with
  | some fl, some d => if fl.contains f then eC d else eBad
  | _, _ => eBad
def hotIsi (sc : SC) (nm : Str) (x : Exn) (f : Expr) (args : List Expr) (kw : List Keyword) : EE := match f, args, kw with
  | .Name g _, [.Name a _, .Name c _], [] => if g = "isinstance" ∧ a = nm ∧ isBlt sc g = true ∧ isGl sc c = true then match sc.iss.lookup c with
      | some tab => hIsi tab sc.ers x
      | none => eBad else eBad
  | _, _, _ => eBad
def hotFld (sc : SC) (nm : Str) (x : Exn) (o : Expr) (f : Str) : EE := match o with
  | .Name a _ => if a = nm then hFld sc.ers f x else eBad
  | _ => eBad
/-- an expression of a suite: nm is the caught exception x -/
noncomputable def hotE : Nat → SC → Str → Exn → Expr → EE
  | 0, _, _, _, _ => eBad
  | n + 1, sc, nm, x, e => match e with
    | .Constant c j p => denE 1 sc (.Constant c j p)
    | .Name y p => denE 1 sc (.Name y p)
    | .Call f args kw _ => hotIsi sc nm x f args kw
    | .Attribute o f _ => hotFld sc nm x o f
    | .BoolOp op es _ => match op with
      | .And => andE (es.map fun e => hotE n sc nm x e)
      | _ => eBad
    | .UnaryOp op a _ => match op with
      | .Not => eNot (hotE n sc nm x a)
      | _ => eBad
    | .Tuple es _ _ => if es.all noStar then eTup (listA (fun e => hotE n sc nm x e) es) else eBad
    | .Compare a ops bs _ => match ops, bs with
      | [op], [b] => if noSet b then match cmpOf op with
        | some g => e2 g (hotE n sc nm x a) (hotE n sc nm x b)
        | none => eBad else eBad
      | _, _ => eBad
    | _ => eBad
theorem Fit.tr {sc : SC} {k : Nat} {cl : Str → Option Addr} {X : Cx} (F : Fit sc k cl X) (pn : List (Addr × Obj)) (xe : Value → Shared → Prop) : Fit sc k cl (X.tr pn xe) :=
  ⟨F.N, F.nd, F.sco, F.fn, F.calm, F.room, F.gd, F.kind, F.fns, F.cst, F.blt, F.exs, F.trs, F.iss, F.ers, F.dct⟩
def isLoc (sc : SC) (x : Str) : Bool := (match sc.scope.names.lookup x with
  | some .local => true
  | _ => false) && !dunder x
noncomputable def denS : Nat → SC → Stmt → SS
  | 0, _, _ => sBad
  | n + 1, sc, s => match s with
    | .Assign ts e p => match ts with
      | [.Name x px] => match locI sc x with
        | some i => if setOk sc e x px then sSet i (denE n sc e) else sBad
        | none => sBad
      | [.Tuple es kk pt] => if noTuple e && noComp e then match tgOf sc (.Tuple es kk pt) with
        | some t => sTg t (denE n sc e)
        | none => sBad else sBad
      | [.Subscript o i _] => match i with
        | .Tuple es _ _ => if es.all noStar && noComp e then sDPutT (denE n sc e) (denE n sc o) (listA (fun e => denE n sc e) es) else sBad
        | i => if noSlice i && noComp e then sPutIx (denE n sc e) (denE n sc o) (denE n sc i) else sBad
      | _ => sBad
    | .Expr e _ => if noComp e then sExpr (denE n sc e) else sBad
    | .Return e _ => match e with
      | some e => sRet (denE n sc e)
      | none => sRetN
    | .If c a b _ => sIf (denT n sc c) (seqs (a.map fun s => denS n sc s)) (seqs (b.map fun s => denS n sc s))
    | .While c a b _ => match b with
      | [] => sWhile (denT n sc c) (seqs (a.map fun s => denS n sc s))
      | _ => sBad
    | .For tg it a b _ => match b with
      | [] => if noSet it then match tgOf sc tg with
        | some t => sFor (denW n sc it) t (seqs (a.map fun s => denS n sc s))
        | none => sBad else sBad
      | _ => sBad
    | .Try body hs orelse fin _ => match hs, orelse, fin with
      | [.ExceptHandler (some (.Name x _)) none [.Return (some (.Constant c j pc)) _] _], [], [] => if isGl sc x then match sc.trs.lookup x with
        | some tab => sTry1 tab (seqs (body.map fun s => denS n sc s)) (seqs [sRet (denE n sc (.Constant c j pc))])
        | none => sBad else sBad
      | [.ExceptHandler (some (.Name x _)) (some nm) [.Return (some e) _] _], [], [] => if isGl sc x && isLoc sc nm then match sc.trs.lookup x, posOf sc.N nm with
        | some tab, some i => sTryAs tab i (seqs (body.map fun s => denS n sc s)) (fun ex => seqs [sRet (hotE n sc nm ex e)])
        | _, _ => sBad else sBad
      | _, _, _ => sBad
    | .Raise e c _ => match e, c with
      | some (.Call (.Name x _) [.Constant (.str _) _ _] [] _), none => if isGl sc x && sc.exs.contains x then sRaise x else sBad
      | _, _ => sBad
    | .Pass _ => sNil
    | .Break _ => sBrk
    | .Continue _ => sCt
    | _ => sBad
section
variable {X : Cx} {cl : Str → Option Addr} {W : WX} {k : Nat} {sc : SC}
theorem seqs_ok {f : Stmt → SS} (h : ∀ s, PS X s (tS X.K cl W (f s))) : ∀ {ss : List Stmt}, PSs X ss (tS X.K cl W (seqs (ss.map f)))
  | [] => ds_nil
  | s :: ss => ds_cons (h s) (seqs_ok h)
theorem stores_sub (o i : Expr) (p : Pos) (e : Expr) (env : Env) : swappedStores [.Subscript o i p] e env = pure none := by
  cases e <;> rfl
theorem sole_plain {e t : Expr} {l : Nat} {env : Env} (h : noComp e = true) : swapsWithSole [t] e l env = pure false := by
  unfold swapsWithSole; exact swaps_plain h
theorem swaps_comp (F : Fit sc k cl X) {elt : Expr} {gs : List Comprehension} {scope : Scope} {p px : Pos} {x : Str} {l : Nat} {b : Bool} (h : swB sc (.ListComp elt gs scope p) x px = b) :
    swapsWith (.ListComp elt gs scope p) (some (.Name x px)) l X.env = pure b := by
  have hk : X.env.scope.kind = .function := by rw [F.sco]; exact F.kind
  have hb : X.env.blockKind = .function := by unfold Env.blockKind; rw [hk]; rfl
  have ky : X.env.kindOf x = sc.scope.names.lookup x := by rw [← F.sco]; rfl
  subst h
  unfold swapsWith swB
  simp only [hb, ky, Expr.pos]
  cases sc.scope.names.lookup x with
  | none => rfl
  | some kk => cases kk <;> rfl
theorem const_ok {cl : Str → Option Addr} {X : Cx} {W : WX} (n : Nat) (sc : SC) {c : Const} {j : Nat} {p : Pos} : PE X (.Constant c j p) (tF X.K cl W (denE n sc (.Constant c j p))) := by
  cases n with
  | zero => simp only [denE]; exact bad_e
  | succ n =>
    simp only [denE]
    cases c with
    | none => exact de_c pe_non fun _ _ => rfl
    | bool b => exact de_c pe_bl fun _ _ => rfl
    | int i => exact de_c pe_int fun _ _ => rfl
    | str s => exact de_c pe_str fun _ _ => congrArg V.str (str_eta s).symm
    | _ => exact bad_e
theorem name_hot {sc : SC} {k : Nat} {cl : Str → Option Addr} {X : Cx} {W : WX} (F : Fit sc k cl X) {a : Addr} {pn : List (Addr × Obj)} {y : Str} {p : Pos} : PE (X.suite a pn) (.Name y p) (tF X.K cl W (denE 1 sc (.Name y p))) := by
  simp only [denE]
  split
  · rename_i i hi
    obtain ⟨q1, q2, q3, q4⟩ := F.vis hi
    exact de_var (X := X.suite a pn) (pe_var (X := X.suite a pn) q1 q2 q3 q4)
  · split
    · rename_i hg
      simp only [Bool.and_eq_true] at hg
      split
      · rename_i d hd
        obtain ⟨v, u, h1, h2, h3⟩ := F.cst _ d hd
        have hdb : (y == ("__debug__" : Str)) = false := by
          have : dunder y = false := by simpa using hg.2
          simp only [dunder, Bool.or_eq_false_iff] at this
          exact this.1
        exact de_c (X := X.suite a pn) (pe_glob (X := X.suite a pn) (F.gl hg.1) h1 h2 hdb) h3
      · exact bad_e
    · exact bad_e
theorem isLoc_ok {sc : SC} {k : Nat} {cl : Str → Option Addr} {X : Cx} (F : Fit sc k cl X) {nm : Str} (h : isLoc sc nm = true) : X.env.scope.names.lookup nm = some .local ∧ (nm == ("__debug__" : Str)) = false ∧ (nm == ("__classdict__" : Str)) = false := by
  unfold isLoc at h
  simp only [Bool.and_eq_true] at h
  have hd : dunder nm = false := by simpa using h.2
  simp only [dunder, Bool.or_eq_false_iff] at hd
  refine ⟨?_, hd⟩
  rw [F.sco]
  have h1 := h.1
  split at h1
  · rename_i e; exact e
  · cases h1
theorem hotE_ok {sc : SC} {k : Nat} {cl : Str → Option Addr} {X : Cx} (F : Fit sc k cl X) {nm : Str} {i : Nat} (hnm : isLoc sc nm = true) (hi : posOf sc.N nm = some i) {x : Exn} {C a : Addr} {oe : Obj} {d : Option Addr} {pn : List (Addr × Obj)} (hc : cl x.cls = some C) (hz : Zc (.ref C) d oe)
    (hf : ∃ vs, oe.data = .fields vs) : ∀ (n : Nat) (e : Expr), PE (X.suite a ((a, oe) :: pn)) e (jF X.K cl W0 i a d x (hotE n sc nm x e))
  | 0, e => by simp only [hotE]; exact dj_bad
  | n + 1, e => by
    have ih : ∀ e, PE (X.suite a ((a, oe) :: pn)) e (jF X.K cl W0 i a d x (hotE n sc nm x e)) := fun e => hotE_ok F hnm hi hc hz hf n e
    obtain ⟨hl, hd1, hd2⟩ := isLoc_ok F hnm
    have hN : X.N[i]? = some nm := by rw [F.N]; exact posOf_ok hi
    cases e with
    | Constant c j p => simp only [hotE]; exact dj_of (const_ok 1 sc)
    | Name y p => simp only [hotE]; exact dj_of (name_hot F)
    | UnaryOp op b p =>
      simp only [hotE]
      cases op with
      | Not => exact dj_not (ih b)
      | _ => exact dj_bad
    | BoolOp op es p =>
      simp only [hotE]
      cases op with
      | And => exact jAnd_ok ih
      | _ => exact dj_bad
    | Tuple es kk p =>
      simp only [hotE]
      split
      · rename_i hs
        exact dj_tup (jList_ok ih hs)
      · exact dj_bad
    | Compare b ops bs p =>
      simp only [hotE]
      split
      · split
        · rename_i hs
          split
          · rename_i g hg
            exact dj_cmp (X := X.suite a ((a, oe) :: pn)) (cmpOf_ok (X := X.suite a ((a, oe) :: pn)) F.u65 hg) (ih _) (ih _) (marks_plain hs)
          · exact dj_bad
        · exact dj_bad
      · exact dj_bad
    | Attribute o f p =>
      simp only [hotE]
      unfold hotFld
      split
      · split
        · rename_i ha
          subst ha
          unfold hFld
          split
          · rename_i fl k' h1 h2
            split
            · rename_i hfl
              obtain ⟨T, hno⟩ := (F.ers _ _ h1).ex C hc
              exact dj_fld T (hno f (by simpa using hfl)) hz hf hN (.inl hl) hd1 hd2 h2
            · exact dj_bad
          · exact dj_bad
        · exact dj_bad
      · exact dj_bad
    | Call g args kw p =>
      simp only [hotE]
      unfold hotIsi
      split
      · split
        · rename_i hcnd
          obtain ⟨rfl, rfl, h3, h4⟩ := hcnd
          split
          rotate_left
          · exact dj_bad
          rename_i tab h1
          unfold hIsi
          split
          · rename_i fl h2
            split
            · rename_i b hb
              obtain ⟨T, _⟩ := (F.ers _ _ h2).ex C hc
              obtain ⟨v, cv, hm, hr, hu, hk⟩ := (F.iss _ _ h1).ex
              obtain ⟨q1, q2, _⟩ := F.bl h3
              refine dj_isi T hz hf hN (.inl hl) hd1 hd2 q1 q2 (c := v) (cv := cv) ?_ hu (hk _ _ hb C hc)
              rcases hm with hm | ⟨hm, hv, hn⟩
              · exact pe_glob (X := X.suite a ((a, oe) :: pn)) (F.gl h4) hm hr (F.iss _ _ h1).nd
              · exact pe_bltn (X := X.suite a ((a, oe) :: pn)) (F.gl h4) hm hv hr hn (F.iss _ _ h1).nd
            · exact dj_bad
          · exact dj_bad
        · exact dj_bad
      · exact dj_bad
    | _ => simp only [hotE]; exact dj_bad
theorem denS_ok {sc : SC} {k : Nat} {cl : Str → Option Addr} {X : Cx} {W : WX} (hp : PassesOwn (model X.prog X.w) X.A X.env X.xe) (F : Fit sc k cl X) (tk : Takes X W) (hst : X.stack = X.env :: X.outer) (hfr : X.env.frame = some X.env.locals) : ∀ (n : Nat) (s : Stmt), PS X s (tS X.K cl W (denS n sc s))
  | 0, s => by simp only [denS]; exact bad_s
  | n + 1, s => by
    obtain ⟨hE, hT, hW⟩ := den_ok k cl n sc X W F tk
    have hS := denS_ok hp F tk hst hfr n
    have hSt := fun (W : WX) (pn : List (Addr × Obj)) (xe : Value → Shared → Prop) (tk : Takes (X.tr pn xe) W) (hp : PassesOwn (model X.prog X.w) X.A X.env xe) => denS_ok (X := X.tr pn xe) hp (F.tr pn xe) tk hst hfr n
    cases s with
    | Assign ts e p =>
      simp only [denS]
      split
      · rename_i x px
        split
        · rename_i i hi
          split
          · rename_i hok
            obtain ⟨q1, q2, q3⟩ := F.loc hi
            have nd : X.N.Nodup := by rw [F.N]; exact F.nd
            have plain : swapsWith e (some (.Name x px)) p.line X.env = pure false → PS X (.Assign [.Name x px] e p) (tS X.K cl W (sSet i (denE n sc e))) := fun hs =>
              PSw (ps_set nd q1 q2 (hE e) hs q3) (w_set fun v σ H Q q => q)
            cases hc : noComp e with
            | true => exact plain (swaps_plain hc)
            | false =>
              cases e with
              | ListComp elt gens scope pc =>
                cases hb : swB sc (.ListComp elt gens scope pc) x px with
                | false => exact plain (swaps_comp F hb)
                | true =>
                  have hsw := swaps_comp (l := p.line) F hb
                  have hyl : sc.scope.names.lookup x = some .local := by
                    simp only [swB, Bool.and_eq_true] at hb
                    have := hb.1.1
                    split at this
                    · assumption
                    · cases this
                  cases n with
                  | zero => exact ⟨fun _ _ _ _ _ _ ⟨_, _, _, _, _, P⟩ => by simp only [denE, sSet, eBad, R.toS_bad] at P; exact P.elim⟩
                  | succ n =>
                    obtain ⟨hE', hT', hW'⟩ := den_ok k cl n sc X W F tk
                    have hB := fun (sc' : SC) (X' : Cx) (F' : Fit sc' k cl X') => den_ok k cl n sc' X' W0 F' takes0
                    have badS : PS X (.Assign [.Name x px] (.ListComp elt gens scope pc) p) (tS X.K cl W (sSet i eBad)) := ⟨fun _ _ _ _ _ _ ⟨_, _, _, _, _, P⟩ => P.elim⟩
                    simp only [denE]
                    split
                    · rename_i tg iter ifs a
                      split
                      · rename_i hc2
                        obtain ⟨rfl, hs⟩ := hc2
                        refine setComp_ok F hi hyl hsw (hW' tg iter hs) (fun g hg s H C c fp hk => ?_) (fun s H C c fp hk => (hB _ _ (F.blk hk s H C c fp)).1 elt) hs
                        match ifs, hg with
                        | [], hg => cases hg; exact dts_nil
                        | [c'], hg => cases hg; exact dts_one ((hB _ _ (F.blk hk s H C c fp)).2.1 c')
                      · exact badS
                    · exact badS
              | _ => first | (simp [noComp] at hc; done) | (simp [setOk, noComp] at hok)
          · exact bad_s
        · exact bad_s
      · rename_i es kk pt
        split
        · rename_i hc
          simp only [Bool.and_eq_true] at hc
          split
          · rename_i t ht
            exact PSw (ps_asg (hE e) (tg_ok F ht) (sole_plain hc.2) (stores_plain hc.1) rfl) w_tg
          · exact bad_s
        · exact bad_s
      · rename_i o i ps
        split
        · split
          · rename_i hc
            simp only [Bool.and_eq_true] at hc
            exact ds_dputT (hu_of F.room) (hE o) (listA_ok hE hc.1) (hE e) (swaps_plain hc.2)
          · exact bad_s
        split
        · rename_i hc
          simp only [Bool.and_eq_true] at hc
          refine PSw (ps_asg (hE e) (pg_sub (hE o) (hE i) set_list ?_) (sole_plain hc.2) (stores_sub _ _ _ _ _) rfl) w_putIx
          intro v
          have := hc.1
          cases i <;> first | rfl | cases this
        · exact bad_s
      · exact bad_s
    | Expr e p =>
      simp only [denS]
      split
      · rename_i hc
        exact ds_expr (hE e) (swaps_plain hc)
      · exact bad_s
    | Return e p =>
      simp only [denS]
      cases e with
      | some e => exact ds_ret (hE e)
      | none => exact ds_retN
    | If c a b p =>
      simp only [denS]
      exact ds_if (hT c) (seqs_ok hS) (seqs_ok hS)
    | While c a b p =>
      simp only [denS]
      cases b with
      | nil => exact ds_while hp (hT c) (seqs_ok hS)
      | cons _ _ => exact bad_s
    | For tg it a b p =>
      simp only [denS]
      cases b with
      | nil =>
        simp only
        split
        · rename_i hs
          split
          · rename_i t ht
            exact ds_for hp F.calm (hW tg it hs) (tg_ok F ht) (seqs_ok hS) (folded_plain hs)
          · exact bad_s
        · exact bad_s
      | cons _ _ => exact bad_s
    | Try body hds orelse fin p =>
      simp only [denS]
      split
      · split
        · rename_i hx
          split
          · rename_i tab ht
            exact ds_try1 hst hfr (F.gl hx) (F.trs _ _ ht) tk (fun W pn xe tk' hp' => seqs_ok (hSt W pn xe tk' hp')) fun a pn => by
              exact ds_cons (ds_ret (const_ok n sc)) ds_nil
          · exact bad_s
        · exact bad_s
      · split
        · rename_i hx
          simp only [Bool.and_eq_true] at hx
          split
          · rename_i tab i ht hi
            exact ds_tryAs hst hfr (by rw [F.N]; exact F.nd) (by rw [F.N]; exact posOf_ok hi) (isLoc_ok F hx.2).1 (F.gl hx.1) (F.trs _ _ ht) tk (fun W pn xe tk' hp' => seqs_ok (hSt W pn xe tk' hp')) fun e C a oe d pn hc hz hf =>
              djs_one (djs_ret (hotE_ok F hx.2 hi hc hz hf n _))
          · exact bad_s
        · exact bad_s
      · exact bad_s
    | Raise e c p =>
      simp only [denS]
      split
      · rename_i x px m j pm pk
        split
        · rename_i hx
          simp only [Bool.and_eq_true] at hx
          exact ds_raise F hx.1 (F.exs x (by simpa using hx.2)) tk
        · exact bad_s
      · exact bad_s
    | Pass p => simp only [denS]; exact ds_pass
    | Break p => simp only [denS]; exact ds_brk
    | Continue p => simp only [denS]; exact ds_ct
    | _ => simp only [denS]; exact bad_s
end
noncomputable def denSs (n : Nat) (sc : SC) (ss : List Stmt) : SS := seqs (ss.map fun s => denS n sc s)
/-! ### a def by its denotation -/
/-- what is static about a def's body -/
def scOf (N : List Str) (scope : Scope) (fns : List (Str × FnI)) (cst : List (Str × D)) (blt : List Str) : SC := ⟨N, scope, fun _ => true, fns, cst, blt, [], [], [], [], []⟩
/-- with classes of exceptions -/
def scOfX (N : List Str) (scope : Scope) (fns : List (Str × FnI)) (cst : List (Str × D)) (blt exs : List Str) (trs : List (Str × List (Str × Bool))) : SC := ⟨N, scope, fun _ => true, fns, cst, blt, exs, trs, [], [], []⟩
/-- and what isinstance names, and which fields are read -/
def scOfI (N : List Str) (scope : Scope) (fns : List (Str × FnI)) (cst : List (Str × D)) (blt exs : List Str) (trs iss : List (Str × List (Str × Bool))) (ers : List (Str × List Str)) : SC := ⟨N, scope, fun _ => true, fns, cst, blt, exs, trs, iss, ers, []⟩
/-- and which dicts are written -/
def scOfD (N : List Str) (scope : Scope) (fns : List (Str × FnI)) (cst : List (Str × D)) (blt : List Str) (dct : List (Str × Tab)) : SC := ⟨N, scope, fun _ => true, fns, cst, blt, [], [], [], [], dct⟩
def FnFacts (P : Program) (w : World) (K : PySem.W.Frag) (mg : Str → Option Value) (base : Heap) (cl : Str → Option Addr) (k : Nat) : List (Str × FnI) → Prop
  | [] => True
  | (x, i) :: r => FnFact P w K mg base cl k x i ∧ FnFacts P w K mg base cl k r
theorem FnFacts.look {P : Program} {w : World} {K : PySem.W.Frag} {mg : Str → Option Value} {base : Heap} {cl : Str → Option Addr} {k : Nat} : ∀ {l : List (Str × FnI)}, FnFacts P w K mg base cl k l → ∀ x i, l.lookup x = some i → FnFact P w K mg base cl k x i
  | [], _, x, i, h => by cases h
  | (y, j) :: r, hf, x, i, h => by
    rw [List.lookup_cons] at h
    split at h
    · rename_i e
      cases h
      have e : x = y := by simpa using e
      subst e
      exact hf.1
    · exact hf.2.look x i h
/-- the names that the text leaves to the built-ins -/
def BltFacts (mg : Str → Option Value) : List Str → Prop
  | [] => True
  | x :: r => (mg x = none ∧ x ≠ "__name__" ∧ (x == ("__debug__" : Str)) = false) ∧ BltFacts mg r
theorem BltFacts.look {mg : Str → Option Value} : ∀ {l : List Str}, BltFacts mg l → ∀ x, x ∈ l → mg x = none ∧ x ≠ "__name__" ∧ (x == ("__debug__" : Str)) = false
  | [], _, x, h => by cases h
  | y :: r, hf, x, h => by
    rcases List.mem_cons.mp h with rfl | h
    · exact hf.1
    · exact hf.2.look x h
def CstFacts (K : PySem.W.Frag) (mg : Str → Option Value) : List (Str × D) → Prop
  | [] => True
  | (x, d) :: r => (∃ v u, mg x = some u ∧ RelV v u ∧ ∀ ρ H, RD K ρ H d v) ∧ CstFacts K mg r
theorem CstFacts.look {K : PySem.W.Frag} {mg : Str → Option Value} : ∀ {l : List (Str × D)}, CstFacts K mg l → ∀ x d, l.lookup x = some d → ∃ v u, mg x = some u ∧ RelV v u ∧ ∀ ρ H, RD K ρ H d v
  | [], _, x, d, h => by cases h
  | (y, e) :: r, hf, x, d, h => by
    rw [List.lookup_cons] at h
    split at h
    · rename_i q
      cases h
      have q : x = y := by simpa using q
      subst q
      exact hf.1
    · exact hf.2.look x d h
section
variable {P : Program} {w : World} {K : PySem.W.Frag} {mg : Str → Option Value} {base : Heap}
theorem fn_by {cl : Str → Option Addr} {k n : Nat} {f : Addr} {x qual : Str} {st : Stmt} {fd : FuncData} {N ps : List Str} {fns : List (Str × FnI)} {cst : List (Str × D)} {blt : List Str} {g : SS} (F : Fun K x qual st f fd) (sco : FnScope N ps (defScope st))
    (hf : FnFacts P w K mg base cl k fns) (hc : CstFacts K mg cst) (hb : BltFacts mg blt) (hg : denSs n (scOf N (defScope st) fns cst blt) (defBody st) = g) : FnG P w K mg base (k + 1) f fd ps (spD K cl ps.length (callB N.length g)) := by
  subst hg
  refine fn_den F sco fun cdv A fr z H E hgd hr => ?_
  have fit : Fit (scOf N (defScope st) fns cst blt) k cl (cxOf (L2.CX P w) P w K mg base N qual (defScope st) f cdv A fr z H E) :=
    ⟨rfl, sco.nd, rfl, rfl, rfl, hr, hgd, sco.kind, hf.look, hc.look, hb.look, (fun _ h => by cases h), (fun _ _ h => by cases h), (fun _ _ h => by cases h), (fun _ _ h => by cases h), fun _ _ h => by cases h⟩
  exact seqs_ok fun s => denS_ok (passes_of rfl) fit (takes_of rfl rfl rfl rfl) rfl rfl n s
end
/-! ### the end of a law -/
theorem lawG {P : Program} {w : World} {K : PySem.W.Frag} {mg mb : Str → Option Value} {k : Nat} {fa a : Addr} {fd : FuncData} {x : Str} {c : List D → Store → R RV} {cl : Str → Option Addr} {z : Shared} {vs : List Value} {ns : List Int}
    (hK : K.In z.heap) (hns : z.heap.Ns mainGlobals mg) (hmb : z.heap.Ns builtinsNs mb) (hbb : ∀ x : Str, x ≠ "__name__" → mb x = bootBuiltins x) (hlim : z.heap.NoLimit) (hgens : z.gens = #[])
    (hat : z.heap.get? a = some { cls := .type "list", data := .seq vs.toArray }) (hi : IntsAre vs ns) (hl : ns.length ≤ sizeLine) (hr : Room k callerA)
    (F : ∀ base : Heap, K.In base → base.Ns mainGlobals mg → FnG P w K mg base k fa fd [x] (spD K cl 1 c)) (hbind : ∀ (s : Shared) (u : Value), BindsTo s fd ⟨[u], []⟩ [(x, u)])
    (hc : ∃ st', c [.rol (ns.map .int)] [] = .ok (.v (.bl true)) st') :
    codeAny (model P w) callerA (.call (.ref fa) ⟨[.ref a], []⟩) (fun r s' => r = .ok (.ret (.bool true)) ∧ OldK z.heap s'.heap ∧ s'.os = z.os ∧ AllBare s'.gens) z := by
  have hv := vals_ints hi
  have hvl := hi.length
  have intsR : ∀ (ns : List Int) (ρ : List Addr) (H : Hp), RDs K ρ H (ns.map .int) (ns.map V.int) := by
    intro ns ρ H
    induction ns with
    | nil => rfl
    | cons n r ih => exact ⟨.int n, _, rfl, rfl, ih⟩
  have main : ∀ H : Hp, Only H → RoL K H a (ns.map V.int) → HOk P w H z.heap → (∀ b, H b ≠ none → b = a) → (H a ≠ none → K.lookup a = none) →
      codeAny (model P w) callerA (.call (.ref fa) ⟨[.ref a], []⟩) (fun r s' => r = .ok (.ret (.bool true)) ∧ OldK z.heap s'.heap ∧ s'.os = z.os ∧ AllBare s'.gens) z := by
    intro H only rol hok honly hfree
    have keepB : ∀ {b : Addr} {o : Obj}, z.heap.get? b = some o → H b = none → (hidT z.heap H).get? b = some o := fun e n => hidT_get e n
    have dictFree : ∀ {b : Addr} {o : Obj} {es : Array DictEntry} {ep : Nat}, z.heap.get? b = some o → o.data = .dict es ep → H b = none := by
      intro b o es ep e d
      cases q : H b with
      | none => rfl
      | some u =>
        obtain rfl : b = a := honly b (by rw [q]; simp)
        rw [hat] at e; cases e
        cases (show Data.seq vs.toArray _ = Data.dict es ep from d)
    have nsB : ∀ {b : Addr} {m : Str → Option Value}, z.heap.Ns b m → (hidT z.heap H).Ns b m := fun {b m} ⟨o, es, ep, e, d, r⟩ => ⟨o, es, ep, keepB e (dictFree e d), d, r⟩
    have kB : K.In (hidT z.heap H) := by
      intro b o e
      refine keepB (hK b o e) ?_
      cases q : H b with
      | none => rfl
      | some u =>
        obtain rfl : b = a := honly b (by rw [q]; simp)
        rw [hfree (by rw [q]; simp)] at e; cases e
    have modB : Mod K mg (hidT z.heap H) := ⟨kB, nsB hns, ⟨mb, nsB hmb, hbb⟩, hlim.elim fun mc h => ⟨mc, nsB h.1, h.2⟩⟩
    have noFr : ∀ b : Addr, b ∉ frs [] := fun b h => by cases h
    have ent : Env0 P w K mg (hidT z.heap H) callerA [] z H := ⟨rfl, modB, fun b o e => of_hidT e, Nat.le_of_eq (hidT_size _ _), trivial, fun b hb => absurd hb (noFr b), hok, .of_eq hgens⟩
    obtain ⟨st', hst⟩ := hc
    have prom : spD K cl 1 c [.ref a] H (fun v _ => v = .bl true) fun _ _ _ => False := by
      refine ⟨[], [], [.rol (ns.map .int)], ⟨rfl, List.nodup_nil, fun n c a h => by simp at h⟩, ⟨.ref a, [], rfl, ⟨a, ns.map V.int, rfl, rol, intsR ns _ _⟩, rfl⟩, rfl, ?_⟩
      rw [hst]
      exact fun ρ' H' v x S r => r
    refine codeAny_mono ((F _ kB (nsB hns)).go callerA [] z H ⟨[.ref a], []⟩ [.ref a] [.ref a] _ _ rfl hr ent (hbind z (.ref a)) (.cons rfl .nil) prom) fun r s' h => ?_
    match r, h with
    | .error e, ⟨_, _, _, _, _, _, _, _, _, _, _, _, q⟩ => exact q.elim
    | .ok (.ret u), ⟨v, H', os, bare, un, hok', r', q⟩ =>
      have q : v = .bl true := q
      subst q
      obtain rfl : u = Value.bool true := r'
      refine ⟨rfl, OldK.of_keep fun b o e => ?_, os, bare⟩
      cases q : H b with
      | none => exact un.keep b o e q (noFr b) (by simp)
      | some u =>
        rcases only b with y | ⟨ob, xs, y⟩
        · rw [q] at y; cases y
        · obtain ⟨e1, _⟩ := hok b _ y
          obtain ⟨e2, _⟩ := hok' b _ (un.frzs b ob _ y)
          rw [e] at e1; cases e1
          exact e2
  cases hka : K.lookup a with
  | some o =>
    have e := hK a o hka
    rw [hat] at e
    cases e
    exact main (fun _ => none) (fun _ => .inl rfl) (.inr ⟨_, vs.toArray, _, hka, rfl, rfl, rfl, by rw [List.size_toArray, hvl]; exact hl, by simpa using hv⟩) (fun b u y => by cases (show (none : Option HO) = some u from y)) (fun b y => absurd rfl y) fun y => absurd rfl y
  | none =>
    let H0 : Hp := fun b => if b = a then some (.frz { cls := .type "list", data := .seq vs.toArray } (.lst (ns.map V.int))) else none
    have at0 : H0 a = some (.frz { cls := .type "list", data := .seq vs.toArray } (.lst (ns.map V.int))) := if_pos rfl
    have ne0 : ∀ b, b ≠ a → H0 b = none := fun b h => if_neg h
    refine main H0 (fun b => ?_) (.inl ⟨_, at0⟩) (fun b u y => ?_) (fun b y => ?_) fun _ => hka
    · by_cases h : b = a
      · subst h; exact .inr ⟨_, _, at0⟩
      · exact .inl (ne0 b h)
    · by_cases h : b = a
      · subst h
        rw [at0] at y; cases y
        exact ⟨hat, by rw [List.length_map]; exact hl, vs, _, hv, hat⟩
      · rw [ne0 b h] at y; cases y
    · by_cases h : b = a
      · exact h
      · exact absurd (ne0 b h) y
theorem walkG {l : PySem.W.OpenLaw} {n k : Nat} {q : Program} {loose : List Str} {XP : (Str → Option Value) → Heap → Prop} {YP : World → Heap → Prop} {d : DefRec} {K : Params → PySem.W.Frag} {cl : (Str → Option Value) → Str → Option Addr} {x : Str} {c : List D → Store → R RV}
    (hn : l.most = some n) (hn2 : n ≤ sizeLine) (hdf : d.params.defaults = []) (hr : Room k callerA) (hY : ∀ (w : World) (h : Heap), YP w h → (K w.params).In h)
    (F : ∀ (w : World) (mg : Str → Option Value) (fa : Addr) (h : Heap), (K w.params).In h → h.Ns mainGlobals mg → mg d.name = some (.ref fa) →
      ∃ fd : FuncData, (∀ (s : Shared) (u : Value), BindsTo s fd ⟨[u], []⟩ [(x, u)]) ∧ ∀ base : Heap, (K w.params).In base → base.Ns mainGlobals mg → FnG l.prog w (K w.params) mg base k fa fd [x] (spD (K w.params) (cl mg) 1 c))
    (hc : ∀ ns : List Int, ns.length ≤ n → ∃ st', c [.rol (ns.map .int)] [] = .ok (.v (.bl true)) st') : PySem.W.WalkO q loose XP YP l.row.toRowW d [] (fun f vs => PySem.call f vs) := by
  refine Att.attach_call hn hdf fun w s₀ s₁ mg mb fa o pm cd doc a vs ns G Y ho hd hcd hmg hobj hints hlen hg => ?_
  obtain ⟨fd, hb, hF⟩ := F w mg fa _ (hY w _ Y) G.T.g hmg
  exact lawG (hY w _ Y) G.T.g G.T.b G.T.builtins G.T.nolimit hg hobj hints (Nat.le_trans hlen hn2) hr hF hb (hc ns hlen)
end Ev

/-! ## Ev13 -/
set_option Elab.async false
set_option linter.all false
set_option maxRecDepth 100000
/-! Ev13: reasoning about denotations. -/
namespace Ev
open PySem

/-! ### expressions -/
def Wp {α : Type} (r : R α) (Q : α → Store → Prop) : Prop := match r with
  | .ok a st => Q a st
  | _ => False
@[simp] theorem Wp_ok {α : Type} (a : α) (st : Store) (Q : α → Store → Prop) : Wp (.ok a st) Q = Q a st := .trans rfl rfl
@[simp] theorem Wp_bad {α : Type} (Q : α → Store → Prop) : Wp (.bad : R α) Q = False := .trans rfl rfl
theorem Wp_bind {α β : Type} (r : R α) (f : α → Store → R β) (Q : β → Store → Prop) : Wp (r.bind f) Q = Wp r fun a st => Wp (f a st) Q := by
  cases r <;> rfl
theorem Wp_bindN {α β : Type} (r : R α) (f : α → Store → R β) (Q : β → Store → Prop) : Wp (r.bindN f) Q = Wp r fun a st => Wp (f a st) Q := by
  cases r <;> rfl
theorem Wp.mono {α : Type} {r : R α} {Q Q' : α → Store → Prop} (h : Wp r Q) (k : ∀ a st, Q a st → Q' a st) : Wp r Q' := by
  cases r with
  | ok a st => exact k a st h
  | _ => exact h
theorem Wp.out {α : Type} {r : R α} {Q : α → Store → Prop} (h : Wp r Q) : ∃ a st, r = .ok a st ∧ Q a st := by
  cases r with
  | ok a st => exact ⟨a, st, rfl, h⟩
  | _ => exact h.elim
theorem Wp.of {α : Type} {r : R α} {Q : α → Store → Prop} {a : α} {st : Store} (h : r = .ok a st) (q : Q a st) : Wp r Q := by rw [h]; exact q
theorem Wp_lift (o : Option RV) (st : Store) (Q : RV → Store → Prop) : Wp (lift o st) Q = match o with
    | some c => Q c st
    | none => False := by cases o <;> rfl
/-! ### statements -/
structure Es where
  nx : SEnv → Store → Prop
  bk : SEnv → Store → Prop
  ct : SEnv → Store → Prop
  rt : RV → Store → Prop
def WpS (r : SR) (T : Es) : Prop := match r with
  | .nx env st => T.nx env st
  | .brk env st => T.bk env st
  | .ct env st => T.ct env st
  | .ret a st => T.rt a st
  | _ => False
@[simp] theorem WpS_nx (env : SEnv) (st : Store) (T : Es) : WpS (.nx env st) T = T.nx env st := .trans rfl rfl
@[simp] theorem WpS_brk (env : SEnv) (st : Store) (T : Es) : WpS (.brk env st) T = T.bk env st := .trans rfl rfl
@[simp] theorem WpS_ct (env : SEnv) (st : Store) (T : Es) : WpS (.ct env st) T = T.ct env st := .trans rfl rfl
@[simp] theorem WpS_ret (a : RV) (st : Store) (T : Es) : WpS (.ret a st) T = T.rt a st := .trans rfl rfl
@[simp] theorem WpS_bad (T : Es) : WpS .bad T = False := .trans rfl rfl
theorem WpS.mono {r : SR} {T T' : Es} (h : WpS r T) (n : ∀ e s, T.nx e s → T'.nx e s) (b : ∀ e s, T.bk e s → T'.bk e s) (c : ∀ e s, T.ct e s → T'.ct e s) (t : ∀ a s, T.rt a s → T'.rt a s) : WpS r T' := by
  cases r with
  | nx e s => exact n e s h
  | brk e s => exact b e s h
  | ct e s => exact c e s h
  | ret e s => exact t e s h
  | _ => exact h
theorem WpS_toS {α : Type} (r : R α) (env : SEnv) (k : α → Store → SR) (T : Es) : WpS (r.toS env k) T = Wp r fun a st => WpS (k a st) T := by
  cases r <;> rfl
theorem WpS_seq (r : SR) (k : SEnv → Store → SR) (T : Es) : WpS (r.seq k) T = WpS r { T with nx := fun e s => WpS (k e s) T } := by
  cases r <;> rfl
theorem WpS_loop (r : SR) (k : SEnv → Store → SR) (T : Es) : WpS (r.loop k) T = WpS r ⟨fun e s => WpS (k e s) T, T.nx, fun e s => WpS (k e s) T, T.rt⟩ := by
  cases r <;> rfl
/-- a while by a measure -/
theorem wp_while {g : SEnv → Store → R Bool} {f : SS} {T : Es} (I : Nat → SEnv → Store → Prop) {m : Nat} {env : SEnv} {st : Store} (hm : m < fuel) (h0 : I m env st)
    (step : ∀ (m : Nat) (env : SEnv) (st : Store), I m env st → Wp (g env st) fun c st1 => if c = true then WpS (f env st1) ⟨fun e s => ∃ m', m' < m ∧ I m' e s, T.nx, fun e s => ∃ m', m' < m ∧ I m' e s, T.rt⟩ else T.nx env st1) : WpS (sWhile g f env st) T := by
  have main : ∀ (k m : Nat) (env : SEnv) (st : Store), m < k → I m env st → WpS (whileF g f k env st) T := by
    intro k
    induction k with
    | zero => intro m env st h; exact absurd h (Nat.not_lt_zero _)
    | succ k ih =>
      intro m env st h i
      simp only [whileF, WpS_toS]
      refine (step m env st i).mono fun c st1 q => ?_
      cases c with
      | false => simpa using q
      | true =>
        simp only [if_true, WpS_loop] at q ⊢
        exact q.mono (fun e s ⟨m', h1, h2⟩ => ih m' e s (by omega) h2) (fun _ _ q => q) (fun e s ⟨m', h1, h2⟩ => ih m' e s (by omega) h2) fun _ _ q => q
  exact main fuel m env st hm h0
/-- a for by what holds with the rest still to come -/
theorem wp_forL {gd : Store → Prop} {t : Tg} {f : SS} {T : Es} (I : List D → SEnv → Store → Prop) {ds : List D} {env : SEnv} {st : Store} (h0 : I ds env st)
    (step : ∀ (d : D) (ds : List D) (env : SEnv) (st : Store), I (d :: ds) env st → ∃ env1, t.put d env = some env1 ∧ WpS (f env1 st) ⟨fun e s => gd s ∧ I ds e s, T.nx, fun e s => gd s ∧ I ds e s, T.rt⟩)
    (fin : ∀ (env : SEnv) (st : Store), I [] env st → T.nx env st) : WpS (forL gd t f ds env st) T := by
  induction ds generalizing env st with
  | nil => exact fin env st h0
  | cons d ds ih =>
    obtain ⟨env1, h1, h2⟩ := step d ds env st h0
    simp only [forL, h1, WpS_loop]
    refine h2.mono ?_ (fun _ _ q => q) ?_ fun _ _ q => q
    · rintro e s ⟨g, i⟩
      dsimp only
      rw [if_pos g]
      exact ih i
    · rintro e s ⟨g, i⟩
      dsimp only
      rw [if_pos g]
      exact ih i
theorem wp_for {w : SEnv → Store → R Walk} {t : Tg} {f : SS} {T : Es} {env : SEnv} {st : Store} (h : Wp (w env st) fun k st1 => WpS (forL k.gd t f k.l env st1) T) : WpS (sFor w t f env st) T := by
  simp only [sFor, WpS_toS]; exact h
/-- a comprehension by what holds with the rest still to come -/
theorem wp_compL {gd : Store → Prop} {t : Tg} {tt : SEnv → Store → R Bool} {fe : SEnv → Store → R RV} {env : SEnv} (I : List D → List D → Store → Prop) {Q : List D → Store → Prop} {ds acc : List D} {st : Store} (h0 : I ds acc st)
    (step : ∀ (d : D) (ds acc : List D) (st : Store), I (d :: ds) acc st → ∃ env1, t.put d env = some env1 ∧ Wp (tt env1 st) fun c st1 => if c = true then Wp (fe env1 st1) fun a st2 => Wp (mat a st2) fun d' st3 => gd st3 ∧ I ds (acc ++ [d']) st3 else gd st1 ∧ I ds acc st1)
    (fin : ∀ (r acc : List D) (st : Store), I [] (acc ++ r) st → Q r st) : Wp (compL gd t tt fe env ds st) fun r s => I [] (acc ++ r) s := by
  induction ds generalizing acc st with
  | nil => simpa [compL] using h0
  | cons d ds ih =>
    obtain ⟨env1, h1, h2⟩ := step d ds acc st h0
    simp only [compL, h1, Wp_bindN]
    refine h2.mono fun c st1 q => ?_
    cases c with
    | false =>
      simp only [Bool.false_eq_true, if_false] at q ⊢
      rw [if_pos q.1]
      exact ih q.2
    | true =>
      simp only [if_true, Wp_bindN, Wp_bind] at q ⊢
      refine q.mono fun a st2 q => q.mono fun d' st3 q => ?_
      rw [if_pos q.1]
      simp only [Wp_bind]
      refine (ih q.2).mono fun r s q => ?_
      simpa using q
theorem wp_comp {gd : Store → Prop} {t : Tg} {tt : SEnv → Store → R Bool} {fe : SEnv → Store → R RV} {env : SEnv} (I : List D → List D → Store → Prop) {Q : List D → Store → Prop} {ds : List D} {st : Store} (h0 : I ds [] st)
    (step : ∀ (d : D) (ds acc : List D) (st : Store), I (d :: ds) acc st → ∃ env1, t.put d env = some env1 ∧ Wp (tt env1 st) fun c st1 => if c = true then Wp (fe env1 st1) fun a st2 => Wp (mat a st2) fun d' st3 => gd st3 ∧ I ds (acc ++ [d']) st3 else gd st1 ∧ I ds acc st1)
    (fin : ∀ (acc : List D) (st : Store), I [] acc st → Q acc st) : Wp (compL gd t tt fe env ds st) Q :=
  (wp_compL (Q := fun _ _ => True) I h0 step fun _ _ _ _ => trivial).mono fun r s q => fin r s (by simpa using q)
/-- a comprehension whose items are reckoned from the items alone -/
theorem comp_map {gd : Store → Prop} {t : Tg} {fe : SEnv → Store → R RV} {env : SEnv} {st : Store} {F : D → D} : ∀ {ds : List D} (hg : gd st) (h : ∀ d ∈ ds, ∃ env1, t.put d env = some env1 ∧ fe env1 st = .ok (.v (F d)) st), compL gd t ttYes fe env ds st = .ok (ds.map F) st
  | [], _, _ => rfl
  | d :: ds, hg, h => by
    obtain ⟨env1, h1, h2⟩ := h d (List.mem_cons_self ..)
    have ih := comp_map (ds := ds) hg fun d hd => h d (List.mem_cons_of_mem _ hd)
    simp only [compL, h1, ttYes, R.bindN, if_true, h2, mat_v, R.bind_ok, if_pos hg, ih, List.map_cons]
theorem comp_filter {gd : Store → Prop} {t : Tg} {tt : SEnv → Store → R Bool} {fe : SEnv → Store → R RV} {env : SEnv} {st : Store} {F : D → D} {p : D → Bool} : ∀ {ds : List D} (hg : gd st)
    (h : ∀ d ∈ ds, ∃ env1, t.put d env = some env1 ∧ tt env1 st = .ok (p d) st ∧ (p d = true → fe env1 st = .ok (.v (F d)) st)), compL gd t tt fe env ds st = .ok ((ds.filter p).map F) st
  | [], _, _ => rfl
  | d :: ds, hg, h => by
    obtain ⟨env1, h1, h2, h3⟩ := h d (List.mem_cons_self ..)
    have ih := comp_filter (ds := ds) hg fun d hd => h d (List.mem_cons_of_mem _ hd)
    cases hp : p d with
    | false => simp only [compL, h1, h2, R.bindN, hp, Bool.false_eq_true, if_false, if_pos hg, ih, List.filter_cons]
    | true => simp only [compL, h1, h2, R.bindN, hp, if_true, h3 hp, mat_v, R.bind_ok, if_pos hg, ih, List.filter_cons, List.map_cons]
/-! ### calls -/
/-- a body that ends: by a value, or at its end with None -/
def WpR (r : SR) (Q : RV → Store → Prop) : Prop := WpS r ⟨fun _ st => Q (.v .non) st, fun _ _ => False, fun _ _ => False, Q⟩
theorem WpR.out {r : SR} {Q : RV → Store → Prop} (h : WpR r Q) : ∃ a st, r.toR = .ok a st ∧ Q a st := by
  cases r with
  | nx e s => exact ⟨_, _, rfl, h⟩
  | ret a s => exact ⟨_, _, rfl, h⟩
  | _ => exact h.elim
theorem Keeps.refl (st : Store) : Keeps st st := fun i c _ h => .inl h
theorem leave_ok {st st0 more : Store} {a a' : RV} (hl : st0.length = st.length) (hk : ∀ (i : Nat) (c : Cell), st0[i]? = some c → st[i]? = some c ∨ Cell.low st.length c = true) (ho : outV st.length (st0 ++ more) a = some a') :
    leave st (.ok a (st0 ++ more)) = .ok a' st0 := by
  have hK : Keeps st (st0 ++ more) := by
    intro i c hi h
    rw [List.getElem?_append_left (by omega)] at h
    exact hk i c h
  simp only [leave, ho, if_pos hK]
  rw [← hl, List.take_left]
theorem wp_call {n : Nat} {g : SS} {ds : List D} {st : Store} {Q : RV → Store → Prop}
    (h : WpR (g (startE n ds) st) fun a st' => ∃ st0 more a', st' = st0 ++ more ∧ st0.length = st.length ∧ (∀ (i : Nat) (c : Cell), st0[i]? = some c → st[i]? = some c ∨ Cell.low st.length c = true) ∧ outV st.length st' a = some a' ∧ Q a' st0) : Wp (callB n g ds st) Q := by
  obtain ⟨a, st', h1, st0, more, a', rfl, h3, h4, h5, h6⟩ := h.out
  refine Wp.of (a := a') (st := st0) ?_ h6
  simp only [callB, h1]
  exact leave_ok h3 h4 h5
/-- a call that leaves the cells alone and gives pure data -/
theorem call_pure {n : Nat} {g : SS} {ds : List D} {st : Store} {d : D} (h : WpR (g (startE n ds) st) fun a st' => a = .v d ∧ ∃ more, st' = st ++ more) (hd : D.pure d = true) : callB n g ds st = .ok (.v d) st := by
  obtain ⟨a, st', h1, rfl, more, rfl⟩ := h.out
  simp only [callB, h1]
  refine leave_ok rfl (fun i c h => .inl h) ?_
  cases d with
  | ref m => simp [D.pure] at hd
  | _ => simp only [outV]; rw [if_pos (D.low_of_pure _ _ hd)]
/-- a call that leaves the cells alone and gives a new list of pure data -/
theorem call_list {n : Nat} {g : SS} {ds : List D} {st : Store} {l : List D} (h : WpR (g (startE n ds) st) fun a st' => (∃ more, st' = st ++ more) ∧ (a = .t l ∨ ∃ m, a = .v (.ref m) ∧ st.length ≤ m ∧ st'[m]? = some (.lst l))) (hd : D.pures l = true) : callB n g ds st = .ok (.t l) st := by
  obtain ⟨a, st', h1, ⟨more, rfl⟩, h2⟩ := h.out
  simp only [callB, h1]
  refine leave_ok rfl (fun i c h => .inl h) ?_
  rcases h2 with rfl | ⟨m, rfl, h2, h3⟩
  · simp only [outV]; rw [if_pos (D.lows_of_pures _ _ hd)]
  · simp only [outV]; rw [if_neg (by omega), h3]
    simp only
    rw [if_pos (D.lows_of_pures _ _ hd)]
/-! ### items by their places -/
theorem atI_of {α : Type} {l : List α} {i : Int} {j : Nat} {x : α} (h : i = j) (e : l[j]? = some x) : L2.atI l i = some x := by
  subst h; exact L2.atI_nat e
end Ev

/-! ## Ev14 -/
set_option Elab.async false
set_option linter.all false
set_option maxRecDepth 100000
/-! Ev14: the drawing of a script. -/
namespace Ev
open PySem
@[simp] theorem startE_at (n : Nat) (ds : List D) : startE n ds = ds.map some ++ List.replicate (n - ds.length) none := .trans rfl rfl
def KVar (o : Option (Option D)) (st : Store) : R RV := match o with
  | some (some d) => .ok (.v d) st
  | _ => .bad
def K1 (g : RV → Store → Option RV) (a : RV) (s : Store) : R RV := lift (g a s) s
def K2 (g : RV → RV → Store → Option RV) (fb : EE) (e : SEnv) (a : RV) (s : Store) : R RV := (fb e s).bind fun b s2 => lift (g a b s2) s2
def K2b (g : RV → RV → Store → Option RV) (a b : RV) (s : Store) : R RV := lift (g a b s) s
def KA1 (fr : EA) (e : SEnv) (a : RV) (s : Store) : R (List D) := (mat a s).bind fun d s2 => (fr e s2).bind fun ds s3 => .ok (d :: ds) s3
def KA2 (fr : EA) (e : SEnv) (d : D) (s : Store) : R (List D) := (fr e s).bind fun ds s3 => .ok (d :: ds) s3
def KA3 (d : D) (ds : List D) (s : Store) : R (List D) := .ok (d :: ds) s
def KB1 (fr : EB) (e : SEnv) (a : RV) (s : Store) : R (List RV) := (fr e s).bind fun as s2 => .ok (a :: as) s2
def KB2 (a : RV) (as : List RV) (s : Store) : R (List RV) := .ok (a :: as) s
def KTup (ds : List D) (s : Store) : R RV := if ds.length ≤ sLine then .ok (.v (.tup ds)) s else .bad
def KLst (ds : List D) (s : Store) : R RV := if ds.length ≤ sLine then .ok (.t ds) s else .bad
def KPart (a : RV) (s : Store) : R (Option Int) := match a with
  | .v (.int i) => .ok (some i) s
  | _ => .bad
def KSl1 (lo hi : Option EE) (e : SEnv) (a : RV) (s : Store) : R RV := (sPart lo e s).bind fun l s2 => (sPart hi e s2).bind fun u s3 => lift (dSl a l u s3) s3
def KSl2 (hi : Option EE) (e : SEnv) (a : RV) (l : Option Int) (s : Store) : R RV := (sPart hi e s).bind fun u s3 => lift (dSl a l u s3) s3
def KSl3 (a : RV) (l u : Option Int) (s : Store) : R RV := lift (dSl a l u s) s
def liftB (o : Option Bool) (s : Store) : R Bool := match o with
  | some b => .ok b s
  | none => .bad
def KTru (a : RV) (s : Store) : R Bool := liftB (dTru a s) s
def KBool (a : RV) (s : Store) : R Bool := match a with
  | .v (.bl b) => .ok b s
  | _ => .bad
def KNotB (c : Bool) (s : Store) : R Bool := .ok (!c) s
def KAndB (h : ET) (e : SEnv) (c : Bool) (s : Store) : R Bool := if c = true then h e s else .ok false s
def KOrB (h : ET) (e : SEnv) (c : Bool) (s : Store) : R Bool := if c = true then .ok true s else h e s
def KAnd (fb : EE) (e : SEnv) (a : RV) (s : Store) : R RV := match a with
  | .v (.bl c) => if c = true then fb e s else .ok (.v (.bl false)) s
  | _ => .bad
def KOr (fb : EE) (e : SEnv) (a : RV) (s : Store) : R RV := match a with
  | .v (.bl c) => if c = true then .ok (.v (.bl true)) s else fb e s
  | _ => .bad
def KNot (a : RV) (s : Store) : R RV := match a with
  | .v (.bl c) => .ok (.v (.bl (!c))) s
  | _ => .bad
def KIf (fa fb : EE) (e : SEnv) (c : Bool) (s : Store) : R RV := if c = true then fa e s else fb e s
def KCh1 (g h : RV → RV → Store → Option RV) (fb fc : EE) (e : SEnv) (a : RV) (s : Store) : R RV := (fb e s).bind fun b s2 => (match g a b s2 with
    | some (.v (.bl c)) => if c = true then (fc e s2).bind fun c s3 => (match h b c s3 with
      | some (.v (.bl r)) => .ok (.v (.bl r)) s3
      | _ => .bad) else .ok (.v (.bl false)) s2
    | _ => .bad)
def KCh2 (g h : RV → RV → Store → Option RV) (fc : EE) (e : SEnv) (a b : RV) (s2 : Store) : R RV := match g a b s2 with
    | some (.v (.bl c)) => if c = true then (fc e s2).bind fun c s3 => (match h b c s3 with
      | some (.v (.bl r)) => .ok (.v (.bl r)) s3
      | _ => .bad) else .ok (.v (.bl false)) s2
    | _ => .bad
def KCh3 (h : RV → RV → Store → Option RV) (fc : EE) (e : SEnv) (b : RV) (o : Option RV) (s2 : Store) : R RV := match o with
    | some (.v (.bl c)) => if c = true then (fc e s2).bind fun c s3 => (match h b c s3 with
      | some (.v (.bl r)) => .ok (.v (.bl r)) s3
      | _ => .bad) else .ok (.v (.bl false)) s2
    | _ => .bad
def KCh4 (h : RV → RV → Store → Option RV) (b c : RV) (s3 : Store) : R RV := match h b c s3 with
      | some (.v (.bl r)) => .ok (.v (.bl r)) s3
      | _ => .bad
def KCh5 (o : Option RV) (s3 : Store) : R RV := match o with
      | some (.v (.bl r)) => .ok (.v (.bl r)) s3
      | _ => .bad
def KN (g : List RV → Store → Option RV) (as : List RV) (s : Store) : R RV := lift (g as s) s
def KCall (c : List D → Store → R RV) (dfl : List D) (ds : List D) (s : Store) : R RV := c (ds ++ dfl) s
def KSet1 (i : Nat) (e : SEnv) (a : RV) (s : Store) : SR := (mat a s).toS e fun d s2 => .nx (e.set i (some d)) s2
def KSet2 (i : Nat) (e : SEnv) (d : D) (s : Store) : SR := .nx (e.set i (some d)) s
def KExpr (e : SEnv) (a : RV) (s : Store) : SR := .nx e s
def KSIf (f1 f2 : SS) (e : SEnv) (c : Bool) (s : Store) : SR := if c = true then f1 e s else f2 e s
def oEnv (o : Option SEnv) (s : Store) : SR := match o with
  | some e1 => .nx e1 s
  | none => .bad
def KTg1 (t : Tg) (e : SEnv) (a : RV) (s : Store) : SR := (mat a s).toS e fun d s2 => oEnv (t.put d e) s2
def KTg2 (t : Tg) (e : SEnv) (d : D) (s : Store) : SR := oEnv (t.put d e) s
def KW (o : Option (List D)) (a : RV) (s : Store) : R Walk := match o with
    | some l => .ok ⟨l, fun s => itV s a = some l⟩ s
    | none => .bad
def KWal (a : RV) (s : Store) : R Walk := KW (itV s a) a s
theorem rOk_of {j : Int} (h1 : -1000000000 ≤ j) (h2 : j ≤ 1000000000) : rOk j := by unfold rOk; omega
theorem rOk2_of {i j : Int} (h1 : -1000000000 ≤ i) (h2 : i ≤ 1000000000) (h3 : -1000000000 ≤ j) (h4 : j ≤ 1000000000) : rOk2 i j := by unfold rOk2; omega
theorem mOk_r {i j : Int} (h : j.natAbs < 4294967296) : mOk i j := by unfold mOk; omega
theorem mOk_l {i j : Int} (h : i.natAbs < 4294967296) : mOk i j := by unfold mOk; omega
open Classical in
noncomputable def KR1 (as : List RV) (s : Store) : R Walk := match as with
    | [.v (.int j)] => if rOk j then .ok ⟨rngL 0 j.toNat, fun _ => True⟩ s else .bad
    | _ => .bad
open Classical in
noncomputable def KR2 (as : List RV) (s : Store) : R Walk := match as with
    | [.v (.int i), .v (.int j)] => if rOk2 i j then .ok ⟨rngL i (j - i).toNat, fun _ => True⟩ s else .bad
    | _ => .bad
noncomputable def KComp (t : Tg) (tt : ET) (own : List Nat) (fe : EE) (e : SEnv) (k : Walk) (s : Store) : R RV := if k.l.length ≤ sLine then (compL k.gd t tt fe (wipeE e own) k.l s).bind fun r s2 => .ok (.t r) s2 else .bad
def KT (r : List D) (s : Store) : R RV := .ok (.t r) s
noncomputable def KFor (t : Tg) (f : SS) (e : SEnv) (k : Walk) (s : Store) : SR := forL k.gd t f k.l e s
def cL (o : Option Cell) : Option (List D) := match o with
  | some (.lst l) => some l
  | _ => none
def KM0 (o : Option (D × List D)) (n : Nat) (s : Store) : R RV := match o with
          | some (d, l1) => .ok (.v d) (s.set n (.lst l1))
          | none => .bad
def KM1 (o : Option (List D)) (g : List D → List D → Option (D × List D)) (n : Nat) (ds : List D) (s : Store) : R RV := match o with
  | some l => KM0 (g ds l) n s
  | none => .bad
def KM2 (g : List D → List D → Option (D × List D)) (n : Nat) (ds : List D) (s : Store) : R RV := KM1 (cL s[n]?) g n ds s
def KM3 (o : Option (List D)) (g : List D → List D → Option (D × List D)) (fr : EA) (e : SEnv) (n : Nat) (s : Store) : R RV := match o with
  | some _ => (fr e s).bind (KM2 g n)
  | none => .bad
def KM4 (g : List D → List D → Option (D × List D)) (fr : EA) (e : SEnv) (a : RV) (s : Store) : R RV := match a with
  | .v (.ref n) => KM3 (cL s[n]?) g fr e n s
  | _ => .bad
def KS4 (g : List Nat → List RV → Store → Option RV) (fr : EB) (e : SEnv) (a : RV) (s : Store) : R RV := match a with
    | .v (.str t) => (fr e s).bind fun as s2 => lift (g t as s2) s2
    | _ => .bad
def KS5 (g : List Nat → List RV → Store → Option RV) (t : List Nat) (as : List RV) (s : Store) : R RV := lift (g t as s) s
def KX1 (o q : Option (List D)) (n : Nat) (s : Store) : R RV := match o, q with
  | some l, some m => if l.length + m.length ≤ sLine then .ok (.v .non) (s.set n (.lst (l ++ m))) else .bad
  | _, _ => .bad
def KX2 (n : Nat) (a : RV) (s : Store) : R RV := KX1 (cL s[n]?) (lstM s a) n s
def KX3 (o : Option (List D)) (fa : EE) (e : SEnv) (n : Nat) (s : Store) : R RV := match o with
  | some _ => (fa e s).bind (KX2 n)
  | none => .bad
def KX4 (fa : EE) (e : SEnv) (a : RV) (s : Store) : R RV := match a with
  | .v (.ref n) => KX3 (cL s[n]?) fa e n s
  | _ => .bad
def KP0 (o : Option (List D)) (n : Nat) (k : Int) (d : D) (e : SEnv) (s : Store) : SR := match o with
  | some l => (match L2.ixN l.length k with
        | some j => .nx e (s.set n (.lst (l.set j d)))
        | none => .bad)
  | none => .bad
def oSet (o : Option Nat) (n : Nat) (l : List D) (d : D) (e : SEnv) (s : Store) : SR := match o with
  | some j => .nx e (s.set n (.lst (l.set j d)))
  | none => .bad
def KP1 (e : SEnv) (d : D) (o i : RV) (s : Store) : SR := match o, i with
    | .v (.ref n), .v (.int k) => KP0 (cL s[n]?) n k d e s
    | _, _ => .bad
def KP2 (fi : EE) (e : SEnv) (d : D) (o : RV) (s : Store) : SR := (fi e s).toS e (KP1 e d o)
def KP3 (fo fi : EE) (e : SEnv) (d : D) (s : Store) : SR := (fo e s).toS e (KP2 fi e d)
def KP4 (fo fi : EE) (e : SEnv) (a : RV) (s : Store) : SR := (mat a s).toS e (KP3 fo fi e)
@[simp] theorem eC_at (d : D) (e : SEnv) (st : Store) : eC d e st = .ok (.v d) st := .trans rfl rfl
@[simp] theorem eVar_at (i : Nat) (e : SEnv) (st : Store) : eVar i e st = KVar e[i]? st := .trans rfl rfl
@[simp] theorem KVar_at (d : D) (st : Store) : KVar (some (some d)) st = .ok (.v d) st := .trans rfl rfl
@[simp] theorem lift_some_at (c : RV) (st : Store) : lift (some c) st = .ok c st := .trans rfl rfl
@[simp] theorem lift_none_at (st : Store) : lift none st = .bad := .trans rfl rfl
@[simp] theorem e1_at (g : RV → Store → Option RV) (fa : EE) (e : SEnv) (st : Store) : e1 g fa e st = (fa e st).bind (K1 g) := .trans rfl rfl
@[simp] theorem K1_at (g : RV → Store → Option RV) (a : RV) (s : Store) : K1 g a s = lift (g a s) s := .trans rfl rfl
@[simp] theorem e2_at (g : RV → RV → Store → Option RV) (fa fb : EE) (e : SEnv) (st : Store) : e2 g fa fb e st = (fa e st).bind (K2 g fb e) := .trans rfl rfl
@[simp] theorem K2_at (g : RV → RV → Store → Option RV) (fb : EE) (e : SEnv) (a : RV) (s : Store) : K2 g fb e a s = (fb e s).bind (K2b g a) := .trans rfl rfl
@[simp] theorem K2b_at (g : RV → RV → Store → Option RV) (a b : RV) (s : Store) : K2b g a b s = lift (g a b s) s := .trans rfl rfl
@[simp] theorem aNil_at (e : SEnv) (st : Store) : aNil e st = .ok [] st := .trans rfl rfl
@[simp] theorem aCons_at (fa : EE) (fr : EA) (e : SEnv) (st : Store) : aCons fa fr e st = (fa e st).bind (KA1 fr e) := .trans rfl rfl
@[simp] theorem KA1_at (fr : EA) (e : SEnv) (a : RV) (s : Store) : KA1 fr e a s = (mat a s).bind (KA2 fr e) := .trans rfl rfl
@[simp] theorem KA2_at (fr : EA) (e : SEnv) (d : D) (s : Store) : KA2 fr e d s = (fr e s).bind (KA3 d) := .trans rfl rfl
@[simp] theorem KA3_at (d : D) (ds : List D) (s : Store) : KA3 d ds s = .ok (d :: ds) s := .trans rfl rfl
@[simp] theorem bNil_at (e : SEnv) (st : Store) : bNil e st = .ok [] st := .trans rfl rfl
@[simp] theorem bCons_at (fa : EE) (fr : EB) (e : SEnv) (st : Store) : bCons fa fr e st = (fa e st).bind (KB1 fr e) := .trans rfl rfl
@[simp] theorem KB1_at (fr : EB) (e : SEnv) (a : RV) (s : Store) : KB1 fr e a s = (fr e s).bind (KB2 a) := .trans rfl rfl
@[simp] theorem KB2_at (a : RV) (as : List RV) (s : Store) : KB2 a as s = .ok (a :: as) s := .trans rfl rfl
@[simp] theorem eTup_at (fr : EA) (e : SEnv) (st : Store) : eTup fr e st = (fr e st).bind KTup := .trans rfl rfl
@[simp] theorem eLst_at (fr : EA) (e : SEnv) (st : Store) : eLst fr e st = (fr e st).bind KLst := .trans rfl rfl
@[simp] theorem KTup_at (ds : List D) (s : Store) : KTup ds s = if ds.length ≤ sLine then .ok (.v (.tup ds)) s else .bad := .trans rfl rfl
@[simp] theorem KLst_at (ds : List D) (s : Store) : KLst ds s = if ds.length ≤ sLine then .ok (.t ds) s else .bad := .trans rfl rfl
@[simp] theorem sPart_none_at (e : SEnv) (st : Store) : sPart none e st = .ok none st := .trans rfl rfl
@[simp] theorem sPart_some_at (f : EE) (e : SEnv) (st : Store) : sPart (some f) e st = (f e st).bind KPart := .trans rfl rfl
@[simp] theorem KPart_at (i : Int) (s : Store) : KPart (.v (.int i)) s = .ok (some i) s := .trans rfl rfl
@[simp] theorem eSl_at (fa : EE) (lo hi : Option EE) (e : SEnv) (st : Store) : eSl fa lo hi e st = (fa e st).bind (KSl1 lo hi e) := .trans rfl rfl
@[simp] theorem KSl1_at (lo hi : Option EE) (e : SEnv) (a : RV) (s : Store) : KSl1 lo hi e a s = (sPart lo e s).bind (KSl2 hi e a) := .trans rfl rfl
@[simp] theorem KSl2_at (hi : Option EE) (e : SEnv) (a : RV) (l : Option Int) (s : Store) : KSl2 hi e a l s = (sPart hi e s).bind (KSl3 a l) := .trans rfl rfl
@[simp] theorem KSl3_at (a : RV) (l u : Option Int) (s : Store) : KSl3 a l u s = lift (dSl a l u s) s := .trans rfl rfl
@[simp] theorem liftB_at (b : Bool) (s : Store) : liftB (some b) s = .ok b s := .trans rfl rfl
@[simp] theorem eTru_at (fa : EE) (e : SEnv) (st : Store) : eTru fa e st = (fa e st).bind KTru := .trans rfl rfl
@[simp] theorem KTru_at (a : RV) (s : Store) : KTru a s = liftB (dTru a s) s := .trans rfl rfl
@[simp] theorem eBool_at (fa : EE) (e : SEnv) (st : Store) : eBool fa e st = (fa e st).bind KBool := .trans rfl rfl
@[simp] theorem KBool_at (b : Bool) (s : Store) : KBool (.v (.bl b)) s = .ok b s := .trans rfl rfl
@[simp] theorem tNotB_at (g : ET) (e : SEnv) (st : Store) : tNotB g e st = (g e st).bind KNotB := .trans rfl rfl
@[simp] theorem KNotB_at (c : Bool) (s : Store) : KNotB c s = .ok (!c) s := .trans rfl rfl
@[simp] theorem tAndB_at (g h : ET) (e : SEnv) (st : Store) : tAndB g h e st = (g e st).bind (KAndB h e) := .trans rfl rfl
@[simp] theorem tOrB_at (g h : ET) (e : SEnv) (st : Store) : tOrB g h e st = (g e st).bind (KOrB h e) := .trans rfl rfl
@[simp] theorem KAndB_at (h : ET) (e : SEnv) (c : Bool) (s : Store) : KAndB h e c s = if c = true then h e s else .ok false s := .trans rfl rfl
@[simp] theorem KOrB_at (h : ET) (e : SEnv) (c : Bool) (s : Store) : KOrB h e c s = if c = true then .ok true s else h e s := .trans rfl rfl
@[simp] theorem eAnd_at (fa fb : EE) (e : SEnv) (st : Store) : eAnd fa fb e st = (fa e st).bind (KAnd fb e) := .trans rfl rfl
@[simp] theorem eOr_at (fa fb : EE) (e : SEnv) (st : Store) : eOr fa fb e st = (fa e st).bind (KOr fb e) := .trans rfl rfl
@[simp] theorem eNot_at (fa : EE) (e : SEnv) (st : Store) : eNot fa e st = (fa e st).bind KNot := .trans rfl rfl
@[simp] theorem KAnd_at (fb : EE) (e : SEnv) (c : Bool) (s : Store) : KAnd fb e (.v (.bl c)) s = if c = true then fb e s else .ok (.v (.bl false)) s := .trans rfl rfl
@[simp] theorem KOr_at (fb : EE) (e : SEnv) (c : Bool) (s : Store) : KOr fb e (.v (.bl c)) s = if c = true then .ok (.v (.bl true)) s else fb e s := .trans rfl rfl
@[simp] theorem KNot_at (c : Bool) (s : Store) : KNot (.v (.bl c)) s = .ok (.v (.bl (!c))) s := .trans rfl rfl
@[simp] theorem eIf_at (g : ET) (fa fb : EE) (e : SEnv) (st : Store) : eIf g fa fb e st = (g e st).bind (KIf fa fb e) := .trans rfl rfl
@[simp] theorem KIf_at (fa fb : EE) (e : SEnv) (c : Bool) (s : Store) : KIf fa fb e c s = if c = true then fa e s else fb e s := .trans rfl rfl
@[simp] theorem eChain_at (g h : RV → RV → Store → Option RV) (fa fb fc : EE) (e : SEnv) (st : Store) : eChain g h fa fb fc e st = (fa e st).bind (KCh1 g h fb fc e) := .trans rfl rfl
@[simp] theorem KCh1_at (g h : RV → RV → Store → Option RV) (fb fc : EE) (e : SEnv) (a : RV) (s : Store) : KCh1 g h fb fc e a s = (fb e s).bind (KCh2 g h fc e a) := .trans rfl rfl
@[simp] theorem KCh2_at (g h : RV → RV → Store → Option RV) (fc : EE) (e : SEnv) (a b : RV) (s : Store) : KCh2 g h fc e a b s = KCh3 h fc e b (g a b s) s := .trans rfl rfl
@[simp] theorem KCh3_at (h : RV → RV → Store → Option RV) (fc : EE) (e : SEnv) (b : RV) (c : Bool) (s : Store) : KCh3 h fc e b (some (.v (.bl c))) s = if c = true then (fc e s).bind (KCh4 h b) else .ok (.v (.bl false)) s := .trans rfl rfl
@[simp] theorem KCh4_at (h : RV → RV → Store → Option RV) (b c : RV) (s : Store) : KCh4 h b c s = KCh5 (h b c s) s := .trans rfl rfl
@[simp] theorem KCh5_at (r : Bool) (s : Store) : KCh5 (some (.v (.bl r))) s = .ok (.v (.bl r)) s := .trans rfl rfl
@[simp] theorem eN_at (g : List RV → Store → Option RV) (fs : EB) (e : SEnv) (st : Store) : eN g fs e st = (fs e st).bind (KN g) := .trans rfl rfl
@[simp] theorem KN_at (g : List RV → Store → Option RV) (as : List RV) (s : Store) : KN g as s = lift (g as s) s := .trans rfl rfl
@[simp] theorem g1_at (g : RV → Store → Option RV) (a : RV) (st : Store) : g1 g [a] st = g a st := .trans rfl rfl
@[simp] theorem g2_at (g : RV → RV → Store → Option RV) (a b : RV) (st : Store) : g2 g [a, b] st = g a b st := .trans rfl rfl
@[simp] theorem eCall_at (c : List D → Store → R RV) (dfl : List D) (fr : EA) (e : SEnv) (st : Store) : eCall c dfl fr e st = (fr e st).bind (KCall c dfl) := .trans rfl rfl
@[simp] theorem KCall_at (c : List D → Store → R RV) (dfl : List D) (ds : List D) (s : Store) : KCall c dfl ds s = c (ds ++ dfl) s := .trans rfl rfl
@[simp] theorem sNil_at (e : SEnv) (st : Store) : sNil e st = .nx e st := .trans rfl rfl
@[simp] theorem sSeq_at (f g : SS) (e : SEnv) (st : Store) : sSeq f g e st = (f e st).seq g := .trans rfl rfl
@[simp] theorem sSet_at (i : Nat) (fa : EE) (e : SEnv) (st : Store) : sSet i fa e st = (fa e st).toS e (KSet1 i e) := .trans rfl rfl
@[simp] theorem KSet1_at (i : Nat) (e : SEnv) (a : RV) (s : Store) : KSet1 i e a s = (mat a s).toS e (KSet2 i e) := .trans rfl rfl
@[simp] theorem KSet2_at (i : Nat) (e : SEnv) (d : D) (s : Store) : KSet2 i e d s = .nx (e.set i (some d)) s := .trans rfl rfl
@[simp] theorem sExpr_at (fa : EE) (e : SEnv) (st : Store) : sExpr fa e st = (fa e st).toS e (KExpr e) := .trans rfl rfl
@[simp] theorem KExpr_at (e : SEnv) (a : RV) (s : Store) : KExpr e a s = .nx e s := .trans rfl rfl
@[simp] theorem sRet_at (fa : EE) (e : SEnv) (st : Store) : sRet fa e st = (fa e st).toS e SR.ret := .trans rfl rfl
@[simp] theorem sRetN_at (e : SEnv) (st : Store) : sRetN e st = .ret (.v .non) st := .trans rfl rfl
@[simp] theorem sIf_at (g : ET) (f1 f2 : SS) (e : SEnv) (st : Store) : sIf g f1 f2 e st = (g e st).toS e (KSIf f1 f2 e) := .trans rfl rfl
@[simp] theorem KSIf_at (f1 f2 : SS) (e : SEnv) (c : Bool) (s : Store) : KSIf f1 f2 e c s = if c = true then f1 e s else f2 e s := .trans rfl rfl
@[simp] theorem sBrk_at (e : SEnv) (st : Store) : sBrk e st = .brk e st := .trans rfl rfl
@[simp] theorem sCt_at (e : SEnv) (st : Store) : sCt e st = .ct e st := .trans rfl rfl
@[simp] theorem oEnv_at (e : SEnv) (s : Store) : oEnv (some e) s = .nx e s := .trans rfl rfl
@[simp] theorem sTg_at (t : Tg) (fa : EE) (e : SEnv) (st : Store) : sTg t fa e st = (fa e st).toS e (KTg1 t e) := .trans rfl rfl
@[simp] theorem KTg1_at (t : Tg) (e : SEnv) (a : RV) (s : Store) : KTg1 t e a s = (mat a s).toS e (KTg2 t e) := .trans rfl rfl
@[simp] theorem KTg2_at (t : Tg) (e : SEnv) (d : D) (s : Store) : KTg2 t e d s = oEnv (t.put d e) s := .trans rfl rfl
@[simp] theorem put_one_at (i : Nat) (d : D) (e : SEnv) : (Tg.one i).put d e = some (e.set i (some d)) := .trans rfl rfl
@[simp] theorem put_many_at (is : List Nat) (l : List D) (e : SEnv) : (Tg.many is).put (.tup l) e = if l.length = is.length then some (setAll is l e) else none := .trans rfl rfl
@[simp] theorem setAll_cons_at (i : Nat) (is : List Nat) (d : D) (ds : List D) (e : SEnv) : setAll (i :: is) (d :: ds) e = setAll is ds (e.set i (some d)) := .trans rfl rfl
@[simp] theorem setAll_nil_at (ds : List D) (e : SEnv) : setAll [] ds e = e := by cases ds <;> rfl
@[simp] theorem wipe_nil_at (e : SEnv) : wipeE e [] = e := .trans rfl rfl
@[simp] theorem wipe_cons_at (e : SEnv) (v : Nat) (vs : List Nat) : wipeE e (v :: vs) = (wipeE e vs).set v none := .trans rfl rfl
@[simp] theorem wVal_at (fa : EE) (e : SEnv) (st : Store) : wVal fa e st = (fa e st).bind KWal := .trans rfl rfl
@[simp] theorem KWal_at (a : RV) (s : Store) : KWal a s = KW (itV s a) a s := .trans rfl rfl
@[simp] theorem KW_at (l : List D) (a : RV) (s : Store) : KW (some l) a s = .ok ⟨l, fun s => itV s a = some l⟩ s := .trans rfl rfl
@[simp] theorem wRng1_at (fs : EB) (e : SEnv) (st : Store) : wRng1 fs e st = (fs e st).bind KR1 := .trans rfl rfl
open Classical in
@[simp] theorem KR1_at (j : Int) (s : Store) : KR1 [.v (.int j)] s = if rOk j then .ok ⟨rngL 0 j.toNat, fun _ => True⟩ s else .bad := .trans rfl rfl
@[simp] theorem wRng2_at (fs : EB) (e : SEnv) (st : Store) : wRng2 fs e st = (fs e st).bind KR2 := .trans rfl rfl
open Classical in
@[simp] theorem KR2_at (i j : Int) (s : Store) : KR2 [.v (.int i), .v (.int j)] s = if rOk2 i j then .ok ⟨rngL i (j - i).toNat, fun _ => True⟩ s else .bad := .trans rfl rfl
@[simp] theorem ttYes_at (e : SEnv) (st : Store) : ttYes e st = .ok true st := .trans rfl rfl
@[simp] theorem eComp_at (w : EW) (t : Tg) (tt : ET) (own : List Nat) (fe : EE) (e : SEnv) (st : Store) : eComp w t tt own fe e st = (w e st).bind (KComp t tt own fe e) := .trans rfl rfl
@[simp] theorem KComp_at (t : Tg) (tt : ET) (own : List Nat) (fe : EE) (e : SEnv) (k : Walk) (s : Store) : KComp t tt own fe e k s = if k.l.length ≤ sLine then (compL k.gd t tt fe (wipeE e own) k.l s).bind KT else .bad := .trans rfl rfl
@[simp] theorem KT_at (r : List D) (s : Store) : KT r s = .ok (.t r) s := .trans rfl rfl
@[simp] theorem sFor_at (w : EW) (t : Tg) (f : SS) (e : SEnv) (st : Store) : sFor w t f e st = (w e st).toS e (KFor t f e) := .trans rfl rfl
@[simp] theorem KFor_at (t : Tg) (f : SS) (e : SEnv) (k : Walk) (s : Store) : KFor t f e k s = forL k.gd t f k.l e s := .trans rfl rfl
@[simp] theorem cL_at (l : List D) : cL (some (.lst l)) = some l := .trans rfl rfl
@[simp] theorem KM0_at (d : D) (l : List D) (n : Nat) (s : Store) : KM0 (some (d, l)) n s = .ok (.v d) (s.set n (.lst l)) := .trans rfl rfl
@[simp] theorem KM1_at (l : List D) (g : List D → List D → Option (D × List D)) (n : Nat) (ds : List D) (s : Store) : KM1 (some l) g n ds s = KM0 (g ds l) n s := .trans rfl rfl
@[simp] theorem KM2_at (g : List D → List D → Option (D × List D)) (n : Nat) (ds : List D) (s : Store) : KM2 g n ds s = KM1 (cL s[n]?) g n ds s := .trans rfl rfl
@[simp] theorem KM3_at (l : List D) (g : List D → List D → Option (D × List D)) (fr : EA) (e : SEnv) (n : Nat) (s : Store) : KM3 (some l) g fr e n s = (fr e s).bind (KM2 g n) := .trans rfl rfl
@[simp] theorem KM4_at (g : List D → List D → Option (D × List D)) (fr : EA) (e : SEnv) (n : Nat) (s : Store) : KM4 g fr e (.v (.ref n)) s = KM3 (cL s[n]?) g fr e n s := .trans rfl rfl
@[simp] theorem eMtL_at (g : List D → List D → Option (D × List D)) (fo : EE) (fr : EA) (e : SEnv) (st : Store) : eMtL g fo fr e st = (fo e st).bind (KM4 g fr e) := by
  unfold eMtL
  cases fo e st with
  | ok a s =>
    simp only [R.bind_ok]
    cases a with
    | v d =>
      cases d with
      | ref n =>
        simp only [KM4]
        rcases hs : s[n]? with _ | c
        · rfl
        · cases c with
          | lst l =>
            simp only [KM3, cL]
            cases fr e s with
            | ok ds s2 =>
              simp only [R.bind_ok, KM2]
              rcases hs2 : s2[n]? with _ | c2
              · rfl
              · cases c2 with
                | lst l2 =>
                  simp only [KM1, cL]
                  cases g ds l2 <;> rfl
                | _ => rfl
            | _ => rfl
          | _ => rfl
      | _ => rfl
    | t l => rfl
  | _ => rfl
@[simp] theorem eMtS_at (g : List Nat → List RV → Store → Option RV) (fo : EE) (fr : EB) (e : SEnv) (st : Store) : eMtS g fo fr e st = (fo e st).bind (KS4 g fr e) := .trans rfl rfl
@[simp] theorem KS4_at (g : List Nat → List RV → Store → Option RV) (fr : EB) (e : SEnv) (t : List Nat) (s : Store) : KS4 g fr e (.v (.str t)) s = (fr e s).bind (KS5 g t) := .trans rfl rfl
@[simp] theorem KS5_at (g : List Nat → List RV → Store → Option RV) (t : List Nat) (as : List RV) (s : Store) : KS5 g t as s = lift (g t as s) s := .trans rfl rfl
@[simp] theorem KX1_at (l m : List D) (n : Nat) (s : Store) : KX1 (some l) (some m) n s = if l.length + m.length ≤ sLine then .ok (.v .non) (s.set n (.lst (l ++ m))) else .bad := .trans rfl rfl
@[simp] theorem KX2_at (n : Nat) (a : RV) (s : Store) : KX2 n a s = KX1 (cL s[n]?) (lstM s a) n s := .trans rfl rfl
@[simp] theorem KX3_at (l : List D) (fa : EE) (e : SEnv) (n : Nat) (s : Store) : KX3 (some l) fa e n s = (fa e s).bind (KX2 n) := .trans rfl rfl
@[simp] theorem KX4_at (fa : EE) (e : SEnv) (n : Nat) (s : Store) : KX4 fa e (.v (.ref n)) s = KX3 (cL s[n]?) fa e n s := .trans rfl rfl
@[simp] theorem eExtend_at (fo fa : EE) (e : SEnv) (st : Store) : eExtend fo fa e st = (fo e st).bind (KX4 fa e) := by
  unfold eExtend
  cases fo e st with
  | ok a s =>
    simp only [R.bind_ok]
    cases a with
    | v d =>
      cases d with
      | ref n =>
        simp only [KX4]
        rcases hs : s[n]? with _ | c
        · rfl
        · cases c with
          | lst l =>
            simp only [KX3, cL]
            cases fa e s with
            | ok b s2 =>
              simp only [R.bind_ok, KX2]
              rcases hs2 : s2[n]? with _ | c2
              · rfl
              · cases c2 with
                | lst l2 =>
                  simp only [cL]
                  cases lstM s2 b <;> rfl
                | _ => rfl
            | _ => rfl
          | _ => rfl
      | _ => rfl
    | t l => rfl
  | _ => rfl
@[simp] theorem oSet_at (j n : Nat) (l : List D) (d : D) (e : SEnv) (s : Store) : oSet (some j) n l d e s = .nx e (s.set n (.lst (l.set j d))) := .trans rfl rfl
@[simp] theorem KP0_at (l : List D) (n : Nat) (k : Int) (d : D) (e : SEnv) (s : Store) : KP0 (some l) n k d e s = oSet (L2.ixN l.length k) n l d e s := .trans rfl rfl
@[simp] theorem KP1_at (e : SEnv) (d : D) (n : Nat) (k : Int) (s : Store) : KP1 e d (.v (.ref n)) (.v (.int k)) s = KP0 (cL s[n]?) n k d e s := .trans rfl rfl
@[simp] theorem KP2_at (fi : EE) (e : SEnv) (d : D) (o : RV) (s : Store) : KP2 fi e d o s = (fi e s).toS e (KP1 e d o) := .trans rfl rfl
@[simp] theorem KP3_at (fo fi : EE) (e : SEnv) (d : D) (s : Store) : KP3 fo fi e d s = (fo e s).toS e (KP2 fi e d) := .trans rfl rfl
@[simp] theorem KP4_at (fo fi : EE) (e : SEnv) (a : RV) (s : Store) : KP4 fo fi e a s = (mat a s).toS e (KP3 fo fi e) := .trans rfl rfl
@[simp] theorem sPutIx_at (fa fo fi : EE) (e : SEnv) (st : Store) : sPutIx fa fo fi e st = (fa e st).toS e (KP4 fo fi e) := by
  unfold sPutIx
  cases fa e st with
  | ok a s1 =>
    simp only [R.toS_ok, KP4]
    cases mat a s1 with
    | ok d s2 =>
      simp only [R.toS_ok, KP3]
      cases fo e s2 with
      | ok o s3 =>
        simp only [R.toS_ok, KP2]
        cases fi e s3 with
        | ok i s4 =>
          simp only [R.toS_ok, KP1]
          cases o with
          | v o =>
            cases o with
            | ref n =>
              cases i with
              | v i =>
                cases i with
                | int k =>
                  simp only
                  rcases hs : s4[n]? with _ | c
                  · rfl
                  · cases c with
                    | lst l => rfl
                    | _ => rfl
                | _ => rfl
              | t l => rfl
            | _ => rfl
          | t l => rfl
        | _ => rfl
      | _ => rfl
    | _ => rfl
  | _ => rfl
@[simp] theorem outV_t_at (n : Nat) (st : Store) (l : List D) : outV n st (.t l) = if D.lows n l then some (.t l) else none := .trans rfl rfl
@[simp] theorem outV_non_at (n : Nat) (st : Store)  : outV n st (.v .non) = some (.v .non) := .trans rfl rfl
@[simp] theorem outV_bl_at (n : Nat) (st : Store) (b : Bool) : outV n st (.v (.bl b)) = some (.v (.bl b)) := .trans rfl rfl
@[simp] theorem outV_int_at (n : Nat) (st : Store) (i : Int) : outV n st (.v (.int i)) = some (.v (.int i)) := .trans rfl rfl
@[simp] theorem outV_str_at (n : Nat) (st : Store) (s : List Nat) : outV n st (.v (.str s)) = some (.v (.str s)) := .trans rfl rfl
@[simp] theorem outV_tup_at (n : Nat) (st : Store) (l : List D) : outV n st (.v (.tup l)) = if D.lows n l then some (.v (.tup l)) else none := .trans rfl rfl
@[simp] theorem bind_ite {α β : Type} (c : Prop) [Decidable c] (x y : R α) (f : α → Store → R β) : (if c then x else y).bind f = if c then x.bind f else y.bind f := by split <;> rfl
@[simp] theorem toS_ite {α : Type} (c : Prop) [Decidable c] (x y : R α) (e : SEnv) (f : α → Store → SR) : (if c then x else y).toS e f = if c then x.toS e f else y.toS e f := by split <;> rfl
@[simp] theorem seq_ite (c : Prop) [Decidable c] (x y : SR) (f : SEnv → Store → SR) : (if c then x else y).seq f = if c then x.seq f else y.seq f := by split <;> rfl
@[simp] theorem loop_ite (c : Prop) [Decidable c] (x y : SR) (f : SEnv → Store → SR) : (if c then x else y).loop f = if c then x.loop f else y.loop f := by split <;> rfl
@[simp] theorem lift_ite (c : Prop) [Decidable c] (x y : Option RV) (s : Store) : lift (if c then x else y) s = if c then lift x s else lift y s := by split <;> rfl
section
variable {st : Store}
@[simp] theorem dAdd_int (i j : Int) : dAdd (.v (.int i)) (.v (.int j)) st = some (.v (.int (i + j))) := .trans rfl rfl
@[simp] theorem dSub_int (i j : Int) : dSub (.v (.int i)) (.v (.int j)) st = some (.v (.int (i - j))) := .trans rfl rfl
@[simp] theorem dEq_int (i j : Int) : dEq (.v (.int i)) (.v (.int j)) st = some (.v (.bl (i == j))) := .trans rfl rfl
@[simp] theorem dNe_int (i j : Int) : dNe (.v (.int i)) (.v (.int j)) st = some (.v (.bl (!(i == j)))) := .trans rfl rfl
@[simp] theorem dEq_str (i j : List Nat) : dEq (.v (.str i)) (.v (.str j)) st = some (.v (.bl (decide (i = j)))) := .trans rfl rfl
@[simp] theorem dNe_str (i j : List Nat) : dNe (.v (.str i)) (.v (.str j)) st = some (.v (.bl (!(decide (i = j))))) := .trans rfl rfl
@[simp] theorem dIx_ref (n : Nat) (i : Int) : dIx (.v (.ref n)) (.v (.int i)) st = match lstM st (.v (.ref n)) with
    | some l => (L2.atI l i).map .v
    | none => none := .trans rfl rfl
@[simp] theorem dIx_rol (l : List D) (i : Int) : dIx (.v (.rol l)) (.v (.int i)) st = (L2.atI l i).map .v := .trans rfl rfl
@[simp] theorem dIx_tup (l : List D) (i : Int) : dIx (.v (.tup l)) (.v (.int i)) st = (L2.atI l i).map .v := .trans rfl rfl
@[simp] theorem dIx_t (l : List D) (i : Int) : dIx (.t l) (.v (.int i)) st = (L2.atI l i).map .v := .trans rfl rfl
@[simp] theorem dLen_ref (n : Nat) : dLen (.v (.ref n)) st = match lstM st (.v (.ref n)) with
    | some l => some (.v (.int l.length))
    | none => none := .trans rfl rfl
@[simp] theorem dLen_tup (l : List D) : dLen (.v (.tup l)) st = some (.v (.int l.length)) := .trans rfl rfl
@[simp] theorem dLen_t (l : List D) : dLen (.t l) st = some (.v (.int l.length)) := .trans rfl rfl
open Classical in
@[simp] theorem dMul_int (i j : Int) : dMul (.v (.int i)) (.v (.int j)) st = if mOk i j then some (.v (.int (i * j))) else none := .trans rfl rfl
@[simp] theorem dDiv_int (i j : Int) : dDiv (.v (.int i)) (.v (.int j)) st = if 0 < j ∧ j < 1073741824 then some (.v (.int (i / j))) else none := .trans rfl rfl
@[simp] theorem dMod_int (i j : Int) : dMod (.v (.int i)) (.v (.int j)) st = if 0 < j then some (.v (.int (i % j))) else none := .trans rfl rfl
@[simp] theorem dPow_int (i j : Int) : dPow (.v (.int i)) (.v (.int j)) st = if 0 ≤ j ∧ j ≤ 1000000 ∧ i.natAbs < 2 ^ 64 then some (.v (.int (i ^ j.toNat))) else none := .trans rfl rfl
@[simp] theorem dNeg_int (i : Int) : dNeg (.v (.int i)) st = some (.v (.int (-i))) := .trans rfl rfl
@[simp] theorem dLt_int (i j : Int) : dLt (.v (.int i)) (.v (.int j)) st = some (.v (.bl (decide (i < j)))) := .trans rfl rfl
@[simp] theorem dLe_int (i j : Int) : dLe (.v (.int i)) (.v (.int j)) st = some (.v (.bl (decide (i ≤ j)))) := .trans rfl rfl
@[simp] theorem dGt_int (i j : Int) : dGt (.v (.int i)) (.v (.int j)) st = some (.v (.bl (decide (i > j)))) := .trans rfl rfl
@[simp] theorem dGe_int (i j : Int) : dGe (.v (.int i)) (.v (.int j)) st = some (.v (.bl (decide (i ≥ j)))) := .trans rfl rfl
@[simp] theorem dAbs_int (i : Int) : dAbs (.v (.int i)) st = some (.v (.int (if i < 0 then -i else i))) := .trans rfl rfl
@[simp] theorem dInt_int (i : Int) : dInt (.v (.int i)) st = some (.v (.int i)) := .trans rfl rfl
@[simp] theorem dMax2_int (i j : Int) : dMax2 (.v (.int i)) (.v (.int j)) st = some (.v (.int (if j > i then j else i))) := .trans rfl rfl
@[simp] theorem dMin2_int (i j : Int) : dMin2 (.v (.int i)) (.v (.int j)) st = some (.v (.int (if j < i then j else i))) := .trans rfl rfl
@[simp] theorem itV_rol (l : List D) : itV st (.v (.rol l)) = some l := .trans rfl rfl
@[simp] theorem itV_tup (l : List D) : itV st (.v (.tup l)) = some l := .trans rfl rfl
@[simp] theorem itV_t (l : List D) : itV st (.t l) = some l := .trans rfl rfl
@[simp] theorem itV_str (l : List Nat) : itV st (.v (.str l)) = some (l.map fun c => .str [c]) := .trans rfl rfl
@[simp] theorem itV_ref (n : Nat) : itV st (.v (.ref n)) = lstM st (.v (.ref n)) := .trans rfl rfl
@[simp] theorem dList_rol (l : List D) : dList (.v (.rol l)) st = some (.t l) := .trans rfl rfl
@[simp] theorem dList_tup (l : List D) : dList (.v (.tup l)) st = some (.t l) := .trans rfl rfl
@[simp] theorem dList_t (l : List D) : dList (.t l) st = some (.t l) := .trans rfl rfl
@[simp] theorem dList_ref (n : Nat) : dList (.v (.ref n)) st = match lstM st (.v (.ref n)) with
    | some l => some (.t l)
    | none => none := .trans rfl rfl
@[simp] theorem dTuple_rol (l : List D) : dTuple (.v (.rol l)) st = some (.v (.tup l)) := .trans rfl rfl
@[simp] theorem dTuple_tup (l : List D) : dTuple (.v (.tup l)) st = some (.v (.tup l)) := .trans rfl rfl
@[simp] theorem dTuple_t (l : List D) : dTuple (.t l) st = some (.v (.tup l)) := .trans rfl rfl
@[simp] theorem dTuple_ref (n : Nat) : dTuple (.v (.ref n)) st = match lstM st (.v (.ref n)) with
    | some l => some (.v (.tup l))
    | none => none := .trans rfl rfl
@[simp] theorem dLen_rol (l : List D) : dLen (.v (.rol l)) st = some (.v (.int l.length)) := .trans rfl rfl
@[simp] theorem dLen_str (l : List Nat) : dLen (.v (.str l)) st = if l.length ≤ sLine then some (.v (.int l.length)) else none := .trans rfl rfl
@[simp] theorem dIx_str (l : List Nat) (i : Int) : dIx (.v (.str l)) (.v (.int i)) st = if l.length ≤ sLine then (L2.atI l i).map fun c => .v (.str [c]) else none := .trans rfl rfl
@[simp] theorem dAdd_str (s t : List Nat) : dAdd (.v (.str s)) (.v (.str t)) st = if s.length + t.length ≤ sLine then some (.v (.str (s ++ t))) else none := .trans rfl rfl
@[simp] theorem dAdd_tup (s t : List D) : dAdd (.v (.tup s)) (.v (.tup t)) st = if s.length + t.length ≤ sLine then some (.v (.tup (s ++ t))) else none := .trans rfl rfl
@[simp] theorem dSl_tup (l : List D) (a b : Option Int) : dSl (.v (.tup l)) a b st = some (.v (.tup (cut l a b))) := .trans rfl rfl
@[simp] theorem dSl_str (l : List Nat) (a b : Option Int) : dSl (.v (.str l)) a b st = if l.length ≤ sLine then some (.v (.str (cut l a b))) else none := .trans rfl rfl
@[simp] theorem dTru_bl (b : Bool) : dTru (.v (.bl b)) st = some b := .trans rfl rfl
@[simp] theorem dTru_non : dTru (.v .non) st = some false := .trans rfl rfl
@[simp] theorem dTru_int (i : Int) : dTru (.v (.int i)) st = some (i != 0) := .trans rfl rfl
@[simp] theorem dTru_tup (l : List D) : dTru (.v (.tup l)) st = some (!l.isEmpty) := .trans rfl rfl
@[simp] theorem dTru_t (l : List D) : dTru (.t l) st = some (!l.isEmpty) := .trans rfl rfl
@[simp] theorem dTru_str (s : List Nat) : dTru (.v (.str s)) st = if s.length ≤ sLine then some (!s.isEmpty) else none := .trans rfl rfl
@[simp] theorem dIsi_tup (T : String) (l : List D) : dIsi T (.v (.tup l)) st = some (.v (.bl (isiB "tuple" T))) := .trans rfl rfl
@[simp] theorem dIsi_int (T : String) (i : Int) : dIsi T (.v (.int i)) st = some (.v (.bl (isiB "int" T))) := .trans rfl rfl
@[simp] theorem dIsi_str (T : String) (s : List Nat) : dIsi T (.v (.str s)) st = some (.v (.bl (isiB "str" T))) := .trans rfl rfl
@[simp] theorem dIsi_bl (T : String) (b : Bool) : dIsi T (.v (.bl b)) st = some (.v (.bl (isiB "bool" T))) := .trans rfl rfl
@[simp] theorem dIsi_non (T : String) : dIsi T (.v .non) st = some (.v (.bl (isiB "NoneType" T))) := .trans rfl rfl
@[simp] theorem lstM_t (l : List D) : lstM st (.t l) = some l := .trans rfl rfl
@[simp] theorem dAdd_refs (m n : Nat) : dAdd (.v (.ref m)) (.v (.ref n)) st = match lstM st (.v (.ref m)), lstM st (.v (.ref n)) with
    | some s, some t => if s.length + t.length ≤ sLine then some (.t (s ++ t)) else none
    | _, _ => none := .trans rfl rfl
@[simp] theorem dAdd_tt (s t : List D) : dAdd (.t s) (.t t) st = if s.length + t.length ≤ sLine then some (.t (s ++ t)) else none := .trans rfl rfl
@[simp] theorem lstM_ref (n : Nat) : lstM st (.v (.ref n)) = match st[n]? with
    | some (.lst l) => some l
    | _ => none := .trans rfl rfl
end
@[simp] theorem gAppend_at (d : D) (l : List D) : gAppend [d] l = if l.length < sLine then some (.non, l ++ [d]) else none := .trans rfl rfl
@[simp] theorem isiB_tuple_tuple : isiB "tuple" "tuple" = true := by decide
@[simp] theorem isiB_int_tuple : isiB "int" "tuple" = false := by decide
@[simp] theorem isiB_str_tuple : isiB "str" "tuple" = false := by decide
@[simp] theorem isiB_bool_tuple : isiB "bool" "tuple" = false := by decide
@[simp] theorem isiB_NoneType_tuple : isiB "NoneType" "tuple" = false := by decide
@[simp] theorem isiB_list_tuple : isiB "list" "tuple" = false := by decide
@[simp] theorem isiB_tuple_int : isiB "tuple" "int" = false := by decide
@[simp] theorem isiB_int_int : isiB "int" "int" = true := by decide
@[simp] theorem isiB_str_int : isiB "str" "int" = false := by decide
@[simp] theorem isiB_bool_int : isiB "bool" "int" = true := by decide
@[simp] theorem isiB_NoneType_int : isiB "NoneType" "int" = false := by decide
@[simp] theorem isiB_list_int : isiB "list" "int" = false := by decide
@[simp] theorem isiB_tuple_str : isiB "tuple" "str" = false := by decide
@[simp] theorem isiB_int_str : isiB "int" "str" = false := by decide
@[simp] theorem isiB_str_str : isiB "str" "str" = true := by decide
@[simp] theorem isiB_bool_str : isiB "bool" "str" = false := by decide
@[simp] theorem isiB_NoneType_str : isiB "NoneType" "str" = false := by decide
@[simp] theorem isiB_list_str : isiB "list" "str" = false := by decide
@[simp] theorem isiB_tuple_bool : isiB "tuple" "bool" = false := by decide
@[simp] theorem isiB_int_bool : isiB "int" "bool" = false := by decide
@[simp] theorem isiB_str_bool : isiB "str" "bool" = false := by decide
@[simp] theorem isiB_bool_bool : isiB "bool" "bool" = true := by decide
@[simp] theorem isiB_NoneType_bool : isiB "NoneType" "bool" = false := by decide
@[simp] theorem isiB_list_bool : isiB "list" "bool" = false := by decide
@[simp] theorem isiB_tuple_list : isiB "tuple" "list" = false := by decide
@[simp] theorem isiB_int_list : isiB "int" "list" = false := by decide
@[simp] theorem isiB_str_list : isiB "str" "list" = false := by decide
@[simp] theorem isiB_bool_list : isiB "bool" "list" = false := by decide
@[simp] theorem isiB_NoneType_list : isiB "NoneType" "list" = false := by decide
@[simp] theorem isiB_list_list : isiB "list" "list" = true := by decide
@[simp] theorem atI_nil {α : Type} (i : Int) : L2.atI ([] : List α) i = none := by
  unfold L2.atI
  cases h : L2.ixN ([] : List α).length i <;> simp
theorem atI_lit {α : Type} (l : List α) (k : Nat) : L2.atI l (k : Int) = l[k]? := by
  cases h : l[k]? with
  | some x => exact L2.atI_nat h
  | none =>
    have hk : l.length ≤ k := List.getElem?_eq_none_iff.mp h
    unfold L2.atI L2.ixN
    rw [if_pos (by omega), if_neg (by omega)]
    rfl
theorem ixN_lit (n k : Nat) : L2.ixN n (k : Int) = if k < n then some k else none := by
  unfold L2.ixN
  rw [if_pos (by omega)]
  by_cases h : k < n
  · rw [if_pos h, if_pos (by omega)]; rfl
  · rw [if_neg h, if_neg (by omega)]
@[simp] theorem atI_0 {α : Type} (l : List α) : L2.atI l 0 = l[0]? := atI_lit l 0
@[simp] theorem ixN_0 (n : Nat) : L2.ixN n 0 = if 0 < n then some 0 else none := ixN_lit n 0
@[simp] theorem atI_1 {α : Type} (l : List α) : L2.atI l 1 = l[1]? := atI_lit l 1
@[simp] theorem ixN_1 (n : Nat) : L2.ixN n 1 = if 1 < n then some 1 else none := ixN_lit n 1
@[simp] theorem atI_2 {α : Type} (l : List α) : L2.atI l 2 = l[2]? := atI_lit l 2
@[simp] theorem ixN_2 (n : Nat) : L2.ixN n 2 = if 2 < n then some 2 else none := ixN_lit n 2
@[simp] theorem atI_3 {α : Type} (l : List α) : L2.atI l 3 = l[3]? := atI_lit l 3
@[simp] theorem ixN_3 (n : Nat) : L2.ixN n 3 = if 3 < n then some 3 else none := ixN_lit n 3
@[simp] theorem atI_4 {α : Type} (l : List α) : L2.atI l 4 = l[4]? := atI_lit l 4
@[simp] theorem ixN_4 (n : Nat) : L2.ixN n 4 = if 4 < n then some 4 else none := ixN_lit n 4
@[simp] theorem atI_5 {α : Type} (l : List α) : L2.atI l 5 = l[5]? := atI_lit l 5
@[simp] theorem ixN_5 (n : Nat) : L2.ixN n 5 = if 5 < n then some 5 else none := ixN_lit n 5
@[simp] theorem atI_6 {α : Type} (l : List α) : L2.atI l 6 = l[6]? := atI_lit l 6
@[simp] theorem ixN_6 (n : Nat) : L2.ixN n 6 = if 6 < n then some 6 else none := ixN_lit n 6
@[simp] theorem atI_7 {α : Type} (l : List α) : L2.atI l 7 = l[7]? := atI_lit l 7
@[simp] theorem ixN_7 (n : Nat) : L2.ixN n 7 = if 7 < n then some 7 else none := ixN_lit n 7
@[simp] theorem atI_8 {α : Type} (l : List α) : L2.atI l 8 = l[8]? := atI_lit l 8
@[simp] theorem ixN_8 (n : Nat) : L2.ixN n 8 = if 8 < n then some 8 else none := ixN_lit n 8
@[simp] theorem atI_9 {α : Type} (l : List α) : L2.atI l 9 = l[9]? := atI_lit l 9
@[simp] theorem ixN_9 (n : Nat) : L2.ixN n 9 = if 9 < n then some 9 else none := ixN_lit n 9
@[simp] theorem atI_10 {α : Type} (l : List α) : L2.atI l 10 = l[10]? := atI_lit l 10
@[simp] theorem ixN_10 (n : Nat) : L2.ixN n 10 = if 10 < n then some 10 else none := ixN_lit n 10
@[simp] theorem atI_11 {α : Type} (l : List α) : L2.atI l 11 = l[11]? := atI_lit l 11
@[simp] theorem ixN_11 (n : Nat) : L2.ixN n 11 = if 11 < n then some 11 else none := ixN_lit n 11
@[simp] theorem atI_12 {α : Type} (l : List α) : L2.atI l 12 = l[12]? := atI_lit l 12
@[simp] theorem ixN_12 (n : Nat) : L2.ixN n 12 = if 12 < n then some 12 else none := ixN_lit n 12
@[simp] theorem atI_neg1 {α : Type} (l : List α) (x : α) : L2.atI (l ++ [x]) (-1) = some x := L2.atI_last l x
@[simp] theorem KM0_none (n : Nat) (s : Store) : KM0 none n s = .bad := .trans rfl rfl
@[simp] theorem KVar_none (s : Store) : KVar none s = .bad := .trans rfl rfl
@[simp] theorem KVar_none2 (s : Store) : KVar (some none) s = .bad := .trans rfl rfl
@[simp] theorem WpR_bad (Q : RV → Store → Prop) : WpR .bad Q = False := .trans rfl rfl
@[simp] theorem toS_bad {α : Type} (e : SEnv) (k : α → Store → SR) : (R.bad : R α).toS e k = .bad := .trans rfl rfl
@[simp] theorem WpR_nx (e : SEnv) (st : Store) (Q : RV → Store → Prop) : WpR (.nx e st) Q = Q (.v .non) st := .trans rfl rfl
@[simp] theorem WpR_ret (a : RV) (st : Store) (Q : RV → Store → Prop) : WpR (.ret a st) Q = Q a st := .trans rfl rfl
theorem WpR_toS {α : Type} (r : R α) (e : SEnv) (k : α → Store → SR) (Q : RV → Store → Prop) : WpR (r.toS e k) Q = Wp r fun a st => WpR (k a st) Q := by
  cases r <;> rfl
theorem WpR_seq (r : SR) (k : SEnv → Store → SR) (Q : RV → Store → Prop) : WpR (r.seq k) Q = WpS r ⟨fun e s => WpR (k e s) Q, fun _ _ => False, fun _ _ => False, Q⟩ := by
  cases r <;> rfl
@[simp] theorem WpR_ite (c : Prop) [Decidable c] (x y : SR) (Q : RV → Store → Prop) : WpR (if c then x else y) Q = if c then WpR x Q else WpR y Q := by split <;> rfl
@[simp] theorem WpS_ite (c : Prop) [Decidable c] (x y : SR) (T : Es) : WpS (if c then x else y) T = if c then WpS x T else WpS y T := by split <;> rfl
@[simp] theorem Wp_ite {α : Type} (c : Prop) [Decidable c] (x y : R α) (Q : α → Store → Prop) : Wp (if c then x else y) Q = if c then Wp x Q else Wp y Q := by split <;> rfl
end Ev

/-! ## Ev14a -/
set_option Elab.async false
set_option linter.all false
set_option maxRecDepth 100000
/-! Ev14a: more equations. -/
namespace Ev
open PySem
open Classical in
noncomputable def KRg1 (a : RV) (s : Store) : R RV := match a with
  | .v (.int j) => if rgOk 0 j then .ok (.t (rngL 0 j.toNat)) s else .bad
  | _ => .bad
open Classical in
noncomputable def KRg2 (fb : EE) (e : SEnv) (a : RV) (s : Store) : R RV := (fb e s).bind fun b st2 => match a, b with
  | .v (.int i), .v (.int j) => if rgOk i j then .ok (.t (rngL i (j - i).toNat)) st2 else .bad
  | _, _ => .bad
open Classical in
noncomputable def KRg3 (a b : RV) (st2 : Store) : R RV := match a, b with
  | .v (.int i), .v (.int j) => if rgOk i j then .ok (.t (rngL i (j - i).toNat)) st2 else .bad
  | _, _ => .bad
def KRevO (o : Option (List D)) (s : Store) : R RV := match o with
  | some l => .ok (.t l.reverse) s
  | none => .bad
def KRevL (a : RV) (s : Store) : R RV := KRevO (lstV s a) s
def KWR (o : Option (List D)) (a : RV) (s : Store) : R Walk := match o with
    | some l => .ok ⟨l.reverse, fun s => itR s a = some l⟩ s
    | none => .bad
def KWRev (a : RV) (s : Store) : R Walk := KWR (itR s a) a s
open Classical in
noncomputable def KWR1 (a : RV) (s : Store) : R Walk := match a with
  | .v (.int j) => if rOk j then .ok ⟨(rngL 0 j.toNat).reverse, fun _ => True⟩ s else .bad
  | _ => .bad
@[simp] theorem eRg1_at (fa : EE) (e : SEnv) (st : Store) : eRg1 fa e st = (fa e st).bind KRg1 := .trans rfl rfl
open Classical in
@[simp] theorem KRg1_at (j : Int) (s : Store) : KRg1 (.v (.int j)) s = if rgOk 0 j then .ok (.t (rngL 0 j.toNat)) s else .bad := .trans rfl rfl
@[simp] theorem eRg2_at (fa fb : EE) (e : SEnv) (st : Store) : eRg2 fa fb e st = (fa e st).bind (KRg2 fb e) := .trans rfl rfl
open Classical in
@[simp] theorem KRg2_at (fb : EE) (e : SEnv) (a : RV) (s : Store) : KRg2 fb e a s = (fb e s).bind (KRg3 a) := .trans rfl rfl
open Classical in
@[simp] theorem KRg3_at (i j : Int) (s : Store) : KRg3 (.v (.int i)) (.v (.int j)) s = if rgOk i j then .ok (.t (rngL i (j - i).toNat)) s else .bad := .trans rfl rfl
@[simp] theorem eRevL_at (fa : EE) (e : SEnv) (st : Store) : eRevL fa e st = (fa e st).bind KRevL := .trans rfl rfl
@[simp] theorem KRevL_at (a : RV) (s : Store) : KRevL a s = KRevO (lstV s a) s := .trans rfl rfl
@[simp] theorem KRevO_at (l : List D) (s : Store) : KRevO (some l) s = .ok (.t l.reverse) s := .trans rfl rfl
@[simp] theorem wRev_at (fa : EE) (e : SEnv) (st : Store) : wRev fa e st = (fa e st).bind KWRev := .trans rfl rfl
@[simp] theorem KWRev_at (a : RV) (s : Store) : KWRev a s = KWR (itR s a) a s := .trans rfl rfl
@[simp] theorem KWR_at (l : List D) (a : RV) (s : Store) : KWR (some l) a s = .ok ⟨l.reverse, fun s => itR s a = some l⟩ s := .trans rfl rfl
@[simp] theorem wRevR1_at (fa : EE) (e : SEnv) (st : Store) : wRevR1 fa e st = (fa e st).bind KWR1 := .trans rfl rfl
open Classical in
@[simp] theorem KWR1_at (j : Int) (s : Store) : KWR1 (.v (.int j)) s = if rOk j then .ok ⟨(rngL 0 j.toNat).reverse, fun _ => True⟩ s else .bad := .trans rfl rfl
theorem rgOk_of {i j : Int} (h1 : -1000000 ≤ i) (h2 : i ≤ 1000000) (h3 : -1000000 ≤ j) (h4 : j ≤ 1000000) : rgOk i j := by
  have : sLine = 16777216 := rfl
  unfold rgOk; omega
section
variable {st : Store}
@[simp] theorem lstV_t (l : List D) : lstV st (.t l) = some l := .trans rfl rfl
@[simp] theorem lstV_rol (l : List D) : lstV st (.v (.rol l)) = some l := .trans rfl rfl
@[simp] theorem lstV_ref (n : Nat) : lstV st (.v (.ref n)) = lstM st (.v (.ref n)) := .trans rfl rfl
@[simp] theorem itR_tup (l : List D) : itR st (.v (.tup l)) = some l := .trans rfl rfl
@[simp] theorem itR_t (l : List D) : itR st (.t l) = some l := .trans rfl rfl
@[simp] theorem itR_ref (n : Nat) : itR st (.v (.ref n)) = lstM st (.v (.ref n)) := .trans rfl rfl
theorem dSum_ok {a : RV} {ns : List Int} (h : lstV st a = some (ns.map D.int)) : dSum a st = some (.v (.int ns.sum)) := by
  rw [dSum, h]; simp
theorem dAny_ok {a : RV} {ns : List Bool} (h : lstV st a = some (ns.map D.bl)) : dAny a st = some (.v (.bl (ns.any id))) := by
  rw [dAny, h]; simp
theorem dAll_ok {a : RV} {ns : List Bool} (h : lstV st a = some (ns.map D.bl)) : dAll a st = some (.v (.bl (ns.all id))) := by
  rw [dAll, h]; simp
theorem dMax1_ok {a : RV} {ns : List Int} (h : lstV st a = some (ns.map D.int)) (h0 : ns ≠ []) : dMax1 a st = some (.v (.int (lMax ns))) := by
  rw [dMax1, h]
  cases ns with
  | nil => exact absurd rfl h0
  | cons n ns => simp only [intsOf_map]; rfl
theorem dMin1_ok {a : RV} {ns : List Int} (h : lstV st a = some (ns.map D.int)) (h0 : ns ≠ []) : dMin1 a st = some (.v (.int (lMin ns))) := by
  rw [dMin1, h]
  cases ns with
  | nil => exact absurd rfl h0
  | cons n ns => simp only [intsOf_map]; rfl
theorem dSorted_int {a : RV} {ns : List Int} (h : lstV st a = some (ns.map D.int)) : dSorted a st = some (.t ((iSort ns).map D.int)) := by
  rw [dSorted, h]; simp only [intsOf_map]; rfl
theorem strsOf_mapA (ps : List (List Nat)) : strsOf (ps.map D.str) = some ps := by
  induction ps with
  | nil => rfl
  | cons p ps ih => simp [strsOf, ih]
theorem sSort_nil : sSort [] = [] := by simp [sSort]
theorem iSort_nil : iSort [] = [] := by simp [iSort]
theorem dSorted_str {a : RV} {ns : List (List Nat)} (h : lstV st a = some (ns.map D.str)) (h64 : ns.length < 64) : dSorted a st = some (.t ((sSort ns).map D.str)) := by
  rw [dSorted, h]
  cases ns with
  | nil => simp [intsOf, oSort, iSort_nil, sSort_nil]
  | cons n ns =>
    have e : intsOf ((n :: ns).map D.str) = none := rfl
    simp only [e, strsOf_mapA, oSort]
    rw [if_pos h64]
@[simp] theorem dStr_int (i : Int) : dStr (.v (.int i)) st = if i.natAbs.log2 < 1920 then some (.v (.str (iShown i))) else none := .trans rfl rfl
end
open Classical in
noncomputable def KTRg1 (a : RV) (s : Store) : R RV := match a with
  | .v (.int j) => if rgOk 0 j then .ok (.v (.tup (rngL 0 j.toNat))) s else .bad
  | _ => .bad
@[simp] theorem eTRg1_at (fa : EE) (e : SEnv) (st : Store) : eTRg1 fa e st = (fa e st).bind KTRg1 := .trans rfl rfl
open Classical in
@[simp] theorem KTRg1_at (j : Int) (s : Store) : KTRg1 (.v (.int j)) s = if rgOk 0 j then .ok (.v (.tup (rngL 0 j.toNat))) s else .bad := .trans rfl rfl
end Ev

/-! ## Ev15 -/
set_option Elab.async false
set_option linter.all false
set_option maxRecDepth 100000
/-! Ev15: the tape of a law and what it draws. -/
namespace Ev
open PySem
instance (j : Int) : Decidable (rOk j) := inferInstanceAs (Decidable (_ ∧ _))
instance (i j : Int) : Decidable (rOk2 i j) := inferInstanceAs (Decidable (_ ∧ _))
instance (i j : Int) : Decidable (mOk i j) := inferInstanceAs (Decidable (_ ∨ _))
instance (a b : Int) : Decidable (rgOk a b) := inferInstanceAs (Decidable (_ ∧ _))
noncomputable def d_l_tape : SS :=
  (sSeq (sSet 1 (eC (.int 7)))
  (sSeq (sFor (wVal (eVar 0)) (.one 2) (
    (sSeq (sSet 1 (e2 dMod (eN (g1 dInt) (bCons (e2 dAdd (e2 dMulS (eVar 1) (eC (.int 31))) (eN (g1 dAbs) (bCons (eN (g1 dInt) (bCons (eVar 2) bNil)) bNil))) bNil)) (eC (.int 2147483647)))) sNil)))
  (sSeq (sRet (eLst (aCons (eN (g1 dList) (bCons (eVar 0) bNil)) (aCons (eC (.int 0)) (aCons (eC (.int 0)) (aCons (eVar 1) aNil)))))) sNil)))
noncomputable def c_l_tape : List D → Store → R RV := callB 3 d_l_tape
noncomputable def d_l_draw : SS :=
  (sSeq (sIf (eBool (e2 dEq (e2 dIx (eVar 0) (eC (.int 2))) (eC (.int 0)))) (
    (sSeq (sSet 2 (e2 dIx (eVar 0) (eC (.int 1))))
    (sSeq (sSet 3 (eC (.int 0)))
    (sSeq (sIf (eBool (e2 dLt (eVar 2) (eN (g1 dLen) (bCons (e2 dIx (eVar 0) (eC (.int 0))) bNil)))) (
      (sSeq (sSet 3 (eN (g1 dAbs) (bCons (eN (g1 dInt) (bCons (e2 dIx (e2 dIx (eVar 0) (eC (.int 0))) (eVar 2)) bNil)) bNil))) sNil)) (
      (sSeq (sPutIx (e2 dMod (eN (g1 dInt) (bCons (e2 dAdd (e2 dAdd (e2 dMulS (e2 dIx (eVar 0) (eC (.int 3))) (eC (.int 48271))) (eVar 2)) (eC (.int 1))) bNil)) (eC (.int 2147483647))) (eVar 0) (eC (.int 3)))
      (sSeq (sSet 3 (e2 dIx (eVar 0) (eC (.int 3)))) sNil))))
    (sSeq (sPutIx (e2 dAdd (eVar 2) (eC (.int 1))) (eVar 0) (eC (.int 1)))
    (sSeq (sIf (eBool (e2 dLt (eVar 3) (e2 dPow (eC (.int 10)) (eC (.int 18))))) (
      (sSeq (sSet 3 (e2 dMod (eN (g1 dInt) (bCons (e2 dAdd (e2 dAdd (e2 dMulS (eVar 3) (eC (.int 48271))) (e2 dMulS (eVar 2) (eC (.int 69621)))) (eC (.int 5))) bNil)) (eC (.int 2147483647))))
      (sSeq (sSet 3 (e2 dMod (eN (g1 dInt) (bCons (e2 dMulS (eVar 3) (eC (.int 69621))) bNil)) (eC (.int 2147483629))))
      (sSeq (sRet (e2 dMod (eN (g1 dInt) (bCons (eVar 3) bNil)) (eN (g2 dMax2) (bCons (eVar 1) (bCons (eC (.int 1)) bNil))))) sNil)))) sNil)
    (sSeq (sPutIx (eVar 3) (eVar 0) (eC (.int 2))) sNil))))))) sNil)
  (sSeq (sSet 3 (e2 dIx (eVar 0) (eC (.int 2))))
  (sSeq (sPutIx (e2 dDiv (eVar 3) (eN (g2 dMax2) (bCons (eVar 1) (bCons (eC (.int 2)) bNil)))) (eVar 0) (eC (.int 2)))
  (sSeq (sRet (e2 dMod (eN (g1 dInt) (bCons (eVar 3) bNil)) (eN (g2 dMax2) (bCons (eVar 1) (bCons (eC (.int 1)) bNil))))) sNil))))
noncomputable def c_l_draw : List D → Store → R RV := callB 4 d_l_draw
/-- what a call leaves of what its body leaves -/
def Lv (st : Store) (Q : RV → Store → Prop) (a : RV) (st' : Store) : Prop :=
  ∃ st0 more a', st' = st0 ++ more ∧ st0.length = st.length ∧ (∀ (i : Nat) (c : Cell), st0[i]? = some c → st[i]? = some c ∨ Cell.low st.length c = true) ∧ outV st.length st' a = some a' ∧ Q a' st0
theorem wpc {n : Nat} {g : SS} {ds : List D} {st : Store} {Q : RV → Store → Prop} (h : WpR (g (startE n ds) st) (Lv st Q)) : Wp (callB n g ds st) Q := wp_call h
theorem outV_pure {n : Nat} {st : Store} {d : D} (h : D.pure d = true) : outV n st (.v d) = some (.v d) := by
  cases d with
  | ref m => simp [D.pure] at h
  | _ => simp only [outV]; rw [if_pos (D.low_of_pure _ _ h)]
theorem Lv.same {st more : Store} {Q : RV → Store → Prop} {d : D} (hd : D.pure d = true) (q : Q (.v d) st) : Lv st Q (.v d) (st ++ more) := ⟨st, more, _, rfl, rfl, fun _ _ h => .inl h, outV_pure hd, q⟩
/-- the two cells of the tape, and the rest -/
def mkT (xs : List Int) (p q t : Int) (rest : Store) : Store := .lst (xs.map .int) :: .lst [.ref 0, .int p, .int q, .int t] :: rest
section
variable {xs : List Int} {p q t p' q' t' : Int} {rest more : Store}
@[simp high] theorem mkT_0 : (mkT xs p q t rest)[0]? = some (.lst (xs.map .int)) := rfl
@[simp high] theorem mkT_1 : (mkT xs p q t rest)[1]? = some (.lst [.ref 0, .int p, .int q, .int t]) := rfl
@[simp high] theorem mkT_at (n : Nat) : (mkT xs p q t rest)[n + 2]? = rest[n]? := rfl
@[simp high] theorem mkT_len : (mkT xs p q t rest).length = rest.length + 2 := rfl
@[simp high] theorem mkT_set : (mkT xs p q t rest).set 1 (.lst [.ref 0, .int p', .int q', .int t']) = mkT xs p' q' t' rest := rfl
@[simp high] theorem mkT_app : mkT xs p q t rest ++ more = mkT xs p q t (rest ++ more) := rfl
@[simp high] theorem mkT_setAt (n : Nat) (c : Cell) : (mkT xs p q t rest).set (n + 2) c = mkT xs p q t (rest.set n c) := rfl
theorem mkT_keep (i : Nat) (c : Cell) (h : (mkT xs p' q' t' rest)[i]? = some c) : (mkT xs p q t rest)[i]? = some c ∨ Cell.low (mkT xs p q t rest).length c = true := by
  match i, h with
  | 0, h => exact .inl h
  | 1, h =>
    refine .inr ?_
    simp at h
    subst h
    simp [Cell.low, D.lows, D.low]
  | i + 2, h => exact .inl h
theorem Lv.tape {Q : RV → Store → Prop} {d : D} (hd : D.pure d = true) (k : Q (.v d) (mkT xs p' q' t' rest)) : Lv (mkT xs p q t rest) Q (.v d) (mkT xs p' q' t' (rest ++ more)) :=
  ⟨mkT xs p' q' t' rest, more, _, rfl, rfl, mkT_keep, outV_pure hd, k⟩
theorem Lv.tape0 {Q : RV → Store → Prop} {d : D} (hd : D.pure d = true) (k : Q (.v d) (mkT xs p' q' t' rest)) : Lv (mkT xs p q t rest) Q (.v d) (mkT xs p' q' t' rest) :=
  ⟨mkT xs p' q' t' rest, [], _, by rw [List.append_nil], rfl, mkT_keep, outV_pure hd, k⟩
/-- a new list that is given back -/
theorem Lv.tapeL {Q : RV → Store → Prop} {l : List D} (hd : D.lows (rest.length + 2) l = true) (k : Q (.t l) (mkT xs p' q' t' rest)) : Lv (mkT xs p q t rest) Q (.t l) (mkT xs p' q' t' (rest ++ more)) :=
  ⟨mkT xs p' q' t' rest, more, _, rfl, rfl, mkT_keep, by simp [hd], k⟩
end
theorem tape_draw {xs : List Int} {p q t many : Int} {rest : Store} (hp : 0 ≤ p) (hq : 0 ≤ q) (hm : many < 1073741824) :
    ∃ r p' q' t', c_l_draw [.ref 1, .int many] (mkT xs p q t rest) = .ok (.v (.int r)) (mkT xs p' q' t' rest) ∧ 0 ≤ r ∧ r < max many 1 ∧ 0 ≤ p' ∧ 0 ≤ q' := by
  have main : Wp (c_l_draw [.ref 1, .int many] (mkT xs p q t rest)) fun a s => ∃ r p' q' t', a = .v (.int r) ∧ s = mkT xs p' q' t' rest ∧ 0 ≤ r ∧ r < max many 1 ∧ 0 ≤ p' ∧ 0 ≤ q' := by
    refine wpc ?_
    have key : ∀ n p' q' t' : Int, 0 ≤ p' → 0 ≤ q' → Lv (mkT xs p q t rest) (fun a s => ∃ r p' q' t', a = .v (.int r) ∧ s = mkT xs p' q' t' rest ∧ 0 ≤ r ∧ r < max many 1 ∧ 0 ≤ p' ∧ 0 ≤ q') (.v (.int (n % (if many < 1 then 1 else many)))) (mkT xs p' q' t' rest) := by
      intro n p' q' t' h1 h2
      have e : (if many < 1 then 1 else many) = max many 1 := by split <;> omega
      rw [e]
      exact Lv.tape0 rfl ⟨_, p', q', t', rfl, rfl, Int.emod_nonneg _ (by omega), Int.emod_lt_of_pos n (by omega), h1, h2⟩
    generalize Lv (mkT xs p q t rest) _ = Q at key ⊢
    have c1 : (0 : Int) < if many < 1 then 1 else many := by split <;> omega
    have c2 : (0 : Int) < (if many < 2 then 2 else many) ∧ (if many < 2 then 2 else many) < 1073741824 := by split <;> omega
    have dv : ∀ n : Int, 0 ≤ n → 0 ≤ n / (if many < 2 then 2 else many) := fun n h => Int.ediv_nonneg h (by omega)
    unfold d_l_draw
    simp [c1, c2, mOk_r]
    split
    · rename_i hq0
      split
      · rename_i hlt
        obtain ⟨b, e⟩ : ∃ b, L2.atI (xs.map D.int) p = some (.int b) := by
          obtain ⟨k, rfl⟩ := Int.eq_ofNat_of_zero_le hp
          have hk : k < xs.length := by omega
          exact ⟨xs[k], by rw [atI_lit, List.getElem?_map, List.getElem?_eq_getElem hk]; rfl⟩
        have hn : (0 : Int) ≤ if b < 0 then -b else b := by split <;> omega
        simp only [e, Option.map_some, lift_some, R.bind_ok, KB1_at, bNil_at, KB2_at, KN_at, g1_at, dInt_int, dAbs_int, R.toS_ok, KSet1_at, mat_v, KSet2_at]
        generalize (if b < 0 then -b else b) = a at hn ⊢
        simp [c1, c2, mOk_r]
        split
        · exact key _ _ _ _ (by omega) hq
        · exact key _ _ _ _ (by omega) (dv _ hn)
      · split
        · exact key _ _ _ _ (by omega) hq
        · exact key _ _ _ _ (by omega) (dv _ (Int.emod_nonneg _ (by decide)))
    · exact key _ _ _ _ hp (dv _ hq)
  obtain ⟨a, s, e, r, p', q', t', rfl, rfl, h⟩ := main.out
  exact ⟨r, p', q', t', e, h⟩
theorem tape_start {ns : List Int} : ∃ t, c_l_tape [.rol (ns.map .int)] [] = .ok (.t [.ref 0, .int 0, .int 0, .int t]) [.lst (ns.map .int)] := by
  have main : Wp (c_l_tape [.rol (ns.map .int)] []) fun a s => ∃ t, a = .t [.ref 0, .int 0, .int 0, .int t] ∧ s = [.lst (ns.map .int)] := by
    have h : WpR (d_l_tape (startE 3 [.rol (ns.map .int)]) []) fun a s => ∃ t, a = .t [.ref 0, .int 0, .int 0, .int t] ∧ s = [.lst (ns.map .int)] := by
      unfold d_l_tape
      simp
      rw [WpR_seq]
      refine wp_forL (fun ds e s => ∃ r t c, ds = r.map D.int ∧ e = [some (.rol (ns.map .int)), some (.int t), c] ∧ s = []) ⟨ns, 7, none, rfl, rfl, rfl⟩ ?_ ?_
      · rintro d ds e s ⟨r, t, c, h1, rfl, rfl⟩
        cases r with
        | nil => cases h1
        | cons n r =>
          cases h1
          refine ⟨_, rfl, ?_⟩
          simp [mOk_r]
          exact ⟨r, rfl⟩
      · rintro e s ⟨r, t, c, h1, rfl, rfl⟩
        simp [sLine]
    obtain ⟨a, s, h1, t, rfl, rfl⟩ := h.out
    refine Wp.of (a := .t [.ref 0, .int 0, .int 0, .int t]) (st := [.lst (ns.map .int)]) ?_ ⟨t, rfl, rfl⟩
    unfold c_l_tape callB
    rw [h1]
    simp [leave, D.lows, D.low]
  obtain ⟨a, s, e, t, rfl, rfl⟩ := main.out
  exact ⟨t, e⟩
end Ev


/-! ## Ev16 -/
set_option Elab.async false
set_option linter.all false
set_option maxRecDepth 100000
/-! Ev16: equality of plain data; texts. -/
namespace Ev
open PySem
/-- code points -/
def cpsOk (s : List Nat) : Bool := s.all fun c => decide (c < 0x110000)
-- plain data without truth values, nested at most k deep
mutual
def D.ok : Nat → D → Bool
  | _, .non => true
  | _, .int _ => true
  | _, .str s => cpsOk s
  | k, .tup l => match k with
    | 0 => false
    | k + 1 => D.oks k l
  | _, _ => false
def D.oks : Nat → List D → Bool
  | _, [] => true
  | k, d :: l => D.ok k d && D.oks k l
end
theorem oks_iff {k : Nat} : ∀ {l : List D}, D.oks k l = true ↔ ∀ d ∈ l, D.ok k d = true
  | [] => by simp [D.oks]
  | d :: l => by simp [D.oks, oks_iff (l := l)]
mutual
theorem ok_pure : ∀ (k : Nat) (d : D), D.ok k d = true → D.pure d = true
  | _, .non, _ => rfl
  | _, .int _, _ => rfl
  | _, .str s, _ => rfl
  | 0, .tup l, h => by simp [D.ok] at h
  | k + 1, .tup l, h => by
    rw [D.pure]
    exact oks_pures k l (by simpa [D.ok] using h)
  | _, .bl _, h => by simp [D.ok] at h
  | _, .rol _, h => by simp [D.ok] at h
  | _, .ref _, h => by simp [D.ok] at h
theorem oks_pures : ∀ (k : Nat) (l : List D), D.oks k l = true → D.pures l = true
  | _, [], _ => rfl
  | k, d :: l, h => by
    simp only [D.oks, Bool.and_eq_true] at h
    simp only [D.pures, Bool.and_eq_true]
    exact ⟨ok_pure k d h.1, oks_pures k l h.2⟩
end
mutual
theorem ok_lay : ∀ (k : Nat) (d : D), D.ok k d = true → (D.toPy d).canLay0 = true ∧ (D.toPy d).depth ≤ k
  | _, .non, _ => ⟨rfl, Nat.zero_le _⟩
  | _, .int _, _ => ⟨rfl, Nat.zero_le _⟩
  | _, .str s, h => by
    refine ⟨?_, Nat.zero_le _⟩
    simp only [D.ok, cpsOk] at h
    simp only [D.toPy, PyData.canLay0, PyData.strOk]
    simpa using h
  | 0, .tup l, h => by simp [D.ok] at h
  | k + 1, .tup l, h => by
    obtain ⟨h1, h2⟩ := oks_lay k l (by simpa [D.ok] using h)
    exact ⟨by simpa [D.toPy, PyData.canLay0] using h1, by simp only [D.toPy, PyData.depth]; omega⟩
  | _, .bl _, h => by simp [D.ok] at h
  | _, .rol _, h => by simp [D.ok] at h
  | _, .ref _, h => by simp [D.ok] at h
theorem oks_lay : ∀ (k : Nat) (l : List D), D.oks k l = true → PyData.canLayAll0 (D.toPys l) = true ∧ PyData.depthAll (D.toPys l) ≤ k
  | k, [], _ => ⟨rfl, Nat.zero_le _⟩
  | k, d :: l, h => by
    simp only [D.oks, Bool.and_eq_true] at h
    obtain ⟨h1, h2⟩ := ok_lay k d h.1
    obtain ⟨h3, h4⟩ := oks_lay k l h.2
    refine ⟨?_, ?_⟩
    · simp only [D.toPys, PyData.canLayAll0, h1, h3, Bool.and_self]
    · simp only [D.toPys, PyData.depthAll]; omega
end
theorem ok_shaped {d : D} (h : D.ok 64 d = true) : SeqAt.shaped (D.toPy d) = true := by
  obtain ⟨h1, h2⟩ := ok_lay 64 d h
  simp [SeqAt.shaped, h1, h2]
mutual
theorem eqv_ok : ∀ (k j : Nat) (a b : D), D.ok k a = true → D.ok j b = true → (PyData.eqv (D.toPy a) (D.toPy b) = true ↔ a = b)
  | k, j, .non, b, h, h2 => by cases b <;> simp [D.toPy, PyData.eqv, D.ok] at h2 ⊢
  | k, j, .int i, b, h, h2 => by cases b <;> simp [D.toPy, PyData.eqv, D.ok] at h2 ⊢
  | k, j, .str s, b, h, h2 => by
    cases b <;> simp [D.toPy, PyData.eqv, D.ok] at h2 ⊢
  | 0, j, .tup l, b, h, h2 => by simp [D.ok] at h
  | k + 1, j, .tup l, b, h, h2 => by
    cases b with
    | tup m =>
      cases j with
      | zero => simp [D.ok] at h2
      | succ j =>
        have := eqvs_ok k j l m (by simpa [D.ok] using h) (by simpa [D.ok] using h2)
        simpa [D.toPy, PyData.eqv] using this
    | _ => simp [D.toPy, PyData.eqv, D.ok] at h2 ⊢
  | k, j, .bl _, b, h, h2 => by simp [D.ok] at h
  | k, j, .rol _, b, h, h2 => by simp [D.ok] at h
  | k, j, .ref _, b, h, h2 => by simp [D.ok] at h
theorem eqvs_ok : ∀ (k j : Nat) (l m : List D), D.oks k l = true → D.oks j m = true → (PyData.eqvAll (D.toPys l) (D.toPys m) = true ↔ l = m)
  | k, j, [], [], _, _ => by simp [D.toPys, PyData.eqvAll]
  | k, j, [], d :: m, _, _ => by simp [D.toPys, PyData.eqvAll]
  | k, j, d :: l, [], _, _ => by simp [D.toPys, PyData.eqvAll]
  | k, j, d :: l, e :: m, h, h2 => by
    simp only [D.oks, Bool.and_eq_true] at h h2
    have a := eqv_ok k j d e h.1 h2.1
    have b := eqvs_ok k j l m h.2 h2.2
    simp only [D.toPys, PyData.eqvAll, Bool.and_eq_true, a, b, List.cons.injEq]
end
noncomputable instance : DecidableEq D := fun a b => Classical.propDecidable (a = b)
theorem dat_ok1 {st : Store} {d : D} (h : D.ok 64 d = true) : dat st (.v d) = some (D.toPy d) := by
  have hp := ok_pure _ _ h
  cases d with
  | ref n => simp [D.ok] at h
  | _ => simp only [dat]; rw [if_pos hp]
theorem eqB_plain {st : Store} {a b : D} (ha : D.ok 64 a = true) (hb : D.ok 64 b = true) : eqB (.v a) (.v b) st = some (decide (a = b)) := by
  have main : (match dat st (.v a), dat st (.v b) with
      | some x, some y => if SeqAt.shaped x && SeqAt.shaped y then some (PyData.eqv x y) else none
      | _, _ => none) = some (decide (a = b)) := by
    rw [dat_ok1 ha, dat_ok1 hb]
    simp only [ok_shaped ha, ok_shaped hb, Bool.and_self, if_true, Option.some.injEq]
    have := eqv_ok 64 64 a b ha hb
    by_cases h : a = b
    · simp [h, this.mpr h] ; subst h; exact this.mpr rfl
    · simp [h]
      cases q : PyData.eqv (D.toPy a) (D.toPy b) with
      | true => exact absurd (this.mp q) h
      | false => rfl
  unfold eqB
  split
  · rename_i e1 e2; cases e1; cases e2; simp [Bool.beq_eq_decide_eq]
  · rename_i e1 e2; cases e1; cases e2; simp
  · rename_i e1 e2; cases e1; simp [D.ok] at ha
  · rename_i e1 e2; cases e1; cases e2; simp
  · rename_i e1 e2; cases e1; cases e2; simp
  · rename_i e1 e2; cases e1; cases e2; simp
  · rename_i e1 e2; cases e1; cases e2; simp
  · rename_i e1 e2; cases e1; cases e2; simp
  · exact main
theorem dEq_plain {st : Store} {a b : D} (ha : D.ok 64 a = true) (hb : D.ok 64 b = true) : dEq (.v a) (.v b) st = some (.v (.bl (decide (a = b)))) := by
  rw [dEq, eqB_plain ha hb]; rfl
theorem dNe_plain {st : Store} {a b : D} (ha : D.ok 64 a = true) (hb : D.ok 64 b = true) : dNe (.v a) (.v b) st = some (.v (.bl (!decide (a = b)))) := by
  rw [dNe, eqB_plain ha hb]; rfl
theorem any_ok {a : D} (ha : D.ok 64 a = true) : ∀ {k : Nat} {l : List D}, D.oks k l = true → ((D.toPys l).any fun z => PyData.eqv z (D.toPy a)) = decide (a ∈ l)
  | k, [], _ => by simp [D.toPys]
  | k, d :: l, h => by
    simp only [D.oks, Bool.and_eq_true] at h
    simp only [D.toPys, List.any_cons, any_ok ha h.2]
    have := eqv_ok k 64 d a h.1 ha
    by_cases q : d = a
    · simp [q, this.mpr q]; subst q; simp [this.mpr rfl]
    · have q' : a ≠ d := fun e => q e.symm
      cases e : PyData.eqv (D.toPy d) (D.toPy a) with
      | true => exact absurd (this.mp e) q
      | false => simp [q']
theorem inB_tup {st : Store} {a : D} {l : List D} (ha : D.ok 64 a = true) (hl : D.ok 64 (.tup l) = true) : inB (.v a) (.v (.tup l)) st = some (decide (a ∈ l)) := by
  unfold inB
  split
  · rename_i e1 e2; cases e2
  · rw [dat_ok1 ha, dat_ok1 hl]
    have hs := ok_shaped hl
    simp only [D.toPy] at hs ⊢
    simp only [ok_shaped ha, hs, Bool.and_self, if_true, Option.some.injEq]
    exact any_ok ha (k := 63) (by simpa [D.ok] using hl)
theorem dIn_tup {st : Store} {a : D} {l : List D} (ha : D.ok 64 a = true) (hl : D.ok 64 (.tup l) = true) : dIn (.v a) (.v (.tup l)) st = some (.v (.bl (decide (a ∈ l)))) := by
  rw [dIn, inB_tup ha hl]; rfl
theorem dNotIn_tup {st : Store} {a : D} {l : List D} (ha : D.ok 64 a = true) (hl : D.ok 64 (.tup l) = true) : dNotIn (.v a) (.v (.tup l)) st = some (.v (.bl (!decide (a ∈ l)))) := by
  rw [dNotIn, inB_tup ha hl]; rfl
/-! ### texts -/
@[simp] theorem strsOf_map (ps : List (List Nat)) : strsOf (ps.map D.str) = some ps := by
  induction ps with
  | nil => rfl
  | cons p ps ih => simp [strsOf, ih]
theorem join_t {st : Store} {ps : List (List Nat)} (h : (ps.map (·.length)).sum ≤ sLine) : gJoin [] [.t (ps.map D.str)] st = some (.v (.str ps.flatten)) := by
  simp [gJoin, seqV, lstV, h]
theorem join_tup {st : Store} {ps : List (List Nat)} (h : (ps.map (·.length)).sum ≤ sLine) : gJoin [] [.v (.tup (ps.map D.str))] st = some (.v (.str ps.flatten)) := by
  simp [gJoin, seqV, h]
theorem sum_ones {cs : List Nat} : ((cs.map fun c => [c]).map (·.length)).sum = cs.length := by
  induction cs with
  | nil => rfl
  | cons c cs ih => simp only [List.map_cons, List.sum_cons, ih, List.length_cons, List.length_nil]; omega
theorem flat_ones (cs : List Nat) : (cs.map fun c => [c]).flatten = cs := by
  induction cs with
  | nil => rfl
  | cons c cs ih => simp only [List.map_cons, List.flatten_cons, ih]; rfl
theorem join_signs {st : Store} {cs : List Nat} (h : cs.length ≤ sLine) : gJoin [] [.t (cs.map fun c => D.str [c])] st = some (.v (.str cs)) := by
  have e : (cs.map fun c => D.str [c]) = (cs.map fun c => [c]).map D.str := by simp
  rw [e, join_t (by rw [sum_ones]; exact h), flat_ones]
@[simp high] theorem set_last (st : Store) (c c' : Cell) : (st ++ [c]).set st.length c' = st ++ [c'] := by
  rw [List.set_append_right _ _ (Nat.le_refl _), Nat.sub_self]; rfl
@[simp high] theorem at_last (st : Store) (c : Cell) : (st ++ [c])[st.length]? = some c := by simp
theorem cut_nat {α : Type} (l : List α) (a b : Nat) : cut l (some (a : Int)) (some (b : Int)) = (l.drop a).take (b - a) := by
  unfold cut
  rw [HT.sIx_nat, HT.sIx_nat]
  by_cases h : a ≤ l.length
  · rw [Nat.min_eq_left h]
    by_cases h2 : b ≤ l.length
    · rw [Nat.min_eq_left h2]
    · rw [Nat.min_eq_right (show l.length ≤ b by omega), List.take_of_length_le (by rw [List.length_drop]; omega), List.take_of_length_le (by rw [List.length_drop]; omega)]
  · rw [Nat.min_eq_right (show l.length ≤ a by omega), List.drop_eq_nil_of_le (Nat.le_refl _), List.drop_eq_nil_of_le (by omega)]; simp
theorem cut_from {α : Type} (l : List α) (a : Nat) : cut l (some (a : Int)) none = l.drop a := by
  unfold cut
  rw [HT.sIx_nat, HT.sIx_none]
  by_cases h : a ≤ l.length
  · rw [Nat.min_eq_left h, List.take_of_length_le (by rw [List.length_drop]; omega)]
  · rw [Nat.min_eq_right (show l.length ≤ a by omega), List.drop_eq_nil_of_le (Nat.le_refl _), List.drop_eq_nil_of_le (by omega)]; simp
theorem cut_to {α : Type} (l : List α) (b : Nat) : cut l none (some (b : Int)) = l.take b := by
  unfold cut
  rw [HT.sIx_nat, HT.sIx_none]
  simp only [List.drop_zero, Nat.sub_zero]
  by_cases h : b ≤ l.length
  · rw [Nat.min_eq_left h]
  · rw [Nat.min_eq_right (show l.length ≤ b by omega), List.take_of_length_le (Nat.le_refl _), List.take_of_length_le (by omega)]
/-! ### walks over ranges -/
theorem rngL_len (lo : Int) (n : Nat) : (rngL lo n).length = n := by simp [rngL]
theorem rngL_cons (lo : Int) (n : Nat) : rngL lo (n + 1) = .int lo :: rngL (lo + 1) n := by
  unfold rngL
  rw [List.range_succ_eq_map]
  simp only [List.map_cons, List.map_map]
  congr 1
  · simp
  · apply List.map_congr_left
    intro i _
    simp only [Function.comp]
    congr 1
    omega
@[simp] theorem rngL_zero (lo : Int) : rngL lo 0 = [] := rfl
end Ev

/-! ## Ev17 -/
set_option Elab.async false
set_option linter.all false
set_option maxRecDepth 100000
/-! Ev17: repr of plain data. -/
namespace Ev
open PySem
-- what repr shows: ints below 10 ** 40, nested at most k deep
mutual
def D.rp : Nat → D → Bool
  | _, .non => true
  | _, .bl _ => true
  | _, .int i => decide (i.natAbs < 10 ^ 40)
  | _, .str s => cpsOk s
  | k, .tup l => match k with
    | 0 => false
    | k + 1 => D.rps k l
  | _, _ => false
def D.rps : Nat → List D → Bool
  | _, [] => true
  | k, d :: l => D.rp k d && D.rps k l
end
mutual
def D.wt : D → Nat
  | .int _ => 140
  | .str s => s.length
  | .tup l => D.wts l
  | _ => 0
def D.wts : List D → Nat
  | [] => 0
  | d :: l => D.wt d + 1 + D.wts l
end
theorem rps_iff {k : Nat} : ∀ {l : List D}, D.rps k l = true ↔ ∀ d ∈ l, D.rp k d = true
  | [] => by simp [D.rps]
  | d :: l => by simp [D.rps, rps_iff (l := l)]
theorem wts_le {m : Nat} : ∀ {l : List D}, (∀ d ∈ l, D.wt d ≤ m) → D.wts l ≤ (m + 1) * l.length
  | [], _ => Nat.zero_le _
  | d :: l, h => by
    have h1 := h d (List.mem_cons_self ..)
    have h2 := wts_le (l := l) fun e he => h e (List.mem_cons_of_mem _ he)
    simp only [D.wts, List.length_cons, Nat.mul_add, Nat.mul_one]
    omega
theorem wts_app : ∀ (l m : List D), D.wts (l ++ m) = D.wts l + D.wts m
  | [], m => by simp [D.wts]
  | d :: l, m => by simp only [List.cons_append, D.wts, wts_app l m]; omega
theorem log_40 {n : Nat} (h : n < 10 ^ 40) : n.log2 < 139 := by
  by_cases h0 : n = 0
  · subst h0; decide
  · exact (Nat.log2_lt h0).mpr (Nat.lt_of_lt_of_le h (by decide))
mutual
theorem rp_pure : ∀ (k : Nat) (d : D), D.rp k d = true → D.pure d = true
  | _, .non, _ => rfl
  | _, .bl _, _ => rfl
  | _, .int _, _ => rfl
  | _, .str s, _ => rfl
  | 0, .tup l, h => by simp [D.rp] at h
  | k + 1, .tup l, h => by
    rw [D.pure]
    exact rps_pures k l (by simpa [D.rp] using h)
  | _, .rol _, h => by simp [D.rp] at h
  | _, .ref _, h => by simp [D.rp] at h
theorem rps_pures : ∀ (k : Nat) (l : List D), D.rps k l = true → D.pures l = true
  | _, [], _ => rfl
  | k, d :: l, h => by
    simp only [D.rps, Bool.and_eq_true] at h
    simp only [D.pures, Bool.and_eq_true]
    exact ⟨rp_pure k d h.1, rps_pures k l h.2⟩
end
structure Shows (k w : Nat) (p : PyData) : Prop where
  sh : p.showable = true
  nd : p.hasDict = false
  dp : p.depth ≤ k
  lv : p.leavesShort 41 = true
  wt : p.weight ≤ w
structure ShowsAll (k w : Nat) (p : List PyData) : Prop where
  sh : PyData.showableAll p = true
  nd : PyData.hasDictAll p = false
  dp : PyData.depthAll p ≤ k
  lv : PyData.leavesShortAll 41 p = true
  wt : PyData.weightAll p ≤ w
mutual
theorem rp_show : ∀ (k : Nat) (d : D), D.rp k d = true → Shows k (D.wt d) (D.toPy d)
  | k, .non, _ => ⟨rfl, rfl, Nat.zero_le _, rfl, Nat.le_refl _⟩
  | k, .bl b, _ => ⟨rfl, rfl, Nat.zero_le _, rfl, Nat.le_refl _⟩
  | k, .int i, h => by
    have h0 : i.natAbs < 10 ^ 40 := by
      simp only [D.rp] at h
      exact of_decide_eq_true h
    have hl := log_40 h0
    refine ⟨?_, rfl, Nat.zero_le _, ?_, ?_⟩
    · simp only [D.toPy, PyData.showable]
      exact decide_eq_true (by omega)
    · simp only [D.toPy, PyData.leavesShort]
      refine decide_eq_true ?_
      show (Str.ofString (toString i)).length ≤ 41
      rw [PySem.ofString_length]
      exact int_text_length_le10 (k := 40) (by decide) h0
    · simp only [D.toPy, PyData.weight, D.wt]
      split
      · exact Nat.zero_le _
      · omega
  | k, .str s, h => by
    refine ⟨rfl, rfl, Nat.zero_le _, ?_, ?_⟩
    · simp only [D.rp, cpsOk, List.all_eq_true, decide_eq_true_eq] at h
      simp only [D.toPy, PyData.leavesShort, List.all_eq_true, decide_eq_true_eq]
      intro c hc
      have := h c hc
      have e : (16 : Nat) ^ 8 = 4294967296 := by decide
      omega
    · simp [D.toPy, PyData.weight, D.wt]
  | 0, .tup l, h => by simp [D.rp] at h
  | k + 1, .tup l, h => by
    obtain ⟨h1, h2, h3, h4, h5⟩ := rps_show k l (by simpa [D.rp] using h)
    refine ⟨?_, ?_, ?_, ?_, ?_⟩
    · simpa [D.toPy, PyData.showable] using h1
    · simpa [D.toPy, PyData.hasDict] using h2
    · simp only [D.toPy, PyData.depth]; omega
    · simpa [D.toPy, PyData.leavesShort] using h4
    · simpa [D.toPy, PyData.weight, D.wt] using h5
  | _, .rol _, h => by simp [D.rp] at h
  | _, .ref _, h => by simp [D.rp] at h
theorem rps_show : ∀ (k : Nat) (l : List D), D.rps k l = true → ShowsAll k (D.wts l) (D.toPys l)
  | k, [], _ => ⟨rfl, rfl, Nat.zero_le _, rfl, Nat.le_refl _⟩
  | k, d :: l, h => by
    simp only [D.rps, Bool.and_eq_true] at h
    obtain ⟨a1, a2, a3, a4, a5⟩ := rp_show k d h.1
    obtain ⟨h1, h2, h3, h4, h5⟩ := rps_show k l h.2
    refine ⟨?_, ?_, ?_, ?_, ?_⟩
    · simp only [D.toPys, PyData.showableAll, a1, h1, Bool.and_self]
    · simp only [D.toPys, PyData.hasDictAll, a2, h2, Bool.or_self]
    · simp only [D.toPys, PyData.depthAll]; omega
    · simp only [D.toPys, PyData.leavesShortAll, a4, h4, Bool.and_self]
    · simp only [D.toPys, PyData.weightAll, D.wts]; omega
end
/-- the text that repr gives -/
def rpr (d : D) : List Nat := (D.toPy d).shown.cps.toList
theorem dRepr_ok {st : Store} {d : D} (h : D.rp 64 d = true) (hw : D.wt d ≤ 300000) : dRepr (.v d) st = some (.v (.str (rpr d))) := by
  obtain ⟨h1, h2, h3, h4, h5⟩ := rp_show 64 d h
  have hl := PyData.shown_le 41 (by decide) (D.toPy d) h4
  have hdat : dat st (.v d) = some (D.toPy d) := by
    have hp := rp_pure _ _ h
    cases d with
    | ref n => simp [D.rp] at h
    | _ => simp only [dat]; rw [if_pos hp]
  have hs : (D.toPy d).shown.length ≤ sLine := by
    have e : (41 + 2) * (D.toPy d).weight ≤ 43 * 300000 := Nat.mul_le_mul (by decide) (by omega)
    show _ ≤ 16777216
    omega
  simp only [dRepr, hdat]
  rw [if_pos ⟨h1, h2, h3, hs⟩]
  rfl
end Ev

/-! ## Ev18 -/
set_option Elab.async false
set_option linter.all false
set_option maxRecDepth 100000
/-! Ev18: what many laws draw: sizes, strings, texts. -/
namespace Ev
open PySem
noncomputable def d_l_size : SS :=
  (sSeq (sSet 2 (eCall c_l_draw [] (aCons (eVar 0) (aCons (eC (.int 12)) aNil))))
  (sSeq (sIf (eBool (e2 dLt (eVar 2) (eC (.int 7)))) (
    (sSeq (sRet (eN (g2 dMin2) (bCons (e2 dIx (eLst (aCons (eC (.int 0)) (aCons (eC (.int 1)) (aCons (eC (.int 2)) (aCons (eC (.int 3)) (aCons (eC (.int 5)) (aCons (eC (.int 8)) (aCons (eC (.int 12)) aNil)))))))) (eVar 2)) (bCons (eVar 1) bNil)))) sNil)) sNil)
  (sSeq (sIf (eBool (e2 dEq (eVar 2) (eC (.int 7)))) (
    (sSeq (sRet (eVar 1)) sNil)) sNil)
  (sSeq (sRet (eCall c_l_draw [] (aCons (eVar 0) (aCons (e2 dAdd (eVar 1) (eC (.int 1))) aNil)))) sNil))))
noncomputable def c_l_size : List D → Store → R RV := callB 3 d_l_size
noncomputable def d_l_string : SS :=
  (sSeq (sSet 2 (eC (.str [32, 33, 34, 35, 36, 38, 39, 40, 41, 42, 43, 44, 45, 46, 47, 48, 49, 50, 51, 52, 53, 54, 55, 56, 57, 58, 59, 60, 61, 62, 63, 64, 65, 66, 67, 68, 69, 70, 71, 72, 73, 74, 75, 76, 77, 78, 79, 80, 81, 82, 83, 84, 85, 86, 87, 88, 89, 90, 91, 92, 93, 94, 95, 96, 97, 98, 99, 100, 101, 102, 103, 104, 105, 106, 107, 108, 109, 110, 111, 112, 113, 114, 115, 116, 117, 118, 119, 120, 121, 122, 123, 124, 125, 126])))
  (sSeq (sSet 3 (e2 dIx (eLst (aCons (eC (.str [97, 98])) (aCons (eC (.str [97, 98])) (aCons (eC (.str [97, 98, 99])) (aCons (eVar 2) aNil))))) (eCall c_l_draw [] (aCons (eVar 0) (aCons (eC (.int 4)) aNil)))))
  (sSeq (sRet (eMtS gJoin (eC (.str [])) (bCons (eComp (wRng1 (bCons (eVar 1) bNil)) (.one 4) ttYes [4] (e2 dIx (eVar 3) (eCall c_l_draw [] (aCons (eVar 0) (aCons (eN (g1 dLen) (bCons (eVar 3) bNil)) aNil))))) bNil))) sNil)))
noncomputable def c_l_string : List D → Store → R RV := callB 5 d_l_string
noncomputable def d_l_stamped : SS :=
  (sSeq (sRet (eN (g1 dTuple) (bCons (eComp (wRng1 (bCons (eN (g1 dLen) (bCons (eVar 0) bNil)) bNil)) (.one 3) ttYes [3] (eTup (aCons (e2 dIx (eVar 0) (eVar 3)) (aCons (eVar 1) (aCons (e2 dAdd (eVar 2) (eVar 3)) aNil))))) bNil))) sNil)
noncomputable def c_l_stamped : List D → Store → R RV := callB 4 d_l_stamped
noncomputable def d_l_word : SS :=
  (sSeq (sRet (eMtS gJoin (eC (.str [])) (bCons (eComp (wVal (eVar 0)) (.one 1) ttYes [1] (e2 dIx (eVar 1) (eC (.int 0)))) bNil))) sNil)
noncomputable def c_l_word : List D → Store → R RV := callB 2 d_l_word
noncomputable def d_l_text : SS :=
  (sSeq (sSet 2 (eCall c_l_string [] (aCons (eVar 0) (aCons (eVar 1) aNil))))
  (sSeq (sRet (eN (g1 dTuple) (bCons (eComp (wVal (eVar 2)) (.one 3) ttYes [3] (eTup (aCons (eVar 3) (aCons (eCall c_l_draw [] (aCons (eVar 0) (aCons (eC (.int 4)) aNil))) (aCons (eCall c_l_draw [] (aCons (eVar 0) (aCons (eC (.int 100)) aNil))) aNil))))) bNil))) sNil))
noncomputable def c_l_text : List D → Store → R RV := callB 4 d_l_text
noncomputable def d_find : SS :=
  (sSeq (sSet 2 (eMtS gFind (eCall c_l_word [] (aCons (eVar 0) aNil)) (bCons (eCall c_l_word [] (aCons (eVar 1) aNil)) bNil)))
  (sSeq (sIf (eBool (e2 dLt (eVar 2) (eC (.int 0)))) (
    (sSeq (sRet (eTup (aCons (eC .non) (aCons (eVar 0) (aCons (eTup aNil) (aCons (eTup aNil) (aCons (e2 dAdd (eVar 1) (eVar 0)) aNil))))))) sNil)) sNil)
  (sSeq (sSet 3 (e2 dAdd (eVar 2) (eN (g1 dLen) (bCons (eVar 1) bNil))))
  (sSeq (sRet (eTup (aCons (eVar 2) (aCons (eSl (eVar 0) none (some (eVar 2))) (aCons (eSl (eVar 0) (some (eVar 2)) (some (eVar 3))) (aCons (eSl (eVar 0) (some (eVar 3)) none) (aCons (e2 dAdd (eVar 1) (eSl (eVar 0) none (some (eVar 3)))) aNil))))))) sNil))))
noncomputable def c_find : List D → Store → R RV := callB 4 d_find
noncomputable def d_replace_all : SS :=
  (sSeq (sIf (eBool (e2 dEq (eN (g1 dLen) (bCons (eVar 1) bNil)) (eC (.int 0)))) (
    (sSeq (sRet (eTup (aCons (eVar 0) (aCons (eTup aNil) aNil)))) sNil)) sNil)
  (sSeq (sSet 3 (eTup aNil))
  (sSeq (sTg (.many [4, 5, 6, 7, 8]) (eCall c_find [] (aCons (eVar 0) (aCons (eVar 1) aNil))))
  (sSeq (sWhile (eBool (e2 dNotN (eVar 4) (eC .non))) (
    (sSeq (sSet 3 (e2 dAdd (e2 dAdd (eVar 3) (eVar 5)) (eVar 2)))
    (sSeq (sTg (.many [4, 5, 6, 7, 8]) (eCall c_find [] (aCons (eVar 7) (aCons (eVar 1) aNil)))) sNil))))
  (sSeq (sRet (eTup (aCons (e2 dAdd (eVar 3) (eVar 5)) (aCons (e2 dAdd (eVar 1) (eVar 0)) aNil)))) sNil)))))
noncomputable def c_replace_all : List D → Store → R RV := callB 9 d_replace_all
theorem rngL_mem {lo : Int} {n : Nat} {d : D} (h : d ∈ rngL lo n) : ∃ k : Nat, k < n ∧ d = .int (lo + k) := by
  unfold rngL at h
  obtain ⟨k, h1, h2⟩ := List.mem_map.mp h
  exact ⟨k, List.mem_range.mp h1, h2.symm⟩
/-! ### sizes and strings -/
theorem size_ok {xs : List Int} {p q t most : Int} {rest : Store} (hp : 0 ≤ p) (hq : 0 ≤ q) (hm : 0 ≤ most) (hm2 : most ≤ 1000) :
    ∃ r p' q' t', c_l_size [.ref 1, .int most] (mkT xs p q t rest) = .ok (.v (.int r)) (mkT xs p' q' t' rest) ∧ 0 ≤ r ∧ r ≤ most ∧ 0 ≤ p' ∧ 0 ≤ q' := by
  have main : Wp (c_l_size [.ref 1, .int most] (mkT xs p q t rest)) fun a w => ∃ r p' q' t', a = .v (.int r) ∧ w = mkT xs p' q' t' rest ∧ 0 ≤ r ∧ r ≤ most ∧ 0 ≤ p' ∧ 0 ≤ q' := by
    refine wpc ?_
    obtain ⟨c, p1, q1, t1, e1, c0, c1, hp1, hq1⟩ := tape_draw (xs := xs) (t := t) (many := 12) (rest := rest) hp hq (by decide)
    have key : ∀ r p' q' t' : Int, 0 ≤ r → r ≤ most → 0 ≤ p' → 0 ≤ q' → Lv (mkT xs p q t rest) (fun a w => ∃ r p' q' t', a = .v (.int r) ∧ w = mkT xs p' q' t' rest ∧ 0 ≤ r ∧ r ≤ most ∧ 0 ≤ p' ∧ 0 ≤ q') (.v (.int r)) (mkT xs p' q' t' rest) :=
      fun r p' q' t' h1 h2 h3 h4 => Lv.tape0 rfl ⟨r, p', q', t', rfl, rfl, h1, h2, h3, h4⟩
    generalize Lv (mkT xs p q t rest) _ = Q at key ⊢
    obtain ⟨r, p2, q2, t2, e2, r0, r1, hp2, hq2⟩ := tape_draw (xs := xs) (t := t1) (many := most + 1) (rest := rest) hp1 hq1 (by omega)
    unfold d_l_size
    simp [e1]
    split
    · rename_i h7
      have : ∃ m : Int, L2.atI [D.int 0, D.int 1, D.int 2, D.int 3, D.int 5, D.int 8, D.int 12] c = some (.int m) ∧ 0 ≤ m := by
        have : c = 0 ∨ c = 1 ∨ c = 2 ∨ c = 3 ∨ c = 4 ∨ c = 5 ∨ c = 6 := by omega
        rcases this with rfl | rfl | rfl | rfl | rfl | rfl | rfl <;> exact ⟨_, rfl, by decide⟩
      obtain ⟨m, e3, m0⟩ := this
      simp [e3, sLine]
      exact key _ _ _ _ (by split <;> omega) (by split <;> omega) hp1 hq1
    · split
      · exact key _ _ _ _ hm (Int.le_refl _) hp1 hq1
      · simp [e2]
        exact key _ _ _ _ r0 (by omega) hp2 hq2
  obtain ⟨a, w, e, r, p', q', t', rfl, rfl, h⟩ := main.out
  exact ⟨r, p', q', t', e, h⟩
theorem string_ok {xs : List Int} {p q t n : Int} {rest : Store} (hp : 0 ≤ p) (hq : 0 ≤ q) (hn : 0 ≤ n) (hn2 : n ≤ 100000) :
    ∃ s p' q' t', c_l_string [.ref 1, .int n] (mkT xs p q t rest) = .ok (.v (.str s)) (mkT xs p' q' t' rest) ∧ s.length = n.toNat ∧ cpsOk s = true ∧ 0 ≤ p' ∧ 0 ≤ q' := by
  have main : Wp (c_l_string [.ref 1, .int n] (mkT xs p q t rest)) fun a w => ∃ s p' q' t', a = .v (.str s) ∧ w = mkT xs p' q' t' rest ∧ s.length = n.toNat ∧ cpsOk s = true ∧ 0 ≤ p' ∧ 0 ≤ q' := by
    refine wpc ?_
    obtain ⟨r, p1, q1, t1, e1, r0, r1, hp1, hq1⟩ := tape_draw (xs := xs) (t := t) (many := 4) (rest := rest) hp hq (by decide)
    unfold d_l_string
    have hev : ∃ ev : List Nat, ev = [32, 33, 34, 35, 36, 38, 39, 40, 41, 42, 43, 44, 45, 46, 47, 48, 49, 50, 51, 52, 53, 54, 55, 56, 57, 58, 59, 60, 61, 62, 63, 64, 65, 66, 67, 68, 69, 70, 71, 72, 73, 74, 75, 76, 77, 78, 79, 80, 81, 82, 83, 84, 85, 86, 87, 88, 89, 90, 91, 92, 93, 94, 95, 96, 97, 98, 99, 100, 101, 102, 103, 104, 105, 106, 107, 108, 109, 110, 111, 112, 113, 114, 115, 116, 117, 118, 119, 120, 121, 122, 123, 124, 125, 126] := ⟨_, rfl⟩
    obtain ⟨ev, hev⟩ := hev
    rw [← hev]
    have hev1 : 1 ≤ ev.length ∧ ev.length ≤ 1000 ∧ cpsOk ev = true := by rw [hev]; decide
    clear hev
    have hsl : sLine = 16777216 := rfl
    obtain ⟨m, e2, m1, m2, m3⟩ : ∃ m : List Nat, L2.atI [D.str [97, 98], D.str [97, 98], D.str [97, 98, 99], D.str ev] r = some (.str m) ∧ 1 ≤ m.length ∧ m.length ≤ 1000 ∧ cpsOk m = true := by
      have : r = 0 ∨ r = 1 ∨ r = 2 ∨ r = 3 := by omega
      rcases this with rfl | rfl | rfl | rfl
      · exact ⟨_, rfl, by decide, by decide, by decide⟩
      · exact ⟨_, rfl, by decide, by decide, by decide⟩
      · exact ⟨_, rfl, by decide, by decide, by decide⟩
      · exact ⟨_, rfl, hev1⟩
    have hml : m.length ≤ sLine := by omega
    have h4 : 4 ≤ sLine := by decide
    simp [e1, e2, h4]
    refine ⟨rOk_of (by omega) (by omega), by rw [rngL_len]; omega, ?_⟩
    simp only [WpR_seq, WpS_toS, Wp_bind]
    refine wp_comp (fun ds acc w => ∃ (cs : List Nat) (p q t : Int), acc = cs.map (fun c => D.str [c]) ∧ w = mkT xs p q t rest ∧ 0 ≤ p ∧ 0 ≤ q ∧ cpsOk cs = true ∧ cs.length + ds.length = n.toNat) ⟨[], p1, q1, t1, rfl, rfl, hp1, hq1, rfl, by rw [rngL_len]; simp⟩ ?_ ?_
    · rintro d ds acc w ⟨cs, p, q, t, rfl, rfl, hp, hq, hcs, hl⟩
      refine ⟨_, rfl, ?_⟩
      obtain ⟨r, p1, q1, t1, e1, r0, r1, hp1, hq1⟩ := tape_draw (xs := xs) (t := t) (many := m.length) (rest := rest) hp hq (by omega)
      obtain ⟨k, rfl⟩ := Int.eq_ofNat_of_zero_le r0
      have hk : k < m.length := by omega
      have e2 : L2.atI m (k : Int) = some m[k] := by rw [atI_lit, List.getElem?_eq_getElem hk]
      simp [hml, e1, e2]
      refine ⟨cs ++ [m[k]], by simp, p1, q1, ⟨t1, rfl⟩, hp1, hq1, ?_, ?_⟩
      · simp only [cpsOk, List.all_append, List.all_cons, List.all_nil, Bool.and_true, Bool.and_eq_true] at hcs m3 ⊢
        exact ⟨hcs, List.all_eq_true.mp m3 _ (List.getElem_mem hk)⟩
      · simp only [List.length_cons] at hl
        simp
        omega
    · rintro acc w ⟨cs, p, q, t, rfl, rfl, hp, hq, hcs, hl⟩
      simp only [List.length_nil, Nat.add_zero] at hl
      have e := join_signs (st := mkT xs p q t rest) (cs := cs) (by omega)
      simp [e]
      exact Lv.tape0 rfl ⟨cs, rfl, p, q, ⟨t, rfl⟩, hl, hcs, hp, hq⟩
  obtain ⟨a, w, e, s, p', q', t', rfl, rfl, h⟩ := main.out
  exact ⟨s, p', q', t', e, h⟩
/-! ### texts: signs with a change and an index -/
abbrev Ch := Nat × Int × Int
def chD (c : Ch) : D := .tup [.str [c.1], .int c.2.1, .int c.2.2]
def txD (l : List Ch) : D := .tup (l.map chD)
def stampL : List Nat → Int → Int → List Ch
  | [], _, _ => []
  | c :: s, ch, a => (c, ch, a) :: stampL s ch (a + 1)
theorem stampL_len : ∀ (s : List Nat) (ch a : Int), (stampL s ch a).length = s.length
  | [], _, _ => rfl
  | c :: s, ch, a => by simp [stampL, stampL_len s]
theorem stampL_signs : ∀ (s : List Nat) (ch a : Int), (stampL s ch a).map (·.1) = s
  | [], _, _ => rfl
  | c :: s, ch, a => by simp [stampL, stampL_signs s]
theorem stampL_at : ∀ (s : List Nat) (ch a : Int) (k : Nat), (stampL s ch a)[k]? = (s[k]?).map fun c => (c, ch, a + k)
  | [], _, _, k => by simp [stampL]
  | c :: s, ch, a, 0 => by simp [stampL]
  | c :: s, ch, a, k + 1 => by
    simp only [stampL, List.getElem?_cons_succ, stampL_at s ch (a + 1) k]
    congr 1
    funext x
    rw [show a + 1 + (k : Int) = a + ((k + 1 : Nat) : Int) by omega]
def stF (s : List Nat) (ch a : Int) (d : D) : D := match d with
  | .int k => .tup [.str [s.getD k.toNat 0], .int ch, .int (a + k)]
  | d => d
theorem stamp_map (s : List Nat) (ch a : Int) : (rngL 0 s.length).map (stF s ch a) = (stampL s ch a).map chD := by
  apply List.ext_getElem?
  intro i
  rw [List.getElem?_map, List.getElem?_map, stampL_at]
  unfold rngL
  rw [List.getElem?_map]
  by_cases h : i < s.length
  · rw [List.getElem?_range h, List.getElem?_eq_getElem h]
    simp [stF, chD, h]
  · rw [List.getElem?_eq_none (by simpa using h), List.getElem?_eq_none (by omega)]
    rfl
theorem chs_pure (l : List Ch) : D.pures (l.map chD) = true := by
  induction l with
  | nil => rfl
  | cons c l ih => simpa [D.pures, D.pure, chD] using ih
theorem stamped_ok {s : List Nat} {ch a : Int} {st : Store} (hs : s.length ≤ 100000) : c_l_stamped [.str s, .int ch, .int a] st = .ok (.v (txD (stampL s ch a))) st := by
  have hsl : sLine = 16777216 := rfl
  refine call_pure ?_ (by simpa [txD, D.pure] using chs_pure _)
  unfold d_l_stamped
  have e : compL (fun _ => True) (.one 3) ttYes (eTup (aCons (e2 dIx (eVar 0) (eVar 3)) (aCons (eVar 1) (aCons (e2 dAdd (eVar 2) (eVar 3)) aNil)))) [some (.str s), some (.int ch), some (.int a), none] (rngL 0 s.length) st = .ok ((stampL s ch a).map chD) st := by
    rw [← stamp_map]
    refine comp_map trivial fun d hd => ?_
    obtain ⟨k, hk, rfl⟩ := rngL_mem hd
    refine ⟨_, rfl, ?_⟩
    have e1 : L2.atI s ((0 : Int) + k) = some s[k] := by rw [Int.zero_add, atI_lit, List.getElem?_eq_getElem hk]
    have h1 : s.length ≤ sLine := by omega
    rw [Int.zero_add] at e1
    simp [e1, h1, stF, hk, show 3 ≤ sLine by decide]
  simp [show s.length ≤ sLine by omega]
  refine ⟨rOk_of (by omega) (by omega), by rw [rngL_len]; omega, ?_⟩
  simp [e, txD]
theorem word_ok {l : List Ch} {st : Store} (hl : l.length ≤ 1000000) : c_l_word [txD l] st = .ok (.v (.str (l.map (·.1)))) st := by
  have hsl : sLine = 16777216 := rfl
  refine call_pure ?_ rfl
  unfold d_l_word
  have e : compL (fun s => itV s (.v (txD l)) = some (l.map chD)) (.one 1) ttYes (e2 dIx (eVar 1) (eC (.int 0))) [some (txD l), none] (l.map chD) st = .ok ((l.map (·.1)).map fun c => D.str [c]) st := by
    have e0 : (l.map chD).map (fun d => match d with
      | .tup (x :: _) => x
      | d => d) = (l.map (·.1)).map fun c => D.str [c] := by
      rw [List.map_map, List.map_map]; rfl
    rw [← e0]
    refine comp_map rfl fun d hd => ?_
    obtain ⟨c, _, rfl⟩ := List.mem_map.mp hd
    refine ⟨_, rfl, ?_⟩
    simp [chD]
  have e' : compL (fun s => itV s (.v (txD l)) = some (l.map chD)) (.one 1) ttYes (e2 dIx (eVar 1) (eC (.int 0))) [some (txD l), none] (l.map chD) st = .ok ((l.map (·.1)).map fun c => D.str [c]) st := e
  have j := join_signs (st := st) (cs := l.map (·.1)) (by simp; omega)
  have h1 : l.length ≤ sLine := by omega
  simp only [txD] at e' ⊢
  simp [h1]
  simp at e' j
  simp [e', j]
theorem text_ok {xs : List Int} {p q t n : Int} {rest : Store} (hp : 0 ≤ p) (hq : 0 ≤ q) (hn : 0 ≤ n) (hn2 : n ≤ 100000) :
    ∃ l p' q' t', c_l_text [.ref 1, .int n] (mkT xs p q t rest) = .ok (.v (txD l)) (mkT xs p' q' t' rest) ∧ l.length = n.toNat ∧ (∀ c ∈ l, c.1 < 0x110000 ∧ 0 ≤ c.2.1 ∧ c.2.1 < 4 ∧ 0 ≤ c.2.2 ∧ c.2.2 < 100) ∧ 0 ≤ p' ∧ 0 ≤ q' := by
  have main : Wp (c_l_text [.ref 1, .int n] (mkT xs p q t rest)) fun a w => ∃ l p' q' t', a = .v (txD l) ∧ w = mkT xs p' q' t' rest ∧ l.length = n.toNat ∧ (∀ c ∈ l, c.1 < 0x110000 ∧ 0 ≤ c.2.1 ∧ c.2.1 < 4 ∧ 0 ≤ c.2.2 ∧ c.2.2 < 100) ∧ 0 ≤ p' ∧ 0 ≤ q' := by
    refine wpc ?_
    obtain ⟨s, p1, q1, t1, e1, s1, s2, hp1, hq1⟩ := string_ok (xs := xs) (t := t) (n := n) (rest := rest) hp hq hn hn2
    have hsl : sLine = 16777216 := rfl
    unfold d_l_text
    simp [e1, show s.length ≤ sLine by omega]
    simp only [WpR_seq, WpS_toS, Wp_bind]
    refine wp_comp (fun ds acc w => ∃ (l : List Ch) (r : List Nat) (p q t : Int), acc = l.map chD ∧ ds = r.map (fun c => D.str [c]) ∧ w = mkT xs p q t rest ∧ 0 ≤ p ∧ 0 ≤ q ∧ l.length + r.length = n.toNat ∧ (∀ c ∈ l, c.1 < 0x110000 ∧ 0 ≤ c.2.1 ∧ c.2.1 < 4 ∧ 0 ≤ c.2.2 ∧ c.2.2 < 100) ∧ cpsOk r = true) ⟨[], s, p1, q1, t1, rfl, rfl, rfl, hp1, hq1, by simpa using s1, by simp, s2⟩ ?_ ?_
    · rintro d ds acc w ⟨l, r, p, q, t, rfl, h1, rfl, hp, hq, hl, hc, hr⟩
      cases r with
      | nil => cases h1
      | cons c r =>
        cases h1
        refine ⟨_, rfl, ?_⟩
        obtain ⟨a, p1, q1, t1, e1, a0, a1, hp1, hq1⟩ := tape_draw (xs := xs) (t := t) (many := 4) (rest := rest) hp hq (by decide)
        obtain ⟨b, p2, q2, t2, e2, b0, b1, hp2, hq2⟩ := tape_draw (xs := xs) (t := t1) (many := 100) (rest := rest) hp1 hq1 (by decide)
        simp [e1, e2, sLine]
        simp only [cpsOk, List.all_cons, Bool.and_eq_true, decide_eq_true_eq] at hr
        refine ⟨l ++ [(c, a, b)], by simp [chD], r, rfl, p2, q2, ⟨t2, rfl⟩, hp2, hq2, ?_, ?_, ?_⟩
        · simp only [List.length_cons] at hl
          simp
          omega
        · intro x y z hx
          rcases List.mem_append.mp hx with hx | hx
          · exact hc (x, y, z) hx
          · simp at hx
            obtain ⟨rfl, rfl, rfl⟩ := hx
            exact ⟨hr.1, a0, by omega, b0, by omega⟩
        · exact hr.2
    · rintro acc w ⟨l, r, p, q, t, rfl, h1, rfl, hp, hq, hl, hc, hr⟩
      have : r = [] := by cases r with
        | nil => rfl
        | cons c r => cases h1
      subst this
      simp
      exact Lv.tape0 (by simpa [D.pure] using chs_pure l) ⟨l, rfl, p, q, ⟨t, rfl⟩, by simpa using hl, fun a b c h => hc (a, b, c) h, hp, hq⟩
  obtain ⟨a, w, e, l, p', q', t', rfl, rfl, h⟩ := main.out
  exact ⟨l, p', q', t', e, h⟩
end Ev

/-! ## Ev19 -/
set_option Elab.async false
set_option linter.all false
set_option maxRecDepth 100000
/-! Ev19: the first place of a text in a text; what is wanted. -/
namespace Ev
open PySem
noncomputable def d_l_wanted : SS :=
  (sSeq (sSet 2 (eCall c_l_draw [] (aCons (eVar 0) (aCons (eC (.int 6)) aNil))))
  (sSeq (sSet 3 (eCall c_l_draw [] (aCons (eVar 0) (aCons (e2 dAdd (eN (g1 dLen) (bCons (eVar 1) bNil)) (eC (.int 1))) aNil))))
  (sSeq (sSet 4 (eSl (eCall c_l_word [] (aCons (eVar 1) aNil)) (some (eVar 3)) (some (e2 dAdd (e2 dAdd (eVar 3) (eC (.int 1))) (eCall c_l_draw [] (aCons (eVar 0) (aCons (eC (.int 4)) aNil)))))))
  (sSeq (sIf (eBool (e2 dEq (eVar 2) (eC (.int 0)))) (
    (sSeq (sSet 4 (eC (.str []))) sNil)) sNil)
  (sSeq (sIf (eBool (e2 dEq (eVar 2) (eC (.int 1)))) (
    (sSeq (sSet 4 (e2 dAdd (eVar 4) (eCall c_l_string [] (aCons (eVar 0) (aCons (eC (.int 1)) aNil))))) sNil)) sNil)
  (sSeq (sIf (eBool (e2 dEq (eVar 2) (eC (.int 2)))) (
    (sSeq (sSet 4 (e2 dAdd (eSl (eVar 4) none (some (e1 dNeg (eC (.int 1))))) (eCall c_l_string [] (aCons (eVar 0) (aCons (eC (.int 1)) aNil))))) sNil)) sNil)
  (sSeq (sIf (eBool (e2 dEq (eVar 2) (eC (.int 3)))) (
    (sSeq (sSet 4 (eCall c_l_string [] (aCons (eVar 0) (aCons (eCall c_l_size [] (aCons (eVar 0) (aCons (eC (.int 5)) aNil))) aNil)))) sNil)) sNil)
  (sSeq (sRet (eCall c_l_stamped [] (aCons (eVar 4) (aCons (e2 dAdd (eC (.int 4)) (eCall c_l_draw [] (aCons (eVar 0) (aCons (eC (.int 3)) aNil)))) (aCons (eCall c_l_draw [] (aCons (eVar 0) (aCons (eC (.int 100)) aNil))) aNil))))) sNil))))))))
noncomputable def c_l_wanted : List D → Store → R RV := callB 5 d_l_wanted
/-! ### the first place of a text in a text -/
def hit (s w : List Nat) (i : Nat) : Prop := i + w.length ≤ s.length ∧ (s.drop i).take w.length = w
def FA (s w : List Nat) : Option Nat → Prop
  | none => ∀ i, ¬ hit s w i
  | some i => hit s w i ∧ ∀ k, k < i → ¬ hit s w k
theorem FA_some {s w : List Nat} {o : Option Nat} {i : Nat} (h : FA s w o) (h1 : hit s w i) (h2 : ∀ k, k < i → ¬ hit s w k) : o = some i := by
  cases o with
  | none => exact absurd h1 (h i)
  | some j =>
    have a : ¬ j < i := fun q => h2 j q h.1
    have b : ¬ i < j := fun q => h.2 i q h1
    rw [show j = i by omega]
theorem FA_none {s w : List Nat} {o : Option Nat} (h : FA s w o) (h1 : ∀ i, ¬ hit s w i) : o = none := by
  cases o with
  | none => rfl
  | some j => exact absurd h.1 (h1 j)
theorem at_hit (s w : List Nat) (i : Nat) : StrLaws.At ⟨s.toArray⟩ ⟨w.toArray⟩ (⟨s.toArray⟩ : Str).length i ↔ hit s w i := by
  unfold StrLaws.At hit
  rw [StrLaws.subAt_eq]
  simp [Str.length]
theorem find_val (s w : List Nat) : ∃ o, FA s w o ∧ Txt.find ⟨s.toArray⟩ ⟨w.toArray⟩ = (match o with
    | none => -1
    | some i => (i : Int)) := by
  rcases PyProof.Rows.find_whole ⟨s.toArray⟩ ⟨w.toArray⟩ with ⟨h, hn⟩ | ⟨i, h, h1, h2⟩
  · exact ⟨none, fun i q => hn i ((at_hit s w i).mpr q), h⟩
  · exact ⟨some i, ⟨(at_hit s w i).mp h1, fun k hk q => h2 k hk ((at_hit s w k).mpr q)⟩, h⟩
def sg (l : List Ch) : List Nat := l.map (·.1)
def resD (tx wd : List Ch) : Option Nat → D
  | none => .tup [.non, txD tx, .tup [], .tup [], txD (wd ++ tx)]
  | some i => .tup [.int i, txD (tx.take i), txD ((tx.drop i).take wd.length), txD (tx.drop (i + wd.length)), txD (wd ++ tx.take (i + wd.length))]
theorem tx_pure (l : List Ch) : D.pure (txD l) = true := by simpa [txD, D.pure] using chs_pure l
theorem res_pure (tx wd : List Ch) (o : Option Nat) : D.pure (resD tx wd o) = true := by
  cases o <;> simp [resD, D.pure, D.pures, tx_pure]
theorem cutA {α : Type} (l : List α) (i m : Nat) : cut l (some (i : Int)) (some ((i : Int) + (m : Int))) = (l.drop i).take m := by
  have := cut_nat l i (i + m)
  rw [show i + m - i = m by omega] at this
  exact this
theorem cutB {α : Type} (l : List α) (i m : Nat) : cut l (some ((i : Int) + (m : Int))) none = l.drop (i + m) := cut_from l (i + m)
theorem cutC {α : Type} (l : List α) (i m : Nat) : cut l none (some ((i : Int) + (m : Int))) = l.take (i + m) := cut_to l (i + m)
@[simp] theorem sl_tx (l : List Ch) (a b : Option Int) (st : Store) : dSl (.v (txD l)) a b st = some (.v (.tup (cut (l.map chD) a b))) := .trans rfl rfl
@[simp] theorem len_tx (l : List Ch) (st : Store) : dLen (.v (txD l)) st = some (.v (.int l.length)) := by
  show some (RV.v (D.int ((l.map chD).length : Nat))) = _
  rw [List.length_map]
theorem add_tx (a b : List Ch) (st : Store) (h : a.length + b.length ≤ sLine) : dAdd (.v (txD a)) (.v (txD b)) st = some (.v (txD (a ++ b))) := by
  show (if (a.map chD).length + (b.map chD).length ≤ sLine then some (RV.v (.tup (a.map chD ++ b.map chD))) else none) = _
  rw [List.length_map, List.length_map, if_pos h, ← List.map_append]; rfl
theorem cut_take (l : List Ch) (i : Nat) : D.tup (cut (l.map chD) none (some (i : Int))) = txD (l.take i) := by
  rw [cut_to, ← List.map_take]; rfl
theorem cut_takeC (l : List Ch) (i m : Nat) : D.tup (cut (l.map chD) none (some ((i : Int) + (m : Int)))) = txD (l.take (i + m)) := by
  rw [cutC, ← List.map_take]; rfl
theorem cut_midA (l : List Ch) (i m : Nat) : D.tup (cut (l.map chD) (some (i : Int)) (some ((i : Int) + (m : Int)))) = txD ((l.drop i).take m) := by
  rw [cutA, ← List.map_drop, ← List.map_take]; rfl
theorem cut_dropB (l : List Ch) (i m : Nat) : D.tup (cut (l.map chD) (some ((i : Int) + (m : Int))) none) = txD (l.drop (i + m)) := by
  rw [cutB, ← List.map_drop]; rfl
theorem find_ok {tx wd : List Ch} {o : Option Nat} {st : Store} (h : FA (sg tx) (sg wd) o) (h1 : tx.length ≤ 1000) (h2 : wd.length ≤ 1000) : c_find [txD tx, txD wd] st = .ok (.v (resD tx wd o)) st := by
  refine call_pure ?_ (res_pure _ _ _)
  have w1 : ∀ st, c_l_word [txD tx] st = .ok (.v (.str (sg tx))) st := fun st => word_ok (by omega)
  have w2 : ∀ st, c_l_word [txD wd] st = .ok (.v (.str (sg wd))) st := fun st => word_ok (by omega)
  obtain ⟨o', f1, f2⟩ := find_val (sg tx) (sg wd)
  have f3 : ∀ st, gFind (sg tx) [.v (.str (sg wd))] st = some (.v (.int (Txt.find ⟨(sg tx).toArray⟩ ⟨(sg wd).toArray⟩))) := fun _ => rfl
  have g5 : 5 ≤ sLine := by decide
  have g0 : 0 ≤ sLine := by decide
  have hsl : sLine = 16777216 := rfl
  have ad : ∀ a st, a.length ≤ 1000 → dAdd (.v (txD wd)) (.v (txD a)) st = some (.v (txD (wd ++ a))) := fun a st h => add_tx wd a st (by omega)
  unfold d_find
  cases o' with
  | none =>
    have : o = none := FA_none h f1
    subst this
    simp [w1, w2, f3, f2, g0, g5, ad, h1, resD]
  | some i =>
    have : o = some i := FA_some h f1.1 f1.2
    subst this
    have nn : ¬ (i : Int) < 0 := by omega
    have h3 : ∀ n st, dAdd (.v (txD wd)) (.v (txD (tx.take n))) st = some (.v (txD (wd ++ tx.take n))) := fun n st => ad _ _ (by rw [List.length_take]; omega)
    simp [w1, w2, f3, f2, nn, g5, cut_take, cut_takeC, cut_midA, cut_dropB, h3, resD]
/-! ### repr of what is told -/
def tOk (l : List Ch) : Prop := ∀ c ∈ l, c.1 < 0x110000 ∧ c.2.1.natAbs < 1000000 ∧ c.2.2.natAbs < 1000000
theorem rp_ch {c : Ch} (h : c.1 < 0x110000 ∧ c.2.1.natAbs < 1000000 ∧ c.2.2.natAbs < 1000000) : D.rp 62 (chD c) = true := by
  have e : (10 : Nat) ^ 40 = 10000000000000000000000000000000000000000 := by decide
  simp only [chD, D.rp, D.rps, cpsOk, List.all_cons, List.all_nil, Bool.and_true, Bool.and_eq_true, decide_eq_true_eq]
  omega
theorem rp_tx {l : List Ch} (h : tOk l) : D.rp 63 (txD l) = true := by
  simp only [txD, D.rp]
  rw [rps_iff]
  intro d hd
  obtain ⟨c, hc, rfl⟩ := List.mem_map.mp hd
  exact rp_ch (h c hc)
theorem wt_tx (l : List Ch) : D.wt (txD l) ≤ 285 * l.length := by
  have := wts_le (m := 284) (l := l.map chD) fun d hd => by
    obtain ⟨c, _, rfl⟩ := List.mem_map.mp hd
    simp [chD, D.wt, D.wts]
  simpa [txD, D.wt] using this
theorem tOk.sub {l m : List Ch} (h : tOk l) (hs : ∀ c ∈ m, c ∈ l) : tOk m := fun c hc => h c (hs c hc)
theorem tOk.app {l m : List Ch} (h : tOk l) (h2 : tOk m) : tOk (l ++ m) := fun c hc => (List.mem_append.mp hc).elim (h c) (h2 c)
/-! ### what is wanted -/
theorem cut_mem {α : Type} {l : List α} {a b : Option Int} {x : α} (h : x ∈ cut l a b) : x ∈ l := List.mem_of_mem_drop (List.mem_of_mem_take h)
theorem cut_len {α : Type} (l : List α) (a b : Option Int) : (cut l a b).length ≤ l.length := by
  unfold cut
  rw [List.length_take, List.length_drop]
  omega
theorem cps_cut {l : List Nat} {a b : Option Int} (h : cpsOk l = true) : cpsOk (cut l a b) = true := by
  simp only [cpsOk, List.all_eq_true] at h ⊢
  exact fun x hx => h x (cut_mem hx)
theorem cps_app {l m : List Nat} (h : cpsOk l = true) (h2 : cpsOk m = true) : cpsOk (l ++ m) = true := by
  simp only [cpsOk, List.all_append, Bool.and_eq_true] at h h2 ⊢
  exact ⟨h, h2⟩
theorem stampL_ok : ∀ {s : List Nat} {ch a : Int}, cpsOk s = true → 0 ≤ ch → ch < 1000000 → 0 ≤ a → a + s.length < 1000000 → tOk (stampL s ch a)
  | [], _, _, _, _, _, _, _ => fun c hc => by cases hc
  | x :: s, ch, a, h, h1, h2, h3, h4 => by
    simp only [cpsOk, List.all_cons, Bool.and_eq_true, decide_eq_true_eq] at h
    simp only [List.length_cons] at h4
    intro c hc
    rcases List.mem_cons.mp hc with rfl | hc
    · exact ⟨h.1, by show ch.natAbs < _; omega, by show a.natAbs < _; omega⟩
    · exact stampL_ok (s := s) h.2 h1 h2 (by omega) (by omega) c hc
noncomputable def d_wtail : SS := (sSeq (sRet (eCall c_l_stamped [] (aCons (eVar 4) (aCons (e2 dAdd (eC (.int 4)) (eCall c_l_draw [] (aCons (eVar 0) (aCons (eC (.int 3)) aNil)))) (aCons (eCall c_l_draw [] (aCons (eVar 0) (aCons (eC (.int 100)) aNil))) aNil))))) sNil)
theorem wanted_eq : d_l_wanted = (sSeq (sSet 2 (eCall c_l_draw [] (aCons (eVar 0) (aCons (eC (.int 6)) aNil))))
  (sSeq (sSet 3 (eCall c_l_draw [] (aCons (eVar 0) (aCons (e2 dAdd (eN (g1 dLen) (bCons (eVar 1) bNil)) (eC (.int 1))) aNil))))
  (sSeq (sSet 4 (eSl (eCall c_l_word [] (aCons (eVar 1) aNil)) (some (eVar 3)) (some (e2 dAdd (e2 dAdd (eVar 3) (eC (.int 1))) (eCall c_l_draw [] (aCons (eVar 0) (aCons (eC (.int 4)) aNil)))))))
  (sSeq (sIf (eBool (e2 dEq (eVar 2) (eC (.int 0)))) (
    (sSeq (sSet 4 (eC (.str []))) sNil)) sNil)
  (sSeq (sIf (eBool (e2 dEq (eVar 2) (eC (.int 1)))) (
    (sSeq (sSet 4 (e2 dAdd (eVar 4) (eCall c_l_string [] (aCons (eVar 0) (aCons (eC (.int 1)) aNil))))) sNil)) sNil)
  (sSeq (sIf (eBool (e2 dEq (eVar 2) (eC (.int 2)))) (
    (sSeq (sSet 4 (e2 dAdd (eSl (eVar 4) none (some (e1 dNeg (eC (.int 1))))) (eCall c_l_string [] (aCons (eVar 0) (aCons (eC (.int 1)) aNil))))) sNil)) sNil)
  (sSeq (sIf (eBool (e2 dEq (eVar 2) (eC (.int 3)))) (
    (sSeq (sSet 4 (eCall c_l_string [] (aCons (eVar 0) (aCons (eCall c_l_size [] (aCons (eVar 0) (aCons (eC (.int 5)) aNil))) aNil)))) sNil)) sNil)
  d_wtail))))))) := rfl
theorem wanted_ok {xs : List Int} {p q t : Int} {rest : Store} {tx : List Ch} (hp : 0 ≤ p) (hq : 0 ≤ q) (ht : tx.length ≤ 40) (hc : cpsOk (sg tx) = true) :
    ∃ (l : List Ch) (p' q' t' : Int), c_l_wanted [.ref 1, txD tx] (mkT xs p q t rest) = .ok (.v (txD l)) (mkT xs p' q' t' rest) ∧ l.length ≤ 50 ∧ tOk l ∧ 0 ≤ p' ∧ 0 ≤ q' := by
  have main : Wp (c_l_wanted [.ref 1, txD tx] (mkT xs p q t rest)) fun a w => ∃ (l : List Ch) (p' q' t' : Int), a = .v (txD l) ∧ w = mkT xs p' q' t' rest ∧ l.length ≤ 50 ∧ tOk l ∧ 0 ≤ p' ∧ 0 ≤ q' := by
    refine wpc ?_
    have key : ∀ (l : List Ch) (p' q' t' : Int), l.length ≤ 50 → tOk l → 0 ≤ p' → 0 ≤ q' → Lv (mkT xs p q t rest) (fun a w => ∃ (l : List Ch) (p' q' t' : Int), a = .v (txD l) ∧ w = mkT xs p' q' t' rest ∧ l.length ≤ 50 ∧ tOk l ∧ 0 ≤ p' ∧ 0 ≤ q') (.v (txD l)) (mkT xs p' q' t' rest) :=
      fun l p' q' t' h1 h2 h3 h4 => Lv.tape0 (tx_pure l) ⟨l, p', q', t', rfl, rfl, h1, h2, h3, h4⟩
    generalize Lv (mkT xs p q t rest) _ = Q at key ⊢
    have tl : ∀ (x1 x2 x3 : Option D) (u : List Nat) (p q t : Int), u.length ≤ 50 → cpsOk u = true → 0 ≤ p → 0 ≤ q → WpR (d_wtail [some (.ref 1), x1, x2, x3, some (.str u)] (mkT xs p q t rest)) Q := by
      intro x1 x2 x3 u p q t hu hcu hp hq
      obtain ⟨a, p1, q1, t1, e1, a0, a1, hp1, hq1⟩ := tape_draw (xs := xs) (t := t) (many := 3) (rest := rest) hp hq (by decide)
      obtain ⟨b, p2, q2, t2, e2, b0, b1, hp2, hq2⟩ := tape_draw (xs := xs) (t := t1) (many := 100) (rest := rest) hp1 hq1 (by decide)
      have e3 := stamped_ok (s := u) (ch := 4 + a) (a := b) (st := mkT xs p2 q2 t2 rest) (by omega)
      unfold d_wtail
      simp [e1, e2, e3]
      exact key _ _ _ _ (by rw [stampL_len]; exact hu) (stampL_ok hcu (by omega) (by omega) b0 (by omega)) hp2 hq2
    have hsl : sLine = 16777216 := rfl
    have l1 : (sg tx).length = tx.length := by simp [sg]
    have g1 : tx.length ≤ sLine := by omega
    have w1 : ∀ st, c_l_word [txD tx] st = .ok (.v (.str (sg tx))) st := fun st => word_ok (by omega)
    obtain ⟨a, p1, q1, t1, e1, a0, a1, hp1, hq1⟩ := tape_draw (xs := xs) (t := t) (many := 6) (rest := rest) hp hq (by decide)
    obtain ⟨b, p2, q2, t2, e2, b0, b1, hp2, hq2⟩ := tape_draw (xs := xs) (t := t1) (many := (tx.length : Int) + 1) (rest := rest) hp1 hq1 (by omega)
    obtain ⟨c, p3, q3, t3, e3, c0, c1, hp3, hq3⟩ := tape_draw (xs := xs) (t := t2) (many := 4) (rest := rest) hp2 hq2 (by decide)
    obtain ⟨u, p4, q4, t4, e4, u1, u2, hp4, hq4⟩ := string_ok (xs := xs) (t := t3) (n := 1) (rest := rest) hp3 hq3 (by decide) (by decide)
    obtain ⟨n, p5, q5, t5, e5, n0, n1, hp5, hq5⟩ := size_ok (xs := xs) (t := t3) (most := 5) (rest := rest) hp3 hq3 (by decide) (by decide)
    obtain ⟨v, p6, q6, t6, e6, v1, v2, hp6, hq6⟩ := string_ok (xs := xs) (t := t5) (n := n) (rest := rest) hp5 hq5 n0 (by omega)
    have u3 : u.length = 1 := by rw [u1]; rfl
    obtain ⟨z, hz⟩ : ∃ z, z = cut (sg tx) (some b) (some (b + 1 + c)) := ⟨_, rfl⟩
    have z1 : z.length ≤ 40 := by rw [hz]; exact Nat.le_trans (cut_len _ _ _) (by omega)
    have z2 : cpsOk z = true := by rw [hz]; exact cps_cut hc
    have y1 : (cut z none (some (-1))).length ≤ 40 := Nat.le_trans (cut_len _ _ _) z1
    have y2 : cpsOk (cut z none (some (-1))) = true := cps_cut z2
    have g2 : z.length ≤ sLine := by omega
    have g3 : z.length + 1 ≤ sLine := by omega
    have g4 : (cut z none (some (-1))).length + 1 ≤ sLine := by omega
    rw [wanted_eq]
    have : a = 0 ∨ a = 1 ∨ a = 2 ∨ a = 3 ∨ a = 4 ∨ a = 5 := by omega
    rcases this with rfl | rfl | rfl | rfl | rfl | rfl
    · simp [e1, e2, w1, e3, l1, g1, ← hz]
      exact tl _ _ _ _ _ _ _ (by decide) rfl hp3 hq3
    · simp [e1, e2, w1, e3, l1, g1, ← hz, e4, u3, g3]
      exact tl _ _ _ _ _ _ _ (by rw [List.length_append]; omega) (cps_app z2 u2) hp4 hq4
    · simp [e1, e2, w1, e3, l1, g1, ← hz, e4, u3, g2, g4]
      exact tl _ _ _ _ _ _ _ (by rw [List.length_append]; omega) (cps_app y2 u2) hp4 hq4
    · simp [e1, e2, w1, e3, l1, g1, ← hz, e5, e6]
      exact tl _ _ _ _ _ _ _ (by omega) v2 hp6 hq6
    · simp [e1, e2, w1, e3, l1, g1, ← hz]
      exact tl _ _ _ _ _ _ _ (by omega) z2 hp3 hq3
    · simp [e1, e2, w1, e3, l1, g1, ← hz]
      exact tl _ _ _ _ _ _ _ (by omega) z2 hp3 hq3
  obtain ⟨a, w, e, l, p', q', t', rfl, rfl, h⟩ := main.out
  exact ⟨l, p', q', t', e, h⟩
end Ev

/-! ## Ev20 -/
set_option Elab.async false
set_option linter.all false
set_option maxRecDepth 100000
/-! Ev20: repr of plain data with ints below 10 ** 12 (a sharper weight). -/
namespace Ev
open PySem
-- what repr shows: ints below 10 ** 12, nested at most k deep
mutual
def D.rq : Nat → D → Bool
  | _, .non => true
  | _, .bl _ => true
  | _, .int i => decide (i.natAbs < 10 ^ 12)
  | _, .str s => cpsOk s
  | k, .tup l => match k with
    | 0 => false
    | k + 1 => D.rqs k l
  | _, _ => false
def D.rqs : Nat → List D → Bool
  | _, [] => true
  | k, d :: l => D.rq k d && D.rqs k l
end
mutual
def D.wq : D → Nat
  | .int _ => 41
  | .str s => s.length
  | .tup l => D.wqs l
  | _ => 0
def D.wqs : List D → Nat
  | [] => 0
  | d :: l => D.wq d + 1 + D.wqs l
end
theorem rqs_iff {k : Nat} : ∀ {l : List D}, D.rqs k l = true ↔ ∀ d ∈ l, D.rq k d = true
  | [] => by simp [D.rqs]
  | d :: l => by simp [D.rqs, rqs_iff (l := l)]
theorem wqs_le {m : Nat} : ∀ {l : List D}, (∀ d ∈ l, D.wq d ≤ m) → D.wqs l ≤ (m + 1) * l.length
  | [], _ => Nat.zero_le _
  | d :: l, h => by
    have h1 := h d (List.mem_cons_self ..)
    have h2 := wqs_le (l := l) fun e he => h e (List.mem_cons_of_mem _ he)
    simp only [D.wqs, List.length_cons, Nat.mul_add, Nat.mul_one]
    omega
theorem wqs_app : ∀ (l m : List D), D.wqs (l ++ m) = D.wqs l + D.wqs m
  | [], m => by simp [D.wqs]
  | d :: l, m => by simp only [List.cons_append, D.wqs, wqs_app l m]; omega
theorem log_12 {n : Nat} (h : n < 10 ^ 12) : n.log2 < 40 := by
  by_cases h0 : n = 0
  · subst h0; decide
  · exact (Nat.log2_lt h0).mpr (Nat.lt_of_lt_of_le h (by decide))
mutual
theorem rq_pure : ∀ (k : Nat) (d : D), D.rq k d = true → D.pure d = true
  | _, .non, _ => rfl
  | _, .bl _, _ => rfl
  | _, .int _, _ => rfl
  | _, .str s, _ => rfl
  | 0, .tup l, h => by simp [D.rq] at h
  | k + 1, .tup l, h => by
    rw [D.pure]
    exact rqs_pures k l (by simpa [D.rq] using h)
  | _, .rol _, h => by simp [D.rq] at h
  | _, .ref _, h => by simp [D.rq] at h
theorem rqs_pures : ∀ (k : Nat) (l : List D), D.rqs k l = true → D.pures l = true
  | _, [], _ => rfl
  | k, d :: l, h => by
    simp only [D.rqs, Bool.and_eq_true] at h
    simp only [D.pures, Bool.and_eq_true]
    exact ⟨rq_pure k d h.1, rqs_pures k l h.2⟩
end
structure ShowsQ (k w : Nat) (p : PyData) : Prop where
  sh : p.showable = true
  nd : p.hasDict = false
  dp : p.depth ≤ k
  lv : p.leavesShort 13 = true
  wt : p.weight ≤ w
structure ShowsQs (k w : Nat) (p : List PyData) : Prop where
  sh : PyData.showableAll p = true
  nd : PyData.hasDictAll p = false
  dp : PyData.depthAll p ≤ k
  lv : PyData.leavesShortAll 13 p = true
  wt : PyData.weightAll p ≤ w
mutual
theorem rq_show : ∀ (k : Nat) (d : D), D.rq k d = true → ShowsQ k (D.wq d) (D.toPy d)
  | k, .non, _ => ⟨rfl, rfl, Nat.zero_le _, rfl, Nat.le_refl _⟩
  | k, .bl b, _ => ⟨rfl, rfl, Nat.zero_le _, rfl, Nat.le_refl _⟩
  | k, .int i, h => by
    have h0 : i.natAbs < 10 ^ 12 := by
      simp only [D.rq] at h
      exact of_decide_eq_true h
    have hl := log_12 h0
    refine ⟨?_, rfl, Nat.zero_le _, ?_, ?_⟩
    · simp only [D.toPy, PyData.showable]
      exact decide_eq_true (by omega)
    · simp only [D.toPy, PyData.leavesShort]
      refine decide_eq_true ?_
      show (Str.ofString (toString i)).length ≤ 13
      rw [PySem.ofString_length]
      exact int_text_length_le10 (k := 12) (by decide) h0
    · simp only [D.toPy, PyData.weight, D.wq]
      split
      · exact Nat.zero_le _
      · omega
  | k, .str s, h => by
    refine ⟨rfl, rfl, Nat.zero_le _, ?_, ?_⟩
    · simp only [D.rq, cpsOk, List.all_eq_true, decide_eq_true_eq] at h
      simp only [D.toPy, PyData.leavesShort, List.all_eq_true, decide_eq_true_eq]
      intro c hc
      have := h c hc
      have e : (16 : Nat) ^ 8 = 4294967296 := by decide
      omega
    · simp [D.toPy, PyData.weight, D.wq]
  | 0, .tup l, h => by simp [D.rq] at h
  | k + 1, .tup l, h => by
    obtain ⟨h1, h2, h3, h4, h5⟩ := rqs_show k l (by simpa [D.rq] using h)
    refine ⟨?_, ?_, ?_, ?_, ?_⟩
    · simpa [D.toPy, PyData.showable] using h1
    · simpa [D.toPy, PyData.hasDict] using h2
    · simp only [D.toPy, PyData.depth]; omega
    · simpa [D.toPy, PyData.leavesShort] using h4
    · simpa [D.toPy, PyData.weight, D.wq] using h5
  | _, .rol _, h => by simp [D.rq] at h
  | _, .ref _, h => by simp [D.rq] at h
theorem rqs_show : ∀ (k : Nat) (l : List D), D.rqs k l = true → ShowsQs k (D.wqs l) (D.toPys l)
  | k, [], _ => ⟨rfl, rfl, Nat.zero_le _, rfl, Nat.le_refl _⟩
  | k, d :: l, h => by
    simp only [D.rqs, Bool.and_eq_true] at h
    obtain ⟨a1, a2, a3, a4, a5⟩ := rq_show k d h.1
    obtain ⟨h1, h2, h3, h4, h5⟩ := rqs_show k l h.2
    refine ⟨?_, ?_, ?_, ?_, ?_⟩
    · simp only [D.toPys, PyData.showableAll, a1, h1, Bool.and_self]
    · simp only [D.toPys, PyData.hasDictAll, a2, h2, Bool.or_self]
    · simp only [D.toPys, PyData.depthAll]; omega
    · simp only [D.toPys, PyData.leavesShortAll, a4, h4, Bool.and_self]
    · simp only [D.toPys, PyData.weightAll, D.wqs]; omega
end
theorem dRepr_q {st : Store} {d : D} (h : D.rq 64 d = true) (hw : D.wq d ≤ 1000000) : dRepr (.v d) st = some (.v (.str (rpr d))) := by
  obtain ⟨h1, h2, h3, h4, h5⟩ := rq_show 64 d h
  have hl := PyData.shown_le 13 (by decide) (D.toPy d) h4
  have hdat : dat st (.v d) = some (D.toPy d) := by
    have hp := rq_pure _ _ h
    cases d with
    | ref n => simp [D.rq] at h
    | _ => simp only [dat]; rw [if_pos hp]
  have hs : (D.toPy d).shown.length ≤ sLine := by
    have e : (13 + 2) * (D.toPy d).weight ≤ 15 * 1000000 := Nat.mul_le_mul (by decide) (by omega)
    show _ ≤ 16777216
    omega
  simp only [dRepr, hdat]
  rw [if_pos ⟨h1, h2, h3, hs⟩]
  rfl
end Ev

/-! ## Ev21 -/
set_option Elab.async false
set_option linter.all false
set_option maxRecDepth 100000
/-! Ev21: patterns: tokens and matching. -/
namespace Ev
open PySem
noncomputable def d_tokens_of : SS :=
  (sSeq (sSet 1 (eLst aNil))
  (sSeq (sSet 2 (eC (.int 0)))
  (sSeq (sWhile (eBool (e2 dLt (eVar 2) (eN (g1 dLen) (bCons (eVar 0) bNil)))) (
    (sSeq (sIf (eBool (e2 dEq (eSl (eVar 0) (some (eVar 2)) (some (e2 dAdd (eVar 2) (eC (.int 2))))) (eC (.str [42, 42])))) (
      (sSeq (sExpr (eMtL gAppend (eVar 1) (aCons (eC (.str [42, 42])) aNil))) sNil)) (
      (sSeq (sExpr (eMtL gAppend (eVar 1) (aCons (e2 dIx (eVar 0) (eVar 2)) aNil))) sNil)))
    (sSeq (sSet 2 (e2 dAdd (eVar 2) (eN (g1 dLen) (bCons (e2 dIx (eVar 1) (e1 dNeg (eC (.int 1)))) bNil)))) sNil))))
  (sSeq (sRet (eN (g1 dTuple) (bCons (eVar 1) bNil))) sNil))))
noncomputable def c_tokens_of : List D → Store → R RV := callB 3 d_tokens_of
noncomputable def d_is_star : SS :=
  (sSeq (sRet (eOr (e2 dEq (eVar 0) (eC (.str [42]))) (e2 dEq (eVar 0) (eC (.str [42, 42]))))) sNil)
noncomputable def c_is_star : List D → Store → R RV := callB 1 d_is_star
noncomputable def d_may_contain : SS :=
  (sSeq (sIf (eBool (e2 dEq (eVar 0) (eC (.str [42])))) (
    (sSeq (sRet (e2 dNe (eVar 1) (eC (.str [47])))) sNil)) sNil)
  (sSeq (sRet (eOr (e2 dEq (eVar 0) (eC (.str [42, 42]))) (e2 dEq (eVar 0) (eVar 1)))) sNil))
noncomputable def c_may_contain : List D → Store → R RV := callB 2 d_may_contain
noncomputable def d_matches : SS :=
  (sSeq (sSet 2 (e2 dAdd (eLst (aCons (eC (.bl true)) aNil)) (eComp (wVal (eVar 1)) (.one 8) ttYes [8] (eC (.bl false)))))
  (sSeq (sFor (wVal (eCall c_tokens_of [] (aCons (eVar 0) aNil))) (.one 3) (
    (sSeq (sSet 4 (eLst (aCons (eAnd (e2 dIx (eVar 2) (eC (.int 0))) (eCall c_is_star [] (aCons (eVar 3) aNil))) aNil)))
    (sSeq (sFor (wRng1 (bCons (eN (g1 dLen) (bCons (eVar 1) bNil)) bNil)) (.one 5) (
      (sSeq (sSet 6 (eIf (eTru (eCall c_is_star [] (aCons (eVar 3) aNil))) (e2 dIx (eVar 4) (eVar 5)) (e2 dIx (eVar 2) (eVar 5))))
      (sSeq (sSet 7 (eAnd (eVar 6) (eCall c_may_contain [] (aCons (eVar 3) (aCons (e2 dIx (eVar 1) (eVar 5)) aNil)))))
      (sSeq (sExpr (eMtL gAppend (eVar 4) (aCons (eOr (eVar 7) (eAnd (eCall c_is_star [] (aCons (eVar 3) aNil)) (e2 dIx (eVar 2) (e2 dAdd (eVar 5) (eC (.int 1)))))) aNil))) sNil)))))
    (sSeq (sSet 2 (eVar 4)) sNil)))))
  (sSeq (sRet (e2 dIx (eVar 2) (eN (g1 dLen) (bCons (eVar 1) bNil)))) sNil)))
noncomputable def c_matches : List D → Store → R RV := callB 9 d_matches
def toks : List Nat → List (List Nat)
  | [] => []
  | [c] => [[c]]
  | c :: d :: r => if c = 42 ∧ d = 42 then [42, 42] :: toks r else [c] :: toks (d :: r)
theorem toks_cons (c : Nat) (r : List Nat) : toks (c :: r) = if c = 42 ∧ r.take 1 = [42] then [42, 42] :: toks (r.drop 1) else [c] :: toks r := by
  cases r with
  | nil => simp [toks]
  | cons d r => simp [toks]
theorem tokens_ok {s : List Nat} {st : Store} (h : s.length ≤ 1000) : c_tokens_of [.str s] st = .ok (.v (.tup ((toks s).map D.str))) st := by
  have hsl : s.length ≤ sLine := Nat.le_trans h (by decide)
  refine call_pure ?_ ?_
  · unfold d_tokens_of
    simp
    rw [WpR_seq]
    refine wp_while (fun m e w => ∃ (done : List (List Nat)) (k : Nat), e = [some (.str s), some (.ref st.length), some (.int k)] ∧ w = st ++ [.lst (done.map D.str)] ∧ toks s = done ++ toks (s.drop k) ∧ k ≤ s.length ∧ m = s.length - k ∧ done.length ≤ k) (m := s.length) (by show _ < 1000000; omega) ⟨[], 0, rfl, rfl, rfl, Nat.zero_le _, rfl, Nat.le_refl _⟩ ?_
    rintro m e w ⟨done, k, rfl, rfl, ht, hk, rfl, hd⟩
    have hc : cut s (some (k : Int)) (some ((k : Int) + 2)) = (s.drop k).take 2 := by
      have := cut_nat s k (k + 2)
      rw [show k + 2 - k = 2 by omega] at this
      exact this
    by_cases hlt : k < s.length
    · obtain ⟨c, r, hr⟩ : ∃ c r, s.drop k = c :: r := ⟨s[k], s.drop (k + 1), List.drop_eq_getElem_cons hlt⟩
      have e1 : L2.atI s (k : Int) = some c := by
        rw [atI_lit, ← List.head?_drop, hr]; rfl
      have hd2 : done.length < sLine := by show _ < 16777216; omega
      have hr1 : s.drop (k + 1) = r := by rw [← List.drop_drop, hr]; rfl
      have hr2 : s.drop (k + 2) = r.drop 1 := by rw [← hr1, List.drop_drop]
      rw [hr, toks_cons] at ht
      by_cases hcc : c = 42 ∧ List.take 1 r = [42]
      · rw [if_pos hcc] at ht
        have hrl : 2 ≤ s.length - k := by
          have := congrArg List.length hr
          have h2 := congrArg List.length hcc.2
          simp only [List.length_drop, List.length_cons, List.length_take, List.length_nil] at this h2
          omega
        simp [hsl, hlt, hc, hr, e1, hd2, hcc.1, hcc.2]
        refine ⟨by decide, s.length - (k + 2), by omega, done ++ [[42, 42]], k + 2, rfl, by simp, ?_, by omega, rfl, by simp; omega⟩
        rw [ht, hr2]; simp
      · rw [if_neg hcc] at ht
        simp [hsl, hlt, hc, hr, e1, hd2, hcc]
        refine ⟨by decide, s.length - (k + 1), by omega, done ++ [[c]], k + 1, rfl, by simp, ?_, by omega, rfl, by simp; omega⟩
        rw [ht, hr1]; simp
    · have hk2 : k = s.length := by omega
      subst hk2
      simp [hsl, toks] at ht ⊢
      rw [ht]
  · simp only [D.pure]
    have : ∀ ps : List (List Nat), D.pures (ps.map D.str) = true := by
      intro ps
      induction ps with
      | nil => rfl
      | cons p ps ih => simpa [D.pures, D.pure] using ih
    exact this _
theorem toks_flat : ∀ s : List Nat, (toks s).flatten = s
  | [] => rfl
  | [c] => rfl
  | c :: d :: r => by
    have h1 := toks_flat r
    have h2 := toks_flat (d :: r)
    unfold toks
    split
    · rename_i h
      simp [h1, h.1, h.2]
    · simp [h2]
theorem toks_one : ∀ (s p : List Nat), p ∈ toks s → p = [42, 42] ∨ p.length = 1
  | [], p, h => by simp [toks] at h
  | [c], p, h => by simp [toks] at h; subst h; exact .inr rfl
  | c :: d :: r, p, h => by
    have h1 := toks_one r p
    have h2 := toks_one (d :: r) p
    unfold toks at h
    split at h
    · rcases List.mem_cons.mp h with rfl | h
      · exact .inl rfl
      · exact h1 h
    · rcases List.mem_cons.mp h with rfl | h
      · exact .inr rfl
      · exact h2 h
theorem sum_flat (l : List (List Nat)) : (l.map (·.length)).sum = l.flatten.length := by
  induction l with
  | nil => rfl
  | cons p l ih => simp only [List.map_cons, List.sum_cons, List.flatten_cons, List.length_append, ih]
def starB (t : List Nat) : Bool := decide (t = [42]) || decide (t = [42, 42])
def mayB (t : List Nat) (c : Nat) : Bool := if t = [42] then !(decide ([c] = [47])) else (decide (t = [42, 42]) || decide (t = [c]))
theorem is_star_ok (t : List Nat) (st : Store) : c_is_star [.str t] st = .ok (.v (.bl (starB t))) st := by
  refine call_pure ?_ rfl
  unfold d_is_star starB
  by_cases h : t = [42]
  · simp [h]
  · simp [h]
theorem may_ok (t : List Nat) (c : Nat) (st : Store) : c_may_contain [.str t, .str [c]] st = .ok (.v (.bl (mayB t c))) st := by
  refine call_pure ?_ rfl
  unfold d_may_contain mayB
  by_cases h : t = [42]
  · simp [h]
  · by_cases h2 : t = [42, 42]
    · simp [h2]
    · simp [h, h2]
def stepM (t : List Nat) : Bool → List Bool → List Nat → List Bool
  | prev, e :: e' :: es, c :: s => (((if starB t then prev else e) && mayB t c) || (starB t && e')) :: stepM t (((if starB t then prev else e) && mayB t c) || (starB t && e')) (e' :: es) s
  | _, _, _ => []
def nextE (t s : List Nat) : List Bool → List Bool
  | [] => []
  | e :: es => (e && starB t) :: stepM t (e && starB t) (e :: es) s
theorem stepM_len (t : List Nat) : ∀ (s : List Nat) (prev : Bool) (es : List Bool), es.length = s.length + 1 → (stepM t prev es s).length = s.length
  | [], prev, es, h => by
    cases es with
    | nil => simp [stepM]
    | cons e es => cases es <;> simp [stepM]
  | c :: s, prev, [], h => by simp at h
  | c :: s, prev, [e], h => by simp at h
  | c :: s, prev, e :: e' :: es, h => by
    simp only [stepM, List.length_cons]
    rw [stepM_len t s _ (e' :: es) (by simpa using h)]
theorem nextE_len (t s : List Nat) {es : List Bool} (h : es.length = s.length + 1) : (nextE t s es).length = s.length + 1 := by
  cases es with
  | nil => simp at h
  | cons e es => simp only [nextE, List.length_cons]; rw [stepM_len t s _ _ h]
def endsOf (p s : List Nat) : List Bool := (toks p).foldl (fun es t => nextE t s es) (true :: s.map fun _ => false)
theorem fold_len (s : List Nat) : ∀ (ts : List (List Nat)) (es : List Bool), es.length = s.length + 1 → (ts.foldl (fun es t => nextE t s es) es).length = s.length + 1
  | [], es, h => h
  | t :: ts, es, h => fold_len s ts _ (nextE_len t s h)
theorem ends_len (p s : List Nat) : (endsOf p s).length = s.length + 1 := fold_len s _ _ (by simp)
def matchB (p s : List Nat) : Bool := (endsOf p s).getD s.length false
def InvM (p s t : List Nat) (ends : List Bool) (m : Nat) (w0 : Store) (c8 : Option D) (ds : List D) (e : SEnv) (w : Store) : Prop :=
  ∃ (k n : Nat) (fa : List Bool) (prev : Bool) (c5 c6 c7 : Option D), ds = rngL k n ∧ k + n = s.length ∧ fa.length = k ∧ e = [some (.str p), some (.str s), some (.ref m), some (.str t), some (.ref w0.length), c5, c6, c7, c8] ∧
    w = w0 ++ [.lst ((fa ++ [prev]).map D.bl)] ∧ (fa ++ [prev]) ++ stepM t prev (ends.drop k) (s.drop k) = nextE t s ends
def InvO (p s : List Nat) (st : Store) (ds : List D) (e : SEnv) (w : Store) : Prop :=
  ∃ (ts : List (List Nat)) (ends : List Bool) (m : Nat) (more : Store) (c3 c4 c5 c6 c7 c8 : Option D), ds = ts.map D.str ∧ e = [some (.str p), some (.str s), some (.ref m), c3, c4, c5, c6, c7, c8] ∧ w = st ++ more ∧ w[m]? = some (.lst (ends.map D.bl)) ∧ ends.length = s.length + 1 ∧
    ts.foldl (fun es t => nextE t s es) ends = endsOf p s
theorem matches_ok {p s : List Nat} {st : Store} (hp : p.length ≤ 1000) (hs : s.length ≤ 1000) : c_matches [.str p, .str s] st = .ok (.v (.bl (matchB p s))) st := by
  refine call_pure ?_ rfl
  have hsl : sLine = 16777216 := rfl
  have g1 : 1 ≤ sLine := by decide
  have gs : s.length ≤ sLine := by omega
  have e0 : ∀ (gd : Store → Prop) (st : Store) (x0 x1 x2 x3 x4 x5 x6 x7 : Option D), gd st → compL gd (.one 8) ttYes (eC (.bl false)) [x0, x1, x2, x3, x4, x5, x6, x7, none] (s.map fun c => D.str [c]) st = .ok (s.map fun _ => D.bl false) st := by
    intro gd st x0 x1 x2 x3 x4 x5 x6 x7 hgd
    have := comp_map (gd := gd) (t := .one 8) (fe := eC (.bl false)) (env := [x0, x1, x2, x3, x4, x5, x6, x7, none]) (st := st) (F := fun _ => D.bl false) (ds := s.map fun c => D.str [c]) hgd fun d hd => ⟨_, rfl, rfl⟩
    rw [List.map_map] at this
    exact this
  have e1 := fun st => tokens_ok (s := p) (st := st) hp
  unfold d_matches
  simp [g1, gs, e0, dAdd_tt, e1, show 1 + s.length ≤ sLine by omega]
  rw [WpR_seq]
  refine wp_forL (InvO p s st) ⟨toks p, true :: s.map (fun _ => false), st.length, [_], none, none, none, none, none, none, rfl, rfl, rfl, by simp, by simp, rfl⟩ ?_ ?_
  · rintro d ds e w ⟨ts, ends, m, more, c3, c4, c5, c6, c7, c8, h1, rfl, rfl, hm, hl, hf⟩
    cases ts with
    | nil => cases h1
    | cons t ts =>
      cases h1
      refine ⟨_, rfl, ?_⟩
      cases ends with
      | nil => simp at hl
      | cons e0 es =>
        have hi := fun st => is_star_ok t st
        generalize hw0 : st ++ more = w0 at hm ⊢
        have hml : m < w0.length := (List.getElem?_eq_some_iff.mp hm).1
        have hE : ∀ x, (w0 ++ [x])[m]? = some (.lst ((e0 :: es).map D.bl)) := fun x => by rw [List.getElem?_append_left hml]; exact hm
        have s4 : ∀ (c4 c5 c6 c7 c8 : Option D), sSet 4 (eLst (aCons (eAnd (e2 dIx (eVar 2) (eC (D.int 0))) (eCall c_is_star [] (aCons (eVar 3) aNil))) aNil)) [some (.str p), some (.str s), some (.ref m), some (.str t), c4, c5, c6, c7, c8] w0 = .nx [some (.str p), some (.str s), some (.ref m), some (.str t), some (.ref w0.length), c5, c6, c7, c8] (w0 ++ [.lst [.bl (e0 && starB t)]]) := by
          intro c4 c5 c6 c7 c8
          cases e0 <;> simp [hm, hi, g1]
        show WpS (sSeq (sSet 4 _) _ [some (.str p), some (.str s), some (.ref m), some (.str t), c4, c5, c6, c7, c8] w0) _
        rw [sSeq_at, s4, SR.seq_nx]
        simp [gs]
        refine ⟨rOk_of (by omega) (by omega), ?_⟩
        rw [WpS_seq]
        refine wp_forL (InvM p s t (e0 :: es) m w0 c8) ⟨0, s.length, [], e0 && starB t, c5, c6, c7, rfl, by omega, rfl, rfl, rfl, rfl⟩ ?_ ?_
        · rintro d ds e w ⟨k, n, fa, prev, c5, c6, c7, h1, h2, h3, rfl, rfl, h4⟩
          cases n with
          | zero => cases h1
          | succ n =>
            rw [rngL_cons] at h1
            cases h1
            refine ⟨_, rfl, ?_⟩
            obtain ⟨c, r, hr⟩ : ∃ c r, s.drop k = c :: r := ⟨s[k]'(by omega), s.drop (k + 1), List.drop_eq_getElem_cons (by omega)⟩
            have hr1 : s.drop (k + 1) = r := by rw [← List.drop_drop, hr]; rfl
            obtain ⟨a, er, her⟩ : ∃ a er, (e0 :: es).drop k = a :: er := ⟨_, _, List.drop_eq_getElem_cons (by omega)⟩
            have her1 : (e0 :: es).drop (k + 1) = er := by rw [← List.drop_drop, her]; rfl
            obtain ⟨a', er', her'⟩ : ∃ a' er', er = a' :: er' := by
              cases er with
              | nil =>
                have := congrArg List.length her1
                rw [List.length_drop] at this
                simp only [List.length_nil] at this
                omega
              | cons x y => exact ⟨x, y, rfl⟩
            subst her'
            have i1 : L2.atI s (k : Int) = some c := by rw [atI_lit, ← List.head?_drop, hr]; rfl
            have i2 : L2.atI ((e0 :: es).map D.bl) (k : Int) = some (.bl a) := by rw [atI_lit, List.getElem?_map, ← List.head?_drop, her]; rfl
            have i3 : L2.atI ((e0 :: es).map D.bl) ((k : Int) + 1) = some (.bl a') := by
              have := atI_lit ((e0 :: es).map D.bl) (k + 1)
              rw [List.getElem?_map, ← List.head?_drop, her1] at this
              exact this
            have i4 : L2.atI ((fa ++ [prev]).map D.bl) (k : Int) = some (.bl prev) := by rw [atI_lit, List.getElem?_map, ← h3]; simp
            have hm2 := fun t c st => may_ok t c st
            simp only [List.map_append, List.map_cons, List.map_nil] at i2 i3 i4 hE
            have g5 : fa.length + 1 < sLine := by omega
            have fin : ∀ (b : Bool) (c5 c6 c7 : Option D), b = (((if starB t then prev else a) && mayB t c) || (starB t && a')) → InvM p s t (e0 :: es) m w0 c8 (rngL ((k : Int) + 1) n) [some (.str p), some (.str s), some (.ref m), some (.str t), some (.ref w0.length), c5, c6, c7, c8] (w0 ++ [.lst (fa.map D.bl ++ [.bl prev, .bl b])]) := by
              intro b c5 c6 c7 hb
              refine ⟨k + 1, n, fa ++ [prev], b, c5, c6, c7, rfl, by omega, by simp [h3], rfl, by simp, ?_⟩
              rw [← h4, hr, her, her1, hr1]
              simp [stepM, hb]
            cases hst : starB t <;> cases prev <;> cases a <;> cases hma : mayB t c <;> cases a' <;> (simp [hE, hi, hm2, hst, hma, i1, i2, i3, i4, gs, g5]; exact fin _ _ _ _ (by simp [hst, hma]))
        · rintro e w ⟨k, n, fa, prev, c5, c6, c7, h1, h2, h3, rfl, rfl, h4⟩
          have hn : n = 0 := by
            cases n with
            | zero => rfl
            | succ n => rw [rngL_cons] at h1; cases h1
          subst hn
          have hk : k = s.length := by omega
          subst hk
          have e2 : s.drop s.length = [] := List.drop_eq_nil_of_le (Nat.le_refl _)
          rw [e2] at h4
          have e3 : stepM t prev ((e0 :: es).drop s.length) [] = [] := by
            generalize (e0 :: es).drop s.length = q
            cases q with
            | nil => rfl
            | cons x q => cases q <;> rfl
          rw [e3, List.append_nil] at h4
          simp
          refine ⟨ts, fa ++ [prev], w0.length, more ++ [.lst ((fa ++ [prev]).map D.bl)], some (.str t), some (.ref w0.length), c5, c6, c7, c8, rfl, rfl, by rw [← hw0]; simp, by simp, by simp [h3], ?_⟩
          rw [h4]
          exact hf
  · rintro e w ⟨ts, ends, m, more, c3, c4, c5, c6, c7, c8, h1, rfl, rfl, hm, hl, hf⟩
    have : ts = [] := by cases ts with
      | nil => rfl
      | cons _ _ => cases h1
    subst this
    have hi : s.length < ends.length := by omega
    have a1 : L2.atI (ends.map D.bl) (s.length : Int) = some (.bl ends[s.length]) := by
      rw [atI_lit, List.getElem?_map, List.getElem?_eq_getElem hi]; rfl
    have hf : ends = endsOf p s := hf
    simp [hm, gs, a1]
    unfold matchB
    rw [← hf, List.getD_eq_getElem?_getD, List.getElem?_eq_getElem hi]
    rfl
end Ev

/-! ## Ev22 -/
set_option Elab.async false
set_option linter.all false
set_option maxRecDepth 100000
/-! Ev22: in a list; the places that matching reaches. -/
namespace Ev
open PySem
@[simp] theorem dTru_ref (n : Nat) (st : Store) : dTru (.v (.ref n)) st = (match lstM st (.v (.ref n)) with
    | some l => some (!l.isEmpty)
    | none => none) := .trans rfl rfl
theorem shaped_list {l : List D} (h : D.oks 63 l = true) : SeqAt.shaped (.list (D.toPys l)) = true := by
  obtain ⟨h1, h2⟩ := oks_lay 63 l h
  simp only [SeqAt.shaped, PyData.canLay0, h1, PyData.depth, Bool.true_and]
  exact decide_eq_true (by omega)
theorem inB_ref {st : Store} {a : D} {n : Nat} {l : List D} (ha : D.ok 64 a = true) (hl : D.oks 63 l = true) (hn : st[n]? = some (.lst l)) : inB (.v a) (.v (.ref n)) st = some (decide (a ∈ l)) := by
  have hd : dat st (.v (.ref n)) = some (.list (D.toPys l)) := by simp only [dat, hn, oks_pures _ _ hl, if_true]
  unfold inB
  split
  · rename_i e1 e2; cases e2
  · rw [dat_ok1 ha, hd]
    simp only [ok_shaped ha, shaped_list hl, Bool.and_self, if_true, Option.some.injEq]
    exact any_ok ha hl
theorem dIn_ref {st : Store} {a : D} {n : Nat} {l : List D} (ha : D.ok 64 a = true) (hl : D.oks 63 l = true) (hn : st[n]? = some (.lst l)) : dIn (.v a) (.v (.ref n)) st = some (.v (.bl (decide (a ∈ l)))) := by
  rw [dIn, inB_ref ha hl hn]; rfl
theorem dNotIn_ref {st : Store} {a : D} {n : Nat} {l : List D} (ha : D.ok 64 a = true) (hl : D.oks 63 l = true) (hn : st[n]? = some (.lst l)) : dNotIn (.v a) (.v (.ref n)) st = some (.v (.bl (!decide (a ∈ l)))) := by
  rw [dNotIn, inB_ref ha hl hn]; rfl
theorem ints_oks (ks : List Nat) : D.oks 63 (ks.map fun (k : Nat) => D.int (k : Int)) = true := by
  rw [oks_iff]
  intro d hd
  obtain ⟨k, _, rfl⟩ := List.mem_map.mp hd
  rfl
theorem stepM_at (t : List Nat) : ∀ (s : List Nat) (prev : Bool) (es : List Bool) (k : Nat), es.length = s.length + 1 → k < s.length →
    (stepM t prev es s)[k]? = some ((((if starB t then (if k = 0 then prev else (stepM t prev es s).getD (k - 1) false) else es.getD k false) && mayB t (s.getD k 0)) || (starB t && es.getD (k + 1) false)))
  | [], _, _, k, _, h => absurd h (Nat.not_lt_zero _)
  | c :: s, prev, [], k, h, _ => by simp at h
  | c :: s, prev, [e], k, h, _ => by simp at h
  | c :: s, prev, e :: e' :: es, 0, h, _ => by simp [stepM]
  | c :: s, prev, e :: e' :: es, k + 1, h, hk => by
    have ih := stepM_at t s (((if starB t then prev else e) && mayB t c) || (starB t && e')) (e' :: es) k (by simpa using h) (by simpa using hk)
    simp only [stepM, List.getElem?_cons_succ]
    rw [ih]
    cases k with
    | zero => simp
    | succ k => simp
theorem nextE_zero (t s : List Nat) (es : List Bool) : (nextE t s es).getD 0 false = (es.getD 0 false && starB t) := by
  cases es <;> simp [nextE]
theorem nextE_succ (t s : List Nat) {es : List Bool} (h : es.length = s.length + 1) {k : Nat} (hk : k < s.length) :
    (nextE t s es).getD (k + 1) false = ((((if starB t then (nextE t s es).getD k false else es.getD k false) && mayB t (s.getD k 0)) || (starB t && es.getD (k + 1) false))) := by
  cases es with
  | nil => simp at h
  | cons e es =>
    have := stepM_at t s (e && starB t) (e :: es) k h hk
    simp only [nextE, List.getD_cons_succ]
    rw [List.getD_eq_getElem?_getD, this]
    cases k with
    | zero => simp
    | succ k => simp
/-- the places that hold -/
def plc (n : Nat) (es : List Bool) : List Nat := (List.range n).filter fun k => es.getD k false
theorem plc_succ (n : Nat) (es : List Bool) : plc (n + 1) es = plc n es ++ if es.getD n false then [n] else [] := by
  unfold plc
  rw [List.range_succ, List.filter_append]
  congr 1
  simp only [List.filter_cons, List.filter_nil]
theorem plc_mem {n k : Nat} {es : List Bool} : k ∈ plc n es ↔ k < n ∧ es.getD k false = true := by
  simp [plc]
theorem plc_last {n : Nat} {es : List Bool} : (∃ l, plc (n + 1) es = l ++ [n]) ↔ es.getD n false = true := by
  constructor
  · rintro ⟨l, h⟩
    have : n ∈ plc (n + 1) es := by rw [h]; simp
    exact (plc_mem.mp this).2
  · intro h
    exact ⟨plc n es, by rw [plc_succ, h]; rfl⟩
/-- a place that holds, and signs that a star may contain -/
theorem star_keep {t s : List Nat} {es : List Bool} (h : es.length = s.length + 1) (ht : starB t = true) {k : Nat} (hk : k ≤ s.length) (he : es.getD k false = true) : (nextE t s es).getD k false = true := by
  cases k with
  | zero => rw [nextE_zero, he, ht]; rfl
  | succ k => rw [nextE_succ t s h (by omega), ht, he]; simp
theorem star_on {t s : List Nat} {es : List Bool} (h : es.length = s.length + 1) (ht : starB t = true) {k : Nat} (hk : k < s.length) (he : (nextE t s es).getD k false = true) (hm : mayB t (s.getD k 0) = true) : (nextE t s es).getD (k + 1) false = true := by
  rw [nextE_succ t s h hk, ht, hm]
  simp only [if_true, Bool.false_eq_true, if_false, he, Bool.and_self, Bool.true_or]
theorem sign_on {t s : List Nat} {es : List Bool} (h : es.length = s.length + 1) (ht : starB t = false) {k : Nat} (hk : k < s.length) (he : es.getD k false = true) (hm : mayB t (s.getD k 0) = true) : (nextE t s es).getD (k + 1) false = true := by
  rw [nextE_succ t s h hk, ht, hm]
  simp only [if_true, Bool.false_eq_true, if_false, he, Bool.and_self, Bool.true_or]
end Ev

/-! ## Ev23 -/
set_option Elab.async false
set_option linter.all false
set_option maxRecDepth 100000
/-! Ev23: the tape as one thing; draws by simp. -/
namespace Ev
open PySem
structure Tp where
  xs : List Int
  p : Int
  q : Int
  t : Int
  hp : 0 ≤ p
  hq : 0 ≤ q
def mk (T : Tp) (rest : Store) : Store := mkT T.xs T.p T.q T.t rest
section
variable {T T' : Tp} {rest more : Store}
@[simp high] theorem mk_at (n : Nat) : (mk T rest)[n + 2]? = rest[n]? := rfl
@[simp high] theorem mk_at2 : (mk T rest)[2]? = rest[0]? := rfl
@[simp high] theorem mk_at3 : (mk T rest)[3]? = rest[1]? := rfl
@[simp high] theorem mk_at4 : (mk T rest)[4]? = rest[2]? := rfl
@[simp high] theorem mk_at5 : (mk T rest)[5]? = rest[3]? := rfl
@[simp high] theorem mk_at6 : (mk T rest)[6]? = rest[4]? := rfl
@[simp high] theorem mk_at7 : (mk T rest)[7]? = rest[5]? := rfl
@[simp high] theorem mk_at8 : (mk T rest)[8]? = rest[6]? := rfl
@[simp high] theorem mk_len : (mk T rest).length = rest.length + 2 := rfl
@[simp high] theorem mk_app : mk T rest ++ more = mk T (rest ++ more) := rfl
@[simp high] theorem mk_setAt (n : Nat) (c : Cell) : (mk T rest).set (n + 2) c = mk T (rest.set n c) := rfl
@[simp high] theorem mk_set2 (c : Cell) : (mk T rest).set 2 c = mk T (rest.set 0 c) := rfl
@[simp high] theorem mk_set3 (c : Cell) : (mk T rest).set 3 c = mk T (rest.set 1 c) := rfl
@[simp high] theorem mk_set4 (c : Cell) : (mk T rest).set 4 c = mk T (rest.set 2 c) := rfl
@[simp high] theorem mk_set5 (c : Cell) : (mk T rest).set 5 c = mk T (rest.set 3 c) := rfl
@[simp high] theorem mk_set6 (c : Cell) : (mk T rest).set 6 c = mk T (rest.set 4 c) := rfl
theorem mk_keep (hx : T.xs = T'.xs) (i : Nat) (c : Cell) (h : (mk T' rest)[i]? = some c) : (mk T rest)[i]? = some c ∨ Cell.low (mk T rest).length c = true := by
  unfold mk at h ⊢
  rw [hx]
  exact mkT_keep i c h
end
theorem draw_ex (T : Tp) (many : Int) (hm : many < 1073741824) : ∃ (r : Int) (T' : Tp), T'.xs = T.xs ∧ (0 ≤ r ∧ r < max many 1) ∧ ∀ rest, c_l_draw [.ref 1, .int many] (mk T rest) = .ok (.v (.int r)) (mk T' rest) := by
  obtain ⟨xs, p, q, t, hp, hq⟩ := T
  have fin : ∀ (r p' q' t' : Int) (hp' : 0 ≤ p') (hq' : 0 ≤ q'), 0 ≤ r ∧ r < max many 1 → (∀ rest, Wp (c_l_draw [.ref 1, .int many] (mkT xs p q t rest)) fun a s => a = .v (.int r) ∧ s = mkT xs p' q' t' rest) →
      ∃ (r : Int) (T' : Tp), T'.xs = xs ∧ (0 ≤ r ∧ r < max many 1) ∧ ∀ rest, c_l_draw [.ref 1, .int many] (mk ⟨xs, p, q, t, hp, hq⟩ rest) = .ok (.v (.int r)) (mk T' rest) := by
    intro r p' q' t' hp' hq' hr h
    refine ⟨r, ⟨xs, p', q', t', hp', hq'⟩, rfl, hr, fun rest => ?_⟩
    obtain ⟨a, s, e, rfl, rfl⟩ := (h rest).out
    exact e
  have e1 : (if many < 1 then 1 else many) = max many 1 := by split <;> omega
  have e2 : (if many < 2 then 2 else many) = max many 2 := by split <;> omega
  have c1 : (0 : Int) < max many 1 := by omega
  have c2 : (0 : Int) < max many 2 ∧ max many 2 < 1073741824 := by omega
  have lv : ∀ (n p' q' t' : Int) (rest : Store), Lv (mkT xs p q t rest) (fun a s => a = .v (.int n) ∧ s = mkT xs p' q' t' rest) (.v (.int n)) (mkT xs p' q' t' rest) := fun n p' q' t' rest => Lv.tape0 rfl ⟨rfl, rfl⟩
  have bnd : ∀ n : Int, 0 ≤ n % max many 1 ∧ n % max many 1 < max many 1 := fun n => ⟨Int.emod_nonneg _ (by omega), Int.emod_lt_of_pos n c1⟩
  have dv : ∀ n : Int, 0 ≤ n → 0 ≤ n / max many 2 := fun n h => Int.ediv_nonneg h (by omega)
  by_cases hq0 : q = 0
  · subst hq0
    by_cases hlt : p < xs.length
    · obtain ⟨b, e⟩ : ∃ b, L2.atI (xs.map D.int) p = some (.int b) := by
        obtain ⟨k, rfl⟩ := Int.eq_ofNat_of_zero_le hp
        have hk : k < xs.length := by omega
        exact ⟨xs[k], by rw [atI_lit, List.getElem?_map, List.getElem?_eq_getElem hk]; rfl⟩
      have hn : (0 : Int) ≤ if b < 0 then -b else b := by split <;> omega
      by_cases hb : (if b < 0 then -b else b) < 10 ^ 18
      · refine fin ((((if b < 0 then -b else b) * 48271 + p * 69621 + 5) % 2147483647 * 69621 % 2147483629) % max many 1) (p + 1) 0 t (by omega) (by omega) (bnd _) fun rest => wpc ?_
        have lv := lv ((((if b < 0 then -b else b) * 48271 + p * 69621 + 5) % 2147483647 * 69621 % 2147483629) % max many 1) (p + 1) 0 t rest
        generalize Lv (mkT xs p 0 t rest) _ = Q at lv ⊢
        unfold d_l_draw
        simp [hlt]
        simp only [e, Option.map_some, lift_some, R.bind_ok, KB1_at, bNil_at, KB2_at, KN_at, g1_at, dInt_int, dAbs_int, R.toS_ok, KSet1_at, mat_v, KSet2_at]
        generalize (if b < 0 then -b else b) = a at hn hb lv ⊢
        simp [c1, c2, mOk_r, e1, e2]
        rw [if_pos (by simpa using hb)]
        exact lv
      · refine fin ((if b < 0 then -b else b) % max many 1) (p + 1) ((if b < 0 then -b else b) / max many 2) t (by omega) (dv _ hn) (bnd _) fun rest => wpc ?_
        have lv := lv ((if b < 0 then -b else b) % max many 1) (p + 1) ((if b < 0 then -b else b) / max many 2) t rest
        generalize Lv (mkT xs p 0 t rest) _ = Q at lv ⊢
        unfold d_l_draw
        simp [hlt]
        simp only [e, Option.map_some, lift_some, R.bind_ok, KB1_at, bNil_at, KB2_at, KN_at, g1_at, dInt_int, dAbs_int, R.toS_ok, KSet1_at, mat_v, KSet2_at]
        generalize (if b < 0 then -b else b) = a at hn hb lv ⊢
        simp [c1, c2, mOk_r, e1, e2]
        rw [if_neg (by simpa using hb)]
        exact lv
    · have hs : (0 : Int) ≤ (t * 48271 + p + 1) % 2147483647 := Int.emod_nonneg _ (by decide)
      have hs2 : (t * 48271 + p + 1) % 2147483647 < 10 ^ 18 := by
        have := Int.emod_lt_of_pos (t * 48271 + p + 1) (show (0 : Int) < 2147483647 by decide)
        omega
      refine fin ((((t * 48271 + p + 1) % 2147483647 * 48271 + p * 69621 + 5) % 2147483647 * 69621 % 2147483629) % max many 1) (p + 1) 0 ((t * 48271 + p + 1) % 2147483647) (by omega) (by omega) (bnd _) fun rest => wpc ?_
      have lv := lv ((((t * 48271 + p + 1) % 2147483647 * 48271 + p * 69621 + 5) % 2147483647 * 69621 % 2147483629) % max many 1) (p + 1) 0 ((t * 48271 + p + 1) % 2147483647) rest
      generalize Lv (mkT xs p 0 t rest) _ = Q at lv ⊢
      unfold d_l_draw
      have hg : ¬ p < (xs.length : Int) := hlt
      simp [hg, mOk_r]
      generalize (t * 48271 + p + 1) % 2147483647 = a at hs hs2 lv ⊢
      simp [c1, c2, mOk_r, e1, e2]
      rw [if_pos (by simpa using hs2)]
      exact lv
  · refine fin (q % max many 1) p (q / max many 2) t hp (dv _ hq) (bnd _) fun rest => wpc ?_
    have lv := lv (q % max many 1) p (q / max many 2) t rest
    generalize Lv (mkT xs p q t rest) _ = Q at lv ⊢
    unfold d_l_draw
    simp [hq0, c1, c2, mOk_r, e1, e2]
    exact lv
open Classical in
noncomputable def dr (T : Tp) (many : Int) : Int := if h : many < 1073741824 then (draw_ex T many h).choose else 0
open Classical in
noncomputable def nx (T : Tp) (many : Int) : Tp := if h : many < 1073741824 then (draw_ex T many h).choose_spec.choose else T
@[simp] theorem nx_xs (T : Tp) (many : Int) : (nx T many).xs = T.xs := by
  unfold nx
  split
  · rename_i h; exact (draw_ex T many h).choose_spec.choose_spec.1
  · rfl
theorem draw_at (T : Tp) (many : Int) (rest : Store) (h : many < 1073741824) : c_l_draw [.ref 1, .int many] (mk T rest) = .ok (.v (.int (dr T many))) (mk (nx T many) rest) := by
  unfold dr nx
  rw [dif_pos h, dif_pos h]
  exact (draw_ex T many h).choose_spec.choose_spec.2.2 rest
theorem dr_nn (T : Tp) (many : Int) : 0 ≤ dr T many := by
  unfold dr
  split
  · rename_i h; exact (draw_ex T many h).choose_spec.choose_spec.2.1.1
  · exact Int.le_refl _
theorem dr_lt (T : Tp) (many : Int) (h0 : 0 < many) : dr T many < many := by
  unfold dr
  split
  · rename_i h
    have := (draw_ex T many h).choose_spec.choose_spec.2.1.2
    omega
  · exact h0
theorem dr_zero (T : Tp) (many : Int) (h0 : many ≤ 1) : dr T many = 0 := by
  have h1 := dr_nn T many
  unfold dr at h1 ⊢
  split
  · rename_i h
    rw [dif_pos h] at h1
    have := (draw_ex T many h).choose_spec.choose_spec.2.1.2
    omega
  · rfl
/-- the drawn item -/
theorem pick_ex {α : Type} (l : List α) (T : Tp) (h : l ≠ []) : ∃ x ∈ l, L2.atI l (dr T l.length) = some x := by
  have h0 : 0 < l.length := List.length_pos_iff.mpr h
  have h1 := dr_nn T l.length
  have h2 := dr_lt T l.length (by omega)
  obtain ⟨k, e⟩ := Int.eq_ofNat_of_zero_le h1
  rw [e] at h2 ⊢
  have hk : k < l.length := by omega
  exact ⟨l[k], List.getElem_mem hk, by rw [atI_lit, List.getElem?_eq_getElem hk]⟩
open Classical in
noncomputable def pk {α : Type} [Inhabited α] (l : List α) (T : Tp) : α := if h : l ≠ [] then (pick_ex l T h).choose else default
theorem pk_mem {α : Type} [Inhabited α] {l : List α} {T : Tp} (h : l ≠ []) : pk l T ∈ l := by
  unfold pk; rw [dif_pos h]; exact (pick_ex l T h).choose_spec.1
theorem pk_at {α : Type} [Inhabited α] (l : List α) (T : Tp) (n : Int) (hn : n = l.length) (h : l ≠ []) : L2.atI l (dr T n) = some (pk l T) := by
  subst hn
  unfold pk; rw [dif_pos h]; exact (pick_ex l T h).choose_spec.2
instance : Inhabited D := ⟨.non⟩
theorem pk_map {α : Type} [Inhabited α] {f : α → D} {l : List α} {T : Tp} {n : Int} (hn : n = l.length) (h : l ≠ []) : L2.atI (l.map f) (dr T n) = some (f (pk l T)) := by
  have := pk_at l T n hn h
  have h1 := dr_nn T n
  obtain ⟨k, e⟩ := Int.eq_ofNat_of_zero_le h1
  rw [e] at this ⊢
  rw [atI_lit] at this ⊢
  rw [List.getElem?_map, this]; rfl
/-! ### leaving a def that drew -/
section
variable {T T' : Tp} {rest more : Store} {Q : RV → Store → Prop}
theorem Lv.out {d : D} (hx : T.xs = T'.xs) (hd : D.pure d = true) (k : Q (.v d) (mk T' rest)) : Lv (Ev.mk T rest) Q (.v d) (Ev.mk T' (rest ++ more)) :=
  ⟨Ev.mk T' rest, more, _, rfl, rfl, mk_keep hx, outV_pure hd, k⟩
theorem Lv.out0 {d : D} (hx : T.xs = T'.xs) (hd : D.pure d = true) (k : Q (.v d) (mk T' rest)) : Lv (Ev.mk T rest) Q (.v d) (Ev.mk T' rest) :=
  ⟨Ev.mk T' rest, [], _, by rw [List.append_nil], rfl, mk_keep hx, outV_pure hd, k⟩
theorem Lv.outL {l : List D} (hx : T.xs = T'.xs) (hd : D.pures l = true) (k : Q (.t l) (mk T' rest)) : Lv (Ev.mk T rest) Q (.t l) (Ev.mk T' (rest ++ more)) :=
  ⟨Ev.mk T' rest, more, _, rfl, rfl, mk_keep hx, by simp [outV, D.lows_of_pures _ _ hd], k⟩
theorem Lv.outL0 {l : List D} (hx : T.xs = T'.xs) (hd : D.pures l = true) (k : Q (.t l) (mk T' rest)) : Lv (Ev.mk T rest) Q (.t l) (Ev.mk T' rest) :=
  ⟨Ev.mk T' rest, [], _, by rw [List.append_nil], rfl, mk_keep hx, by simp [outV, D.lows_of_pures _ _ hd], k⟩
/-- the list at the first new place is given back -/
theorem Lv.outR {l : List D} (hx : T.xs = T'.xs) (hd : D.pures l = true) (k : Q (.t l) (mk T' rest)) : Lv (Ev.mk T rest) Q (.v (.ref (rest.length + 2))) (Ev.mk T' (rest ++ .lst l :: more)) := by
  refine ⟨Ev.mk T' rest, .lst l :: more, _, rfl, rfl, mk_keep hx, ?_, k⟩
  simp [outV, D.lows_of_pures _ _ hd]
theorem Lv.outRn {l : List D} {m : Nat} (hx : T.xs = T'.xs) (hm : rest.length + 2 ≤ m) (hn : (Ev.mk T' (rest ++ more))[m]? = some (.lst l)) (hd : D.pures l = true) (k : Q (.t l) (mk T' rest)) : Lv (Ev.mk T rest) Q (.v (.ref m)) (Ev.mk T' (rest ++ more)) := by
  refine ⟨Ev.mk T' rest, more, _, rfl, rfl, mk_keep hx, ?_, k⟩
  have h1 : ¬ m < (Ev.mk T rest).length := by rw [mk_len]; omega
  simp only [outV, if_neg h1, hn, if_pos (D.lows_of_pures _ _ hd)]
end
theorem pures_map {α : Type} {f : α → D} {l : List α} (h : ∀ a ∈ l, D.pure (f a) = true) : D.pures (l.map f) = true := by
  induction l with
  | nil => rfl
  | cons a l ih =>
    simp only [List.map_cons, D.pures, Bool.and_eq_true]
    exact ⟨h a (List.mem_cons_self ..), ih fun b hb => h b (List.mem_cons_of_mem _ hb)⟩
@[simp] theorem pures_int (l : List Int) : D.pures (l.map D.int) = true := pures_map fun _ _ => rfl
@[simp] theorem pures_str (l : List (List Nat)) : D.pures (l.map D.str) = true := pures_map fun _ _ => rfl
@[simp] theorem pures_bl (l : List Bool) : D.pures (l.map D.bl) = true := pures_map fun _ _ => rfl
/-! ### comprehensions over encoded items -/
theorem comp_mapA {α : Type} {gd : Store → Prop} {t : Tg} {fe : SEnv → Store → R RV} {env : SEnv} {st : Store} {enc F : α → D} : ∀ {l : List α} (hg : gd st) (h : ∀ a ∈ l, ∃ env1, t.put (enc a) env = some env1 ∧ fe env1 st = .ok (.v (F a)) st), compL gd t ttYes fe env (l.map enc) st = .ok (l.map F) st
  | [], _, _ => rfl
  | d :: ds, hg, h => by
    obtain ⟨env1, h1, h2⟩ := h d (List.mem_cons_self ..)
    have ih := comp_mapA (l := ds) hg fun d hd => h d (List.mem_cons_of_mem _ hd)
    simp only [compL, List.map_cons, h1, ttYes, R.bindN, if_true, h2, mat_v, R.bind_ok, if_pos hg, ih]
theorem comp_filterA {α : Type} {gd : Store → Prop} {t : Tg} {tt : SEnv → Store → R Bool} {fe : SEnv → Store → R RV} {env : SEnv} {st : Store} {enc F : α → D} {q : α → Bool} : ∀ {l : List α} (hg : gd st)
    (h : ∀ a ∈ l, ∃ env1, t.put (enc a) env = some env1 ∧ tt env1 st = .ok (q a) st ∧ (q a = true → fe env1 st = .ok (.v (F a)) st)), compL gd t tt fe env (l.map enc) st = .ok ((l.filter q).map F) st
  | [], _, _ => rfl
  | d :: ds, hg, h => by
    obtain ⟨env1, h1, h2, h3⟩ := h d (List.mem_cons_self ..)
    have ih := comp_filterA (l := ds) hg fun d hd => h d (List.mem_cons_of_mem _ hd)
    cases hp : q d with
    | false => simp only [compL, List.map_cons, h1, h2, R.bindN, hp, Bool.false_eq_true, if_false, if_pos hg, ih, List.filter_cons]
    | true => simp only [compL, List.map_cons, h1, h2, R.bindN, hp, if_true, h3 hp, mat_v, R.bind_ok, if_pos hg, ih, List.filter_cons]
/-- a comprehension over a range -/
theorem rng_int (lo : Int) (n : Nat) : rngL lo n = ((List.range n).map fun (i : Nat) => lo + (i : Int)).map D.int := by rw [List.map_map]; rfl
theorem rng_enc (lo : Int) (n : Nat) : rngL lo n = (List.range n).map fun (i : Nat) => D.int (lo + (i : Int)) := rfl
/-- a comprehension that draws: one item after the other -/
theorem comp_draw {gd : Store → Prop} {t : Tg} {fe : SEnv → Store → R RV} {env : SEnv} (P : D → Prop) {rest : Store} (hg : ∀ T, gd (mk T rest)) : ∀ (ds : List D) (T : Tp),
    (∀ d ∈ ds, ∀ T, ∃ env1 d' T', t.put d env = some env1 ∧ fe env1 (mk T rest) = .ok (.v d') (mk T' rest) ∧ T'.xs = T.xs ∧ P d') →
    ∃ l T', compL gd t ttYes fe env ds (mk T rest) = .ok l (mk T' rest) ∧ l.length = ds.length ∧ (∀ d ∈ l, P d) ∧ T'.xs = T.xs
  | [], T, _ => ⟨[], T, rfl, rfl, by simp, rfl⟩
  | d :: ds, T, h => by
    obtain ⟨env1, d', T1, h1, h2, h3, h4⟩ := h d (List.mem_cons_self ..) T
    obtain ⟨l, T2, e, hl, hp, hx⟩ := comp_draw P hg ds T1 fun d hd => h d (List.mem_cons_of_mem _ hd)
    refine ⟨d' :: l, T2, ?_, by simp [hl], ?_, hx.trans h3⟩
    · simp only [compL, h1, ttYes, R.bindN, if_true, h2, mat_v, R.bind_ok, if_pos (hg _), e]
    · intro x hx
      rcases List.mem_cons.mp hx with rfl | hx
      · exact h4
      · exact hp x hx
@[simp] theorem dEq_bl (a b : Bool) (st : Store) : dEq (.v (.bl a)) (.v (.bl b)) st = some (.v (.bl (a == b))) := .trans rfl rfl
@[simp] theorem dNe_bl (a b : Bool) (st : Store) : dNe (.v (.bl a)) (.v (.bl b)) st = some (.v (.bl (!(a == b)))) := .trans rfl rfl
theorem start_at (ns : List Int) : ∃ T : Tp, c_l_tape [.rol (ns.map .int)] [] = .ok (.t [.ref 0, .int 0, .int 0, .int T.t]) [.lst (ns.map .int)] ∧ [Cell.lst (ns.map .int), .lst [.ref 0, .int 0, .int 0, .int T.t]] = mk T [] := by
  obtain ⟨t, e⟩ := tape_start (ns := ns)
  exact ⟨⟨ns, 0, 0, t, by decide, by decide⟩, e, rfl⟩
/-! ### what many laws draw -/
theorem size_at (T : Tp) (rest : Store) {most : Int} (hm : 0 ≤ most) (hm2 : most ≤ 1000) :
    ∃ (r : Int) (T' : Tp), c_l_size [.ref 1, .int most] (mk T rest) = .ok (.v (.int r)) (mk T' rest) ∧ 0 ≤ r ∧ r ≤ most ∧ T'.xs = T.xs := by
  obtain ⟨r, p, q, t, e, h1, h2, hp, hq⟩ := size_ok (xs := T.xs) (p := T.p) (q := T.q) (t := T.t) (most := most) (rest := rest) T.hp T.hq hm hm2
  exact ⟨r, ⟨T.xs, p, q, t, hp, hq⟩, e, h1, h2, rfl⟩
theorem string_at (T : Tp) (rest : Store) {n : Int} (hn : 0 ≤ n) (hn2 : n ≤ 100000) :
    ∃ (s : List Nat) (T' : Tp), c_l_string [.ref 1, .int n] (mk T rest) = .ok (.v (.str s)) (mk T' rest) ∧ s.length = n.toNat ∧ cpsOk s = true ∧ T'.xs = T.xs := by
  obtain ⟨s, p, q, t, e, h1, h2, hp, hq⟩ := string_ok (xs := T.xs) (p := T.p) (q := T.q) (t := T.t) (n := n) (rest := rest) T.hp T.hq hn hn2
  exact ⟨s, ⟨T.xs, p, q, t, hp, hq⟩, e, h1, h2, rfl⟩
theorem text_at (T : Tp) (rest : Store) {n : Int} (hn : 0 ≤ n) (hn2 : n ≤ 100000) :
    ∃ (l : List Ch) (T' : Tp), c_l_text [.ref 1, .int n] (mk T rest) = .ok (.v (txD l)) (mk T' rest) ∧ l.length = n.toNat ∧ (∀ c ∈ l, c.1 < 0x110000 ∧ 0 ≤ c.2.1 ∧ c.2.1 < 4 ∧ 0 ≤ c.2.2 ∧ c.2.2 < 100) ∧ T'.xs = T.xs := by
  obtain ⟨s, p, q, t, e, h1, h2, hp, hq⟩ := text_ok (xs := T.xs) (p := T.p) (q := T.q) (t := T.t) (n := n) (rest := rest) T.hp T.hq hn hn2
  exact ⟨s, ⟨T.xs, p, q, t, hp, hq⟩, e, h1, h2, rfl⟩
end Ev

/-! ## Ev24 -/
set_option Elab.async false
set_option linter.all false
set_option maxRecDepth 100000
/-! Ev24: equality of lists; loops turn by turn. -/
namespace Ev
open PySem
theorem lstM_form {st : Store} {a : RV} {l : List D} (h : lstM st a = some l) : a = .t l ∨ ∃ n, a = .v (.ref n) ∧ st[n]? = some (.lst l) := by
  cases a with
  | t m => cases h; exact .inl rfl
  | v d =>
    cases d with
    | ref n =>
      right
      refine ⟨n, rfl, ?_⟩
      simp only [lstM] at h
      split at h
      · rename_i e; cases h; exact e
      · cases h
    | _ => cases h
theorem dat_lst {st : Store} {a : RV} {l : List D} (h : lstM st a = some l) (hl : D.pures l = true) : dat st a = some (.list (D.toPys l)) := by
  rcases lstM_form h with rfl | ⟨n, rfl, e⟩
  · simp only [dat, hl, if_true]
  · simp only [dat, e, hl, if_true]
theorem eqB_lst {st : Store} {a b : RV} {l m : List D} (ha : lstM st a = some l) (hb : lstM st b = some m) (hl : D.oks 63 l = true) (hm : D.oks 63 m = true) : eqB a b st = some (decide (l = m)) := by
  have main : (match dat st a, dat st b with
      | some x, some y => if SeqAt.shaped x && SeqAt.shaped y then some (PyData.eqv x y) else none
      | _, _ => none) = some (decide (l = m)) := by
    rw [dat_lst ha (oks_pures _ _ hl), dat_lst hb (oks_pures _ _ hm)]
    simp only [shaped_list hl, shaped_list hm, Bool.and_self, if_true, Option.some.injEq, PyData.eqv]
    have := eqvs_ok 63 63 l m hl hm
    by_cases h : l = m
    · simp only [h, decide_true]; subst h; exact this.mpr rfl
    · simp only [h, decide_false]
      cases q : PyData.eqvAll (D.toPys l) (D.toPys m) with
      | true => exact absurd (this.mp q) h
      | false => rfl
  unfold eqB
  rcases lstM_form ha with rfl | ⟨n, rfl, e⟩ <;> rcases lstM_form hb with rfl | ⟨n', rfl, e'⟩ <;> exact main
theorem dEq_lst {st : Store} {a b : RV} {l m : List D} (ha : lstM st a = some l) (hb : lstM st b = some m) (hl : D.oks 63 l = true) (hm : D.oks 63 m = true) : dEq a b st = some (.v (.bl (decide (l = m)))) := by
  rw [dEq, eqB_lst ha hb hl hm]; rfl
theorem dNe_lst {st : Store} {a b : RV} {l m : List D} (ha : lstM st a = some l) (hb : lstM st b = some m) (hl : D.oks 63 l = true) (hm : D.oks 63 m = true) : dNe a b st = some (.v (.bl (!decide (l = m)))) := by
  rw [dNe, eqB_lst ha hb hl hm]; rfl
theorem oks_map {α : Type} {k : Nat} {f : α → D} {l : List α} (h : ∀ a ∈ l, D.ok k (f a) = true) : D.oks k (l.map f) = true := by
  rw [oks_iff]
  intro d hd
  obtain ⟨a, ha, rfl⟩ := List.mem_map.mp hd
  exact h a ha
@[simp] theorem oks_int (k : Nat) (l : List Int) : D.oks k (l.map D.int) = true := oks_map fun _ _ => rfl
theorem map_int_inj {l m : List Int} : l.map D.int = m.map D.int ↔ l = m := by
  constructor
  · intro h
    induction l generalizing m with
    | nil => cases m with
      | nil => rfl
      | cons _ _ => cases h
    | cons x l ih => cases m with
      | nil => cases h
      | cons y m =>
        simp only [List.map_cons, List.cons.injEq, D.int.injEq] at h
        rw [h.1, ih h.2]
  · rintro rfl; rfl
theorem map_str_inj {l m : List (List Nat)} : l.map D.str = m.map D.str ↔ l = m := by
  constructor
  · intro h
    induction l generalizing m with
    | nil => cases m with
      | nil => rfl
      | cons _ _ => cases h
    | cons x l ih => cases m with
      | nil => cases h
      | cons y m =>
        simp only [List.map_cons, List.cons.injEq, D.str.injEq] at h
        rw [h.1, ih h.2]
  · rintro rfl; rfl
/-! ### loops turn by turn -/
theorem forL_nil {gd : Store → Prop} {t : Tg} {f : SS} {e : SEnv} {s : Store} : forL gd t f [] e s = .nx e s := rfl
theorem forL_cons {t : Tg} {f : SS} {d : D} {ds : List D} {e : SEnv} {s : Store} : forL (fun _ => True) t f (d :: ds) e s = match t.put d e with
    | some e1 => (f e1 s).loop fun e2 s2 => forL (fun _ => True) t f ds e2 s2
    | none => .bad := by
  simp only [forL]
  cases t.put d e with
  | none => rfl
  | some e1 => simp
@[simp] theorem loop_nx (e : SEnv) (s : Store) (k : SEnv → Store → SR) : (SR.nx e s).loop k = k e s := .trans rfl rfl
@[simp] theorem loop_ct (e : SEnv) (s : Store) (k : SEnv → Store → SR) : (SR.ct e s).loop k = k e s := .trans rfl rfl
/-- the law's answer -/
theorem law_by {n : Nat} {g : SS} {ns : List Int} (h : WpR (g (startE n [.rol (ns.map .int)]) []) fun a _ => a = .v (.bl true)) : ∃ st', callB n g [.rol (ns.map .int)] [] = .ok (.v (.bl true)) st' := by
  have main : Wp (callB n g [.rol (ns.map .int)] []) fun a _ => a = .v (.bl true) := by
    refine wpc ?_
    obtain ⟨a, st', e, rfl⟩ := h.out
    cases hr : g (startE n [.rol (ns.map .int)]) [] with
    | nx e1 s1 => rw [hr] at e; cases e
    | ret a1 s1 => rw [hr] at e; cases e; exact Lv.same (st := []) rfl rfl
    | _ => rw [hr] at e; cases e
  obtain ⟨a, st, e, rfl⟩ := main.out
  exact ⟨st, e⟩
/-- a name for a thing (the goal is not looked into) -/
theorem hide {α : Sort _} {P : Prop} (a : α) (h : ∀ x : α, x = a → P) : P := h a rfl
abbrev LI := List D → SEnv → Store → Prop
abbrev WI := Nat → SEnv → Store → Prop
/-- a for that neither breaks nor returns, and what comes behind -/
theorem wp_forS {gd : Store → Prop} {t : Tg} {f : SS} {k : SEnv → Store → SR} {Q : RV → Store → Prop} {ds : List D} {env : SEnv} {st : Store} (I : List D → SEnv → Store → Prop) (h0 : I ds env st)
    (step : ∀ (d : D) (ds : List D) (env : SEnv) (st : Store), I (d :: ds) env st → ∃ env1, t.put d env = some env1 ∧ WpS (f env1 st) ⟨fun e s => gd s ∧ I ds e s, fun _ _ => False, fun e s => gd s ∧ I ds e s, fun _ _ => False⟩)
    (fin : ∀ (env : SEnv) (st : Store), I [] env st → WpR (k env st) Q) : WpR ((forL gd t f ds env st).seq k) Q := by
  rw [WpR_seq]
  refine wp_forL I h0 (fun d ds e s i => ?_) fin
  obtain ⟨e1, h1, h2⟩ := step d ds e s i
  exact ⟨e1, h1, h2.mono (fun _ _ q => q) (fun _ _ q => q.elim) (fun _ _ q => q) fun _ _ q => q.elim⟩
theorem wp_forSS {gd : Store → Prop} {t : Tg} {f : SS} {k : SEnv → Store → SR} {T : Es} {ds : List D} {env : SEnv} {st : Store} (I : List D → SEnv → Store → Prop) (h0 : I ds env st)
    (step : ∀ (d : D) (ds : List D) (env : SEnv) (st : Store), I (d :: ds) env st → ∃ env1, t.put d env = some env1 ∧ WpS (f env1 st) ⟨fun e s => gd s ∧ I ds e s, fun _ _ => False, fun e s => gd s ∧ I ds e s, fun _ _ => False⟩)
    (fin : ∀ (env : SEnv) (st : Store), I [] env st → WpS (k env st) T) : WpS ((forL gd t f ds env st).seq k) T := by
  rw [WpS_seq]
  refine wp_forL I h0 (fun d ds e s i => ?_) fin
  obtain ⟨e1, h1, h2⟩ := step d ds e s i
  exact ⟨e1, h1, h2.mono (fun _ _ q => q) (fun _ _ q => q.elim) (fun _ _ q => q) fun _ _ q => q.elim⟩
/-- a while that neither breaks nor returns, and what comes behind -/
theorem wp_whileS {g : SEnv → Store → R Bool} {f : SS} {k : SEnv → Store → SR} {Q : RV → Store → Prop} (I : Nat → SEnv → Store → Prop) {m : Nat} {env : SEnv} {st : Store} (hm : m < fuel) (h0 : I m env st)
    (step : ∀ (m : Nat) (env : SEnv) (st : Store), I m env st → Wp (g env st) fun c st1 => if c = true then WpS (f env st1) ⟨fun e s => ∃ m', m' < m ∧ I m' e s, fun _ _ => False, fun e s => ∃ m', m' < m ∧ I m' e s, fun _ _ => False⟩ else WpR (k env st1) Q) : WpR ((sWhile g f env st).seq k) Q := by
  rw [WpR_seq]
  refine wp_while I hm h0 fun m e s i => (step m e s i).mono fun c s1 q => ?_
  cases c with
  | false => simpa using q
  | true =>
    simp only [if_true] at q ⊢
    exact q.mono (fun _ _ q => q) (fun _ _ q => q.elim) (fun _ _ q => q) fun _ _ q => q.elim
theorem least_ex {P : Nat → Prop} (h : ∃ k, P k) : ∃ k, P k ∧ ∀ i < k, ¬ P i := by
  obtain ⟨k, hk⟩ := h
  induction k using Nat.strongRecOn with
  | _ k ih =>
    by_cases h : ∃ i, i < k ∧ P i
    · obtain ⟨i, h1, h2⟩ := h
      exact ih i h1 h2
    · exact ⟨k, hk, fun i hi hp => h ⟨i, hi, hp⟩⟩
/-! ### repr of small things -/
theorem repr_int {st : Store} {i : Int} (h : i.natAbs < 10 ^ 12) : dRepr (.v (.int i)) st = some (.v (.str (rpr (.int i)))) := dRepr_q (by simpa [D.rq] using h) (by simp [D.wq])
theorem repr_bl (b : Bool) (st : Store) : dRepr (.v (.bl b)) st = some (.v (.str (rpr (.bl b)))) := dRepr_ok rfl (Nat.zero_le _)
end Ev

/-! ## Ev25 -/
set_option Elab.async false
set_option linter.all false
set_option maxRecDepth 100000
/-! Ev25: hunks: what is drawn, touch, shift, rebase. -/
namespace Ev
open PySem
noncomputable def d_end_of : SS :=
  (sSeq (sRet (e2 dAdd (e2 dIx (eVar 0) (eC (.int 0))) (e2 dIx (eVar 0) (eC (.int 1))))) sNil)
noncomputable def c_end_of : List D → Store → R RV := callB 1 d_end_of
noncomputable def d_touch : SS :=
  (sSeq (sFor (wVal (eVar 0)) (.one 2) (
    (sSeq (sFor (wVal (eVar 1)) (.one 3) (
      (sSeq (sIf (tAndB (eBool (e2 dLe (e2 dIx (eVar 2) (eC (.int 0))) (eCall c_end_of [] (aCons (eVar 3) aNil)))) (eBool (e2 dLe (e2 dIx (eVar 3) (eC (.int 0))) (eCall c_end_of [] (aCons (eVar 2) aNil))))) (
        (sSeq (sRet (eC (.bl true))) sNil)) sNil) sNil))) sNil)))
  (sSeq (sRet (eC (.bl false))) sNil))
noncomputable def c_touch : List D → Store → R RV := callB 4 d_touch
noncomputable def d_shift : SS :=
  (sSeq (sRet (eN (g1 dSum) (bCons (eComp (wVal (eVar 1)) (.one 2) (eBool (e2 dLt (eCall c_end_of [] (aCons (eVar 2) aNil)) (eVar 0))) [2] (e2 dSub (eN (g1 dLen) (bCons (e2 dIx (eVar 2) (eC (.int 2))) bNil)) (e2 dIx (eVar 2) (eC (.int 1))))) bNil))) sNil)
noncomputable def c_shift : List D → Store → R RV := callB 3 d_shift
noncomputable def d_rebase_hunks : SS :=
  (sSeq (sRet (eN (g1 dTuple) (bCons (eComp (wVal (eVar 0)) (.many [2, 3, 4]) ttYes [2, 3, 4] (eTup (aCons (e2 dAdd (eVar 2) (eCall c_shift [] (aCons (eVar 2) (aCons (eVar 1) aNil)))) (aCons (eVar 3) (aCons (eVar 4) aNil))))) bNil))) sNil)
noncomputable def c_rebase_hunks : List D → Store → R RV := callB 5 d_rebase_hunks
noncomputable def d_l_hunks : SS :=
  (sSeq (sSet 2 (eLst aNil))
  (sSeq (sSet 3 (eC (.int 0)))
  (sSeq (sFor (wRng1 (bCons (e2 dIx (eLst (aCons (eC (.int 0)) (aCons (eC (.int 1)) (aCons (eC (.int 1)) (aCons (eC (.int 2)) (aCons (eC (.int 2)) (aCons (eC (.int 3)) (aCons (eC (.int 4)) (aCons (eC (.int 6)) aNil))))))))) (eCall c_l_draw [] (aCons (eVar 0) (aCons (eC (.int 8)) aNil)))) bNil)) (.one 4) (
    (sSeq (sIf (eBool (e2 dLe (eVar 3) (eVar 1))) (
      (sSeq (sSet 5 (e2 dAdd (eVar 3) (eCall c_l_draw [] (aCons (eVar 0) (aCons (e2 dAdd (eN (g2 dMin2) (bCons (e2 dSub (eVar 1) (eVar 3)) (bCons (eC (.int 4)) bNil))) (eC (.int 1))) aNil)))))
      (sSeq (sSet 6 (eCall c_l_draw [] (aCons (eVar 0) (aCons (e2 dAdd (eN (g2 dMin2) (bCons (e2 dSub (eVar 1) (eVar 5)) (bCons (eC (.int 3)) bNil))) (eC (.int 1))) aNil))))
      (sSeq (sSet 7 (eCall c_l_draw [] (aCons (eVar 0) (aCons (eC (.int 4)) aNil))))
      (sSeq (sIf (tAndB (eBool (e2 dEq (eVar 6) (eC (.int 0)))) (eBool (e2 dEq (eVar 7) (eC (.int 0))))) (
        (sSeq (sSet 7 (eC (.int 1))) sNil)) sNil)
      (sSeq (sExpr (eMtL gAppend (eVar 2) (aCons (eTup (aCons (eVar 5) (aCons (eVar 6) (aCons (eCall c_l_string [] (aCons (eVar 0) (aCons (eVar 7) aNil))) aNil)))) aNil)))
      (sSeq (sSet 3 (e2 dAdd (e2 dAdd (eVar 5) (eVar 6)) (eC (.int 1)))) sNil))))))) sNil) sNil)))
  (sSeq (sRet (eN (g1 dTuple) (bCons (eVar 2) bNil))) sNil))))
noncomputable def c_l_hunks : List D → Store → R RV := callB 8 d_l_hunks
noncomputable def d_l_inked : SS :=
  (sSeq (sSet 3 (eLst aNil))
  (sSeq (sFor (wVal (eVar 0)) (.one 4) (
    (sSeq (sSet 5 (e2 dIx (eVar 2) (eC (.int 0))))
    (sSeq (sPutIx (e2 dAdd (eVar 5) (eN (g1 dLen) (bCons (e2 dIx (eVar 4) (eC (.int 2))) bNil))) (eVar 2) (eC (.int 0)))
    (sSeq (sExpr (eMtL gAppend (eVar 3) (aCons (eTup (aCons (e2 dIx (eVar 4) (eC (.int 0))) (aCons (e2 dIx (eVar 4) (eC (.int 1))) (aCons (eCall c_l_stamped [] (aCons (e2 dIx (eVar 4) (eC (.int 2))) (aCons (eVar 1) (aCons (eVar 5) aNil)))) aNil)))) aNil))) sNil)))))
  (sSeq (sRet (eN (g1 dTuple) (bCons (eVar 3) bNil))) sNil)))
noncomputable def c_l_inked : List D → Store → R RV := callB 6 d_l_inked
noncomputable def d_l_written : SS :=
  (sSeq (sRet (eN (g1 dTuple) (bCons (eComp (wVal (eVar 0)) (.one 1) ttYes [1] (eTup (aCons (e2 dIx (eVar 1) (eC (.int 0))) (aCons (e2 dIx (eVar 1) (eC (.int 1))) (aCons (eCall c_l_word [] (aCons (e2 dIx (eVar 1) (eC (.int 2))) aNil)) aNil))))) bNil))) sNil)
noncomputable def c_l_written : List D → Store → R RV := callB 2 d_l_written
noncomputable def d_l_split : SS :=
  (sSeq (sSet 2 (eLst (aCons (eTup aNil) (aCons (eTup aNil) (aCons (eTup aNil) aNil)))))
  (sSeq (sFor (wVal (eVar 1)) (.one 3) (
    (sSeq (sSet 4 (eCall c_l_draw [] (aCons (eVar 0) (aCons (eC (.int 3)) aNil))))
    (sSeq (sPutIx (e2 dAdd (e2 dIx (eVar 2) (eVar 4)) (eTup (aCons (eVar 3) aNil))) (eVar 2) (eVar 4)) sNil))))
  (sSeq (sRet (eVar 2)) sNil)))
noncomputable def c_l_split : List D → Store → R RV := callB 5 d_l_split
noncomputable def d_l_shifted : SS :=
  (sSeq (sSet 2 (eLst aNil))
  (sSeq (sFor (wVal (eVar 0)) (.one 3) (
    (sSeq (sSet 4 (e2 dIx (eVar 3) (eC (.int 0))))
    (sSeq (sFor (wVal (eVar 1)) (.one 5) (
      (sSeq (sIf (eBool (e2 dLt (e2 dAdd (e2 dIx (eVar 5) (eC (.int 0))) (e2 dIx (eVar 5) (eC (.int 1)))) (e2 dIx (eVar 3) (eC (.int 0))))) (
        (sSeq (sSet 4 (e2 dSub (e2 dAdd (eVar 4) (eN (g1 dLen) (bCons (e2 dIx (eVar 5) (eC (.int 2))) bNil))) (e2 dIx (eVar 5) (eC (.int 1))))) sNil)) sNil) sNil)))
    (sSeq (sExpr (eMtL gAppend (eVar 2) (aCons (eTup (aCons (eVar 4) (aCons (e2 dIx (eVar 3) (eC (.int 1))) (aCons (e2 dIx (eVar 3) (eC (.int 2))) aNil)))) aNil))) sNil)))))
  (sSeq (sRet (eN (g1 dTuple) (bCons (eVar 2) bNil))) sNil)))
noncomputable def c_l_shifted : List D → Store → R RV := callB 6 d_l_shifted
/-! ### hunks as data -/
abbrev Hk := Int × Int × D
def hk (h : Hk) : D := .tup [.int h.1, .int h.2.1, h.2.2]
@[simp] theorem hk_0 (h : Hk) (st : Store) : dIx (.v (hk h)) (.v (.int 0)) st = some (.v (.int h.1)) := .trans rfl rfl
@[simp] theorem hk_1 (h : Hk) (st : Store) : dIx (.v (hk h)) (.v (.int 1)) st = some (.v (.int h.2.1)) := .trans rfl rfl
@[simp] theorem hk_2 (h : Hk) (st : Store) : dIx (.v (hk h)) (.v (.int 2)) st = some (.v h.2.2) := .trans rfl rfl
@[simp] theorem hk_put (h : Hk) (a b c : Nat) (e : SEnv) : (Tg.many [a, b, c]).put (hk h) e = some (((e.set a (some (.int h.1))).set b (some (.int h.2.1))).set c (some h.2.2)) := .trans rfl rfl
def gl : D → Nat
  | .tup l => l.length
  | .str s => s.length
  | _ => 0
def sq (d : D) : Prop := (∃ l, d = .tup l ∧ D.pures l = true ∧ l.length ≤ sLine) ∨ ∃ s, d = .str s ∧ s.length ≤ sLine
theorem sq_len {d : D} (h : sq d) (st : Store) : dLen (.v d) st = some (.v (.int (gl d))) := by
  rcases h with ⟨l, rfl, _, _⟩ | ⟨s, rfl, h⟩
  · rfl
  · simp [gl, h]
theorem sq_pure {d : D} (h : sq d) : D.pure d = true := by
  rcases h with ⟨l, rfl, h, _⟩ | ⟨s, rfl, h⟩
  · simpa [D.pure] using h
  · rfl
theorem hk_pure {h : Hk} (q : sq h.2.2) : D.pure (hk h) = true := by
  simp [hk, D.pure, D.pures, sq_pure q]
abbrev HW := Int × Int × List Nat
abbrev HX := Int × Int × List Ch
def hx (h : HX) : Hk := (h.1, h.2.1, txD h.2.2)
def hw (h : HW) : Hk := (h.1, h.2.1, .str h.2.2)
def tw (h : HW) : D := hk (hw h)
def tx (h : HX) : D := hk (hx h)
theorem tx_hk (l : List HX) : l.map tx = (l.map hx).map hk := by rw [List.map_map]; rfl
theorem tw_hk (l : List HW) : l.map tw = (l.map hw).map hk := by rw [List.map_map]; rfl
theorem hx_sq {h : HX} (hl : h.2.2.length ≤ 1000) : sq (hx h).2.2 := by
  have hsl : sLine = 16777216 := rfl
  exact .inl ⟨_, rfl, chs_pure _, by simp; omega⟩
theorem hw_sq {h : HW} (hl : h.2.2.length ≤ 1000) : sq (hw h).2.2 := by
  have hsl : sLine = 16777216 := rfl
  exact .inr ⟨_, rfl, by omega⟩
def en (h : Hk) : Int := h.1 + h.2.1
def hits (p q : Hk) : Bool := decide (p.1 ≤ en q) && decide (q.1 ≤ en p)
def touchB (a b : List Hk) : Bool := a.any fun p => b.any fun q => hits p q
theorem end_ok (h : Hk) (st : Store) : c_end_of [hk h] st = .ok (.v (.int (en h))) st := by
  refine call_pure ?_ rfl
  unfold d_end_of
  simp [en]
theorem touch_ok (a b : List Hk) (st : Store) : c_touch [.tup (a.map hk), .tup (b.map hk)] st = .ok (.v (.bl (touchB a b))) st := by
  refine call_pure ?_ rfl
  unfold d_touch
  simp
  rw [WpR_seq]
  refine wp_forL (fun ds e s => s = st ∧ ∃ c d r, e = [some (.tup (a.map hk)), some (.tup (b.map hk)), c, d] ∧ ds = r.map hk ∧ touchB a b = touchB r b) ⟨rfl, none, none, a, rfl, rfl, rfl⟩ ?_ ?_
  · rintro d ds e s ⟨rfl, c, d', r, rfl, h1, h2⟩
    cases r with
    | nil => cases h1
    | cons h r =>
      cases h1
      refine ⟨_, rfl, ?_⟩
      simp
      rw [WpS_seq]
      refine wp_forL (fun ds e s1 => s1 = s ∧ ∃ d r2, e = [some (.tup (a.map hk)), some (.tup (b.map hk)), some (hk h), d] ∧ ds = r2.map hk ∧ touchB a b = (r2.any (hits h) || touchB r b)) ⟨rfl, _, b, rfl, rfl, by rw [h2]; rfl⟩ ?_ ?_
      · rintro d ds e s1 ⟨rfl, c, r2, rfl, h1, h3⟩
        cases r2 with
        | nil => cases h1
        | cons g r2 =>
          cases h1
          refine ⟨_, rfl, ?_⟩
          simp [end_ok]
          rw [List.any_cons] at h3
          by_cases q1 : h.1 ≤ en g
          · by_cases q2 : g.1 ≤ en h
            · simp [q1, q2, h3, hits]
            · simp only [q1, q2, if_true, if_false]
              exact ⟨r2, rfl, by rw [h3]; simp [hits, q2]⟩
          · simp only [q1, if_false]
            exact ⟨r2, rfl, by rw [h3]; simp [hits, q1]⟩
      · rintro e s1 ⟨rfl, c, r2, rfl, h1, h3⟩
        have : r2 = [] := by cases r2 with
          | nil => rfl
          | cons _ _ => cases h1
        subst this
        simp
        exact ⟨r, rfl, by simpa using h3⟩
  · rintro e s ⟨rfl, c, d', r, rfl, h1, h2⟩
    have : r = [] := by cases r with
      | nil => rfl
      | cons _ _ => cases h1
    subst this
    have h3 : touchB a b = false := h2
    simp [h3]
/-! ### shift, rebase -/
def dlt (h : Hk) : Int := (gl h.2.2 : Int) - h.2.1
def shI (x : Int) (l : List Hk) : Int := ((l.filter fun h => decide (en h < x)).map dlt).sum
def rebI (a b : List Hk) : List Hk := a.map fun h => (h.1 + shI h.1 b, h.2)
theorem shI_cons (x : Int) (h : Hk) (l : List Hk) : shI x (h :: l) = (if en h < x then dlt h else 0) + shI x l := by
  unfold shI
  rw [List.filter_cons]
  by_cases q : en h < x
  · simp [q]
  · simp [q]
theorem shI_app (x : Int) (l m : List Hk) : shI x (l ++ m) = shI x l + shI x m := by
  unfold shI
  rw [List.filter_append, List.map_append, List.sum_append]
@[simp] theorem rebI_len (a b : List Hk) : (rebI a b).length = a.length := by simp [rebI]
theorem shift_ok (x : Int) (l : List Hk) (st : Store) (hl : l.length ≤ 1000) (hs : ∀ h ∈ l, sq h.2.2) : c_shift [.int x, .tup (l.map hk)] st = .ok (.v (.int (shI x l))) st := by
  have hsl : sLine = 16777216 := rfl
  refine call_pure ?_ rfl
  unfold d_shift
  have e : ∀ gd : Store → Prop, gd st → compL gd (.one 2) (eBool (e2 dLt (eCall c_end_of [] (aCons (eVar 2) aNil)) (eVar 0))) (e2 dSub (eN (g1 dLen) (bCons (e2 dIx (eVar 2) (eC (.int 2))) bNil)) (e2 dIx (eVar 2) (eC (.int 1)))) [some (.int x), some (.tup (l.map hk)), none] (l.map hk) st = .ok (((l.filter fun h => decide (en h < x)).map dlt).map .int) st := by
    intro gd hgd
    rw [List.map_map]
    refine comp_filterA hgd fun h hh => ⟨_, rfl, ?_, fun _ => ?_⟩
    · simp [end_ok]
    · simp [sq_len (hs h hh), dlt]
  have e2 := dSum_ok (st := st) (a := .t (((l.filter fun h => decide (en h < x)).map dlt).map .int)) rfl
  simp only [shI]
  generalize (l.filter fun h => decide (en h < x)).map dlt = m at e e2
  simp [show l.length ≤ sLine by omega, e, e2]
theorem rebase_ok (a b : List Hk) (st : Store) (ha : a.length ≤ 1000) (hb : b.length ≤ 1000) (sa : ∀ h ∈ a, sq h.2.2) (sb : ∀ h ∈ b, sq h.2.2) : c_rebase_hunks [.tup (a.map hk), .tup (b.map hk)] st = .ok (.v (.tup ((rebI a b).map hk))) st := by
  have hsl : sLine = 16777216 := rfl
  have e0 : (rebI a b).map hk = a.map fun h => hk (h.1 + shI h.1 b, h.2) := by rw [rebI, List.map_map]; rfl
  rw [e0]
  refine call_pure ?_ (by
    simp only [D.pure]
    exact pures_map fun h hh => hk_pure (h := (h.1 + shI h.1 b, h.2)) (sa h hh))
  unfold d_rebase_hunks
  have e : ∀ gd : Store → Prop, gd st → compL gd (.many [2, 3, 4]) ttYes (eTup (aCons (e2 dAdd (eVar 2) (eCall c_shift [] (aCons (eVar 2) (aCons (eVar 1) aNil)))) (aCons (eVar 3) (aCons (eVar 4) aNil)))) [some (.tup (a.map hk)), some (.tup (b.map hk)), none, none, none] (a.map hk) st = .ok (a.map fun h => hk (h.1 + shI h.1 b, h.2)) st := by
    intro gd hgd
    refine comp_mapA hgd fun h hh => ⟨_, hk_put h 2 3 4 _, ?_⟩
    simp [shift_ok _ _ _ hb sb, show 3 ≤ sLine by decide, hk]
  simp [show a.length ≤ sLine by omega, e]
/-! ### what the law reckons -/
theorem shifted_ok (a b : List Hk) (st : Store) (ha : a.length ≤ 1000) (hb : b.length ≤ 1000) (sa : ∀ h ∈ a, sq h.2.2) (sb : ∀ h ∈ b, sq h.2.2) : c_l_shifted [.tup (a.map hk), .tup (b.map hk)] st = .ok (.v (.tup ((rebI a b).map hk))) st := by
  have hsl : sLine = 16777216 := rfl
  refine call_pure ?_ (by
    simp only [D.pure]
    refine pures_map fun h hh => ?_
    obtain ⟨g, hg, rfl⟩ := List.mem_map.mp hh
    exact hk_pure (h := (g.1 + shI g.1 b, g.2)) (sa g hg))
  obtain ⟨Q, hQ⟩ : ∃ Q : RV → Store → Prop, Q = fun a' st' => a' = .v (.tup ((rebI a b).map hk)) ∧ ∃ more, st' = st ++ more := ⟨_, rfl⟩
  rw [← hQ]
  have fin : ∀ c, Q (.v (.tup ((rebI a b).map hk))) (st ++ [c]) := fun c => by rw [hQ]; exact ⟨rfl, _, rfl⟩
  unfold d_l_shifted
  simp [show 0 ≤ sLine by decide]
  obtain ⟨I, hI⟩ : ∃ I : LI, I = fun ds e w => ∃ (d r : List Hk) (x3 x4 x5 : Option D), a = d ++ r ∧ ds = r.map hk ∧ e = [some (.tup (a.map hk)), some (.tup (b.map hk)), some (.ref st.length), x3, x4, x5] ∧ w = st ++ [.lst ((rebI d b).map hk)] := ⟨_, rfl⟩
  refine wp_forS I (by rw [hI]; exact ⟨[], a, none, none, none, rfl, rfl, rfl, rfl⟩) ?_ ?_
  · intro d ds e w h
    rw [hI] at h
    obtain ⟨dn, r, x3, x4, x5, ha', h1, rfl, rfl⟩ := h
    cases r with
    | nil => cases h1
    | cons h r =>
      cases h1
      refine ⟨_, rfl, ?_⟩
      simp
      obtain ⟨J, hJ⟩ : ∃ J : LI, J = fun ds e w => ∃ (d2 r2 : List Hk) (x5 : Option D), b = d2 ++ r2 ∧ ds = r2.map hk ∧ e = [some (.tup (a.map hk)), some (.tup (b.map hk)), some (.ref st.length), some (hk h), some (.int (h.1 + shI h.1 d2)), x5] ∧ w = st ++ [.lst ((rebI dn b).map hk)] := ⟨_, rfl⟩
      refine wp_forSS J (by rw [hJ]; exact ⟨[], b, x5, rfl, rfl, by simp [shI], rfl⟩) ?_ ?_
      · intro d ds e w h'
        rw [hJ] at h'
        obtain ⟨d2, r2, x5, hb', h2, rfl, rfl⟩ := h'
        cases r2 with
        | nil => cases h2
        | cons g r2 =>
          cases h2
          refine ⟨_, rfl, ?_⟩
          have hg : sq g.2.2 := sb g (by rw [hb']; simp)
          have go : ∀ z, z = h.1 + shI h.1 (d2 ++ [g]) → J (r2.map hk) [some (.tup (a.map hk)), some (.tup (b.map hk)), some (.ref st.length), some (hk h), some (.int z), some (hk g)] (st ++ [.lst ((rebI dn b).map hk)]) := by
            rintro z rfl
            rw [hJ]
            exact ⟨d2 ++ [g], r2, _, by rw [hb']; simp, rfl, rfl, rfl⟩
          simp [sq_len hg]
          by_cases q : g.1 + g.2.1 < h.1
          · simp only [q, if_true]
            refine go _ ?_
            rw [shI_app, shI_cons]
            simp only [en, q, if_true, dlt]
            simp [shI]
            omega
          · simp only [q, if_false]
            refine go _ ?_
            rw [shI_app, shI_cons]
            simp only [en, q, if_false]
            simp [shI]
      · intro e w h'
        rw [hJ] at h'
        obtain ⟨d2, r2, x5, hb', h2, rfl, rfl⟩ := h'
        have : r2 = [] := by cases r2 with
          | nil => rfl
          | cons _ _ => cases h2
        subst this
        have hb' : d2 = b := by simpa using hb'.symm
        subst hb'
        have hl : dn.length < sLine := by
          have := congrArg List.length ha'
          simp at this; omega
        simp [show 3 ≤ sLine by decide, hl]
        rw [hI]
        exact ⟨dn ++ [h], r, _, _, _, by rw [ha']; simp, rfl, rfl, by simp [rebI, hk]⟩
  · intro e w h
    rw [hI] at h
    obtain ⟨d, r, x3, x4, x5, ha', h1, rfl, rfl⟩ := h
    have : r = [] := by cases r with
      | nil => rfl
      | cons _ _ => cases h1
    subst this
    have : d = a := by simpa using ha'.symm
    subst this
    simp
    exact fin _
/-! ### apart -/
def sepH (g h : Hk) : Prop := en g < h.1 ∨ en h < g.1
def ascH (l : List Hk) : Prop := l.Pairwise fun g h => en g < h.1
def posH (l : List Hk) : Prop := ∀ h ∈ l, 0 ≤ h.2.1
theorem gap : ∀ {M : List Hk} {lo hi : Int}, ascH M → posH M → lo < hi → (∀ o ∈ M, lo < o.1) → lo + 1 - hi ≤ shI hi M
  | [], lo, hi, _, _, h, _ => by simp [shI]; omega
  | o :: M, lo, hi, ha, hp, h, hlo => by
    rw [shI_cons]
    have ho := hlo o (List.mem_cons_self ..)
    have hr := hp o (List.mem_cons_self ..)
    have ha' := List.pairwise_cons.mp ha
    by_cases q : en o < hi
    · have ih := gap (M := M) (lo := en o) (hi := hi) ha'.2 (fun x hx => hp x (List.mem_cons_of_mem _ hx)) q ha'.1
      simp only [q, if_true, dlt]
      unfold en at *
      omega
    · have ih := gap (M := M) (lo := lo) (hi := hi) ha'.2 (fun x hx => hp x (List.mem_cons_of_mem _ hx)) h fun x hx => hlo x (List.mem_cons_of_mem _ hx)
      simp only [q, if_false]
      omega
theorem shI_split {g : Hk} {hi : Int} (hg : 0 ≤ g.2.1) (h : en g < hi) : ∀ {M : List Hk}, posH M → (∀ o ∈ M, sepH g o) → shI hi M = shI g.1 M + shI hi (M.filter fun o => decide (en g < o.1))
  | [], _, _ => by simp [shI]
  | o :: M, hp, hs => by
    have ih := shI_split (M := M) hg h (fun x hx => hp x (List.mem_cons_of_mem _ hx)) fun x hx => hs x (List.mem_cons_of_mem _ hx)
    have ho := hp o (List.mem_cons_self ..)
    rw [shI_cons, shI_cons, ih]
    rcases hs o (List.mem_cons_self ..) with q | q
    · have f : (o :: M).filter (fun o => decide (en g < o.1)) = o :: M.filter fun o => decide (en g < o.1) := List.filter_cons_of_pos (by simpa using q)
      rw [f, shI_cons, show (if en o < g.1 then dlt o else 0) = 0 from if_neg (by unfold en at q ⊢; omega)]
      omega
    · have f : (o :: M).filter (fun o => decide (en g < o.1)) = M.filter fun o => decide (en g < o.1) := List.filter_cons_of_neg (by simp; unfold en at q ⊢; omega)
      rw [f, if_pos (show en o < g.1 from q), if_pos (show en o < hi by unfold en at q h ⊢; omega)]
      omega
theorem mono {g h : Hk} {M : List Hk} (hg : 0 ≤ g.2.1) (hh : en g < h.1) (ha : ascH M) (hp : posH M) (hs : ∀ o ∈ M, sepH g o) : en g + shI g.1 M < h.1 + shI h.1 M := by
  have e := shI_split hg hh hp hs
  have k := gap (M := M.filter fun o => decide (en g < o.1)) (lo := en g) (hi := h.1) (ha.sublist (List.filter_sublist)) (fun x hx => hp x (List.mem_filter.mp hx).1) hh fun o ho => by simpa using (List.mem_filter.mp ho).2
  omega
/-- three rows of hunks, each apart from the others -/
structure Apart (a b : List Hk) : Prop where
  sep : ∀ g ∈ a, ∀ h ∈ b, sepH g h
theorem Apart.symm {a b : List Hk} (h : Apart a b) : Apart b a := ⟨fun g hg k hk => (h.sep k hk g hg).symm⟩
theorem shI_reb {h : Hk} {M C : List Hk} (hh : 0 ≤ h.2.1) (ha : ascH M) (hp : posH M) (pc : posH C) (h1 : ∀ o ∈ M, sepH h o) (h2 : ∀ g ∈ C, sepH h g) (h3 : Apart C M) : shI (h.1 + shI h.1 M) (rebI C M) = shI h.1 C := by
  induction C with
  | nil => simp [shI, rebI]
  | cons g C ih =>
    have ih := ih (fun x hx => pc x (List.mem_cons_of_mem _ hx)) (fun x hx => h2 x (List.mem_cons_of_mem _ hx)) ⟨fun x hx => h3.sep x (List.mem_cons_of_mem _ hx)⟩
    have hg := pc g (List.mem_cons_self ..)
    have e : rebI (g :: C) M = (g.1 + shI g.1 M, g.2) :: rebI C M := rfl
    rw [e, shI_cons, shI_cons, ih]
    congr 1
    have : en (g.1 + shI g.1 M, g.2) < h.1 + shI h.1 M ↔ en g < h.1 := by
      rcases h2 g (List.mem_cons_self ..) with q | q
      · have := mono hh q ha hp h1
        unfold en at *
        simp only
        omega
      · have := mono hg q ha hp (h3.sep g (List.mem_cons_self ..))
        unfold en at *
        simp only
        omega
    by_cases q : en g < h.1
    · rw [if_pos (this.mpr q), if_pos q]; rfl
    · rw [if_neg fun z => q (this.mp z), if_neg q]
theorem reb_reb {a b c : List Hk} (pa : posH a) (pb : posH b) (pc : posH c) (ab : Apart a b) (ac : Apart a c) (cb : Apart c b) (hb : ascH b) : rebI (rebI a b) (rebI c b) = rebI a (b ++ c) := by
  unfold rebI
  rw [List.map_map]
  apply List.map_congr_left
  intro h hh
  simp only [Function.comp]
  have e := shI_reb (pa h hh) hb pb pc (ab.sep h hh) (ac.sep h hh) cb
  unfold rebI at e
  rw [e, shI_app]
  congr 1
  omega
theorem reb_apart {a b c : List Hk} (pa : posH a) (pb : posH b) (pc : posH c) (ab : Apart a b) (ac : Apart a c) (cb : Apart c b) (hb : ascH b) : touchB (rebI a b) (rebI c b) = false := by
  unfold touchB
  rw [List.any_eq_false]
  intro g' hg'
  obtain ⟨g, hg, rfl⟩ := List.mem_map.mp hg'
  rw [Bool.not_eq_true, List.any_eq_false]
  intro k' hk'
  obtain ⟨k, hk, rfl⟩ := List.mem_map.mp hk'
  unfold hits
  rw [Bool.not_eq_true, Bool.and_eq_false_iff]
  rcases ac.sep g hg k hk with q | q
  · have := mono (pa g hg) q hb pb (ab.sep g hg)
    right
    simp only [decide_eq_false_iff_not]
    unfold en at *
    simp only
    omega
  · have := mono (pc k hk) q hb pb (cb.sep k hk)
    left
    simp only [decide_eq_false_iff_not]
    unfold en at *
    simp only
    omega
theorem shI_comm (x : Int) (b c : List Hk) : shI x (b ++ c) = shI x (c ++ b) := by
  rw [shI_app, shI_app]; omega
theorem rebI_comm (a b c : List Hk) : rebI a (b ++ c) = rebI a (c ++ b) := by
  unfold rebI
  apply List.map_congr_left
  intro h _
  rw [shI_comm]
end Ev

/-! ## Ev26 -/
set_option Elab.async false
set_option linter.all false
set_option maxRecDepth 100000
/-! Ev26: drawing hunks, stamping, writing, dealing out. -/
namespace Ev
open PySem
structure GoodH (n : Int) (l : List HW) : Prop where
  len : l.length ≤ 6
  each : ∀ h ∈ l, 0 ≤ h.1 ∧ 0 ≤ h.2.1 ∧ h.1 + h.2.1 ≤ n ∧ h.2.2.length ≤ 3 ∧ (0 < h.2.1 ∨ 0 < h.2.2.length) ∧ cpsOk h.2.2 = true
  asc : l.Pairwise fun g h => g.1 + g.2.1 < h.1
theorem tw_pures (l : List HW) : D.pures (l.map tw) = true := pures_map fun h _ => by simp [tw, hk, hw, D.pure, D.pures]
theorem tx_pures (l : List HX) : D.pures (l.map tx) = true := pures_map fun h _ => by simp [tx, hk, hx, D.pure, D.pures, txD, chs_pure]
theorem hunks_at (T : Tp) (rest : Store) (n : Int) (hn : n ≤ 100000) : ∃ (l : List HW) (T' : Tp), c_l_hunks [.ref 1, .int n] (mk T rest) = .ok (.v (.tup (l.map tw))) (mk T' rest) ∧ GoodH n l ∧ T'.xs = T.xs := by
  have hsl : sLine = 16777216 := rfl
  have main : Wp (c_l_hunks [.ref 1, .int n] (mk T rest)) fun a w => ∃ (l : List HW) (T' : Tp), a = .v (.tup (l.map tw)) ∧ w = mk T' rest ∧ GoodH n l ∧ T'.xs = T.xs := by
    refine wpc ?_
    have key : ∀ (l : List HW) (T' : Tp) (c : Cell), GoodH n l → T'.xs = T.xs → Lv (mk T rest) (fun a w => ∃ (l : List HW) (T' : Tp), a = .v (.tup (l.map tw)) ∧ w = mk T' rest ∧ GoodH n l ∧ T'.xs = T.xs) (.v (.tup (l.map tw))) (mk T' (rest ++ [c])) :=
      fun l T' c h1 h2 => Lv.out h2.symm (by simpa [D.pure] using tw_pures l) ⟨l, T', rfl, rfl, h1, h2⟩
    generalize Lv (mk T rest) _ = Q at key ⊢
    have hm := pk_mem (l := [(0 : Int), 1, 1, 2, 2, 3, 4, 6]) (T := T) (by simp)
    have em : L2.atI [D.int 0, D.int 1, D.int 1, D.int 2, D.int 2, D.int 3, D.int 4, D.int 6] (dr T 8) = some (.int (pk [(0 : Int), 1, 1, 2, 2, 3, 4, 6] T)) := pk_map (f := D.int) (l := [(0 : Int), 1, 1, 2, 2, 3, 4, 6]) rfl (by simp)
    generalize pk [(0 : Int), 1, 1, 2, 2, 3, 4, 6] T = m at hm em
    have hm' : 0 ≤ m ∧ m ≤ 6 := by simp at hm; omega
    unfold d_l_hunks
    simp [draw_at, em, show 8 ≤ sLine by decide, show 0 ≤ sLine by decide]
    refine ⟨rOk_of (by omega) (by omega), ?_⟩
    obtain ⟨I, hI⟩ : ∃ I : LI, I = fun ds e w => ∃ (l : List HW) (T' : Tp) (at_ : Int) (c4 c5 c6 c7 : Option D), e = [some (.ref 1), some (.int n), some (.ref (rest.length + 2)), some (.int at_), c4, c5, c6, c7] ∧ w = mk T' (rest ++ [.lst (l.map tw)]) ∧ l.length + ds.length ≤ 6 ∧ T'.xs = T.xs ∧ 0 ≤ at_ ∧
        (∀ h ∈ l, 0 ≤ h.1 ∧ 0 ≤ h.2.1 ∧ h.1 + h.2.1 ≤ n ∧ h.2.2.length ≤ 3 ∧ (0 < h.2.1 ∨ 0 < h.2.2.length) ∧ cpsOk h.2.2 = true) ∧ l.Pairwise (fun g h => g.1 + g.2.1 < h.1) ∧ ∀ h ∈ l, h.1 + h.2.1 < at_ := ⟨_, rfl⟩
    refine wp_forS I (by rw [hI]; exact ⟨[], _, 0, none, none, none, none, rfl, rfl, by rw [rngL_len]; simp; omega, nx_xs _ _, by decide, by simp, .nil, by simp⟩) ?_ ?_
    · intro d ds e w h
      rw [hI] at h
      obtain ⟨l, T', at_, c4, c5, c6, c7, rfl, rfl, hl, hx, ha, he, hp, hend⟩ := h
      refine ⟨_, rfl, ?_⟩
      simp only [List.length_cons] at hl
      by_cases hle : at_ ≤ n
      · have d1 := dr_nn T' ((if 4 < n - at_ then 4 else n - at_) + 1)
        have d2 := dr_lt T' ((if 4 < n - at_ then 4 else n - at_) + 1) (by split <;> omega)
        have d0 : (if 4 < n - at_ then 4 else n - at_) + 1 < (1073741824 : Int) := by split <;> omega
        generalize hr1 : dr T' ((if 4 < n - at_ then 4 else n - at_) + 1) = r1 at d1 d2
        generalize hT1 : nx T' ((if 4 < n - at_ then 4 else n - at_) + 1) = T1
        have hx1 : T1.xs = T.xs := by rw [← hT1, nx_xs, hx]
        have r1n : at_ + r1 ≤ n := by split at d2 <;> omega
        have d3 := dr_nn T1 ((if 3 < n - (at_ + r1) then 3 else n - (at_ + r1)) + 1)
        have d4 := dr_lt T1 ((if 3 < n - (at_ + r1) then 3 else n - (at_ + r1)) + 1) (by split <;> omega)
        have d5 : (if 3 < n - (at_ + r1) then 3 else n - (at_ + r1)) + 1 < (1073741824 : Int) := by split <;> omega
        generalize hr2 : dr T1 ((if 3 < n - (at_ + r1) then 3 else n - (at_ + r1)) + 1) = r2 at d3 d4
        generalize hT2 : nx T1 ((if 3 < n - (at_ + r1) then 3 else n - (at_ + r1)) + 1) = T2
        have hx2 : T2.xs = T.xs := by rw [← hT2, nx_xs, hx1]
        have r2n : at_ + r1 + r2 ≤ n := by split at d4 <;> omega
        have d6 := dr_nn T2 4
        have d7 := dr_lt T2 4 (by decide)
        generalize hr3 : dr T2 4 = r3 at d6 d7
        generalize hT3 : nx T2 4 = T3
        have hx3 : T3.xs = T.xs := by rw [← hT3, nx_xs, hx2]
        have hll : l.length < sLine := by omega
        have go : ∀ (s : List Nat) (put : Int) (T4 : Tp), s.length ≤ 3 → (0 < r2 ∨ 0 < s.length) → cpsOk s = true → T4.xs = T.xs → I ds [some (.ref 1), some (.int n), some (.ref (rest.length + 2)), some (.int (at_ + r1 + r2 + 1)), some d, some (.int (at_ + r1)), some (.int r2), some (.int put)] (mk T4 (rest ++ [.lst (l.map tw ++ [.tup [.int (at_ + r1), .int r2, .str s]])])) := by
          intro s put T4 h1 h2 h3 h4
          rw [hI]
          refine ⟨l ++ [(at_ + r1, r2, s)], T4, _, _, _, _, _, rfl, by simp [tw, hk, hw], by simp; omega, h4, by omega, ?_, ?_, ?_⟩
          · intro h hh
            rcases List.mem_append.mp hh with hh | hh
            · exact he h hh
            · simp at hh; subst hh; exact ⟨by omega, d3, r2n, h1, h2, h3⟩
          · refine List.pairwise_append.mpr ⟨hp, by simp, ?_⟩
            intro g hg k hk
            simp at hk; subst hk
            have := hend g hg
            simp only; omega
          · intro h hh
            rcases List.mem_append.mp hh with hh | hh
            · have := hend h hh; omega
            · simp at hh; subst hh; simp only; omega
        by_cases hz : r2 = 0 ∧ r3 = 0
        · obtain ⟨s, T4, e4, s1, s2, s3⟩ := string_at T3 (rest ++ [.lst (l.map tw)]) (n := 1) (by decide) (by decide)
          have := go s 1 T4 (by omega) (.inr (by omega)) s2 (by rw [s3, hx3])
          simp [hle, draw_at, d0, d5, hr1, hT1, hr2, hT2, hr3, hT3, hz.1, hz.2, e4, hll, show 3 ≤ sLine by decide]
          simpa [hz.1] using this
        · obtain ⟨s, T4, e4, s1, s2, s3⟩ := string_at T3 (rest ++ [.lst (l.map tw)]) (n := r3) d6 (by omega)
          have := go s r3 T4 (by omega) (by omega) s2 (by rw [s3, hx3])
          by_cases hz2 : r2 = 0
          · have hz3 : r3 ≠ 0 := fun z => hz ⟨hz2, z⟩
            simp [hle, draw_at, d0, d5, hr1, hT1, hr2, hT2, hr3, hT3, hz2, hz3, e4, hll, show 3 ≤ sLine by decide]
            simpa [hz2] using this
          · simp [hle, draw_at, d0, d5, hr1, hT1, hr2, hT2, hr3, hT3, hz2, e4, hll, show 3 ≤ sLine by decide]
            exact this
      · simp [hle]
        rw [hI]
        exact ⟨l, T', at_, _, _, _, _, rfl, rfl, by omega, hx, ha, he, hp, hend⟩
    · intro e w h
      rw [hI] at h
      obtain ⟨l, T', at_, c4, c5, c6, c7, rfl, rfl, hl, hx, ha, he, hp, hend⟩ := h
      simp
      exact key l T' _ ⟨by simpa using hl, he, hp⟩ hx
  obtain ⟨a, w, e, l, T', rfl, rfl, h⟩ := main.out
  exact ⟨l, T', e, h⟩
/-! ### stamped -/
def inkL : List HW → Int → Int → List HX
  | [], _, _ => []
  | h :: r, ch, c => (h.1, h.2.1, stampL h.2.2 ch c) :: inkL r ch (c + h.2.2.length)
def inkC : List HW → Int → Int
  | [], c => c
  | h :: r, c => inkC r (c + h.2.2.length)
def wr (h : HX) : HW := (h.1, h.2.1, h.2.2.map (·.1))
theorem inkL_wr : ∀ (l : List HW) (ch c : Int), (inkL l ch c).map wr = l
  | [], _, _ => rfl
  | h :: r, ch, c => by
    simp only [inkL, List.map_cons, inkL_wr r, wr, stampL_signs]
theorem inkL_app : ∀ (l m : List HW) (ch c : Int), inkL (l ++ m) ch c = inkL l ch c ++ inkL m ch (inkC l c)
  | [], _, _, _ => rfl
  | h :: r, m, ch, c => by simp only [List.cons_append, inkL, inkC, inkL_app r m]
theorem inkC_app : ∀ (l m : List HW) (c : Int), inkC (l ++ m) c = inkC m (inkC l c)
  | [], _, _ => rfl
  | h :: r, m, c => by simp only [List.cons_append, inkC, inkC_app r m]
def St2 (S : Store) (m : Nat) (c : Int) (r : List D) : Store := S.set m (.lst [.int c]) ++ [.lst r]
theorem inked_ok {l : List HW} {S : Store} {m : Nat} {c ch : Int} (hS : S[m]? = some (.lst [.int c])) (hl : l.length ≤ 1000) (hs : ∀ h ∈ l, h.2.2.length ≤ 1000) :
    c_l_inked [.tup (l.map tw), .int ch, .ref m] S = .ok (.v (.tup ((inkL l ch c).map tx))) (S.set m (.lst [.int (inkC l c)])) := by
  have hsl : sLine = 16777216 := rfl
  have hm : m < S.length := (List.getElem?_eq_some_iff.mp hS).1
  have h1 : ∀ c r, (St2 S m c r)[m]? = some (.lst [.int c]) := fun c r => by
    unfold St2
    rw [List.getElem?_append_left (by simpa using hm), List.getElem?_set_self hm]
  have h2 : ∀ c r, (St2 S m c r)[S.length]? = some (.lst r) := fun c r => by
    unfold St2
    rw [List.getElem?_append_right (by simp), List.length_set, Nat.sub_self]; rfl
  have h3 : ∀ c r c', (St2 S m c r).set m (.lst [.int c']) = St2 S m c' r := fun c r c' => by
    unfold St2
    rw [List.set_append_left _ _ (by simpa using hm), List.set_set]
  have h4 : ∀ c r r', (St2 S m c r).set S.length (.lst r') = St2 S m c r' := fun c r r' => by
    unfold St2
    rw [List.set_append_right _ _ (by simp), List.length_set, Nat.sub_self]; rfl
  have h0 : S ++ [Cell.lst []] = St2 S m c [] := by
    unfold St2
    congr 1
    apply List.ext_getElem?
    intro i
    by_cases e : i = m
    · subst e; rw [List.getElem?_set_self hm, hS]
    · rw [List.getElem?_set_ne (fun h => e h.symm)]
  have main : Wp (c_l_inked [.tup (l.map tw), .int ch, .ref m] S) fun a w => a = .v (.tup ((inkL l ch c).map tx)) ∧ w = S.set m (.lst [.int (inkC l c)]) := by
    refine wpc ?_
    have key : Lv S (fun a w => a = .v (.tup ((inkL l ch c).map tx)) ∧ w = S.set m (.lst [.int (inkC l c)])) (.v (.tup ((inkL l ch c).map tx))) (St2 S m (inkC l c) ((inkL l ch c).map tx)) := by
      refine ⟨S.set m (.lst [.int (inkC l c)]), _, _, rfl, by simp, fun i x hx => ?_, outV_pure (by simpa [D.pure] using tx_pures _), rfl, rfl⟩
      by_cases e : i = m
      · subst e
        rw [List.getElem?_set_self hm] at hx
        cases hx
        exact .inr rfl
      · rw [List.getElem?_set_ne (fun h => e h.symm)] at hx
        exact .inl hx
    generalize Lv S _ = Q at key ⊢
    unfold d_l_inked
    simp [show 0 ≤ sLine by decide]
    rw [h0]
    obtain ⟨I, hI⟩ : ∃ I : LI, I = fun ds e w => ∃ (d r : List HW) (c4 c5 : Option D), l = d ++ r ∧ ds = r.map tw ∧ e = [some (.tup (l.map tw)), some (.int ch), some (.ref m), some (.ref S.length), c4, c5] ∧ w = St2 S m (inkC d c) ((inkL d ch c).map tx) := ⟨_, rfl⟩
    refine wp_forS I (by rw [hI]; exact ⟨[], l, none, none, rfl, rfl, rfl, rfl⟩) ?_ ?_
    · intro d ds e w h
      rw [hI] at h
      obtain ⟨dn, r, c4, c5, hd, a1, rfl, rfl⟩ := h
      cases r with
      | nil => cases a1
      | cons h r =>
        cases a1
        refine ⟨_, rfl, ?_⟩
        have b1 := hs h (by rw [hd]; simp)
        have b2 : h.2.2.length ≤ sLine := by omega
        have b3 : (inkL dn ch c).length < sLine := by
          have e1 := congrArg List.length (inkL_wr dn ch c)
          have e2 := congrArg List.length hd
          simp at e1 e2
          omega
        have b4 := fun a st => stamped_ok (s := h.2.2) (ch := ch) (a := a) (st := st) (by omega)
        simp [h1, h2, h3, h4, tw, hw, b2, b3, b4, show 3 ≤ sLine by decide]
        rw [hI]
        refine ⟨dn ++ [h], r, _, _, by rw [hd]; simp, rfl, rfl, ?_⟩
        rw [inkL_app, inkC_app]
        simp [inkL, inkC, tx, hk, hx]
    · intro e w h
      rw [hI] at h
      obtain ⟨dn, r, c4, c5, hd, a1, rfl, rfl⟩ := h
      have : r = [] := by cases r with
        | nil => rfl
        | cons _ _ => cases a1
      subst this
      have : dn = l := by simpa using hd.symm
      subst this
      simp [h2]
      exact key
  obtain ⟨a, w, e, rfl, rfl⟩ := main.out
  exact e
theorem written_ok {l : List HX} {st : Store} (hl : l.length ≤ 1000) (hs : ∀ h ∈ l, h.2.2.length ≤ 1000) : c_l_written [.tup (l.map tx)] st = .ok (.v (.tup ((l.map wr).map tw))) st := by
  have hsl : sLine = 16777216 := rfl
  refine call_pure ?_ (by simp only [D.pure]; exact tw_pures _)
  have e : ∀ gd : Store → Prop, gd st → compL gd (.one 1) ttYes (eTup (aCons (e2 dIx (eVar 1) (eC (.int 0))) (aCons (e2 dIx (eVar 1) (eC (.int 1))) (aCons (eCall c_l_word [] (aCons (e2 dIx (eVar 1) (eC (.int 2))) aNil)) aNil)))) [some (.tup (l.map tx)), none] (l.map tx) st = .ok (l.map fun h => tw (wr h)) st := by
    intro gd hgd
    refine comp_mapA hgd fun h hh => ⟨_, rfl, ?_⟩
    have b1 := word_ok (l := h.2.2) (st := st) (by have := hs h hh; omega)
    simp [tx, hx, b1, tw, hk, hw, wr, show 3 ≤ sLine by decide]
  unfold d_l_written
  rw [List.map_map]
  simp [e, show l.length ≤ sLine by omega]
/-! ### dealt out to three -/
structure Deal {α : Type} (l a b c : List α) : Prop where
  sa : a.Sublist l
  sb : b.Sublist l
  sc : c.Sublist l
  cross : ∀ R : α → α → Prop, l.Pairwise R → (∀ x ∈ a, ∀ y ∈ b, R x y ∨ R y x) ∧ (∀ x ∈ a, ∀ y ∈ c, R x y ∨ R y x) ∧ ∀ x ∈ b, ∀ y ∈ c, R x y ∨ R y x
theorem Deal.nil {α : Type} : Deal ([] : List α) [] [] [] := ⟨.slnil, .slnil, .slnil, fun _ _ => ⟨by simp, by simp, by simp⟩⟩
theorem Deal.one {α : Type} {l a b c : List α} (h : Deal l a b c) (x : α) : Deal (l ++ [x]) (a ++ [x]) b c ∧ Deal (l ++ [x]) a (b ++ [x]) c ∧ Deal (l ++ [x]) a b (c ++ [x]) := by
  have kp : ∀ {m : List α}, m.Sublist l → m.Sublist (l ++ [x]) := fun h => h.trans (List.sublist_append_left _ _)
  have ex : ∀ {m : List α}, m.Sublist l → (m ++ [x]).Sublist (l ++ [x]) := fun h => h.append_right _
  have new : ∀ {R : α → α → Prop} {m : List α}, (l ++ [x]).Pairwise R → m.Sublist l → ∀ y ∈ m, R y x := fun hR hm y hy => (List.pairwise_append.mp hR).2.2 y (hm.subset hy) x (by simp)
  have old : ∀ {R : α → α → Prop}, (l ++ [x]).Pairwise R → l.Pairwise R := fun hR => (List.pairwise_append.mp hR).1
  refine ⟨⟨ex h.sa, kp h.sb, kp h.sc, fun R hR => ?_⟩, ⟨kp h.sa, ex h.sb, kp h.sc, fun R hR => ?_⟩, ⟨kp h.sa, kp h.sb, ex h.sc, fun R hR => ?_⟩⟩
  · obtain ⟨c1, c2, c3⟩ := h.cross R (old hR)
    refine ⟨fun u hu y hy => ?_, fun u hu y hy => ?_, c3⟩
    · rcases List.mem_append.mp hu with hu | hu
      · exact c1 u hu y hy
      · simp at hu; subst hu; exact .inr (new hR h.sb y hy)
    · rcases List.mem_append.mp hu with hu | hu
      · exact c2 u hu y hy
      · simp at hu; subst hu; exact .inr (new hR h.sc y hy)
  · obtain ⟨c1, c2, c3⟩ := h.cross R (old hR)
    refine ⟨fun u hu y hy => ?_, c2, fun u hu y hy => ?_⟩
    · rcases List.mem_append.mp hy with hy | hy
      · exact c1 u hu y hy
      · simp at hy; subst hy; exact .inl (new hR h.sa u hu)
    · rcases List.mem_append.mp hu with hu | hu
      · exact c3 u hu y hy
      · simp at hu; subst hu; exact .inr (new hR h.sc y hy)
  · obtain ⟨c1, c2, c3⟩ := h.cross R (old hR)
    refine ⟨c1, fun u hu y hy => ?_, fun u hu y hy => ?_⟩
    · rcases List.mem_append.mp hy with hy | hy
      · exact c2 u hu y hy
      · simp at hy; subst hy; exact .inl (new hR h.sa u hu)
    · rcases List.mem_append.mp hy with hy | hy
      · exact c3 u hu y hy
      · simp at hy; subst hy; exact .inl (new hR h.sb u hu)
theorem split_at (T : Tp) (rest : Store) {l : List HX} (hl : l.length ≤ 1000) :
    ∃ (a b c : List HX) (T' : Tp), c_l_split [.ref 1, .tup (l.map tx)] (mk T rest) = .ok (.t [.tup (a.map tx), .tup (b.map tx), .tup (c.map tx)]) (mk T' rest) ∧ Deal l a b c ∧ T'.xs = T.xs := by
  have hsl : sLine = 16777216 := rfl
  have main : Wp (c_l_split [.ref 1, .tup (l.map tx)] (mk T rest)) fun r w => ∃ (a b c : List HX) (T' : Tp), r = .t [.tup (a.map tx), .tup (b.map tx), .tup (c.map tx)] ∧ w = mk T' rest ∧ Deal l a b c ∧ T'.xs = T.xs := by
    refine wpc ?_
    have key : ∀ (a b c : List HX) (T' : Tp), Deal l a b c → T'.xs = T.xs → Lv (mk T rest) (fun r w => ∃ (a b c : List HX) (T' : Tp), r = .t [.tup (a.map tx), .tup (b.map tx), .tup (c.map tx)] ∧ w = mk T' rest ∧ Deal l a b c ∧ T'.xs = T.xs) (.v (.ref (rest.length + 2))) (mk T' (rest ++ [.lst [.tup (a.map tx), .tup (b.map tx), .tup (c.map tx)]])) :=
      fun a b c T' h1 h2 => Lv.outR h2.symm (by simp [D.pures, D.pure, tx_pures]) ⟨a, b, c, T', rfl, rfl, h1, h2⟩
    generalize Lv (mk T rest) _ = Q at key ⊢
    unfold d_l_split
    simp [show 0 ≤ sLine by decide, show 3 ≤ sLine by decide]
    obtain ⟨I, hI⟩ : ∃ I : LI, I = fun ds e w => ∃ (d r a b c : List HX) (T' : Tp) (c3 c4 : Option D), l = d ++ r ∧ ds = r.map tx ∧ e = [some (.ref 1), some (.tup (l.map tx)), some (.ref (rest.length + 2)), c3, c4] ∧ w = mk T' (rest ++ [.lst [.tup (a.map tx), .tup (b.map tx), .tup (c.map tx)]]) ∧ Deal d a b c ∧ T'.xs = T.xs := ⟨_, rfl⟩
    refine wp_forS I (by rw [hI]; exact ⟨[], l, [], [], [], T, none, none, rfl, rfl, rfl, rfl, .nil, rfl⟩) ?_ ?_
    · intro d ds e w h
      rw [hI] at h
      obtain ⟨dn, r, a, b, c, T', c3, c4, hd, a1, rfl, rfl, hD, hx⟩ := h
      cases r with
      | nil => cases a1
      | cons h r =>
        cases a1
        refine ⟨_, rfl, ?_⟩
        have k0 := dr_nn T' 3
        have k1 := dr_lt T' 3 (by decide)
        have hd' := congrArg List.length hd
        simp only [List.length_append, List.length_cons] at hd'
        have la := hD.sa.length_le
        have lb := hD.sb.length_le
        have lc := hD.sc.length_le
        have go : ∀ (k : Int) (a' b' c' : List HX), Deal (dn ++ [h]) a' b' c' → I (r.map tx) [some (.ref 1), some (.tup (l.map tx)), some (.ref (rest.length + 2)), some (tx h), some (.int k)] (mk (nx T' 3) (rest ++ [.lst [.tup (a'.map tx), .tup (b'.map tx), .tup (c'.map tx)]])) := by
          intro k a' b' c' h'
          rw [hI]
          exact ⟨dn ++ [h], r, a', b', c', _, _, _, by rw [hd]; simp, rfl, rfl, rfl, h', by rw [nx_xs, hx]⟩
        obtain ⟨o1, o2, o3⟩ := hD.one h
        have : dr T' 3 = 0 ∨ dr T' 3 = 1 ∨ dr T' 3 = 2 := by omega
        rcases this with e | e | e
        · have := go 0 _ _ _ o1
          simp [draw_at, e, show 1 ≤ sLine by decide, show a.length + 1 ≤ sLine by omega]
          simpa using this
        · have := go 1 _ _ _ o2
          simp [draw_at, e, show 1 ≤ sLine by decide, show b.length + 1 ≤ sLine by omega]
          simpa using this
        · have := go 2 _ _ _ o3
          simp [draw_at, e, show 1 ≤ sLine by decide, show c.length + 1 ≤ sLine by omega]
          simpa using this
    · intro e w h
      rw [hI] at h
      obtain ⟨dn, r, a, b, c, T', c3, c4, hd, a1, rfl, rfl, hD, hx⟩ := h
      have : r = [] := by cases r with
        | nil => rfl
        | cons _ _ => cases a1
      subst this
      have : dn = l := by simpa using hd.symm
      subst this
      simp
      exact key a b c T' hD hx
  obtain ⟨a, w, e, x, y, z, T', rfl, rfl, h⟩ := main.out
  exact ⟨x, y, z, T', e, h⟩
end Ev

/-! ## Ev27 -/
set_option Elab.async false
set_option linter.all false
set_option maxRecDepth 100000
/-! Ev27: repr of texts and hunks. -/
namespace Ev
open PySem
def chOk (c : Ch) : Prop := c.1 < 0x110000 ∧ c.2.1.natAbs < 10 ^ 12 ∧ c.2.2.natAbs < 10 ^ 12
theorem chD_rq {c : Ch} (k : Nat) (h : chOk c) : D.rq (k + 1) (chD c) = true := by
  obtain ⟨h1, h2, h3⟩ := h
  simp [chD, D.rq, D.rqs, cpsOk, h1, h2, h3]
theorem txD_rq {l : List Ch} (k : Nat) (h : ∀ c ∈ l, chOk c) : D.rq (k + 2) (txD l) = true := by
  simp only [txD, D.rq]
  rw [rqs_iff]
  intro d hd
  obtain ⟨c, hc, rfl⟩ := List.mem_map.mp hd
  exact chD_rq k (h c hc)
theorem txD_wq (l : List Ch) : D.wq (txD l) ≤ 87 * l.length := by
  simp only [txD, D.wq]
  have := wqs_le (m := 86) (l := l.map chD) (by
    intro d hd
    obtain ⟨c, hc, rfl⟩ := List.mem_map.mp hd
    simp [chD, D.wq, D.wqs])
  simpa using this
theorem repr_text {st : Store} {l : List Ch} (h : ∀ c ∈ l, chOk c) (hl : l.length ≤ 10000) : dRepr (.v (txD l)) st = some (.v (.str (rpr (txD l)))) :=
  dRepr_q (txD_rq 62 h) (Nat.le_trans (txD_wq l) (by omega))
theorem stampL_chs : ∀ {s : List Nat} {ch a : Int}, cpsOk s = true → ch.natAbs < 10 ^ 12 → 0 ≤ a → a + s.length < 10 ^ 12 → ∀ c ∈ stampL s ch a, chOk c
  | [], _, _, _, _, _, _, c, hc => by simp [stampL] at hc
  | x :: s, ch, a, h1, h2, h3, h4, c, hc => by
    simp only [cpsOk, List.all_cons, Bool.and_eq_true, decide_eq_true_eq] at h1
    simp only [List.length_cons] at h4
    simp only [stampL, List.mem_cons] at hc
    rcases hc with rfl | hc
    · exact ⟨h1.1, h2, by simp only; omega⟩
    · exact stampL_chs (s := s) h1.2 h2 (by omega) (by omega) c hc
/-- a hunk that repr shows -/
structure okH (h : Hk) : Prop where
  a : h.1.natAbs ≤ 1000000
  b : h.2.1.natAbs ≤ 1000000
  c : D.rq 62 h.2.2 = true
  d : D.wq h.2.2 ≤ 10000
theorem repr_hunks {st : Store} {l : List Hk} (hl : l.length ≤ 50) (h : ∀ h ∈ l, okH h) : dRepr (.v (.tup (l.map hk))) st = some (.v (.str (rpr (.tup (l.map hk))))) := by
  refine dRepr_q ?_ ?_
  · simp only [D.rq]
    rw [rqs_iff]
    intro d hd
    obtain ⟨g, hg, rfl⟩ := List.mem_map.mp hd
    obtain ⟨a, b, c, _⟩ := h g hg
    simp only [hk, D.rq, D.rqs, c, Bool.and_true, Bool.and_eq_true, decide_eq_true_eq]
    omega
  · simp only [D.wq]
    have := wqs_le (m := 10200) (l := l.map hk) (by
      intro d hd
      obtain ⟨g, hg, rfl⟩ := List.mem_map.mp hd
      obtain ⟨_, _, _, e⟩ := h g hg
      simp only [hk, D.wq, D.wqs]
      omega)
    rw [List.length_map] at this
    have : (10200 + 1) * l.length ≤ (10200 + 1) * 50 := Nat.mul_le_mul_left _ hl
    omega
theorem hx_ok {h : HX} (h1 : h.1.natAbs ≤ 1000000) (h2 : h.2.1.natAbs ≤ 1000000) (h3 : h.2.2.length ≤ 100) (h4 : ∀ c ∈ h.2.2, chOk c) : okH (hx h) :=
  ⟨h1, h2, txD_rq 60 h4, Nat.le_trans (txD_wq _) (by omega)⟩
theorem hw_ok {h : HW} (h1 : h.1.natAbs ≤ 1000000) (h2 : h.2.1.natAbs ≤ 1000000) (h3 : h.2.2.length ≤ 100) (h4 : cpsOk h.2.2 = true) : okH (hw h) :=
  ⟨h1, h2, h4, by simp only [hw, D.wq]; omega⟩
theorem shI_bound {B : Nat} : ∀ {l : List Hk} (x : Int), (∀ h ∈ l, (dlt h).natAbs ≤ B) → (shI x l).natAbs ≤ B * l.length
  | [], _, _ => by simp [shI]
  | h :: l, x, hb => by
    have ih := shI_bound (l := l) x fun g hg => hb g (List.mem_cons_of_mem _ hg)
    have h1 := hb h (List.mem_cons_self ..)
    rw [shI_cons, List.length_cons, Nat.mul_add, Nat.mul_one]
    split <;> omega
theorem rebI_ok {B : Nat} {a b : List Hk} (ha : ∀ h ∈ a, okH h ∧ h.1.natAbs ≤ 1000) (hb : ∀ h ∈ b, (dlt h).natAbs ≤ B) (hB : B * b.length ≤ 900000) : ∀ h ∈ rebI a b, okH h := by
  intro h hh
  obtain ⟨g, hg, rfl⟩ := List.mem_map.mp hh
  obtain ⟨⟨_, q2, q3, q4⟩, q5⟩ := ha g hg
  have := shI_bound g.1 hb
  exact ⟨by simp only; omega, q2, q3, q4⟩
/-! ### what stamping makes of drawn hunks -/
structure GoodX (n : Int) (l : List HX) : Prop where
  len : l.length ≤ 6
  each : ∀ h ∈ l, 0 ≤ h.1 ∧ 0 ≤ h.2.1 ∧ h.1 + h.2.1 ≤ n ∧ h.2.2.length ≤ 3 ∧ (0 < h.2.1 ∨ 0 < h.2.2.length) ∧ ∀ c ∈ h.2.2, chOk c
  asc : l.Pairwise fun g h => g.1 + g.2.1 < h.1
theorem inkL_ch : ∀ {l : List HW} {ch c : Int}, (∀ h ∈ l, cpsOk h.2.2 = true ∧ h.2.2.length ≤ 1000) → ch.natAbs < 10 ^ 12 → 0 ≤ c → c + 1000 * l.length < 10 ^ 12 → ∀ h ∈ inkL l ch c, ∀ x ∈ h.2.2, chOk x
  | [], _, _, _, _, _, _, h, hh => by simp [inkL] at hh
  | g :: l, ch, c, hg, h1, h2, h3, h, hh => by
    have hgg := hg g (List.mem_cons_self ..)
    simp only [List.length_cons] at h3
    simp only [inkL, List.mem_cons] at hh
    rcases hh with rfl | hh
    · exact stampL_chs hgg.1 h1 h2 (by omega)
    · exact inkL_ch (l := l) (fun x hx => hg x (List.mem_cons_of_mem _ hx)) h1 (by omega) (by omega) h hh
theorem GoodH.ink {n : Int} {l : List HW} (G : GoodH n l) {ch c : Int} (h1 : ch.natAbs < 10 ^ 12) (h2 : 0 ≤ c) (h3 : c < 1000000) : GoodX n (inkL l ch c) := by
  have e := inkL_wr l ch c
  have len : (inkL l ch c).length = l.length := by have := congrArg List.length e; simpa using this
  have mem : ∀ h ∈ inkL l ch c, wr h ∈ l := fun h hh => by rw [← e]; exact List.mem_map_of_mem hh
  refine ⟨by rw [len]; exact G.len, fun h hh => ?_, ?_⟩
  · obtain ⟨a1, a2, a3, a4, a5, a6⟩ := G.each _ (mem h hh)
    simp only [wr, List.length_map] at a1 a2 a3 a4 a5
    refine ⟨a1, a2, a3, a4, a5, ?_⟩
    have := G.len
    exact inkL_ch (fun g hg => ⟨(G.each g hg).2.2.2.2.2, by have := (G.each g hg).2.2.2.1; omega⟩) h1 h2 (by omega) h hh
  · have := G.asc
    rw [← e, List.pairwise_map] at this
    exact this
theorem GoodX.sub {n : Int} {l m : List HX} (G : GoodX n l) (h : m.Sublist l) : GoodX n m :=
  ⟨Nat.le_trans h.length_le G.len, fun x hx => G.each x (h.subset hx), G.asc.sublist h⟩
end Ev

/-! ## Ev28 -/
set_option Elab.async false
set_option linter.all false
set_option maxRecDepth 100000
/-! Ev28: owner rules: who owns a key, as the program and as the laws reckon it; what the laws draw. -/
namespace Ev
open PySem
noncomputable def d_deciding : SS :=
  (sSeq (sFor (wRevR1 (eN (g1 dLen) (bCons (eVar 0) bNil))) (.one 2) (
    (sSeq (sIf (eTru (eCall c_matches [] (aCons (e2 dIx (eVar 0) (eVar 2)) (aCons (eVar 1) aNil)))) (
      (sSeq (sRet (eVar 2)) sNil)) sNil) sNil)))
  (sSeq (sRet (eC .non)) sNil))
noncomputable def c_deciding : List D → Store → R RV := callB 3 d_deciding
noncomputable def d_owners_of : SS :=
  (sSeq (sSet 2 (eCall c_deciding [] (aCons (eN (g1 dTuple) (bCons (eComp (wVal (eVar 0)) (.one 3) ttYes [3] (e2 dIx (eVar 3) (eC (.int 0)))) bNil)) (aCons (eVar 1) aNil))))
  (sSeq (sRet (eIf (eBool (e2 dIsN (eVar 2) (eC .non))) (eTup aNil) (e2 dIx (e2 dIx (eVar 0) (eVar 2)) (eC (.int 1))))) sNil))
noncomputable def c_owners_of : List D → Store → R RV := callB 4 d_owners_of
noncomputable def d_l_names : SS :=
  (sSeq (sSet 3 (eC (.str [97, 98, 99, 100, 101, 102, 103, 104, 105, 106, 107, 108, 109, 110, 111, 112, 113, 114, 115, 116, 117, 118, 119, 120, 121, 122, 48, 49, 50, 51, 52, 53, 54, 55, 56, 57, 45, 46, 47])))
  (sSeq (sSet 4 (e2 dIx (eLst (aCons (eC (.str [])) (aCons (eC (.str [])) (aCons (eC (.str [108, 105, 98, 47])) (aCons (eC (.str [114, 101, 115, 101, 114, 118, 97, 116, 105, 111, 110, 46, 120])) aNil))))) (eCall c_l_draw [] (aCons (eVar 0) (aCons (eC (.int 4)) aNil)))))
  (sSeq (sSet 5 (eLst aNil))
  (sSeq (sFor (wRng1 (bCons (e2 dAdd (eVar 1) (eCall c_l_draw [] (aCons (eVar 0) (aCons (e2 dAdd (e2 dSub (eVar 2) (eVar 1)) (eC (.int 1))) aNil)))) bNil)) (.one 6) (
    (sSeq (sSet 7 (eVar 4))
    (sSeq (sFor (wRng1 (bCons (e2 dAdd (eC (.int 1)) (eCall c_l_draw [] (aCons (eVar 0) (aCons (eC (.int 3)) aNil)))) bNil)) (.one 8) (
      (sSeq (sSet 7 (e2 dAdd (eVar 7) (e2 dIx (eVar 3) (eCall c_l_draw [] (aCons (eVar 0) (aCons (eC (.int 39)) aNil)))))) sNil)))
    (sSeq (sIf (eBool (e2 dNotIn (eVar 7) (eVar 5))) (
      (sSeq (sExpr (eMtL gAppend (eVar 5) (aCons (eVar 7) aNil))) sNil)) sNil) sNil)))))
  (sSeq (sFor (wVal (eLst (aCons (eC (.str [97])) (aCons (eC (.str [98, 46, 99])) (aCons (eC (.str [100, 100])) (aCons (eC (.str [101, 47, 102])) (aCons (eC (.str [103, 104, 105])) (aCons (eC (.str [106])) (aCons (eC (.str [107, 45])) (aCons (eC (.str [108])) aNil)))))))))) (.one 7) (
    (sSeq (sIf (tAndB (eBool (e2 dLt (eN (g1 dLen) (bCons (eVar 5) bNil)) (eVar 1))) (eBool (e2 dNotIn (eVar 7) (eVar 5)))) (
      (sSeq (sExpr (eMtL gAppend (eVar 5) (aCons (eVar 7) aNil))) sNil)) sNil) sNil)))
  (sSeq (sRet (eVar 5)) sNil))))))
noncomputable def c_l_names : List D → Store → R RV := callB 9 d_l_names
noncomputable def d_l_matches : SS :=
  (sSeq (sSet 2 (eLst aNil))
  (sSeq (sFor (wVal (eVar 0)) (.one 3) (
    (sSeq (sIf (tAndB (eBool (e2 dEq (eVar 3) (eC (.str [42])))) (eBool (e2 dEq (eSl (eVar 2) (some (e1 dNeg (eC (.int 1)))) none) (eLst (aCons (eC (.str [42])) aNil))))) (
      (sSeq (sPutIx (eC (.str [42, 42])) (eVar 2) (e1 dNeg (eC (.int 1)))) sNil)) (
      (sSeq (sExpr (eMtL gAppend (eVar 2) (aCons (eVar 3) aNil))) sNil))) sNil)))
  (sSeq (sSet 4 (eLst (aCons (eC (.bl true)) aNil)))
  (sSeq (sFor (wVal (eVar 2)) (.one 5) (
    (sSeq (sExpr (eMtL gAppend (eVar 4) (aCons (eAnd (e2 dIx (eVar 4) (e1 dNeg (eC (.int 1)))) (e2 dIn (eVar 5) (eTup (aCons (eC (.str [42])) (aCons (eC (.str [42, 42])) aNil))))) aNil))) sNil)))
  (sSeq (sFor (wVal (eVar 1)) (.one 3) (
    (sSeq (sSet 6 (eLst (aCons (eC (.bl false)) aNil)))
    (sSeq (sFor (wRng1 (bCons (eN (g1 dLen) (bCons (eVar 2) bNil)) bNil)) (.one 7) (
      (sSeq (sIf (tOrB (eBool (e2 dEq (e2 dIx (eVar 2) (eVar 7)) (eC (.str [42, 42])))) (eBool (e2 dEq (e2 dIx (eVar 2) (eVar 7)) (eC (.str [42]))))) (
        (sSeq (sExpr (eMtL gAppend (eVar 6) (aCons (eOr (e2 dIx (eVar 6) (eVar 7)) (eAnd (e2 dIx (eVar 4) (e2 dAdd (eVar 7) (eC (.int 1)))) (eOr (e2 dEq (e2 dIx (eVar 2) (eVar 7)) (eC (.str [42, 42]))) (e2 dNe (eVar 3) (eC (.str [47])))))) aNil))) sNil)) (
        (sSeq (sExpr (eMtL gAppend (eVar 6) (aCons (eAnd (e2 dIx (eVar 4) (eVar 7)) (e2 dEq (e2 dIx (eVar 2) (eVar 7)) (eVar 3))) aNil))) sNil))) sNil)))
    (sSeq (sSet 4 (eVar 6)) sNil)))))
  (sSeq (sRet (e2 dIx (eVar 4) (e1 dNeg (eC (.int 1))))) sNil))))))
noncomputable def c_l_matches : List D → Store → R RV := callB 8 d_l_matches
noncomputable def d_l_owners : SS :=
  (sSeq (sSet 2 (eTup aNil))
  (sSeq (sFor (wVal (eVar 0)) (.one 3) (
    (sSeq (sIf (eTru (eCall c_l_matches [] (aCons (e2 dIx (eVar 3) (eC (.int 0))) (aCons (eVar 1) aNil)))) (
      (sSeq (sSet 2 (e2 dIx (eVar 3) (eC (.int 1)))) sNil)) sNil) sNil)))
  (sSeq (sRet (eVar 2)) sNil)))
noncomputable def c_l_owners : List D → Store → R RV := callB 4 d_l_owners
noncomputable def d_l_pattern : SS :=
  (sSeq (sSet 2 (eCall c_l_draw [] (aCons (eVar 0) (aCons (eC (.int 8)) aNil))))
  (sSeq (sSet 3 (eCall c_l_draw [] (aCons (eVar 0) (aCons (e2 dAdd (eN (g1 dLen) (bCons (eVar 1) bNil)) (eC (.int 1))) aNil))))
  (sSeq (sIf (eBool (e2 dEq (eVar 2) (eC (.int 0)))) (
    (sSeq (sRet (eVar 1)) sNil)) sNil)
  (sSeq (sIf (eBool (e2 dEq (eVar 2) (eC (.int 1)))) (
    (sSeq (sRet (e2 dIx (eLst (aCons (eC (.str [42])) (aCons (eC (.str [42, 42])) (aCons (eC (.str [42, 42, 42])) (aCons (eC (.str [42, 58, 42])) (aCons (eC (.str [42, 42, 47, 42, 42])) (aCons (eC (.str [42, 58])) aNil))))))) (eCall c_l_draw [] (aCons (eVar 0) (aCons (eC (.int 6)) aNil))))) sNil)) sNil)
  (sSeq (sIf (eBool (e2 dLt (eVar 2) (eC (.int 5)))) (
    (sSeq (sRet (e2 dAdd (eSl (eVar 1) none (some (eVar 3))) (e2 dIx (eLst (aCons (eC (.str [42])) (aCons (eC (.str [42, 42])) aNil))) (eCall c_l_draw [] (aCons (eVar 0) (aCons (eC (.int 2)) aNil)))))) sNil)) sNil)
  (sSeq (sIf (eBool (e2 dEq (eVar 2) (eC (.int 5)))) (
    (sSeq (sRet (e2 dAdd (eC (.str [42, 42])) (eSl (eVar 1) (some (eVar 3)) none))) sNil)) sNil)
  (sSeq (sSet 4 (e2 dAdd (eVar 3) (eCall c_l_draw [] (aCons (eVar 0) (aCons (e2 dAdd (e2 dSub (eN (g1 dLen) (bCons (eVar 1) bNil)) (eVar 3)) (eC (.int 1))) aNil)))))
  (sSeq (sRet (e2 dAdd (e2 dAdd (eSl (eVar 1) none (some (eVar 3))) (e2 dIx (eLst (aCons (eC (.str [42])) (aCons (eC (.str [42, 42])) (aCons (eC (.str [42, 97])) (aCons (eC (.str [45])) aNil))))) (eCall c_l_draw [] (aCons (eVar 0) (aCons (eC (.int 4)) aNil))))) (eSl (eVar 1) (some (eVar 4)) none))) sNil))))))))
noncomputable def c_l_pattern : List D → Store → R RV := callB 5 d_l_pattern
noncomputable def d_l_owner_rules : SS :=
  (sSeq (sSet 4 (eLst aNil))
  (sSeq (sFor (wRng1 (bCons (e2 dIx (eLst (aCons (eCall c_l_draw [] (aCons (eVar 0) (aCons (e2 dAdd (eVar 3) (eC (.int 1))) aNil))) (aCons (eC (.int 8)) aNil))) (eN (g1 dInt) (bCons (e2 dEq (eCall c_l_draw [] (aCons (eVar 0) (aCons (eC (.int 12)) aNil))) (eC (.int 0))) bNil))) bNil)) (.one 5) (
    (sSeq (sSet 6 (eCall c_l_pattern [] (aCons (eVar 0) (aCons (e2 dIx (eVar 1) (eCall c_l_draw [] (aCons (eVar 0) (aCons (eN (g1 dLen) (bCons (eVar 1) bNil)) aNil)))) aNil))))
    (sSeq (sSet 7 (e2 dIx (eLst (aCons (eC (.int 0)) (aCons (eC (.int 1)) (aCons (eC (.int 1)) (aCons (eC (.int 2)) (aCons (eC (.int 2)) (aCons (eC (.int 3)) (aCons (eC (.int 3)) (aCons (eC (.int 6)) aNil))))))))) (eCall c_l_draw [] (aCons (eVar 0) (aCons (eC (.int 8)) aNil)))))
    (sSeq (sSet 8 (eComp (wRng1 (bCons (eVar 7) bNil)) (.one 9) ttYes [9] (e2 dIx (eVar 2) (eCall c_l_draw [] (aCons (eVar 0) (aCons (eN (g1 dLen) (bCons (eVar 2) bNil)) aNil))))))
    (sSeq (sExpr (eMtL gAppend (eVar 4) (aCons (eTup (aCons (eVar 6) (aCons (eN (g1 dTuple) (bCons (eVar 8) bNil)) aNil))) aNil))) sNil))))))
  (sSeq (sRet (eN (g1 dTuple) (bCons (eVar 4) bNil))) sNil)))
noncomputable def c_l_owner_rules : List D → Store → R RV := callB 10 d_l_owner_rules
noncomputable def d_l_keys : SS :=
  (sSeq (sSet 2 (eLst (aCons (eC (.str [111, 119, 110, 101, 114, 115, 58])) aNil)))
  (sSeq (sFor (wVal (eVar 1)) (.one 3) (
    (sSeq (sExpr (eMtL gAppend (eVar 2) (aCons (e2 dAdd (e2 dIx (eLst (aCons (eC (.str [102, 105, 108, 101, 58])) (aCons (eC (.str [114, 117, 108, 101, 58])) (aCons (eC (.str [116, 101, 115, 116, 58])) (aCons (eC (.str [112, 97, 103, 101, 58])) aNil))))) (eCall c_l_draw [] (aCons (eVar 0) (aCons (eC (.int 4)) aNil)))) (eVar 3)) aNil))) sNil)))
  (sSeq (sRet (eVar 2)) sNil)))
noncomputable def c_l_keys : List D → Store → R RV := callB 4 d_l_keys
@[simp] theorem dIsN_non (st : Store) : dIsN (.v .non) (.v .non) st = some (.v (.bl true)) := .trans rfl rfl
@[simp] theorem dIsN_int (i : Int) (st : Store) : dIsN (.v (.int i)) (.v .non) st = some (.v (.bl false)) := .trans rfl rfl
@[simp] theorem dIsN_str (i : List Nat) (st : Store) : dIsN (.v (.str i)) (.v .non) st = some (.v (.bl false)) := .trans rfl rfl
@[simp] theorem dIsN_tup (i : List D) (st : Store) : dIsN (.v (.tup i)) (.v .non) st = some (.v (.bl false)) := .trans rfl rfl
@[simp] theorem dNotN_non (st : Store) : dNotN (.v .non) (.v .non) st = some (.v (.bl false)) := .trans rfl rfl
@[simp] theorem dNotN_int (i : Int) (st : Store) : dNotN (.v (.int i)) (.v .non) st = some (.v (.bl true)) := .trans rfl rfl
@[simp] theorem dNotN_str (i : List Nat) (st : Store) : dNotN (.v (.str i)) (.v .non) st = some (.v (.bl true)) := .trans rfl rfl
@[simp] theorem dNotN_tup (i : List D) (st : Store) : dNotN (.v (.tup i)) (.v .non) st = some (.v (.bl true)) := .trans rfl rfl
@[simp] theorem dIsN_bl (i j : Bool) (st : Store) : dIsN (.v (.bl i)) (.v (.bl j)) st = some (.v (.bl (decide (i = j)))) := .trans rfl rfl
@[simp] theorem dIsN_bln (i : Bool) (st : Store) : dIsN (.v (.bl i)) (.v .non) st = some (.v (.bl false)) := .trans rfl rfl
/-! ### deciding -/
def decN (q : Nat → Bool) : Nat → D
  | 0 => .non
  | n + 1 => if q n then .int n else decN q n
theorem rng_rev (n : Nat) : (rngL 0 (n + 1)).reverse = .int n :: (rngL 0 n).reverse := by
  unfold rngL
  rw [List.range_succ, List.map_append, List.reverse_append]
  simp
def mq (ps : List (List Nat)) (s : List Nat) (k : Nat) : Bool := matchB (ps.getD k []) s
theorem decN_pure (q : Nat → Bool) : ∀ n, D.pure (decN q n) = true
  | 0 => rfl
  | n + 1 => by
    simp only [decN]
    split
    · rfl
    · exact decN_pure q n
theorem deciding_ok {ps : List (List Nat)} {s : List Nat} {st : Store} (hl : ps.length ≤ 1000) (hp : ∀ p ∈ ps, p.length ≤ 1000) (hs : s.length ≤ 1000) : c_deciding [.tup (ps.map .str), .str s] st = .ok (.v (decN (mq ps s) ps.length)) st := by
  refine call_pure ?_ (decN_pure _ _)
  refine hide (fun (a : RV) (st' : Store) => a = RV.v (decN (mq ps s) ps.length) ∧ ∃ more, st' = st ++ more) fun Q hQ => ?_
  rw [← hQ]
  have fin : ∀ d, d = decN (mq ps s) ps.length → Q (.v d) st := by intro d hd; rw [hQ, hd]; exact ⟨rfl, [], by simp⟩
  unfold d_deciding
  simp
  refine ⟨rOk_of (by omega) (by omega), ?_⟩
  rw [WpR_seq]
  refine wp_forL (fun ds e w => w = st ∧ ∃ (j : Nat) (x2 : Option D), j ≤ ps.length ∧ ds = (rngL 0 j).reverse ∧ e = [some (.tup (ps.map .str)), some (.str s), x2] ∧ decN (mq ps s) ps.length = decN (mq ps s) j) ⟨rfl, ps.length, none, Nat.le_refl _, rfl, rfl, rfl⟩ ?_ ?_
  · rintro d ds e w ⟨rfl, j, x2, hj, h1, rfl, h2⟩
    cases j with
    | zero => cases h1
    | succ j =>
      rw [rng_rev] at h1
      cases h1
      refine ⟨_, rfl, ?_⟩
      have hjl : j < ps.length := by omega
      have hm := matches_ok (p := ps[j]) (s := s) (st := w) (hp _ (List.getElem_mem hjl)) hs
      have hq : mq ps s j = matchB ps[j] s := by simp [mq, hjl]
      simp only [decN, hq] at h2
      simp [atI_lit, hjl, hm]
      split
      · rename_i h
        rw [if_pos h] at h2
        exact fin _ h2.symm
      · rename_i h
        rw [if_neg h] at h2
        exact ⟨j, by omega, rfl, h2⟩
  · rintro e w ⟨rfl, j, x2, hj, h1, rfl, h2⟩
    have : j = 0 := by
      cases j with
      | zero => rfl
      | succ j => rw [rng_rev] at h1; cases h1
    subst this
    simp
    exact fin _ h2.symm
/-! ### owner rules -/
abbrev Ru := List Nat × List (List Nat)
def ruD (r : Ru) : D := .tup [.str r.1, .tup (r.2.map .str)]
@[simp] theorem ruD_0 (r : Ru) (st : Store) : dIx (.v (ruD r)) (.v (.int 0)) st = some (.v (.str r.1)) := .trans rfl rfl
@[simp] theorem ruD_1 (r : Ru) (st : Store) : dIx (.v (ruD r)) (.v (.int 1)) st = some (.v (.tup (r.2.map .str))) := .trans rfl rfl
def ownL (rs : List Ru) (key : List Nat) : List (List Nat) := rs.foldl (fun acc r => if matchB r.1 key then r.2 else acc) []
theorem own_take {rs : List Ru} {key : List Nat} : ∀ n, n ≤ rs.length → (decN (mq (rs.map (·.1)) key) n = .non ∧ ownL (rs.take n) key = []) ∨ ∃ (k : Nat) (r : Ru), k < n ∧ rs[k]? = some r ∧ decN (mq (rs.map (·.1)) key) n = .int k ∧ ownL (rs.take n) key = r.2
  | 0, _ => .inl ⟨rfl, rfl⟩
  | n + 1, h => by
    have hn : n < rs.length := by omega
    have e : rs.take (n + 1) = rs.take n ++ [rs[n]] := by rw [List.take_succ, List.getElem?_eq_getElem hn]; rfl
    have hq : mq (rs.map (·.1)) key n = matchB rs[n].1 key := by simp [mq, hn]
    have ow : ownL (rs.take (n + 1)) key = if matchB rs[n].1 key then rs[n].2 else ownL (rs.take n) key := by
      unfold ownL
      rw [e, List.foldl_append]; rfl
    simp only [decN, hq, ow]
    cases hb : matchB rs[n].1 key with
    | true => exact .inr ⟨n, rs[n], by omega, List.getElem?_eq_getElem hn, by simp, by simp⟩
    | false =>
      simp only [Bool.false_eq_true, if_false]
      rcases own_take (rs := rs) (key := key) n (by omega) with h | ⟨k, r, h1, h2⟩
      · exact .inl h
      · exact .inr ⟨k, r, by omega, h2⟩
structure okR (rs : List Ru) : Prop where
  len : rs.length ≤ 100
  each : ∀ r ∈ rs, r.1.length ≤ 900 ∧ cpsOk r.1 = true ∧ r.2.length ≤ 100 ∧ ∀ x ∈ r.2, x.length ≤ 900 ∧ cpsOk x = true
theorem okR.own {rs : List Ru} (h : okR rs) (key : List Nat) : (ownL rs key).length ≤ 100 ∧ ∀ x ∈ ownL rs key, x.length ≤ 900 ∧ cpsOk x = true := by
  have := own_take (rs := rs) (key := key) rs.length (Nat.le_refl _)
  rw [List.take_length] at this
  rcases this with ⟨_, h2⟩ | ⟨k, r, _, h1, _, h2⟩
  · rw [h2]; simp
  · rw [h2]
    have := h.each r (List.mem_of_getElem? h1)
    exact ⟨this.2.2.1, this.2.2.2⟩
theorem strs_pure (ps : List (List Nat)) : D.pures (ps.map D.str) = true := pures_str ps
theorem owners_ok {rs : List Ru} {key : List Nat} {st : Store} (h : okR rs) (hk : key.length ≤ 1000) : c_owners_of [.tup (rs.map ruD), .str key] st = .ok (.v (.tup ((ownL rs key).map .str))) st := by
  have hsl : sLine = 16777216 := rfl
  refine call_pure ?_ (by simp [D.pure])
  have hl := h.len
  have comp : ∀ gd : Store → Prop, gd st → compL gd (.one 3) ttYes (e2 dIx (eVar 3) (eC (.int 0))) [some (.tup (rs.map ruD)), some (.str key), none, none] (rs.map ruD) st = .ok ((rs.map (·.1)).map .str) st := by
    intro gd hgd
    rw [List.map_map]
    exact comp_mapA hgd fun r hr => ⟨_, rfl, by simp⟩
  have dd := deciding_ok (ps := rs.map (·.1)) (s := key) (st := st) (by simpa using (by omega : rs.length ≤ 1000)) (fun p hp => by
    obtain ⟨r, hr, rfl⟩ := List.mem_map.mp hp
    have := (h.each r hr).1; omega) hk
  have ot := own_take (rs := rs) (key := key) rs.length (Nat.le_refl _)
  rw [List.take_length] at ot
  rw [List.length_map] at dd
  generalize hP : (rs.map (·.1)) = P at comp dd ot
  unfold d_owners_of
  rcases ot with ⟨e1, e2⟩ | ⟨k, r, h0, h1, e1, e2⟩
  · rw [e1] at dd
    simp [show rs.length ≤ sLine by omega, comp, dd, e2, show 0 ≤ sLine by decide]
  · rw [e1] at dd
    simp [show rs.length ≤ sLine by omega, comp, dd, e2, atI_lit, h1]
/-! ### tokens from the left -/
theorem toks_snoc (c : Nat) : ∀ (n : Nat) (d : List Nat), d.length ≤ n → toks (d ++ [c]) = if c = 42 ∧ (toks d).getLast? = some [42] then (toks d).dropLast ++ [[42, 42]] else toks d ++ [[c]]
  | 0, d, h => by
    have : d = [] := List.length_eq_zero_iff.mp (by omega)
    subst this
    simp [toks]
  | n + 1, [], _ => by simp [toks]
  | n + 1, [x], _ => by
    rw [show ([x] ++ [c]) = x :: [c] from rfl, toks_cons, toks_cons]
    simp only [List.take_nil, List.take_succ_cons, List.take_zero, List.cons.injEq, and_true, List.drop_succ_cons, List.drop_zero]
    by_cases h : x = 42 ∧ c = 42
    · obtain ⟨rfl, rfl⟩ := h; simp [toks]
    · rw [if_neg h, if_neg (by simp), toks_cons]
      simp only [List.take_nil, toks]
      by_cases hc : c = 42
      · have hx : x ≠ 42 := fun z => h ⟨z, hc⟩
        simp [hc, hx]
      · simp [hc]
  | n + 1, x :: y :: d, h => by
    simp only [List.length_cons] at h
    by_cases hxy : x = 42 ∧ y = 42
    · obtain ⟨rfl, rfl⟩ := hxy
      have ih := toks_snoc c n d (by omega)
      have e1 : toks (42 :: 42 :: d ++ [c]) = [42, 42] :: toks (d ++ [c]) := by
        rw [show (42 :: 42 :: d ++ [c]) = 42 :: (42 :: (d ++ [c])) from rfl, toks_cons]; simp
      have e2 : toks (42 :: 42 :: d) = [42, 42] :: toks d := by rw [toks_cons]; simp
      rw [e1, e2, ih]
      cases hd : toks d with
      | nil => simp
      | cons t ts =>
        simp only [List.getLast?_cons_cons, List.dropLast_cons₂]
        split <;> simp
    · have ih := toks_snoc c n (y :: d) (by simp; omega)
      have e1 : toks (x :: y :: d ++ [c]) = [x] :: toks (y :: d ++ [c]) := by
        rw [show (x :: y :: d ++ [c]) = x :: (y :: (d ++ [c])) from rfl, toks_cons, if_neg (by simpa using hxy)]; rfl
      have e2 : toks (x :: y :: d) = [x] :: toks (y :: d) := by rw [toks_cons, if_neg (by simpa using hxy)]
      rw [e1, e2, ih]
      cases hd : toks (y :: d) with
      | nil =>
        rw [toks_cons] at hd
        split at hd <;> cases hd
      | cons t ts =>
        simp only [List.getLast?_cons_cons, List.dropLast_cons₂]
        split <;> simp
/-! ### the law's own matching: column by column -/
def rowT (p s : List Nat) (i : Nat) : List Bool := ((toks p).take i).foldl (fun es t => nextE t s es) (true :: s.map fun _ => false)
def cellR (p s : List Nat) (i j : Nat) : Bool := (rowT p s i).getD j false
theorem rowT_len (p s : List Nat) (i : Nat) : (rowT p s i).length = s.length + 1 := fold_len s _ _ (by simp)
theorem cellR_00 (p s : List Nat) : cellR p s 0 0 = true := rfl
theorem cellR_0s (p s : List Nat) (j : Nat) : cellR p s 0 (j + 1) = false := by
  unfold cellR rowT
  rw [List.take_zero, List.foldl_nil, List.getD_cons_succ, List.getD_eq_getElem?_getD, List.getElem?_map]
  cases s[j]? <;> rfl
theorem rowT_succ (p s : List Nat) {i : Nat} {t : List Nat} (h : (toks p)[i]? = some t) : rowT p s (i + 1) = nextE t s (rowT p s i) := by
  unfold rowT
  rw [List.take_succ, h, List.foldl_append]; rfl
theorem cellR_s0 (p s : List Nat) {i : Nat} {t : List Nat} (h : (toks p)[i]? = some t) : cellR p s (i + 1) 0 = (cellR p s i 0 && starB t) := by
  unfold cellR
  rw [rowT_succ p s h, nextE_zero]
theorem cellR_ss (p s : List Nat) {i j : Nat} {t : List Nat} (h : (toks p)[i]? = some t) (hj : j < s.length) : cellR p s (i + 1) (j + 1) = (((if starB t then cellR p s (i + 1) j else cellR p s i j) && mayB t (s.getD j 0)) || (starB t && cellR p s i (j + 1))) := by
  unfold cellR
  rw [rowT_succ p s h, nextE_succ t s (rowT_len p s i) hj]
theorem cellR_end (p s : List Nat) : cellR p s (toks p).length s.length = matchB p s := by
  unfold cellR rowT matchB endsOf
  rw [List.take_length]
/-- a column -/
def colR (p s : List Nat) (n j : Nat) : List D := (List.range n).map fun i => D.bl (cellR p s i j)
theorem colR_succ (p s : List Nat) (n j : Nat) : colR p s (n + 1) j = colR p s n j ++ [.bl (cellR p s n j)] := by
  unfold colR; rw [List.range_succ, List.map_append]; rfl
theorem colR_len (p s : List Nat) (n j : Nat) : (colR p s n j).length = n := by simp [colR]
theorem colR_at (p s : List Nat) {n j k : Nat} (h : k < n) : (colR p s n j)[k]? = some (.bl (cellR p s k j)) := by
  unfold colR
  rw [List.getElem?_map, List.getElem?_range h]; rfl
theorem toks_le (s : List Nat) : (toks s).length ≤ s.length := by
  have h1 : ∀ l : List (List Nat), (∀ p ∈ l, 1 ≤ p.length) → l.length ≤ (l.map (·.length)).sum := by
    intro l
    induction l with
    | nil => intro _; exact Nat.le_refl _
    | cons p l ih =>
      intro h
      have h5 := h p (List.mem_cons_self ..)
      have h6 := ih fun q hq => h q (List.mem_cons_of_mem _ hq)
      simp only [List.map_cons, List.sum_cons, List.length_cons]
      omega
  have h2 := h1 (toks s) fun p hp => by
    rcases toks_one s p hp with rfl | h
    · decide
    · omega
  rw [sum_flat, toks_flat] at h2
  exact h2
theorem toks_cpsA {p t : List Nat} (h : cpsOk p = true) (ht : t ∈ toks p) : cpsOk t = true := by
  have : ∀ c ∈ t, c ∈ p := fun c hc => by
    rw [← toks_flat p]
    exact List.mem_flatten.mpr ⟨t, ht, hc⟩
  simp only [cpsOk, List.all_eq_true, decide_eq_true_eq] at h ⊢
  exact fun c hc => h c (this c hc)
theorem cut_m1 {α : Type} (l : List α) (x : α) : cut (l ++ [x]) (some (-1)) none = [x] := by
  have e : HT.sIx (l ++ [x]).length 0 (some (-1)) = l.length := by
    simp only [HT.sIx, List.length_append, List.length_cons, List.length_nil]
    rw [if_pos (by decide)]
    omega
  unfold cut
  rw [e, HT.sIx_none]
  simp
theorem cut_m1_nil {α : Type} : cut ([] : List α) (some (-1)) none = [] := by simp [cut]
theorem ixN_m1 (n : Nat) : L2.ixN (n + 1) (-1) = some n := by
  unfold L2.ixN
  rw [if_neg (by omega), if_pos (by omega)]
  congr 1
  omega
theorem lmatches_ok {p s : List Nat} {st : Store} (hp : p.length ≤ 1000) (hc : cpsOk p = true) (hs : s.length ≤ 1000) : c_l_matches [.str p, .str s] st = .ok (.v (.bl (matchB p s))) st := by
  refine call_pure ?_ rfl
  refine hide (fun (a : RV) (st' : Store) => a = RV.v (.bl (matchB p s)) ∧ ∃ more, st' = st ++ more) fun Q hQ => ?_
  rw [← hQ]
  have fin : ∀ more, Q (.v (.bl (matchB p s))) (st ++ more) := by intro more; rw [hQ]; exact ⟨rfl, more, rfl⟩
  have hsl : sLine = 16777216 := rfl
  unfold d_l_matches
  simp [show 0 ≤ sLine by decide]
  refine hide (α := LI) (fun ds e w => ∃ (d r : List Nat) (x3 : Option D), p = d ++ r ∧ ds = r.map (fun c => D.str [c]) ∧ e = [some (.str p), some (.str s), some (.ref st.length), x3, none, none, none, none] ∧ w = st ++ [.lst ((toks d).map .str)]) fun I hI => ?_
  refine wp_forS I (by rw [hI]; exact ⟨[], p, none, rfl, rfl, rfl, by simp [toks]⟩) ?_ ?_
  · intro d ds e w h
    rw [hI] at h
    obtain ⟨dn, r, x3, hd, h1, rfl, rfl⟩ := h
    cases r with
    | nil => cases h1
    | cons c r =>
      cases h1
      refine ⟨_, rfl, ?_⟩
      have hdl : dn.length ≤ 1000 := by rw [hd] at hp; simp at hp; omega
      have tl := toks_le dn
      have sn := toks_snoc c dn.length dn (Nat.le_refl _)
      have go : I (r.map fun c => D.str [c]) [some (.str p), some (.str s), some (.ref st.length), some (.str [c]), none, none, none, none] (st ++ [.lst ((toks (dn ++ [c])).map .str)]) := by
        rw [hI]
        exact ⟨dn ++ [c], r, _, by rw [hd]; simp, rfl, rfl, rfl⟩
      rw [sn] at go
      rcases List.eq_nil_or_concat (toks dn) with hq | ⟨l, x, hq⟩
      · rw [hq] at go ⊢
        have e1 := dEq_lst (st := st ++ [.lst []]) (a := .t []) (b := .t [.str [42]]) rfl rfl rfl rfl
        simp at go
        by_cases c42 : c = 42
        · simp [c42, cut_m1_nil, show 1 ≤ sLine by decide, e1, show 0 < sLine by decide, dSl, lstV, lstM]
          simpa [c42] using go
        · simp [c42, show 0 < sLine by decide]
          exact go
      · have hq : toks dn = l ++ [x] := by simpa using hq
        rw [hq] at go tl ⊢
        simp only [List.length_append, List.length_cons, List.length_nil] at tl
        have cx : cpsOk x = true := toks_cpsA (p := dn) (by
          rw [hd] at hc
          simp only [cpsOk, List.all_append, Bool.and_eq_true] at hc ⊢
          exact hc.1) (by rw [hq]; simp)
        have e1 := dEq_lst (st := st ++ [.lst (l.map .str ++ [.str x])]) (a := .t [.str x]) (b := .t [.str [42]]) rfl rfl (by simp [D.oks, D.ok, cx]) rfl
        simp only [List.getLast?_append, List.getLast?_singleton, Option.some_or, Option.some.injEq, List.dropLast_concat] at go
        by_cases c42 : c = 42
        · by_cases x42 : x = [42]
          · simp [c42, x42, cut_m1, show 1 ≤ sLine by decide, dSl, lstV, lstM, ixN_m1] at e1 ⊢
            have e3 : (l.map D.str ++ [D.str [42]]).set l.length (.str [42, 42]) = l.map D.str ++ [.str [42, 42]] := by
              rw [List.set_append_right _ _ (by simp)]; simp
            simp [e1, ixN_m1, e3]
            simp [c42, x42] at go
            exact go
          · simp [c42, x42, cut_m1, show 1 ≤ sLine by decide, dSl, lstV, lstM] at e1 ⊢
            simp [e1, show l.length + 1 < sLine by omega]
            simp [c42, x42] at go
            exact go
        · simp [c42, show l.length + 1 < sLine by omega]
          simp [c42] at go
          exact go
  · intro e w h
    rw [hI] at h
    obtain ⟨dn, r, x3, hd, h1, rfl, rfl⟩ := h
    have : r = [] := by cases r with
      | nil => rfl
      | cons _ _ => cases h1
    subst this
    have : dn = p := by simpa using hd.symm
    subst this
    have tl := toks_le dn
    obtain ⟨n, hn⟩ : ∃ n, n = (toks dn).length := ⟨_, rfl⟩
    have hT : ∀ X, (st ++ [.lst ((toks dn).map .str)] ++ X)[st.length]? = some (.lst ((toks dn).map .str)) := by
      intro X
      rw [List.append_assoc, List.getElem?_append_right (Nat.le_refl _), Nat.sub_self]; rfl
    simp [show 1 ≤ sLine by decide]
    -- the first column
    refine hide (α := LI) (fun ds e w => ∃ (k : Nat) (x5 : Option D), k ≤ n ∧ ds = ((toks dn).drop k).map .str ∧ e = [some (.str dn), some (.str s), some (.ref st.length), x3, some (.ref (st.length + 1)), x5, none, none] ∧ w = st ++ [.lst ((toks dn).map .str), .lst (colR dn s (k + 1) 0)]) fun I hI => ?_
    refine wp_forS I (by rw [hI]; exact ⟨0, none, Nat.zero_le _, by simp, rfl, by simp [colR, cellR_00]⟩) ?_ ?_
    · intro d ds e w h
      rw [hI] at h
      obtain ⟨k, x5, hk, h1, rfl, rfl⟩ := h
      by_cases hkn : k < n
      · have hkt : k < (toks dn).length := by omega
        rw [List.drop_eq_getElem_cons hkt] at h1
        cases h1
        refine ⟨_, rfl, ?_⟩
        have ct := toks_cpsA hc (List.getElem_mem hkt)
        have ein := fun st => dIn_tup (st := st) (a := .str (toks dn)[k]) (l := [.str [42], .str [42, 42]]) (by simpa [D.ok] using ct) (by decide)
        have es : decide (D.str (toks dn)[k] ∈ [D.str [42], D.str [42, 42]]) = starB (toks dn)[k] := by
          unfold starB
          simp
        rw [es] at ein
        have cs := cellR_s0 dn s (List.getElem?_eq_getElem hkt)
        have go : I (((toks dn).drop (k + 1)).map .str) [some (.str dn), some (.str s), some (.ref st.length), x3, some (.ref (st.length + 1)), some (.str (toks dn)[k]), none, none] (st ++ [.lst ((toks dn).map .str), .lst (colR dn s (k + 1) 0 ++ [.bl (cellR dn s k 0 && starB (toks dn)[k])])]) := by
          rw [hI]
          exact ⟨k + 1, _, by omega, rfl, rfl, by rw [colR_succ dn s (k + 1), cs]⟩
        rw [colR_succ] at go ⊢
        have ck : (colR dn s k 0).length = k := colR_len ..
        simp [ck, ein, show 2 ≤ sLine by decide, show k + 1 < sLine by omega]
        cases hcell : cellR dn s k 0 with
        | true => simpa [hcell] using go
        | false => simpa [hcell] using go
      · rw [List.drop_eq_nil_of_le (by omega)] at h1
        cases h1
    · intro e w h
      rw [hI] at h
      obtain ⟨k, x5, hk, h1, rfl, rfl⟩ := h
      have hkn : k = n := by
        have := congrArg List.length h1
        simp at this
        omega
      subst hkn
      simp
      -- the other columns
      refine hide (α := LI) (fun ds e w => ∃ (j m : Nat) (more : Store) (x3 x6 x7 : Option D), j ≤ s.length ∧ ds = (s.drop j).map (fun c => D.str [c]) ∧ e = [some (.str dn), some (.str s), some (.ref st.length), x3, some (.ref m), x5, x6, x7] ∧ w = st ++ [.lst ((toks dn).map .str)] ++ more ∧ w[m]? = some (.lst (colR dn s (k + 1) j))) fun I hI => ?_
      refine wp_forS I (by rw [hI]; exact ⟨0, st.length + 1, [.lst (colR dn s (k + 1) 0)], x3, none, none, Nat.zero_le _, by simp, rfl, by simp, by simp⟩) ?_ ?_
      · intro d ds e w h
        rw [hI] at h
        obtain ⟨j, m, more, x3, x6, x7, hj, h1, rfl, hw, hm⟩ := h
        by_cases hjs : j < s.length
        · rw [List.drop_eq_getElem_cons hjs] at h1
          cases h1
          refine ⟨_, rfl, ?_⟩
          have hTw : w[st.length]? = some (.lst ((toks dn).map .str)) := by rw [hw]; exact hT more
          have lm : m < w.length := (List.getElem?_eq_some_iff.mp hm).1
          have lt : st.length < w.length := (List.getElem?_eq_some_iff.mp hTw).1
          have hT' : ∀ x, (w ++ [x])[st.length]? = some (.lst ((toks dn).map .str)) := fun x => by rw [List.getElem?_append_left lt]; exact hTw
          have hM' : ∀ x, (w ++ [x])[m]? = some (.lst (colR dn s (k + 1) j)) := fun x => by rw [List.getElem?_append_left lm]; exact hm
          simp [show 1 ≤ sLine by decide, hT']
          refine ⟨rOk_of (by omega) (by omega), ?_⟩
          refine hide (α := LI) (fun ds e w' => ∃ (i : Nat) (x7 : Option D), i ≤ k ∧ ds = rngL i (k - i) ∧ e = [some (.str dn), some (.str s), some (.ref st.length), some (.str [s[j]]), some (.ref m), x5, some (.ref w.length), x7] ∧ w' = w ++ [.lst (colR dn s (i + 1) (j + 1))]) fun J hJ => ?_
          refine wp_forSS J (by rw [hJ]; exact ⟨0, x7, Nat.zero_le _, by rw [← hn]; rfl, rfl, by simp [colR, cellR_0s]⟩) ?_ ?_
          · intro d ds e w' h
            rw [hJ] at h
            obtain ⟨i, x7, hi, h1, rfl, rfl⟩ := h
            obtain ⟨q, hq⟩ | hz : (∃ q, k - i = q + 1) ∨ k - i = 0 := by
              rcases Nat.eq_zero_or_pos (k - i) with h | h
              · exact .inr h
              · exact .inl ⟨k - i - 1, by omega⟩
            · rw [hq, rngL_cons] at h1
              cases h1
              refine ⟨_, rfl, ?_⟩
              have hit : i < (toks dn).length := by omega
              have ti := List.getElem?_eq_getElem hit
              have cs := cellR_ss dn s ti hjs
              have sj : s.getD j 0 = s[j] := by simp [hjs]
              rw [sj] at cs
              have t1 := toks_one dn _ (List.getElem_mem hit)
              generalize (toks dn)[i] = t at ti cs t1
              have ti' : L2.atI ((toks dn).map D.str) (i : Int) = some (.str t) := by rw [atI_lit, List.getElem?_map, ti]; rfl
              have a1 : L2.atI (colR dn s (k + 1) j) (i : Int) = some (.bl (cellR dn s i j)) := by rw [atI_lit, colR_at _ _ (by omega)]
              have a2 : L2.atI (colR dn s (k + 1) j) ((i : Int) + 1) = some (.bl (cellR dn s (i + 1) j)) := by rw [show (i : Int) + 1 = ((i + 1 : Nat) : Int) by omega, atI_lit, colR_at _ _ (by omega)]
              have a3 : L2.atI (colR dn s (i + 1) (j + 1)) (i : Int) = some (.bl (cellR dn s i (j + 1))) := by rw [atI_lit, colR_at _ _ (by omega)]
              have cl : (colR dn s (i + 1) (j + 1)).length < sLine := by rw [colR_len]; omega
              have go : ∀ b, b = cellR dn s (i + 1) (j + 1) → J (rngL ((i : Int) + 1) q) [some (.str dn), some (.str s), some (.ref st.length), some (.str [s[j]]), some (.ref m), x5, some (.ref w.length), some (.int i)] (w ++ [.lst (colR dn s (i + 1) (j + 1) ++ [.bl b])]) := by
                rintro b rfl
                rw [hJ]
                exact ⟨i + 1, _, by omega, by rw [show k - (i + 1) = q by omega]; rfl, rfl, by rw [colR_succ dn s (i + 1)]⟩
              generalize s[j] = c at cs go ⊢
              by_cases y2 : t = [42, 42]
              · subst y2
                simp [starB, mayB] at cs
                simp [hT', hM', ti', a1, a2, a3, cl]
                cases h8 : cellR dn s i (j + 1) <;> cases h9 : cellR dn s (i + 1) j <;> simp [h8, h9] at cs ⊢ <;> exact go _ cs.symm
              · by_cases y1 : t = [42]
                · subst y1
                  simp [starB, mayB] at cs
                  simp [hT', hM', ti', a1, a2, a3, cl]
                  by_cases y3 : c = 47
                  · subst y3
                    cases h8 : cellR dn s i (j + 1) <;> cases h9 : cellR dn s (i + 1) j <;> simp [h8, h9] at cs ⊢ <;> exact go _ cs.symm
                  · cases h8 : cellR dn s i (j + 1) <;> cases h9 : cellR dn s (i + 1) j <;> simp [h8, h9, y3] at cs ⊢ <;> exact go _ cs.symm
                · simp [starB, mayB, y1, y2] at cs
                  simp [hT', hM', ti', a1, a2, a3, cl, y1, y2]
                  cases h8 : cellR dn s i j with
                  | true => simp [h8] at cs ⊢; exact go _ (by rw [cs])
                  | false => simp [h8] at cs ⊢; exact go _ cs.symm
            · rw [hz] at h1; cases h1
          · intro e w' h
            rw [hJ] at h
            obtain ⟨i, x7, hi, h1, rfl, rfl⟩ := h
            have : i = k := by
              have := congrArg List.length h1
              rw [rngL_len] at this
              simp at this
              omega
            subst this
            simp
            rw [hI]
            exact ⟨j + 1, w.length, more ++ [.lst (colR dn s (i + 1) (j + 1))], _, _, _, hjs, by simp, rfl, by rw [hw]; simp, by simp⟩
        · rw [List.drop_eq_nil_of_le (by omega)] at h1
          cases h1
      · intro e w h
        rw [hI] at h
        obtain ⟨j, m, more, x3, x6, x7, hj, h1, rfl, hw, hm⟩ := h
        have : j = s.length := by
          have := congrArg List.length h1
          simp at this
          omega
        subst this
        rw [colR_succ, hn, cellR_end] at hm
        simp [hm]
        rw [hw]
        simpa using fin (_ :: more)
theorem lowners_ok {rs : List Ru} {key : List Nat} {st : Store} (h : okR rs) (hk : key.length ≤ 1000) : c_l_owners [.tup (rs.map ruD), .str key] st = .ok (.v (.tup ((ownL rs key).map .str))) st := by
  have hsl : sLine = 16777216 := rfl
  refine call_pure ?_ (by simp [D.pure])
  unfold d_l_owners
  simp [show 0 ≤ sLine by decide]
  refine hide (α := LI) (fun ds e w => w = st ∧ ∃ (d r : List Ru) (x3 : Option D), rs = d ++ r ∧ ds = r.map ruD ∧ e = [some (.tup (rs.map ruD)), some (.str key), some (.tup ((ownL d key).map .str)), x3]) fun I hI => ?_
  refine wp_forS I (by rw [hI]; exact ⟨rfl, [], rs, none, rfl, rfl, rfl⟩) ?_ ?_
  · intro d ds e w hh
    rw [hI] at hh
    obtain ⟨rfl, dn, r, x3, hd, h1, rfl⟩ := hh
    cases r with
    | nil => cases h1
    | cons r0 r =>
      cases h1
      refine ⟨_, rfl, ?_⟩
      have hr := h.each r0 (by rw [hd]; simp)
      have m := lmatches_ok (p := r0.1) (s := key) (st := w) (by omega) hr.2.1 hk
      have go : I (r.map ruD) [some (.tup (rs.map ruD)), some (.str key), some (.tup ((if matchB r0.1 key then r0.2 else ownL dn key).map .str)), some (ruD r0)] w := by
        rw [hI]
        exact ⟨rfl, dn ++ [r0], r, _, by rw [hd]; simp, rfl, by unfold ownL; rw [List.foldl_append]; rfl⟩
      simp [m]
      split
      · rename_i hm; rw [if_pos hm] at go; simpa using go
      · rename_i hm; rw [if_neg hm] at go; simpa using go
  · intro e w hh
    rw [hI] at hh
    obtain ⟨rfl, dn, r, x3, hd, h1, rfl⟩ := hh
    have : r = [] := by cases r with
      | nil => rfl
      | cons _ _ => cases h1
    subst this
    have : dn = rs := by simpa using hd.symm
    subst this
    simp
end Ev

/-! ## Ev29 -/
set_option Elab.async false
set_option linter.all false
set_option maxRecDepth 100000
/-! Ev29: what the laws on owners draw. -/
namespace Ev
open PySem
theorem cpsOk_app {s t : List Nat} (h1 : cpsOk s = true) (h2 : cpsOk t = true) : cpsOk (s ++ t) = true := by
  simp only [cpsOk, List.all_append, Bool.and_eq_true] at h1 h2 ⊢
  exact ⟨h1, h2⟩
theorem names_at (T : Tp) (rest : Store) {least most : Int} (h1 : 1 ≤ least) (h2 : least ≤ most) (h3 : most ≤ 20) :
    ∃ (l : List (List Nat)) (T' : Tp), c_l_names [.ref 1, .int least, .int most] (mk T rest) = .ok (.t (l.map .str)) (mk T' rest) ∧ 1 ≤ l.length ∧ l.length ≤ 28 ∧ (∀ x ∈ l, x ≠ [] ∧ x.length ≤ 30 ∧ cpsOk x = true) ∧ l.Nodup ∧ T'.xs = T.xs := by
  have hsl : sLine = 16777216 := rfl
  have main : Wp (c_l_names [.ref 1, .int least, .int most] (mk T rest)) fun a w => ∃ (l : List (List Nat)) (T' : Tp), a = .t (l.map .str) ∧ w = mk T' rest ∧ 1 ≤ l.length ∧ l.length ≤ 28 ∧ (∀ x ∈ l, x ≠ [] ∧ x.length ≤ 30 ∧ cpsOk x = true) ∧ l.Nodup ∧ T'.xs = T.xs := by
    refine wpc ?_
    have key : ∀ (l : List (List Nat)) (T' : Tp), 1 ≤ l.length → l.length ≤ 28 → (∀ x ∈ l, x ≠ [] ∧ x.length ≤ 30 ∧ cpsOk x = true) → l.Nodup → T'.xs = T.xs → Lv (mk T rest) (fun a w => ∃ (l : List (List Nat)) (T' : Tp), a = .t (l.map .str) ∧ w = mk T' rest ∧ 1 ≤ l.length ∧ l.length ≤ 28 ∧ (∀ x ∈ l, x ≠ [] ∧ x.length ≤ 30 ∧ cpsOk x = true) ∧ l.Nodup ∧ T'.xs = T.xs) (.v (.ref (rest.length + 2))) (mk T' (rest ++ [.lst (l.map .str)])) :=
      fun l T' a1 a2 a3 a4 a5 => Lv.outR a5.symm (pures_str _) ⟨l, T', rfl, rfl, a1, a2, a3, a4, a5⟩
    generalize Lv (mk T rest) _ = Q at key ⊢
    have hm := pk_mem (l := [([] : List Nat), [], [108, 105, 98, 47], [114, 101, 115, 101, 114, 118, 97, 116, 105, 111, 110, 46, 120]]) (T := T) (by simp)
    have em : L2.atI [D.str [], D.str [], D.str [108, 105, 98, 47], D.str [114, 101, 115, 101, 114, 118, 97, 116, 105, 111, 110, 46, 120]] (dr T 4) = some (.str (pk [([] : List Nat), [], [108, 105, 98, 47], [114, 101, 115, 101, 114, 118, 97, 116, 105, 111, 110, 46, 120]] T)) := pk_map (f := D.str) (l := [([] : List Nat), [], [108, 105, 98, 47], [114, 101, 115, 101, 114, 118, 97, 116, 105, 111, 110, 46, 120]]) rfl (by simp)
    generalize pk [([] : List Nat), [], [108, 105, 98, 47], [114, 101, 115, 101, 114, 118, 97, 116, 105, 111, 110, 46, 120]] T = stem at hm em
    have hst : stem.length ≤ 13 ∧ cpsOk stem = true := by
      simp at hm
      rcases hm with rfl | rfl | rfl <;> exact ⟨by decide, by decide⟩
    refine hide ([97, 98, 99, 100, 101, 102, 103, 104, 105, 106, 107, 108, 109, 110, 111, 112, 113, 114, 115, 116, 117, 118, 119, 120, 121, 122, 48, 49, 50, 51, 52, 53, 54, 55, 56, 57, 45, 46, 47] : List Nat) fun sg hsg => ?_
    have sg1 : sg.length = 39 ∧ cpsOk sg = true := by rw [hsg]; decide
    have d0 := dr_nn (nx T 4) (most - least + 1)
    have d1 := dr_lt (nx T 4) (most - least + 1) (by omega)
    have dl : most - least + 1 < 1073741824 := by omega
    unfold d_l_names
    rw [← hsg]
    simp [draw_at, em, dl, show 4 ≤ sLine by decide, show 0 ≤ sLine by decide]
    clear hsg
    refine ⟨rOk_of (by omega) (by omega), ?_⟩
    have nin : ∀ (L : List (List Nat)) (T : Tp) (x : List Nat), cpsOk x = true → (∀ y ∈ L, cpsOk y = true) → dNotIn (.v (.str x)) (.v (.ref (rest.length + 2))) (mk T (rest ++ [.lst (L.map .str)])) = some (.v (.bl (!decide (x ∈ L)))) := by
      intro L T x hx hL
      have := dNotIn_ref (st := mk T (rest ++ [.lst (L.map .str)])) (a := .str x) (n := rest.length + 2) (l := L.map .str) (by simpa [D.ok] using hx) (oks_map fun y hy => by simpa [D.ok] using hL y hy) (by simp)
      rw [this]
      congr 4
      simp
    refine hide (α := LI) (fun ds e w => ∃ (L : List (List Nat)) (T' : Tp) (x6 x7 x8 : Option D), L.length + ds.length ≤ 20 ∧ (L = [] → ds ≠ []) ∧ (∀ x ∈ L, x ≠ [] ∧ x.length ≤ 30 ∧ cpsOk x = true) ∧ L.Nodup ∧ T'.xs = T.xs ∧ e = [some (.ref 1), some (.int least), some (.int most), some (.str sg), some (.str stem), some (.ref (rest.length + 2)), x6, x7, x8] ∧ w = mk T' (rest ++ [.lst (L.map .str)])) fun I hI => ?_
    refine wp_forS I (by
      rw [hI]
      refine ⟨[], _, none, none, none, by rw [rngL_len]; simp; omega, fun _ z => ?_, by simp, .nil, by simp, rfl, rfl⟩
      have := congrArg List.length z
      rw [rngL_len] at this
      simp at this
      omega) ?_ ?_
    · intro d ds e w h
      rw [hI] at h
      obtain ⟨L, T', x6, x7, x8, hl, h0, hL, hnd, hx, rfl, rfl⟩ := h
      simp only [List.length_cons] at hl
      refine ⟨_, rfl, ?_⟩
      have k0 := dr_nn T' 3
      have k1 := dr_lt T' 3 (by decide)
      simp [draw_at]
      refine ⟨rOk_of (by omega) (by omega), ?_⟩
      refine hide (α := LI) (fun ds e w => ∃ (nm : List Nat) (T1 : Tp) (x8 : Option D), nm.length + ds.length ≤ 16 ∧ (nm = [] → ds ≠ []) ∧ cpsOk nm = true ∧ T1.xs = T.xs ∧ e = [some (.ref 1), some (.int least), some (.int most), some (.str sg), some (.str stem), some (.ref (rest.length + 2)), some d, some (.str nm), x8] ∧ w = mk T1 (rest ++ [.lst (L.map .str)])) fun J hJ => ?_
      refine wp_forSS J (by
        rw [hJ]
        refine ⟨stem, _, x8, by rw [rngL_len]; omega, fun _ z => ?_, hst.2, by rw [nx_xs, hx], rfl, rfl⟩
        have := congrArg List.length z
        rw [rngL_len] at this
        simp at this
        omega) ?_ ?_
      · intro d' ds' e w h
        rw [hJ] at h
        obtain ⟨nm, T1, x8, hl', h0', hc, hx', rfl, rfl⟩ := h
        simp only [List.length_cons] at hl'
        refine ⟨_, rfl, ?_⟩
        have pm := pk_at sg T1 39 (by omega) (fun z => by rw [z] at sg1; simp at sg1)
        have pmm := pk_mem (l := sg) (T := T1) (fun z => by rw [z] at sg1; simp at sg1)
        generalize pk sg T1 = c at pm pmm
        have cc : cpsOk [c] = true := by
          have := sg1.2
          simp only [cpsOk, List.all_eq_true, decide_eq_true_eq] at this ⊢
          intro x hx
          simp at hx; subst hx
          exact this _ pmm
        simp [draw_at, pm, show sg.length ≤ sLine by omega, show nm.length + 1 ≤ sLine by omega]
        rw [hJ]
        exact ⟨nm ++ [c], _, _, by simp; omega, by simp, cpsOk_app hc cc, by rw [nx_xs, hx'], rfl, rfl⟩
      · intro e w h
        rw [hJ] at h
        obtain ⟨nm, T1, x8, hl', h0', hc, hx', rfl, rfl⟩ := h
        have hne : nm ≠ [] := fun z => h0' z rfl
        simp only [List.length_nil] at hl'
        have ni := nin L T1 nm hc fun y hy => (hL y hy).2.2
        have go : ∀ L', L'.length ≤ L.length + 1 → L' ≠ [] → (∀ x ∈ L', x ≠ [] ∧ x.length ≤ 30 ∧ cpsOk x = true) → L'.Nodup → I ds [some (.ref 1), some (.int least), some (.int most), some (.str sg), some (.str stem), some (.ref (rest.length + 2)), some d, some (.str nm), x8] (mk T1 (rest ++ [.lst (L'.map .str)])) := by
          intro L' a1 a2 a3 a4
          rw [hI]
          exact ⟨L', _, _, _, _, by omega, fun z => absurd z a2, a3, a4, hx', rfl, rfl⟩
        by_cases hin : nm ∈ L
        · simp [hin] at ni
          simp [ni]
          exact go L (by omega) (fun z => by rw [z] at hin; cases hin) hL hnd
        · simp [hin] at ni
          simp [ni, show L.length < sLine by omega]
          have := go (L ++ [nm]) (by simp) (by simp) (by
            intro x hx
            rcases List.mem_append.mp hx with hx | hx
            · exact hL x hx
            · simp at hx; subst hx; exact ⟨hne, by omega, hc⟩) (by
            refine List.nodup_append.mpr ⟨hnd, by simp, ?_⟩
            rintro a ha b hb rfl
            simp at hb
            exact hin (hb ▸ ha))
          simpa using this
    · intro e w h
      rw [hI] at h
      obtain ⟨L, T', x6, x7, x8, hl, h0, hL, hnd, hx, rfl, rfl⟩ := h
      have hne : L ≠ [] := fun z => h0 z rfl
      simp only [List.length_nil] at hl
      simp [show 8 ≤ sLine by decide]
      refine hide (α := LI) (fun ds e w => ∃ (L : List (List Nat)) (ws : List (List Nat)) (x7 : Option D), ds = ws.map .str ∧ L.length + ws.length ≤ 28 ∧ (∀ x ∈ ws, x ≠ [] ∧ x.length ≤ 30 ∧ cpsOk x = true) ∧ L ≠ [] ∧ (∀ x ∈ L, x ≠ [] ∧ x.length ≤ 30 ∧ cpsOk x = true) ∧ L.Nodup ∧ e = [some (.ref 1), some (.int least), some (.int most), some (.str sg), some (.str stem), some (.ref (rest.length + 2)), x6, x7, x8] ∧ w = mk T' (rest ++ [.lst (L.map .str)])) fun I hI => ?_
      refine wp_forS I (by
        rw [hI]
        refine ⟨L, [[97], [98, 46, 99], [100, 100], [101, 47, 102], [103, 104, 105], [106], [107, 45], [108]], _, rfl, by simp; omega, ?_, hne, hL, hnd, rfl, rfl⟩
        intro x hx
        simp at hx
        rcases hx with rfl | rfl | rfl | rfl | rfl | rfl | rfl | rfl <;> exact ⟨by simp, by decide, by decide⟩) ?_ ?_
      · intro d ds e w h
        rw [hI] at h
        obtain ⟨L, ws, x7, h1, hl, hws, hne, hL, hnd, rfl, rfl⟩ := h
        cases ws with
        | nil => cases h1
        | cons nm ws =>
          cases h1
          refine ⟨_, rfl, ?_⟩
          simp only [List.length_cons] at hl
          have hnm := hws nm (List.mem_cons_self ..)
          have ni := nin L T' nm hnm.2.2 fun y hy => (hL y hy).2.2
          have go : ∀ L', L'.length ≤ L.length + 1 → L' ≠ [] → (∀ x ∈ L', x ≠ [] ∧ x.length ≤ 30 ∧ cpsOk x = true) → L'.Nodup → I (ws.map .str) [some (.ref 1), some (.int least), some (.int most), some (.str sg), some (.str stem), some (.ref (rest.length + 2)), x6, some (.str nm), x8] (mk T' (rest ++ [.lst (L'.map .str)])) := by
            intro L' a1 a2 a3 a4
            rw [hI]
            exact ⟨L', ws, _, rfl, by omega, fun x hx => hws x (List.mem_cons_of_mem _ hx), a2, a3, a4, rfl, rfl⟩
          by_cases hlt : (L.length : Int) < least
          · by_cases hin : nm ∈ L
            · simp [hin] at ni
              simp [hlt, ni]
              exact go L (by omega) hne hL hnd
            · simp [hin] at ni
              simp [hlt, ni, show L.length < sLine by omega]
              have := go (L ++ [nm]) (by simp) (by simp) (by
                intro x hx
                rcases List.mem_append.mp hx with hx | hx
                · exact hL x hx
                · simp at hx; subst hx; exact hnm) (by
                refine List.nodup_append.mpr ⟨hnd, by simp, ?_⟩
                rintro a ha b hb rfl
                simp at hb
                exact hin (hb ▸ ha))
              simpa using this
          · simp [hlt]
            exact go L (by omega) hne hL hnd
      · intro e w h
        rw [hI] at h
        obtain ⟨L, ws, x7, h1, hl, hws, hne, hL, hnd, rfl, rfl⟩ := h
        simp
        exact key L T' (List.length_pos_iff.mpr hne) (by omega) hL hnd hx
  obtain ⟨a, w, e, l, T', rfl, rfl, h⟩ := main.out
  exact ⟨l, T', e, h⟩
theorem opattern_at (T : Tp) (rest : Store) {k : List Nat} (hk : k.length ≤ 400) (hc : cpsOk k = true) :
    ∃ (s : List Nat) (T' : Tp), c_l_pattern [.ref 1, .str k] (mk T rest) = .ok (.v (.str s)) (mk T' rest) ∧ s.length ≤ 810 ∧ cpsOk s = true ∧ T'.xs = T.xs := by
  have hsl : sLine = 16777216 := rfl
  have main : Wp (c_l_pattern [.ref 1, .str k] (mk T rest)) fun a w => ∃ (s : List Nat) (T' : Tp), a = .v (.str s) ∧ w = mk T' rest ∧ s.length ≤ 810 ∧ cpsOk s = true ∧ T'.xs = T.xs := by
    refine wpc ?_
    have key : ∀ (s : List Nat) (T' : Tp), s.length ≤ 810 → cpsOk s = true → T'.xs = T.xs → Lv (mk T rest) (fun a w => ∃ (s : List Nat) (T' : Tp), a = .v (.str s) ∧ w = mk T' rest ∧ s.length ≤ 810 ∧ cpsOk s = true ∧ T'.xs = T.xs) (.v (.str s)) (mk T' rest) :=
      fun s T' a1 a2 a3 => Lv.out0 a3.symm rfl ⟨s, T', rfl, rfl, a1, a2, a3⟩
    generalize Lv (mk T rest) _ = Q at key ⊢
    have c0 := dr_nn T 8
    generalize hT1 : nx T 8 = T1
    have x1 : T1.xs = T.xs := by rw [← hT1, nx_xs]
    have a0 := dr_nn T1 ((k.length : Int) + 1)
    have a1 := dr_lt T1 ((k.length : Int) + 1) (by omega)
    have al : (k.length : Int) + 1 < 1073741824 := by omega
    generalize hT2 : nx T1 ((k.length : Int) + 1) = T2
    have x2 : T2.xs = T.xs := by rw [← hT2, nx_xs, x1]
    generalize hA : dr T1 ((k.length : Int) + 1) = a at a0 a1
    have kl : k.length ≤ sLine := by omega
    refine hide (cut k none (some a)) fun u hu => ?_
    refine hide (cut k (some a) none) fun v hv => ?_
    have u1 : u.length ≤ 400 := by rw [hu]; exact Nat.le_trans (cut_len _ _ _) hk
    have v1 : v.length ≤ 400 := by rw [hv]; exact Nat.le_trans (cut_len _ _ _) hk
    have u2 : cpsOk u = true := by rw [hu]; exact cps_cut hc
    have v2 : cpsOk v = true := by rw [hv]; exact cps_cut hc
    unfold d_l_pattern
    by_cases h0 : dr T 8 = 0
    · simp [draw_at, hT1, al, hT2, hA, kl, h0]
      exact key k _ (by omega) hc x2
    by_cases h1 : dr T 8 = 1
    · have hm := pk_mem (l := [[42], [42, 42], [42, 42, 42], [42, 58, 42], [42, 42, 47, 42, 42], ([42, 58] : List Nat)]) (T := T2) (by simp)
      have em : L2.atI [D.str [42], D.str [42, 42], D.str [42, 42, 42], D.str [42, 58, 42], D.str [42, 42, 47, 42, 42], D.str [42, 58]] (dr T2 6) = some (.str (pk [[42], [42, 42], [42, 42, 42], [42, 58, 42], [42, 42, 47, 42, 42], ([42, 58] : List Nat)] T2)) := pk_map (f := D.str) (l := [[42], [42, 42], [42, 42, 42], [42, 58, 42], [42, 42, 47, 42, 42], ([42, 58] : List Nat)]) rfl (by simp)
      generalize pk [[42], [42, 42], [42, 42, 42], [42, 58, 42], [42, 42, 47, 42, 42], ([42, 58] : List Nat)] T2 = m at hm em
      have hm' : m.length ≤ 5 ∧ cpsOk m = true := by
        simp at hm
        rcases hm with rfl | rfl | rfl | rfl | rfl | rfl <;> exact ⟨by decide, by decide⟩
      simp [draw_at, hT1, al, hT2, hA, kl, h1, em, show 6 ≤ sLine by decide]
      exact key m _ (by omega) hm'.2 (by rw [nx_xs, x2])
    by_cases h2 : dr T 8 < 5
    · have hm := pk_mem (l := [[42], ([42, 42] : List Nat)]) (T := T2) (by simp)
      have em : L2.atI [D.str [42], D.str [42, 42]] (dr T2 2) = some (.str (pk [[42], ([42, 42] : List Nat)] T2)) := pk_map (f := D.str) (l := [[42], ([42, 42] : List Nat)]) rfl (by simp)
      generalize pk [[42], ([42, 42] : List Nat)] T2 = m at hm em
      have hm' : m.length ≤ 5 ∧ cpsOk m = true := by
        simp at hm
        rcases hm with rfl | rfl <;> exact ⟨by decide, by decide⟩
      simp [draw_at, hT1, al, hT2, hA, kl, h0, h1, h2, em, ← hu, show 2 ≤ sLine by decide, show u.length + m.length ≤ sLine by omega]
      exact key _ _ (by simp; omega) (cpsOk_app u2 hm'.2) (by rw [nx_xs, x2])
    by_cases h3 : dr T 8 = 5
    · simp [draw_at, hT1, al, hT2, hA, kl, h3, ← hv, show v.length + 1 + 1 ≤ sLine by omega]
      refine ⟨by omega, key _ _ (by simp; omega) (cpsOk_app (s := [42, 42]) (by decide) v2) x2⟩
    have b0 := dr_nn T2 ((k.length : Int) - a + 1)
    have bl : (k.length : Int) - a + 1 < 1073741824 := by omega
    generalize hT3 : nx T2 ((k.length : Int) - a + 1) = T3
    have x3 : T3.xs = T.xs := by rw [← hT3, nx_xs, x2]
    generalize hB : dr T2 ((k.length : Int) - a + 1) = b at b0
    refine hide (cut k (some (a + b)) none) fun z hz => ?_
    have z1 : z.length ≤ 400 := by rw [hz]; exact Nat.le_trans (cut_len _ _ _) hk
    have z2 : cpsOk z = true := by rw [hz]; exact cps_cut hc
    have hm := pk_mem (l := [[42], [42, 42], [42, 97], ([45] : List Nat)]) (T := T3) (by simp)
    have em : L2.atI [D.str [42], D.str [42, 42], D.str [42, 97], D.str [45]] (dr T3 4) = some (.str (pk [[42], [42, 42], [42, 97], ([45] : List Nat)] T3)) := pk_map (f := D.str) (l := [[42], [42, 42], [42, 97], ([45] : List Nat)]) rfl (by simp)
    generalize pk [[42], [42, 42], [42, 97], ([45] : List Nat)] T3 = m at hm em
    have hm' : m.length ≤ 5 ∧ cpsOk m = true := by
      simp at hm
      rcases hm with rfl | rfl | rfl | rfl <;> exact ⟨by decide, by decide⟩
    simp [draw_at, hT1, al, hT2, hA, kl, h0, h1, h2, h3, bl, hT3, hB, em, ← hu, ← hz, show 4 ≤ sLine by decide, show u.length + m.length ≤ sLine by omega, show u.length + m.length + z.length ≤ sLine by omega, show u.length + (m.length + z.length) ≤ sLine by omega]
    exact key _ _ (by simp; omega) (cpsOk_app u2 (cpsOk_app hm'.2 z2)) (by rw [nx_xs, x3])
  obtain ⟨a, w, e, s, T', rfl, rfl, h⟩ := main.out
  exact ⟨s, T', e, h⟩
theorem strs_of {P : List Nat → Prop} : ∀ {l : List D}, (∀ d ∈ l, ∃ s, d = .str s ∧ P s) → ∃ ss : List (List Nat), l = ss.map .str ∧ ∀ s ∈ ss, P s
  | [], _ => ⟨[], rfl, by simp⟩
  | d :: l, h => by
    obtain ⟨s, rfl, hs⟩ := h d (List.mem_cons_self ..)
    obtain ⟨ss, rfl, hss⟩ := strs_of (l := l) fun x hx => h x (List.mem_cons_of_mem _ hx)
    refine ⟨s :: ss, rfl, fun x hx => ?_⟩
    rcases List.mem_cons.mp hx with rfl | hx
    · exact hs
    · exact hss x hx
theorem ruD_pures (l : List Ru) : D.pures (l.map ruD) = true := pures_map fun r _ => by simp [ruD, D.pure, D.pures]
theorem orules_at (T : Tp) (rest : Store) {keys people : List (List Nat)} {i j : Nat} {most : Int} (hi : rest[i]? = some (.lst (keys.map .str))) (hj : rest[j]? = some (.lst (people.map .str))) (hk : keys ≠ []) (hp : people ≠ []) (lk : keys.length ≤ 200) (lp : people.length ≤ 100)
    (ck : ∀ x ∈ keys, x.length ≤ 400 ∧ cpsOk x = true) (cp : ∀ x ∈ people, x.length ≤ 400 ∧ cpsOk x = true) (m0 : 0 ≤ most) (m1 : most ≤ 20) :
    ∃ (rs : List Ru) (T' : Tp), c_l_owner_rules [.ref 1, .ref (i + 2), .ref (j + 2), .int most] (mk T rest) = .ok (.v (.tup (rs.map ruD))) (mk T' rest) ∧ okR rs ∧ (∀ r ∈ rs, ∀ x ∈ r.2, x ∈ people) ∧ T'.xs = T.xs := by
  have hsl : sLine = 16777216 := rfl
  have hil : i < rest.length := (List.getElem?_eq_some_iff.mp hi).1
  have hjl : j < rest.length := (List.getElem?_eq_some_iff.mp hj).1
  have fI : ∀ X, (rest ++ X)[i]? = some (.lst (keys.map .str)) := fun X => by rw [List.getElem?_append_left hil]; exact hi
  have fJ : ∀ X, (rest ++ X)[j]? = some (.lst (people.map .str)) := fun X => by rw [List.getElem?_append_left hjl]; exact hj
  have main : Wp (c_l_owner_rules [.ref 1, .ref (i + 2), .ref (j + 2), .int most] (mk T rest)) fun a w => ∃ (rs : List Ru) (T' : Tp), a = .v (.tup (rs.map ruD)) ∧ w = mk T' rest ∧ okR rs ∧ (∀ r ∈ rs, ∀ x ∈ r.2, x ∈ people) ∧ T'.xs = T.xs := by
    refine wpc ?_
    have key : ∀ (rs : List Ru) (T' : Tp) (more : Store), okR rs → (∀ r ∈ rs, ∀ x ∈ r.2, x ∈ people) → T'.xs = T.xs → Lv (mk T rest) (fun a w => ∃ (rs : List Ru) (T' : Tp), a = .v (.tup (rs.map ruD)) ∧ w = mk T' rest ∧ okR rs ∧ (∀ r ∈ rs, ∀ x ∈ r.2, x ∈ people) ∧ T'.xs = T.xs) (.v (.tup (rs.map ruD))) (mk T' (rest ++ more)) :=
      fun rs T' more a1 a2 a3 => Lv.out a3.symm (by simpa [D.pure] using ruD_pures rs) ⟨rs, T', rfl, rfl, a1, a2, a3⟩
    generalize Lv (mk T rest) _ = Q at key ⊢
    have ml : most + 1 < 1073741824 := by omega
    have d0 := dr_nn T (most + 1)
    have d1 := dr_lt T (most + 1) (by omega)
    generalize hT1 : nx T (most + 1) = T1
    have x1 : T1.xs = T.xs := by rw [← hT1, nx_xs]
    generalize hT2 : nx T1 12 = T2
    have x2 : T2.xs = T.xs := by rw [← hT2, nx_xs, x1]
    obtain ⟨n, en, n0, n1⟩ : ∃ n : Int, L2.atI [D.int (dr T (most + 1)), D.int 8] (if dr T1 12 = 0 then 1 else 0) = some (.int n) ∧ 0 ≤ n ∧ n ≤ 20 := by
      split
      · exact ⟨8, rfl, by decide, by decide⟩
      · exact ⟨_, rfl, d0, by omega⟩
    unfold d_l_owner_rules
    simp [draw_at, ml, hT1, hT2, dInt, show 0 ≤ sLine by decide, show 2 ≤ sLine by decide, en]
    refine ⟨rOk_of (by omega) (by omega), ?_⟩
    refine hide (α := LI) (fun ds e w => ∃ (rs : List Ru) (T' : Tp) (more : Store) (x5 x6 x7 x8 : Option D), rs.length + ds.length ≤ 20 ∧ (∀ r ∈ rs, r.1.length ≤ 900 ∧ cpsOk r.1 = true ∧ r.2.length ≤ 100 ∧ ∀ x ∈ r.2, x ∈ people) ∧ T'.xs = T.xs ∧ e = [some (.ref 1), some (.ref (i + 2)), some (.ref (j + 2)), some (.int most), some (.ref (rest.length + 2)), x5, x6, x7, x8, none] ∧ w = mk T' (rest ++ .lst (rs.map ruD) :: more)) fun I hI => ?_
    refine wp_forS I (by rw [hI]; exact ⟨[], _, [], none, none, none, none, by rw [rngL_len]; simp; omega, by simp, x2, rfl, rfl⟩) ?_ ?_
    · intro d ds e w h
      rw [hI] at h
      obtain ⟨rs, T', more, x5, x6, x7, x8, hl, hr, hx, rfl, rfl⟩ := h
      simp only [List.length_cons] at hl
      refine ⟨_, rfl, ?_⟩
      have kl : (keys.length : Int) < 1073741824 := by omega
      have pl : (people.length : Int) < 1073741824 := by omega
      have pm : L2.atI (keys.map D.str) (dr T' keys.length) = some (.str (pk keys T')) := pk_map (f := D.str) (l := keys) rfl hk
      have pmm := ck _ (pk_mem (l := keys) (T := T') hk)
      generalize pk keys T' = k at pm pmm
      obtain ⟨s, T3, e3, s1, s2, s3⟩ := opattern_at (nx T' keys.length) (rest ++ .lst (rs.map ruD) :: more) pmm.1 pmm.2
      have hm := pk_mem (l := [(0 : Int), 1, 1, 2, 2, 3, 3, 6]) (T := T3) (by simp)
      have em : L2.atI [D.int 0, D.int 1, D.int 1, D.int 2, D.int 2, D.int 3, D.int 3, D.int 6] (dr T3 8) = some (.int (pk [(0 : Int), 1, 1, 2, 2, 3, 3, 6] T3)) := pk_map (f := D.int) (l := [(0 : Int), 1, 1, 2, 2, 3, 3, 6]) rfl (by simp)
      generalize pk [(0 : Int), 1, 1, 2, 2, 3, 3, 6] T3 = m at hm em
      have hm' : 0 ≤ m ∧ m ≤ 6 := by simp at hm; omega
      obtain ⟨l, T5, e5, l1, l2, l3⟩ := comp_draw (gd := fun _ => True) (t := .one 9) (fe := e2 dIx (eVar 2) (eCall c_l_draw [] (aCons (eVar 0) (aCons (eN (g1 dLen) (bCons (eVar 2) bNil)) aNil)))) (env := [some (.ref 1), some (.ref (i + 2)), some (.ref (j + 2)), some (.int most), some (.ref (rest.length + 2)), some d, some (.str s), some (.int m), x8, none]) (fun d => ∃ s, d = .str s ∧ s ∈ people) (rest := rest ++ .lst (rs.map ruD) :: more) (fun _ => trivial) (rngL 0 m.toNat) (nx T3 8) (by
        intro d hd T
        refine ⟨_, .str (pk people T), nx T people.length, rfl, ?_, nx_xs _ _, _, rfl, pk_mem hp⟩
        have pm : L2.atI (people.map D.str) (dr T people.length) = some (.str (pk people T)) := pk_map (f := D.str) (l := people) rfl hp
        simp [fJ, draw_at, pl, pm])
      obtain ⟨ss, rfl, hss⟩ := strs_of l2
      rw [rngL_len] at l1
      have la : ∀ X, (rest ++ .lst (rs.map ruD) :: more ++ [X])[rest.length]? = some (.lst (rs.map ruD)) := fun X => by rw [List.append_assoc, List.getElem?_append_right (Nat.le_refl _), Nat.sub_self]; rfl
      simp only [List.length_map] at l1
      have gss : ss.length ≤ 6 := by omega
      simp [fI, draw_at, kl, pm, e3, em, show 8 ≤ sLine by decide, rOk_of (show (-1000000000 : Int) ≤ m by omega) (by omega), rngL_len, show m.toNat ≤ sLine by omega, e5, show 2 ≤ sLine by decide]
      have hrl : rs.length < sLine := by omega
      have sv : (rest ++ Cell.lst (rs.map ruD) :: (more ++ [Cell.lst (ss.map .str)])).set rest.length (.lst (rs.map ruD ++ [.tup [.str s, .tup (ss.map .str)]])) = rest ++ Cell.lst ((rs ++ [(s, ss)]).map ruD) :: (more ++ [Cell.lst (ss.map .str)]) := by
        rw [List.set_append_right _ _ (Nat.le_refl _), Nat.sub_self, List.map_append]; rfl
      rw [if_pos (show rs.length < sLine by omega)]
      simp [sv]
      rw [hI]
      refine ⟨rs ++ [(s, ss)], T5, more ++ [.lst (ss.map .str)], _, _, _, _, by simp; omega, ?_, by rw [l3, nx_xs, s3, nx_xs, hx], rfl, by simp⟩
      intro r hr'
      rcases List.mem_append.mp hr' with h | h
      · exact hr r h
      · simp at h; subst h; exact ⟨by simp only; omega, s2, by simp only; omega, hss⟩
    · intro e w h
      rw [hI] at h
      obtain ⟨rs, T', more, x5, x6, x7, x8, hl, hr, hx, rfl, rfl⟩ := h
      simp
      refine key rs T' _ ⟨by simp at hl; omega, fun r hr' => ?_⟩ (fun r hr' => (hr r hr').2.2.2) hx
      obtain ⟨b1, b2, b3, b4⟩ := hr r hr'
      exact ⟨b1, b2, b3, fun x hx => by have := cp x (b4 x hx); exact ⟨by omega, this.2⟩⟩
  obtain ⟨a, w, e, rs, T', rfl, rfl, h⟩ := main.out
  exact ⟨rs, T', e, h⟩
theorem keys_at (T : Tp) (rest : Store) {names : List (List Nat)} {i : Nat} (hi : rest[i]? = some (.lst (names.map .str))) (hl : names.length ≤ 100) (cn : ∀ x ∈ names, x.length ≤ 100 ∧ cpsOk x = true) :
    ∃ (ks : List (List Nat)) (T' : Tp), c_l_keys [.ref 1, .ref (i + 2)] (mk T rest) = .ok (.t (ks.map .str)) (mk T' rest) ∧ ks ≠ [] ∧ ks.length ≤ 101 ∧ (∀ x ∈ ks, x ≠ [] ∧ x.length ≤ 110 ∧ cpsOk x = true) ∧ T'.xs = T.xs := by
  have hsl : sLine = 16777216 := rfl
  have hil : i < rest.length := (List.getElem?_eq_some_iff.mp hi).1
  have fI : ∀ X, (rest ++ X)[i]? = some (.lst (names.map .str)) := fun X => by rw [List.getElem?_append_left hil]; exact hi
  have main : Wp (c_l_keys [.ref 1, .ref (i + 2)] (mk T rest)) fun a w => ∃ (ks : List (List Nat)) (T' : Tp), a = .t (ks.map .str) ∧ w = mk T' rest ∧ ks ≠ [] ∧ ks.length ≤ 101 ∧ (∀ x ∈ ks, x ≠ [] ∧ x.length ≤ 110 ∧ cpsOk x = true) ∧ T'.xs = T.xs := by
    refine wpc ?_
    have key : ∀ (ks : List (List Nat)) (T' : Tp), ks ≠ [] → ks.length ≤ 101 → (∀ x ∈ ks, x ≠ [] ∧ x.length ≤ 110 ∧ cpsOk x = true) → T'.xs = T.xs → Lv (mk T rest) (fun a w => ∃ (ks : List (List Nat)) (T' : Tp), a = .t (ks.map .str) ∧ w = mk T' rest ∧ ks ≠ [] ∧ ks.length ≤ 101 ∧ (∀ x ∈ ks, x ≠ [] ∧ x.length ≤ 110 ∧ cpsOk x = true) ∧ T'.xs = T.xs) (.v (.ref (rest.length + 2))) (mk T' (rest ++ [.lst (ks.map .str)])) :=
      fun ks T' a1 a2 a3 a4 => Lv.outR a4.symm (pures_str _) ⟨ks, T', rfl, rfl, a1, a2, a3, a4⟩
    generalize Lv (mk T rest) _ = Q at key ⊢
    unfold d_l_keys
    simp [show 1 ≤ sLine by decide, fI]
    refine hide (α := LI) (fun ds e w => ∃ (ks d r : List (List Nat)) (T' : Tp) (x3 : Option D), names = d ++ r ∧ ds = r.map .str ∧ ks.length = d.length + 1 ∧ (∀ x ∈ ks, x ≠ [] ∧ x.length ≤ 110 ∧ cpsOk x = true) ∧ T'.xs = T.xs ∧ e = [some (.ref 1), some (.ref (i + 2)), some (.ref (rest.length + 2)), x3] ∧ w = mk T' (rest ++ [.lst (ks.map .str)])) fun I hI => ?_
    refine wp_forS I (by
      rw [hI]
      refine ⟨[[111, 119, 110, 101, 114, 115, 58]], [], names, T, none, rfl, rfl, rfl, ?_, rfl, rfl, rfl⟩
      intro x hx
      simp at hx; subst hx
      exact ⟨by simp, by decide, by decide⟩) ?_ ?_
    · intro d ds e w h
      rw [hI] at h
      obtain ⟨ks, dn, r, T', x3, hd, h1, hk, hks, hx, rfl, rfl⟩ := h
      cases r with
      | nil => cases h1
      | cons nm r =>
        cases h1
        refine ⟨_, rfl, ?_⟩
        have hnm := cn nm (by rw [hd]; simp)
        have hdl : dn.length < names.length := by rw [hd]; simp
        have hm := pk_mem (l := [[102, 105, 108, 101, 58], [114, 117, 108, 101, 58], [116, 101, 115, 116, 58], ([112, 97, 103, 101, 58] : List Nat)]) (T := T') (by simp)
        have em : L2.atI [D.str [102, 105, 108, 101, 58], D.str [114, 117, 108, 101, 58], D.str [116, 101, 115, 116, 58], D.str [112, 97, 103, 101, 58]] (dr T' 4) = some (.str (pk [[102, 105, 108, 101, 58], [114, 117, 108, 101, 58], [116, 101, 115, 116, 58], ([112, 97, 103, 101, 58] : List Nat)] T')) := pk_map (f := D.str) (l := [[102, 105, 108, 101, 58], [114, 117, 108, 101, 58], [116, 101, 115, 116, 58], ([112, 97, 103, 101, 58] : List Nat)]) rfl (by simp)
        generalize pk [[102, 105, 108, 101, 58], [114, 117, 108, 101, 58], [116, 101, 115, 116, 58], ([112, 97, 103, 101, 58] : List Nat)] T' = m at hm em
        have hm' : m ≠ [] ∧ m.length ≤ 5 ∧ cpsOk m = true := by
          simp at hm
          rcases hm with rfl | rfl | rfl | rfl <;> exact ⟨by simp, by decide, by decide⟩
        simp [draw_at, em, fI, show 4 ≤ sLine by decide, show m.length + nm.length ≤ sLine by omega, show ks.length < sLine by omega]
        rw [hI]
        refine ⟨ks ++ [m ++ nm], dn ++ [nm], r, nx T' 4, _, by rw [hd]; simp, rfl, by simp; omega, ?_, by rw [nx_xs, hx], rfl, by simp⟩
        intro x hx'
        rcases List.mem_append.mp hx' with h | h
        · exact hks x h
        · simp at h; subst h; exact ⟨by simp [hm'.1], by simp; omega, cpsOk_app hm'.2.2 hnm.2⟩
    · intro e w h
      rw [hI] at h
      obtain ⟨ks, dn, r, T', x3, hd, h1, hk, hks, hx, rfl, rfl⟩ := h
      have : r = [] := by cases r with
        | nil => rfl
        | cons _ _ => cases h1
      subst this
      have : dn = names := by simpa using hd.symm
      subst this
      simp
      exact key ks T' (fun z => by rw [z] at hk; simp at hk) (by omega) hks hx
  obtain ⟨a, w, e, ks, T', rfl, rfl, h⟩ := main.out
  exact ⟨ks, T', e, h⟩
end Ev

/-! ## Ev30 -/
set_option Elab.async false
set_option linter.all false
set_option maxRecDepth 100000
/-! Ev30: whose approval counts. -/
namespace Ev
open PySem
noncomputable def d_counts_for : SS :=
  (sSeq (sRet (eAnd (e2 dNe (eVar 2) (eVar 1)) (eOr (e2 dEq (eN (g1 dLen) (bCons (eVar 0) bNil)) (eC (.int 0))) (e2 dIn (eVar 2) (eVar 0))))) sNil)
noncomputable def c_counts_for : List D → Store → R RV := callB 3 d_counts_for
noncomputable def d_l_counts : SS :=
  (sSeq (sSet 4 (eCall c_l_owners [] (aCons (eVar 0) (aCons (eVar 2) aNil))))
  (sSeq (sRet (eAnd (e2 dNe (eVar 3) (eVar 1)) (eOr (e2 dEq (eN (g1 dLen) (bCons (eVar 4) bNil)) (eC (.int 0))) (e2 dIn (eVar 3) (eVar 4))))) sNil))
noncomputable def c_l_counts : List D → Store → R RV := callB 5 d_l_counts
noncomputable def d_approval_counts : SS :=
  (sSeq (sRet (eCall c_counts_for [] (aCons (eCall c_owners_of [] (aCons (eVar 0) (aCons (eVar 2) aNil))) (aCons (eVar 1) (aCons (eVar 3) aNil))))) sNil)
noncomputable def c_approval_counts : List D → Store → R RV := callB 4 d_approval_counts
noncomputable def d_missing_approval : SS :=
  (sSeq (sFor (wVal (eVar 2)) (.one 4) (
    (sSeq (sSet 5 (eCall c_owners_of [] (aCons (eVar 0) (aCons (eVar 4) aNil))))
    (sSeq (sIf (tNotB (eTru (eN (g1 dAny) (bCons (eComp (wVal (eVar 3)) (.one 6) ttYes [6] (eCall c_counts_for [] (aCons (eVar 5) (aCons (eVar 1) (aCons (eVar 6) aNil))))) bNil)))) (
      (sSeq (sRet (eVar 4)) sNil)) sNil) sNil))))
  (sSeq (sRet (eC .non)) sNil))
noncomputable def c_missing_approval : List D → Store → R RV := callB 7 d_missing_approval
def cntB (names : List (List Nat)) (a p : List Nat) : Bool := !decide (p = a) && (names.isEmpty || decide (p ∈ names))
theorem strs_oks {l : List (List Nat)} (k : Nat) (h : ∀ x ∈ l, cpsOk x = true) : D.oks k (l.map .str) = true := oks_map fun x hx => by simpa [D.ok] using h x hx
theorem in_strs {names : List (List Nat)} {p : List Nat} {st : Store} (hp : cpsOk p = true) (hn : ∀ x ∈ names, cpsOk x = true) : dIn (.v (.str p)) (.v (.tup (names.map .str))) st = some (.v (.bl (decide (p ∈ names)))) := by
  have := dIn_tup (st := st) (a := .str p) (l := names.map .str) (by simpa [D.ok] using hp) (by simpa [D.ok] using strs_oks 63 hn)
  rw [this]
  congr 3
  simp
@[simp] theorem dAdd_tref (s : List D) (n : Nat) (st : Store) : dAdd (.t s) (.v (.ref n)) st = match lstM st (.v (.ref n)) with
    | some t => if s.length + t.length ≤ sLine then some (.t (s ++ t)) else none
    | none => none := by
  cases h : lstM st (.v (.ref n)) with
  | none => simp [dAdd, h]
  | some t => simp [dAdd, h]
theorem counts_ok {names : List (List Nat)} {a p : List Nat} {st : Store} (hp : cpsOk p = true) (hn : ∀ x ∈ names, cpsOk x = true) : c_counts_for [.tup (names.map .str), .str a, .str p] st = .ok (.v (.bl (cntB names a p))) st := by
  refine call_pure ?_ rfl
  have e := in_strs (st := st) hp hn
  unfold d_counts_for cntB
  by_cases h : p = a
  · simp [h]
  · cases names with
    | nil => simp [h]
    | cons x r =>
      simp only [List.map_cons] at e
      simp [h, e]
      omega
theorem lcounts_ok {rs : List Ru} {a key p : List Nat} {st : Store} (h : okR rs) (hk : key.length ≤ 1000) (hp : cpsOk p = true) : c_l_counts [.tup (rs.map ruD), .str a, .str key, .str p] st = .ok (.v (.bl (cntB (ownL rs key) a p))) st := by
  refine call_pure ?_ rfl
  have o := fun st => lowners_ok (rs := rs) (key := key) (st := st) h hk
  have ow := h.own key
  generalize ownL rs key = names at o ow
  have e := in_strs (st := st) hp fun x hx => (ow.2 x hx).2
  unfold d_l_counts cntB
  by_cases h : p = a
  · simp [h, o]
  · cases names with
    | nil => simp [h, o]
    | cons x r =>
      simp only [List.map_cons] at e o
      simp [h, e, o]
      omega
theorem approval_ok {rs : List Ru} {a key p : List Nat} {st : Store} (h : okR rs) (hk : key.length ≤ 1000) (hp : cpsOk p = true) : c_approval_counts [.tup (rs.map ruD), .str a, .str key, .str p] st = .ok (.v (.bl (cntB (ownL rs key) a p))) st := by
  refine call_pure ?_ rfl
  have o := fun st => owners_ok (rs := rs) (key := key) (st := st) h hk
  have ow := h.own key
  generalize ownL rs key = names at o ow
  have c := counts_ok (names := names) (a := a) (p := p) (st := st) hp fun x hx => (ow.2 x hx).2
  unfold d_approval_counts
  simp [o, c]
/-- the first key for which none of the approvals counts -/
def missD (rs : List Ru) (a : List Nat) (aps : List (List Nat)) : List (List Nat) → D
  | [] => .non
  | k :: ks => if aps.any (cntB (ownL rs k) a) then missD rs a aps ks else .str k
theorem missD_ok {rs : List Ru} {a : List Nat} {aps : List (List Nat)} : ∀ {ks : List (List Nat)}, (∀ k ∈ ks, cpsOk k = true) → missD rs a aps ks = .non ∨ ∃ k, missD rs a aps ks = .str k ∧ cpsOk k = true
  | [], _ => .inl rfl
  | k :: ks, h => by
    simp only [missD]
    split
    · exact missD_ok (ks := ks) fun x hx => h x (List.mem_cons_of_mem _ hx)
    · exact .inr ⟨k, rfl, h k (List.mem_cons_self ..)⟩
theorem missing_ok {rs : List Ru} {a : List Nat} {ks aps : List (List Nat)} {st : Store} (h : okR rs) (hk : ∀ k ∈ ks, k.length ≤ 1000 ∧ cpsOk k = true) (hp : ∀ p ∈ aps, cpsOk p = true) (hl : aps.length ≤ 1000) : c_missing_approval [.tup (rs.map ruD), .str a, .tup (ks.map .str), .tup (aps.map .str)] st = .ok (.v (missD rs a aps ks)) st := by
  have hsl : sLine = 16777216 := rfl
  refine call_pure ?_ (by
    rcases missD_ok (rs := rs) (a := a) (aps := aps) (ks := ks) fun k h => (hk k h).2 with h | ⟨k, h, _⟩ <;> rw [h] <;> rfl)
  refine hide (fun (r : RV) (st' : Store) => r = RV.v (missD rs a aps ks) ∧ ∃ more, st' = st ++ more) fun Q hQ => ?_
  rw [← hQ]
  have fin : ∀ d, d = missD rs a aps ks → Q (.v d) st := by intro d hd; rw [hQ, hd]; exact ⟨rfl, [], by simp⟩
  unfold d_missing_approval
  simp
  rw [WpR_seq]
  refine wp_forL (fun ds e w => w = st ∧ ∃ (r : List (List Nat)) (x4 x5 : Option D), ds = r.map .str ∧ (∀ k ∈ r, k ∈ ks) ∧ missD rs a aps r = missD rs a aps ks ∧ e = [some (.tup (rs.map ruD)), some (.str a), some (.tup (ks.map .str)), some (.tup (aps.map .str)), x4, x5, none]) ⟨rfl, ks, none, none, rfl, fun _ h => h, rfl, rfl⟩ ?_ ?_
  · rintro d ds e w ⟨rfl, r, x4, x5, h1, h2, h3, rfl⟩
    cases r with
    | nil => cases h1
    | cons k r =>
      cases h1
      refine ⟨_, rfl, ?_⟩
      have kk := hk k (h2 k (List.mem_cons_self ..))
      have o := fun st => owners_ok (rs := rs) (key := k) (st := st) h kk.1
      have ow := h.own k
      simp only [missD] at h3
      generalize ownL rs k = names at o ow h3
      have comp : ∀ (gd : Store → Prop) (st : Store), gd st → compL gd (.one 6) ttYes (eCall c_counts_for [] (aCons (eVar 5) (aCons (eVar 1) (aCons (eVar 6) aNil)))) [some (.tup (rs.map ruD)), some (.str a), some (.tup (ks.map .str)), some (.tup (aps.map .str)), some (.str k), some (.tup (names.map .str)), none] (aps.map .str) st = .ok ((aps.map (cntB names a)).map .bl) st := by
        intro gd st hgd
        rw [List.map_map]
        refine comp_mapA hgd fun p hp' => ⟨_, rfl, ?_⟩
        simp [counts_ok (names := names) (a := a) (p := p) (hp p hp') fun x hx => (ow.2 x hx).2]
      have an := dAny_ok (st := w) (a := .t ((aps.map (cntB names a)).map .bl)) (ns := aps.map (cntB names a)) rfl
      have ea : (aps.map (cntB names a)).any id = aps.any (cntB names a) := by simp [List.any_map]
      rw [ea] at an
      generalize (aps.map (cntB names a)).map D.bl = bs at comp an
      simp [o, show aps.length ≤ sLine by omega, comp, an]
      split
      · rename_i hall
        have hb : aps.any (cntB names a) = false := by simpa using hall
        rw [hb] at h3
        exact fin _ (by simpa using h3)
      · rename_i hall
        have hb : aps.any (cntB names a) = true := by
          cases q : aps.any (cntB names a) with
          | true => rfl
          | false => exact absurd (by simpa using q) hall
        rw [hb] at h3
        exact ⟨r, rfl, fun x hx => h2 x (List.mem_cons_of_mem _ hx), by simpa using h3⟩
  · rintro e w ⟨rfl, r, x4, x5, h1, h2, h3, rfl⟩
    have : r = [] := by cases r with
      | nil => rfl
      | cons _ _ => cases h1
    subst this
    simp
    exact fin _ (by simpa [missD] using h3)
end Ev

/-! ## Ev31 -/
set_option Elab.async false
set_option linter.all false
set_option maxRecDepth 100000
/-! Ev31: deltas: the program's functions, and that the greedy delta is a shortest one. -/
namespace Ev
open PySem
noncomputable def d_common_length : SS :=
  (sSeq (sSet 2 (eC (.int 0)))
  (sSeq (sWhile (tAndB (eBool (e2 dLt (eVar 2) (eN (g1 dLen) (bCons (eVar 0) bNil)))) (tAndB (eBool (e2 dLt (eVar 2) (eN (g1 dLen) (bCons (eVar 1) bNil)))) (eBool (e2 dEq (e2 dIx (eVar 0) (eVar 2)) (e2 dIx (eVar 1) (eVar 2)))))) (
    (sSeq (sSet 2 (e2 dAdd (eVar 2) (eC (.int 1)))) sNil)))
  (sSeq (sRet (eVar 2)) sNil)))
noncomputable def c_common_length : List D → Store → R RV := callB 3 d_common_length
noncomputable def d_longest_copy : SS :=
  (sSeq (sSet 2 (eC (.int 0)))
  (sSeq (sSet 3 (eC (.int 0)))
  (sSeq (sFor (wRng1 (bCons (eN (g1 dLen) (bCons (eVar 0) bNil)) bNil)) (.one 4) (
    (sSeq (sSet 5 (eCall c_common_length [] (aCons (eSl (eVar 0) (some (eVar 4)) none) (aCons (eVar 1) aNil))))
    (sSeq (sIf (eBool (e2 dGt (eVar 5) (eVar 3))) (
      (sSeq (sSet 2 (eVar 4))
      (sSeq (sSet 3 (eVar 5)) sNil))) sNil) sNil))))
  (sSeq (sRet (eTup (aCons (eVar 2) (aCons (eVar 3) aNil)))) sNil))))
noncomputable def c_longest_copy : List D → Store → R RV := callB 6 d_longest_copy
noncomputable def d_encode_delta : SS :=
  (sSeq (sSet 2 (eLst aNil))
  (sSeq (sSet 3 (eC (.int 0)))
  (sSeq (sWhile (eBool (e2 dLt (eVar 3) (eN (g1 dLen) (bCons (eVar 1) bNil)))) (
    (sSeq (sTg (.many [4, 5]) (eCall c_longest_copy [] (aCons (eVar 0) (aCons (eSl (eVar 1) (some (eVar 3)) none) aNil))))
    (sSeq (sIf (eBool (e2 dEq (eVar 5) (eC (.int 0)))) (
      (sSeq (sExpr (eMtL gAppend (eVar 2) (aCons (eTup (aCons (eC (.str [105, 110, 115, 101, 114, 116])) (aCons (e2 dIx (eVar 1) (eVar 3)) aNil))) aNil)))
      (sSeq (sSet 3 (e2 dAdd (eVar 3) (eC (.int 1)))) sNil))) (
      (sSeq (sExpr (eMtL gAppend (eVar 2) (aCons (eTup (aCons (eC (.str [99, 111, 112, 121])) (aCons (eVar 4) (aCons (eVar 5) aNil)))) aNil)))
      (sSeq (sSet 3 (e2 dAdd (eVar 3) (eVar 5))) sNil)))) sNil))))
  (sSeq (sRet (eN (g1 dTuple) (bCons (eVar 2) bNil))) sNil))))
noncomputable def c_encode_delta : List D → Store → R RV := callB 6 d_encode_delta
noncomputable def d_apply_delta : SS :=
  (sSeq (sSet 2 (eTup aNil))
  (sSeq (sFor (wVal (eVar 1)) (.one 3) (
    (sSeq (sIf (eBool (e2 dEq (e2 dIx (eVar 3) (eC (.int 0))) (eC (.str [105, 110, 115, 101, 114, 116])))) (
      (sSeq (sSet 2 (e2 dAdd (eVar 2) (eTup (aCons (e2 dIx (eVar 3) (eC (.int 1))) aNil)))) sNil)) (
      (sSeq (sSet 2 (e2 dAdd (eVar 2) (eSl (eVar 0) (some (e2 dIx (eVar 3) (eC (.int 1)))) (some (e2 dAdd (e2 dIx (eVar 3) (eC (.int 1))) (e2 dIx (eVar 3) (eC (.int 2)))))))) sNil))) sNil)))
  (sSeq (sRet (eVar 2)) sNil)))
noncomputable def c_apply_delta : List D → Store → R RV := callB 4 d_apply_delta
noncomputable def d_l_sign : SS :=
  (sSeq (sSet 1 (eC (.str [32, 33, 34, 35, 36, 38, 39, 40, 41, 42, 43, 44, 45, 46, 47, 48, 49, 50, 51, 52, 53, 54, 55, 56, 57, 58, 59, 60, 61, 62, 63, 64, 65, 66, 67, 68, 69, 70, 71, 72, 73, 74, 75, 76, 77, 78, 79, 80, 81, 82, 83, 84, 85, 86, 87, 88, 89, 90, 91, 92, 93, 94, 95, 96])))
  (sSeq (sSet 1 (e2 dAdd (eVar 1) (eC (.str [97, 98, 99, 100, 101, 102, 103, 104, 105, 106, 107, 108, 109, 110, 111, 112, 113, 114, 115, 116, 117, 118, 119, 120, 121, 122, 123, 124, 125, 126]))))
  (sSeq (sIf (eBool (e2 dGt (eCall c_l_draw [] (aCons (eVar 0) (aCons (eC (.int 3)) aNil))) (eC (.int 0)))) (
    (sSeq (sRet (e2 dIx (eC (.str [97, 98])) (eCall c_l_draw [] (aCons (eVar 0) (aCons (eC (.int 2)) aNil))))) sNil)) sNil)
  (sSeq (sRet (e2 dIx (eVar 1) (eCall c_l_draw [] (aCons (eVar 0) (aCons (eC (.int 94)) aNil))))) sNil))))
noncomputable def c_l_sign : List D → Store → R RV := callB 2 d_l_sign
/-! ### the plain functions -/
def comLen : List Ch → List Ch → Nat
  | a :: x, b :: y => if a = b then comLen x y + 1 else 0
  | _, _ => 0
theorem comLen_le : ∀ (a b : List Ch), comLen a b ≤ a.length ∧ comLen a b ≤ b.length
  | [], b => by simp [comLen]
  | a :: x, [] => by simp [comLen]
  | a :: x, b :: y => by
    have := comLen_le x y
    simp only [comLen, List.length_cons]
    split <;> omega
theorem comLen_take : ∀ (a b : List Ch), a.take (comLen a b) = b.take (comLen a b)
  | [], b => by simp [comLen]
  | a :: x, [] => by simp [comLen]
  | a :: x, b :: y => by
    simp only [comLen]
    split
    · rename_i h
      rw [List.take_succ_cons, List.take_succ_cons, comLen_take x y, h]
    · simp
theorem comLen_ge : ∀ {a b : List Ch} {k : Nat}, k ≤ a.length → k ≤ b.length → (k ≤ comLen a b ↔ a.take k = b.take k)
  | a, b, 0, _, _ => by simp
  | [], b, k + 1, h, _ => by simp at h
  | a :: x, [], k + 1, _, h => by simp at h
  | a :: x, b :: y, k + 1, h1, h2 => by
    simp only [List.length_cons] at h1 h2
    have ih := comLen_ge (a := x) (b := y) (k := k) (by omega) (by omega)
    simp only [comLen, List.take_succ_cons, List.cons.injEq]
    split
    · rename_i h
      rw [← ih]
      constructor
      · intro q; exact ⟨h, by omega⟩
      · intro q; omega
    · rename_i h
      constructor
      · intro q; omega
      · intro q; exact absurd q.1 h
theorem comLen_step {a b : List Ch} {j : Nat} (ha : j < a.length) (hb : j < b.length) : comLen (a.drop j) (b.drop j) = if a[j] = b[j] then comLen (a.drop (j + 1)) (b.drop (j + 1)) + 1 else 0 := by
  rw [List.drop_eq_getElem_cons ha, List.drop_eq_getElem_cons hb]; rfl
def bestF (old rest : List Ch) : Nat → Nat × Nat
  | 0 => (0, 0)
  | k + 1 => if (bestF old rest k).2 < comLen (old.drop k) rest then (k, comLen (old.drop k) rest) else bestF old rest k
def bestL (old rest : List Ch) : Nat × Nat := bestF old rest old.length
theorem bestF_max (old rest : List Ch) : ∀ k, (∀ i < k, comLen (old.drop i) rest ≤ (bestF old rest k).2) ∧ ((bestF old rest k).2 = 0 ∧ (bestF old rest k).1 = 0 ∨ (bestF old rest k).1 < k ∧ comLen (old.drop (bestF old rest k).1) rest = (bestF old rest k).2 ∧ 0 < (bestF old rest k).2 ∧ ∀ i < (bestF old rest k).1, comLen (old.drop i) rest < (bestF old rest k).2)
  | 0 => ⟨fun i h => absurd h (Nat.not_lt_zero _), .inl ⟨rfl, rfl⟩⟩
  | k + 1 => by
    obtain ⟨h1, h2⟩ := bestF_max old rest k
    simp only [bestF]
    split
    · rename_i h
      refine ⟨fun i hi => ?_, .inr ⟨by simp only; omega, rfl, by simp only; omega, fun i hi => ?_⟩⟩
      · by_cases q : i = k
        · subst q; exact Nat.le_refl _
        · have := h1 i (by omega); simp only; omega
      · have := h1 i hi; simp only; omega
    · rename_i h
      refine ⟨fun i hi => ?_, ?_⟩
      · by_cases q : i = k
        · subst q; omega
        · exact h1 i (by omega)
      · rcases h2 with h2 | ⟨a, b, c, d⟩
        · exact .inl h2
        · exact .inr ⟨by omega, b, c, d⟩
inductive Op where
  | ins (c : Ch) | cp (i l : Nat)
def opD : Op → D
  | .ins c => .tup [.str [105, 110, 115, 101, 114, 116], chD c]
  | .cp i l => .tup [.str [99, 111, 112, 121], .int i, .int l]
def piece (old : List Ch) : Op → List Ch
  | .ins c => [c]
  | .cp i l => (old.drop i).take l
def appD (old : List Ch) (d : List Op) : List Ch := d.flatMap (piece old)
def okOp (old : List Ch) : Op → Prop
  | .ins _ => True
  | .cp i l => 1 ≤ l ∧ i + l ≤ old.length
def Op.size : Op → Nat
  | .ins _ => 1
  | .cp _ l => l
theorem piece_len {old : List Ch} {o : Op} (h : okOp old o) : (piece old o).length = o.size := by
  cases o with
  | ins c => rfl
  | cp i l =>
    obtain ⟨h1, h2⟩ := h
    simp [piece, Op.size]; omega
theorem size_pos {old : List Ch} {o : Op} (h : okOp old o) : 1 ≤ o.size := by
  cases o with
  | ins c => exact Nat.le_refl _
  | cp i l => exact h.1
def encF (old : List Ch) : Nat → List Ch → List Op
  | 0, _ => []
  | _ + 1, [] => []
  | n + 1, c :: r => if (bestL old (c :: r)).2 = 0 then .ins c :: encF old n r else .cp (bestL old (c :: r)).1 (bestL old (c :: r)).2 :: encF old n ((c :: r).drop (bestL old (c :: r)).2)
theorem encF_irr (old : List Ch) : ∀ (n m : Nat) (r : List Ch), r.length ≤ n → r.length ≤ m → encF old n r = encF old m r
  | 0, m, [], _, _ => by cases m <;> rfl
  | n + 1, 0, [], _, _ => rfl
  | n + 1, m + 1, [], _, _ => rfl
  | n + 1, m + 1, c :: r, h1, h2 => by
    simp only [List.length_cons] at h1 h2
    simp only [encF]
    split
    · rw [encF_irr old n m r (by omega) (by omega)]
    · rw [encF_irr old n m _ (by rw [List.length_drop, List.length_cons]; omega) (by rw [List.length_drop, List.length_cons]; omega)]
  | 0, _, _ :: _, h, _ => by simp at h
  | _ + 1, 0, _ :: _, _, h => by simp at h
def encD (old r : List Ch) : List Op := encF old r.length r
theorem encD_nil (old : List Ch) : encD old [] = [] := rfl
theorem encD_cons (old : List Ch) (c : Ch) (r : List Ch) : encD old (c :: r) = if (bestL old (c :: r)).2 = 0 then .ins c :: encD old r else .cp (bestL old (c :: r)).1 (bestL old (c :: r)).2 :: encD old ((c :: r).drop (bestL old (c :: r)).2) := by
  unfold encD
  simp only [List.length_cons, encF]
  split
  · rfl
  · rw [encF_irr old r.length _ _ (by rw [List.length_drop, List.length_cons]; omega) (Nat.le_refl _)]
theorem best_le (old r : List Ch) : (bestL old r).2 ≤ r.length ∧ (0 < (bestL old r).2 → (bestL old r).1 + (bestL old r).2 ≤ old.length) := by
  rcases (bestF_max old r old.length).2 with ⟨h, _⟩ | ⟨h1, h2, h3, _⟩
  · exact ⟨by unfold bestL; omega, fun q => by unfold bestL at q; omega⟩
  · have := comLen_le (old.drop (bestF old r old.length).1) r
    rw [List.length_drop] at this
    exact ⟨by unfold bestL; omega, fun _ => by unfold bestL; omega⟩
theorem encD_main (old : List Ch) : ∀ (n : Nat) (r : List Ch), r.length ≤ n → appD old (encD old r) = r ∧ (∀ o ∈ encD old r, okOp old o) ∧ (encD old r).length ≤ r.length
  | _, [], _ => ⟨rfl, by simp [encD_nil], by simp [encD_nil]⟩
  | 0, _ :: _, h => by simp at h
  | n + 1, c :: r, h => by
    simp only [List.length_cons] at h
    rw [encD_cons]
    have b := best_le old (c :: r)
    split
    · obtain ⟨h1, h2, h3⟩ := encD_main old n r (by omega)
      refine ⟨?_, ?_, by simp; omega⟩
      · show [c] ++ appD old (encD old r) = c :: r
        rw [h1]; rfl
      · intro o ho
        rcases List.mem_cons.mp ho with rfl | ho
        · trivial
        · exact h2 o ho
    · rename_i hne
      obtain ⟨h1, h2, h3⟩ := encD_main old n ((c :: r).drop (bestL old (c :: r)).2) (by rw [List.length_drop, List.length_cons]; omega)
      refine ⟨?_, ?_, ?_⟩
      · show (old.drop _).take _ ++ appD old _ = c :: r
        rw [h1]
        have e : (old.drop (bestL old (c :: r)).1).take (bestL old (c :: r)).2 = (c :: r).take (bestL old (c :: r)).2 := by
          rcases (bestF_max old (c :: r) old.length).2 with ⟨q, _⟩ | ⟨_, q, _⟩
          · exact absurd q hne
          · have := comLen_take (old.drop (bestF old (c :: r) old.length).1) (c :: r)
            rw [q] at this
            exact this
        rw [e, List.take_append_drop]
      · intro o ho
        rcases List.mem_cons.mp ho with rfl | ho
        · exact ⟨by omega, b.2 (by omega)⟩
        · exact h2 o ho
      · rw [List.length_drop, List.length_cons] at h3
        simp only [List.length_cons]
        omega
/-- no delta is shorter -/
theorem enc_opt (old : List Ch) : ∀ (d : List Op) (q : Nat), (∀ o ∈ d, okOp old o) → (encD old ((appD old d).drop q)).length ≤ d.length
  | [], q, _ => by simp [appD, encD_nil]
  | o :: d, q, h => by
    have ho := h o (List.mem_cons_self ..)
    have hd : ∀ o ∈ d, okOp old o := fun x hx => h x (List.mem_cons_of_mem _ hx)
    have pl := piece_len ho
    have sp := size_pos ho
    have e0 : appD old (o :: d) = piece old o ++ appD old d := rfl
    rw [e0, List.length_cons]
    by_cases hq : o.size ≤ q
    · have := enc_opt old d (q - o.size) hd
      have e1 : (piece old o ++ appD old d).drop q = (appD old d).drop (q - o.size) := by
        rw [List.drop_append, List.drop_eq_nil_of_le (by omega), List.nil_append, pl]
      rw [e1]; omega
    · have e1 : (piece old o ++ appD old d).drop q = (piece old o).drop q ++ appD old d := by
        rw [List.drop_append, pl, show q - o.size = 0 by omega, List.drop_zero]
      rw [e1]
      obtain ⟨c, r, hcr⟩ : ∃ c r, (piece old o).drop q ++ appD old d = c :: r := by
        cases hc : (piece old o).drop q ++ appD old d with
        | cons c r => exact ⟨c, r, rfl⟩
        | nil =>
          have := congrArg List.length hc
          simp [pl] at this
          omega
      -- what the greedy step takes
      have long : ∀ L, L = (if (bestL old (c :: r)).2 = 0 then 1 else (bestL old (c :: r)).2) → o.size - q ≤ L := by
        intro L hL
        cases o with
        | ins x =>
          simp only [Op.size] at hq ⊢
          rw [hL]
          split <;> omega
        | cp i l =>
          obtain ⟨l1, l2⟩ := ho
          simp only [Op.size] at hq ⊢
          have k1 : l - q ≤ comLen (old.drop (i + q)) (c :: r) := by
            refine (comLen_ge (by rw [List.length_drop]; omega) (by rw [← hcr, List.length_append, List.length_drop, pl]; simp only [Op.size]; omega)).mpr ?_
            rw [← hcr]
            simp only [piece]
            rw [List.drop_take, List.drop_drop, List.take_append_of_le_length (by rw [List.length_take, List.length_drop]; omega), List.take_take, Nat.min_self]
          have k2 := (bestF_max old (c :: r) old.length).1 (i + q) (by omega)
          have k3 : l - q ≤ (bestL old (c :: r)).2 := by unfold bestL; omega
          rw [hL]
          split <;> omega
      have long := long _ rfl
      have e2 : ∀ L, o.size - q ≤ L → (c :: r).drop L = (appD old d).drop (L - (o.size - q)) := by
        intro L hL
        rw [← hcr, List.drop_append, List.drop_eq_nil_of_le (by rw [List.length_drop, pl]; omega), List.nil_append, List.length_drop, pl]
      rw [hcr, encD_cons]
      split
      · rename_i hz
        rw [if_pos hz] at long
        have e3 := e2 1 long
        have : r = (appD old d).drop (1 - (o.size - q)) := e3
        have ih := enc_opt old d (1 - (o.size - q)) hd
        rw [← this] at ih
        simp only [List.length_cons]; omega
      · rename_i hz
        rw [if_neg hz] at long
        have ih := enc_opt old d ((bestL old (c :: r)).2 - (o.size - q)) hd
        rw [← e2 _ long] at ih
        simp only [List.length_cons]; omega
theorem enc_least {old : List Ch} {d : List Op} (h : ∀ o ∈ d, okOp old o) : (encD old (appD old d)).length ≤ d.length := by
  have := enc_opt old d 0 h
  rwa [List.drop_zero] at this
/-! ### the program -/
theorem txD_drop (l : List Ch) (k : Nat) : cut (l.map chD) (some (k : Int)) none = (l.drop k).map chD := by rw [cut_from, List.map_drop]
theorem txD_cut (l : List Ch) (a b : Nat) : cut (l.map chD) (some (a : Int)) (some (b : Int)) = ((l.drop a).take (b - a)).map chD := by rw [cut_nat, List.map_take, List.map_drop]
theorem chD_inj {a b : Ch} (h : chD a = chD b) : a = b := by
  simp only [chD, D.tup.injEq, List.cons.injEq, D.str.injEq, D.int.injEq, and_true] at h
  exact Prod.ext h.1 (Prod.ext h.2.1 h.2.2)
theorem chD_ok {c : Ch} (k : Nat) (h : c.1 < 0x110000) : D.ok (k + 1) (chD c) = true := by
  simp [chD, D.ok, D.oks, cpsOk, h]
theorem chD_eq {a b : Ch} {st : Store} (ha : a.1 < 0x110000) (hb : b.1 < 0x110000) : dEq (.v (chD a)) (.v (chD b)) st = some (.v (.bl (decide (a = b)))) := by
  rw [dEq_plain (chD_ok 63 ha) (chD_ok 63 hb)]
  congr 3
  by_cases h : a = b
  · subst h; simp
  · have : chD a ≠ chD b := fun z => h (chD_inj z)
    simp [h, this]
abbrev sOk (l : List Ch) : Prop := ∀ c ∈ l, c.1 < 0x110000
theorem common_ok {a b : List Ch} {st : Store} (ha : sOk a) (hb : sOk b) (la : a.length ≤ 10000) : c_common_length [txD a, txD b] st = .ok (.v (.int (comLen a b : Nat))) st := by
  refine call_pure ?_ rfl
  refine hide (fun (r : RV) (st' : Store) => r = RV.v (.int (comLen a b : Nat)) ∧ ∃ more, st' = st ++ more) fun Q hQ => ?_
  rw [← hQ]
  have fin : ∀ n : Nat, comLen a b = n → Q (.v (.int (n : Int))) st := by intro n hn; rw [hQ, hn]; exact ⟨rfl, [], by simp⟩
  unfold d_common_length
  simp [txD]
  refine hide (α := WI) (fun n e w => ∃ j : Nat, j + n = a.length ∧ comLen a b = j + comLen (a.drop j) (b.drop j) ∧ e = [some (.tup (a.map chD)), some (.tup (b.map chD)), some (.int j)] ∧ w = st) fun I hI => ?_
  refine wp_whileS I (m := a.length) (by unfold fuel; omega) (by rw [hI]; exact ⟨0, by omega, by simp, rfl, rfl⟩) ?_
  intro n e w h
  rw [hI] at h
  obtain ⟨j, hj, hc, rfl, rfl⟩ := h
  by_cases h1 : j < a.length
  · by_cases h2 : j < b.length
    · have ea : L2.atI (a.map chD) (j : Int) = some (chD a[j]) := by rw [atI_lit, List.getElem?_map, List.getElem?_eq_getElem h1]; rfl
      have eb : L2.atI (b.map chD) (j : Int) = some (chD b[j]) := by rw [atI_lit, List.getElem?_map, List.getElem?_eq_getElem h2]; rfl
      have eq := fun st => chD_eq (st := st) (ha _ (List.getElem_mem h1)) (hb _ (List.getElem_mem h2))
      rw [comLen_step h1 h2] at hc
      by_cases h3 : a[j] = b[j]
      · rw [if_pos h3] at hc
        have eq' : ∀ st, dEq (.v (chD a[j])) (.v (chD b[j])) st = some (.v (.bl true)) := fun st => by rw [eq]; simp [h3]
        simp [h1, h2, ea, eb, eq']
        refine ⟨n - 1, by omega, ?_⟩
        rw [hI]
        exact ⟨j + 1, by omega, by omega, by simp, rfl⟩
      · rw [if_neg h3] at hc
        have eq' : ∀ st, dEq (.v (chD a[j])) (.v (chD b[j])) st = some (.v (.bl false)) := fun st => by rw [eq]; simp [h3]
        simp [h1, h2, ea, eb, eq']
        exact fin j (by omega)
    · rw [show b.drop j = [] from List.drop_eq_nil_of_le (by omega)] at hc
      have : comLen (a.drop j) [] = 0 := by cases a.drop j <;> rfl
      simp [h1, h2]
      exact fin j (by omega)
  · rw [show a.drop j = [] from List.drop_eq_nil_of_le (by omega)] at hc
    simp [h1]
    exact fin j (by simpa [comLen] using hc)
theorem sOk.drop {l : List Ch} (h : sOk l) (k : Nat) : sOk (l.drop k) := fun c hc => h c (List.mem_of_mem_drop hc)
theorem longest_ok {a b : List Ch} {st : Store} (ha : sOk a) (hb : sOk b) (la : a.length ≤ 10000) : c_longest_copy [txD a, txD b] st = .ok (.v (.tup [.int ((bestL a b).1 : Nat), .int ((bestL a b).2 : Nat)])) st := by
  have hsl : sLine = 16777216 := rfl
  refine call_pure ?_ rfl
  unfold d_longest_copy
  simp [txD]
  refine ⟨rOk_of (by omega) (by omega), ?_⟩
  refine hide (α := LI) (fun ds e w => w = st ∧ ∃ (j : Nat) (x4 x5 : Option D), j + ds.length = a.length ∧ ds = rngL j (a.length - j) ∧ e = [some (.tup (a.map chD)), some (.tup (b.map chD)), some (.int ((bestF a b j).1 : Nat)), some (.int ((bestF a b j).2 : Nat)), x4, x5]) fun I hI => ?_
  refine wp_forS I (by rw [hI]; exact ⟨rfl, 0, none, none, by rw [rngL_len]; omega, rfl, rfl⟩) ?_ ?_
  · intro d ds e w h
    rw [hI] at h
    obtain ⟨rfl, j, x4, x5, hj, h1, rfl⟩ := h
    simp only [List.length_cons] at hj
    obtain ⟨m, hm⟩ : ∃ m, a.length - j = m + 1 := ⟨a.length - j - 1, by omega⟩
    rw [hm, rngL_cons] at h1
    cases h1
    refine ⟨_, rfl, ?_⟩
    have cm := fun st => common_ok (st := st) (ha.drop j) hb (by rw [List.length_drop]; omega)
    simp only [txD] at cm
    have go : ∀ p : Nat × Nat, p = bestF a b (j + 1) → I (rngL ((j : Int) + 1) m) [some (.tup (a.map chD)), some (.tup (b.map chD)), some (.int (p.1 : Nat)), some (.int (p.2 : Nat)), some (.int j), some (.int (comLen (a.drop j) b : Nat))] w := by
      rintro p rfl
      rw [hI]
      exact ⟨rfl, j + 1, _, _, by omega, by rw [show a.length - (j + 1) = m by omega]; rfl, rfl⟩
    simp only [bestF] at go
    have dc := txD_drop a j
    simp only [List.map_drop] at dc cm
    simp [dc, cm]
    by_cases hlt : (bestF a b j).2 < comLen (a.drop j) b
    · rw [if_pos hlt] at go
      simp [hlt]
      exact go _ rfl
    · rw [if_neg hlt] at go
      simp [hlt]
      exact go _ rfl
  · intro e w h
    rw [hI] at h
    obtain ⟨rfl, j, x4, x5, hj, h1, rfl⟩ := h
    have : j = a.length := by simpa using hj
    subst this
    simp [show 2 ≤ sLine by decide, bestL]
theorem opD_pures (d : List Op) : D.pures (d.map opD) = true := pures_map fun o _ => by cases o <;> rfl
theorem encode_ok {a b : List Ch} {st : Store} (ha : sOk a) (hb : sOk b) (la : a.length ≤ 10000) (lb : b.length ≤ 10000) : c_encode_delta [txD a, txD b] st = .ok (.v (.tup ((encD a b).map opD))) st := by
  have hsl : sLine = 16777216 := rfl
  refine call_pure ?_ (by simp only [D.pure]; exact opD_pures _)
  refine hide (fun (r : RV) (st' : Store) => r = RV.v (.tup ((encD a b).map opD)) ∧ ∃ more, st' = st ++ more) fun Q hQ => ?_
  rw [← hQ]
  have fin : ∀ c, Q (.v (.tup ((encD a b).map opD))) (st ++ [c]) := by intro n; rw [hQ]; exact ⟨rfl, _, rfl⟩
  unfold d_encode_delta
  simp [txD, show 0 ≤ sLine by decide]
  refine hide (α := WI) (fun n e w => ∃ (p : Nat) (ops : List Op) (x4 x5 : Option D), p + n = b.length ∧ ops ++ encD a (b.drop p) = encD a b ∧ ops.length ≤ p ∧ e = [some (.tup (a.map chD)), some (.tup (b.map chD)), some (.ref st.length), some (.int p), x4, x5] ∧ w = st ++ [.lst (ops.map opD)]) fun I hI => ?_
  refine wp_whileS I (m := b.length) (by unfold fuel; omega) (by rw [hI]; exact ⟨0, [], none, none, by omega, by simp, by simp, rfl, rfl⟩) ?_
  intro n e w h
  rw [hI] at h
  obtain ⟨p, ops, x4, x5, hp, he, hl, rfl, rfl⟩ := h
  by_cases h1 : p < b.length
  · have lg := fun st => longest_ok (st := st) ha (hb.drop p) la
    simp only [txD] at lg
    have dc := txD_drop b p
    have ep : L2.atI (b.map chD) (p : Int) = some (chD b[p]) := by rw [atI_lit, List.getElem?_map, List.getElem?_eq_getElem h1]; rfl
    have bl := best_le a (b.drop p)
    have bd : b.drop p = b[p] :: b.drop (p + 1) := List.drop_eq_getElem_cons h1
    have ec := encD_cons a b[p] (b.drop (p + 1))
    rw [← bd] at ec
    rw [ec] at he
    rw [List.length_drop] at bl
    simp only [List.map_drop] at dc lg
    simp [h1, dc, lg]
    by_cases h2 : (bestL a (b.drop p)).2 = 0
    · rw [if_pos h2] at he
      simp [h2, ep, show 2 ≤ sLine by decide, show ops.length < sLine by omega]
      refine ⟨n - 1, by omega, ?_⟩
      rw [hI]
      exact ⟨p + 1, ops ++ [.ins b[p]], some (.int ((bestL a (b.drop p)).1 : Nat)), some (.int 0), by omega, by rw [← he]; simp, by simp; omega, by simp, by simp [opD]⟩
    · rw [if_neg h2] at he
      simp [h2, show 3 ≤ sLine by decide, show ops.length < sLine by omega]
      refine ⟨n - (bestL a (b.drop p)).2, by omega, ?_⟩
      rw [hI]
      exact ⟨p + (bestL a (b.drop p)).2, ops ++ [.cp (bestL a (b.drop p)).1 (bestL a (b.drop p)).2], some (.int ((bestL a (b.drop p)).1 : Nat)), some (.int ((bestL a (b.drop p)).2 : Nat)), by omega, by rw [← he, List.drop_drop]; simp, by simp; omega, by simp, by simp [opD]⟩
  · rw [show b.drop p = [] from List.drop_eq_nil_of_le (by omega), encD_nil, List.append_nil] at he
    subst he
    simp [h1]
    exact fin _
theorem apply_ok {old : List Ch} {d : List Op} {st : Store} (hd : ∀ o ∈ d, okOp old o) (hl : (appD old d).length ≤ 100000) : c_apply_delta [txD old, .tup (d.map opD)] st = .ok (.v (txD (appD old d))) st := by
  have hsl : sLine = 16777216 := rfl
  refine call_pure ?_ (by simp only [txD, D.pure]; exact chs_pure _)
  unfold d_apply_delta
  simp [txD, show 0 ≤ sLine by decide]
  refine hide (α := LI) (fun ds e w => w = st ∧ ∃ (dn r : List Op) (x3 : Option D), d = dn ++ r ∧ ds = r.map opD ∧ e = [some (.tup (old.map chD)), some (.tup (d.map opD)), some (.tup ((appD old dn).map chD)), x3]) fun I hI => ?_
  refine wp_forS I (by rw [hI]; exact ⟨rfl, [], d, none, rfl, rfl, rfl⟩) ?_ ?_
  · intro dd ds e w h
    rw [hI] at h
    obtain ⟨rfl, dn, r, x3, hdn, h1, rfl⟩ := h
    cases r with
    | nil => cases h1
    | cons o r =>
      cases h1
      refine ⟨_, rfl, ?_⟩
      have ho := hd o (by rw [hdn]; simp)
      have pl := piece_len ho
      have al : (appD old dn).length + (piece old o).length ≤ 100000 := by
        rw [hdn] at hl
        simp only [appD, List.flatMap_append, List.flatMap_cons, List.length_append] at hl ⊢
        omega
      have go : I (r.map opD) [some (.tup (old.map chD)), some (.tup (d.map opD)), some (.tup ((appD old dn).map chD ++ (piece old o).map chD)), some (opD o)] w := by
        rw [hI]
        exact ⟨rfl, dn ++ [o], r, some (opD o), by rw [hdn]; simp, rfl, by simp [appD]⟩
      cases o with
      | ins c =>
        simp [opD, show 1 ≤ sLine by decide, show (appD old dn).length + 1 ≤ sLine by simp [piece] at al; omega]
        simpa [opD, piece] using go
      | cp i l =>
        have ct := txD_cut old i (i + l)
        rw [show i + l - i = l by omega] at ct
        simp only [Int.natCast_add] at ct
        simp only [piece] at go al
        have al2 : (appD old dn).length + ((old.drop i).take l).length ≤ sLine := by omega
        generalize (old.drop i).take l = pc at ct go al2
        simp [opD, ct, al2]
        simpa [opD] using go
  · intro e w h
    rw [hI] at h
    obtain ⟨rfl, dn, r, x3, hdn, h1, rfl⟩ := h
    have : r = [] := by cases r with
      | nil => rfl
      | cons _ _ => cases h1
    subst this
    have : dn = d := by simpa using hdn.symm
    subst this
    simp
/-! ### repr of deltas -/
theorem repr_delta {st : Store} {d : List Op} (hl : d.length ≤ 5000) (h : ∀ o ∈ d, match o with
    | .ins c => chOk c
    | .cp i l => i < 100000 ∧ l < 100000) : dRepr (.v (.tup (d.map opD))) st = some (.v (.str (rpr (.tup (d.map opD))))) := by
  refine dRepr_q ?_ ?_
  · simp only [D.rq]
    rw [rqs_iff]
    intro x hx
    obtain ⟨o, ho, rfl⟩ := List.mem_map.mp hx
    have := h o ho
    cases o with
    | ins c =>
      have := chD_rq 61 this
      simp only [opD, D.rq, D.rqs, this, Bool.and_true]
      decide
    | cp i l =>
      simp only [opD, D.rq, D.rqs, Bool.and_true, Bool.and_eq_true, decide_eq_true_eq]
      refine ⟨by decide, by omega, by omega⟩
  · simp only [D.wq]
    have := wqs_le (m := 110) (l := d.map opD) (by
      intro x hx
      obtain ⟨o, ho, rfl⟩ := List.mem_map.mp hx
      cases o <;> simp [opD, chD, D.wq, D.wqs])
    rw [List.length_map] at this
    have : (110 + 1) * d.length ≤ (110 + 1) * 5000 := Nat.mul_le_mul_left _ hl
    omega
/-! ### a drawn sign -/
theorem sign_at (T : Tp) (rest : Store) : ∃ (c : Nat) (T' : Tp), c_l_sign [.ref 1] (mk T rest) = .ok (.v (.str [c])) (mk T' rest) ∧ c < 128 ∧ T'.xs = T.xs := by
  have hsl : sLine = 16777216 := rfl
  have main : Wp (c_l_sign [.ref 1] (mk T rest)) fun a w => ∃ (c : Nat) (T' : Tp), a = .v (.str [c]) ∧ w = mk T' rest ∧ c < 128 ∧ T'.xs = T.xs := by
    refine wpc ?_
    have key : ∀ (c : Nat) (T' : Tp), c < 128 → T'.xs = T.xs → Lv (mk T rest) (fun a w => ∃ (c : Nat) (T' : Tp), a = .v (.str [c]) ∧ w = mk T' rest ∧ c < 128 ∧ T'.xs = T.xs) (.v (.str [c])) (mk T' rest) :=
      fun c T' h1 h2 => Lv.out0 h2.symm rfl ⟨c, T', rfl, rfl, h1, h2⟩
    generalize Lv (mk T rest) _ = Q at key ⊢
    unfold d_l_sign
    refine hide ([32, 33, 34, 35, 36, 38, 39, 40, 41, 42, 43, 44, 45, 46, 47, 48, 49, 50, 51, 52, 53, 54, 55, 56, 57, 58, 59, 60, 61, 62, 63, 64, 65, 66, 67, 68, 69, 70, 71, 72, 73, 74, 75, 76, 77, 78, 79, 80, 81, 82, 83, 84, 85, 86, 87, 88, 89, 90, 91, 92, 93, 94, 95, 96] : List Nat) fun s1 h1 => ?_
    refine hide ([97, 98, 99, 100, 101, 102, 103, 104, 105, 106, 107, 108, 109, 110, 111, 112, 113, 114, 115, 116, 117, 118, 119, 120, 121, 122, 123, 124, 125, 126] : List Nat) fun s2 h2 => ?_
    rw [← h1, ← h2]
    have l12 : (s1 ++ s2).length = 94 ∧ (∀ c ∈ s1 ++ s2, c < 128) := by
      rw [h1, h2]; exact ⟨by decide, by decide⟩
    have l1 : s1.length + s2.length = 94 := by have := l12.1; simpa using this
    clear h1 h2
    by_cases h0 : 0 < dr T 3
    · have pm := pk_at [97, 98] (nx T 3) 2 rfl (by simp)
      have pmm := pk_mem (l := [97, 98]) (T := nx T 3) (by simp)
      generalize pk [97, 98] (nx T 3) = c at pm pmm
      simp [draw_at, h0, pm, show s1.length + s2.length ≤ sLine by omega, show 2 ≤ sLine by decide]
      exact key c _ (by simp at pmm; omega) (by simp)
    · have pm := pk_at (s1 ++ s2) (nx T 3) 94 (by rw [l12.1]; rfl) (fun z => by rw [z] at l12; simp at l12)
      have pmm := l12.2 _ (pk_mem (l := s1 ++ s2) (T := nx T 3) (fun z => by rw [z] at l12; simp at l12))
      generalize pk (s1 ++ s2) (nx T 3) = c at pm pmm
      simp [draw_at, h0, pm, show s1.length + s2.length ≤ sLine by omega]
      exact key c _ pmm (by simp)
  obtain ⟨a, w, e, c, T', rfl, rfl, h⟩ := main.out
  exact ⟨c, T', e, h⟩
end Ev

/-! ## Ev32 -/
set_option Elab.async false
set_option linter.all false
set_option maxRecDepth 100000
/-! Ev32: defs with defaults; repr of long ints. -/
namespace Ev
open PySem PySem.Spec PyProof.Rows L2
/-- a def as it stands, its defaults at dV -/
structure FunV (K : PySem.W.Frag) (x qual : Str) (st : Stmt) (dV : Value) (f : Addr) (fd : FuncData) : Prop where
  ex : ∃ (oc : Value) (od : Option Addr) (kV doc pm : Value) (an : Option Addr) (cdv ct : Value) (osl : Array (Option Value)),
    fd = PySem.W.fnOf x qual (defArgs st) (defBody st) (defScope st) dV kV doc pm an cdv ct ∧ K.lookup f = some ⟨oc, od, .func fd, osl⟩ ∧ PySem.W.codeIn K cdv qual = true
  kp : PySem.W.keepIn K (.ref f) = true
theorem funV_mk {K : PySem.W.Frag} {x qual : Str} {st : Stmt} {dV : Value} {f : Addr} {oc : Value} {od an : Option Addr} {osl : Array (Option Value)} {kV doc pm cdv ct : Value} (l : K.lookup f = some ⟨oc, od, .func (PySem.W.fnOf x qual (defArgs st) (defBody st) (defScope st) dV kV doc pm an cdv ct), osl⟩)
    (c : PySem.W.codeIn K cdv qual = true) (k : PySem.W.keepIn K (.ref f) = true) : FunV K x qual st dV f (PySem.W.fnOf x qual (defArgs st) (defBody st) (defScope st) dV kV doc pm an cdv ct) := ⟨⟨oc, od, kV, doc, pm, an, cdv, ct, osl, rfl, l, c⟩, k⟩
/-- n values are written, the defaults behind the first j fill up -/
theorem FunV.binds {K : PySem.W.Frag} {x qual : Str} {st : Stmt} {T : Addr} {f : Addr} {fd : FuncData} {ps : List Str} {o : Obj} {its : List Value} {m : Nat} (F : FunV K x qual st (.ref T) f fd) (lT : K.lookup T = some o) (oT : o.data = .seq its.toArray m) (n j : Nat) (hn : n + (its.length - j) = ps.length)
    (h : ∀ (kV doc pm : Value) (an : Option Addr) (cdv ct : Value) (us : List Value), us.length = n →
      ∃ k, bindArgs (PySem.W.fnOf x qual (defArgs st) (defBody st) (defScope st) (.ref T) kV doc pm an cdv ct) ⟨us, []⟩ = seqItems? (.ref T) >>= k ∧ k (some its.toArray) = pure (ps.zip (us ++ its.drop j))) : Binds K fd ps (its.drop j) := by
  obtain ⟨oc, od, kV, doc, pm, an, cdv, ct, osl, rfl, lk, hcd⟩ := F.ex
  intro s us X hlen
  have l2 : us.length = n := by
    rw [List.length_append, List.length_drop] at hlen
    omega
  obtain ⟨k, e1, e2⟩ := h kV doc pm an cdv ct us l2
  refine BindsTo.of_looks fun M => ?_
  rw [e1]
  exact looks_items X lT oT (.of_pure e2)
section
variable {P : Program} {w : World} {K : PySem.W.Frag} {mg : Str → Option Value} {base : Heap}
theorem fnG_ofV {k : Nat} {f : Addr} {x qual : Str} {st : Stmt} {dV : Value} {fd : FuncData} {N ps : List Str} {sp : Sp} (F : FunV K x qual st dV f fd) (sc : FnScope N ps (defScope st)) (cnt : ∀ vs H Q E, sp vs H Q E → vs.length = ps.length)
    (body : ∀ (cdv : Value) (A : Around) (fr : List Env) (z : Shared) (H : Hp) (vs : List V) (Q : VK) (E : XK), A.guards = some [] → Room k (A.deeper (envOfC qual (defScope st) z.heap.objs.size f cdv)) → sp vs H Q E →
      ∃ t, PSs (cxOf (L2.CX P w) P w K mg base N qual (defScope st) f cdv A fr z H E) (defBody st) t ∧ t { nx := fun _ H' => Q .non H', rt := Q } (start N vs) H) : FnG P w K mg base (k + 1) f fd ps sp := by
  obtain ⟨oc, od, kV, doc, pm, an, cdv, ct, osl, rfl, lk, hcd⟩ := F.ex
  refine ⟨cnt, fun A fr z H as us vs Q E hgd hroom ent hbind hvals hsp => ?_⟩
  have hcount := cnt _ _ _ _ hsp
  have hK : K.In z.heap := ent.mod.kin.keeps fun b o e => (ent.bs b o e).1
  have hlim : z.heap.NoLimit := ent.mod.nolimit.keeps fun b o e => (ent.bs b o e).1
  have hparams : ∀ y ∈ ps.zip us, (defScope st).names.lookup y.1 = some .local ∨ ((defScope st).names.lookup y.1 = some .cell ∧ ((cellsFrom (z.heap.objs.size + 1) (defScope st).names []).lookup y.1).isSome = true) := by
    rintro ⟨nm, val⟩ hy
    exact (sc.par nm (List.of_mem_zip hy).1).imp id fun q => ⟨q, PySem.W.cellsFrom_some _ _ _ (.inl q)⟩
  refine codeAny_call_function hroom.depth (hK _ _ lk) rfl sc.co sc.gen rfl (PySem.W.codeRec_of hK hcd) (hbind _ _ _ _ ?_)
  refine wpAny_newFunctionEnv_cells sc.kind hparams fun en hen z1 hin => ?_
  subst hen
  refine ⟨hlim.keeps hin.toInCall.keep, codeAny_func ?_⟩
  obtain ⟨t, ht, hq⟩ := body cdv A fr z H vs Q E hgd (hroom.deeper _) hsp
  have I0 := inv_start (CX := L2.CX P w) (E := E) sc hroom.hd ent hcount hvals hin
  refine wpAny_mono (ht.run [] z1 (start N vs) H _ I0 hq) (fun fl z' hs => ?_) fun e z' hs => hs
  match fl, hs with
  | .ret u, ⟨v, σ', H', J, rv, q⟩ => exact ⟨v, H', J.os, J.bare, J.base, J.hok, rv, q⟩
  | .next, ⟨σ', H', J, q⟩ => exact ⟨V.non, H', J.os, J.bare, J.base, J.hok, rfl, q⟩
  | .brk, ⟨_, _, _, q⟩ => exact False.elim q
  | .cont, ⟨_, _, _, q⟩ => exact False.elim q
theorem fn_denV {cl : Str → Option Addr} {k : Nat} {f : Addr} {x qual : Str} {st : Stmt} {dV : Value} {fd : FuncData} {N ps : List Str} {g : SS} (F : FunV K x qual st dV f fd) (sc : FnScope N ps (defScope st))
    (body : ∀ (cdv : Value) (A : Around) (fr : List Env) (z : Shared) (H : Hp) (E : XK), A.guards = some [] → Room k (A.deeper (envOfC qual (defScope st) z.heap.objs.size f cdv)) →
      PSs (cxOf (L2.CX P w) P w K mg base N qual (defScope st) f cdv A fr z H E) (defBody st) (tS K cl (fun c d _ H => E c d H) g)) : FnG P w K mg base (k + 1) f fd ps (spD K cl ps.length (callB N.length g)) := by
  refine fnG_ofV F sc (fun vs H Q E h => ?_) fun cdv A fr z H vs Q E hg hr h => ⟨_, body cdv A fr z H E hg hr, ?_⟩
  · obtain ⟨ρ, st', ds, _, r, hl, _⟩ := h
    rw [← r.length]; exact hl
  · obtain ⟨ρ, st', ds, S, r, hl, Pc⟩ := h
    have hN : ps.length ≤ N.length := by
      have e := congrArg List.length sc.pre
      rw [List.length_take] at e
      omega
    exact ⟨ρ, startE N.length ds, st', S, RE.atStart r (by rw [← r.length, hl]; exact hN), PostC.body S Pc⟩
theorem fn_byV {cl : Str → Option Addr} {k n : Nat} {f : Addr} {x qual : Str} {st : Stmt} {dV : Value} {fd : FuncData} {N ps : List Str} {fns : List (Str × FnI)} {cst : List (Str × D)} {blt : List Str} {g : SS} (F : FunV K x qual st dV f fd) (sco : FnScope N ps (defScope st))
    (hf : FnFacts P w K mg base cl k fns) (hc : CstFacts K mg cst) (hb : BltFacts mg blt) (hg : denSs n (scOf N (defScope st) fns cst blt) (defBody st) = g) : FnG P w K mg base (k + 1) f fd ps (spD K cl ps.length (callB N.length g)) := by
  subst hg
  refine fn_denV F sco fun cdv A fr z H E hgd hr => ?_
  have fit : Fit (scOf N (defScope st) fns cst blt) k cl (cxOf (L2.CX P w) P w K mg base N qual (defScope st) f cdv A fr z H E) :=
    ⟨rfl, sco.nd, rfl, rfl, rfl, hr, hgd, sco.kind, hf.look, hc.look, hb.look, (fun _ h => by cases h), (fun _ _ h => by cases h), (fun _ _ h => by cases h), (fun _ _ h => by cases h), fun _ _ h => by cases h⟩
  exact seqs_ok fun s => denS_ok (passes_of rfl) fit (takes_of rfl rfl rfl rfl) rfl rfl n s
end
/-! ### dicts whose keys are tuples: equations -/
section
variable {st : Store} {e : SEnv}
@[simp] theorem eDNewT_at : eDNewT e st = .ok (.v (.ref st.length)) (st ++ [.dict true []]) := rfl
noncomputable def KDG2 (o : RV) (l : List D) (st2 : Store) : R RV := match o with
  | .v (.ref n) => match st2[n]? with
    | some (.dict true kvs) => match keysD l, dvV kvs (.tup l) with
      | some _, some d => if l.length ≤ sLine then .ok (.v d) st2 else .bad
      | _, _ => .bad
    | _ => .bad
  | _ => .bad
noncomputable def KDG1 (fr : EA) (e : SEnv) (o : RV) (st1 : Store) : R RV := (fr e st1).bind (KDG2 o)
@[simp] theorem eDGetT_at (fo : EE) (fr : EA) : eDGetT fo fr e st = (fo e st).bind (KDG1 fr e) := rfl
@[simp] theorem KDG1_at (fr : EA) (o : RV) : KDG1 fr e o st = (fr e st).bind (KDG2 o) := rfl
theorem KDG2_ok {n : Nat} {l : List D} {kvs : List (D × D)} {ks : List Key} {d : D} (h1 : st[n]? = some (.dict true kvs)) (h2 : keysD l = some ks) (h3 : dvV kvs (.tup l) = some d) (h4 : l.length ≤ sLine) : KDG2 (.v (.ref n)) l st = .ok (.v d) st := by
  simp only [KDG2, h1, h2, h3, if_pos h4]
noncomputable def KDP4 (d : D) (e : SEnv) (o : RV) (l : List D) (st4 : Store) : SR := match o with
  | .v (.ref n) => match st4[n]? with
    | some (.dict true kvs) => match keysD l with
      | some _ => if l.length ≤ sLine ∧ kvs.length < sLine then .nx e (st4.set n (.dict true (dputD kvs (.tup l) d))) else .bad
      | none => .bad
    | _ => .bad
  | _ => .bad
noncomputable def KDP3 (fr : EA) (d : D) (e : SEnv) (o : RV) (st3 : Store) : SR := (fr e st3).toS e (KDP4 d e o)
noncomputable def KDP2 (fo : EE) (fr : EA) (e : SEnv) (d : D) (st2 : Store) : SR := (fo e st2).toS e (KDP3 fr d e)
noncomputable def KDP1 (fo : EE) (fr : EA) (e : SEnv) (a : RV) (st1 : Store) : SR := (mat a st1).toS e (KDP2 fo fr e)
@[simp] theorem sDPutT_at (fa fo : EE) (fr : EA) : sDPutT fa fo fr e st = (fa e st).toS e (KDP1 fo fr e) := rfl
@[simp] theorem KDP1_at (fo : EE) (fr : EA) (a : RV) : KDP1 fo fr e a st = (mat a st).toS e (KDP2 fo fr e) := rfl
@[simp] theorem KDP2_at (fo : EE) (fr : EA) (d : D) : KDP2 fo fr e d st = (fo e st).toS e (KDP3 fr d e) := rfl
@[simp] theorem KDP3_at (fr : EA) (d : D) (o : RV) : KDP3 fr d e o st = (fr e st).toS e (KDP4 d e o) := rfl
theorem KDP4_ok {n : Nat} {l : List D} {kvs : List (D × D)} {ks : List Key} {d : D} (h1 : st[n]? = some (.dict true kvs)) (h2 : keysD l = some ks) (h4 : l.length ≤ sLine ∧ kvs.length < sLine) : KDP4 d e (.v (.ref n)) l st = .nx e (st.set n (.dict true (dputD kvs (.tup l) d))) := by
  simp only [KDP4, h1, h2, if_pos h4]
end
open Classical in
theorem dvV_cons (p : D × D) (r : List (D × D)) (j : D) : dvV (p :: r) j = if p.1 = j then some p.2 else dvV r j := by
  unfold dvV
  rw [List.find?_cons]
  by_cases h : p.1 = j
  · rw [if_pos h, decide_eq_true h]; rfl
  · rw [if_neg h, decide_eq_false h]
open Classical in
theorem dvV_put (kvs : List (D × D)) (k v j : D) : dvV (dputD kvs k v) j = if j = k then some v else dvV kvs j := by
  have other : ¬ j = k → ∀ r : List (D × D), dvV (r.map fun p => if p.1 = k then (p.1, v) else p) j = dvV r j := by
    intro e r
    induction r with
    | nil => rfl
    | cons p r ih =>
      rw [List.map_cons, dvV_cons, dvV_cons, ih]
      by_cases q : p.1 = k
      · have : ¬ p.1 = j := fun z => e (z.symm.trans q)
        rw [if_pos q, if_neg this, if_neg this]
      · rw [if_neg q]
  have map : ∀ kvs : List (D × D), (kvs.any fun p => decide (p.1 = k)) = true → dvV (kvs.map fun p => if p.1 = k then (p.1, v) else p) j = if j = k then some v else dvV kvs j := by
    intro kvs h
    by_cases e : j = k
    · rw [if_pos e]
      induction kvs with
      | nil => cases h
      | cons p r ih =>
        rw [List.map_cons, dvV_cons]
        by_cases q : p.1 = k
        · rw [if_pos q, if_pos (q.trans e.symm)]
        · rw [if_neg q, if_neg fun z => q (z.trans e)]
          refine ih ?_
          rw [List.any_cons, decide_eq_false q, Bool.false_or] at h
          exact h
    · rw [if_neg e, other e]
  have snoc : ∀ kvs : List (D × D), ¬ (kvs.any fun p => decide (p.1 = k)) = true → dvV (kvs ++ [(k, v)]) j = if j = k then some v else dvV kvs j := by
    intro kvs h
    induction kvs with
    | nil =>
      rw [List.nil_append, dvV_cons]
      by_cases e : j = k
      · rw [if_pos e, if_pos e.symm]
      · rw [if_neg e, if_neg fun z => e z.symm]
    | cons p r ih =>
      rw [List.any_cons, Bool.or_eq_true, not_or] at h
      have q : ¬ p.1 = k := fun z => h.1 (decide_eq_true z)
      rw [List.cons_append, dvV_cons, dvV_cons, ih h.2]
      by_cases z : p.1 = j
      · have e : ¬ j = k := fun y => q (z.trans y)
        rw [if_pos z, if_neg e, if_pos z]
      · rw [if_neg z, if_neg z]
  unfold dputD
  split
  · rename_i h; exact map kvs h
  · rename_i h; exact snoc kvs h
theorem dputD_len (kvs : List (D × D)) (k v : D) : (dputD kvs k v).length ≤ kvs.length + 1 := by
  unfold dputD
  split <;> simp
end Ev

/-! ## Ev33 -/
set_option Elab.async false
set_option linter.all false
set_option maxRecDepth 100000
/-! Ev33: defs that call themselves; constants that are tuples of texts. -/
namespace Ev
open PySem PySem.Spec PyProof.Rows L2
section
variable {P : Program} {w : World} {K : PySem.W.Frag} {mg : Str → Option Value} {base : Heap}
theorem fnG_bad {cl : Str → Option Addr} {k : Nat} {f : Addr} {fd : FuncData} {ps : List Str} {n : Nat} (h : ps.length = n) : FnG P w K mg base k f fd ps (spD K cl n fun _ _ => .bad) :=
  ⟨fun _ _ _ _ ⟨_, _, _, _, _, _, Pc⟩ => Pc.elim, fun _ _ _ _ _ _ _ _ _ _ _ _ _ _ ⟨_, _, _, _, _, _, Pc⟩ => Pc.elim⟩
end
/-- a constant of the module: a tuple of texts -/
def CstT (K : PySem.W.Frag) (a : Addr) (l : List (List Nat)) : Prop :=
  ∃ (o : Obj) (its : Array Value) (n : Nat), K.lookup a = some o ∧ o.cls = .type "tuple" ∧ o.data = .seq its n ∧ its.size ≤ sizeLine ∧ Vals (l.map fun s => V.str ⟨s.toArray⟩) its.toList
theorem CstT.of {K : PySem.W.Frag} {a : Addr} {l : List (List Nat)} {o : Obj} {its : List Value} {n : Nat} (h1 : K.lookup a = some o) (h2 : o.cls = .type "tuple") (h3 : o.data = .seq its.toArray n) (h4 : Vals (l.map fun s => V.str ⟨s.toArray⟩) its) (hl : l.length ≤ 1000 := by decide) : CstT K a l := by
  refine ⟨o, its.toArray, n, h1, h2, h3, ?_, by simpa using h4⟩
  have := h4.length
  rw [List.length_map] at this
  have hs : (1000 : Nat) ≤ sizeLine := by decide
  show its.toArray.size ≤ _
  simp only [List.size_toArray]
  omega
theorem rds_strs {K : PySem.W.Frag} {ρ : List Addr} {H : Hp} : ∀ l : List (List Nat), RDs K ρ H (l.map .str) (l.map fun s => V.str ⟨s.toArray⟩)
  | [] => rfl
  | s :: l => ⟨_, _, rfl, rfl, rds_strs l⟩
theorem CstT.rd {K : PySem.W.Frag} {a : Addr} {l : List (List Nat)} (h : CstT K a l) {ρ : List Addr} {H : Hp} : RD K ρ H (.tup (l.map .str)) (.ref a) := by
  obtain ⟨o, its, n, h1, h2, h3, h4, h5⟩ := h
  exact ⟨a, _, rfl, .inr ⟨o, its, n, h1, h2, h3, h4, h5⟩, rds_strs l⟩
end Ev

/-! ## Ev34 -/
set_option Elab.async false
set_option linter.all false
set_option maxRecDepth 100000
/-! Ev34: defs that raise or catch the text's own exceptions: facts, equations. -/
namespace Ev
open PySem PySem.Spec PyProof.Rows L2
/-- where the classes stand: by their global names -/
def clM (mg : Str → Option Value) : Str → Option Addr := fun x => match mg x with
  | some (.ref C) => some C
  | _ => none
theorem clM_at {mg : Str → Option Value} {x : Str} {C : Addr} (h : mg x = some (.ref C)) : clM mg x = some C := by simp only [clM, h]
/-- a class of exceptions over ValueError, without an __init__ of its own -/
structure ExC (K : PySem.W.Frag) (mg : Str → Option Value) (x : Str) (C : Addr) : Prop where
  q : PySem.W.excIn K C [.type "ValueError", .type "Exception", .type "BaseException", .type "object"] "ValueError.__new__" = true
  m : mg x = some (.ref C)
  k : PySem.W.keepIn K (.ref C) = true
  s : PySem.W.subIn K (.ref C) (.type "BaseException") = some true
  t : PySem.W.typeIn K (.ref C) = some (.type "type")
theorem ExC.f {K : PySem.W.Frag} {mg : Str → Option Value} {x : Str} {C : Addr} (h : ExC K mg x C) (nd : (x == ("__debug__" : Str)) = false := by decide) : ExF K mg (clM mg) x :=
  ⟨⟨C, _, _, _, _, PySem.F.excBase_ValueError, h.q, h.m, h.k, h.s, h.t, clM_at h.m⟩, nd⟩
def ExFacts (K : PySem.W.Frag) (mg : Str → Option Value) (cl : Str → Option Addr) : List Str → Prop
  | [] => True
  | x :: r => ExF K mg cl x ∧ ExFacts K mg cl r
theorem ExFacts.look {K : PySem.W.Frag} {mg : Str → Option Value} {cl : Str → Option Addr} : ∀ {l : List Str}, ExFacts K mg cl l → ∀ x, x ∈ l → ExF K mg cl x
  | [], _, x, h => by cases h
  | y :: r, hf, x, h => by
    rcases List.mem_cons.mp h with rfl | h
    · exact hf.1
    · exact hf.2.look x h
/-- what a clause takes: rows of names, addresses, answers -/
def TabOk (K : PySem.W.Frag) (mg : Str → Option Value) (C : Addr) : List (Str × Bool) → Prop
  | [] => True
  | (y, b) :: r => (∃ Cy, mg y = some (.ref Cy) ∧ PySem.W.exmOne K (.ref Cy) (.ref C) = some b) ∧ TabOk K mg C r
theorem TabOk.look {K : PySem.W.Frag} {mg : Str → Option Value} {C : Addr} : ∀ {l : List (Str × Bool)}, TabOk K mg C l → ∀ y b, l.lookup y = some b → ∀ Cy, clM mg y = some Cy → PySem.W.exmOne K (.ref Cy) (.ref C) = some b
  | [], _, y, b, h, _, _ => by cases h
  | (z, d) :: r, hf, y, b, h, Cy, hc => by
    rw [List.lookup_cons] at h
    split at h
    · rename_i e
      cases h
      have e : y = z := by simpa using e
      subst e
      obtain ⟨C', h1, h2⟩ := hf.1
      rw [clM_at h1] at hc
      cases hc
      exact h2
    · exact hf.2.look y b h Cy hc
theorem trF {K : PySem.W.Frag} {mg : Str → Option Value} {x : Str} {C : Addr} {tab : List (Str × Bool)} (m : mg x = some (.ref C)) (h : TabOk K mg C tab) (nd : (x == ("__debug__" : Str)) = false := by decide) : TrF K mg (clM mg) x tab := ⟨⟨C, m, h.look⟩, nd⟩
theorem exm_mk {K : PySem.W.Frag} {Cy C : Addr} {b : Bool} (s : PySem.W.subIn K (.ref C) (.type "BaseException") = some true) (i : PySem.W.isClsIn K C = true) (t : PySem.W.typeIn K (.ref C) = some (.type "type")) (x : PySem.W.subIn K (.ref Cy) (.ref C) = some b) : PySem.W.exmOne K (.ref Cy) (.ref C) = some b := by
  have i' : (PySem.W.clsIn K C).isSome = true := i
  unfold PySem.W.exmOne PySem.W.kitCls
  rw [s, if_pos (by rfl)]
  simp only [i', t, Bool.true_and]
  rw [if_pos (by simp)]
  exact x
def TrFacts (K : PySem.W.Frag) (mg : Str → Option Value) (cl : Str → Option Addr) : List (Str × List (Str × Bool)) → Prop
  | [] => True
  | (x, t) :: r => TrF K mg cl x t ∧ TrFacts K mg cl r
theorem TrFacts.look {K : PySem.W.Frag} {mg : Str → Option Value} {cl : Str → Option Addr} : ∀ {l : List (Str × List (Str × Bool))}, TrFacts K mg cl l → ∀ x t, l.lookup x = some t → TrF K mg cl x t
  | [], _, x, t, h => by cases h
  | (y, u) :: r, hf, x, t, h => by
    rw [List.lookup_cons] at h
    split at h
    · rename_i e
      cases h
      have e : x = y := by simpa using e
      subst e
      exact hf.1
    · exact hf.2.look x t h
section
variable {P : Program} {w : World} {K : PySem.W.Frag} {mg : Str → Option Value} {base : Heap}
theorem fn_byX {cl : Str → Option Addr} {k n : Nat} {f : Addr} {x qual : Str} {st : Stmt} {fd : FuncData} {N ps : List Str} {fns : List (Str × FnI)} {cst : List (Str × D)} {blt exs : List Str} {trs : List (Str × List (Str × Bool))} {g : SS} (F : Fun K x qual st f fd) (sco : FnScope N ps (defScope st))
    (hf : FnFacts P w K mg base cl k fns) (hc : CstFacts K mg cst) (hb : BltFacts mg blt) (he : ExFacts K mg cl exs) (ht : TrFacts K mg cl trs) (hg : denSs n (scOfX N (defScope st) fns cst blt exs trs) (defBody st) = g) : FnG P w K mg base (k + 1) f fd ps (spD K cl ps.length (callB N.length g)) := by
  subst hg
  refine fn_den F sco fun cdv A fr z H E hgd hr => ?_
  have fit : Fit (scOfX N (defScope st) fns cst blt exs trs) k cl (cxOf (L2.CX P w) P w K mg base N qual (defScope st) f cdv A fr z H E) :=
    ⟨rfl, sco.nd, rfl, rfl, rfl, hr, hgd, sco.kind, hf.look, hc.look, hb.look, he.look, ht.look, (fun _ _ h => by cases h), (fun _ _ h => by cases h), fun _ _ h => by cases h⟩
  exact seqs_ok fun s => denS_ok (passes_of rfl) fit (takes_of rfl rfl rfl rfl) rfl rfl n s
end
/-! ### what isinstance and fields of a caught exception ask -/
theorem kit_own {K : PySem.W.Frag} {Cy C : Addr} {b : Bool} (i : PySem.W.isClsIn K C = true) (t : PySem.W.typeIn K (.ref C) = some (.type "type")) (x : PySem.W.subIn K (.ref Cy) (.ref C) = some b) (r : PySem.W.subIn K (.ref C) (.ref C) = some true) : PySem.W.kitOne K (.ref Cy) (.ref C) = some b := by
  have i' : (PySem.W.clsIn K C).isSome = true := i
  unfold PySem.W.kitOne
  split
  · rename_i h
    obtain rfl : Cy = C := Value.ref.inj (beq_iff_eq.mp h)
    rw [← x, r]
  · unfold PySem.W.kitCls
    simp only [i', t, Bool.true_and]
    rw [if_pos (by simp)]
    exact x
theorem kit_blt {K : PySem.W.Frag} {Cy : Addr} {T : String} {b : Bool} (m : PySem.W.kitMeta T = true) (x : PySem.W.subIn K (.ref Cy) (.type T) = some b) : PySem.W.kitOne K (.ref Cy) (.type T) = some b := by
  unfold PySem.W.kitOne
  rw [if_neg (by simp)]
  unfold PySem.W.kitCls
  simp only [m]
  exact x
def IsTab (K : PySem.W.Frag) (mg : Str → Option Value) (cv : Value) : List (Str × Bool) → Prop
  | [] => True
  | (y, b) :: r => (∃ Cy, mg y = some (.ref Cy) ∧ PySem.W.kitOne K (.ref Cy) cv = some b) ∧ IsTab K mg cv r
theorem IsTab.look {K : PySem.W.Frag} {mg : Str → Option Value} {cv : Value} : ∀ {l : List (Str × Bool)}, IsTab K mg cv l → ∀ y b, l.lookup y = some b → ∀ Cy, clM mg y = some Cy → PySem.W.kitOne K (.ref Cy) cv = some b
  | [], _, y, b, h, _, _ => by cases h
  | (z, d) :: r, hf, y, b, h, Cy, hc => by
    rw [List.lookup_cons] at h
    split at h
    · rename_i e
      cases h
      have e : y = z := by simpa using e
      subst e
      obtain ⟨C', h1, h2⟩ := hf.1
      rw [clM_at h1] at hc
      cases hc
      exact h2
    · exact hf.2.look y b h Cy hc
theorem isF_own {K : PySem.W.Frag} {mg : Str → Option Value} {c : Str} {C : Addr} {tab : List (Str × Bool)} (m : mg c = some (.ref C)) (h : IsTab K mg (.ref C) tab) (nd : (c == ("__debug__" : Str)) = false := by decide) : IsF K mg (clM mg) c tab :=
  ⟨⟨.ref C, .ref C, .inl m, rfl, fun _ r => r, h.look⟩, nd⟩
theorem isF_blt {K : PySem.W.Frag} {mg : Str → Option Value} {c : Str} {T : String} {tab : List (Str × Bool)} (m : mg c = none) (h : IsTab K mg (.type T) tab) (hv : bootBuiltins c = some (.type T) := by decide +kernel) (hn : c ≠ "__name__" := by decide) (nd : (c == ("__debug__" : Str)) = false := by decide) : IsF K mg (clM mg) c tab :=
  ⟨⟨.ty T, .type T, .inr ⟨m, hv, hn⟩, rfl, fun _ r => r, h.look⟩, nd⟩
def IsFacts (K : PySem.W.Frag) (mg : Str → Option Value) (cl : Str → Option Addr) : List (Str × List (Str × Bool)) → Prop
  | [] => True
  | (x, t) :: r => IsF K mg cl x t ∧ IsFacts K mg cl r
theorem IsFacts.look {K : PySem.W.Frag} {mg : Str → Option Value} {cl : Str → Option Addr} : ∀ {l : List (Str × List (Str × Bool))}, IsFacts K mg cl l → ∀ x t, l.lookup x = some t → IsF K mg cl x t
  | [], _, x, t, h => by cases h
  | (y, u) :: r, hf, x, t, h => by
    rw [List.lookup_cons] at h
    split at h
    · rename_i e
      cases h
      have e : x = y := by simpa using e
      subst e
      exact hf.1
    · exact hf.2.look x t h
def FlNo (K : PySem.W.Frag) (C : Addr) : List Str → Prop
  | [] => True
  | f :: r => PySem.W.findIn K (.ref C) f = some none ∧ FlNo K C r
theorem FlNo.look {K : PySem.W.Frag} {C : Addr} : ∀ {l : List Str}, FlNo K C l → ∀ f, f ∈ l → PySem.W.findIn K (.ref C) f = some none
  | [], _, f, h => by cases h
  | g :: r, hf, f, h => by
    rcases List.mem_cons.mp h with rfl | h
    · exact hf.1
    · exact hf.2.look f h
def ErFacts (K : PySem.W.Frag) (mg : Str → Option Value) : List (Str × List Str) → Prop
  | [] => True
  | (y, fl) :: r => (∃ C, mg y = some (.ref C) ∧ ErrC K C ∧ FlNo K C fl) ∧ ErFacts K mg r
theorem ErFacts.look {K : PySem.W.Frag} {mg : Str → Option Value} : ∀ {l : List (Str × List Str)}, ErFacts K mg l → ∀ y fl, l.lookup y = some fl → ErF K (clM mg) y fl
  | [], _, y, fl, h => by cases h
  | (z, gl) :: r, hf, y, fl, h => by
    rw [List.lookup_cons] at h
    split at h
    · rename_i e
      cases h
      have e : y = z := by simpa using e
      subst e
      obtain ⟨C, h1, h2, h3⟩ := hf.1
      refine ⟨fun Cy hc => ?_⟩
      rw [clM_at h1] at hc
      cases hc
      exact ⟨h2, h3.look⟩
    · exact hf.2.look y fl h
section
variable {P : Program} {w : World} {K : PySem.W.Frag} {mg : Str → Option Value} {base : Heap}
theorem fn_byI {k n : Nat} {f : Addr} {x qual : Str} {st : Stmt} {fd : FuncData} {N ps : List Str} {fns : List (Str × FnI)} {cst : List (Str × D)} {blt exs : List Str} {trs iss : List (Str × List (Str × Bool))} {ers : List (Str × List Str)} {g : SS} (F : Fun K x qual st f fd) (sco : FnScope N ps (defScope st))
    (hf : FnFacts P w K mg base (clM mg) k fns) (hc : CstFacts K mg cst) (hb : BltFacts mg blt) (he : ExFacts K mg (clM mg) exs) (ht : TrFacts K mg (clM mg) trs) (hi : IsFacts K mg (clM mg) iss) (hr : ErFacts K mg ers) (hg : denSs n (scOfI N (defScope st) fns cst blt exs trs iss ers) (defBody st) = g) : FnG P w K mg base (k + 1) f fd ps (spD K (clM mg) ps.length (callB N.length g)) := by
  subst hg
  refine fn_den F sco fun cdv A fr z H E hgd hro => ?_
  have fit : Fit (scOfI N (defScope st) fns cst blt exs trs iss ers) k (clM mg) (cxOf (L2.CX P w) P w K mg base N qual (defScope st) f cdv A fr z H E) :=
    ⟨rfl, sco.nd, rfl, rfl, rfl, hro, hgd, sco.kind, hf.look, hc.look, hb.look, he.look, ht.look, hi.look, hr.look, fun _ _ h => by cases h⟩
  exact seqs_ok fun s => denS_ok (passes_of rfl) fit (takes_of rfl rfl rfl rfl) rfl rfl n s
end
/-! ### equations -/
def SR.tryS (tab : List (Str × Bool)) (k : SS) (r : SR) : SR := match r with
  | .exc e env' st' => match tab.lookup e.cls with
    | some true => k env' st'
    | some false => .exc e env' st'
    | none => .bad
  | r => r
@[simp] theorem sTry1_at (tab : List (Str × Bool)) (f k : SS) (e : SEnv) (st : Store) : sTry1 tab f k e st = SR.tryS tab k (f e st) := by
  unfold sTry1 SR.tryS
  cases f e st <;> rfl
@[simp] theorem tryS_nx (tab : List (Str × Bool)) (k : SS) (e : SEnv) (st : Store) : SR.tryS tab k (.nx e st) = .nx e st := .trans rfl rfl
@[simp] theorem tryS_ret (tab : List (Str × Bool)) (k : SS) (a : RV) (st : Store) : SR.tryS tab k (.ret a st) = .ret a st := .trans rfl rfl
@[simp] theorem tryS_exc (tab : List (Str × Bool)) (k : SS) (x : Str) (e : SEnv) (st : Store) : SR.tryS tab k (.exc ⟨x, []⟩ e st) = match tab.lookup x with
    | some true => k e st
    | some false => .exc ⟨x, []⟩ e st
    | none => .bad := .trans rfl rfl
@[simp] theorem sRaise_at (x : Str) (e : SEnv) (st : Store) : sRaise x e st = .exc ⟨x, []⟩ e st := .trans rfl rfl
@[simp] theorem bind_exc {α β : Type} (x : Exn) (st : Store) (k : α → Store → R β) : (R.exc x st).bind k = .exc x st := .trans rfl rfl
@[simp] theorem toS_exc {α : Type} (x : Exn) (st : Store) (e : SEnv) (k : α → Store → SR) : (R.exc x st).toS e k = .exc x e st := .trans rfl rfl
def SR.tryA (tab : List (Str × Bool)) (i : Nat) (k : Exn → SS) (r : SR) : SR := match r with
  | .exc e env' st' => match tab.lookup e.cls with
    | some true => if i < env'.length then SR.unb i (k e (env'.set i none) st') else .bad
    | some false => .exc e env' st'
    | none => .bad
  | r => r
@[simp] theorem sTryAs_at (tab : List (Str × Bool)) (i : Nat) (f : SS) (k : Exn → SS) (e : SEnv) (st : Store) : sTryAs tab i f k e st = SR.tryA tab i k (f e st) := by
  unfold sTryAs SR.tryA
  cases f e st <;> rfl
@[simp] theorem tryA_nx (tab : List (Str × Bool)) (i : Nat) (k : Exn → SS) (e : SEnv) (st : Store) : SR.tryA tab i k (.nx e st) = .nx e st := .trans rfl rfl
@[simp] theorem tryA_ret (tab : List (Str × Bool)) (i : Nat) (k : Exn → SS) (a : RV) (st : Store) : SR.tryA tab i k (.ret a st) = .ret a st := .trans rfl rfl
@[simp] theorem tryA_exc (tab : List (Str × Bool)) (i : Nat) (k : Exn → SS) (x : Exn) (e : SEnv) (st : Store) : SR.tryA tab i k (.exc x e st) = match tab.lookup x.cls with
    | some true => if i < e.length then SR.unb i (k x (e.set i none) st) else .bad
    | some false => .exc x e st
    | none => .bad := .trans rfl rfl
@[simp] theorem unb_nx (i : Nat) (e : SEnv) (st : Store) : SR.unb i (.nx e st) = .nx (e.set i none) st := .trans rfl rfl
@[simp] theorem unb_ret (i : Nat) (a : RV) (st : Store) : SR.unb i (.ret a st) = .ret a st := .trans rfl rfl
/-- a def that raises -/
theorem call_exc {n : Nat} {g : SS} {ds : List D} {st more : Store} {x : Str} {e : SEnv} (h : g (startE n ds) st = .exc ⟨x, []⟩ e (st ++ more)) : callB n g ds st = .exc ⟨x, []⟩ st := by
  have hk : Keeps st (st ++ more) := fun i c hi h => .inl (by rwa [List.getElem?_append_left hi] at h)
  simp only [callB, h, SR.toR, leave]
  rw [if_pos ⟨rfl, hk⟩]
  congr 1
  simp
end Ev

/-! ## Ev35 -/
set_option Elab.async false
set_option linter.all false
set_option maxRecDepth 100000
/-! Ev35: hunks: fits, spliced, patched, valid, faulty. -/
namespace Ev
open PySem
noncomputable def d_fits : SS :=
  (sSeq (sSet 2 (e1 dNeg (eC (.int 1))))
  (sSeq (sFor (wVal (eVar 0)) (.one 3) (
    (sSeq (sIf (tOrB (eBool (e2 dLe (e2 dIx (eVar 3) (eC (.int 0))) (eVar 2))) (eBool (e2 dGt (eCall c_end_of [] (aCons (eVar 3) aNil)) (eVar 1)))) (
      (sSeq (sRet (eC (.bl false))) sNil)) sNil)
    (sSeq (sIf (tAndB (eBool (e2 dEq (e2 dIx (eVar 3) (eC (.int 1))) (eC (.int 0)))) (eBool (e2 dEq (eN (g1 dLen) (bCons (e2 dIx (eVar 3) (eC (.int 2))) bNil)) (eC (.int 0))))) (
      (sSeq (sRet (eC (.bl false))) sNil)) sNil)
    (sSeq (sSet 2 (eCall c_end_of [] (aCons (eVar 3) aNil))) sNil)))))
  (sSeq (sRet (eC (.bl true))) sNil)))
noncomputable def c_fits : List D → Store → R RV := callB 4 d_fits
noncomputable def d_check_fits : SS :=
  (sSeq (sIf (tNotB (eTru (eCall c_fits [] (aCons (eVar 0) (aCons (eVar 1) aNil))))) (
    (sSeq (sRaise "InvalidHunks") sNil)) sNil) sNil)
noncomputable def c_check_fits : List D → Store → R RV := callB 2 d_check_fits
noncomputable def d_spliced : SS :=
  (sSeq (sSet 2 (eTup aNil))
  (sSeq (sSet 3 (eC (.int 0)))
  (sSeq (sFor (wVal (eVar 1)) (.many [4, 5, 6]) (
    (sSeq (sSet 2 (e2 dAdd (e2 dAdd (eVar 2) (eSl (eVar 0) (some (eVar 3)) (some (eVar 4)))) (eN (g1 dTuple) (bCons (eVar 6) bNil))))
    (sSeq (sSet 3 (e2 dAdd (eVar 4) (eVar 5))) sNil))))
  (sSeq (sRet (e2 dAdd (eVar 2) (eSl (eVar 0) (some (eVar 3)) none))) sNil))))
noncomputable def c_spliced : List D → Store → R RV := callB 7 d_spliced
noncomputable def d_apply_hunks : SS :=
  (sSeq (sExpr (eCall c_check_fits [] (aCons (eVar 1) (aCons (eN (g1 dLen) (bCons (eVar 0) bNil)) aNil))))
  (sSeq (sRet (eCall c_spliced [] (aCons (eVar 0) (aCons (eVar 1) aNil)))) sNil))
noncomputable def c_apply_hunks : List D → Store → R RV := callB 2 d_apply_hunks
noncomputable def d_l_patched : SS :=
  (sSeq (sSet 2 (eTup aNil))
  (sSeq (sSet 3 (eC (.int 0)))
  (sSeq (sFor (wVal (eVar 1)) (.one 4) (
    (sSeq (sSet 2 (e2 dAdd (e2 dAdd (eVar 2) (eSl (eVar 0) (some (eVar 3)) (some (e2 dIx (eVar 4) (eC (.int 0)))))) (e2 dIx (eVar 4) (eC (.int 2)))))
    (sSeq (sSet 3 (e2 dAdd (e2 dIx (eVar 4) (eC (.int 0))) (e2 dIx (eVar 4) (eC (.int 1))))) sNil))))
  (sSeq (sRet (e2 dAdd (eVar 2) (eSl (eVar 0) (some (eVar 3)) none))) sNil))))
noncomputable def c_l_patched : List D → Store → R RV := callB 5 d_l_patched
noncomputable def d_l_valid : SS :=
  (sSeq (sFor (wRng1 (bCons (eN (g1 dLen) (bCons (eVar 0) bNil)) bNil)) (.one 2) (
    (sSeq (sIf (tOrB (eBool (e2 dGt (e2 dAdd (e2 dIx (e2 dIx (eVar 0) (eVar 2)) (eC (.int 0))) (e2 dIx (e2 dIx (eVar 0) (eVar 2)) (eC (.int 1)))) (eVar 1))) (tAndB (eBool (e2 dEq (e2 dIx (e2 dIx (eVar 0) (eVar 2)) (eC (.int 1))) (eC (.int 0)))) (eBool (e2 dEq (eN (g1 dLen) (bCons (e2 dIx (e2 dIx (eVar 0) (eVar 2)) (eC (.int 2))) bNil)) (eC (.int 0)))))) (
      (sSeq (sRet (eC (.bl false))) sNil)) sNil)
    (sSeq (sIf (tAndB (eBool (e2 dGt (eVar 2) (eC (.int 0)))) (eBool (e2 dLe (e2 dIx (e2 dIx (eVar 0) (eVar 2)) (eC (.int 0))) (e2 dAdd (e2 dIx (e2 dIx (eVar 0) (e2 dSub (eVar 2) (eC (.int 1)))) (eC (.int 0))) (e2 dIx (e2 dIx (eVar 0) (e2 dSub (eVar 2) (eC (.int 1)))) (eC (.int 1))))))) (
      (sSeq (sRet (eC (.bl false))) sNil)) sNil) sNil))))
  (sSeq (sRet (eC (.bl true))) sNil))
noncomputable def c_l_valid : List D → Store → R RV := callB 3 d_l_valid
noncomputable def d_l_faulty : SS :=
  (sSeq (sSet 2 (eN (g1 dList) (bCons (eVar 1) bNil)))
  (sSeq (sIf (tNotB (eTru (eVar 2))) (
    (sSeq (sRet (eTup (aCons (eTup (aCons (eC (.int 0)) (aCons (eC (.int 0)) (aCons (eTup aNil) aNil)))) aNil))) sNil)) sNil)
  (sSeq (sSet 3 (eCall c_l_draw [] (aCons (eVar 0) (aCons (eN (g1 dLen) (bCons (eVar 2) bNil)) aNil))))
  (sSeq (sSet 4 (eCall c_l_draw [] (aCons (eVar 0) (aCons (eC (.int 6)) aNil))))
  (sSeq (sIf (eBool (e2 dLt (eVar 4) (eC (.int 2)))) (
    (sSeq (sPutIx (eTup (aCons (eN (g2 dMax2) (bCons (e2 dAdd (e2 dSub (e2 dIx (e2 dIx (eVar 2) (eVar 3)) (eC (.int 0))) (eC (.int 1))) (e2 dMulS (eC (.int 2)) (eVar 4))) (bCons (eC (.int 0)) bNil))) (aCons (e2 dIx (e2 dIx (eVar 2) (eVar 3)) (eC (.int 1))) (aCons (e2 dIx (e2 dIx (eVar 2) (eVar 3)) (eC (.int 2))) aNil)))) (eVar 2) (eVar 3)) sNil)) sNil)
  (sSeq (sIf (eBool (e2 dEq (eVar 4) (eC (.int 2)))) (
    (sSeq (sPutIx (eTup (aCons (e2 dIx (e2 dIx (eVar 2) (eVar 3)) (eC (.int 0))) (aCons (e2 dAdd (e2 dIx (e2 dIx (eVar 2) (eVar 3)) (eC (.int 1))) (eC (.int 1))) (aCons (e2 dIx (e2 dIx (eVar 2) (eVar 3)) (eC (.int 2))) aNil)))) (eVar 2) (eVar 3)) sNil)) sNil)
  (sSeq (sIf (eBool (e2 dEq (eVar 4) (eC (.int 3)))) (
    (sSeq (sPutIx (eTup (aCons (e2 dIx (e2 dIx (eVar 2) (eVar 3)) (eC (.int 0))) (aCons (eC (.int 0)) (aCons (eTup aNil) aNil)))) (eVar 2) (eVar 3)) sNil)) sNil)
  (sSeq (sIf (eBool (e2 dEq (eVar 4) (eC (.int 4)))) (
    (sSeq (sSet 2 (e2 dAdd (e2 dAdd (eSl (eVar 2) none (some (eVar 3))) (eSl (eVar 2) (some (e2 dAdd (eVar 3) (eC (.int 1)))) none)) (eLst (aCons (e2 dIx (eVar 2) (eVar 3)) aNil)))) sNil)) sNil)
  (sSeq (sIf (eBool (e2 dEq (eVar 4) (eC (.int 5)))) (
    (sSeq (sSet 2 (e2 dAdd (e2 dAdd (eSl (eVar 2) none (some (eVar 3))) (eLst (aCons (e2 dIx (eVar 2) (eVar 3)) aNil))) (eSl (eVar 2) (some (eVar 3)) none))) sNil)) sNil)
  (sSeq (sRet (eN (g1 dTuple) (bCons (eVar 2) bNil))) sNil))))))))))
noncomputable def c_l_faulty : List D → Store → R RV := callB 5 d_l_faulty
/-! ### fits -/
def fitsR (n : Int) : Int → List Hk → Bool
  | _, [] => true
  | last, h :: r => !(decide (h.1 ≤ last) || decide (en h > n)) && !(decide (h.2.1 = 0) && decide ((gl h.2.2 : Int) = 0)) && fitsR n (en h) r
theorem fits_ok (l : List Hk) (n : Int) (st : Store) (hs : ∀ h ∈ l, sq h.2.2) : c_fits [.tup (l.map hk), .int n] st = .ok (.v (.bl (fitsR n (-1) l))) st := by
  refine call_pure ?_ rfl
  obtain ⟨V, hV⟩ : ∃ V, V = fitsR n (-1) l := ⟨_, rfl⟩
  rw [← hV]
  unfold d_fits
  simp
  rw [WpR_seq]
  refine wp_forL (fun ds e s => s = st ∧ ∃ la c r, e = [some (.tup (l.map hk)), some (.int n), some (.int la), c] ∧ ds = r.map hk ∧ (∃ d0, l = d0 ++ r) ∧ V = fitsR n la r) ⟨rfl, -1, none, l, rfl, rfl, ⟨[], rfl⟩, hV⟩ ?_ ?_
  · rintro d ds e s ⟨rfl, la, c, r, rfl, h1, ⟨d0, hr⟩, h2⟩
    cases r with
    | nil => cases h1
    | cons h r =>
      cases h1
      refine ⟨_, rfl, ?_⟩
      have hq := hs h (by rw [hr]; simp)
      have hr' : ∃ d0, l = d0 ++ r := ⟨d0 ++ [h], by rw [hr]; simp⟩
      simp [end_ok, sq_len hq]
      rw [fitsR] at h2
      by_cases q1 : h.1 ≤ la
      · simp [q1] at h2 ⊢
        exact h2
      · by_cases q2 : n < en h
        · simp [q1, q2] at h2 ⊢
          exact h2
        · by_cases q3 : h.2.1 = 0
          · by_cases q4 : gl h.2.2 = 0
            · simp [q1, q2, q3, q4] at h2 ⊢
              exact h2
            · simp [q1, q2, q3, q4] at h2 ⊢
              exact ⟨r, rfl, hr', h2⟩
          · simp [q1, q2, q3] at h2 ⊢
            exact ⟨r, rfl, hr', h2⟩
  · rintro e s ⟨rfl, la, c, r, rfl, h1, hr, h2⟩
    have : r = [] := by cases r with
      | nil => rfl
      | cons _ _ => cases h1
    subst this
    have h3 : V = true := h2
    simp [h3]
theorem check_ok {l : List Hk} {n : Int} (st : Store) (hs : ∀ h ∈ l, sq h.2.2) (hf : fitsR n (-1) l = true) : c_check_fits [.tup (l.map hk), .int n] st = .ok (.v .non) st := by
  refine call_pure ?_ rfl
  unfold d_check_fits
  simp [fits_ok l n _ hs, hf]
theorem check_exc {l : List Hk} {n : Int} (st : Store) (hs : ∀ h ∈ l, sq h.2.2) (hf : fitsR n (-1) l = false) : c_check_fits [.tup (l.map hk), .int n] st = .exc ⟨"InvalidHunks", []⟩ st := by
  refine call_exc (more := []) (e := [some (.tup (l.map hk)), some (.int n)]) ?_
  unfold d_check_fits
  simp [fits_ok l n _ hs, hf]
/-! ### spliced, patched -/
def tl : D → List D
  | .tup l => l
  | _ => []
def tp (d : D) : Prop := ∃ l, d = .tup l ∧ D.pures l = true ∧ l.length ≤ 1000
theorem tp.sq {d : D} (h : tp d) : sq d := by
  have hsl : sLine = 16777216 := rfl
  obtain ⟨l, rfl, h1, h2⟩ := h
  exact .inl ⟨l, rfl, h1, by omega⟩
def splL (row : List D) : Int → List Hk → List D
  | u, [] => cut row (some u) none
  | u, h :: r => cut row (some u) (some h.1) ++ (tl h.2.2 ++ splL row (en h) r)
theorem pures_app {l m : List D} : D.pures (l ++ m) = (D.pures l && D.pures m) := by
  induction l with
  | nil => rfl
  | cons d l ih => simp [D.pures, ih, Bool.and_assoc]
theorem pures_iff {l : List D} : D.pures l = true ↔ ∀ d ∈ l, D.pure d = true := by
  induction l with
  | nil => simp [D.pures]
  | cons d l ih => simp [D.pures, ih]
theorem pures_cut {l : List D} {a b : Option Int} (h : D.pures l = true) : D.pures (cut l a b) = true := by
  rw [pures_iff] at h ⊢
  exact fun d hd => h d (cut_mem hd)
theorem splL_pures {row : List D} (hp : D.pures row = true) : ∀ {l : List Hk} {u : Int}, (∀ h ∈ l, tp h.2.2) → D.pures (splL row u l) = true
  | [], u, _ => pures_cut hp
  | h :: r, u, hs => by
    obtain ⟨m, e1, e2, _⟩ := hs h (List.mem_cons_self ..)
    simp only [splL, pures_app, pures_cut hp, e1, tl, e2, Bool.true_and]
    exact splL_pures hp fun g hg => hs g (List.mem_cons_of_mem _ hg)
theorem splL_len {row : List D} (hr : row.length ≤ 1000) : ∀ {l : List Hk} {u : Int}, (∀ h ∈ l, tp h.2.2) → (splL row u l).length ≤ 1000 + 2000 * l.length
  | [], u, _ => by
    have := cut_len row (some u) none
    simp only [splL, List.length_nil]
    omega
  | h :: r, u, hs => by
    obtain ⟨m, e1, _, e2⟩ := hs h (List.mem_cons_self ..)
    have h1 := cut_len row (some u) (some h.1)
    have h2 := splL_len (u := en h) hr fun g hg => hs g (List.mem_cons_of_mem _ hg)
    simp only [splL, List.length_append, List.length_cons, e1, tl]
    omega
theorem spliced_ok (row : List D) (l : List Hk) (st : Store) (hr : row.length ≤ 1000) (hp : D.pures row = true) (hl : l.length ≤ 1000) (hs : ∀ h ∈ l, tp h.2.2) : c_spliced [.tup row, .tup (l.map hk)] st = .ok (.v (.tup (splL row 0 l))) st := by
  have hsl : sLine = 16777216 := rfl
  refine call_pure ?_ (by simpa [D.pure] using splL_pures hp hs)
  unfold d_spliced
  simp [show 0 ≤ sLine by decide]
  rw [WpR_seq]
  refine wp_forL (fun ds e s => s = st ∧ ∃ done u c4 c5 c6 r d0, e = [some (.tup row), some (.tup (l.map hk)), some (.tup done), some (.int u), c4, c5, c6] ∧ ds = r.map hk ∧ l = d0 ++ r ∧ done.length ≤ 2000 * d0.length ∧ done ++ splL row u r = splL row 0 l) ⟨rfl, [], 0, none, none, none, l, [], rfl, rfl, rfl, by simp, rfl⟩ ?_ ?_
  · rintro d ds e s ⟨rfl, done, u, c4, c5, c6, r, d0, rfl, h1, h2, h3, h4⟩
    cases r with
    | nil => cases h1
    | cons h r =>
      cases h1
      refine ⟨_, hk_put h 4 5 6 _, ?_⟩
      obtain ⟨m, e1, e2, e3⟩ := hs h (by rw [h2]; simp)
      have h5 := congrArg List.length h2
      simp only [List.length_append, List.length_cons] at h5
      have h6 := cut_len row (some u) (some h.1)
      have a1 : done.length + (cut row (some u) (some h.1)).length ≤ sLine := by omega
      have a2 : done.length + (cut row (some u) (some h.1)).length + m.length ≤ sLine := by omega
      have a3 : (done ++ (cut row (some u) (some h.1) ++ m)).length ≤ 2000 * (d0 ++ [h]).length := by simp; omega
      have a4 : done ++ (cut row (some u) (some h.1) ++ m) ++ splL row (en h) r = splL row 0 l := by
        rw [← h4]; simp [splL, e1, tl]
      have a5 : l = (d0 ++ [h]) ++ r := by rw [h2]; simp
      simp [e1, a1, a2]
      exact ⟨_, _, ⟨rfl, rfl⟩, r, rfl, d0 ++ [h], a5, a3, a4⟩
  · rintro e s ⟨rfl, done, u, c4, c5, c6, r, d0, rfl, h1, h2, h3, h4⟩
    have : r = [] := by cases r with
      | nil => rfl
      | cons _ _ => cases h1
    subst this
    have h5 := congrArg List.length h2
    simp only [List.append_nil] at h5
    have h6 := cut_len row (some u) none
    simp only [splL] at h4
    simp [h4]
    omega
theorem patched_ok (row : List D) (l : List Hk) (st : Store) (hr : row.length ≤ 1000) (hp : D.pures row = true) (hl : l.length ≤ 1000) (hs : ∀ h ∈ l, tp h.2.2) : c_l_patched [.tup row, .tup (l.map hk)] st = .ok (.v (.tup (splL row 0 l))) st := by
  have hsl : sLine = 16777216 := rfl
  refine call_pure ?_ (by simpa [D.pure] using splL_pures hp hs)
  unfold d_l_patched
  simp [show 0 ≤ sLine by decide]
  rw [WpR_seq]
  refine wp_forL (fun ds e s => s = st ∧ ∃ done u c4 r d0, e = [some (.tup row), some (.tup (l.map hk)), some (.tup done), some (.int u), c4] ∧ ds = r.map hk ∧ l = d0 ++ r ∧ done.length ≤ 2000 * d0.length ∧ done ++ splL row u r = splL row 0 l) ⟨rfl, [], 0, none, l, [], rfl, rfl, rfl, by simp, rfl⟩ ?_ ?_
  · rintro d ds e s ⟨rfl, done, u, c4, r, d0, rfl, h1, h2, h3, h4⟩
    cases r with
    | nil => cases h1
    | cons h r =>
      cases h1
      refine ⟨_, rfl, ?_⟩
      obtain ⟨m, e1, e2, e3⟩ := hs h (by rw [h2]; simp)
      have h5 := congrArg List.length h2
      simp only [List.length_append, List.length_cons] at h5
      have h6 := cut_len row (some u) (some h.1)
      have a1 : done.length + (cut row (some u) (some h.1)).length ≤ sLine := by omega
      have a2 : done.length + (cut row (some u) (some h.1)).length + m.length ≤ sLine := by omega
      have a3 : (done ++ (cut row (some u) (some h.1) ++ m)).length ≤ 2000 * (d0 ++ [h]).length := by simp; omega
      have a4 : done ++ (cut row (some u) (some h.1) ++ m) ++ splL row (en h) r = splL row 0 l := by
        rw [← h4]; simp [splL, e1, tl]
      have a5 : l = (d0 ++ [h]) ++ r := by rw [h2]; simp
      simp [e1, a1, a2]
      exact ⟨_, _, ⟨rfl, rfl⟩, r, rfl, d0 ++ [h], a5, a3, a4⟩
  · rintro e s ⟨rfl, done, u, c4, r, d0, rfl, h1, h2, h3, h4⟩
    have : r = [] := by cases r with
      | nil => rfl
      | cons _ _ => cases h1
    subst this
    have h5 := congrArg List.length h2
    simp only [List.append_nil] at h5
    have h6 := cut_len row (some u) none
    simp only [splL] at h4
    simp [h4]
    omega
theorem apH_ok {row : List D} {l : List Hk} (st : Store) (hr : row.length ≤ 1000) (hp : D.pures row = true) (hl : l.length ≤ 1000) (hs : ∀ h ∈ l, tp h.2.2) (hf : fitsR row.length (-1) l = true) : c_apply_hunks [.tup row, .tup (l.map hk)] st = .ok (.v (.tup (splL row 0 l))) st := by
  have hsl : sLine = 16777216 := rfl
  refine call_pure ?_ (by simpa [D.pure] using splL_pures hp hs)
  unfold d_apply_hunks
  have e1 := fun st => check_ok (l := l) (n := row.length) st (fun h hh => (hs h hh).sq) hf
  have e2 := fun st => spliced_ok row l st hr hp hl hs
  simp [e1, e2]
theorem apH_exc {row : List D} {l : List Hk} (st : Store) (hs : ∀ h ∈ l, tp h.2.2) (hf : fitsR row.length (-1) l = false) : c_apply_hunks [.tup row, .tup (l.map hk)] st = .exc ⟨"InvalidHunks", []⟩ st := by
  refine call_exc (more := []) (e := [some (.tup row), some (.tup (l.map hk))]) ?_
  unfold d_apply_hunks
  have e1 := fun st => check_exc (l := l) (n := row.length) st (fun h hh => (hs h hh).sq) hf
  simp [e1]
/-! ### what the law says of validity -/
def vR (n : Int) : Option Hk → List Hk → Bool
  | _, [] => true
  | p, h :: r => !(decide (en h > n) || (decide (h.2.1 = 0) && decide ((gl h.2.2 : Int) = 0))) && !(match p with
    | some q => decide (h.1 ≤ en q)
    | none => false) && vR n (some h) r
def lastB (p : Option Hk) (h : Hk) : Bool := match p with
  | some q => decide (h.1 ≤ en q)
  | none => false
theorem vR_cons (n : Int) (p : Option Hk) (h : Hk) (r : List Hk) : vR n p (h :: r) = (!(decide (en h > n) || (decide (h.2.1 = 0) && decide ((gl h.2.2 : Int) = 0))) && !(lastB p h) && vR n (some h) r) := rfl
theorem vR_fits (n : Int) : ∀ (l : List Hk) (q : Hk), vR n (some q) l = fitsR n (en q) l
  | [], _ => rfl
  | h :: r, q => by
    simp only [vR, fitsR, vR_fits n r h]
    by_cases q1 : h.1 ≤ en q <;> by_cases q2 : en h > n <;> by_cases q3 : h.2.1 = 0 <;> simp [q1, q2, q3]
theorem vR_fits0 {n : Int} {l : List Hk} (h0 : ∀ h ∈ l, 0 ≤ h.1) : vR n none l = fitsR n (-1) l := by
  cases l with
  | nil => rfl
  | cons h r =>
    have q1 : ¬ h.1 ≤ -1 := by have := h0 h (List.mem_cons_self ..); omega
    simp only [vR, fitsR, vR_fits]
    by_cases q2 : en h > n <;> by_cases q3 : h.2.1 = 0 <;> simp [q1, q2, q3]
theorem valid_ok (l : List Hk) (n : Int) (st : Store) (hl : l.length ≤ 1000) (hs : ∀ h ∈ l, sq h.2.2) : c_l_valid [.tup (l.map hk), .int n] st = .ok (.v (.bl (vR n none l))) st := by
  refine call_pure ?_ rfl
  obtain ⟨V, hV⟩ : ∃ V, V = vR n none l := ⟨_, rfl⟩
  rw [← hV]
  unfold d_l_valid
  simp [show l.length ≤ sLine by have hsl : sLine = 16777216 := rfl; omega]
  refine ⟨rOk_of (by omega) (by omega), ?_⟩
  rw [WpR_seq]
  refine wp_forL (fun ds e s => s = st ∧ ∃ (d0 r : List Hk) (c : Option D), e = [some (.tup (l.map hk)), some (.int n), c] ∧ l = d0 ++ r ∧ ds = rngL d0.length r.length ∧ V = vR n d0.getLast? r) ⟨rfl, [], l, none, rfl, rfl, by simp, hV⟩ ?_ ?_
  · rintro d ds e s ⟨rfl, d0, r, c, rfl, h1, h2, h3⟩
    cases r with
    | nil => cases h2
    | cons h r =>
      rw [List.length_cons, rngL_cons] at h2
      cases h2
      refine ⟨_, rfl, ?_⟩
      have hq := hs h (by rw [h1]; simp)
      have at0 : L2.atI (l.map hk) (d0.length : Int) = some (hk h) := by rw [atI_lit, h1]; simp
      have go : V = vR n (some h) r → ∃ d0' r', l = d0' ++ r' ∧ rngL ((d0.length : Int) + 1) r.length = rngL (d0'.length : Int) r'.length ∧ V = vR n d0'.getLast? r' :=
        fun e => ⟨d0 ++ [h], r, by rw [h1]; simp, by simp, by simpa using e⟩
      rw [vR_cons] at h3
      have gq : gl h.2.2 = 0 ↔ ((gl h.2.2 : Int) = 0) := by omega
      rcases List.eq_nil_or_concat d0 with e0 | ⟨d1, q, e0⟩
      · simp [at0, sq_len hq]
        have k0 : d0.length = 0 := by rw [e0]; rfl
        have kl : lastB d0.getLast? h = false := by rw [e0]; rfl
        rw [kl] at h3
        by_cases q1 : n < h.1 + h.2.1
        · simp [en, q1] at h3 ⊢
          exact h3
        · by_cases q2 : h.2.1 = 0
          · have q5 : ¬ n < h.1 := by omega
            by_cases q3 : gl h.2.2 = 0
            · simp [en, q1, q2, q3, q5] at h3 ⊢
              exact h3
            · simp [en, q1, q2, q3, q5] at h3 ⊢
              simpa [k0] using go h3
          · simp [en, q1, q2] at h3 ⊢
            simpa [k0] using go h3
      · have at1 : L2.atI (l.map hk) ((d0.length : Int) - 1) = some (hk q) := by
          rw [show ((d0.length : Int) - 1) = (d1.length : Int) by rw [e0]; simp, atI_lit, h1, e0]; simp
        have k0 : (0 : Int) < d0.length := by rw [e0]; simp
        have kg : d0.getLast? = some q := by rw [e0]; simp
        have kl : lastB d0.getLast? h = decide (h.1 ≤ en q) := by rw [kg]; rfl
        rw [kl] at h3
        simp only [gt_iff_lt] at h3
        have k1 : 0 < d0.length := by omega
        simp [at0, at1, sq_len hq, k1]
        by_cases q1 : n < h.1 + h.2.1
        · simp [en, q1] at h3 ⊢
          exact h3
        · by_cases q2 : h.2.1 = 0
          · have q5 : ¬ n < h.1 := by omega
            by_cases q3 : gl h.2.2 = 0
            · simp [en, q1, q2, q3, q5] at h3 ⊢
              exact h3
            · by_cases q4 : h.1 ≤ q.1 + q.2.1
              · simp [en, q1, q2, q3, q4, q5] at h3 ⊢
                exact h3
              · simp [en, q1, q2, q3, q4, q5] at h3 ⊢
                exact go h3
          · by_cases q4 : h.1 ≤ q.1 + q.2.1
            · simp [en, q1, q2, q4] at h3 ⊢
              exact h3
            · simp [en, q1, q2, q4] at h3 ⊢
              exact go h3
  · rintro e s ⟨rfl, d0, r, c, rfl, h1, h2, h3⟩
    have : r = [] := by cases r with
      | nil => rfl
      | cons _ _ => rw [List.length_cons, rngL_cons] at h2; cases h2
    subst this
    have h4 : V = true := h3
    simp [h4]
end Ev

/-! ## Ev36 -/
set_option Elab.async false
set_option linter.all false
set_option maxRecDepth 100000
/-! Ev36: a fault is put into drawn hunks. -/
namespace Ev
open PySem
/-- hunks with a fault -/
structure BadX (n : Int) (l : List HX) : Prop where
  len : l.length ≤ 7
  each : ∀ h ∈ l, 0 ≤ h.1 ∧ h.1 ≤ n + 1 ∧ 0 ≤ h.2.1 ∧ h.2.1 ≤ n + 1 ∧ h.2.2.length ≤ 3 ∧ ∀ c ∈ h.2.2, chOk c
theorem tx_at (h : HX) : tx h = .tup [.int h.1, .int h.2.1, txD h.2.2] := rfl
theorem tx_mk (a b : Int) (c : List Ch) : D.tup [.int a, .int b, txD c] = tx (a, b, c) := rfl
theorem tx_nil (a b : Int) : D.tup [.int a, .int b, .tup []] = tx (a, b, []) := rfl
@[simp] theorem tx_0 (h : HX) (st : Store) : dIx (.v (tx h)) (.v (.int 0)) st = some (.v (.int h.1)) := .trans rfl rfl
@[simp] theorem tx_1 (h : HX) (st : Store) : dIx (.v (tx h)) (.v (.int 1)) st = some (.v (.int h.2.1)) := .trans rfl rfl
@[simp] theorem tx_2 (h : HX) (st : Store) : dIx (.v (tx h)) (.v (.int 2)) st = some (.v (txD h.2.2)) := .trans rfl rfl
theorem faulty_at (T : Tp) (rest : Store) {n : Int} (hn : 0 ≤ n) {l : List HX} (G : GoodX n l) :
    ∃ (b : List HX) (T' : Tp), c_l_faulty [.ref 1, .tup (l.map tx)] (mk T rest) = .ok (.v (.tup (b.map tx))) (mk T' rest) ∧ BadX n b ∧ T'.xs = T.xs ∧ ∀ h ∈ b, ∀ c ∈ h.2.2, ∃ g ∈ l, c ∈ g.2.2 := by
  have hsl : sLine = 16777216 := rfl
  have main : Wp (c_l_faulty [.ref 1, .tup (l.map tx)] (mk T rest)) fun r w => ∃ (b : List HX) (T' : Tp), r = .v (.tup (b.map tx)) ∧ w = mk T' rest ∧ BadX n b ∧ T'.xs = T.xs ∧ ∀ h ∈ b, ∀ c ∈ h.2.2, ∃ g ∈ l, c ∈ g.2.2 := by
    refine wpc ?_
    have key : ∀ (b : List HX) (T' : Tp) (more : Store), (BadX n b ∧ ∀ h ∈ b, ∀ c ∈ h.2.2, ∃ g ∈ l, c ∈ g.2.2) → T'.xs = T.xs → Lv (mk T rest) (fun r w => ∃ (b : List HX) (T' : Tp), r = .v (.tup (b.map tx)) ∧ w = mk T' rest ∧ BadX n b ∧ T'.xs = T.xs ∧ ∀ h ∈ b, ∀ c ∈ h.2.2, ∃ g ∈ l, c ∈ g.2.2) (.v (.tup (b.map tx))) (mk T' (rest ++ more)) :=
      fun b T' more h1 h2 => Lv.out h2.symm (by simp [D.pure, tx_pures]) ⟨b, T', rfl, rfl, h1.1, h2, h1.2⟩
    generalize Lv (mk T rest) _ = Q at key ⊢
    unfold d_l_faulty
    by_cases hl : l = []
    · subst hl
      have := key [(0, 0, [])] T [.lst []] ⟨⟨by decide, by
        intro h hh
        simp at hh
        subst hh
        exact ⟨by simp, by simp; omega, by simp, by simp; omega, by simp, by simp⟩⟩, by simp⟩ rfl
      rw [List.map_cons, ← tx_nil] at this
      simp [show 1 ≤ sLine by decide, show 3 ≤ sLine by decide, show 0 ≤ sLine by decide]
      simpa using this
    · have l0 : 0 < l.length := List.length_pos_iff.mpr hl
      have l6 := G.len
      obtain ⟨k, ek⟩ := Int.eq_ofNat_of_zero_le (dr_nn T l.length)
      have hk : k < l.length := by
        have := dr_lt T l.length (by omega)
        omega
      generalize hT1 : nx T l.length = T1
      have hx1 : T1.xs = T.xs := by rw [← hT1, nx_xs]
      have c0 := dr_nn T1 6
      have c1 := dr_lt T1 6 (by decide)
      generalize hc : dr T1 6 = c at c0 c1
      generalize hT2 : nx T1 6 = T2
      have hx2 : T2.xs = T.xs := by rw [← hT2, nx_xs, hx1]
      obtain ⟨a, h, b, hs, ha⟩ : ∃ a h b, l = a ++ h :: b ∧ a.length = k :=
        ⟨l.take k, l[k], l.drop (k + 1), by rw [List.getElem_cons_drop, List.take_append_drop], by rw [List.length_take]; omega⟩
      have at0 : L2.atI (l.map tx) (k : Int) = some (tx h) := by rw [atI_lit, hs, ← ha]; simp
      have hG : ∀ g ∈ l, 0 ≤ g.1 ∧ g.1 ≤ n + 1 ∧ 0 ≤ g.2.1 ∧ g.2.1 ≤ n + 1 ∧ g.2.2.length ≤ 3 ∧ ∀ c ∈ g.2.2, chOk c := fun g hg => by
        obtain ⟨q1, q2, q3, q4, _, q6⟩ := G.each g hg
        exact ⟨q1, by omega, q2, by omega, q4, q6⟩
      have hh := hG h (by rw [hs]; simp)
      have hh2 := G.each h (by rw [hs]; simp)
      have ll : a.length + b.length + 1 ≤ 6 := by
        have := congrArg List.length hs
        simp at this; omega
      have put : ∀ g : HX, (0 ≤ g.1 ∧ g.1 ≤ n + 1 ∧ 0 ≤ g.2.1 ∧ g.2.1 ≤ n + 1 ∧ g.2.2.length ≤ 3 ∧ ∀ c ∈ g.2.2, chOk c) → (∀ c ∈ g.2.2, c ∈ h.2.2) → BadX n (a ++ g :: b) ∧ ∀ x ∈ a ++ g :: b, ∀ c ∈ x.2.2, ∃ g ∈ l, c ∈ g.2.2 := fun g hg hgs => by
        refine ⟨⟨by simp; omega, fun x hx => ?_⟩, fun x hx c hc => ?_⟩
        rotate_left
        · rcases List.mem_append.mp hx with hx | hx
          · exact ⟨x, by rw [hs]; simp [hx], hc⟩
          · rcases List.mem_cons.mp hx with rfl | hx
            · exact ⟨h, by rw [hs]; simp, hgs c hc⟩
            · exact ⟨x, by rw [hs]; simp [hx], hc⟩
        rcases List.mem_append.mp hx with hx | hx
        · exact hG x (by rw [hs]; simp [hx])
        · rcases List.mem_cons.mp hx with rfl | hx
          · exact hg
          · exact hG x (by rw [hs]; simp [hx])
      have set1 : ∀ d : D, (l.map tx).set k d = a.map tx ++ d :: b.map tx := fun d => by
        rw [hs, List.map_append, List.map_cons, List.set_append_right _ _ (by rw [List.length_map]; omega)]
        simp [ha]
      have ix1 : L2.ixN l.length (k : Int) = some k := by rw [ixN_lit, if_pos hk]
      have tk : (l.map tx).take k = a.map tx := by rw [hs, List.map_append, List.take_left' (by simp [ha])]
      have dk : (l.map tx).drop k = tx h :: b.map tx := by rw [hs, List.map_append, List.drop_left' (by simp [ha])]; rfl
      have dk1 : (l.map tx).drop (k + 1) = b.map tx := by rw [← List.drop_drop, dk]; rfl
      have hb : (l.isEmpty) = false := by cases l with
        | nil => exact absurd rfl hl
        | cons _ _ => rfl
      have sl1 := cut_to (l.map tx) k
      have sl2 := cut_from (l.map tx) (k + 1)
      have sl3 := cut_from (l.map tx) k
      rw [tk] at sl1
      rw [dk1] at sl2
      rw [dk] at sl3
      have ls : l.length < 1073741824 := by omega
      have cc : c = 0 ∨ c = 1 ∨ c = 2 ∨ c = 3 ∨ c = 4 ∨ c = 5 := by omega
      have sl2' : cut (l.map tx) (some ((k : Int) + 1)) none = b.map tx := sl2
      have dr_sl : ∀ lo hi, dSl (.v (.ref (rest.length + 2))) lo hi (mk T2 (rest ++ [.lst (l.map tx)])) = some (.t (cut (l.map tx) lo hi)) := fun lo hi => by simp [dSl]
      have a1 : a.length + b.length ≤ sLine := by omega
      have a2 : a.length + b.length + 1 ≤ sLine := by omega
      have a3 : a.length + 1 ≤ sLine := by omega
      have a4 : a.length + 1 + (b.length + 1) ≤ sLine := by omega
      rcases cc with rfl | rfl | rfl | rfl | rfl | rfl
      · have := fun m => key _ T2 m (put ((if h.1 - 1 < 0 then 0 else h.1 - 1), h.2.1, h.2.2) ⟨by simp only; split <;> omega, by simp only; split <;> omega, hh.2.2⟩ fun _ h => h) hx2
        simp only [List.map_append, List.map_cons, ← tx_mk] at this
        simp [hb, draw_at, ek, hT1, hc, hT2, at0, ix1, show 3 ≤ sLine by decide, mOk_r, set1, show (l.length : Int) < 1073741824 by omega]
        exact this _
      · have := fun m => key _ T2 m (put ((if h.1 - 1 + 2 < 0 then 0 else h.1 - 1 + 2), h.2.1, h.2.2) ⟨by simp only; split <;> omega, by simp only; split <;> omega, hh.2.2⟩ fun _ h => h) hx2
        simp only [List.map_append, List.map_cons, ← tx_mk] at this
        simp [hb, draw_at, ek, hT1, hc, hT2, at0, ix1, show 3 ≤ sLine by decide, mOk_r, set1, show (l.length : Int) < 1073741824 by omega]
        exact this _
      · have := fun m => key _ T2 m (put (h.1, h.2.1 + 1, h.2.2) ⟨hh.1, hh.2.1, by simp only; omega, by simp only; omega, hh.2.2.2.2⟩ fun _ h => h) hx2
        simp only [List.map_append, List.map_cons, ← tx_mk] at this
        simp [hb, draw_at, ek, hT1, hc, hT2, at0, ix1, show 3 ≤ sLine by decide, mOk_r, set1, show (l.length : Int) < 1073741824 by omega]
        exact this _
      · have := fun m => key _ T2 m (put (h.1, 0, []) ⟨hh.1, hh.2.1, by simp, by simp only; omega, by simp, by simp⟩ (by simp)) hx2
        simp only [List.map_append, List.map_cons, ← tx_nil] at this
        simp [hb, draw_at, ek, hT1, hc, hT2, at0, ix1, show 3 ≤ sLine by decide, mOk_r, set1, show (l.length : Int) < 1073741824 by omega, show 0 ≤ sLine by decide]
        exact this _
      · have := fun m => key (a ++ b ++ [h]) T2 m (by
          refine (fun (hm : ∀ x ∈ a ++ b ++ [h], x ∈ l) => ⟨⟨by simp; omega, fun x hx => hG x (hm x hx)⟩, fun x hx c hc => ⟨x, hm x hx, hc⟩⟩) fun x hx => ?_
          rw [hs]
          simp only [List.mem_append, List.mem_cons, List.not_mem_nil, or_false] at hx ⊢
          rcases hx with (hx | hx) | hx
          · exact .inl hx
          · exact .inr (.inr hx)
          · exact .inr (.inl hx)) hx2
        simp only [List.map_append, List.map_cons, List.map_nil] at this
        simp [hb, draw_at, ek, hT1, hc, hT2, at0, ix1, show 3 ≤ sLine by decide, mOk_r, set1, show (l.length : Int) < 1073741824 by omega, dr_sl, sl1, sl2', sl3, show 1 ≤ sLine by decide, a1, a2, a3, a4]
        simpa using this _
      · have := fun m => key (a ++ [h] ++ h :: b) T2 m (by
          refine (fun (hm : ∀ x ∈ a ++ [h] ++ h :: b, x ∈ l) => ⟨⟨by simp; omega, fun x hx => hG x (hm x hx)⟩, fun x hx c hc => ⟨x, hm x hx, hc⟩⟩) fun x hx => ?_
          rw [hs]
          simp only [List.mem_append, List.mem_cons, List.not_mem_nil, or_false] at hx ⊢
          rcases hx with (hx | hx) | hx | hx
          · exact .inl hx
          · exact .inr (.inl hx)
          · exact .inr (.inl hx)
          · exact .inr (.inr hx)) hx2
        simp only [List.map_append, List.map_cons, List.map_nil] at this
        simp [hb, draw_at, ek, hT1, hc, hT2, at0, ix1, show 3 ≤ sLine by decide, mOk_r, set1, show (l.length : Int) < 1073741824 by omega, dr_sl, sl1, sl2', sl3, show 1 ≤ sLine by decide, a1, a2, a3, a4]
        simpa using this _
  obtain ⟨a, w, e, x, T', rfl, rfl, h⟩ := main.out
  exact ⟨x, T', e, h⟩
end Ev

/-! ## Ev37 -/
set_option Elab.async false
set_option linter.all false
set_option maxRecDepth 100000
/-! Ev37: hunks as plain data. -/
namespace Ev
open PySem
theorem cut_map {α β : Type} (f : α → β) (l : List α) (a b : Option Int) : cut (l.map f) a b = (cut l a b).map f := by
  unfold cut
  simp [List.map_take, List.map_drop]
/-- hunks are put into a row -/
def spl {α : Type} (row : List α) : Int → List (Int × Int × List α) → List α
  | u, [] => cut row (some u) none
  | u, h :: r => cut row (some u) (some h.1) ++ (h.2.2 ++ spl row (h.1 + h.2.1) r)
def hf {α : Type} (f : α → D) (h : Int × Int × List α) : Hk := (h.1, h.2.1, .tup (h.2.2.map f))
theorem splL_map {α : Type} (f : α → D) (row : List α) : ∀ (l : List (Int × Int × List α)) (u : Int), splL (row.map f) u (l.map (hf f)) = (spl row u l).map f
  | [], u => by simp [splL, spl, cut_map]
  | h :: r, u => by
    have ih := splL_map f row r (h.1 + h.2.1)
    simp only [List.map_cons, splL, spl, List.map_append, cut_map]
    have e : en (hf f h) = h.1 + h.2.1 := rfl
    rw [e, ih]
    rfl
theorem hx_hf : hx = hf chD := rfl
theorem spl_mem {α : Type} {row : List α} {x : α} : ∀ {l : List (Int × Int × List α)} {u : Int}, x ∈ spl row u l → x ∈ row ∨ ∃ h ∈ l, x ∈ h.2.2
  | [], u, h => .inl (cut_mem h)
  | g :: r, u, h => by
    simp only [spl, List.mem_append] at h
    rcases h with h | h | h
    · exact .inl (cut_mem h)
    · exact .inr ⟨g, List.mem_cons_self .., h⟩
    · rcases spl_mem h with h | ⟨k, hk, h⟩
      · exact .inl h
      · exact .inr ⟨k, List.mem_cons_of_mem _ hk, h⟩
theorem spl_len {α : Type} {row : List α} : ∀ {l : List (Int × Int × List α)} {u : Int} {m : Nat}, (∀ h ∈ l, h.2.2.length ≤ m) → (spl row u l).length ≤ row.length + (row.length + m) * l.length
  | [], u, m, _ => by
    have := cut_len row (some u) none
    simpa [spl] using this
  | g :: r, u, m, h => by
    have h1 := cut_len row (some u) (some g.1)
    have h2 := h g (List.mem_cons_self ..)
    have h3 := spl_len (row := row) (l := r) (u := g.1 + g.2.1) fun k hk => h k (List.mem_cons_of_mem _ hk)
    simp only [spl, List.length_append, List.length_cons, Nat.mul_add, Nat.mul_one]
    omega
theorem fitsR_congr {n : Int} {α : Type} {f g : α → Hk} : ∀ {l : List α} {u : Int}, (∀ h ∈ l, (f h).1 = (g h).1 ∧ (f h).2.1 = (g h).2.1 ∧ gl (f h).2.2 = gl (g h).2.2) → fitsR n u (l.map f) = fitsR n u (l.map g)
  | [], _, _ => rfl
  | h :: r, u, hh => by
    obtain ⟨h1, h2, h3⟩ := hh h (List.mem_cons_self ..)
    have ih := fun v => fitsR_congr (n := n) (u := v) fun k hk => hh k (List.mem_cons_of_mem _ hk)
    have he : en (f h) = en (g h) := by unfold en; rw [h1, h2]
    simp only [List.map_cons, fitsR]
    rw [he, h1, h2, h3, ih]
theorem hx_tp {h : HX} (hl : h.2.2.length ≤ 1000) : tp (hx h).2.2 := ⟨_, rfl, chs_pure _, by simpa using hl⟩
/-- a text with hunks put in, shown -/
theorem repr_spl {body : List Ch} {l : List HX} {st : Store} {u : Int} (hb : body.length ≤ 500) (hc : ∀ c ∈ body, chOk c) (hl : l.length ≤ 7) (hh : ∀ h ∈ l, h.2.2.length ≤ 100 ∧ ∀ c ∈ h.2.2, chOk c) :
    dRepr (.v (.tup (splL (body.map chD) u (l.map hx)))) st = some (.v (.str (rpr (txD (spl body u l))))) := by
  rw [hx_hf, splL_map]
  refine repr_text (fun c h => ?_) ?_
  · rcases spl_mem h with h | ⟨k, hk, h⟩
    · exact hc c h
    · exact (hh k hk).2 c h
  · have := spl_len (row := body) (u := u) (m := 100) fun k hk => (hh k hk).1
    have : (body.length + 100) * l.length ≤ 600 * 7 := Nat.mul_le_mul (by omega) hl
    omega
end Ev

/-! ## Ev38 -/
set_option Elab.async false
set_option linter.all false
set_option maxRecDepth 100000
/-! Ev38: a row in pieces: what is kept, what is taken out, what is put in. -/
namespace Ev
open PySem
abbrev Sg (α : Type) := List α × List α × List α
section
variable {α : Type}
def posL : Int → List (Sg α) → List (Int × Int × List α)
  | _, [] => []
  | o, (p, d, s) :: r => (o + p.length, d.length, s) :: posL (o + p.length + d.length) r
def oldL : List (Sg α) → List α → List α
  | [], t => t
  | (p, d, _) :: r, t => p ++ (d ++ oldL r t)
def newL : List (Sg α) → List α → List α
  | [], t => t
  | (p, _, s) :: r, t => p ++ (s ++ newL r t)
def swS (s : Sg α) : Sg α := (s.1, s.2.2, s.2.1)
/-- the pieces are such as hunks that fit have -/
structure OkS (l : List (Sg α)) : Prop where
  ne : ∀ s ∈ l, s.2.1 ≠ [] ∨ s.2.2 ≠ []
  gap : ∀ s ∈ l.tail, s.1 ≠ []
theorem oldL_app : ∀ (a b : List (Sg α)) (t : List α), oldL (a ++ b) t = oldL a (oldL b t)
  | [], _, _ => rfl
  | (p, d, s) :: a, b, t => by simp [oldL, oldL_app a b t]
theorem newL_app : ∀ (a b : List (Sg α)) (t : List α), newL (a ++ b) t = newL a (newL b t)
  | [], _, _ => rfl
  | (p, d, s) :: a, b, t => by simp [newL, newL_app a b t]
theorem oldL_end : ∀ (a : List (Sg α)) (t : List α), oldL a t = oldL a [] ++ t
  | [], _ => rfl
  | (p, d, s) :: a, t => by simp [oldL, oldL_end a t]
theorem newL_end : ∀ (a : List (Sg α)) (t : List α), newL a t = newL a [] ++ t
  | [], _ => rfl
  | (p, d, s) :: a, t => by simp [newL, newL_end a t]
theorem swS_swS (l : List (Sg α)) : (l.map swS).map swS = l := by
  rw [List.map_map]
  exact List.map_id'' (fun s => rfl) l
theorem newL_sw : ∀ (a : List (Sg α)) (t : List α), newL (a.map swS) t = oldL a t
  | [], _ => rfl
  | (p, d, s) :: a, t => by simp [newL, oldL, swS, newL_sw a t]
theorem oldL_sw : ∀ (a : List (Sg α)) (t : List α), oldL (a.map swS) t = newL a t
  | [], _ => rfl
  | (p, d, s) :: a, t => by simp [newL, oldL, swS, oldL_sw a t]
theorem OkS.sw {l : List (Sg α)} (h : OkS l) : OkS (l.map swS) := by
  refine ⟨fun s hs => ?_, fun s hs => ?_⟩
  · obtain ⟨t, ht, rfl⟩ := List.mem_map.mp hs
    exact (h.ne t ht).symm
  · rw [← List.map_tail] at hs
    obtain ⟨t, ht, rfl⟩ := List.mem_map.mp hs
    exact h.gap t ht
theorem posL_app : ∀ (a b : List (Sg α)) (o : Int), posL o (a ++ b) = posL o a ++ posL (o + (oldL a []).length) b
  | [], _, _ => by simp [posL, oldL]
  | (p, d, s) :: a, b, o => by
    simp only [List.cons_append, posL, posL_app a b, oldL, List.length_append]
    congr 3
    omega
theorem posL_len : ∀ (a : List (Sg α)) (o : Int), (posL o a).length = a.length
  | [], _ => rfl
  | (p, d, s) :: a, o => by simp [posL, posL_len a]
theorem posL_mem : ∀ {a : List (Sg α)} {o : Int} {g : Int × Int × List α}, g ∈ posL o a → o ≤ g.1 ∧ 0 ≤ g.2.1 ∧ g.1 + g.2.1 ≤ o + (oldL a []).length ∧ ∃ s ∈ a, g.2.2 = s.2.2
  | (p, d, s) :: a, o, g, h => by
    simp only [posL, List.mem_cons] at h
    simp only [oldL, List.length_append]
    rcases h with rfl | h
    · exact ⟨by simp only; omega, by simp only; omega, by simp only; omega, _, List.mem_cons_self .., rfl⟩
    · obtain ⟨h1, h2, h3, t, h4, h5⟩ := posL_mem h
      exact ⟨by omega, h2, by omega, t, List.mem_cons_of_mem _ h4, h5⟩
/-! ### splicing -/
theorem cut_pre (q p r : List α) (i j : Int) (hi : i = q.length) (hj : j = i + p.length) : cut (q ++ (p ++ r)) (some i) (some j) = p := by
  subst hi
  have : j = ((q.length + p.length : Nat) : Int) := by omega
  rw [this, cut_nat]
  simp
theorem cut_post (q r : List α) (i : Int) (hi : i = q.length) : cut (q ++ r) (some i) none = r := by
  subst hi
  rw [cut_from]
  simp
theorem spl_pos : ∀ (a : List (Sg α)) (q t : List α) (o : Int), o = q.length → spl (q ++ oldL a t) o (posL o a) = newL a t
  | [], q, t, o, h => by
    simp only [oldL, posL, spl, newL]
    exact cut_post q t o h
  | (p, d, s) :: a, q, t, o, h => by
    have ih := spl_pos a (q ++ (p ++ d)) t (o + p.length + d.length) (by simp; omega)
    simp only [posL, spl, oldL, newL]
    rw [cut_pre q p _ o _ h rfl]
    simp only [List.append_assoc] at ih
    rw [ih]
/-! ### fitting -/
theorem fits_pos (f : α → D) (n : Int) : ∀ (a : List (Sg α)) (o last : Int), (∀ s ∈ a, s.2.1 ≠ [] ∨ s.2.2 ≠ []) → (∀ s ∈ a.tail, s.1 ≠ []) → (∀ s, a.head? = some s → last < o + s.1.length) → o + (oldL a []).length ≤ n → fitsR n last ((posL o a).map (hf f)) = true
  | [], _, _, _, _, _, _ => rfl
  | (p, d, s) :: a, o, last, h1, h2, h3, h4 => by
    simp only [oldL, List.length_append] at h4
    have k1 := h3 _ rfl
    simp only at k1
    have ih := fits_pos f n a (o + p.length + d.length) (o + p.length + d.length) (fun t ht => h1 t (List.mem_cons_of_mem _ ht)) (fun t ht => h2 t (List.mem_of_mem_tail ht)) (fun t ht => by
      have := h2 t (by cases a with
        | nil => cases ht
        | cons x a => cases ht; exact List.mem_cons_self ..)
      have := List.length_pos_iff.mpr this
      omega) (by omega)
    have e : en (hf f (o + p.length, d.length, s)) = o + p.length + d.length := rfl
    simp only [posL, List.map_cons, fitsR, e, ih]
    have k2 := h1 _ (List.mem_cons_self ..)
    simp only at k2
    have k3 : ¬ o + (p.length : Int) ≤ last := by omega
    have k4 : ¬ o + (p.length : Int) + d.length > n := by omega
    have k5 : ¬ ((d.length : Int) = 0 ∧ (s.length : Int) = 0) := by
      rcases k2 with k | k
      · have := List.length_pos_iff.mpr k; omega
      · have := List.length_pos_iff.mpr k; omega
    simp only [hf, gl, List.length_map, k3, k4, decide_false, Bool.or_false, Bool.not_false, Bool.true_and, Bool.and_true]
    by_cases k6 : (d.length : Int) = 0
    · have k7 : ¬ (s.length : Int) = 0 := fun k => k5 ⟨k6, k⟩
      simp only [k6, k7, decide_true, decide_false, Bool.and_false, Bool.not_false]
    · simp only [k6, decide_false, Bool.false_and, Bool.not_false]
theorem OkS.fits {a : List (Sg α)} (h : OkS a) (f : α → D) (t : List α) : fitsR (oldL a t).length (-1) ((posL 0 a).map (hf f)) = true :=
  fits_pos f _ a 0 (-1) h.ne h.gap (fun s _ => by omega) (by rw [oldL_end a t, List.length_append]; omega)
/-- hunks that fit have such pieces -/
theorem dec1 (f : α → D) {n : Int} : ∀ (l : List (Int × Int × List α)) (o : Int) (row : List α), n = o + row.length → fitsR n o (l.map (hf f)) = true → (∀ h ∈ l, 0 ≤ h.2.1) →
    ∃ (a : List (Sg α)) (t : List α), row = oldL a t ∧ l = posL o a ∧ (∀ s ∈ a, s.2.1 ≠ [] ∨ s.2.2 ≠ []) ∧ ∀ s ∈ a, s.1 ≠ []
  | [], o, row, _, _, _ => ⟨[], row, rfl, rfl, by simp, by simp⟩
  | h :: r, o, row, hn, hfit, h0 => by
    have e : en (hf f h) = h.1 + h.2.1 := rfl
    have k0 := h0 h (List.mem_cons_self ..)
    simp only [List.map_cons, fitsR, e, Bool.and_eq_true, Bool.not_eq_true', Bool.or_eq_false_iff, decide_eq_false_iff_not, Bool.and_eq_false_iff] at hfit
    obtain ⟨⟨⟨k1, k2⟩, k3⟩, k4⟩ := hfit
    have k1 : ¬ h.1 ≤ o := k1
    have k2 : ¬ h.1 + h.2.1 > n := k2
    obtain ⟨k, hk⟩ := Int.eq_ofNat_of_zero_le (show 0 ≤ h.1 - o by omega)
    obtain ⟨m, hm⟩ := Int.eq_ofNat_of_zero_le k0
    have hkm : k + m ≤ row.length := by omega
    obtain ⟨a, t, q1, q2, q3, q4⟩ := dec1 f r (h.1 + h.2.1) (row.drop (k + m)) (by rw [List.length_drop]; omega) k4 fun g hg => h0 g (List.mem_cons_of_mem _ hg)
    refine ⟨(row.take k, (row.drop k).take m, h.2.2) :: a, t, ?_, ?_, ?_, ?_⟩
    · simp only [oldL, ← q1]
      rw [← List.drop_drop, List.take_append_drop, List.take_append_drop]
    · have l1 : (row.take k).length = k := by rw [List.length_take]; omega
      have l2 : ((row.drop k).take m).length = m := by rw [List.length_take, List.length_drop]; omega
      simp only [posL, l1, l2]
      rw [show o + (k : Int) = h.1 by omega, ← hm, ← q2]
    · intro s hs
      rcases List.mem_cons.mp hs with rfl | hs
      · simp only [hf, gl, List.length_map] at k3
        rcases k3 with k3 | k3
        · refine .inl fun z => k3 ?_
          have := congrArg List.length z
          rw [List.length_take, List.length_drop] at this
          simp at this
          show h.2.1 = 0
          omega
        · refine .inr fun z => k3 ?_
          have : h.2.2 = [] := z
          rw [this]; rfl
      · exact q3 s hs
    · intro s hs
      rcases List.mem_cons.mp hs with rfl | hs
      · intro z
        have := congrArg List.length z
        rw [List.length_take, List.length_nil] at this
        omega
      · exact q4 s hs
theorem dec (f : α → D) (l : List (Int × Int × List α)) (row : List α) (hfit : fitsR row.length (-1) (l.map (hf f)) = true) (h0 : ∀ h ∈ l, 0 ≤ h.2.1) :
    ∃ (a : List (Sg α)) (t : List α), row = oldL a t ∧ l = posL 0 a ∧ OkS a := by
  cases l with
  | nil => exact ⟨[], row, rfl, rfl, ⟨by simp, by simp⟩⟩
  | cons h r =>
    have e : en (hf f h) = h.1 + h.2.1 := rfl
    have k0 := h0 h (List.mem_cons_self ..)
    simp only [List.map_cons, fitsR, e, Bool.and_eq_true, Bool.not_eq_true', Bool.or_eq_false_iff, decide_eq_false_iff_not, Bool.and_eq_false_iff] at hfit
    obtain ⟨⟨⟨k1, k2⟩, k3⟩, k4⟩ := hfit
    have k1 : ¬ h.1 ≤ -1 := k1
    have k2 : ¬ h.1 + h.2.1 > (row.length : Int) := k2
    obtain ⟨k, hk⟩ := Int.eq_ofNat_of_zero_le (show 0 ≤ h.1 by omega)
    obtain ⟨m, hm⟩ := Int.eq_ofNat_of_zero_le k0
    have hkm : k + m ≤ row.length := by omega
    obtain ⟨a, t, q1, q2, q3, q4⟩ := dec1 f r (h.1 + h.2.1) (row.drop (k + m)) (by rw [List.length_drop]; omega) k4 fun g hg => h0 g (List.mem_cons_of_mem _ hg)
    refine ⟨(row.take k, (row.drop k).take m, h.2.2) :: a, t, ?_, ?_, ?_, ?_⟩
    · simp only [oldL, ← q1]
      rw [← List.drop_drop, List.take_append_drop, List.take_append_drop]
    · have l1 : (row.take k).length = k := by rw [List.length_take]; omega
      have l2 : ((row.drop k).take m).length = m := by rw [List.length_take, List.length_drop]; omega
      simp only [posL, l1, l2]
      rw [show (0 : Int) + (k : Int) = h.1 by omega, ← hm, ← q2]
    · intro s hs
      rcases List.mem_cons.mp hs with rfl | hs
      · simp only [hf, gl, List.length_map] at k3
        rcases k3 with k3 | k3
        · refine .inl fun z => k3 ?_
          have := congrArg List.length z
          rw [List.length_take, List.length_drop] at this
          simp at this
          show h.2.1 = 0
          omega
        · refine .inr fun z => k3 ?_
          have : h.2.2 = [] := z
          rw [this]; rfl
      · exact q3 s hs
    · exact q4
/-! ### shifts -/
theorem shI_none {x : Int} : ∀ {l : List Hk}, (∀ g ∈ l, ¬ en g < x) → shI x l = 0
  | [], _ => rfl
  | g :: l, h => by
    rw [shI_cons, if_neg (h g (List.mem_cons_self ..)), shI_none fun k hk => h k (List.mem_cons_of_mem _ hk)]
    rfl
theorem shI_all {x : Int} (f : α → D) : ∀ {a : List (Sg α)} {o : Int}, (∀ g ∈ posL o a, g.1 + g.2.1 < x) → shI x ((posL o a).map (hf f)) = ((newL a []).length : Int) - (oldL a []).length
  | [], _, _ => rfl
  | (p, d, s) :: a, o, h => by
    simp only [posL] at h
    have e : en (hf f (o + p.length, d.length, s)) = o + p.length + d.length := rfl
    simp only [posL, List.map_cons]
    rw [shI_cons, e, if_pos (h _ (List.mem_cons_self ..)), shI_all f fun g hg => h g (List.mem_cons_of_mem _ hg)]
    simp only [dlt, hf, gl, List.length_map, newL, oldL, List.length_append]
    omega
theorem shI_pos (f : α → D) {a b : List (Sg α)} {s : Sg α} (h : OkS (a ++ s :: b)) : shI ((oldL a []).length + s.1.length : Int) ((posL 0 (a ++ s :: b)).map (hf f)) = ((newL a []).length : Int) - (oldL a []).length := by
  rw [posL_app, List.map_append, shI_app, shI_all f, shI_none]
  · omega
  · intro g' hg'
    obtain ⟨g, hg, rfl⟩ := List.mem_map.mp hg'
    have e : en (hf f g) = g.1 + g.2.1 := rfl
    rw [e]
    obtain ⟨p, d, i⟩ := s
    simp only [posL, List.mem_cons] at hg
    simp only
    rcases hg with rfl | hg
    · simp only; omega
    · have := posL_mem hg
      omega
  · intro g hg
    have h1 := posL_mem hg
    cases a with
    | nil => cases hg
    | cons x a =>
      have := h.gap s (by simp)
      have := List.length_pos_iff.mpr this
      omega
end
/-! ### the program's splicing by pieces -/
theorem pos_tp {a : List (Sg Ch)} (hs : ∀ s ∈ a, s.2.2.length ≤ 1000) (o : Int) : ∀ h ∈ (posL o a).map hx, tp h.2.2 := by
  intro h' hh
  obtain ⟨h, hm, rfl⟩ := List.mem_map.mp hh
  obtain ⟨_, _, _, s, h1, h2⟩ := posL_mem hm
  exact hx_tp (by rw [h2]; exact hs s h1)
theorem app_ok {a : List (Sg Ch)} {t : List Ch} (st : Store) (h : OkS a) (hr : (oldL a t).length ≤ 1000) (ha : a.length ≤ 1000) (hs : ∀ s ∈ a, s.2.2.length ≤ 1000) :
    c_apply_hunks [txD (oldL a t), .tup ((posL 0 a).map tx)] st = .ok (.v (txD (newL a t))) st := by
  have e := apH_ok (row := (oldL a t).map chD) (l := (posL 0 a).map hx) st (by simpa using hr) (chs_pure _) (by simpa [posL_len] using ha) (pos_tp hs 0) (by rw [hx_hf]; simpa using h.fits chD t)
  rw [hx_hf, splL_map] at e
  have e2 := spl_pos a [] t 0 rfl
  simp only [List.nil_append] at e2
  rw [e2] at e
  rw [tx_hk]
  exact e
theorem pat_ok {a : List (Sg Ch)} {t : List Ch} (st : Store) (hr : (oldL a t).length ≤ 1000) (ha : a.length ≤ 1000) (hs : ∀ s ∈ a, s.2.2.length ≤ 1000) :
    c_l_patched [txD (oldL a t), .tup ((posL 0 a).map tx)] st = .ok (.v (txD (newL a t))) st := by
  have e := patched_ok ((oldL a t).map chD) ((posL 0 a).map hx) st (by simpa using hr) (chs_pure _) (by simpa [posL_len] using ha) (pos_tp hs 0)
  rw [hx_hf, splL_map] at e
  have e2 := spl_pos a [] t 0 rfl
  simp only [List.nil_append] at e2
  rw [e2] at e
  rw [tx_hk]
  exact e
/-- where the rest of the hunks go when what is ahead of them is put in -/
def rbL : Int → List (Sg Ch) → List HX
  | _, [] => []
  | o, (p, d, s) :: r => (o + p.length, d.length, s) :: rbL (o + p.length + s.length) r
theorem reb_self {a : List (Sg Ch)} (h : OkS a) : rebI ((posL 0 a).map hx) ((posL 0 a).map hx) = (rbL 0 a).map hx := by
  have main : ∀ (b c : List (Sg Ch)), a = c ++ b → ((posL (oldL c []).length b).map hx).map (fun g => (g.1 + shI g.1 ((posL 0 a).map hx), g.2)) = (rbL (newL c []).length b).map hx := by
    intro b
    induction b with
    | nil => intro c _; rfl
    | cons s b ih =>
      intro c hc
      obtain ⟨p, d, i⟩ := s
      have e1 := shI_pos chD (a := c) (b := b) (s := (p, d, i)) (by rw [← hc]; exact h)
      rw [← hc, ← hx_hf] at e1
      have ih := ih (c ++ [(p, d, i)]) (by rw [hc]; simp)
      rw [oldL_app, newL_app, oldL_end, newL_end] at ih
      simp only [oldL, newL, List.append_nil, List.length_append] at ih
      simp only [posL, rbL, List.map_cons]
      simp only at e1
      rw [show (oldL c []).length + p.length + d.length = (((oldL c []).length + (p.length + d.length) : Nat) : Int) by omega, ih, show ((newL c []).length : Int) + p.length + i.length = (((newL c []).length + (p.length + i.length) : Nat) : Int) by omega]
      congr 1
      simp only [hx, e1]
      congr 1
      omega
  exact main a [] rfl
end Ev

/-! ## Ev39 -/
set_option Elab.async false
set_option linter.all false
set_option maxRecDepth 100000
/-! Ev39: composing hunks, plainly. -/
namespace Ev
open PySem
section
variable {α β γ : Type}
def mapH (f : α → β) (h : Int × Int × List α) : Int × Int × List β := (h.1, h.2.1, h.2.2.map f)
theorem mapH_mapH {δ : Type} (f : α → β) (g : β → δ) (l : List (Int × Int × List α)) : (l.map (mapH f)).map (mapH g) = l.map (mapH fun x => g (f x)) := by
  rw [List.map_map]
  refine List.map_congr_left fun h _ => ?_
  simp [mapH]
theorem mapH_id (l : List (Int × Int × List α)) : l.map (mapH fun x => x) = l := by
  refine (List.map_congr_left fun h _ => ?_).trans (List.map_id l)
  simp [mapH]
theorem spl_nat (f : α → β) (row : List α) : ∀ (l : List (Int × Int × List α)) (u : Int), (spl row u l).map f = spl (row.map f) u (l.map (mapH f))
  | [], u => by simp [spl, cut_map]
  | h :: r, u => by
    have ih := spl_nat f row r (h.1 + h.2.1)
    simp only [List.map_cons, spl, List.map_append, ih, cut_map, mapH]
/-- marks: places of the first row, and what was put in -/
def base (n : Nat) : List (Nat ⊕ γ) := (List.range n).map .inl
def lefts : List (Nat ⊕ γ) → List Nat
  | [] => []
  | .inl k :: r => k :: lefts r
  | .inr _ :: r => lefts r
theorem lefts_app : ∀ (a b : List (Nat ⊕ γ)), lefts (a ++ b) = lefts a ++ lefts b
  | [], _ => rfl
  | .inl k :: a, b => by simp [lefts, lefts_app a b]
  | .inr k :: a, b => by simp [lefts, lefts_app a b]
theorem lefts_inr : ∀ (a : List γ), lefts (a.map (Sum.inr : γ → Nat ⊕ γ)) = []
  | [] => rfl
  | c :: a => by simp [lefts, lefts_inr a]
theorem lefts_base (n : Nat) : lefts (base n : List (Nat ⊕ γ)) = List.range n := by
  have : ∀ l : List Nat, lefts (l.map (Sum.inl : Nat → Nat ⊕ γ)) = l := by
    intro l
    induction l with
    | nil => rfl
    | cons k l ih => simp [lefts, ih]
  exact this _
theorem lefts_new : ∀ {a : List (Sg (Nat ⊕ γ))} {t : List (Nat ⊕ γ)}, (∀ s ∈ a, lefts s.2.2 = []) → (lefts (newL a t)).Sublist (lefts (oldL a t))
  | [], _, _ => List.Sublist.refl _
  | (p, d, s) :: a, t, h => by
    have ih := lefts_new (a := a) (t := t) fun x hx => h x (List.mem_cons_of_mem _ hx)
    have h1 := h _ (List.mem_cons_self ..)
    simp only at h1
    simp only [newL, oldL, lefts_app, h1, List.nil_append]
    exact (List.Sublist.refl _).append (ih.trans (List.sublist_append_right _ _))
theorem posL_of : ∀ {a : List (Sg α)} {o : Int} {s : Sg α}, s ∈ a → ∃ g ∈ posL o a, g.2.2 = s.2.2
  | (p, d, i) :: a, o, s, h => by
    rcases List.mem_cons.mp h with rfl | h
    · exact ⟨_, List.mem_cons_self .., rfl⟩
    · obtain ⟨g, hg, e⟩ := posL_of (o := o + p.length + d.length) h
      exact ⟨g, List.mem_cons_of_mem _ hg, e⟩
theorem lefts_spl (f : Nat ⊕ γ → D) {M : List (Nat ⊕ γ)} {l : List (Int × Int × List γ)} (hf' : fitsR M.length (-1) ((l.map (mapH .inr)).map (hf f)) = true) (h0 : ∀ h ∈ l, 0 ≤ h.2.1) : (lefts (spl M 0 (l.map (mapH .inr)))).Sublist (lefts M) := by
  obtain ⟨a, t, e1, e2, _⟩ := dec f (l.map (mapH .inr)) M hf' (by
    intro h hh
    obtain ⟨g, hg, rfl⟩ := List.mem_map.mp hh
    exact h0 g hg)
  have e3 := spl_pos a [] t 0 rfl
  simp only [List.nil_append] at e3
  rw [e2, e1, e3]
  refine lefts_new fun s hs => ?_
  obtain ⟨g, hg, e⟩ := posL_of (o := 0) hs
  rw [← e2] at hg
  obtain ⟨h, _, rfl⟩ := List.mem_map.mp hg
  rw [← e]
  exact lefts_inr _
/-- the hunks that a row of marks tells -/
def cmpT : Nat → List γ → List (Nat ⊕ γ) → List (Int × Int × List γ)
  | _, _, [] => []
  | nx, ins, .inr c :: r => cmpT nx (ins ++ [c]) r
  | nx, ins, .inl k :: r => (if nx < k ∨ ins ≠ [] then [((nx : Int), (k : Int) - nx, ins)] else []) ++ cmpT (k + 1) [] r
def cmpL (size : Nat) (R : List (Nat ⊕ γ)) : List (Int × Int × List γ) := cmpT 0 [] (R ++ [.inl size])
structure Up (size nx : Nat) (R : List (Nat ⊕ γ)) : Prop where
  asc : (lefts R).Pairwise (· < ·)
  rng : ∀ k ∈ lefts R, nx ≤ k ∧ k < size
  le : nx ≤ size
theorem cmpT_len : ∀ (R : List (Nat ⊕ γ)) (nx : Nat) (ins : List γ), (cmpT nx ins R).length ≤ (lefts R).length
  | [], _, _ => Nat.le_refl _
  | .inr c :: r, nx, ins => cmpT_len r nx _
  | .inl k :: r, nx, ins => by
    have := cmpT_len r (k + 1) []
    simp only [cmpT, lefts, List.length_append, List.length_cons]
    split
    · simp; omega
    · simp; omega
theorem cmpT_mem : ∀ {R : List (Nat ⊕ γ)} {nx : Nat} {ins : List γ} {g : Int × Int × List γ}, g ∈ cmpT nx ins R → (∀ c ∈ g.2.2, c ∈ ins ∨ .inr c ∈ R) ∧ g.2.2.length ≤ ins.length + R.length
  | .inr c :: r, nx, ins, g, h => by
    obtain ⟨h1, h2⟩ := cmpT_mem (R := r) (nx := nx) (ins := ins ++ [c]) h
    simp only [List.length_append, List.length_cons, List.length_nil] at h2 ⊢
    refine ⟨fun x hx => ?_, by omega⟩
    rcases h1 x hx with h3 | h3
    · rcases List.mem_append.mp h3 with h3 | h3
      · exact .inl h3
      · simp at h3
        subst h3
        exact .inr (List.mem_cons_self ..)
    · exact .inr (List.mem_cons_of_mem _ h3)
  | .inl k :: r, nx, ins, g, h => by
    simp only [cmpT, List.mem_append] at h
    rcases h with h | h
    · split at h
      · simp at h
        subst h
        exact ⟨fun x hx => .inl hx, by simp only [List.length_cons]; omega⟩
      · simp at h
    · obtain ⟨h1, h2⟩ := cmpT_mem h
      refine ⟨fun x hx => ?_, by simp only [List.length_cons, List.length_nil] at h2 ⊢; omega⟩
      rcases h1 x hx with h3 | h3
      · simp at h3
      · exact .inr (List.mem_cons_of_mem _ h3)
section
variable [Inhabited β] (oth : List β) (g : γ → β)
def subF : Nat ⊕ γ → β := Sum.elim (fun k => oth.getD k default) g
theorem base_sub : (base oth.length : List (Nat ⊕ γ)).map (subF oth g) = oth := by
  unfold base
  rw [List.map_map]
  refine List.ext_getElem (by simp) fun i h1 h2 => ?_
  simp [subF, List.getD_eq_getElem?_getD, List.getElem?_eq_getElem h2]
theorem dropT (k : Nat) (h : k < oth.length) : oth.drop k = oth.getD k default :: oth.drop (k + 1) := by
  rw [List.getD_eq_getElem?_getD, List.getElem?_eq_getElem h]
  exact (List.getElem_cons_drop h).symm
/-- THE LAW OF COMPOSING, by pieces -/
theorem cmp_pieces : ∀ (R : List (Nat ⊕ γ)) (nx : Nat) (p : List β) (ins : List γ) (o : Int), Up oth.length nx R → o + p.length = nx →
    ∃ (a : List (Sg β)) (t : List β), posL o a = (cmpT nx ins (R ++ [.inl oth.length])).map (mapH g) ∧ oldL a t = p ++ oth.drop nx ∧ newL a t = p ++ (ins.map g ++ R.map (subF oth g)) ∧ (∀ s ∈ a, s.2.1 ≠ [] ∨ s.2.2 ≠ []) ∧ (∀ s ∈ a.tail, s.1 ≠ []) ∧ (p ≠ [] → ∀ s ∈ a, s.1 ≠ [])
  | [], nx, p, ins, o, U, ho => by
    have hle := U.le
    by_cases c : nx < oth.length ∨ ins ≠ []
    · refine ⟨[(p, oth.drop nx, ins.map g)], [], ?_, by simp [oldL], by simp [newL], ?_, by simp, ?_⟩
      · simp only [List.nil_append, cmpT, if_pos c, List.append_nil, List.map_cons, List.map_nil, posL, mapH, List.length_drop]
        rw [ho, show ((oth.length - nx : Nat) : Int) = (oth.length : Int) - nx by omega]
      · intro s hs
        simp at hs
        subst hs
        rcases c with c | c
        · refine .inl fun z => ?_
          have := congrArg List.length z
          simp at this
          omega
        · refine .inr fun z => c ?_
          simpa using z
      · intro hp s hs
        simp at hs
        subst hs
        exact hp
    · refine ⟨[], p, ?_, ?_, ?_, by simp, by simp, by simp⟩
      · simp [cmpT, c, posL]
      · have : oth.drop nx = [] := List.drop_eq_nil_of_le (by omega)
        simp [oldL, this]
      · have : ins = [] := by
          by_cases z : ins = []
          · exact z
          · exact absurd (.inr z) c
        simp [newL, this]
  | .inr x :: R, nx, p, ins, o, U, ho => by
    obtain ⟨a, t, h1, h2, h3, h4⟩ := cmp_pieces R nx p (ins ++ [x]) o ⟨U.asc, U.rng, U.le⟩ ho
    refine ⟨a, t, h1, h2, ?_, h4⟩
    rw [h3]
    simp [subF]
  | .inl k :: R, nx, p, ins, o, U, ho => by
    have hk := U.rng k (List.mem_cons_self ..)
    have ha : (k :: lefts R).Pairwise (· < ·) := U.asc
    rw [List.pairwise_cons] at ha
    have U' : Up oth.length (k + 1) R := ⟨ha.2, fun j hj => ⟨ha.1 j hj, (U.rng j (List.mem_cons_of_mem _ hj)).2⟩, hk.2⟩
    by_cases c : nx < k ∨ ins ≠ []
    · obtain ⟨a, t, h1, h2, h3, h4, h5, h6⟩ := cmp_pieces R (k + 1) [oth.getD k default] [] (o + p.length + (k - nx : Nat)) U' (by simp; omega)
      have e1 : oth.drop nx = (oth.drop nx).take (k - nx) ++ oth.drop k := by
        have := (List.take_append_drop (k - nx) (oth.drop nx)).symm
        rwa [List.drop_drop, show nx + (k - nx) = k by omega] at this
      have l1 : ((oth.drop nx).take (k - nx)).length = k - nx := by rw [List.length_take, List.length_drop]; omega
      refine ⟨(p, (oth.drop nx).take (k - nx), ins.map g) :: a, t, ?_, ?_, ?_, ?_, ?_, ?_⟩
      · simp only [List.cons_append, cmpT, if_pos c, List.singleton_append, List.map_cons, posL, l1, h1, mapH]
        rw [ho, show ((k - nx : Nat) : Int) = (k : Int) - nx by omega]
        rfl
      · simp only [oldL, h2]
        rw [List.singleton_append, ← dropT oth k hk.2, ← e1]
      · simp only [newL, h3]
        simp [subF]
      · intro s hs
        rcases List.mem_cons.mp hs with rfl | hs
        · rcases c with c | c
          · refine .inl fun z => ?_
            have := congrArg List.length z
            rw [l1] at this
            simp at this
            omega
          · refine .inr fun z => c ?_
            simpa using z
        · exact h4 s hs
      · exact h6 (by simp)
      · intro hp s hs
        rcases List.mem_cons.mp hs with rfl | hs
        · exact hp
        · exact h6 (by simp) s hs
    · have hn : nx = k := by omega
      have hi : ins = [] := by
        by_cases z : ins = []
        · exact z
        · exact absurd (.inr z) c
      subst hn
      subst hi
      obtain ⟨a, t, h1, h2, h3, h4, h5, h6⟩ := cmp_pieces R (nx + 1) (p ++ [oth.getD nx default]) [] o U' (by simp; omega)
      refine ⟨a, t, ?_, ?_, ?_, h4, h5, fun _ => h6 (by simp)⟩
      · simp only [List.cons_append, cmpT, if_neg c, List.nil_append, h1]
      · rw [h2, dropT oth nx hk.2]
        simp
      · rw [h3]
        simp [subF]
/-- the told hunks do what the marks say -/
theorem cmp_law (f : β → D) {R : List (Nat ⊕ γ)} (U : Up oth.length 0 R) : fitsR oth.length (-1) (((cmpL oth.length R).map (mapH g)).map (hf f)) = true ∧ spl oth 0 ((cmpL oth.length R).map (mapH g)) = R.map (subF oth g) ∧ ∀ h ∈ cmpL oth.length R, 0 ≤ h.1 ∧ 0 ≤ h.2.1 ∧ h.1 + h.2.1 ≤ oth.length := by
  obtain ⟨a, t, h1, h2, h3, h4, h5, _⟩ := cmp_pieces oth g R 0 [] [] 0 U rfl
  simp only [List.nil_append, List.drop_zero, List.map_nil] at h2 h3
  have O : OkS a := ⟨h4, h5⟩
  unfold cmpL
  rw [← h1]
  refine ⟨?_, ?_, fun h hh => ?_⟩
  · have := O.fits f t
    rwa [h2] at this
  · have := spl_pos a [] t 0 rfl
    simp only [List.nil_append, h2, h3] at this
    exact this
  · have hm : mapH g h ∈ posL 0 a := by rw [h1]; exact List.mem_map_of_mem hh
    obtain ⟨q1, q2, q3, _⟩ := posL_mem hm
    have q4 := congrArg List.length (oldL_end a t)
    rw [h2, List.length_append] at q4
    simp only [mapH] at q1 q2 q3
    exact ⟨q1, q2, by omega⟩
end
theorem Up.base (n : Nat) : Up n 0 (base n : List (Nat ⊕ γ)) := by
  refine ⟨?_, fun k hk => ?_, Nat.zero_le _⟩
  · rw [lefts_base]; exact List.pairwise_lt_range
  · rw [lefts_base] at hk
    exact ⟨Nat.zero_le _, by simpa using hk⟩
theorem Up.sub {n nx : Nat} {R S : List (Nat ⊕ γ)} (U : Up n nx R) (h : (lefts S).Sublist (lefts R)) : Up n nx S :=
  ⟨U.asc.sublist h, fun k hk => U.rng k (h.subset hk), U.le⟩
theorem Up.len {n nx : Nat} {R : List (Nat ⊕ γ)} (U : Up n nx R) : (lefts R).length ≤ n := by
  have h1 := U.asc
  have h2 := U.rng
  generalize lefts R = l at h1 h2
  have key : ∀ (l : List Nat) (m : Nat), l.Pairwise (· < ·) → (∀ k ∈ l, m ≤ k ∧ k < n) → l.length ≤ n - m := by
    intro l
    induction l with
    | nil => intro m _ _; simp
    | cons k l ih =>
      intro m h1 h2
      rw [List.pairwise_cons] at h1
      have := h2 k (List.mem_cons_self ..)
      have := ih (k + 1) h1.2 fun j hj => ⟨h1.1 j hj, (h2 j (List.mem_cons_of_mem _ hj)).2⟩
      simp only [List.length_cons]
      omega
  have := key l nx h1 h2
  omega
end
end Ev

/-! ## Ev40 -/
set_option Elab.async false
set_option linter.all false
set_option maxRecDepth 100000
/-! Ev40: defs that look into written dicts. -/
namespace Ev
open PySem PySem.Spec PyProof.Rows L2
/-- a tuple of whole numbers of the module -/
theorem vals_intsK {ns : List Int} {its : List Value} (h : Vals (ns.map V.int) its) {K : PySem.W.Frag} {a : Addr} {o : Obj} {n : Nat} (h1 : K.lookup a = some o) (h2 : o.cls = .type "tuple") (h3 : o.data = .seq its.toArray n) (hl : ns.length ≤ 1000 := by decide) :
    ∀ ρ H, RD K ρ H (.tup (ns.map .int)) (.ref a) := by
  intro ρ H
  have := h.length
  rw [List.length_map] at this
  have hs : (1000 : Nat) ≤ sizeLine := by decide
  have rd : ∀ ns : List Int, RDs K ρ H (ns.map .int) (ns.map V.int) := by
    intro ns
    induction ns with
    | nil => rfl
    | cons n ns ih => exact ⟨_, _, rfl, rfl, ih⟩
  refine ⟨a, _, rfl, .inr ⟨o, its.toArray, n, h1, h2, h3, ?_, by simpa using h⟩, rd ns⟩
  simp only [List.size_toArray]
  omega
def TabOkD (K : PySem.W.Frag) (a : Addr) : Tab → Prop
  | [] => True
  | (s, some d) :: r => (∃ (u : Value) (v : V), PySem.W.nsIn K a ⟨s.toArray⟩ = some (some u) ∧ RelV v u ∧ ∀ ρ H, RD K ρ H d v) ∧ TabOkD K a r
  | (s, none) :: r => PySem.W.nsIn K a ⟨s.toArray⟩ = some none ∧ TabOkD K a r
theorem TabOkD.look {K : PySem.W.Frag} {a : Addr} : ∀ {t : Tab}, TabOkD K a t → ∀ s o, t.lookup s = some o → match o with
    | some d => ∃ (u : Value) (v : V), PySem.W.nsIn K a ⟨s.toArray⟩ = some (some u) ∧ RelV v u ∧ ∀ ρ H, RD K ρ H d v
    | none => PySem.W.nsIn K a ⟨s.toArray⟩ = some none
  | [], _, s, o, h => by cases h
  | (z, q) :: r, hf, s, o, h => by
    rw [List.lookup_cons] at h
    split at h
    · rename_i e
      have e : s = z := by simpa using e
      subst e
      cases h
      cases q with
      | some d => exact hf.1
      | none => exact hf.1
    · cases q with
      | some d => exact TabOkD.look hf.2 s o h
      | none => exact TabOkD.look hf.2 s o h
theorem dct_mk {K : PySem.W.Frag} {w : World} {mg : Str → Option Value} {x : Str} {a : Addr} {ks : List Str} {tab : Tab} (m : mg x = some (.ref a)) (h : He.dicW K a = some (He.keysIn w.params ks)) (t : TabOkD K a tab) (nd : (x == ("__debug__" : Str)) = false := by decide) : DctF K w mg x tab := by
  obtain ⟨es, n, k⟩ := He.dicW_ok h
  exact ⟨⟨a, es, n, m, k, t.look⟩, nd⟩
def DctFacts (K : PySem.W.Frag) (w : World) (mg : Str → Option Value) : List (Str × Tab) → Prop
  | [] => True
  | (x, t) :: r => DctF K w mg x t ∧ DctFacts K w mg r
theorem DctFacts.look {K : PySem.W.Frag} {w : World} {mg : Str → Option Value} : ∀ {l : List (Str × Tab)}, DctFacts K w mg l → ∀ x t, l.lookup x = some t → DctF K w mg x t
  | [], _, x, t, h => by cases h
  | (y, u) :: r, hf, x, t, h => by
    rw [List.lookup_cons] at h
    split at h
    · rename_i e
      cases h
      have e : x = y := by simpa using e
      subst e
      exact hf.1
    · exact hf.2.look x t h
section
variable {P : Program} {w : World} {K : PySem.W.Frag} {mg : Str → Option Value} {base : Heap}
theorem fn_byD {cl : Str → Option Addr} {k n : Nat} {f : Addr} {x qual : Str} {st : Stmt} {fd : FuncData} {N ps : List Str} {fns : List (Str × FnI)} {cst : List (Str × D)} {blt : List Str} {dct : List (Str × Tab)} {g : SS} (F : Fun K x qual st f fd) (sco : FnScope N ps (defScope st))
    (hf : FnFacts P w K mg base cl k fns) (hc : CstFacts K mg cst) (hb : BltFacts mg blt) (hd : DctFacts K w mg dct) (hg : denSs n (scOfD N (defScope st) fns cst blt dct) (defBody st) = g) : FnG P w K mg base (k + 1) f fd ps (spD K cl ps.length (callB N.length g)) := by
  subst hg
  refine fn_den F sco fun cdv A fr z H E hgd hro => ?_
  have fit : Fit (scOfD N (defScope st) fns cst blt dct) k cl (cxOf (L2.CX P w) P w K mg base N qual (defScope st) f cdv A fr z H E) :=
    ⟨rfl, sco.nd, rfl, rfl, rfl, hro, hgd, sco.kind, hf.look, hc.look, hb.look, (fun _ h => by cases h), (fun _ _ h => by cases h), (fun _ _ h => by cases h), (fun _ _ h => by cases h), hd.look⟩
  exact seqs_ok fun s => denS_ok (passes_of rfl) fit (takes_of rfl rfl rfl rfl) rfl rfl n s
end
end Ev

/-! ## Ev41 -/
set_option Elab.async false
set_option linter.all false
set_option maxRecDepth 100000
/-! Ev41: expressions: subexpressions, literals, references. -/
namespace Ev
open PySem
def tab_PLACES : Tab := [([99, 111, 110, 99, 97, 116], some (.tup [(.int 1), (.int 2)])), ([115, 108, 105, 99, 101], some (.tup [(.int 1)])), ([102, 105, 110, 100], some (.tup [(.int 1), (.int 2)])), ([97, 102, 116, 101, 114], some (.tup [(.int 1), (.int 2)])), ([98, 101, 102, 111, 114, 101], some (.tup [(.int 1), (.int 2)])), ([114, 101, 112, 108, 97, 99, 101, 32, 97, 108, 108], some (.tup [(.int 1), (.int 2), (.int 3)])), ([105, 102], some (.tup [(.int 1), (.int 2), (.int 3)])), ([100, 121, 110, 97, 109, 105, 99, 32, 102, 105, 108, 101], some (.tup [(.int 1)])), ([99, 111, 105, 110], some (.tup [(.int 2), (.int 3)])), ([108, 105, 116, 101, 114, 97, 108], none), ([102, 105, 108, 101], none), ([111, 112, 116, 105, 111, 110, 97, 108, 32, 102, 105, 108, 101], none), ([116, 97, 114, 103, 101, 116], none), ([99, 111, 110, 99, 97, 116, 32, 102, 105, 108, 101, 115], none)]
noncomputable def d_part_places : SS :=
  (sSeq (sRet (e2 (dCGet tab_PLACES) (e2 dIx (eVar 0) (eC (.int 0))) (eTup aNil))) sNil)
noncomputable def c_part_places : List D → Store → R RV := callB 1 d_part_places
noncomputable def d_subexpressions (c : List D → Store → R RV) : SS :=
  (sSeq (sSet 1 (eLst (aCons (eVar 0) aNil)))
  (sSeq (sFor (wVal (eCall c_part_places [] (aCons (eVar 0) aNil))) (.one 2) (
    (sSeq (sExpr (eExtend (eVar 1) (eCall c [] (aCons (e2 dIx (eVar 0) (eVar 2)) aNil)))) sNil)))
  (sSeq (sRet (eVar 1)) sNil)))
noncomputable def c_subexpressions : Nat → List D → Store → R RV
  | 0 => fun _ _ => .bad
  | n + 1 => callB 3 (d_subexpressions (c_subexpressions n))
noncomputable def d_literal_values : SS :=
  (sSeq (sRet (eComp (wVal (eCall (c_subexpressions 8) [] (aCons (eVar 0) aNil))) (.one 1) (eBool (e2 dEq (e2 dIx (eVar 1) (eC (.int 0))) (eC (.str [108, 105, 116, 101, 114, 97, 108])))) [1] (e2 dIx (eVar 1) (eC (.int 1))))) sNil)
noncomputable def c_literal_values : List D → Store → R RV := callB 2 d_literal_values
noncomputable def d_literals_of : SS :=
  (sSeq (sSet 1 (eTup aNil))
  (sSeq (sFor (wVal (eCall c_literal_values [] (aCons (eVar 0) aNil))) (.one 2) (
    (sSeq (sSet 1 (e2 dAdd (eVar 1) (eVar 2))) sNil)))
  (sSeq (sRet (eVar 1)) sNil)))
noncomputable def c_literals_of : List D → Store → R RV := callB 3 d_literals_of
noncomputable def d_references_of : SS :=
  (sSeq (sSet 1 (eLst aNil))
  (sSeq (sSet 2 (eLst aNil))
  (sSeq (sFor (wVal (eCall (c_subexpressions 8) [] (aCons (eVar 0) aNil))) (.one 3) (
    (sSeq (sIf (tAndB (eBool (e2 dEq (e2 dIx (eVar 3) (eC (.int 0))) (eC (.str [116, 97, 114, 103, 101, 116])))) (eBool (e2 dNotIn (e2 dIx (eVar 3) (eC (.int 1))) (eVar 1)))) (
      (sSeq (sExpr (eMtL gAppend (eVar 1) (aCons (e2 dIx (eVar 3) (eC (.int 1))) aNil))) sNil)) sNil)
    (sSeq (sIf (tAndB (eBool (e2 dEq (e2 dIx (eVar 3) (eC (.int 0))) (eC (.str [99, 111, 105, 110])))) (eBool (e2 dNotIn (e2 dIx (eVar 3) (eC (.int 1))) (eVar 2)))) (
      (sSeq (sExpr (eMtL gAppend (eVar 2) (aCons (e2 dIx (eVar 3) (eC (.int 1))) aNil))) sNil)) sNil) sNil))))
  (sSeq (sRet (eTup (aCons (eN (g1 dTuple) (bCons (eVar 1) bNil)) (aCons (eN (g1 dTuple) (bCons (eN (g1 dSorted) (bCons (eVar 2) bNil)) bNil)) aNil)))) sNil))))
noncomputable def c_references_of : List D → Store → R RV := callB 4 d_references_of
noncomputable def d_l_name : SS :=
  (sSeq (sSet 2 (eC (.str [97, 98, 99, 100, 101, 102, 103, 104, 105, 106, 107, 108, 109, 110, 111, 112, 113, 114, 115, 116, 117, 118, 119, 120, 121, 122, 48, 49, 50, 51, 52, 53, 54, 55, 56, 57, 45, 46, 47])))
  (sSeq (sSet 3 (e2 dAdd (eVar 1) (e2 dIx (eVar 2) (eCall c_l_draw [] (aCons (eVar 0) (aCons (eC (.int 39)) aNil))))))
  (sSeq (sFor (wRng1 (bCons (e2 dIx (eLst (aCons (eC (.int 0)) (aCons (eC (.int 0)) (aCons (eC (.int 1)) (aCons (eC (.int 2)) aNil))))) (eCall c_l_draw [] (aCons (eVar 0) (aCons (eC (.int 4)) aNil)))) bNil)) (.one 4) (
    (sSeq (sSet 3 (e2 dAdd (eVar 3) (e2 dIx (eVar 2) (eCall c_l_draw [] (aCons (eVar 0) (aCons (eC (.int 39)) aNil)))))) sNil)))
  (sSeq (sRet (eVar 3)) sNil))))
noncomputable def c_l_name : List D → Store → R RV := callB 5 d_l_name
noncomputable def d_l_xnames : SS :=
  (sSeq (sSet 2 (e2 dIx (eLst (aCons (eC (.str [])) (aCons (eC (.str [])) (aCons (eC (.str [100, 111, 99, 115, 47, 114, 101, 108, 101, 97, 115, 101, 47])) aNil)))) (eCall c_l_draw [] (aCons (eVar 0) (aCons (eC (.int 3)) aNil)))))
  (sSeq (sSet 3 (eLst (aCons (eCall c_l_name [] (aCons (eVar 0) (aCons (eVar 2) aNil))) aNil)))
  (sSeq (sFor (wRng1 (bCons (eCall c_l_draw [] (aCons (eVar 0) (aCons (eVar 1) aNil))) bNil)) (.one 4) (
    (sSeq (sSet 5 (eCall c_l_name [] (aCons (eVar 0) (aCons (eVar 2) aNil))))
    (sSeq (sIf (eBool (e2 dEq (eCall c_l_draw [] (aCons (eVar 0) (aCons (eC (.int 4)) aNil))) (eC (.int 0)))) (
      (sSeq (sSet 5 (eSl (e2 dAdd (e2 dIx (eVar 3) (eC (.int 0))) (e2 dIx (eVar 5) (e1 dNeg (eC (.int 1))))) none (some (eC (.int 16))))) sNil)) sNil)
    (sSeq (sIf (eBool (e2 dNotIn (eVar 5) (eVar 3))) (
      (sSeq (sExpr (eMtL gAppend (eVar 3) (aCons (eVar 5) aNil))) sNil)) sNil) sNil)))))
  (sSeq (sRet (eVar 3)) sNil))))
noncomputable def c_l_xnames : List D → Store → R RV := callB 6 d_l_xnames
noncomputable def d_l_literal : SS :=
  (sSeq (sSet 1 (eCall c_l_draw [] (aCons (eVar 0) (aCons (eC (.int 14)) aNil))))
  (sSeq (sIf (eBool (e2 dLt (eVar 1) (eC (.int 2)))) (
    (sSeq (sRet (e2 dIx (eLst (aCons (e2 dMulS (eC (.str [120, 121])) (eC (.int 30))) (aCons (e2 dAdd (eC (.str [122])) (e2 dMulS (eC (.str [120, 121])) (eC (.int 30)))) aNil))) (eVar 1))) sNil)) sNil)
  (sSeq (sRet (eCall c_l_string [] (aCons (eVar 0) (aCons (e2 dIx (eLst (aCons (eC (.int 0)) (aCons (eC (.int 0)) (aCons (eC (.int 0)) (aCons (eC (.int 1)) (aCons (eC (.int 1)) (aCons (eC (.int 2)) (aCons (eC (.int 3)) aNil)))))))) (e2 dMod (eN (g1 dInt) (bCons (eVar 1) bNil)) (eC (.int 7)))) aNil)))) sNil)))
noncomputable def c_l_literal : List D → Store → R RV := callB 2 d_l_literal
noncomputable def d_l_leaf : SS :=
  (sSeq (sSet 2 (eCall c_l_draw [] (aCons (eVar 0) (aCons (eC (.int 9)) aNil))))
  (sSeq (sSet 3 (e2 dIx (eVar 1) (eCall c_l_draw [] (aCons (eVar 0) (aCons (eN (g1 dLen) (bCons (eVar 1) bNil)) aNil)))))
  (sSeq (sIf (eBool (e2 dLt (eVar 2) (eC (.int 4)))) (
    (sSeq (sRet (eTup (aCons (eC (.str [108, 105, 116, 101, 114, 97, 108])) (aCons (eCall c_l_literal [] (aCons (eVar 0) aNil)) aNil)))) sNil)) sNil)
  (sSeq (sIf (eBool (e2 dEq (eVar 2) (eC (.int 4)))) (
    (sSeq (sRet (eTup (aCons (eC (.str [99, 111, 110, 99, 97, 116, 32, 102, 105, 108, 101, 115])) (aCons (eSl (eVar 3) none (some (eCall c_l_draw [] (aCons (eVar 0) (aCons (e2 dAdd (eN (g1 dLen) (bCons (eVar 3) bNil)) (eC (.int 1))) aNil))))) aNil)))) sNil)) sNil)
  (sSeq (sRet (eTup (aCons (e2 dIx (eLst (aCons (eC (.str [102, 105, 108, 101])) (aCons (eC (.str [111, 112, 116, 105, 111, 110, 97, 108, 32, 102, 105, 108, 101])) (aCons (eC (.str [116, 97, 114, 103, 101, 116])) (aCons (eC (.str [116, 97, 114, 103, 101, 116])) aNil))))) (e2 dSub (eVar 2) (eC (.int 5)))) (aCons (eVar 3) aNil)))) sNil)))))
noncomputable def c_l_leaf : List D → Store → R RV := callB 4 d_l_leaf
noncomputable def d_l_expression (c : List D → Store → R RV) : SS :=
  (sSeq (sSet 4 (eCall c_l_draw [] (aCons (eVar 0) (aCons (eC (.int 18)) aNil))))
  (sSeq (sIf (tOrB (eBool (e2 dLt (eVar 2) (eC (.int 2)))) (eBool (e2 dGt (eVar 4) (eC (.int 12))))) (
    (sSeq (sRet (eCall c_l_leaf [] (aCons (eVar 0) (aCons (eVar 1) aNil)))) sNil)) sNil)
  (sSeq (sSet 5 (eCall c [] (aCons (eVar 0) (aCons (eVar 1) (aCons (e2 dSub (eVar 2) (eC (.int 1))) (aCons (eVar 3) aNil))))))
  (sSeq (sIf (eBool (e2 dLt (eVar 4) (eC (.int 3)))) (
    (sSeq (sSet 6 (e2 dIx (eLst (aCons (eC (.int 0)) (aCons (eC (.int 0)) (aCons (eC (.int 1)) (aCons (eC (.int 2)) (aCons (eC (.int 3)) (aCons (eC (.int 120)) aNil))))))) (eCall c_l_draw [] (aCons (eVar 0) (aCons (eC (.int 6)) aNil)))))
    (sSeq (sRet (eTup (aCons (eC (.str [115, 108, 105, 99, 101])) (aCons (eVar 5) (aCons (eVar 6) (aCons (e2 dIx (eLst (aCons (eC (.int 0)) (aCons (eC (.int 1)) (aCons (eC (.int 2)) (aCons (eC (.int 4)) (aCons (eC (.int 119)) (aCons (e2 dPow (eC (.int 10)) (eC (.int 9))) aNil))))))) (eCall c_l_draw [] (aCons (eVar 0) (aCons (eC (.int 6)) aNil)))) aNil)))))) sNil))) sNil)
  (sSeq (sIf (eBool (e2 dEq (eVar 4) (eC (.int 3)))) (
    (sSeq (sRet (eTup (aCons (eC (.str [100, 121, 110, 97, 109, 105, 99, 32, 102, 105, 108, 101])) (aCons (eVar 5) aNil)))) sNil)) sNil)
  (sSeq (sSet 7 (eCall c [] (aCons (eVar 0) (aCons (eVar 1) (aCons (e2 dSub (eVar 2) (eC (.int 1))) (aCons (eVar 3) aNil))))))
  (sSeq (sIf (eBool (e2 dLt (eVar 4) (eC (.int 7)))) (
    (sSeq (sRet (eTup (aCons (eC (.str [99, 111, 110, 99, 97, 116])) (aCons (eVar 5) (aCons (eVar 7) aNil))))) sNil)) sNil)
  (sSeq (sIf (eBool (e2 dLt (eVar 4) (eC (.int 10)))) (
    (sSeq (sRet (eTup (aCons (e2 dIx (eLst (aCons (eC (.str [102, 105, 110, 100])) (aCons (eC (.str [97, 102, 116, 101, 114])) (aCons (eC (.str [98, 101, 102, 111, 114, 101])) aNil)))) (e2 dSub (eVar 4) (eC (.int 7)))) (aCons (eVar 5) (aCons (eVar 7) aNil))))) sNil)) sNil)
  (sSeq (sIf (tAndB (eBool (e2 dEq (eVar 4) (eC (.int 10)))) (eTru (eVar 3))) (
    (sSeq (sRet (eTup (aCons (eC (.str [99, 111, 105, 110])) (aCons (eCall c_l_draw [] (aCons (eVar 0) (aCons (eC (.int 3)) aNil))) (aCons (eVar 5) (aCons (eVar 7) aNil)))))) sNil)) sNil)
  (sSeq (sRet (eTup (aCons (e2 dIx (eLst (aCons (eC (.str [114, 101, 112, 108, 97, 99, 101, 32, 97, 108, 108])) (aCons (eC (.str [105, 102])) aNil))) (e2 dMod (eN (g1 dInt) (bCons (eVar 4) bNil)) (eC (.int 2)))) (aCons (eVar 5) (aCons (eVar 7) (aCons (eCall c [] (aCons (eVar 0) (aCons (eVar 1) (aCons (e2 dSub (eVar 2) (eC (.int 1))) (aCons (eVar 3) aNil))))) aNil)))))) sNil))))))))))
noncomputable def c_l_expression : Nat → List D → Store → R RV
  | 0 => fun _ _ => .bad
  | n + 1 => callB 8 (d_l_expression (c_l_expression n))
noncomputable def d_l_marked (c : List D → Store → R RV) : SS :=
  (sSeq (sIf (tNotB (eTru (e1 (dIsi "tuple") (eVar 0)))) (
    (sSeq (sRet (eVar 0)) sNil)) sNil)
  (sSeq (sIf (eBool (e2 dEq (e2 dIx (eVar 0) (eC (.int 0))) (eC (.str [108, 105, 116, 101, 114, 97, 108])))) (
    (sSeq (sSet 3 (e2 dIx (eVar 2) (eC (.int 0))))
    (sSeq (sPutIx (e2 dAdd (eVar 3) (eN (g1 dLen) (bCons (e2 dIx (eVar 0) (eC (.int 1))) bNil))) (eVar 2) (eC (.int 0)))
    (sSeq (sRet (eTup (aCons (eC (.str [108, 105, 116, 101, 114, 97, 108])) (aCons (eCall c_l_stamped [] (aCons (e2 dIx (eVar 0) (eC (.int 1))) (aCons (eVar 1) (aCons (eVar 3) aNil)))) aNil)))) sNil)))) sNil)
  (sSeq (sRet (eN (g1 dTuple) (bCons (eComp (wVal (eVar 0)) (.one 4) ttYes [4] (eCall c [] (aCons (eVar 4) (aCons (eVar 1) (aCons (eVar 2) aNil))))) bNil))) sNil)))
noncomputable def c_l_marked : Nat → List D → Store → R RV
  | 0 => fun _ _ => .bad
  | n + 1 => callB 5 (d_l_marked (c_l_marked n))
noncomputable def d_l_visited (c : List D → Store → R RV) : SS :=
  (sSeq (sSet 1 (eLst (aCons (eVar 0) aNil)))
  (sSeq (sIf (eBool (e2 dNe (e2 dIx (eVar 0) (eC (.int 0))) (eC (.str [108, 105, 116, 101, 114, 97, 108])))) (
    (sSeq (sFor (wVal (eSl (eVar 0) (some (eC (.int 1))) none)) (.one 2) (
      (sSeq (sIf (eTru (e1 (dIsi "tuple") (eVar 2))) (
        (sSeq (sSet 1 (e2 dAdd (eVar 1) (eCall c [] (aCons (eVar 2) aNil)))) sNil)) sNil) sNil))) sNil)) sNil)
  (sSeq (sRet (eVar 1)) sNil)))
noncomputable def c_l_visited : Nat → List D → Store → R RV
  | 0 => fun _ _ => .bad
  | n + 1 => callB 3 (d_l_visited (c_l_visited n))
/-! ### expressions as data -/
inductive Ex (α : Type) where
  | lit (v : α) | leaf (w n : List Nat) | slice (e : Ex α) (a b : Int) | dyn (e : Ex α) | two (w : List Nat) (a b : Ex α) | coin (k : Int) (a b : Ex α) | tri (w : List Nat) (a b c : Ex α)
abbrev wLit : List Nat := [108, 105, 116, 101, 114, 97, 108]
abbrev wTarget : List Nat := [116, 97, 114, 103, 101, 116]
abbrev wCoin : List Nat := [99, 111, 105, 110]
def wLeaf : List (List Nat) := [[99, 111, 110, 99, 97, 116, 32, 102, 105, 108, 101, 115], [102, 105, 108, 101], [111, 112, 116, 105, 111, 110, 97, 108, 32, 102, 105, 108, 101], wTarget]
def wTwo : List (List Nat) := [[99, 111, 110, 99, 97, 116], [102, 105, 110, 100], [97, 102, 116, 101, 114], [98, 101, 102, 111, 114, 101]]
def wTri : List (List Nat) := [[114, 101, 112, 108, 97, 99, 101, 32, 97, 108, 108], [105, 102]]
abbrev wSlice : List Nat := [115, 108, 105, 99, 101]
abbrev wDyn : List Nat := [100, 121, 110, 97, 109, 105, 99, 32, 102, 105, 108, 101]
section
variable {α β : Type}
def Ex.enc (f : α → D) : Ex α → D
  | .lit v => .tup [.str wLit, f v]
  | .leaf w n => .tup [.str w, .str n]
  | .slice e a b => .tup [.str wSlice, e.enc f, .int a, .int b]
  | .dyn e => .tup [.str wDyn, e.enc f]
  | .two w a b => .tup [.str w, a.enc f, b.enc f]
  | .coin k a b => .tup [.str wCoin, .int k, a.enc f, b.enc f]
  | .tri w a b c => .tup [.str w, a.enc f, b.enc f, c.enc f]
def Ex.ok (P : α → Prop) : Ex α → Prop
  | .lit v => P v
  | .leaf w n => w ∈ wLeaf ∧ cpsOk n = true ∧ n.length ≤ 100
  | .slice e a b => e.ok P ∧ a.natAbs < 10 ^ 12 ∧ b.natAbs < 10 ^ 12
  | .dyn e => e.ok P
  | .two w a b => w ∈ wTwo ∧ a.ok P ∧ b.ok P
  | .coin k a b => a.ok P ∧ b.ok P ∧ k.natAbs < 10 ^ 12
  | .tri w a b c => w ∈ wTri ∧ a.ok P ∧ b.ok P ∧ c.ok P
def Ex.depth : Ex α → Nat
  | .lit _ => 0
  | .leaf _ _ => 0
  | .slice e _ _ => e.depth + 1
  | .dyn e => e.depth + 1
  | .two _ a b => max a.depth b.depth + 1
  | .coin _ a b => max a.depth b.depth + 1
  | .tri _ a b c => max a.depth (max b.depth c.depth) + 1
def Ex.subs : Ex α → List (Ex α)
  | .lit v => [.lit v]
  | .leaf w n => [.leaf w n]
  | .slice e a b => .slice e a b :: e.subs
  | .dyn e => .dyn e :: e.subs
  | .two w a b => .two w a b :: (a.subs ++ b.subs)
  | .coin k a b => .coin k a b :: (a.subs ++ b.subs)
  | .tri w a b c => .tri w a b c :: (a.subs ++ (b.subs ++ c.subs))
def Ex.lits : Ex α → List α
  | .lit v => [v]
  | .leaf _ _ => []
  | .slice e _ _ => e.lits
  | .dyn e => e.lits
  | .two _ a b => a.lits ++ b.lits
  | .coin _ a b => a.lits ++ b.lits
  | .tri _ a b c => a.lits ++ (b.lits ++ c.lits)
def Ex.places : Ex α → List Int
  | .lit _ => []
  | .leaf _ _ => []
  | .slice _ _ _ => [1]
  | .dyn _ => [1]
  | .two _ _ _ => [1, 2]
  | .coin _ _ _ => [2, 3]
  | .tri _ _ _ _ => [1, 2, 3]
theorem Ex.pure_enc {f : α → D} (hf : ∀ v, D.pure (f v) = true) : ∀ e : Ex α, D.pure (e.enc f) = true
  | .lit v => by simp [Ex.enc, D.pure, D.pures, hf]
  | .leaf w n => by simp [Ex.enc, D.pure, D.pures]
  | .slice e a b => by simp [Ex.enc, D.pure, D.pures, Ex.pure_enc hf e]
  | .dyn e => by simp [Ex.enc, D.pure, D.pures, Ex.pure_enc hf e]
  | .two w a b => by simp [Ex.enc, D.pure, D.pures, Ex.pure_enc hf a, Ex.pure_enc hf b]
  | .coin k a b => by simp [Ex.enc, D.pure, D.pures, Ex.pure_enc hf a, Ex.pure_enc hf b]
  | .tri w a b c => by simp [Ex.enc, D.pure, D.pures, Ex.pure_enc hf a, Ex.pure_enc hf b, Ex.pure_enc hf c]
theorem Ex.pures_enc {f : α → D} (hf : ∀ v, D.pure (f v) = true) (l : List (Ex α)) : D.pures (l.map (Ex.enc f)) = true := pures_map fun e _ => e.pure_enc hf
theorem Ex.sub_mem {P : α → Prop} : ∀ {e : Ex α}, e.ok P → ∀ s ∈ e.subs, s.ok P ∧ s.subs.length ≤ e.subs.length
  | .lit v, h, s, hs => by simp [Ex.subs] at hs; subst hs; exact ⟨h, Nat.le_refl _⟩
  | .leaf w n, h, s, hs => by simp [Ex.subs] at hs; subst hs; exact ⟨h, Nat.le_refl _⟩
  | .slice e a b, h, s, hs => by
    simp only [Ex.subs, List.mem_cons] at hs
    rcases hs with rfl | hs
    · exact ⟨h, Nat.le_refl _⟩
    · obtain ⟨h1, h2⟩ := Ex.sub_mem (e := e) h.1 s hs
      exact ⟨h1, by simp only [Ex.subs, List.length_cons]; omega⟩
  | .dyn e, h, s, hs => by
    simp only [Ex.subs, List.mem_cons] at hs
    rcases hs with rfl | hs
    · exact ⟨h, Nat.le_refl _⟩
    · obtain ⟨h1, h2⟩ := Ex.sub_mem (e := e) h s hs
      exact ⟨h1, by simp only [Ex.subs, List.length_cons]; omega⟩
  | .two w a b, h, s, hs => by
    simp only [Ex.subs, List.mem_cons, List.mem_append] at hs
    rcases hs with rfl | hs | hs
    · exact ⟨h, Nat.le_refl _⟩
    · obtain ⟨h1, h2⟩ := Ex.sub_mem (e := a) h.2.1 s hs
      exact ⟨h1, by simp only [Ex.subs, List.length_cons, List.length_append]; omega⟩
    · obtain ⟨h1, h2⟩ := Ex.sub_mem (e := b) h.2.2 s hs
      exact ⟨h1, by simp only [Ex.subs, List.length_cons, List.length_append]; omega⟩
  | .coin k a b, h, s, hs => by
    simp only [Ex.subs, List.mem_cons, List.mem_append] at hs
    rcases hs with rfl | hs | hs
    · exact ⟨h, Nat.le_refl _⟩
    · obtain ⟨h1, h2⟩ := Ex.sub_mem (e := a) h.1 s hs
      exact ⟨h1, by simp only [Ex.subs, List.length_cons, List.length_append]; omega⟩
    · obtain ⟨h1, h2⟩ := Ex.sub_mem (e := b) h.2.1 s hs
      exact ⟨h1, by simp only [Ex.subs, List.length_cons, List.length_append]; omega⟩
  | .tri w a b c, h, s, hs => by
    simp only [Ex.subs, List.mem_cons, List.mem_append] at hs
    rcases hs with rfl | hs | hs | hs
    · exact ⟨h, Nat.le_refl _⟩
    · obtain ⟨h1, h2⟩ := Ex.sub_mem (e := a) h.2.1 s hs
      exact ⟨h1, by simp only [Ex.subs, List.length_cons, List.length_append]; omega⟩
    · obtain ⟨h1, h2⟩ := Ex.sub_mem (e := b) h.2.2.1 s hs
      exact ⟨h1, by simp only [Ex.subs, List.length_cons, List.length_append]; omega⟩
    · obtain ⟨h1, h2⟩ := Ex.sub_mem (e := c) h.2.2.2 s hs
      exact ⟨h1, by simp only [Ex.subs, List.length_cons, List.length_append]; omega⟩
/-! ### the program -/
theorem part_places_ok {f : α → D} {P : α → Prop} {e : Ex α} (h : e.ok P) (st : Store) : c_part_places [e.enc f] st = .ok (.v (.tup (e.places.map .int))) st := by
  refine call_pure ?_ (by simp [D.pure])
  unfold d_part_places
  cases e with
  | lit v => simp [Ex.enc, Ex.places, tab_PLACES, List.lookup, show 0 ≤ sLine by decide]
  | leaf w n =>
    have h := h.1
    simp only [wLeaf, List.mem_cons, List.not_mem_nil, or_false] at h
    rcases h with rfl | rfl | rfl | rfl <;> simp [Ex.enc, Ex.places, tab_PLACES, List.lookup, show 0 ≤ sLine by decide]
  | slice e a b => simp [Ex.enc, Ex.places, tab_PLACES, List.lookup, show 0 ≤ sLine by decide]
  | dyn e => simp [Ex.enc, Ex.places, tab_PLACES, List.lookup, show 0 ≤ sLine by decide]
  | two w a b =>
    have h := h.1
    simp only [wTwo, List.mem_cons, List.not_mem_nil, or_false] at h
    rcases h with rfl | rfl | rfl | rfl <;> simp [Ex.enc, Ex.places, tab_PLACES, List.lookup, show 0 ≤ sLine by decide]
  | coin k a b => simp [Ex.enc, Ex.places, tab_PLACES, List.lookup, show 0 ≤ sLine by decide]
  | tri w a b c =>
    have h := h.1
    simp only [wTri, List.mem_cons, List.not_mem_nil, or_false] at h
    rcases h with rfl | rfl <;> simp [Ex.enc, Ex.places, tab_PLACES, List.lookup, show 0 ≤ sLine by decide]
theorem subexpr_ok {f : α → D} (hf : ∀ v, D.pure (f v) = true) {P : α → Prop} : ∀ (n : Nat) {e : Ex α} (st : Store), e.ok P → e.depth < n → e.subs.length ≤ 1000 → c_subexpressions n [e.enc f] st = .ok (.t (e.subs.map (Ex.enc f))) st
  | 0, _, _, _, h, _ => absurd h (Nat.not_lt_zero _)
  | n + 1, e, st, hok, hd, hl => by
    have hsl : sLine = 16777216 := rfl
    have ih := fun {e : Ex α} (st : Store) (h1 : e.ok P) (h2 : e.depth < n) (h3 : e.subs.length ≤ 1000) => subexpr_ok (f := f) hf n st h1 h2 h3
    have pp := fun st => part_places_ok (f := f) hok st
    refine call_list ?_ (Ex.pures_enc hf _)
    unfold d_subexpressions
    cases e with
    | lit v => simp [pp, Ex.places, forL_cons, forL_nil, Ex.subs, show 1 ≤ sLine by decide]
    | leaf w n => simp [pp, Ex.places, forL_cons, forL_nil, Ex.subs, show 1 ≤ sLine by decide]
    | slice e a b =>
      simp only [Ex.subs, List.length_cons] at hl
      have i1 := fun st => ih (e := e) st hok.1 (by simp only [Ex.depth] at hd; omega) (by omega)
      have ix : ∀ st, dIx (.v ((Ex.slice e a b).enc f)) (.v (.int 1)) st = some (.v (e.enc f)) := fun st => by simp [Ex.enc]
      generalize hE : (Ex.slice e a b).enc f = E at *
      simp [pp, Ex.places, forL_cons, forL_nil, Ex.subs, ix, i1, show 1 ≤ sLine by decide]
      exact ⟨by omega, hE.symm⟩
    | dyn e =>
      simp only [Ex.subs, List.length_cons] at hl
      have i1 := fun st => ih (e := e) st hok (by simp only [Ex.depth] at hd; omega) (by omega)
      have ix : ∀ st, dIx (.v ((Ex.dyn e).enc f)) (.v (.int 1)) st = some (.v (e.enc f)) := fun st => by simp [Ex.enc]
      generalize hE : (Ex.dyn e).enc f = E at *
      simp [pp, Ex.places, forL_cons, forL_nil, Ex.subs, ix, i1, show 1 ≤ sLine by decide]
      exact ⟨by omega, hE.symm⟩
    | two w a b =>
      simp only [Ex.subs, List.length_cons, List.length_append] at hl
      have i1 := fun st => ih (e := a) st hok.2.1 (by simp only [Ex.depth] at hd; omega) (by omega)
      have i2 := fun st => ih (e := b) st hok.2.2 (by simp only [Ex.depth] at hd; omega) (by omega)
      have ix1 : ∀ st, dIx (.v ((Ex.two w a b).enc f)) (.v (.int 1)) st = some (.v (a.enc f)) := fun st => by simp [Ex.enc]
      have ix2 : ∀ st, dIx (.v ((Ex.two w a b).enc f)) (.v (.int 2)) st = some (.v (b.enc f)) := fun st => by simp [Ex.enc]
      generalize hE : (Ex.two w a b).enc f = E at *
      simp [pp, Ex.places, forL_cons, forL_nil, Ex.subs, ix1, ix2, i1, i2, show 1 ≤ sLine by decide, show 1 + a.subs.length ≤ sLine by omega, show a.subs.length + 1 + b.subs.length ≤ sLine by omega, show 1 + a.subs.length + b.subs.length ≤ sLine by omega]
      simp [hE]
    | coin k a b =>
      simp only [Ex.subs, List.length_cons, List.length_append] at hl
      have i1 := fun st => ih (e := a) st hok.1 (by simp only [Ex.depth] at hd; omega) (by omega)
      have i2 := fun st => ih (e := b) st hok.2.1 (by simp only [Ex.depth] at hd; omega) (by omega)
      have ix1 : ∀ st, dIx (.v ((Ex.coin k a b).enc f)) (.v (.int 2)) st = some (.v (a.enc f)) := fun st => by simp [Ex.enc]
      have ix2 : ∀ st, dIx (.v ((Ex.coin k a b).enc f)) (.v (.int 3)) st = some (.v (b.enc f)) := fun st => by simp [Ex.enc]
      generalize hE : (Ex.coin k a b).enc f = E at *
      simp [pp, Ex.places, forL_cons, forL_nil, Ex.subs, ix1, ix2, i1, i2, show 1 ≤ sLine by decide, show 1 + a.subs.length ≤ sLine by omega, show a.subs.length + 1 + b.subs.length ≤ sLine by omega, show 1 + a.subs.length + b.subs.length ≤ sLine by omega]
      simp [hE]
    | tri w a b c =>
      simp only [Ex.subs, List.length_cons, List.length_append] at hl
      have i1 := fun st => ih (e := a) st hok.2.1 (by simp only [Ex.depth] at hd; omega) (by omega)
      have i2 := fun st => ih (e := b) st hok.2.2.1 (by simp only [Ex.depth] at hd; omega) (by omega)
      have i3 := fun st => ih (e := c) st hok.2.2.2 (by simp only [Ex.depth] at hd; omega) (by omega)
      have ix1 : ∀ st, dIx (.v ((Ex.tri w a b c).enc f)) (.v (.int 1)) st = some (.v (a.enc f)) := fun st => by simp [Ex.enc]
      have ix2 : ∀ st, dIx (.v ((Ex.tri w a b c).enc f)) (.v (.int 2)) st = some (.v (b.enc f)) := fun st => by simp [Ex.enc]
      have ix3 : ∀ st, dIx (.v ((Ex.tri w a b c).enc f)) (.v (.int 3)) st = some (.v (c.enc f)) := fun st => by simp [Ex.enc]
      generalize hE : (Ex.tri w a b c).enc f = E at *
      simp [pp, Ex.places, forL_cons, forL_nil, Ex.subs, ix1, ix2, ix3, i1, i2, i3, show 1 ≤ sLine by decide, show 1 + a.subs.length ≤ sLine by omega, show a.subs.length + 1 + b.subs.length ≤ sLine by omega, show 1 + a.subs.length + b.subs.length ≤ sLine by omega, show 1 + a.subs.length + b.subs.length + c.subs.length ≤ sLine by omega, show a.subs.length + (b.subs.length + 1) + c.subs.length ≤ sLine by omega]
      exact ⟨by omega, hE.symm⟩
def isLit : Ex α → Bool
  | .lit _ => true
  | _ => false
def litD (f : α → D) : Ex α → D
  | .lit v => f v
  | _ => .non
theorem lits_subs (f : α → D) : ∀ e : Ex α, (e.subs.filter isLit).map (litD f) = e.lits.map f
  | .lit v => rfl
  | .leaf w n => rfl
  | .slice e a b => by simp [Ex.subs, Ex.lits, isLit, List.filter_cons, lits_subs f e]
  | .dyn e => by simp [Ex.subs, Ex.lits, isLit, List.filter_cons, lits_subs f e]
  | .two w a b => by simp [Ex.subs, Ex.lits, isLit, List.filter_cons, List.filter_append, lits_subs f a, lits_subs f b]
  | .coin k a b => by simp [Ex.subs, Ex.lits, isLit, List.filter_cons, List.filter_append, lits_subs f a, lits_subs f b]
  | .tri w a b c => by simp [Ex.subs, Ex.lits, isLit, List.filter_cons, List.filter_append, lits_subs f a, lits_subs f b, lits_subs f c]
/-- the word of an expression -/
def Ex.word : Ex α → List Nat
  | .lit _ => wLit
  | .leaf w _ => w
  | .slice _ _ _ => wSlice
  | .dyn _ => wDyn
  | .two w _ _ => w
  | .coin _ _ _ => wCoin
  | .tri w _ _ _ => w
theorem enc_0 (f : α → D) (e : Ex α) (st : Store) : dIx (.v (e.enc f)) (.v (.int 0)) st = some (.v (.str e.word)) := by
  cases e <;> simp [Ex.enc, Ex.word]
theorem word_len {P : α → Prop} {e : Ex α} (h : e.ok P) : e.word.length ≤ 30 := by
  cases e with
  | leaf w n =>
    have h := h.1
    simp only [wLeaf, List.mem_cons, List.not_mem_nil, or_false] at h
    rcases h with rfl | rfl | rfl | rfl <;> simp [Ex.word, isLit]
  | two w a b =>
    have h := h.1
    simp only [wTwo, List.mem_cons, List.not_mem_nil, or_false] at h
    rcases h with rfl | rfl | rfl | rfl <;> simp [Ex.word, isLit]
  | tri w a b c =>
    have h := h.1
    simp only [wTri, List.mem_cons, List.not_mem_nil, or_false] at h
    rcases h with rfl | rfl <;> simp [Ex.word, isLit]
  | _ => simp [Ex.word]
theorem word_lit {P : α → Prop} {e : Ex α} (h : e.ok P) : (e.word = wLit) ↔ isLit e = true := by
  cases e with
  | leaf w n =>
    have h := h.1
    simp only [wLeaf, List.mem_cons, List.not_mem_nil, or_false] at h
    rcases h with rfl | rfl | rfl | rfl <;> simp [Ex.word, isLit]
  | two w a b =>
    have h := h.1
    simp only [wTwo, List.mem_cons, List.not_mem_nil, or_false] at h
    rcases h with rfl | rfl | rfl | rfl <;> simp [Ex.word, isLit]
  | tri w a b c =>
    have h := h.1
    simp only [wTri, List.mem_cons, List.not_mem_nil, or_false] at h
    rcases h with rfl | rfl <;> simp [Ex.word, isLit]
  | _ => simp [Ex.word, isLit]
theorem litvals_ok {f : α → D} (hf : ∀ v, D.pure (f v) = true) {P : α → Prop} {e : Ex α} (st : Store) (h : e.ok P) (hd : e.depth < 8) (hl : e.subs.length ≤ 1000) : c_literal_values [e.enc f] st = .ok (.t (e.lits.map f)) st := by
  have hsl : sLine = 16777216 := rfl
  refine call_list ?_ (pures_map fun v _ => hf v)
  have e1 := fun st => subexpr_ok hf 8 st h hd hl
  have cm : ∀ gd : Store → Prop, ∀ st, gd st → compL gd (.one 1) (eBool (e2 dEq (e2 dIx (eVar 1) (eC (.int 0))) (eC (.str [108, 105, 116, 101, 114, 97, 108])))) (e2 dIx (eVar 1) (eC (.int 1))) [some (e.enc f), none] (e.subs.map (Ex.enc f)) st = .ok ((e.subs.filter isLit).map (litD f)) st := by
    intro gd st hgd
    refine comp_filterA hgd fun s hs => ⟨_, rfl, ?_, fun hq => ?_⟩
    · have hk := (Ex.sub_mem h s hs).1
      have w1 := word_len hk
      have w2 := word_lit hk
      simp [enc_0, show s.word.length ≤ sLine by omega]
      rw [Bool.eq_iff_iff]; simpa using w2
    · cases s with
      | lit v => simp [Ex.enc, litD]
      | _ => simp [isLit] at hq
  have hlen : (e.subs.map (Ex.enc f)).length ≤ sLine := by simp; omega
  rw [lits_subs] at cm
  unfold d_literal_values
  generalize e.enc f = E at *
  simp [e1, cm, show e.subs.length ≤ sLine by omega]
end
end Ev

/-! ## Ev42 -/
set_option Elab.async false
set_option linter.all false
set_option maxRecDepth 100000
/-! Ev42: references, maps over the literals, marked. -/
namespace Ev
open PySem
section
variable {α β σ : Type}
def Ex.tgs : Ex α → List (List Nat)
  | .lit _ => []
  | .leaf w n => if w = wTarget then [n] else []
  | .slice e _ _ => e.tgs
  | .dyn e => e.tgs
  | .two _ a b => a.tgs ++ b.tgs
  | .coin _ a b => a.tgs ++ b.tgs
  | .tri _ a b c => a.tgs ++ (b.tgs ++ c.tgs)
def Ex.cns : Ex α → List Int
  | .lit _ => []
  | .leaf _ _ => []
  | .slice e _ _ => e.cns
  | .dyn e => e.cns
  | .two _ a b => a.cns ++ b.cns
  | .coin k a b => k :: (a.cns ++ b.cns)
  | .tri _ a b c => a.cns ++ (b.cns ++ c.cns)
def sT : Ex α → List (List Nat)
  | .leaf w n => if w = wTarget then [n] else []
  | _ => []
def sC : Ex α → List Int
  | .coin k _ _ => [k]
  | _ => []
theorem tgs_subs : ∀ e : Ex α, e.subs.flatMap sT = e.tgs
  | .lit v => rfl
  | .leaf w n => by simp [Ex.subs, Ex.tgs, sT]
  | .slice e a b => by simp [Ex.subs, Ex.tgs, sT, tgs_subs e]
  | .dyn e => by simp [Ex.subs, Ex.tgs, sT, tgs_subs e]
  | .two w a b => by simp [Ex.subs, Ex.tgs, sT, tgs_subs a, tgs_subs b]
  | .coin k a b => by simp [Ex.subs, Ex.tgs, sT, tgs_subs a, tgs_subs b]
  | .tri w a b c => by simp [Ex.subs, Ex.tgs, sT, tgs_subs a, tgs_subs b, tgs_subs c]
theorem cns_subs : ∀ e : Ex α, e.subs.flatMap sC = e.cns
  | .lit v => rfl
  | .leaf w n => rfl
  | .slice e a b => by simp [Ex.subs, Ex.cns, sC, cns_subs e]
  | .dyn e => by simp [Ex.subs, Ex.cns, sC, cns_subs e]
  | .two w a b => by simp [Ex.subs, Ex.cns, sC, cns_subs a, cns_subs b]
  | .coin k a b => by simp [Ex.subs, Ex.cns, sC, cns_subs a, cns_subs b]
  | .tri w a b c => by simp [Ex.subs, Ex.cns, sC, cns_subs a, cns_subs b, cns_subs c]
theorem lits_len : ∀ e : Ex α, e.lits.length ≤ e.subs.length
  | .lit v => by simp [Ex.subs, Ex.lits]
  | .leaf w n => by simp [Ex.subs, Ex.lits]
  | .slice e a b => by have := lits_len e; simp only [Ex.subs, Ex.lits, List.length_cons]; omega
  | .dyn e => by have := lits_len e; simp only [Ex.subs, Ex.lits, List.length_cons]; omega
  | .two w a b => by have := lits_len a; have := lits_len b; simp only [Ex.subs, Ex.lits, List.length_cons, List.length_append]; omega
  | .coin k a b => by have := lits_len a; have := lits_len b; simp only [Ex.subs, Ex.lits, List.length_cons, List.length_append]; omega
  | .tri w a b c => by have := lits_len a; have := lits_len b; have := lits_len c; simp only [Ex.subs, Ex.lits, List.length_cons, List.length_append]; omega
/-- each thing once, by its first place -/
def dd {γ : Type} [DecidableEq γ] (l : List γ) (r : List γ) : List γ := r.foldl (fun a x => if x ∈ a then a else a ++ [x]) l
theorem dd_len {γ : Type} [DecidableEq γ] : ∀ (r l : List γ), (dd l r).length ≤ l.length + r.length
  | [], l => by simp [dd]
  | x :: r, l => by
    have h1 : dd l (x :: r) = dd (if x ∈ l then l else l ++ [x]) r := rfl
    have := dd_len r (if x ∈ l then l else l ++ [x])
    rw [h1]
    by_cases h : x ∈ l
    · simp only [if_pos h, List.length_cons] at this ⊢; omega
    · simp only [if_neg h, List.length_cons, List.length_append, List.length_nil] at this ⊢; omega
theorem dd_mem {γ : Type} [DecidableEq γ] : ∀ (r l : List γ) (x : γ), x ∈ dd l r → x ∈ l ∨ x ∈ r
  | [], l, x, h => .inl h
  | y :: r, l, x, h => by
    rcases dd_mem r _ x h with h | h
    · have h : x ∈ (if y ∈ l then l else l ++ [y]) := h
      split at h
      · exact .inl h
      · rcases List.mem_append.mp h with h | h
        · exact .inl h
        · simp at h; subst h; exact .inr (List.mem_cons_self ..)
    · exact .inr (List.mem_cons_of_mem _ h)
theorem dd_app {γ : Type} [DecidableEq γ] (l a b : List γ) : dd l (a ++ b) = dd (dd l a) b := List.foldl_append ..
theorem Ex.tgs_cps {P : α → Prop} : ∀ {e : Ex α}, e.ok P → ∀ n ∈ e.tgs, cpsOk n = true
  | .lit v, _, n, h => by simp [Ex.tgs] at h
  | .leaf w m, k, n, h => by
    simp only [Ex.tgs] at h
    split at h
    · simp at h; subst h; exact k.2.1
    · simp at h
  | .slice e a b, k, n, h => Ex.tgs_cps (e := e) k.1 n h
  | .dyn e, k, n, h => Ex.tgs_cps (e := e) k n h
  | .two w a b, k, n, h => (List.mem_append.mp h).elim (Ex.tgs_cps (e := a) k.2.1 n) (Ex.tgs_cps (e := b) k.2.2 n)
  | .coin _ a b, k, n, h => (List.mem_append.mp h).elim (Ex.tgs_cps (e := a) k.1 n) (Ex.tgs_cps (e := b) k.2.1 n)
  | .tri w a b c, k, n, h => (List.mem_append.mp h).elim (Ex.tgs_cps (e := a) k.2.1 n) fun h => (List.mem_append.mp h).elim (Ex.tgs_cps (e := b) k.2.2.1 n) (Ex.tgs_cps (e := c) k.2.2.2 n)
theorem Ex.tgs_len {P : α → Prop} : ∀ {e : Ex α}, e.ok P → ∀ n ∈ e.tgs, n.length ≤ 100
  | .lit v, _, n, h => by simp [Ex.tgs] at h
  | .leaf w m, k, n, h => by
    simp only [Ex.tgs] at h
    split at h
    · simp at h; subst h; exact k.2.2
    · simp at h
  | .slice e a b, k, n, h => Ex.tgs_len (e := e) k.1 n h
  | .dyn e, k, n, h => Ex.tgs_len (e := e) k n h
  | .two w a b, k, n, h => (List.mem_append.mp h).elim (Ex.tgs_len (e := a) k.2.1 n) (Ex.tgs_len (e := b) k.2.2 n)
  | .coin _ a b, k, n, h => (List.mem_append.mp h).elim (Ex.tgs_len (e := a) k.1 n) (Ex.tgs_len (e := b) k.2.1 n)
  | .tri w a b c, k, n, h => (List.mem_append.mp h).elim (Ex.tgs_len (e := a) k.2.1 n) fun h => (List.mem_append.mp h).elim (Ex.tgs_len (e := b) k.2.2.1 n) (Ex.tgs_len (e := c) k.2.2.2 n)
theorem Ex.cns_small {P : α → Prop} : ∀ {e : Ex α}, e.ok P → ∀ n ∈ e.cns, n.natAbs < 10 ^ 12
  | .lit v, _, n, h => by simp [Ex.cns] at h
  | .leaf w m, k, n, h => by simp [Ex.cns] at h
  | .slice e a b, k, n, h => Ex.cns_small (e := e) k.1 n h
  | .dyn e, k, n, h => Ex.cns_small (e := e) k n h
  | .two w a b, k, n, h => (List.mem_append.mp h).elim (Ex.cns_small (e := a) k.2.1 n) (Ex.cns_small (e := b) k.2.2 n)
  | .coin m a b, k, n, h => by
    rcases List.mem_cons.mp h with rfl | h
    · exact k.2.2
    · exact (List.mem_append.mp h).elim (Ex.cns_small (e := a) k.1 n) (Ex.cns_small (e := b) k.2.1 n)
  | .tri w a b c, k, n, h => (List.mem_append.mp h).elim (Ex.cns_small (e := a) k.2.1 n) fun h => (List.mem_append.mp h).elim (Ex.cns_small (e := b) k.2.2.1 n) (Ex.cns_small (e := c) k.2.2.2 n)
/-! ### a map over the literals that carries a state -/
def Ex.fin (u : α → σ → σ) : Ex α → σ → σ
  | .lit v, s => u v s
  | .leaf _ _, s => s
  | .slice e _ _, s => e.fin u s
  | .dyn e, s => e.fin u s
  | .two _ a b, s => b.fin u (a.fin u s)
  | .coin _ a b, s => b.fin u (a.fin u s)
  | .tri _ a b c, s => c.fin u (b.fin u (a.fin u s))
def Ex.thr (g : α → σ → β) (u : α → σ → σ) : Ex α → σ → Ex β
  | .lit v, s => .lit (g v s)
  | .leaf w n, _ => .leaf w n
  | .slice e a b, s => .slice (e.thr g u s) a b
  | .dyn e, s => .dyn (e.thr g u s)
  | .two w a b, s => .two w (a.thr g u s) (b.thr g u (a.fin u s))
  | .coin k a b, s => .coin k (a.thr g u s) (b.thr g u (a.fin u s))
  | .tri w a b c, s => .tri w (a.thr g u s) (b.thr g u (a.fin u s)) (c.thr g u (b.fin u (a.fin u s)))
variable (g : α → σ → β) (u : α → σ → σ)
theorem thr_tgs : ∀ (e : Ex α) (s : σ), (e.thr g u s).tgs = e.tgs
  | .lit v, s => rfl
  | .leaf w n, _ => rfl
  | .slice e a b, s => thr_tgs e s
  | .dyn e, s => thr_tgs e s
  | .two w a b, s => by simp only [Ex.thr, Ex.tgs, thr_tgs a, thr_tgs b]
  | .coin k a b, s => by simp only [Ex.thr, Ex.tgs, thr_tgs a, thr_tgs b]
  | .tri w a b c, s => by simp only [Ex.thr, Ex.tgs, thr_tgs a, thr_tgs b, thr_tgs c]
theorem thr_cns : ∀ (e : Ex α) (s : σ), (e.thr g u s).cns = e.cns
  | .lit v, s => rfl
  | .leaf w n, _ => rfl
  | .slice e a b, s => thr_cns e s
  | .dyn e, s => thr_cns e s
  | .two w a b, s => by simp only [Ex.thr, Ex.cns, thr_cns a, thr_cns b]
  | .coin k a b, s => by simp only [Ex.thr, Ex.cns, thr_cns a, thr_cns b]
  | .tri w a b c, s => by simp only [Ex.thr, Ex.cns, thr_cns a, thr_cns b, thr_cns c]
theorem thr_depth : ∀ (e : Ex α) (s : σ), (e.thr g u s).depth = e.depth
  | .lit v, s => rfl
  | .leaf w n, _ => rfl
  | .slice e a b, s => by simp only [Ex.thr, Ex.depth, thr_depth e]
  | .dyn e, s => by simp only [Ex.thr, Ex.depth, thr_depth e]
  | .two w a b, s => by simp only [Ex.thr, Ex.depth, thr_depth a, thr_depth b]
  | .coin k a b, s => by simp only [Ex.thr, Ex.depth, thr_depth a, thr_depth b]
  | .tri w a b c, s => by simp only [Ex.thr, Ex.depth, thr_depth a, thr_depth b, thr_depth c]
theorem thr_subs : ∀ (e : Ex α) (s : σ), (e.thr g u s).subs.length = e.subs.length
  | .lit v, s => rfl
  | .leaf w n, _ => rfl
  | .slice e a b, s => by simp only [Ex.thr, Ex.subs, List.length_cons, thr_subs e]
  | .dyn e, s => by simp only [Ex.thr, Ex.subs, List.length_cons, thr_subs e]
  | .two w a b, s => by simp only [Ex.thr, Ex.subs, List.length_cons, List.length_append, thr_subs a, thr_subs b]
  | .coin k a b, s => by simp only [Ex.thr, Ex.subs, List.length_cons, List.length_append, thr_subs a, thr_subs b]
  | .tri w a b c, s => by simp only [Ex.thr, Ex.subs, List.length_cons, List.length_append, thr_subs a, thr_subs b, thr_subs c]
theorem thr_lits_len : ∀ (e : Ex α) (s : σ), (e.thr g u s).lits.length = e.lits.length
  | .lit v, s => rfl
  | .leaf w n, _ => rfl
  | .slice e a b, s => by simp only [Ex.thr, Ex.lits, thr_lits_len e]
  | .dyn e, s => by simp only [Ex.thr, Ex.lits, thr_lits_len e]
  | .two w a b, s => by simp only [Ex.thr, Ex.lits, List.length_append, thr_lits_len a, thr_lits_len b]
  | .coin k a b, s => by simp only [Ex.thr, Ex.lits, List.length_append, thr_lits_len a, thr_lits_len b]
  | .tri w a b c, s => by simp only [Ex.thr, Ex.lits, List.length_append, thr_lits_len a, thr_lits_len b, thr_lits_len c]
/-- what holds of the literals: I is kept by the state -/
theorem thr_ok {g : α → σ → β} {u : α → σ → σ} {P : α → Prop} {Q : β → Prop} {I : σ → Prop} (hg : ∀ v s, P v → I s → Q (g v s)) (hu : ∀ v s, P v → I s → I (u v s)) : ∀ (e : Ex α) (s : σ), e.ok P → I s → (e.thr g u s).ok Q ∧ I (e.fin u s)
  | .lit v, s, h, i => ⟨hg v s h i, hu v s h i⟩
  | .leaf w n, _, h, i => ⟨h, i⟩
  | .slice e a b, s, h, i => by
    have h1 := thr_ok hg hu e s h.1 i
    exact ⟨⟨h1.1, h.2⟩, h1.2⟩
  | .dyn e, s, h, i => thr_ok hg hu e s h i
  | .two w a b, s, h, i => by
    have h1 := thr_ok hg hu a s h.2.1 i
    have h2 := thr_ok hg hu b _ h.2.2 h1.2
    exact ⟨⟨h.1, h1.1, h2.1⟩, h2.2⟩
  | .coin k a b, s, h, i => by
    have h1 := thr_ok hg hu a s h.1 i
    have h2 := thr_ok hg hu b _ h.2.1 h1.2
    exact ⟨⟨h1.1, h2.1, h.2.2⟩, h2.2⟩
  | .tri w a b c, s, h, i => by
    have h1 := thr_ok hg hu a s h.2.1 i
    have h2 := thr_ok hg hu b _ h.2.2.1 h1.2
    have h3 := thr_ok hg hu c _ h.2.2.2 h2.2
    exact ⟨⟨h.1, h1.1, h2.1, h3.1⟩, h3.2⟩
theorem Ex.lits_ok {P : α → Prop} : ∀ {e : Ex α}, e.ok P → ∀ v ∈ e.lits, P v
  | .lit v, h, x, hx => by simp [Ex.lits] at hx; subst hx; exact h
  | .leaf w m, k, n, h => by simp [Ex.lits] at h
  | .slice e a b, k, n, h => Ex.lits_ok (e := e) k.1 n h
  | .dyn e, k, n, h => Ex.lits_ok (e := e) k n h
  | .two w a b, k, n, h => (List.mem_append.mp h).elim (Ex.lits_ok (e := a) k.2.1 n) (Ex.lits_ok (e := b) k.2.2 n)
  | .coin _ a b, k, n, h => (List.mem_append.mp h).elim (Ex.lits_ok (e := a) k.1 n) (Ex.lits_ok (e := b) k.2.1 n)
  | .tri w a b c, k, n, h => (List.mem_append.mp h).elim (Ex.lits_ok (e := a) k.2.1 n) fun h => (List.mem_append.mp h).elim (Ex.lits_ok (e := b) k.2.2.1 n) (Ex.lits_ok (e := c) k.2.2.2 n)
theorem Ex.ok_mono {P Q : α → Prop} (hpq : ∀ v, P v → Q v) : ∀ {e : Ex α}, e.ok P → e.ok Q
  | .lit v, h => hpq v h
  | .leaf w m, k => k
  | .slice e a b, k => ⟨Ex.ok_mono hpq k.1, k.2⟩
  | .dyn e, k => Ex.ok_mono (e := e) hpq k
  | .two w a b, k => ⟨k.1, Ex.ok_mono hpq k.2.1, Ex.ok_mono hpq k.2.2⟩
  | .coin _ a b, k => ⟨Ex.ok_mono hpq k.1, Ex.ok_mono hpq k.2.1, k.2.2⟩
  | .tri w a b c, k => ⟨k.1, Ex.ok_mono hpq k.2.1, Ex.ok_mono hpq k.2.2.1, Ex.ok_mono hpq k.2.2.2⟩
end
/-! ### the program -/
theorem litsof_ok {P : List Ch → Prop} {e : Ex (List Ch)} (st : Store) (h : e.ok P) (hd : e.depth < 8) (hl : e.subs.length ≤ 1000) (hL : e.lits.flatten.length ≤ 1000000) : c_literals_of [e.enc txD] st = .ok (.v (txD e.lits.flatten)) st := by
  have hsl : sLine = 16777216 := rfl
  refine call_pure ?_ (tx_pure _)
  have e1 := fun st => litvals_ok (f := txD) tx_pure st h hd hl
  have hll := lits_len e
  unfold d_literals_of
  generalize e.enc txD = E at *
  have hlen : (e.lits.map txD).length ≤ sLine := by simp; omega
  simp [e1, show e.lits.length ≤ sLine by omega]
  refine hide (α := LI) (fun ds env w => ∃ (a r : List (List Ch)) (x2 : Option D), a ++ r = e.lits ∧ ds = r.map txD ∧ env = [some E, some (txD a.flatten), x2] ∧ w = st) fun I hI => ?_
  refine wp_forS I (by rw [hI]; exact ⟨[], _, _, rfl, rfl, rfl, rfl⟩) ?_ ?_
  · intro d ds env w hi
    rw [hI] at hi
    obtain ⟨a, r, x2, h1, h2, rfl, rfl⟩ := hi
    cases r with
    | nil => cases h2
    | cons v r =>
      cases h2
      refine ⟨_, rfl, ?_⟩
      have h3 : a.flatten.length + v.length ≤ sLine := by
        rw [← h1] at hL; simp [List.sum_append] at hL ⊢; omega
      simp [add_tx _ _ _ h3]
      rw [hI]
      exact ⟨a ++ [v], r, some (txD v), by simpa using h1, rfl, by simp, rfl⟩
  · intro env w hi
    rw [hI] at hi
    obtain ⟨a, r, x2, h1, h2, rfl, rfl⟩ := hi
    cases r with
    | cons => cases h2
    | nil =>
      simp at h1
      subst h1
      simp
/-- what references_of gives -/
def refD {α : Type} (e : Ex α) : D := .tup [.tup ((dd [] e.tgs).map .str), .tup ((iSort (dd [] e.cns)).map .int)]
theorem oks_str {l : List (List Nat)} {k : Nat} (h : ∀ x ∈ l, cpsOk x = true) : D.oks k (l.map .str) = true := by
  rw [oks_iff]; intro d hd
  obtain ⟨x, hx, rfl⟩ := List.mem_map.mp hd
  simpa [D.ok] using h x hx
theorem mem_strD {x : List Nat} {l : List (List Nat)} : D.str x ∈ l.map D.str ↔ x ∈ l := by simp
theorem mem_intD {x : Int} {l : List Int} : D.int x ∈ l.map D.int ↔ x ∈ l := by simp
theorem sT_len {α : Type} (e : Ex α) : (sT e).length ≤ 1 := by
  cases e <;> simp [sT]
  split <;> simp
theorem sC_len {α : Type} (e : Ex α) : (sC e).length ≤ 1 := by
  cases e <;> simp [sC]
theorem fm_len {γ δ : Type} {f : γ → List δ} (h : ∀ x, (f x).length ≤ 1) : ∀ l : List γ, (l.flatMap f).length ≤ l.length
  | [] => by simp
  | x :: l => by have := h x; have := fm_len h l; simp only [List.flatMap_cons, List.length_append, List.length_cons]; omega
theorem refs_ok {α : Type} {f : α → D} (hf : ∀ v, D.pure (f v) = true) {P : α → Prop} {e : Ex α} (st : Store) (h : e.ok P) (hd : e.depth < 8) (hl : e.subs.length ≤ 1000) : c_references_of [e.enc f] st = .ok (.v (refD e)) st := by
  have hsl : sLine = 16777216 := rfl
  refine call_pure ?_ (by simp [refD, D.pure, D.pures])
  have e1 := fun st => subexpr_ok hf 8 st h hd hl
  have hsub := fun s hs => (Ex.sub_mem h s hs).1
  have hcp := Ex.tgs_cps h
  have ht := tgs_subs e
  have hc := cns_subs e
  unfold d_references_of refD
  rw [← ht, ← hc]
  rw [← ht] at hcp
  generalize e.enc f = E at *
  generalize e.subs = S at *
  clear ht hc h hd
  have hlen : (S.map (Ex.enc f)).length ≤ sLine := by simp; omega
  simp [e1, show S.length ≤ sLine by omega, show 0 ≤ sLine by decide]
  refine hide (α := LI) (fun ds env w => ∃ (a r : List (Ex α)) (x3 : Option D), a ++ r = S ∧ ds = r.map (Ex.enc f) ∧ env = [some E, some (.ref st.length), some (.ref (st.length + 1)), x3] ∧ w = st ++ [.lst ((dd [] (a.flatMap sT)).map .str), .lst ((dd [] (a.flatMap sC)).map .int)]) fun I hI => ?_
  refine wp_forS I (by rw [hI]; exact ⟨[], _, _, rfl, rfl, rfl, rfl⟩) ?_ ?_
  · intro d ds env w hi
    rw [hI] at hi
    obtain ⟨a, r, x3, h1, h2, rfl, rfl⟩ := hi
    cases r with
    | nil => cases h2
    | cons s r =>
      cases h2
      refine ⟨_, rfl, ?_⟩
      have hs := hsub s (by rw [← h1]; simp)
      have hn : ∀ n ∈ dd [] (a.flatMap sT), cpsOk n = true := fun n hn => by
        rcases dd_mem _ _ n hn with h | h
        · cases h
        · exact hcp n (by rw [← h1]; simp only [List.flatMap_append, List.mem_append]; exact .inl h)
      have l1 : (dd [] (a.flatMap sT)).length < 1000 := by
        have q1 := dd_len (a.flatMap sT) []
        have q2 := fm_len (f := sT (α := α)) sT_len a
        have q3 := congrArg List.length h1
        simp only [List.length_nil, Nat.zero_add] at q1
        simp only [List.length_append, List.length_cons] at q3
        omega
      have l2 : (dd [] (a.flatMap sC)).length < 1000 := by
        have q1 := dd_len (a.flatMap sC) []
        have q2 := fm_len (f := sC (α := α)) sC_len a
        have q3 := congrArg List.length h1
        simp only [List.length_nil, Nat.zero_add] at q1
        simp only [List.length_append, List.length_cons] at q3
        omega
      have go : ∀ (T : List (List Nat)) (C : List Int), T = dd (dd [] (a.flatMap sT)) (sT s) → C = dd (dd [] (a.flatMap sC)) (sC s) → I (r.map (Ex.enc f)) [some E, some (.ref st.length), some (.ref (st.length + 1)), some (s.enc f)] (st ++ [.lst (T.map .str), .lst (C.map .int)]) := by
        rintro T C rfl rfl
        rw [hI]
        refine ⟨a ++ [s], r, _, by simpa using h1, rfl, rfl, ?_⟩
        simp only [List.flatMap_append, dd_app, List.flatMap_cons, List.flatMap_nil, List.append_nil]
      generalize dd [] (a.flatMap sT) = T at *
      generalize dd [] (a.flatMap sC) = C at *
      have g1 : ∀ (x y : Cell), (st ++ [x, y])[st.length]? = some x := fun x y => by simp
      have g2 : ∀ (x y : Cell), (st ++ [x, y])[st.length + 1]? = some y := fun x y => by simp [List.getElem?_append]
      have s1 : ∀ (x y z : Cell), (st ++ [x, y]).set st.length z = st ++ [z, y] := fun x y z => by simp
      have s2 : ∀ (x y z : Cell), (st ++ [x, y]).set (st.length + 1) z = st ++ [x, z] := fun x y z => by
        rw [List.set_append_right _ _ (by omega), show st.length + 1 - st.length = 1 by omega]; rfl
      have n1 : ∀ n, cpsOk n = true → ∀ (y : Cell), dNotIn (.v (.str n)) (.v (.ref st.length)) (st ++ [.lst (T.map .str), y]) = some (.v (.bl (!decide (D.str n ∈ T.map D.str)))) := fun n hn1 y =>
        dNotIn_ref (by simpa [D.ok] using hn1) (oks_str hn) (g1 _ _)
      have n2 : ∀ (k : Int) (x : Cell), dNotIn (.v (.int k)) (.v (.ref (st.length + 1))) (st ++ [x, .lst (C.map .int)]) = some (.v (.bl (!decide (D.int k ∈ C.map D.int)))) := fun k x =>
        dNotIn_ref (by simp [D.ok]) (oks_int _ _) (g2 _ _)
      cases s with
      | lit v =>
        simp [Ex.enc]
        exact go T C rfl rfl
      | leaf w n =>
        have hw := hs.1
        simp only [wLeaf, List.mem_cons, List.not_mem_nil, or_false] at hw
        rcases hw with rfl | rfl | rfl | rfl
        · simp [Ex.enc]; exact go T C rfl rfl
        · simp [Ex.enc]; exact go T C rfl rfl
        · simp [Ex.enc]; exact go T C rfl rfl
        · by_cases hin : n ∈ T
          · simp [Ex.enc, n1 n hs.2.1, hin]
            exact go T C (by simp [sT, dd, hin]) rfl
          · simp [Ex.enc, n1 n hs.2.1, hin, g1, s1, show T.length < sLine by omega]
            have := go (T ++ [n]) C (by simp [sT, dd, hin]) rfl
            simpa [Ex.enc] using this
      | slice e a b => simp [Ex.enc]; exact go T C rfl rfl
      | dyn e => simp [Ex.enc]; exact go T C rfl rfl
      | two w a b =>
        have hw := hs.1
        simp only [wTwo, List.mem_cons, List.not_mem_nil, or_false] at hw
        rcases hw with rfl | rfl | rfl | rfl <;> simp [Ex.enc] <;> exact go T C rfl rfl
      | coin k a b =>
        by_cases hin : k ∈ C
        · simp [Ex.enc, n2 k, hin]
          exact go T C rfl (by simp [sC, dd, hin])
        · simp [Ex.enc, n2 k, hin, g2, s2, show C.length < sLine by omega]
          have := go T (C ++ [k]) rfl (by simp [sC, dd, hin])
          simpa [Ex.enc] using this
      | tri w a b c =>
        have hw := hs.1
        simp only [wTri, List.mem_cons, List.not_mem_nil, or_false] at hw
        rcases hw with rfl | rfl <;> simp [Ex.enc] <;> exact go T C rfl rfl
  · intro env w hi
    rw [hI] at hi
    obtain ⟨a, r, x3, h1, h2, rfl, rfl⟩ := hi
    cases r with
    | cons => cases h2
    | nil =>
      simp at h1
      subst h1
      generalize dd [] (a.flatMap sT) = T at *
      generalize dd [] (a.flatMap sC) = C at *
      have g1 : ∀ (x y : Cell), (st ++ [x, y])[st.length]? = some x := fun x y => by simp
      have g2 : ∀ (x y : Cell), (st ++ [x, y])[st.length + 1]? = some y := fun x y => by simp [List.getElem?_append]
      have so : ∀ x, dSorted (.v (.ref (st.length + 1))) (st ++ [x, .lst (C.map .int)]) = some (.t ((iSort C).map .int)) := fun x => dSorted_int (by simp [lstM, g2])
      simp [g1, g2, so, show 2 ≤ sLine by decide]
end Ev

/-! ## Ev43 -/
set_option Elab.async false
set_option linter.all false
set_option maxRecDepth 100000
/-! Ev43: visited, marked. -/
namespace Ev
open PySem
@[simp] theorem add_reft (s : List D) (n : Nat) (st : Store) : dAdd (.v (.ref n)) (.t s) st = match lstM st (.v (.ref n)) with
    | some t => if t.length + s.length ≤ sLine then some (.t (t ++ s)) else none
    | none => none := by
  cases h : lstM st (.v (.ref n)) with
  | none => simp [dAdd, h]
  | some t => simp [dAdd, h]
section
variable {α β : Type}
theorem isi_enc (f : α → D) (e : Ex α) (T : String) (st : Store) : dIsi T (.v (e.enc f)) st = some (.v (.bl (isiB "tuple" T))) := by
  cases e <;> rfl
theorem visited_ok {f : α → D} (hf : ∀ v, D.pure (f v) = true) {P : α → Prop} : ∀ (n : Nat) {e : Ex α} (st : Store), e.ok P → e.depth < n → e.subs.length ≤ 1000 → c_l_visited n [e.enc f] st = .ok (.t (e.subs.map (Ex.enc f))) st
  | 0, _, _, _, h, _ => absurd h (Nat.not_lt_zero _)
  | n + 1, e, st, hok, hd, hl => by
    have hsl : sLine = 16777216 := rfl
    have ih := fun {e : Ex α} (st : Store) (h1 : e.ok P) (h2 : e.depth < n) (h3 : e.subs.length ≤ 1000) => visited_ok (f := f) hf n st h1 h2 h3
    have i0 := fun st => enc_0 f e st
    have ii := isi_enc f
    refine call_list ?_ (Ex.pures_enc hf _)
    unfold d_l_visited
    cases e with
    | lit v => simp [i0, Ex.word, Ex.subs, show 1 ≤ sLine by decide]
    | leaf w m =>
      have sl : ∀ st, dSl (.v ((Ex.leaf w m).enc f)) (some 1) none st = some (.v (.tup [.str m])) := fun st => rfl
      have hw : w ≠ wLit ∧ w.length ≤ 30 := by
        have h := hok.1
        simp only [wLeaf, List.mem_cons, List.not_mem_nil, or_false] at h
        rcases h with rfl | rfl | rfl | rfl <;> simp
      generalize hE : (Ex.leaf w m).enc f = E at *
      simp [i0, Ex.word, hw, sl, ii, forL_cons, forL_nil, Ex.subs, hE, show w.length ≤ sLine by omega, show 1 ≤ sLine by decide]
    | slice e a b =>
      simp only [Ex.subs, List.length_cons] at hl
      have i1 := fun st => ih (e := e) st hok.1 (by simp only [Ex.depth] at hd; omega) (by omega)
      have sl : ∀ st, dSl (.v ((Ex.slice e a b).enc f)) (some 1) none st = some (.v (.tup [e.enc f, .int a, .int b])) := fun st => rfl
      generalize hE : (Ex.slice e a b).enc f = E at *
      simp [i0, Ex.word, sl, ii, forL_cons, forL_nil, Ex.subs, i1, hE, show 1 ≤ sLine by decide, show 1 + e.subs.length ≤ sLine by omega]
    | dyn e =>
      simp only [Ex.subs, List.length_cons] at hl
      have i1 := fun st => ih (e := e) st hok (by simp only [Ex.depth] at hd; omega) (by omega)
      have sl : ∀ st, dSl (.v ((Ex.dyn e).enc f)) (some 1) none st = some (.v (.tup [e.enc f])) := fun st => rfl
      generalize hE : (Ex.dyn e).enc f = E at *
      simp [i0, Ex.word, sl, ii, forL_cons, forL_nil, Ex.subs, i1, hE, show 1 ≤ sLine by decide, show 1 + e.subs.length ≤ sLine by omega]
    | two w a b =>
      simp only [Ex.subs, List.length_cons, List.length_append] at hl
      have i1 := fun st => ih (e := a) st hok.2.1 (by simp only [Ex.depth] at hd; omega) (by omega)
      have i2 := fun st => ih (e := b) st hok.2.2 (by simp only [Ex.depth] at hd; omega) (by omega)
      have sl : ∀ st, dSl (.v ((Ex.two w a b).enc f)) (some 1) none st = some (.v (.tup [a.enc f, b.enc f])) := fun st => rfl
      have hw : w ≠ wLit ∧ w.length ≤ 30 := by
        have h := hok.1
        simp only [wTwo, List.mem_cons, List.not_mem_nil, or_false] at h
        rcases h with rfl | rfl | rfl | rfl <;> simp
      generalize hE : (Ex.two w a b).enc f = E at *
      simp [i0, Ex.word, hw, sl, ii, forL_cons, forL_nil, Ex.subs, i1, i2, hE, show w.length ≤ sLine by omega, show 1 ≤ sLine by decide, show 1 + a.subs.length ≤ sLine by omega, show a.subs.length + 1 + b.subs.length ≤ sLine by omega, show 1 + a.subs.length + b.subs.length ≤ sLine by omega]
    | coin k a b =>
      simp only [Ex.subs, List.length_cons, List.length_append] at hl
      have i1 := fun st => ih (e := a) st hok.1 (by simp only [Ex.depth] at hd; omega) (by omega)
      have i2 := fun st => ih (e := b) st hok.2.1 (by simp only [Ex.depth] at hd; omega) (by omega)
      have sl : ∀ st, dSl (.v ((Ex.coin k a b).enc f)) (some 1) none st = some (.v (.tup [.int k, a.enc f, b.enc f])) := fun st => rfl
      generalize hE : (Ex.coin k a b).enc f = E at *
      simp [i0, Ex.word, sl, ii, forL_cons, forL_nil, Ex.subs, i1, i2, hE, show 1 ≤ sLine by decide, show 1 + a.subs.length ≤ sLine by omega, show a.subs.length + 1 + b.subs.length ≤ sLine by omega, show 1 + a.subs.length + b.subs.length ≤ sLine by omega]
    | tri w a b c =>
      simp only [Ex.subs, List.length_cons, List.length_append] at hl
      have i1 := fun st => ih (e := a) st hok.2.1 (by simp only [Ex.depth] at hd; omega) (by omega)
      have i2 := fun st => ih (e := b) st hok.2.2.1 (by simp only [Ex.depth] at hd; omega) (by omega)
      have i3 := fun st => ih (e := c) st hok.2.2.2 (by simp only [Ex.depth] at hd; omega) (by omega)
      have sl : ∀ st, dSl (.v ((Ex.tri w a b c).enc f)) (some 1) none st = some (.v (.tup [a.enc f, b.enc f, c.enc f])) := fun st => rfl
      have hw : w ≠ wLit ∧ w.length ≤ 30 := by
        have h := hok.1
        simp only [wTri, List.mem_cons, List.not_mem_nil, or_false] at h
        rcases h with rfl | rfl <;> simp
      generalize hE : (Ex.tri w a b c).enc f = E at *
      simp [i0, Ex.word, hw, sl, ii, forL_cons, forL_nil, Ex.subs, i1, i2, i3, hE, show w.length ≤ sLine by omega, show 1 ≤ sLine by decide, show 1 + a.subs.length ≤ sLine by omega, show a.subs.length + 1 + b.subs.length ≤ sLine by omega, show 1 + a.subs.length + b.subs.length ≤ sLine by omega, show 1 + a.subs.length + b.subs.length + c.subs.length ≤ sLine by omega, show a.subs.length + (b.subs.length + 1) + c.subs.length ≤ sLine by omega, show a.subs.length + 1 + b.subs.length + c.subs.length ≤ sLine by omega]
      omega
end
/-- an item after the other -/
theorem compL_one {gd : Store → Prop} {t : Tg} {fe : SEnv → Store → R RV} {env env1 : SEnv} {d d' : D} {ds l : List D} {st st1 st2 : Store} (h1 : t.put d env = some env1) (h2 : fe env1 st = .ok (.v d') st1) (h3 : gd st1) (h4 : compL gd t ttYes fe env ds st1 = .ok l st2) : compL gd t ttYes fe env (d :: ds) st = .ok (d' :: l) st2 := by
  simp only [compL, h1, ttYes, R.bindN, if_true, h2, mat_v, R.bind_ok, if_pos h3, h4]
/-- the cell that counts -/
def cel (S : Store) (m : Nat) (c : Int) : Store := S.set m (.lst [.int c])
theorem cel_at {S : Store} {m : Nat} (hm : m < S.length) (c : Int) : (cel S m c)[m]? = some (.lst [.int c]) := List.getElem?_set_self hm
theorem cel_cel (S : Store) (m : Nat) (c c' : Int) : cel (cel S m c) m c' = cel S m c' := by unfold cel; rw [List.set_set]
theorem cel_len (S : Store) (m : Nat) (c : Int) : (cel S m c).length = S.length := List.length_set ..
theorem cel_self {S : Store} {m : Nat} {c : Int} (h : S[m]? = some (.lst [.int c])) : cel S m c = S := by
  apply List.ext_getElem?
  intro i
  have hm : m < S.length := (List.getElem?_eq_some_iff.mp h).1
  unfold cel
  by_cases e : i = m
  · subst e; rw [List.getElem?_set_self hm, h]
  · rw [List.getElem?_set_ne (fun h => e h.symm)]
theorem cel_keep {S : Store} {m : Nat} {c c' : Int} (hm : m < S.length) (i : Nat) (x : Cell) (hx : (cel S m c')[i]? = some x) : (cel S m c)[i]? = some x ∨ Cell.low S.length x = true := by
  unfold cel at hx ⊢
  by_cases e : i = m
  · subst e
    rw [List.getElem?_set_self hm] at hx
    cases hx
    exact .inr rfl
  · rw [List.getElem?_set_ne (fun h => e h.symm)] at hx
    rw [List.getElem?_set_ne (fun h => e h.symm)]
    exact .inl hx
/-- a call that moves the count -/
theorem call_cel {n : Nat} {g : SS} {ds : List D} {S : Store} {m : Nat} {c c' : Int} {d : D} (hm : m < S.length) (h : WpR (g (startE n ds) (cel S m c)) fun a w => a = .v d ∧ ∃ more, w = cel S m c' ++ more) (hd : D.pure d = true) : callB n g ds (cel S m c) = .ok (.v d) (cel S m c') := by
  obtain ⟨a, st', h1, rfl, more, rfl⟩ := h.out
  simp only [callB, h1]
  refine leave_ok (by rw [cel_len, cel_len]) (fun i x hx => ?_) (outV_pure hd)
  rcases cel_keep (c := c) hm i x hx with h | h
  · exact .inl h
  · exact .inr (by rw [cel_len]; exact h)
theorem cel_set (S : Store) (m : Nat) (c c' : Int) : (cel S m c).set m (.lst [.int c']) = cel S m c' := cel_cel S m c c'
inductive MkL (g : List D → Store → R RV) (ch : Int) (m : Nat) (S : Store) : List D → List D → Int → Int → Prop
  | nil {c : Int} : MkL g ch m S [] [] c c
  | cons {d d' : D} {ds ds' : List D} {c c1 c2 : Int} : g [d, .int ch, .ref m] (cel S m c) = .ok (.v d') (cel S m c1) → MkL g ch m S ds ds' c1 c2 → MkL g ch m S (d :: ds) (d' :: ds') c c2
abbrev gSt (ch : Int) : List Nat → Int → List Ch := fun s c => stampL s ch c
abbrev uSt : List Nat → Int → Int := fun s c => c + s.length
def Ex.mark (ch : Int) (e : Ex (List Nat)) (c : Int) : Ex (List Ch) := e.thr (gSt ch) uSt c
theorem marked_str {S : Store} {m : Nat} (hm : m < S.length) {ch : Int} (n : Nat) (w : List Nat) (c : Int) : c_l_marked (n + 1) [.str w, .int ch, .ref m] (cel S m c) = .ok (.v (.str w)) (cel S m c) := by
  refine call_cel hm ?_ rfl
  unfold d_l_marked
  simp
theorem marked_int {S : Store} {m : Nat} (hm : m < S.length) {ch : Int} (n : Nat) (w : Int) (c : Int) : c_l_marked (n + 1) [.int w, .int ch, .ref m] (cel S m c) = .ok (.v (.int w)) (cel S m c) := by
  refine call_cel hm ?_ rfl
  unfold d_l_marked
  simp
theorem marked_ok {P : List Nat → Prop} (hP : ∀ s, P s → s.length ≤ 1000) {S : Store} {m : Nat} (hm : m < S.length) {ch : Int} : ∀ (n : Nat) {e : Ex (List Nat)} (c : Int), e.ok P → e.depth + 1 < n → c_l_marked n [e.enc .str, .int ch, .ref m] (cel S m c) = .ok (.v ((e.mark ch c).enc txD)) (cel S m (e.fin uSt c))
  | 0, _, _, _, h => absurd h (Nat.not_lt_zero _)
  | 1, _, _, _, h => absurd h (by omega)
  | n + 2, e, c, hok, hd => by
    have hsl : sLine = 16777216 := rfl
    have ih := fun {e : Ex (List Nat)} (c : Int) (h1 : e.ok P) (h2 : e.depth + 1 < n + 1) => marked_ok hP hm (ch := ch) (n + 1) c h1 h2
    have a1 := fun w c => marked_str (S := S) hm (ch := ch) n w c
    have a2 := fun w c => marked_int (S := S) hm (ch := ch) n w c
    have ii := isi_enc (f := D.str) e
    have i0 := fun st => enc_0 D.str e st
    have cs := cel_set S m
    have ca := cel_at hm
    refine call_cel hm ?_ (Ex.pure_enc tx_pure _)
    have cm : ∀ (gd : Store → Prop) (E : D) (parts parts' : List D) (c c' : Int), (∀ s, gd s) → parts.length ≤ 4 → MkL (c_l_marked (n + 1)) ch m S parts parts' c c' → compL gd (.one 4) ttYes (eCall (c_l_marked (n + 1)) [] (aCons (eVar 4) (aCons (eVar 1) (aCons (eVar 2) aNil)))) [some E, some (.int ch), some (.ref m), none, none] parts (cel S m c) = .ok parts' (cel S m c') := by
      intro gd E parts parts' c c' hgd hl hk
      induction hk with
      | nil => rfl
      | cons h1 h2 ih2 =>
        refine compL_one rfl ?_ (hgd _) (ih2 (by simp only [List.length_cons] at hl; omega))
        simp [h1]
    cases e with
    | lit s =>
      have b1 := hP s hok
      have b2 := fun a st => stamped_ok (s := s) (ch := ch) (a := a) (st := st) (by omega)
      unfold d_l_marked
      simp [Ex.enc, Ex.mark, Ex.thr, Ex.fin, ca, cs, b2, show s.length ≤ sLine by omega, show 2 ≤ sLine by decide]
    | leaf w k =>
      have hw : w ≠ wLit ∧ w.length ≤ 30 := by
        have h := hok.1
        simp only [wLeaf, List.mem_cons, List.not_mem_nil, or_false] at h
        rcases h with rfl | rfl | rfl | rfl <;> simp
      have mk : MkL (c_l_marked (n + 1)) ch m S [.str w, .str k] [.str w, .str k] c c := .cons (a1 w c) (.cons (a1 k c) .nil)
      have hc := fun (gd : Store → Prop) (E : D) hg => cm gd E _ _ _ _ hg (by simp) mk
      unfold d_l_marked
      simp [Ex.enc, Ex.mark, Ex.thr, Ex.fin, hw, hc, show w.length ≤ sLine by omega, show 2 ≤ sLine by decide, show 3 ≤ sLine by decide, show 4 ≤ sLine by decide]
    | slice e a b =>
      have i1 := ih (e := e) c hok.1 (by simp only [Ex.depth] at hd; omega)
      have mk : MkL (c_l_marked (n + 1)) ch m S _ _ c _ := .cons (a1 wSlice c) (.cons i1 (.cons (a2 a _) (.cons (a2 b _) .nil)))
      have hc := fun (gd : Store → Prop) (E : D) hg => cm gd E _ _ _ _ hg (by simp) mk
      unfold d_l_marked
      simp [Ex.enc, Ex.mark, Ex.thr, Ex.fin, hc, show 2 ≤ sLine by decide, show 3 ≤ sLine by decide, show 4 ≤ sLine by decide]
    | dyn e =>
      have i1 := ih (e := e) c hok (by simp only [Ex.depth] at hd; omega)
      have mk : MkL (c_l_marked (n + 1)) ch m S _ _ c _ := .cons (a1 wDyn c) (.cons i1 .nil)
      have hc := fun (gd : Store → Prop) (E : D) hg => cm gd E _ _ _ _ hg (by simp) mk
      unfold d_l_marked
      simp [Ex.enc, Ex.mark, Ex.thr, Ex.fin, hc, show 2 ≤ sLine by decide, show 3 ≤ sLine by decide, show 4 ≤ sLine by decide]
    | two w a b =>
      have hw : w ≠ wLit ∧ w.length ≤ 30 := by
        have h := hok.1
        simp only [wTwo, List.mem_cons, List.not_mem_nil, or_false] at h
        rcases h with rfl | rfl | rfl | rfl <;> simp
      have i1 := ih (e := a) c hok.2.1 (by simp only [Ex.depth] at hd; omega)
      have i2 := ih (e := b) (a.fin uSt c) hok.2.2 (by simp only [Ex.depth] at hd; omega)
      have mk : MkL (c_l_marked (n + 1)) ch m S _ _ c _ := .cons (a1 w c) (.cons i1 (.cons i2 .nil))
      have hc := fun (gd : Store → Prop) (E : D) hg => cm gd E _ _ _ _ hg (by simp) mk
      unfold d_l_marked
      simp [Ex.enc, Ex.mark, Ex.thr, Ex.fin, hw, hc, show w.length ≤ sLine by omega, show 2 ≤ sLine by decide, show 3 ≤ sLine by decide, show 4 ≤ sLine by decide]
    | coin k a b =>
      have i1 := ih (e := a) c hok.1 (by simp only [Ex.depth] at hd; omega)
      have i2 := ih (e := b) (a.fin uSt c) hok.2.1 (by simp only [Ex.depth] at hd; omega)
      have mk : MkL (c_l_marked (n + 1)) ch m S _ _ c _ := .cons (a1 wCoin c) (.cons (a2 k c) (.cons i1 (.cons i2 .nil)))
      have hc := fun (gd : Store → Prop) (E : D) hg => cm gd E _ _ _ _ hg (by simp) mk
      unfold d_l_marked
      simp [Ex.enc, Ex.mark, Ex.thr, Ex.fin, hc, show 2 ≤ sLine by decide, show 3 ≤ sLine by decide, show 4 ≤ sLine by decide]
    | tri w a b d =>
      have hw : w ≠ wLit ∧ w.length ≤ 30 := by
        have h := hok.1
        simp only [wTri, List.mem_cons, List.not_mem_nil, or_false] at h
        rcases h with rfl | rfl <;> simp
      have i1 := ih (e := a) c hok.2.1 (by simp only [Ex.depth] at hd; omega)
      have i2 := ih (e := b) (a.fin uSt c) hok.2.2.1 (by simp only [Ex.depth] at hd; omega)
      have i3 := ih (e := d) (b.fin uSt (a.fin uSt c)) hok.2.2.2 (by simp only [Ex.depth] at hd; omega)
      have mk : MkL (c_l_marked (n + 1)) ch m S _ _ c _ := .cons (a1 w c) (.cons i1 (.cons i2 (.cons i3 .nil)))
      have hc := fun (gd : Store → Prop) (E : D) hg => cm gd E _ _ _ _ hg (by simp) mk
      unfold d_l_marked
      simp [Ex.enc, Ex.mark, Ex.thr, Ex.fin, hw, hc, show w.length ≤ sLine by omega, show 2 ≤ sLine by decide, show 3 ≤ sLine by decide, show 4 ≤ sLine by decide]
end Ev

/-! ## Ev44 -/
set_option Elab.async false
set_option linter.all false
set_option maxRecDepth 100000
/-! Ev44: expressions drawn. -/
namespace Ev
open PySem
theorem xname_at (T : Tp) (rest : Store) {s : List Nat} (hs : s.length ≤ 13) (hc : cpsOk s = true) : ∃ (x : List Nat) (T' : Tp), c_l_name [.ref 1, .str s] (mk T rest) = .ok (.v (.str x)) (mk T' rest) ∧ x ≠ [] ∧ x.length ≤ 16 ∧ cpsOk x = true ∧ T'.xs = T.xs := by
  have hsl : sLine = 16777216 := rfl
  have main : Wp (c_l_name [.ref 1, .str s] (mk T rest)) fun a w => ∃ (x : List Nat) (T' : Tp), a = .v (.str x) ∧ w = mk T' rest ∧ x ≠ [] ∧ x.length ≤ 16 ∧ cpsOk x = true ∧ T'.xs = T.xs := by
    refine wpc ?_
    have key : ∀ (x : List Nat) (T' : Tp), x ≠ [] → x.length ≤ 16 → cpsOk x = true → T'.xs = T.xs → Lv (mk T rest) (fun a w => ∃ (x : List Nat) (T' : Tp), a = .v (.str x) ∧ w = mk T' rest ∧ x ≠ [] ∧ x.length ≤ 16 ∧ cpsOk x = true ∧ T'.xs = T.xs) (.v (.str x)) (mk T' rest) :=
      fun x T' a1 a2 a3 a4 => Lv.out0 a4.symm rfl ⟨x, T', rfl, rfl, a1, a2, a3, a4⟩
    generalize Lv (mk T rest) _ = Q at key ⊢
    refine hide ([97, 98, 99, 100, 101, 102, 103, 104, 105, 106, 107, 108, 109, 110, 111, 112, 113, 114, 115, 116, 117, 118, 119, 120, 121, 122, 48, 49, 50, 51, 52, 53, 54, 55, 56, 57, 45, 46, 47] : List Nat) fun sg hsg => ?_
    have sg1 : sg.length = 39 ∧ cpsOk sg = true := by rw [hsg]; decide
    have sg0 : sg ≠ [] := fun z => by rw [z] at sg1; simp at sg1
    have one : ∀ T, cpsOk [pk sg T] = true := fun T => by
      have := sg1.2
      have pmm := pk_mem (l := sg) (T := T) sg0
      simp only [cpsOk, List.all_eq_true, decide_eq_true_eq] at this ⊢
      intro x hx
      simp at hx; subst hx
      exact this _ pmm
    have pm := fun T => pk_at sg T 39 (by omega) sg0
    have hm := pk_mem (l := [(0 : Int), 0, 1, 2]) (T := nx T 39) (by simp)
    have em : L2.atI [D.int 0, D.int 0, D.int 1, D.int 2] (dr (nx T 39) 4) = some (.int (pk [(0 : Int), 0, 1, 2] (nx T 39))) := pk_map (f := D.int) (l := [(0 : Int), 0, 1, 2]) rfl (by simp)
    generalize pk [(0 : Int), 0, 1, 2] (nx T 39) = r at hm em
    have hr : 0 ≤ r ∧ r ≤ 2 := by simp at hm; omega
    unfold d_l_name
    rw [← hsg]
    simp [draw_at, em, pm, show 4 ≤ sLine by decide, show sg.length ≤ sLine by omega, show s.length + 1 ≤ sLine by omega]
    clear hsg
    refine ⟨rOk_of (by omega) (by omega), ?_⟩
    refine hide (α := LI) (fun ds e w => ∃ (nm : List Nat) (T1 : Tp) (x4 : Option D), nm.length + ds.length ≤ 16 ∧ nm ≠ [] ∧ cpsOk nm = true ∧ T1.xs = T.xs ∧ e = [some (.ref 1), some (.str s), some (.str sg), some (.str nm), x4] ∧ w = mk T1 rest) fun J hJ => ?_
    refine wp_forS J (by
      rw [hJ]
      exact ⟨s ++ [pk sg T], _, none, by rw [rngL_len]; simp; omega, by simp, cpsOk_app hc (one _), by rw [nx_xs, nx_xs], rfl, rfl⟩) ?_ ?_
    · intro d ds e w h
      rw [hJ] at h
      obtain ⟨nm, T1, x4, hl, h0, h1, hx, rfl, rfl⟩ := h
      simp only [List.length_cons] at hl
      refine ⟨_, rfl, ?_⟩
      simp [draw_at, pm, show sg.length ≤ sLine by omega, show nm.length + 1 ≤ sLine by omega]
      rw [hJ]
      exact ⟨nm ++ [pk sg T1], _, _, by simp; omega, by simp, cpsOk_app h1 (one _), by rw [nx_xs, hx], rfl, rfl⟩
    · intro e w h
      rw [hJ] at h
      obtain ⟨nm, T1, x4, hl, h0, h1, hx, rfl, rfl⟩ := h
      simp only [List.length_nil] at hl
      simp
      exact key nm T1 h0 (by omega) h1 hx
  obtain ⟨a, w, e, l, T', rfl, rfl, h⟩ := main.out
  exact ⟨l, T', e, h⟩
/-- names that are drawn -/
structure Nms (nm : List (List Nat)) : Prop where
  ne : nm ≠ []
  len : nm.length ≤ 20
  each : ∀ x ∈ nm, x ≠ [] ∧ x.length ≤ 30 ∧ cpsOk x = true
theorem Nms.one {x : List Nat} (h : x ≠ [] ∧ x.length ≤ 30 ∧ cpsOk x = true) : Nms [x] := ⟨by simp, by simp, by simpa using h⟩
theorem xnames_at (T : Tp) (rest : Store) {most : Int} (h0 : 1 ≤ most) (h1 : most ≤ 19) : ∃ (l : List (List Nat)) (T' : Tp), c_l_xnames [.ref 1, .int most] (mk T rest) = .ok (.t (l.map .str)) (mk T' rest) ∧ Nms l ∧ T'.xs = T.xs := by
  have hsl : sLine = 16777216 := rfl
  have main : Wp (c_l_xnames [.ref 1, .int most] (mk T rest)) fun a w => ∃ (l : List (List Nat)) (T' : Tp), a = .t (l.map .str) ∧ w = mk T' rest ∧ Nms l ∧ T'.xs = T.xs := by
    refine wpc ?_
    have key : ∀ (l : List (List Nat)) (T' : Tp), Nms l → T'.xs = T.xs → Lv (mk T rest) (fun a w => ∃ (l : List (List Nat)) (T' : Tp), a = .t (l.map .str) ∧ w = mk T' rest ∧ Nms l ∧ T'.xs = T.xs) (.v (.ref (rest.length + 2))) (mk T' (rest ++ [.lst (l.map .str)])) :=
      fun l T' a1 a5 => Lv.outR a5.symm (pures_str _) ⟨l, T', rfl, rfl, a1, a5⟩
    generalize Lv (mk T rest) _ = Q at key ⊢
    have hm := pk_mem (l := [([] : List Nat), [], [100, 111, 99, 115, 47, 114, 101, 108, 101, 97, 115, 101, 47]]) (T := T) (by simp)
    have em : L2.atI [D.str [], D.str [], D.str [100, 111, 99, 115, 47, 114, 101, 108, 101, 97, 115, 101, 47]] (dr T 3) = some (.str (pk [([] : List Nat), [], [100, 111, 99, 115, 47, 114, 101, 108, 101, 97, 115, 101, 47]] T)) := pk_map (f := D.str) (l := [([] : List Nat), [], [100, 111, 99, 115, 47, 114, 101, 108, 101, 97, 115, 101, 47]]) rfl (by simp)
    generalize pk [([] : List Nat), [], [100, 111, 99, 115, 47, 114, 101, 108, 101, 97, 115, 101, 47]] T = stem at hm em
    have hst : stem.length ≤ 13 ∧ cpsOk stem = true := by
      simp at hm
      rcases hm with rfl | rfl <;> exact ⟨by decide, by decide⟩
    obtain ⟨x, T1, e1, x1, x2, x3, hx1⟩ := xname_at (nx T 3) rest hst.1 hst.2
    have d0 := dr_nn T1 most
    have d1 := dr_lt T1 most (by omega)
    have dl : most < 1073741824 := by omega
    unfold d_l_xnames
    simp [draw_at, em, e1, dl, show 3 ≤ sLine by decide, show 1 ≤ sLine by decide]
    refine ⟨rOk_of (by omega) (by omega), ?_⟩
    have nin : ∀ (L : List (List Nat)) (T : Tp) (x : List Nat), cpsOk x = true → (∀ y ∈ L, cpsOk y = true) → dNotIn (.v (.str x)) (.v (.ref (rest.length + 2))) (mk T (rest ++ [.lst (L.map .str)])) = some (.v (.bl (!decide (x ∈ L)))) := by
      intro L T x hx hL
      have := dNotIn_ref (st := mk T (rest ++ [.lst (L.map .str)])) (a := .str x) (n := rest.length + 2) (l := L.map .str) (by simpa [D.ok] using hx) (oks_map fun y hy => by simpa [D.ok] using hL y hy) (by simp)
      rw [this]
      congr 4
      simp
    refine hide (α := LI) (fun ds e w => ∃ (y : List Nat) (L : List (List Nat)) (T' : Tp) (x4 x5 : Option D), L.length + 1 + ds.length ≤ 20 ∧ Nms (y :: L) ∧ T'.xs = T.xs ∧ e = [some (.ref 1), some (.int most), some (.str stem), some (.ref (rest.length + 2)), x4, x5] ∧ w = mk T' (rest ++ [.lst ((y :: L).map .str)])) fun I hI => ?_
    refine wp_forS I (by
      rw [hI]
      exact ⟨x, [], _, none, none, by rw [rngL_len]; simp; omega, Nms.one ⟨x1, by omega, x3⟩, by rw [nx_xs, hx1, nx_xs], rfl, rfl⟩) ?_ ?_
    · intro d ds e w h
      rw [hI] at h
      obtain ⟨y, L, T', x4, x5, hl, hN, hx, rfl, rfl⟩ := h
      simp only [List.length_cons] at hl
      refine ⟨_, rfl, ?_⟩
      obtain ⟨z, T2, e2, z1, z2, z3, hx2⟩ := xname_at T' (rest ++ [.lst ((y :: L).map .str)]) hst.1 hst.2
      have hy := hN.each y (List.mem_cons_self ..)
      obtain ⟨last, hlast⟩ : ∃ c, L2.atI z (-1) = some c ∧ c ∈ z := by
        have hz := List.dropLast_concat_getLast z1
        refine ⟨z.getLast z1, ?_, List.getLast_mem z1⟩
        conv => lhs; rw [← hz]
        exact L2.atI_last _ _
      have hlc : cpsOk [last] = true := by
        simp only [cpsOk, List.all_eq_true, decide_eq_true_eq] at z3 ⊢
        intro x hx
        simp at hx; subst hx
        exact z3 _ hlast.2
      have go : ∀ v, v ≠ [] ∧ v.length ≤ 30 ∧ cpsOk v = true → ∀ x4 x5, I ds [some (.ref 1), some (.int most), some (.str stem), some (.ref (rest.length + 2)), x4, x5] (mk (nx T2 4) (rest ++ [.lst ((y :: L).map .str ++ [.str v])])) := by
        intro v hv x4 x5
        rw [hI]
        refine ⟨y, L ++ [v], nx T2 4, _, _, by simp; omega, ⟨by simp, by have := hN.len; simp at this ⊢; omega, ?_⟩, by rw [nx_xs, hx2, hx], rfl, by simp⟩
        intro x hx
        simp only [List.mem_cons, List.mem_append, List.not_mem_nil, or_false] at hx
        rcases hx with rfl | hx | rfl
        · exact hy
        · exact hN.each x (List.mem_cons_of_mem _ hx)
        · exact hv
      have go0 : ∀ x4 x5, I ds [some (.ref 1), some (.int most), some (.str stem), some (.ref (rest.length + 2)), x4, x5] (mk (nx T2 4) (rest ++ [.lst ((y :: L).map .str)])) := by
        intro x4 x5
        rw [hI]
        exact ⟨y, L, nx T2 4, _, _, by omega, hN, by rw [nx_xs, hx2, hx], rfl, rfl⟩
      have ni := fun T x h => nin (y :: L) T x h fun v hv => (hN.each v hv).2.2
      have vt : cut (y ++ [last]) none (some 16) = (y ++ [last]).take 16 := cut_to _ 16
      have v1 : (y ++ [last]).take 16 ≠ [] ∧ ((y ++ [last]).take 16).length ≤ 30 ∧ cpsOk ((y ++ [last]).take 16) = true := by
        refine ⟨?_, ?_, ?_⟩
        · cases y <;> simp
        · rw [List.length_take]; omega
        · rw [← vt]; exact cps_cut (cpsOk_app hy.2.2 hlc)
      generalize (y ++ [last]).take 16 = v at vt v1
      have n1 := fun T => ni T v v1.2.2
      have n2 := fun T => ni T z z3
      simp only [List.map_cons] at n1 n2 e2 go go0
      have gov := go v v1
      have goz := go z ⟨z1, by omega, z3⟩
      have ll : L.length + 1 < sLine := by omega
      by_cases h4 : dr T2 4 = 0
      · by_cases hin : v ∈ y :: L
        · have n1' : ∀ T, dNotIn (.v (.str v)) (.v (.ref (rest.length + 2))) (mk T (rest ++ [.lst (D.str y :: L.map D.str)])) = some (.v (.bl false)) := fun T => by rw [n1 T, decide_eq_true hin]; rfl
          simp [e2, draw_at, h4, hlast.1, vt, show y.length + 1 ≤ sLine by omega, n1', show z.length ≤ sLine by omega]
          exact go0 _ _
        · have n1' : ∀ T, dNotIn (.v (.str v)) (.v (.ref (rest.length + 2))) (mk T (rest ++ [.lst (D.str y :: L.map D.str)])) = some (.v (.bl true)) := fun T => by rw [n1 T, decide_eq_false hin]; rfl
          simp [e2, draw_at, h4, hlast.1, vt, show y.length + 1 ≤ sLine by omega, n1', show z.length ≤ sLine by omega, ll]
          exact gov _ _
      · by_cases hin : z ∈ y :: L
        · have n2' : ∀ T, dNotIn (.v (.str z)) (.v (.ref (rest.length + 2))) (mk T (rest ++ [.lst (D.str y :: L.map D.str)])) = some (.v (.bl false)) := fun T => by rw [n2 T, decide_eq_true hin]; rfl
          simp [e2, draw_at, h4, n2']
          exact go0 _ _
        · have n2' : ∀ T, dNotIn (.v (.str z)) (.v (.ref (rest.length + 2))) (mk T (rest ++ [.lst (D.str y :: L.map D.str)])) = some (.v (.bl true)) := fun T => by rw [n2 T, decide_eq_false hin]; rfl
          simp [e2, draw_at, h4, n2', ll]
          exact goz _ _
    · intro e w h
      rw [hI] at h
      obtain ⟨y, L, T', x4, x5, hl, hN, hx, rfl, rfl⟩ := h
      simp
      exact key (y :: L) T' hN hx
  obtain ⟨a, w, e, l, T', rfl, rfl, h⟩ := main.out
  exact ⟨l, T', e, h⟩
/-- a literal -/
theorem literal_at (T : Tp) (rest : Store) : ∃ (s : List Nat) (T' : Tp), c_l_literal [.ref 1] (mk T rest) = .ok (.v (.str s)) (mk T' rest) ∧ s.length ≤ 61 ∧ cpsOk s = true ∧ T'.xs = T.xs := by
  have hsl : sLine = 16777216 := rfl
  have main : Wp (c_l_literal [.ref 1] (mk T rest)) fun a w => ∃ (s : List Nat) (T' : Tp), a = .v (.str s) ∧ w = mk T' rest ∧ s.length ≤ 61 ∧ cpsOk s = true ∧ T'.xs = T.xs := by
    refine wpc ?_
    have key : ∀ (s : List Nat) (T' : Tp), s.length ≤ 61 → cpsOk s = true → T'.xs = T.xs → Lv (mk T rest) (fun a w => ∃ (s : List Nat) (T' : Tp), a = .v (.str s) ∧ w = mk T' rest ∧ s.length ≤ 61 ∧ cpsOk s = true ∧ T'.xs = T.xs) (.v (.str s)) (mk T' rest) :=
      fun s T' a1 a2 a3 => Lv.out0 a3.symm rfl ⟨s, T', rfl, rfl, a1, a2, a3⟩
    generalize Lv (mk T rest) _ = Q at key ⊢
    have c0 := dr_nn T 14
    have c1 := dr_lt T 14 (by decide)
    have hT : (nx T 14).xs = T.xs := nx_xs ..
    have dT := draw_at T 14 rest (by decide)
    generalize dr T 14 = c at *
    generalize nx T 14 = T1 at *
    unfold d_l_literal
    by_cases h : c < 2
    · have hc : c = 0 ∨ c = 1 := by omega
      rcases hc with rfl | rfl
      · simp [dT]
        exact ⟨by omega, by omega, key _ _ (by decide) (by decide) hT⟩
      · simp [dT]
        refine ⟨by omega, by omega, ?_⟩
        exact key _ _ (by decide) (by decide) hT
    · obtain ⟨r, hr, r0, r1⟩ : ∃ r : Int, L2.atI [D.int 0, D.int 0, D.int 0, D.int 1, D.int 1, D.int 2, D.int 3] (c % 7) = some (.int r) ∧ 0 ≤ r ∧ r ≤ 3 := by
        have : c % 7 = 0 ∨ c % 7 = 1 ∨ c % 7 = 2 ∨ c % 7 = 3 ∨ c % 7 = 4 ∨ c % 7 = 5 ∨ c % 7 = 6 := by omega
        rcases this with e | e | e | e | e | e | e <;> rw [e] <;> exact ⟨_, rfl, by decide, by decide⟩
      obtain ⟨s, T2, e2, s1, s2, s3⟩ := string_at T1 rest (n := r) r0 (by omega)
      simp [dT, h, hr, e2, show 7 ≤ sLine by omega]
      exact key _ _ (by omega) s2 (by rw [s3, hT])
  obtain ⟨a, w, e, l, T', rfl, rfl, h⟩ := main.out
  exact ⟨l, T', e, h⟩
/-- a literal that is drawn -/
def PL (s : List Nat) : Prop := s.length ≤ 61 ∧ cpsOk s = true
theorem leaf_at (T : Tp) {nm : List (List Nat)} (N : Nms nm) (more : Store) : ∃ (e : Ex (List Nat)) (T' : Tp), c_l_leaf [.ref 1, .ref 2] (mk T (.lst (nm.map .str) :: more)) = .ok (.v (e.enc .str)) (mk T' (.lst (nm.map .str) :: more)) ∧ e.ok PL ∧ e.depth = 0 ∧ e.subs.length = 1 ∧ T'.xs = T.xs := by
  have hsl : sLine = 16777216 := rfl
  have main : Wp (c_l_leaf [.ref 1, .ref 2] (mk T (.lst (nm.map .str) :: more))) fun a w => ∃ (e : Ex (List Nat)) (T' : Tp), a = .v (e.enc .str) ∧ w = mk T' (.lst (nm.map .str) :: more) ∧ e.ok PL ∧ e.depth = 0 ∧ e.subs.length = 1 ∧ T'.xs = T.xs := by
    refine wpc ?_
    have key : ∀ (e : Ex (List Nat)) (T' : Tp), e.ok PL → e.depth = 0 → e.subs.length = 1 → T'.xs = T.xs → Lv (mk T (.lst (nm.map .str) :: more)) (fun a w => ∃ (e : Ex (List Nat)) (T' : Tp), a = .v (e.enc .str) ∧ w = mk T' (.lst (nm.map .str) :: more) ∧ e.ok PL ∧ e.depth = 0 ∧ e.subs.length = 1 ∧ T'.xs = T.xs) (.v (e.enc .str)) (mk T' (.lst (nm.map .str) :: more)) :=
      fun s T' a1 a2 a3 a4 => Lv.out0 a4.symm (Ex.pure_enc (fun _ => rfl) _) ⟨s, T', rfl, rfl, a1, a2, a3, a4⟩
    generalize Lv (mk T (.lst (nm.map .str) :: more)) _ = Q at key ⊢
    have c0 := dr_nn T 9
    have c1 := dr_lt T 9 (by decide)
    have hT : (nx T 9).xs = T.xs := nx_xs ..
    have dT := draw_at T 9 (.lst (nm.map .str) :: more) (by decide)
    generalize dr T 9 = c at *
    generalize nx T 9 = T1 at *
    have nl := N.len
    have dn : L2.atI (nm.map D.str) (dr T1 nm.length) = some (.str (pk nm T1)) := pk_map rfl N.ne
    have hx := N.each _ (pk_mem (T := T1) N.ne)
    have hT2 : (nx T1 nm.length).xs = T.xs := by rw [nx_xs, hT]
    have d2 := draw_at T1 nm.length (.lst (nm.map .str) :: more) (by omega)
    generalize pk nm T1 = x at *
    generalize nx T1 nm.length = T2 at *
    unfold d_l_leaf
    by_cases h : c < 4
    · obtain ⟨s, T3, e3, s1, s2, s3⟩ := literal_at T2 (.lst (nm.map .str) :: more)
      simp [dT, d2, dn, h, e3, show nm.length ≤ sLine by omega, show 2 ≤ sLine by omega]
      exact key (.lit s) T3 ⟨s1, s2⟩ rfl rfl (by rw [s3, hT2])
    by_cases h4 : c = 4
    · have a0 := dr_nn T2 (x.length + 1)
      have ax := nx_xs T2 (x.length + 1)
      have ad := draw_at T2 (x.length + 1) (.lst (nm.map .str) :: more) (by omega)
      simp [dT, d2, dn, h4, ad, show nm.length ≤ sLine by omega, show x.length ≤ sLine by omega, show 2 ≤ sLine by omega]
      exact key (.leaf _ _) _ ⟨by simp [wLeaf], cps_cut hx.2.2, Nat.le_trans (cut_len _ _ _) (by omega)⟩ rfl rfl (by rw [ax, hT2])
    · have : c = 5 ∨ c = 6 ∨ c = 7 ∨ c = 8 := by omega
      rcases this with rfl | rfl | rfl | rfl
      · simp [dT, d2, dn, show nm.length ≤ sLine by omega, show 2 ≤ sLine by omega, show 4 ≤ sLine by omega]
        exact key (.leaf _ _) _ ⟨by simp [wLeaf], hx.2.2, by omega⟩ rfl rfl hT2
      · simp [dT, d2, dn, show nm.length ≤ sLine by omega, show 2 ≤ sLine by omega, show 4 ≤ sLine by omega]
        exact key (.leaf _ _) _ ⟨by simp [wLeaf], hx.2.2, by omega⟩ rfl rfl hT2
      · simp [dT, d2, dn, show nm.length ≤ sLine by omega, show 2 ≤ sLine by omega, show 4 ≤ sLine by omega]
        exact key (.leaf _ _) _ ⟨by simp [wLeaf], hx.2.2, by omega⟩ rfl rfl hT2
      · simp [dT, d2, dn, show nm.length ≤ sLine by omega, show 2 ≤ sLine by omega, show 4 ≤ sLine by omega]
        exact key (.leaf _ _) _ ⟨by simp [wLeaf], hx.2.2, by omega⟩ rfl rfl hT2
  obtain ⟨a, w, e, l, T', rfl, rfl, h⟩ := main.out
  exact ⟨l, T', e, h⟩
def sz : Nat → Nat
  | 0 => 1
  | n + 1 => 3 * sz n + 1
theorem expr_at {nm : List (List Nat)} (N : Nms nm) (b : Bool) (more : Store) : ∀ (k n : Nat) (d : Int) (T : Tp), d = n + 1 → n < k → ∃ (e : Ex (List Nat)) (T' : Tp), c_l_expression k [.ref 1, .ref 2, .int d, .bl b] (mk T (.lst (nm.map .str) :: more)) = .ok (.v (e.enc .str)) (mk T' (.lst (nm.map .str) :: more)) ∧ e.ok PL ∧ e.depth ≤ n ∧ e.subs.length ≤ sz n ∧ T'.xs = T.xs
  | 0, n, _, _, _, h => absurd h (Nat.not_lt_zero _)
  | k + 1, n, d, T, hd, hn => by
    have hsl : sLine = 16777216 := rfl
    have main : Wp (c_l_expression (k + 1) [.ref 1, .ref 2, .int d, .bl b] (mk T (.lst (nm.map .str) :: more))) fun a w => ∃ (e : Ex (List Nat)) (T' : Tp), a = .v (e.enc .str) ∧ w = mk T' (.lst (nm.map .str) :: more) ∧ e.ok PL ∧ e.depth ≤ n ∧ e.subs.length ≤ sz n ∧ T'.xs = T.xs := by
      have ih := expr_at N b more k
      refine wpc ?_
      have key : ∀ (e : Ex (List Nat)) (T' : Tp), e.ok PL → e.depth ≤ n → e.subs.length ≤ sz n → T'.xs = T.xs → Lv (mk T (.lst (nm.map .str) :: more)) (fun a w => ∃ (e : Ex (List Nat)) (T' : Tp), a = .v (e.enc .str) ∧ w = mk T' (.lst (nm.map .str) :: more) ∧ e.ok PL ∧ e.depth ≤ n ∧ e.subs.length ≤ sz n ∧ T'.xs = T.xs) (.v (e.enc .str)) (mk T' (.lst (nm.map .str) :: more)) :=
        fun s T' a1 a2 a3 a4 => Lv.out0 a4.symm (Ex.pure_enc (fun _ => rfl) _) ⟨s, T', rfl, rfl, a1, a2, a3, a4⟩
      generalize Lv (mk T (.lst (nm.map .str) :: more)) _ = Q at key ⊢
      generalize hR : (Cell.lst (nm.map .str) :: more) = R at *
      have szp : ∀ n, 1 ≤ sz n := fun n => by cases n <;> simp [sz]
      have c0 := dr_nn T 18
      have c1 := dr_lt T 18 (by decide)
      have hT : (nx T 18).xs = T.xs := nx_xs ..
      have dT := draw_at T 18 R (by decide)
      generalize dr T 18 = c at *
      generalize nx T 18 = T1 at *
      unfold d_l_expression
      by_cases h0 : d < 2
      · have := leaf_at T1 N more
        rw [hR] at this
        obtain ⟨e, T2, e2, a1, a2, a3, a4⟩ := this
        simp [dT, h0, e2]
        exact key e T2 a1 (by omega) (by have := szp n; omega) (by rw [a4, hT])
      by_cases h1 : c > 12
      · have := leaf_at T1 N more
        rw [hR] at this
        obtain ⟨e, T2, e2, a1, a2, a3, a4⟩ := this
        simp [dT, h0, h1, e2]
        exact key e T2 a1 (by omega) (by have := szp n; omega) (by rw [a4, hT])
      cases n with
      | zero => omega
      | succ n =>
        have hd1 : d - 1 = n + 1 := by omega
        obtain ⟨e1, T2, q1, a1, a2, a3, a4⟩ := ih n (d - 1) T1 hd1 (by omega)
        have a5 : T2.xs = T.xs := by rw [a4, hT]
        by_cases h3 : c < 3
        · have m1 := pk_mem (l := [(0 : Int), 0, 1, 2, 3, 120]) (T := T2) (by simp)
          have k1 : L2.atI [D.int 0, D.int 0, D.int 1, D.int 2, D.int 3, D.int 120] (dr T2 6) = some (.int (pk [(0 : Int), 0, 1, 2, 3, 120] T2)) := pk_map (f := D.int) (l := [(0 : Int), 0, 1, 2, 3, 120]) rfl (by simp)
          generalize pk [(0 : Int), 0, 1, 2, 3, 120] T2 = u at m1 k1
          have d2 := draw_at T2 6 R (by decide)
          have x2 := nx_xs T2 6
          generalize nx T2 6 = T3 at *
          have m2 := pk_mem (l := [(0 : Int), 1, 2, 4, 119, 1000000000]) (T := T3) (by simp)
          have k2 : L2.atI [D.int 0, D.int 1, D.int 2, D.int 4, D.int 119, D.int 1000000000] (dr T3 6) = some (.int (pk [(0 : Int), 1, 2, 4, 119, 1000000000] T3)) := pk_map (f := D.int) (l := [(0 : Int), 1, 2, 4, 119, 1000000000]) rfl (by simp)
          generalize pk [(0 : Int), 1, 2, 4, 119, 1000000000] T3 = v at m2 k2
          have d3 := draw_at T3 6 R (by decide)
          have x3 := nx_xs T3 6
          generalize nx T3 6 = T4 at *
          have hu : u.natAbs < 10 ^ 12 := by simp at m1; omega
          have hv : v.natAbs < 10 ^ 12 := by simp at m2; omega
          simp [dT, h0, h1, h3, q1, k1, k2, d2, d3, show 6 ≤ sLine by omega, show 4 ≤ sLine by omega]
          exact key (.slice e1 u v) T4 ⟨a1, hu, hv⟩ (by simp only [Ex.depth]; omega) (by simp only [Ex.subs, List.length_cons, sz]; omega) (by rw [x3, x2, a5])
        by_cases h4 : c = 3
        · simp [dT, h0, h1, h4, q1, show 2 ≤ sLine by omega]
          exact key (.dyn e1) T2 a1 (by simp only [Ex.depth]; omega) (by simp only [Ex.subs, List.length_cons, sz]; omega) a5
        obtain ⟨e2, T3, q2, b1, b2, b3, b4⟩ := ih n (d - 1) T2 hd1 (by omega)
        have b5 : T3.xs = T.xs := by rw [b4, a5]
        have two : ∀ w, w ∈ wTwo → Q (.v ((Ex.two w e1 e2).enc .str)) (mk T3 R) := fun w hw => key (.two w e1 e2) T3 ⟨hw, a1, b1⟩ (by simp only [Ex.depth]; omega) (by simp only [Ex.subs, List.length_cons, List.length_append, sz]; omega) b5
        by_cases h7 : c < 7
        · simp [dT, h0, h1, h3, h4, h7, q1, q2, show 3 ≤ sLine by omega]
          exact two _ (by simp [wTwo])
        by_cases h10 : c < 10
        · have : c = 7 ∨ c = 8 ∨ c = 9 := by omega
          rcases this with rfl | rfl | rfl
          · simp [dT, h0, q1, q2, show 3 ≤ sLine by omega]
            exact two _ (by simp [wTwo])
          · simp [dT, h0, q1, q2, show 3 ≤ sLine by omega]
            exact two _ (by simp [wTwo])
          · simp [dT, h0, q1, q2, show 3 ≤ sLine by omega]
            exact two _ (by simp [wTwo])
        by_cases hb : c = 10 ∧ b = true
        · have g0 := dr_nn T3 3
          have g1 := dr_lt T3 3 (by decide)
          have d3 := draw_at T3 3 R (by decide)
          have x3 := nx_xs T3 3
          obtain ⟨rfl, rfl⟩ := hb
          simp [dT, h0, q1, q2, d3, show 4 ≤ sLine by omega]
          exact key (.coin (dr T3 3) e1 e2) _ ⟨a1, b1, by omega⟩ (by simp only [Ex.depth]; omega) (by simp only [Ex.subs, List.length_cons, List.length_append, sz]; omega) (by rw [x3, b5])
        · obtain ⟨e3, T4, q3, g1, g2, g3, g4⟩ := ih n (d - 1) T3 hd1 (by omega)
          have tri : ∀ w, w ∈ wTri → Q (.v ((Ex.tri w e1 e2 e3).enc .str)) (mk T4 R) := fun w hw => key (.tri w e1 e2 e3) T4 ⟨hw, a1, b1, g1⟩ (by simp only [Ex.depth]; omega) (by simp only [Ex.subs, List.length_cons, List.length_append, sz]; omega) (by rw [g4, b5])
          have : c = 10 ∨ c = 11 ∨ c = 12 := by omega
          rcases this with rfl | rfl | rfl
          · have hbf : b = false := by
              cases b with
              | false => rfl
              | true => exact absurd ⟨rfl, rfl⟩ hb
            subst hbf
            simp [dT, h0, q1, q2, q3, show 4 ≤ sLine by omega, show 2 ≤ sLine by omega]
            exact tri _ (by simp [wTri])
          · simp [dT, h0, q1, q2, q3, show 4 ≤ sLine by omega, show 2 ≤ sLine by omega]
            exact tri _ (by simp [wTri])
          · simp [dT, h0, q1, q2, q3, show 4 ≤ sLine by omega, show 2 ≤ sLine by omega]
            exact tri _ (by simp [wTri])
    obtain ⟨a, w, e, l, T', rfl, rfl, h⟩ := main.out
    exact ⟨l, T', e, h⟩
end Ev

/-! ## Ev45 -/
set_option Elab.async false
set_option linter.all false
set_option maxRecDepth 100000
/-! Ev45: marked in the law's store; repr of references. -/
namespace Ev
open PySem
theorem mark_mk {P : List Nat → Prop} (hP : ∀ s, P s → s.length ≤ 1000) (T : Tp) (rest : Store) {ch c : Int} {e : Ex (List Nat)} (h : e.ok P) (hd : e.depth < 7) : c_l_marked 8 [e.enc .str, .int ch, .ref (rest.length + 2)] (mk T (rest ++ [.lst [.int c]])) = .ok (.v ((e.mark ch c).enc txD)) (mk T (rest ++ [.lst [.int (e.fin uSt c)]])) := by
  have hm : rest.length + 2 < (mk T (rest ++ [.lst [.int c]])).length := by rw [mk_len]; simp
  have hS : (mk T (rest ++ [.lst [.int c]]))[rest.length + 2]? = some (.lst [.int c]) := by rw [mk_at]; simp
  have e1 := marked_ok hP hm (ch := ch) 8 c h (by omega)
  have e2 : ∀ c', cel (mk T (rest ++ [.lst [.int c]])) (rest.length + 2) c' = mk T (rest ++ [.lst [.int c']]) := fun c' => by
    unfold cel
    rw [mk_setAt]
    simp
  rw [e2, e2] at e1
  exact e1
def QL (B : Nat) (l : List Ch) : Prop := l.length ≤ 61 ∧ ∀ x ∈ l, chOk x
theorem mark_ok (ch : Int) (hch : ch.natAbs < 10 ^ 12) : ∀ (e : Ex (List Nat)) (c : Int), e.ok PL → 0 ≤ c → c + 61 * e.lits.length < 10 ^ 12 → (e.mark ch c).ok (QL 0) ∧ c ≤ e.fin uSt c ∧ e.fin uSt c ≤ c + 61 * e.lits.length
  | .lit s, c, h, h0, h1 => by
    simp only [Ex.lits, List.length_cons, List.length_nil] at h1 ⊢
    refine ⟨⟨by rw [stampL_len]; exact h.1, stampL_chs h.2 hch h0 (by have := h.1; omega)⟩, ?_, ?_⟩ <;> (simp only [Ex.fin, uSt]; have := h.1; omega)
  | .leaf w n, c, h, h0, h1 => ⟨h, Int.le_refl _, by simp only [Ex.fin, Ex.lits, List.length_nil]; omega⟩
  | .slice e a b, c, h, h0, h1 => by
    have i := mark_ok ch hch e c h.1 h0 h1
    exact ⟨⟨i.1, h.2⟩, i.2⟩
  | .dyn e, c, h, h0, h1 => mark_ok ch hch e c h h0 h1
  | .two w a b, c, h, h0, h1 => by
    simp only [Ex.lits, List.length_append] at h1 ⊢
    have i := mark_ok ch hch a c h.2.1 h0 (by omega)
    have j := mark_ok ch hch b (a.fin uSt c) h.2.2 (by omega) (by omega)
    exact ⟨⟨h.1, i.1, j.1⟩, by simp only [Ex.fin]; omega, by simp only [Ex.fin]; omega⟩
  | .coin k a b, c, h, h0, h1 => by
    simp only [Ex.lits, List.length_append] at h1 ⊢
    have i := mark_ok ch hch a c h.1 h0 (by omega)
    have j := mark_ok ch hch b (a.fin uSt c) h.2.1 (by omega) (by omega)
    exact ⟨⟨i.1, j.1, h.2.2⟩, by simp only [Ex.fin]; omega, by simp only [Ex.fin]; omega⟩
  | .tri w a b d, c, h, h0, h1 => by
    simp only [Ex.lits, List.length_append] at h1 ⊢
    have i := mark_ok ch hch a c h.2.1 h0 (by omega)
    have j := mark_ok ch hch b (a.fin uSt c) h.2.2.1 (by omega) (by omega)
    have k := mark_ok ch hch d (b.fin uSt (a.fin uSt c)) h.2.2.2 (by omega) (by omega)
    exact ⟨⟨h.1, i.1, j.1, k.1⟩, by simp only [Ex.fin]; omega, by simp only [Ex.fin]; omega⟩
theorem flat_len {α : Type} {m : Nat} : ∀ {l : List (List α)}, (∀ x ∈ l, x.length ≤ m) → l.flatten.length ≤ l.length * m
  | [], _ => by simp
  | x :: l, h => by
    have h1 := h x (List.mem_cons_self ..)
    have h2 := flat_len (l := l) fun y hy => h y (List.mem_cons_of_mem _ hy)
    simp only [List.flatten_cons, List.length_append, List.length_cons, Nat.succ_mul]; omega
/-- what an expression is worth that is marked -/
structure Mkd (e : Ex (List Nat)) (m : Ex (List Ch)) : Prop where
  ok : m.ok (QL 0)
  depth : m.depth = e.depth
  subs : m.subs.length = e.subs.length
  tgs : m.tgs = e.tgs
  cns : m.cns = e.cns
theorem mark_mkd {e : Ex (List Nat)} (h : e.ok PL) {ch c : Int} (hch : ch.natAbs < 10 ^ 12) (h0 : 0 ≤ c) (h1 : c + 61 * e.lits.length < 10 ^ 12) : Mkd e (e.mark ch c) :=
  ⟨(mark_ok ch hch e c h h0 h1).1, thr_depth .., thr_subs .., thr_tgs .., thr_cns ..⟩
theorem QL.lits {m : Ex (List Ch)} (h : m.ok (QL 0)) : m.lits.flatten.length ≤ m.lits.length * 61 ∧ ∀ x ∈ m.lits.flatten, chOk x := by
  refine ⟨flat_len fun x hx => (Ex.lits_ok h x hx).1, fun x hx => ?_⟩
  obtain ⟨l, hl, hx⟩ := List.mem_flatten.mp hx
  exact (Ex.lits_ok h l hl).2 x hx
theorem refD_rq {α : Type} {P : α → Prop} {e : Ex α} (h : e.ok P) (hl : e.subs.length ≤ 1000) : D.rq 64 (refD e) = true ∧ D.wq (refD e) ≤ 1000000 := by
  have a1 := Ex.tgs_cps h
  have a2 := Ex.cns_small h
  have a3 := Ex.tgs_len h
  have b1 : ∀ n ∈ dd [] e.tgs, cpsOk n = true := fun n hn => (dd_mem _ _ n hn).elim (fun h => by cases h) (a1 n)
  have b2 : ∀ n ∈ iSort (dd [] e.cns), n.natAbs < 10 ^ 12 := fun n hn => by
    have hn := (iSort_perm _).mem_iff.mp hn
    exact (dd_mem _ _ n hn).elim (fun h => by cases h) (a2 n)
  have c1 := dd_len e.tgs []
  have c2 := dd_len e.cns []
  have d1 : e.tgs.length ≤ e.subs.length := by rw [← tgs_subs]; exact fm_len sT_len _
  have d2 : e.cns.length ≤ e.subs.length := by rw [← cns_subs]; exact fm_len sC_len _
  have c3 : (iSort (dd [] e.cns)).length = (dd [] e.cns).length := (iSort_perm _).length_eq
  have w1 := wqs_le (m := 100) (l := (dd [] e.tgs).map D.str) (by
    intro d hd
    obtain ⟨x, hx, rfl⟩ := List.mem_map.mp hd
    simpa [D.wq] using a3 x ((dd_mem _ _ x hx).elim (fun h => by cases h) id))
  have w2 := wqs_le (m := 50) (l := (iSort (dd [] e.cns)).map D.int) (by
    intro d hd
    obtain ⟨x, hx, rfl⟩ := List.mem_map.mp hd
    simp [D.wq])
  refine ⟨?_, ?_⟩
  · simp only [refD, D.rq, D.rqs, Bool.and_true, Bool.and_eq_true]
    refine ⟨?_, ?_⟩
    · rw [rqs_iff]; intro d hd
      obtain ⟨x, hx, rfl⟩ := List.mem_map.mp hd
      simpa [D.rq] using b1 x hx
    · rw [rqs_iff]; intro d hd
      obtain ⟨x, hx, rfl⟩ := List.mem_map.mp hd
      simpa [D.rq] using b2 x hx
  · simp only [refD, D.wq, D.wqs, List.length_map, List.length_nil] at *
    omega
theorem repr_refs {α : Type} {P : α → Prop} {e : Ex α} (h : e.ok P) (hl : e.subs.length ≤ 1000) (st : Store) : dRepr (.v (refD e)) st = some (.v (.str (rpr (refD e)))) := dRepr_q (refD_rq h hl).1 (refD_rq h hl).2
end Ev

/-! ## Ev46 -/
set_option Elab.async false
set_option linter.all false
set_option maxRecDepth 100000
/-! Ev46: repr of plain data with ints below 10 ** 22. -/
namespace Ev
open PySem
-- what repr shows: ints below 10 ** 22, nested at most k deep
mutual
def D.ru : Nat → D → Bool
  | _, .non => true
  | _, .bl _ => true
  | _, .int i => decide (i.natAbs < 10 ^ 22)
  | _, .str s => cpsOk s
  | k, .tup l => match k with
    | 0 => false
    | k + 1 => D.rus k l
  | _, _ => false
def D.rus : Nat → List D → Bool
  | _, [] => true
  | k, d :: l => D.ru k d && D.rus k l
end
mutual
def D.wu : D → Nat
  | .int _ => 75
  | .str s => s.length
  | .tup l => D.wus l
  | _ => 0
def D.wus : List D → Nat
  | [] => 0
  | d :: l => D.wu d + 1 + D.wus l
end
theorem rus_iff {k : Nat} : ∀ {l : List D}, D.rus k l = true ↔ ∀ d ∈ l, D.ru k d = true
  | [] => by simp [D.rus]
  | d :: l => by simp [D.rus, rus_iff (l := l)]
theorem wus_le {m : Nat} : ∀ {l : List D}, (∀ d ∈ l, D.wu d ≤ m) → D.wus l ≤ (m + 1) * l.length
  | [], _ => Nat.zero_le _
  | d :: l, h => by
    have h1 := h d (List.mem_cons_self ..)
    have h2 := wus_le (l := l) fun e he => h e (List.mem_cons_of_mem _ he)
    simp only [D.wus, List.length_cons, Nat.mul_add, Nat.mul_one]
    omega
theorem wus_app : ∀ (l m : List D), D.wus (l ++ m) = D.wus l + D.wus m
  | [], m => by simp [D.wus]
  | d :: l, m => by simp only [List.cons_append, D.wus, wus_app l m]; omega
theorem log_22 {n : Nat} (h : n < 10 ^ 22) : n.log2 < 74 := by
  by_cases h0 : n = 0
  · subst h0; decide
  · exact (Nat.log2_lt h0).mpr (Nat.lt_of_lt_of_le h (by decide))
mutual
theorem ru_pure : ∀ (k : Nat) (d : D), D.ru k d = true → D.pure d = true
  | _, .non, _ => rfl
  | _, .bl _, _ => rfl
  | _, .int _, _ => rfl
  | _, .str s, _ => rfl
  | 0, .tup l, h => by simp [D.ru] at h
  | k + 1, .tup l, h => by
    rw [D.pure]
    exact rus_pures k l (by simpa [D.ru] using h)
  | _, .rol _, h => by simp [D.ru] at h
  | _, .ref _, h => by simp [D.ru] at h
theorem rus_pures : ∀ (k : Nat) (l : List D), D.rus k l = true → D.pures l = true
  | _, [], _ => rfl
  | k, d :: l, h => by
    simp only [D.rus, Bool.and_eq_true] at h
    simp only [D.pures, Bool.and_eq_true]
    exact ⟨ru_pure k d h.1, rus_pures k l h.2⟩
end
structure ShowsU (k w : Nat) (p : PyData) : Prop where
  sh : p.showable = true
  nd : p.hasDict = false
  dp : p.depth ≤ k
  lv : p.leavesShort 23 = true
  wt : p.weight ≤ w
structure ShowsUs (k w : Nat) (p : List PyData) : Prop where
  sh : PyData.showableAll p = true
  nd : PyData.hasDictAll p = false
  dp : PyData.depthAll p ≤ k
  lv : PyData.leavesShortAll 23 p = true
  wt : PyData.weightAll p ≤ w
mutual
theorem ru_show : ∀ (k : Nat) (d : D), D.ru k d = true → ShowsU k (D.wu d) (D.toPy d)
  | k, .non, _ => ⟨rfl, rfl, Nat.zero_le _, rfl, Nat.le_refl _⟩
  | k, .bl b, _ => ⟨rfl, rfl, Nat.zero_le _, rfl, Nat.le_refl _⟩
  | k, .int i, h => by
    have h0 : i.natAbs < 10 ^ 22 := by
      simp only [D.ru] at h
      exact of_decide_eq_true h
    have hl := log_22 h0
    refine ⟨?_, rfl, Nat.zero_le _, ?_, ?_⟩
    · simp only [D.toPy, PyData.showable]
      exact decide_eq_true (by omega)
    · simp only [D.toPy, PyData.leavesShort]
      refine decide_eq_true ?_
      show (Str.ofString (toString i)).length ≤ 23
      rw [PySem.ofString_length]
      exact int_text_length_le10 (k := 22) (by decide) h0
    · simp only [D.toPy, PyData.weight, D.wu]
      split
      · exact Nat.zero_le _
      · omega
  | k, .str s, h => by
    refine ⟨rfl, rfl, Nat.zero_le _, ?_, ?_⟩
    · simp only [D.ru, cpsOk, List.all_eq_true, decide_eq_true_eq] at h
      simp only [D.toPy, PyData.leavesShort, List.all_eq_true, decide_eq_true_eq]
      intro c hc
      have := h c hc
      have e : (16 : Nat) ^ 8 = 4294967296 := by decide
      omega
    · simp [D.toPy, PyData.weight, D.wu]
  | 0, .tup l, h => by simp [D.ru] at h
  | k + 1, .tup l, h => by
    obtain ⟨h1, h2, h3, h4, h5⟩ := rus_show k l (by simpa [D.ru] using h)
    refine ⟨?_, ?_, ?_, ?_, ?_⟩
    · simpa [D.toPy, PyData.showable] using h1
    · simpa [D.toPy, PyData.hasDict] using h2
    · simp only [D.toPy, PyData.depth]; omega
    · simpa [D.toPy, PyData.leavesShort] using h4
    · simpa [D.toPy, PyData.weight, D.wu] using h5
  | _, .rol _, h => by simp [D.ru] at h
  | _, .ref _, h => by simp [D.ru] at h
theorem rus_show : ∀ (k : Nat) (l : List D), D.rus k l = true → ShowsUs k (D.wus l) (D.toPys l)
  | k, [], _ => ⟨rfl, rfl, Nat.zero_le _, rfl, Nat.le_refl _⟩
  | k, d :: l, h => by
    simp only [D.rus, Bool.and_eq_true] at h
    obtain ⟨a1, a2, a3, a4, a5⟩ := ru_show k d h.1
    obtain ⟨h1, h2, h3, h4, h5⟩ := rus_show k l h.2
    refine ⟨?_, ?_, ?_, ?_, ?_⟩
    · simp only [D.toPys, PyData.showableAll, a1, h1, Bool.and_self]
    · simp only [D.toPys, PyData.hasDictAll, a2, h2, Bool.or_self]
    · simp only [D.toPys, PyData.depthAll]; omega
    · simp only [D.toPys, PyData.leavesShortAll, a4, h4, Bool.and_self]
    · simp only [D.toPys, PyData.weightAll, D.wus]; omega
end
theorem dRepr_u {st : Store} {d : D} (h : D.ru 64 d = true) (hw : D.wu d ≤ 600000) : dRepr (.v d) st = some (.v (.str (rpr d))) := by
  obtain ⟨h1, h2, h3, h4, h5⟩ := ru_show 64 d h
  have hl := PyData.shown_le 23 (by decide) (D.toPy d) h4
  have hdat : dat st (.v d) = some (D.toPy d) := by
    have hp := ru_pure _ _ h
    cases d with
    | ref n => simp [D.ru] at h
    | _ => simp only [dat]; rw [if_pos hp]
  have hs : (D.toPy d).shown.length ≤ sLine := by
    have e : (23 + 2) * (D.toPy d).weight ≤ 25 * 600000 := Nat.mul_le_mul (by decide) (by omega)
    show _ ≤ 16777216
    omega
  simp only [dRepr, hdat]
  rw [if_pos ⟨h1, h2, h3, hs⟩]
  rfl
end Ev

/-! ## Ev47 -/
set_option Elab.async false
set_option linter.all false
set_option maxRecDepth 100000
/-! Ev47: literals put in, shapes, filling. -/
namespace Ev
open PySem
noncomputable def d_with_literals (c : List D → Store → R RV) : SS :=
  (sSeq (sIf (eBool (e2 dEq (e2 dIx (eVar 0) (eC (.int 0))) (eC (.str [108, 105, 116, 101, 114, 97, 108])))) (
    (sSeq (sRet (eTup (aCons (eC (.str [108, 105, 116, 101, 114, 97, 108])) (aCons (e2 dIx (eVar 1) (eC (.int 0))) aNil)))) sNil)) sNil)
  (sSeq (sSet 2 (eVar 0))
  (sSeq (sSet 3 (eC (.int 0)))
  (sSeq (sFor (wVal (eCall c_part_places [] (aCons (eVar 0) aNil))) (.one 4) (
    (sSeq (sSet 5 (eCall c [] (aCons (e2 dIx (eVar 0) (eVar 4)) (aCons (eSl (eVar 1) (some (eVar 3)) none) aNil))))
    (sSeq (sSet 3 (e2 dAdd (eVar 3) (eN (g1 dLen) (bCons (eCall c_literal_values [] (aCons (e2 dIx (eVar 0) (eVar 4)) aNil)) bNil))))
    (sSeq (sSet 2 (e2 dAdd (e2 dAdd (eSl (eVar 2) none (some (eVar 4))) (eTup (aCons (eVar 5) aNil))) (eSl (eVar 2) (some (e2 dAdd (eVar 4) (eC (.int 1)))) none))) sNil)))))
  (sSeq (sRet (eVar 2)) sNil)))))
noncomputable def c_with_literals : Nat → List D → Store → R RV
  | 0 => fun _ _ => .bad
  | n + 1 => callB 6 (d_with_literals (c_with_literals n))
noncomputable def d_shape_of : SS :=
  (sSeq (sRet (eCall (c_with_literals 8) [] (aCons (eVar 0) (aCons (eComp (wVal (eCall c_literal_values [] (aCons (eVar 0) aNil))) (.one 1) ttYes [1] (eN (g1 dLen) (bCons (eVar 1) bNil))) aNil)))) sNil)
noncomputable def c_shape_of : List D → Store → R RV := callB 2 d_shape_of
noncomputable def d_fill : SS :=
  (sSeq (sSet 2 (eLst aNil))
  (sSeq (sSet 3 (eC (.int 0)))
  (sSeq (sFor (wVal (eCall c_literal_values [] (aCons (eVar 0) aNil))) (.one 4) (
    (sSeq (sExpr (eMtL gAppend (eVar 2) (aCons (eSl (eVar 1) (some (eVar 3)) (some (e2 dAdd (eVar 3) (eVar 4)))) aNil)))
    (sSeq (sSet 3 (e2 dAdd (eVar 3) (eVar 4))) sNil))))
  (sSeq (sRet (eCall (c_with_literals 8) [] (aCons (eVar 0) (aCons (eVar 2) aNil)))) sNil))))
noncomputable def c_fill : List D → Store → R RV := callB 5 d_fill
noncomputable def d_stamp_expression : SS :=
  (sSeq (sSet 3 (eLst aNil))
  (sSeq (sFor (wVal (eCall c_literal_values [] (aCons (eVar 0) aNil))) (.one 4) (
    (sSeq (sExpr (eMtL gAppend (eVar 3) (aCons (eCall c_l_stamped [] (aCons (eVar 4) (aCons (eVar 1) (aCons (eVar 2) aNil)))) aNil)))
    (sSeq (sSet 2 (e2 dAdd (eVar 2) (eN (g1 dLen) (bCons (eVar 4) bNil)))) sNil))))
  (sSeq (sRet (eCall (c_with_literals 8) [] (aCons (eVar 0) (aCons (eVar 3) aNil)))) sNil)))
noncomputable def c_stamp_expression : List D → Store → R RV := callB 5 d_stamp_expression
noncomputable def d_l_number : SS :=
  (sSeq (sRet (e2 dIx (eLst (aCons (eC (.int 0)) (aCons (eC (.int 1)) (aCons (eCall c_l_draw [] (aCons (eVar 0) (aCons (eC (.int 1000)) aNil))) (aCons (e2 dAdd (e2 dPow (eC (.int 10)) (eC (.int 20))) (eCall c_l_draw [] (aCons (eVar 0) (aCons (e2 dPow (eC (.int 10)) (eC (.int 9))) aNil)))) aNil))))) (eCall c_l_draw [] (aCons (eVar 0) (aCons (eC (.int 4)) aNil))))) sNil)
noncomputable def c_l_number : List D → Store → R RV := callB 1 d_l_number
noncomputable def d_l_shape (c : List D → Store → R RV) : SS :=
  (sSeq (sIf (tNotB (eTru (e1 (dIsi "tuple") (eVar 0)))) (
    (sSeq (sRet (eVar 0)) sNil)) sNil)
  (sSeq (sIf (eBool (e2 dEq (e2 dIx (eVar 0) (eC (.int 0))) (eC (.str [108, 105, 116, 101, 114, 97, 108])))) (
    (sSeq (sRet (eTup (aCons (eC (.str [108, 105, 116, 101, 114, 97, 108])) (aCons (eN (g1 dLen) (bCons (e2 dIx (eVar 0) (eC (.int 1))) bNil)) aNil)))) sNil)) sNil)
  (sSeq (sRet (eN (g1 dTuple) (bCons (eComp (wVal (eVar 0)) (.one 1) ttYes [1] (eCall c [] (aCons (eVar 1) aNil))) bNil))) sNil)))
noncomputable def c_l_shape : Nat → List D → Store → R RV
  | 0 => fun _ _ => .bad
  | n + 1 => callB 2 (d_l_shape (c_l_shape n))
noncomputable def d_l_filling (c : List D → Store → R RV) : SS :=
  (sSeq (sIf (tNotB (eTru (e1 (dIsi "tuple") (eVar 0)))) (
    (sSeq (sRet (eVar 0)) sNil)) sNil)
  (sSeq (sIf (eBool (e2 dEq (e2 dIx (eVar 0) (eC (.int 0))) (eC (.str [108, 105, 116, 101, 114, 97, 108])))) (
    (sSeq (sSet 3 (e2 dIx (eVar 2) (eC (.int 0))))
    (sSeq (sPutIx (e2 dAdd (eVar 3) (e2 dIx (eVar 0) (eC (.int 1)))) (eVar 2) (eC (.int 0)))
    (sSeq (sRet (eTup (aCons (eC (.str [108, 105, 116, 101, 114, 97, 108])) (aCons (eSl (eVar 1) (some (eVar 3)) (some (e2 dAdd (eVar 3) (e2 dIx (eVar 0) (eC (.int 1)))))) aNil)))) sNil)))) sNil)
  (sSeq (sRet (eN (g1 dTuple) (bCons (eComp (wVal (eVar 0)) (.one 4) ttYes [4] (eCall c [] (aCons (eVar 4) (aCons (eVar 1) (aCons (eVar 2) aNil))))) bNil))) sNil)))
noncomputable def c_l_filling : Nat → List D → Store → R RV
  | 0 => fun _ _ => .bad
  | n + 1 => callB 5 (d_l_filling (c_l_filling n))
/-! ### plain -/
section
variable {α β γ σ : Type}
def thrL (g : α → σ → β) (u : α → σ → σ) : List α → σ → List β
  | [], _ => []
  | v :: r, s => g v s :: thrL g u r (u v s)
def finL (u : α → σ → σ) : List α → σ → σ
  | [], s => s
  | v :: r, s => finL u r (u v s)
theorem thrL_app (g : α → σ → β) (u : α → σ → σ) : ∀ (a b : List α) (s : σ), thrL g u (a ++ b) s = thrL g u a s ++ thrL g u b (finL u a s)
  | [], b, s => rfl
  | v :: a, b, s => by simp only [List.cons_append, thrL, finL, thrL_app g u a]
theorem finL_app (u : α → σ → σ) : ∀ (a b : List α) (s : σ), finL u (a ++ b) s = finL u b (finL u a s)
  | [], b, s => rfl
  | v :: a, b, s => by simp only [List.cons_append, finL, finL_app u a]
theorem thrL_len (g : α → σ → β) (u : α → σ → σ) : ∀ (a : List α) (s : σ), (thrL g u a s).length = a.length
  | [], s => rfl
  | v :: a, s => by simp only [thrL, List.length_cons, thrL_len g u a]
theorem fin_lits (u : α → σ → σ) : ∀ (e : Ex α) (s : σ), e.fin u s = finL u e.lits s
  | .lit v, s => rfl
  | .leaf w n, s => rfl
  | .slice e a b, s => fin_lits u e s
  | .dyn e, s => fin_lits u e s
  | .two w a b, s => by simp only [Ex.fin, Ex.lits, finL_app, fin_lits u a, fin_lits u b]
  | .coin w a b, s => by simp only [Ex.fin, Ex.lits, finL_app, fin_lits u a, fin_lits u b]
  | .tri w a b c, s => by simp only [Ex.fin, Ex.lits, finL_app, fin_lits u a, fin_lits u b, fin_lits u c]
theorem thr_lits (g : α → σ → β) (u : α → σ → σ) : ∀ (e : Ex α) (s : σ), (e.thr g u s).lits = thrL g u e.lits s
  | .lit v, s => rfl
  | .leaf w n, s => rfl
  | .slice e a b, s => thr_lits g u e s
  | .dyn e, s => thr_lits g u e s
  | .two w a b, s => by simp only [Ex.thr, Ex.lits, thrL_app, thr_lits g u a, thr_lits g u b, fin_lits]
  | .coin w a b, s => by simp only [Ex.thr, Ex.lits, thrL_app, thr_lits g u a, thr_lits g u b, fin_lits]
  | .tri w a b c, s => by simp only [Ex.thr, Ex.lits, thrL_app, thr_lits g u a, thr_lits g u b, thr_lits g u c, fin_lits]
variable [Inhabited γ]
abbrev gPut : α → List γ → γ := fun _ l => l.headD default
abbrev uPut : α → List γ → List γ := fun _ l => l.drop 1
/-- the literals are put in, one after the other -/
def Ex.put (e : Ex α) (vs : List γ) : Ex γ := e.thr gPut uPut vs
theorem finL_put : ∀ (l : List α) (vs : List γ), finL uPut l vs = vs.drop l.length
  | [], vs => rfl
  | v :: l, vs => by simp only [finL, finL_put l, List.drop_drop, List.length_cons, Nat.add_comm]
theorem fin_put (e : Ex α) (vs : List γ) : e.fin uPut vs = vs.drop e.lits.length := by rw [fin_lits, finL_put]
theorem put_thr (g : α → σ → β) (u : α → σ → σ) : ∀ (e : Ex α) (s : σ) (vs : List γ), (e.thr g u s).put vs = e.put vs
  | .lit v, s, vs => rfl
  | .leaf w n, s, vs => rfl
  | .slice e a b, s, vs => by
    have := put_thr g u e s vs
    simp only [Ex.put] at this
    simp only [Ex.thr, Ex.put, this]
  | .dyn e, s, vs => by
    have := put_thr g u e s vs
    simp only [Ex.put] at this
    simp only [Ex.thr, Ex.put, this]
  | .two w a b, s, vs => by
    have h1 := put_thr g u a s vs
    have h2 := fun s vs => put_thr g u b s vs
    simp only [Ex.put] at h1 h2
    simp only [Ex.thr, Ex.put, h1, h2, fin_put, thr_lits_len]
  | .coin w a b, s, vs => by
    have h1 := put_thr g u a s vs
    have h2 := fun s vs => put_thr g u b s vs
    simp only [Ex.put] at h1 h2
    simp only [Ex.thr, Ex.put, h1, h2, fin_put, thr_lits_len]
  | .tri w a b c, s, vs => by
    have h1 := put_thr g u a s vs
    have h2 := fun s vs => put_thr g u b s vs
    have h3 := fun s vs => put_thr g u c s vs
    simp only [Ex.put] at h1 h2 h3
    simp only [Ex.thr, Ex.put, h1, h2, h3, fin_put, thr_lits_len]
theorem put_self : ∀ (e : Ex γ) (r : List γ), e.put (e.lits ++ r) = e
  | .lit v, r => rfl
  | .leaf w n, r => rfl
  | .slice e a b, r => by
    have := put_self e r
    simp only [Ex.put] at this
    simp only [Ex.put, Ex.thr, Ex.lits, this]
  | .dyn e, r => by
    have := put_self e r
    simp only [Ex.put] at this
    simp only [Ex.put, Ex.thr, Ex.lits, this]
  | .two w a b, r => by
    have h1 := fun r => put_self a r
    have h2 := fun r => put_self b r
    simp only [Ex.put] at h1 h2
    simp only [Ex.put, Ex.thr, Ex.lits, List.append_assoc, fin_put, List.drop_left, h1, h2]
  | .coin w a b, r => by
    have h1 := fun r => put_self a r
    have h2 := fun r => put_self b r
    simp only [Ex.put] at h1 h2
    simp only [Ex.put, Ex.thr, Ex.lits, List.append_assoc, fin_put, List.drop_left, h1, h2]
  | .tri w a b c, r => by
    have h1 := fun r => put_self a r
    have h2 := fun r => put_self b r
    have h3 := fun r => put_self c r
    simp only [Ex.put] at h1 h2 h3
    simp only [Ex.put, Ex.thr, Ex.lits, List.append_assoc, fin_put, List.drop_left, h1, h2, h3]
/-- a map that carries a state is: reckon the values, put them in -/
theorem put_of_thr (g : α → σ → γ) (u : α → σ → σ) (e : Ex α) (s : σ) : e.put (thrL g u e.lits s) = e.thr g u s := by
  have := put_self (e.thr g u s) []
  rw [List.append_nil, put_thr, thr_lits] at this
  exact this
/-! ### with_literals -/
theorem with_ok {f : α → D} {g : γ → D} (hf : ∀ v, D.pure (f v) = true) (hg : ∀ v, D.pure (g v) = true) {P : α → Prop} : ∀ (n : Nat) {e : Ex α} {vs : List γ} {st : Store} {m : Nat}, e.ok P → e.depth < n → e.depth < 8 → e.subs.length ≤ 1000 → e.lits.length ≤ vs.length → vs.length ≤ 1000 → st[m]? = some (.lst (vs.map g)) → c_with_literals n [e.enc f, .ref m] st = .ok (.v ((e.put vs).enc g)) st
  | 0, _, _, _, _, _, h, _, _, _, _, _ => absurd h (Nat.not_lt_zero _)
  | n + 1, e, vs, st, m, hok, hd, hd8, hl, hv, hv2, hm => by
    have hsl : sLine = 16777216 := rfl
    have ih := fun {e : Ex α} {vs : List γ} {st : Store} {m : Nat} (h1 : e.ok P) (h2 : e.depth < n) (h3 : e.depth < 8) (h4 : e.subs.length ≤ 1000) (h5 : e.lits.length ≤ vs.length) (h6 : vs.length ≤ 1000) (h7 : st[m]? = some (.lst (vs.map g))) => with_ok (f := f) (g := g) hf hg n h1 h2 h3 h4 h5 h6 h7
    have pp := fun st => part_places_ok (f := f) hok st
    have i0 := fun st => enc_0 f e st
    have lv := fun {e : Ex α} (st : Store) (h : e.ok P) (hd : e.depth < 8) (hl : e.subs.length ≤ 1000) => litvals_ok (f := f) hf st h hd hl
    have u0 : cut (vs.map g) (some 0) none = vs.map g := cut_from _ 0
    have u1 : ∀ k : Nat, cut (vs.map g) (some (k : Int)) none = (vs.drop k).map g := fun k => by rw [cut_from, List.map_drop]
    have u2 : ∀ k j : Nat, cut (vs.map g) (some ((k : Int) + (j : Int))) none = (vs.drop (k + j)).map g := fun k j => by rw [cutB, List.map_drop]
    have sl : ∀ (lo : Option Int) (more : Store), dSl (.v (.ref m)) lo none (st ++ more) = some (.t (cut (vs.map g) lo none)) := fun lo more => by
      have : (st ++ more)[m]? = some (.lst (vs.map g)) := by
        rw [List.getElem?_append_left (List.getElem?_eq_some_iff.mp hm).1, hm]
      simp [dSl, lstM, this]
    have sl0 := fun lo => sl lo []
    rw [List.append_nil] at sl0
    have ca21 : ∀ x y : D, cut [x, y] none (some 1) = [x] := fun _ _ => rfl
    have cb21 : ∀ x y : D, cut [x, y] (some 2) none = [] := fun _ _ => rfl
    have ca31 : ∀ x y z : D, cut [x, y, z] none (some 1) = [x] := fun _ _ _ => rfl
    have cb31 : ∀ x y z : D, cut [x, y, z] (some 2) none = [z] := fun _ _ _ => rfl
    have ca32 : ∀ x y z : D, cut [x, y, z] none (some 2) = [x, y] := fun _ _ _ => rfl
    have cb32 : ∀ x y z : D, cut [x, y, z] (some 3) none = [] := fun _ _ _ => rfl
    have ca41 : ∀ x y z u : D, cut [x, y, z, u] none (some 1) = [x] := fun _ _ _ _ => rfl
    have cb41 : ∀ x y z u : D, cut [x, y, z, u] (some 2) none = [z, u] := fun _ _ _ _ => rfl
    have ca42 : ∀ x y z u : D, cut [x, y, z, u] none (some 2) = [x, y] := fun _ _ _ _ => rfl
    have cb42 : ∀ x y z u : D, cut [x, y, z, u] (some 3) none = [u] := fun _ _ _ _ => rfl
    have ca43 : ∀ x y z u : D, cut [x, y, z, u] none (some 3) = [x, y, z] := fun _ _ _ _ => rfl
    have cb43 : ∀ x y z u : D, cut [x, y, z, u] (some 4) none = [] := fun _ _ _ _ => rfl
    have bounds : (1 ≤ sLine ∧ 2 ≤ sLine ∧ 3 ≤ sLine ∧ 4 ≤ sLine) := by omega
    obtain ⟨z1, z2, z3, z4⟩ := bounds
    refine call_pure ?_ (Ex.pure_enc hg _)
    unfold d_with_literals
    cases e with
    | lit v =>
      cases vs with
      | nil => simp [Ex.lits] at hv
      | cons x vs =>
        simp [Ex.enc, Ex.put, Ex.thr, hm, show 2 ≤ sLine by decide]
    | leaf w k =>
      have hw : w ≠ wLit ∧ w.length ≤ 30 := by
        have h := hok.1
        simp only [wLeaf, List.mem_cons, List.not_mem_nil, or_false] at h
        rcases h with rfl | rfl | rfl | rfl <;> simp
      simp only [Ex.enc, Ex.places, List.map_nil] at pp
      simp [Ex.enc, Ex.put, Ex.thr, pp, hw, forL_nil]
    | dyn e =>
      simp only [Ex.subs, List.length_cons] at hl
      simp only [Ex.lits] at hv
      simp only [Ex.depth] at hd hd8
      simp only [Ex.enc, Ex.places, List.map_cons, List.map_nil] at pp
      have q1 := lv (e := e)
      have j1 := ih (e := e) (vs := vs) (st := st ++ [.lst (vs.map g)]) (m := st.length) hok (by omega) (by omega) (by omega) hv hv2 (by simp)
      have l1 := fun st => lv (e := e) st hok (by omega) (by omega)
      simp [Ex.enc, Ex.put, Ex.thr, pp, sl0, u0, j1, l1, forL_cons, forL_nil, ca21, cb21, ca31, cb31, ca32, cb32, ca41, cb41, ca42, cb42, ca43, cb43, z1, z2, z3, z4, show vs.length ≤ sLine by omega]
    | slice e a b =>
      simp only [Ex.subs, List.length_cons] at hl
      simp only [Ex.lits] at hv
      simp only [Ex.depth] at hd hd8
      simp only [Ex.enc, Ex.places, List.map_cons, List.map_nil] at pp
      have j1 := ih (e := e) (vs := vs) (st := st ++ [.lst (vs.map g)]) (m := st.length) hok.1 (by omega) (by omega) (by omega) hv hv2 (by simp)
      have l1 := fun st => lv (e := e) st hok.1 (by omega) (by omega)
      simp [Ex.enc, Ex.put, Ex.thr, pp, sl0, u0, j1, l1, forL_cons, forL_nil, ca21, cb21, ca31, cb31, ca32, cb32, ca41, cb41, ca42, cb42, ca43, cb43, z1, z2, z3, z4, show vs.length ≤ sLine by omega]
    | two w a b =>
      have hw : w ≠ wLit ∧ w.length ≤ 30 := by
        have h := hok.1
        simp only [wTwo, List.mem_cons, List.not_mem_nil, or_false] at h
        rcases h with rfl | rfl | rfl | rfl <;> simp
      simp only [Ex.subs, List.length_cons, List.length_append] at hl
      simp only [Ex.lits, List.length_append] at hv
      simp only [Ex.depth] at hd hd8
      simp only [Ex.enc, Ex.places, List.map_cons, List.map_nil] at pp
      have j1 := ih (e := a) (vs := vs) (st := st ++ [.lst (vs.map g)]) (m := st.length) hok.2.1 (by omega) (by omega) (by omega) (by omega) hv2 (by simp)
      have j2 := ih (e := b) (vs := vs.drop a.lits.length) (st := st ++ [.lst (vs.map g), .lst ((vs.drop a.lits.length).map g)]) (m := st.length + 1) hok.2.2 (by omega) (by omega) (by omega) (by rw [List.length_drop]; omega) (by rw [List.length_drop]; omega) (by simp [List.getElem?_append])
      have l1 := fun st => lv (e := a) st hok.2.1 (by omega) (by omega)
      have l2 := fun st => lv (e := b) st hok.2.2 (by omega) (by omega)
      have v1 := u1 a.lits.length
      rw [← fin_put] at v1 j2
      generalize hV1 : ((a.fin uPut vs : List γ).map g) = V1 at *
      have la := lits_len a
      have lb := lits_len b
      simp [Ex.enc, Ex.put, Ex.thr, pp, hw, sl0, sl, u0, v1, j1, j2, l1, l2, forL_cons, forL_nil, ca21, cb21, ca31, cb31, ca32, cb32, ca41, cb41, ca42, cb42, ca43, cb43, z1, z2, z3, z4, show w.length ≤ sLine by omega, show vs.length ≤ sLine by omega, show a.lits.length ≤ sLine by omega, show b.lits.length ≤ sLine by omega]
    | coin k a b =>
      simp only [Ex.subs, List.length_cons, List.length_append] at hl
      simp only [Ex.lits, List.length_append] at hv
      simp only [Ex.depth] at hd hd8
      simp only [Ex.enc, Ex.places, List.map_cons, List.map_nil] at pp
      have j1 := ih (e := a) (vs := vs) (st := st ++ [.lst (vs.map g)]) (m := st.length) hok.1 (by omega) (by omega) (by omega) (by omega) hv2 (by simp)
      have j2 := ih (e := b) (vs := vs.drop a.lits.length) (st := st ++ [.lst (vs.map g), .lst ((vs.drop a.lits.length).map g)]) (m := st.length + 1) hok.2.1 (by omega) (by omega) (by omega) (by rw [List.length_drop]; omega) (by rw [List.length_drop]; omega) (by simp [List.getElem?_append])
      have l1 := fun st => lv (e := a) st hok.1 (by omega) (by omega)
      have l2 := fun st => lv (e := b) st hok.2.1 (by omega) (by omega)
      have v1 := u1 a.lits.length
      rw [← fin_put] at v1 j2
      generalize hV1 : ((a.fin uPut vs : List γ).map g) = V1 at *
      have la := lits_len a
      have lb := lits_len b
      simp [Ex.enc, Ex.put, Ex.thr, pp, sl0, sl, u0, v1, j1, j2, l1, l2, forL_cons, forL_nil, ca21, cb21, ca31, cb31, ca32, cb32, ca41, cb41, ca42, cb42, ca43, cb43, z1, z2, z3, z4, show vs.length ≤ sLine by omega, show a.lits.length ≤ sLine by omega, show b.lits.length ≤ sLine by omega]
    | tri w a b c =>
      have hw : w ≠ wLit ∧ w.length ≤ 30 := by
        have h := hok.1
        simp only [wTri, List.mem_cons, List.not_mem_nil, or_false] at h
        rcases h with rfl | rfl <;> simp
      simp only [Ex.subs, List.length_cons, List.length_append] at hl
      simp only [Ex.lits, List.length_append] at hv
      simp only [Ex.depth] at hd hd8
      simp only [Ex.enc, Ex.places, List.map_cons, List.map_nil] at pp
      have j1 := ih (e := a) (vs := vs) (st := st ++ [.lst (vs.map g)]) (m := st.length) hok.2.1 (by omega) (by omega) (by omega) (by omega) hv2 (by simp)
      have f1 : (a.fin uPut vs : List γ).length = vs.length - a.lits.length := by rw [fin_put, List.length_drop]
      have f2 : (b.fin uPut (a.fin uPut vs) : List γ).length = vs.length - a.lits.length - b.lits.length := by rw [fin_put, List.length_drop, f1]
      have j2 := ih (e := b) (vs := a.fin uPut vs) (st := st ++ [.lst (vs.map g), .lst ((a.fin uPut vs : List γ).map g)]) (m := st.length + 1) hok.2.2.1 (by omega) (by omega) (by omega) (by omega) (by omega) (by simp [List.getElem?_append])
      have j3 := ih (e := c) (vs := b.fin uPut (a.fin uPut vs)) (st := st ++ [.lst (vs.map g), .lst ((a.fin uPut vs : List γ).map g), .lst ((b.fin uPut (a.fin uPut vs) : List γ).map g)]) (m := st.length + 2) hok.2.2.2 (by omega) (by omega) (by omega) (by omega) (by omega) (by simp [List.getElem?_append])
      have l1 := fun st => lv (e := a) st hok.2.1 (by omega) (by omega)
      have l2 := fun st => lv (e := b) st hok.2.2.1 (by omega) (by omega)
      have l3 := fun st => lv (e := c) st hok.2.2.2 (by omega) (by omega)
      have v1 := u1 a.lits.length
      rw [← fin_put] at v1
      have v2 : cut (vs.map g) (some ((a.lits.length : Int) + (b.lits.length : Int))) none = (b.fin uPut (a.fin uPut vs) : List γ).map g := by
        rw [u2, fin_put, fin_put, List.drop_drop]
      have f3 : (b.fin uPut (a.fin uPut vs) : List γ).length ≤ sLine := by omega
      have f4 : (a.fin uPut vs : List γ).length ≤ sLine := by omega
      generalize hV1 : ((a.fin uPut vs : List γ).map g) = V1 at *
      generalize hV2 : ((b.fin uPut (a.fin uPut vs) : List γ).map g) = V2 at *
      have la := lits_len a
      have lb := lits_len b
      have lc := lits_len c
      simp [Ex.enc, Ex.put, Ex.thr, pp, hw, sl0, sl, u0, v1, v2, j1, j2, j3, l1, l2, l3, forL_cons, forL_nil, ca21, cb21, ca31, cb31, ca32, cb32, ca41, cb41, ca42, cb42, ca43, cb43, z1, z2, z3, z4, show w.length ≤ sLine by omega, show vs.length ≤ sLine by omega, show a.lits.length ≤ sLine by omega, show b.lits.length ≤ sLine by omega, show c.lits.length ≤ sLine by omega]
end
end Ev

/-! ## Ev48 -/
set_option Elab.async false
set_option linter.all false
set_option maxRecDepth 100000
/-! Ev48: stamped, shaped, filled. -/
namespace Ev
open PySem
instance : Inhabited (List Ch) := ⟨[]⟩
theorem gSt_len (ch c : Int) (s : List Nat) : (gSt ch s c).length = s.length := stampL_len ..
theorem stamp_expr_ok {P : List Nat → Prop} (hP : ∀ s, P s → s.length ≤ 1000) {e : Ex (List Nat)} {ch c : Int} (st : Store) (h : e.ok P) (hd : e.depth < 8) (hl : e.subs.length ≤ 1000) : c_stamp_expression [e.enc .str, .int ch, .int c] st = .ok (.v ((e.mark ch c).enc txD)) st := by
  have hsl : sLine = 16777216 := rfl
  refine call_pure ?_ (Ex.pure_enc tx_pure _)
  have e1 := fun st => litvals_ok (f := D.str) (fun _ => rfl) st h hd hl
  have hll := lits_len e
  have hlo := Ex.lits_ok h
  have hw : ∀ vs : List (List Ch), e.lits.length = vs.length → c_with_literals 8 [e.enc .str, .ref st.length] (st ++ [.lst (vs.map txD)]) = .ok (.v ((e.put vs).enc txD)) (st ++ [.lst (vs.map txD)]) := fun vs hv =>
    with_ok (f := D.str) (g := txD) (fun _ => rfl) tx_pure 8 h hd hd hl (by omega) (by omega) (by simp)
  have hp := put_of_thr (gSt ch) uSt e c
  unfold d_stamp_expression Ex.mark
  rw [← hp]
  generalize hE : e.enc D.str = E at *
  have hlen : (e.lits.map D.str).length ≤ sLine := by simp; omega
  simp [e1, show e.lits.length ≤ sLine by omega, show 0 ≤ sLine by omega]
  refine hide (α := LI) (fun ds env w => ∃ (a r : List (List Nat)) (x4 : Option D), a ++ r = e.lits ∧ ds = r.map D.str ∧ env = [some E, some (.int ch), some (.int (finL uSt a c)), some (.ref st.length), x4] ∧ w = st ++ [.lst ((thrL (gSt ch) uSt a c).map txD)]) fun I hI => ?_
  refine wp_forS I (by rw [hI]; exact ⟨[], _, _, rfl, rfl, rfl, rfl⟩) ?_ ?_
  · intro d ds env w hi
    rw [hI] at hi
    obtain ⟨a, r, x2, h1, h2, rfl, rfl⟩ := hi
    cases r with
    | nil => cases h2
    | cons v r =>
      cases h2
      refine ⟨_, rfl, ?_⟩
      have hv := hP v (hlo v (by rw [← h1]; simp))
      have sv := fun a st => stamped_ok (s := v) (ch := ch) (a := a) (st := st) (by omega)
      have tl := thrL_len (gSt ch) uSt a c
      have al : a.length < sLine := by have := congrArg List.length h1; simp at this; omega
      have go : I (r.map D.str) [some E, some (.int ch), some (.int (finL uSt a c + v.length)), some (.ref st.length), some (.str v)] (st ++ [.lst ((thrL (gSt ch) uSt a c).map txD ++ [txD (stampL v ch (finL uSt a c))])]) := by
        rw [hI]
        exact ⟨a ++ [v], r, some (.str v), by simpa using h1, rfl, by simp [finL_app, finL], by simp [thrL_app, thrL]⟩
      have ml : ((thrL (gSt ch) uSt a c).map txD).length < sLine := by rw [List.length_map, tl]; exact al
      generalize (thrL (gSt ch) uSt a c).map txD = L at *
      simp [sv, ml, show v.length ≤ sLine by omega]
      exact go
  · intro env w hi
    rw [hI] at hi
    obtain ⟨a, r, x2, h1, h2, rfl, rfl⟩ := hi
    cases r with
    | cons => cases h2
    | nil =>
      simp at h1
      subst h1
      have := hw (thrL (gSt ch) uSt e.lits c) (thrL_len ..).symm
      generalize (thrL (gSt ch) uSt e.lits c) = vs at *
      simp [this]
/-! ### shape -/
abbrev uU {α : Type} : α → Unit → Unit := fun _ s => s
def Ex.shape {α : Type} (ln : α → Int) (e : Ex α) : Ex Int := e.thr (fun v _ => ln v) uU ()
theorem thrL_map {α β : Type} (g : α → β) : ∀ l : List α, thrL (fun v (_ : Unit) => g v) uU l () = l.map g
  | [] => rfl
  | v :: l => by simp only [thrL, List.map_cons, thrL_map g l]
theorem shape_of_ok {α : Type} {f : α → D} {ln : α → Int} (hf : ∀ v, D.pure (f v) = true) {P : α → Prop} (hln : ∀ v st, P v → dLen (.v (f v)) st = some (.v (.int (ln v)))) {e : Ex α} (st : Store) (h : e.ok P) (hd : e.depth < 8) (hl : e.subs.length ≤ 1000) : c_shape_of [e.enc f] st = .ok (.v ((e.shape ln).enc .int)) st := by
  have hsl : sLine = 16777216 := rfl
  refine call_pure ?_ (Ex.pure_enc (fun _ => rfl) _)
  have e1 := fun st => litvals_ok (f := f) hf st h hd hl
  have hll := lits_len e
  have hw := with_ok (f := f) (g := D.int) hf (fun _ => rfl) 8 (st := st ++ [.lst ((e.lits.map ln).map D.int)]) (m := st.length) (vs := e.lits.map ln) h hd hd hl (by simp) (by simp; omega) (by simp)
  have hp := put_of_thr (fun v (_ : Unit) => ln v) uU e ()
  rw [thrL_map] at hp
  unfold d_shape_of Ex.shape
  rw [← hp]
  have cm : ∀ (gd : Store → Prop), gd st → compL gd (.one 1) ttYes (eN (g1 dLen) (bCons (eVar 1) bNil)) [some (e.enc f), none] (e.lits.map f) st = .ok (e.lits.map fun v => D.int (ln v)) st := fun gd hgd =>
    comp_mapA hgd fun v hv => ⟨_, rfl, by simp [hln v _ (Ex.lits_ok h v hv)]⟩
  have cl : (e.lits.map fun v => D.int (ln v)) = (e.lits.map ln).map D.int := by rw [List.map_map]; rfl
  rw [cl] at cm
  have l1 : (e.lits.map f).length ≤ sLine := by simp; omega
  have l2 : ((e.lits.map ln).map D.int).length ≤ sLine := by simp; omega
  generalize e.enc f = E at *
  generalize (e.lits.map ln).map D.int = L at *
  generalize e.lits.map f = M at *
  simp [e1, cm, hw, l1, l2]
/-! ### filling -/
abbrev gF (tx : List Ch) : Int → Int → List Ch := fun l a => cut tx (some a) (some (a + l))
abbrev uF : Int → Int → Int := fun l a => a + l
theorem tx_cut (tx : List Ch) (a b : Option Int) : D.tup (cut (tx.map chD) a b) = txD (cut tx a b) := by
  unfold txD; rw [cut_map]
theorem fill_ok {P : Int → Prop} {e : Ex Int} {tx : List Ch} (st : Store) (h : e.ok P) (hd : e.depth < 8) (hl : e.subs.length ≤ 1000) : c_fill [e.enc .int, txD tx] st = .ok (.v ((e.thr (gF tx) uF 0).enc txD)) st := by
  have hsl : sLine = 16777216 := rfl
  refine call_pure ?_ (Ex.pure_enc tx_pure _)
  have e1 := fun st => litvals_ok (f := D.int) (fun _ => rfl) st h hd hl
  have hll := lits_len e
  have hw : ∀ vs : List (List Ch), e.lits.length = vs.length → c_with_literals 8 [e.enc .int, .ref st.length] (st ++ [.lst (vs.map txD)]) = .ok (.v ((e.put vs).enc txD)) (st ++ [.lst (vs.map txD)]) := fun vs hv =>
    with_ok (f := D.int) (g := txD) (fun _ => rfl) tx_pure 8 h hd hd hl (by omega) (by omega) (by simp)
  have hp := put_of_thr (gF tx) uF e 0
  unfold d_fill
  rw [← hp]
  generalize hE : e.enc D.int = E at *
  have hlen : (e.lits.map D.int).length ≤ sLine := by simp; omega
  simp [e1, show e.lits.length ≤ sLine by omega, show 0 ≤ sLine by omega]
  refine hide (α := LI) (fun ds env w => ∃ (a r : List Int) (x4 : Option D), a ++ r = e.lits ∧ ds = r.map D.int ∧ env = [some E, some (txD tx), some (.ref st.length), some (.int (finL uF a 0)), x4] ∧ w = st ++ [.lst ((thrL (gF tx) uF a 0).map txD)]) fun I hI => ?_
  refine wp_forS I (by rw [hI]; exact ⟨[], _, _, rfl, rfl, rfl, rfl⟩) ?_ ?_
  · intro d ds env w hi
    rw [hI] at hi
    obtain ⟨a, r, x2, h1, h2, rfl, rfl⟩ := hi
    cases r with
    | nil => cases h2
    | cons v r =>
      cases h2
      refine ⟨_, rfl, ?_⟩
      have tl := thrL_len (gF tx) uF a 0
      have al : a.length < sLine := by have := congrArg List.length h1; simp at this; omega
      have go : I (r.map D.int) [some E, some (txD tx), some (.ref st.length), some (.int (finL uF a 0 + v)), some (.int v)] (st ++ [.lst ((thrL (gF tx) uF a 0).map txD ++ [txD (gF tx v (finL uF a 0))])]) := by
        rw [hI]
        exact ⟨a ++ [v], r, some (.int v), by simpa using h1, rfl, by simp [finL_app, finL], by simp [thrL_app, thrL]⟩
      have ml : ((thrL (gF tx) uF a 0).map txD).length < sLine := by rw [List.length_map, tl]; exact al
      generalize (thrL (gF tx) uF a 0).map txD = L at *
      simp [tx_cut, ml]
      exact go
  · intro env w hi
    rw [hI] at hi
    obtain ⟨a, r, x2, h1, h2, rfl, rfl⟩ := hi
    cases r with
    | cons => cases h2
    | nil =>
      simp at h1
      subst h1
      have := hw (thrL (gF tx) uF e.lits 0) (thrL_len ..).symm
      generalize (thrL (gF tx) uF e.lits 0) = vs at *
      simp [this]
end Ev

/-! ## Ev49 -/
set_option Elab.async false
set_option linter.all false
set_option maxRecDepth 100000
/-! Ev49: the law's own shapes and filling. -/
namespace Ev
open PySem
inductive FiL (g : List D → Store → R RV) (tx : List Ch) (m : Nat) (S : Store) : List D → List D → Int → Int → Prop
  | nil {c : Int} : FiL g tx m S [] [] c c
  | cons {d d' : D} {ds ds' : List D} {c c1 c2 : Int} : g [d, txD tx, .ref m] (cel S m c) = .ok (.v d') (cel S m c1) → FiL g tx m S ds ds' c1 c2 → FiL g tx m S (d :: ds) (d' :: ds') c c2
theorem filling_str {S : Store} {m : Nat} (hm : m < S.length) {tx : List Ch} (n : Nat) (w : List Nat) (c : Int) : c_l_filling (n + 1) [.str w, txD tx, .ref m] (cel S m c) = .ok (.v (.str w)) (cel S m c) := by
  refine call_cel hm ?_ rfl
  unfold d_l_filling
  simp
theorem filling_int {S : Store} {m : Nat} (hm : m < S.length) {tx : List Ch} (n : Nat) (w : Int) (c : Int) : c_l_filling (n + 1) [.int w, txD tx, .ref m] (cel S m c) = .ok (.v (.int w)) (cel S m c) := by
  refine call_cel hm ?_ rfl
  unfold d_l_filling
  simp
theorem filling_ok {P : Int → Prop} {S : Store} {m : Nat} (hm : m < S.length) {tx : List Ch} : ∀ (n : Nat) {e : Ex Int} (c : Int), e.ok P → e.depth + 1 < n → c_l_filling n [e.enc .int, txD tx, .ref m] (cel S m c) = .ok (.v ((e.thr (gF tx) uF c).enc txD)) (cel S m (e.fin uF c))
  | 0, _, _, _, h => absurd h (Nat.not_lt_zero _)
  | 1, _, _, _, h => absurd h (by omega)
  | n + 2, e, c, hok, hd => by
    have hsl : sLine = 16777216 := rfl
    have ih := fun {e : Ex Int} (c : Int) (h1 : e.ok P) (h2 : e.depth + 1 < n + 1) => filling_ok hm (tx := tx) (n + 1) c h1 h2
    have a1 := fun w c => filling_str (S := S) hm (tx := tx) n w c
    have a2 := fun w c => filling_int (S := S) hm (tx := tx) n w c
    have ii := isi_enc (f := D.int) e
    have i0 := fun st => enc_0 D.int e st
    have cs := cel_set S m
    have ca := cel_at hm
    refine call_cel hm ?_ (Ex.pure_enc tx_pure _)
    have cm : ∀ (gd : Store → Prop) (E : D) (parts parts' : List D) (c c' : Int), (∀ s, gd s) → parts.length ≤ 4 → FiL (c_l_filling (n + 1)) tx m S parts parts' c c' → compL gd (.one 4) ttYes (eCall (c_l_filling (n + 1)) [] (aCons (eVar 4) (aCons (eVar 1) (aCons (eVar 2) aNil)))) [some E, some (txD tx), some (.ref m), none, none] parts (cel S m c) = .ok parts' (cel S m c') := by
      intro gd E parts parts' c c' hgd hl hk
      induction hk with
      | nil => rfl
      | cons h1 h2 ih2 =>
        refine compL_one rfl ?_ (hgd _) (ih2 (by simp only [List.length_cons] at hl; omega))
        simp [h1]
    cases e with
    | lit s =>
      unfold d_l_filling
      simp [Ex.enc, Ex.thr, Ex.fin, ca, cs, tx_cut, show 2 ≤ sLine by decide]
    | leaf w k =>
      have hw : w ≠ wLit ∧ w.length ≤ 30 := by
        have h := hok.1
        simp only [wLeaf, List.mem_cons, List.not_mem_nil, or_false] at h
        rcases h with rfl | rfl | rfl | rfl <;> simp
      have mk : FiL (c_l_filling (n + 1)) tx m S [.str w, .str k] [.str w, .str k] c c := .cons (a1 w c) (.cons (a1 k c) .nil)
      have hc := fun (gd : Store → Prop) (E : D) hg => cm gd E _ _ _ _ hg (by simp) mk
      unfold d_l_filling
      simp [Ex.enc, Ex.thr, Ex.fin, hw, hc, show w.length ≤ sLine by omega, show 2 ≤ sLine by decide, show 3 ≤ sLine by decide, show 4 ≤ sLine by decide]
    | slice e a b =>
      have i1 := ih (e := e) c hok.1 (by simp only [Ex.depth] at hd; omega)
      have mk : FiL (c_l_filling (n + 1)) tx m S _ _ c _ := .cons (a1 wSlice c) (.cons i1 (.cons (a2 a _) (.cons (a2 b _) .nil)))
      have hc := fun (gd : Store → Prop) (E : D) hg => cm gd E _ _ _ _ hg (by simp) mk
      unfold d_l_filling
      simp [Ex.enc, Ex.thr, Ex.fin, hc, show 2 ≤ sLine by decide, show 3 ≤ sLine by decide, show 4 ≤ sLine by decide]
    | dyn e =>
      have i1 := ih (e := e) c hok (by simp only [Ex.depth] at hd; omega)
      have mk : FiL (c_l_filling (n + 1)) tx m S _ _ c _ := .cons (a1 wDyn c) (.cons i1 .nil)
      have hc := fun (gd : Store → Prop) (E : D) hg => cm gd E _ _ _ _ hg (by simp) mk
      unfold d_l_filling
      simp [Ex.enc, Ex.thr, Ex.fin, hc, show 2 ≤ sLine by decide, show 3 ≤ sLine by decide, show 4 ≤ sLine by decide]
    | two w a b =>
      have hw : w ≠ wLit ∧ w.length ≤ 30 := by
        have h := hok.1
        simp only [wTwo, List.mem_cons, List.not_mem_nil, or_false] at h
        rcases h with rfl | rfl | rfl | rfl <;> simp
      have i1 := ih (e := a) c hok.2.1 (by simp only [Ex.depth] at hd; omega)
      have i2 := ih (e := b) (a.fin uF c) hok.2.2 (by simp only [Ex.depth] at hd; omega)
      have mk : FiL (c_l_filling (n + 1)) tx m S _ _ c _ := .cons (a1 w c) (.cons i1 (.cons i2 .nil))
      have hc := fun (gd : Store → Prop) (E : D) hg => cm gd E _ _ _ _ hg (by simp) mk
      unfold d_l_filling
      simp [Ex.enc, Ex.thr, Ex.fin, hw, hc, show w.length ≤ sLine by omega, show 2 ≤ sLine by decide, show 3 ≤ sLine by decide, show 4 ≤ sLine by decide]
    | coin k a b =>
      have i1 := ih (e := a) c hok.1 (by simp only [Ex.depth] at hd; omega)
      have i2 := ih (e := b) (a.fin uF c) hok.2.1 (by simp only [Ex.depth] at hd; omega)
      have mk : FiL (c_l_filling (n + 1)) tx m S _ _ c _ := .cons (a1 wCoin c) (.cons (a2 k c) (.cons i1 (.cons i2 .nil)))
      have hc := fun (gd : Store → Prop) (E : D) hg => cm gd E _ _ _ _ hg (by simp) mk
      unfold d_l_filling
      simp [Ex.enc, Ex.thr, Ex.fin, hc, show 2 ≤ sLine by decide, show 3 ≤ sLine by decide, show 4 ≤ sLine by decide]
    | tri w a b d =>
      have hw : w ≠ wLit ∧ w.length ≤ 30 := by
        have h := hok.1
        simp only [wTri, List.mem_cons, List.not_mem_nil, or_false] at h
        rcases h with rfl | rfl <;> simp
      have i1 := ih (e := a) c hok.2.1 (by simp only [Ex.depth] at hd; omega)
      have i2 := ih (e := b) (a.fin uF c) hok.2.2.1 (by simp only [Ex.depth] at hd; omega)
      have i3 := ih (e := d) (b.fin uF (a.fin uF c)) hok.2.2.2 (by simp only [Ex.depth] at hd; omega)
      have mk : FiL (c_l_filling (n + 1)) tx m S _ _ c _ := .cons (a1 w c) (.cons i1 (.cons i2 (.cons i3 .nil)))
      have hc := fun (gd : Store → Prop) (E : D) hg => cm gd E _ _ _ _ hg (by simp) mk
      unfold d_l_filling
      simp [Ex.enc, Ex.thr, Ex.fin, hw, hc, show w.length ≤ sLine by omega, show 2 ≤ sLine by decide, show 3 ≤ sLine by decide, show 4 ≤ sLine by decide]
abbrev lnS : List Nat → Int := fun s => s.length
inductive ShL (g : List D → Store → R RV) : List D → List D → Prop
  | nil : ShL g [] []
  | cons {d d' : D} {ds ds' : List D} : (∀ st, g [d] st = .ok (.v d') st) → ShL g ds ds' → ShL g (d :: ds) (d' :: ds')
theorem lshape_str (n : Nat) (w : List Nat) (st : Store) : c_l_shape (n + 1) [.str w] st = .ok (.v (.str w)) st := by
  refine call_pure ?_ rfl
  unfold d_l_shape
  simp
theorem lshape_int (n : Nat) (w : Int) (st : Store) : c_l_shape (n + 1) [.int w] st = .ok (.v (.int w)) st := by
  refine call_pure ?_ rfl
  unfold d_l_shape
  simp
theorem lshape_ok {P : List Nat → Prop} (hP : ∀ s, P s → s.length ≤ 1000) : ∀ (n : Nat) {e : Ex (List Nat)} (st : Store), e.ok P → e.depth + 1 < n → c_l_shape n [e.enc .str] st = .ok (.v ((e.shape lnS).enc .int)) st
  | 0, _, _, _, h => absurd h (Nat.not_lt_zero _)
  | 1, _, _, _, h => absurd h (by omega)
  | n + 2, e, st, hok, hd => by
    have hsl : sLine = 16777216 := rfl
    have ih := fun {e : Ex (List Nat)} (h1 : e.ok P) (h2 : e.depth + 1 < n + 1) (st : Store) => lshape_ok hP (n + 1) st h1 h2
    have a1 := fun w st => lshape_str n w st
    have a2 := fun w st => lshape_int n w st
    refine call_pure ?_ (Ex.pure_enc (fun _ => rfl) _)
    have cm : ∀ (gd : Store → Prop) (E : D) (parts parts' : List D) (st : Store), gd st → ShL (c_l_shape (n + 1)) parts parts' → compL gd (.one 1) ttYes (eCall (c_l_shape (n + 1)) [] (aCons (eVar 1) aNil)) [some E, none] parts st = .ok parts' st := by
      intro gd E parts parts' st hgd hk
      induction hk with
      | nil => rfl
      | cons h1 h2 ih2 =>
        refine compL_one rfl ?_ hgd ih2
        simp [h1]
    cases e with
    | lit s =>
      have b1 := hP s hok
      unfold d_l_shape
      simp [Ex.enc, Ex.shape, Ex.thr, show s.length ≤ sLine by omega, show 2 ≤ sLine by decide]
    | leaf w k =>
      have hw : w ≠ wLit ∧ w.length ≤ 30 := by
        have h := hok.1
        simp only [wLeaf, List.mem_cons, List.not_mem_nil, or_false] at h
        rcases h with rfl | rfl | rfl | rfl <;> simp
      have mk : ShL (c_l_shape (n + 1)) _ _ := .cons (a1 w) (.cons (a1 k) .nil)
      have hc := fun (gd : Store → Prop) (E : D) st hg => cm gd E _ _ st hg mk
      unfold d_l_shape
      simp [Ex.enc, Ex.shape, Ex.thr, hw, hc, show w.length ≤ sLine by omega, show 2 ≤ sLine by decide, show 3 ≤ sLine by decide, show 4 ≤ sLine by decide]
    | slice e a b =>
      have i1 := ih (e := e) hok.1 (by simp only [Ex.depth] at hd; omega)
      have mk : ShL (c_l_shape (n + 1)) _ _ := .cons (a1 wSlice) (.cons i1 (.cons (a2 a) (.cons (a2 b) .nil)))
      have hc := fun (gd : Store → Prop) (E : D) st hg => cm gd E _ _ st hg mk
      unfold d_l_shape
      simp [Ex.enc, Ex.shape, Ex.thr, hc, show 2 ≤ sLine by decide, show 3 ≤ sLine by decide, show 4 ≤ sLine by decide]
    | dyn e =>
      have i1 := ih (e := e) hok (by simp only [Ex.depth] at hd; omega)
      have mk : ShL (c_l_shape (n + 1)) _ _ := .cons (a1 wDyn) (.cons i1 .nil)
      have hc := fun (gd : Store → Prop) (E : D) st hg => cm gd E _ _ st hg mk
      unfold d_l_shape
      simp [Ex.enc, Ex.shape, Ex.thr, hc, show 2 ≤ sLine by decide, show 3 ≤ sLine by decide, show 4 ≤ sLine by decide]
    | two w a b =>
      have hw : w ≠ wLit ∧ w.length ≤ 30 := by
        have h := hok.1
        simp only [wTwo, List.mem_cons, List.not_mem_nil, or_false] at h
        rcases h with rfl | rfl | rfl | rfl <;> simp
      have i1 := ih (e := a) hok.2.1 (by simp only [Ex.depth] at hd; omega)
      have i2 := ih (e := b) hok.2.2 (by simp only [Ex.depth] at hd; omega)
      have mk : ShL (c_l_shape (n + 1)) _ _ := .cons (a1 w) (.cons i1 (.cons i2 .nil))
      have hc := fun (gd : Store → Prop) (E : D) st hg => cm gd E _ _ st hg mk
      unfold d_l_shape
      simp [Ex.enc, Ex.shape, Ex.thr, hw, hc, show w.length ≤ sLine by omega, show 2 ≤ sLine by decide, show 3 ≤ sLine by decide, show 4 ≤ sLine by decide]
    | coin k a b =>
      have i1 := ih (e := a) hok.1 (by simp only [Ex.depth] at hd; omega)
      have i2 := ih (e := b) hok.2.1 (by simp only [Ex.depth] at hd; omega)
      have mk : ShL (c_l_shape (n + 1)) _ _ := .cons (a1 wCoin) (.cons (a2 k) (.cons i1 (.cons i2 .nil)))
      have hc := fun (gd : Store → Prop) (E : D) st hg => cm gd E _ _ st hg mk
      unfold d_l_shape
      simp [Ex.enc, Ex.shape, Ex.thr, hc, show 2 ≤ sLine by decide, show 3 ≤ sLine by decide, show 4 ≤ sLine by decide]
    | tri w a b d =>
      have hw : w ≠ wLit ∧ w.length ≤ 30 := by
        have h := hok.1
        simp only [wTri, List.mem_cons, List.not_mem_nil, or_false] at h
        rcases h with rfl | rfl <;> simp
      have i1 := ih (e := a) hok.2.1 (by simp only [Ex.depth] at hd; omega)
      have i2 := ih (e := b) hok.2.2.1 (by simp only [Ex.depth] at hd; omega)
      have i3 := ih (e := d) hok.2.2.2 (by simp only [Ex.depth] at hd; omega)
      have mk : ShL (c_l_shape (n + 1)) _ _ := .cons (a1 w) (.cons i1 (.cons i2 (.cons i3 .nil)))
      have hc := fun (gd : Store → Prop) (E : D) st hg => cm gd E _ _ st hg mk
      unfold d_l_shape
      simp [Ex.enc, Ex.shape, Ex.thr, hw, hc, show w.length ≤ sLine by omega, show 2 ≤ sLine by decide, show 3 ≤ sLine by decide, show 4 ≤ sLine by decide]
end Ev

/-! ## Ev50 -/
set_option Elab.async false
set_option linter.all false
set_option maxRecDepth 100000
/-! Ev50: repr of expressions; numbers drawn; taking apart and putting together. -/
namespace Ev
open PySem
theorem number_at (T : Tp) (rest : Store) : ∃ (v : Int) (T' : Tp), c_l_number [.ref 1] (mk T rest) = .ok (.v (.int v)) (mk T' rest) ∧ 0 ≤ v ∧ v < 10 ^ 21 ∧ T'.xs = T.xs := by
  have hsl : sLine = 16777216 := rfl
  have main : Wp (c_l_number [.ref 1] (mk T rest)) fun a w => ∃ (v : Int) (T' : Tp), a = .v (.int v) ∧ w = mk T' rest ∧ 0 ≤ v ∧ v < 10 ^ 21 ∧ T'.xs = T.xs := by
    refine wpc ?_
    have key : ∀ (v : Int) (T' : Tp), 0 ≤ v → v < 10 ^ 21 → T'.xs = T.xs → Lv (mk T rest) (fun a w => ∃ (v : Int) (T' : Tp), a = .v (.int v) ∧ w = mk T' rest ∧ 0 ≤ v ∧ v < 10 ^ 21 ∧ T'.xs = T.xs) (.v (.int v)) (mk T' rest) :=
      fun s T' a1 a2 a3 => Lv.out0 a3.symm rfl ⟨s, T', rfl, rfl, a1, a2, a3⟩
    generalize Lv (mk T rest) _ = Q at key ⊢
    have x0 := nx_xs T 1000
    have a0 := dr_nn T 1000
    have a1 := dr_lt T 1000 (by decide)
    have d1 := draw_at T 1000 rest (by decide)
    generalize dr T 1000 = a at *
    generalize nx T 1000 = T1 at *
    have x1 := nx_xs T1 1000000000
    have b0 := dr_nn T1 1000000000
    have b1 := dr_lt T1 1000000000 (by decide)
    have d2 := draw_at T1 1000000000 rest (by decide)
    generalize dr T1 1000000000 = b at *
    generalize nx T1 1000000000 = T2 at *
    have x2 := nx_xs T2 4
    have c0 := dr_nn T2 4
    have c1 := dr_lt T2 4 (by decide)
    have d3 := draw_at T2 4 rest (by decide)
    generalize dr T2 4 = c at *
    generalize nx T2 4 = T3 at *
    have x3 : T3.xs = T.xs := by rw [x2, x1, x0]
    unfold d_l_number
    have : c = 0 ∨ c = 1 ∨ c = 2 ∨ c = 3 := by omega
    rcases this with rfl | rfl | rfl | rfl
    · simp [d1, d2, d3, show 4 ≤ sLine by omega]
      exact key _ _ (by omega) (by omega) x3
    · simp [d1, d2, d3, show 4 ≤ sLine by omega]
      exact key _ _ (by omega) (by omega) x3
    · simp [d1, d2, d3, show 4 ≤ sLine by omega]
      exact key _ _ (by omega) (by omega) x3
    · simp [d1, d2, d3, show 4 ≤ sLine by omega]
      exact key _ _ (by omega) (by omega) x3
  obtain ⟨a, w, e, l, T', rfl, rfl, h⟩ := main.out
  exact ⟨l, T', e, h⟩
/-! ### repr -/
section
variable {α : Type}
theorem cps_leaf {w : List Nat} (h : w ∈ wLeaf) : cpsOk w = true ∧ w.length ≤ 30 := by
  simp only [wLeaf, List.mem_cons, List.not_mem_nil, or_false] at h
  rcases h with rfl | rfl | rfl | rfl <;> exact ⟨by decide, by decide⟩
theorem cps_two {w : List Nat} (h : w ∈ wTwo) : cpsOk w = true ∧ w.length ≤ 30 := by
  simp only [wTwo, List.mem_cons, List.not_mem_nil, or_false] at h
  rcases h with rfl | rfl | rfl | rfl <;> exact ⟨by decide, by decide⟩
theorem cps_tri {w : List Nat} (h : w ∈ wTri) : cpsOk w = true ∧ w.length ≤ 30 := by
  simp only [wTri, List.mem_cons, List.not_mem_nil, or_false] at h
  rcases h with rfl | rfl <;> exact ⟨by decide, by decide⟩
theorem small_up {i : Int} (h : i.natAbs < 10 ^ 12) : i.natAbs < 10 ^ 22 := Nat.lt_of_lt_of_le h (by decide)
theorem enc_ru {f : α → D} {P : α → Prop} {k : Nat} (hf : ∀ v, P v → ∀ j, k ≤ j → D.ru j (f v) = true) : ∀ {e : Ex α} {n : Nat}, e.ok P → e.depth + k + 1 ≤ n → D.ru n (e.enc f) = true
  | e, 0, _, h => absurd h (by omega)
  | .lit v, n + 1, h, hn => by
    have := hf v h n (by simp only [Ex.depth] at hn; omega)
    simp only [Ex.enc, D.ru, D.rus, this, Bool.and_true]; decide
  | .leaf w m, n + 1, h, hn => by
    simp only [Ex.enc, D.ru, D.rus, (cps_leaf h.1).1, h.2.1, Bool.and_true]
  | .slice e a b, n + 1, h, hn => by
    have := enc_ru hf (e := e) (n := n) h.1 (by simp only [Ex.depth] at hn; omega)
    simp only [Ex.enc, D.ru, D.rus, this, decide_eq_true (small_up h.2.1), decide_eq_true (small_up h.2.2), Bool.and_true]; decide
  | .dyn e, n + 1, h, hn => by
    have := enc_ru hf (e := e) (n := n) h (by simp only [Ex.depth] at hn; omega)
    simp only [Ex.enc, D.ru, D.rus, this, Bool.and_true]; decide
  | .two w a b, n + 1, h, hn => by
    have h1 := enc_ru hf (e := a) (n := n) h.2.1 (by simp only [Ex.depth] at hn; omega)
    have h2 := enc_ru hf (e := b) (n := n) h.2.2 (by simp only [Ex.depth] at hn; omega)
    simp only [Ex.enc, D.ru, D.rus, h1, h2, (cps_two h.1).1, Bool.and_true]
  | .coin c a b, n + 1, h, hn => by
    have h1 := enc_ru hf (e := a) (n := n) h.1 (by simp only [Ex.depth] at hn; omega)
    have h2 := enc_ru hf (e := b) (n := n) h.2.1 (by simp only [Ex.depth] at hn; omega)
    simp only [Ex.enc, D.ru, D.rus, h1, h2, decide_eq_true (small_up h.2.2), Bool.and_true]; decide
  | .tri w a b c, n + 1, h, hn => by
    have h1 := enc_ru hf (e := a) (n := n) h.2.1 (by simp only [Ex.depth] at hn; omega)
    have h2 := enc_ru hf (e := b) (n := n) h.2.2.1 (by simp only [Ex.depth] at hn; omega)
    have h3 := enc_ru hf (e := c) (n := n) h.2.2.2 (by simp only [Ex.depth] at hn; omega)
    simp only [Ex.enc, D.ru, D.rus, h1, h2, h3, (cps_tri h.1).1, Bool.and_true]
theorem enc_wu {f : α → D} {P : α → Prop} {B : Nat} (hf : ∀ v, P v → D.wu (f v) ≤ B) : ∀ {e : Ex α}, e.ok P → D.wu (e.enc f) ≤ B * e.lits.length + 300 * e.subs.length
  | .lit v, h => by
    have := hf v h
    simp only [Ex.enc, D.wu, D.wus, Ex.lits, Ex.subs, List.length_cons, List.length_nil]; omega
  | .leaf w m, h => by
    have := (cps_leaf h.1).2
    have := h.2.2
    simp only [Ex.enc, D.wu, D.wus, Ex.lits, Ex.subs, List.length_cons, List.length_nil]; omega
  | .slice e a b, h => by
    have := enc_wu hf (e := e) h.1
    simp only [Ex.enc, D.wu, D.wus, Ex.lits, Ex.subs, List.length_cons, List.length_nil]; omega
  | .dyn e, h => by
    have := enc_wu hf (e := e) h
    simp only [Ex.enc, D.wu, D.wus, Ex.lits, Ex.subs, List.length_cons, List.length_nil]; omega
  | .two w a b, h => by
    have := (cps_two h.1).2
    have h1 := enc_wu hf (e := a) h.2.1
    have h2 := enc_wu hf (e := b) h.2.2
    simp only [Ex.enc, D.wu, D.wus, Ex.lits, Ex.subs, List.length_cons, List.length_nil, List.length_append, Nat.mul_add]; omega
  | .coin k a b, h => by
    have h1 := enc_wu hf (e := a) h.1
    have h2 := enc_wu hf (e := b) h.2.1
    simp only [Ex.enc, D.wu, D.wus, Ex.lits, Ex.subs, List.length_cons, List.length_nil, List.length_append, Nat.mul_add]; omega
  | .tri w a b c, h => by
    have := (cps_tri h.1).2
    have h1 := enc_wu hf (e := a) h.2.1
    have h2 := enc_wu hf (e := b) h.2.2.1
    have h3 := enc_wu hf (e := c) h.2.2.2
    simp only [Ex.enc, D.wu, D.wus, Ex.lits, Ex.subs, List.length_cons, List.length_nil, List.length_append, Nat.mul_add]; omega
end
def chU (c : Ch) : Prop := c.1 < 0x110000 ∧ c.2.1.natAbs < 10 ^ 22 ∧ c.2.2.natAbs < 10 ^ 22
def QU (l : List Ch) : Prop := l.length ≤ 61 ∧ ∀ x ∈ l, chU x
theorem txD_ru {l : List Ch} (h : ∀ c ∈ l, chU c) (j : Nat) (hj : 2 ≤ j) : D.ru j (txD l) = true := by
  obtain ⟨k, rfl⟩ := Nat.exists_eq_add_of_le hj
  rw [Nat.add_comm]
  simp only [txD, D.ru]
  rw [rus_iff]
  intro d hd
  obtain ⟨c, hc, rfl⟩ := List.mem_map.mp hd
  obtain ⟨h1, h2, h3⟩ := h c hc
  simp [chD, D.ru, D.rus, cpsOk, h1, h2, h3]
theorem txD_wu (l : List Ch) : D.wu (txD l) ≤ 155 * l.length := by
  simp only [txD, D.wu]
  have := wus_le (m := 154) (l := l.map chD) (by
    intro d hd
    obtain ⟨c, hc, rfl⟩ := List.mem_map.mp hd
    simp [chD, D.wu, D.wus])
  simpa using this
theorem repr_marked {m : Ex (List Ch)} (h : m.ok QU) (hd : m.depth ≤ 8) (hl : m.subs.length ≤ 40) (st : Store) : dRepr (.v (m.enc txD)) st = some (.v (.str (rpr (m.enc txD)))) := by
  refine dRepr_u (enc_ru (k := 2) (P := QU) (fun v hv => txD_ru hv.2) h (by omega)) ?_
  have := enc_wu (f := txD) (B := 155 * 61) (P := QU) (fun v hv => Nat.le_trans (txD_wu v) (Nat.mul_le_mul_left _ hv.1)) h
  have := lits_len m
  omega
theorem repr_shape {m : Ex Int} (h : m.ok fun v => v.natAbs < 10 ^ 22) (hd : m.depth ≤ 8) (hl : m.subs.length ≤ 40) (st : Store) : dRepr (.v (m.enc .int)) st = some (.v (.str (rpr (m.enc .int)))) := by
  refine dRepr_u (enc_ru (k := 0) (fun v hv j _ => by simpa [D.ru] using hv) h (by omega)) ?_
  have := enc_wu (f := D.int) (B := 75) (P := fun v : Int => v.natAbs < 10 ^ 22) (fun v hv => by simp [D.wu]) h
  have := lits_len m
  omega
theorem stampL_chu : ∀ {s : List Nat} {ch a : Int}, cpsOk s = true → ch.natAbs < 10 ^ 22 → 0 ≤ a → a + s.length < 10 ^ 22 → ∀ c ∈ stampL s ch a, chU c
  | [], _, _, _, _, _, _, c, hc => by simp [stampL] at hc
  | x :: s, ch, a, h1, h2, h3, h4, c, hc => by
    simp only [cpsOk, List.all_cons, Bool.and_eq_true, decide_eq_true_eq] at h1
    simp only [List.length_cons] at h4
    simp only [stampL, List.mem_cons] at hc
    rcases hc with rfl | hc
    · exact ⟨h1.1, h2, by simp only; omega⟩
    · exact stampL_chu (s := s) h1.2 h2 (by omega) (by omega) c hc
/-- marked: the count stays small -/
theorem mark_okU {ch : Int} (hch : ch.natAbs < 10 ^ 22) {e : Ex (List Nat)} {c : Int} (h : e.ok PL) (h0 : 0 ≤ c) (h1 : c + 61 * e.lits.length < 10 ^ 22) : (e.mark ch c).ok QU ∧ c ≤ e.fin uSt c ∧ e.fin uSt c ≤ c + 61 * e.lits.length := by
  have fb : ∀ (l : List (List Nat)) (c : Int), (∀ v ∈ l, PL v) → c ≤ finL uSt l c ∧ finL uSt l c ≤ c + 61 * l.length := by
    intro l
    induction l with
    | nil => intro c _; simp [finL]
    | cons v l ih =>
      intro c h
      have h1 := (h v (List.mem_cons_self ..)).1
      have h2 := ih (c + v.length) fun x hx => h x (List.mem_cons_of_mem _ hx)
      simp only [finL, uSt, List.length_cons] at h2 ⊢
      omega
  have go : ∀ (e : Ex (List Nat)) (c : Int), e.ok PL → 0 ≤ c → c + 61 * e.lits.length < 10 ^ 22 → (e.mark ch c).ok QU := by
    intro e
    induction e with
    | lit s =>
      intro c h h0 h1
      have hs := h.1
      simp only [Ex.lits, List.length_cons, List.length_nil] at h1
      exact ⟨by rw [stampL_len]; exact h.1, stampL_chu h.2 hch h0 (by omega)⟩
    | leaf w n => intro c h _ _; exact h
    | slice e a b ih => intro c h h0 h1; exact ⟨ih c h.1 h0 h1, h.2⟩
    | dyn e ih => intro c h h0 h1; exact ih c h h0 h1
    | two w a b iha ihb =>
      intro c h h0 h1
      simp only [Ex.lits, List.length_append] at h1
      have q := fb a.lits c (Ex.lits_ok h.2.1)
      rw [← fin_lits] at q
      exact ⟨h.1, iha c h.2.1 h0 (by omega), ihb (a.fin uSt c) h.2.2 (by omega) (by omega)⟩
    | coin k a b iha ihb =>
      intro c h h0 h1
      simp only [Ex.lits, List.length_append] at h1
      have q := fb a.lits c (Ex.lits_ok h.1)
      rw [← fin_lits] at q
      exact ⟨iha c h.1 h0 (by omega), ihb (a.fin uSt c) h.2.1 (by omega) (by omega), h.2.2⟩
    | tri w a b d iha ihb ihd =>
      intro c h h0 h1
      simp only [Ex.lits, List.length_append] at h1
      have q := fb a.lits c (Ex.lits_ok h.2.1)
      rw [← fin_lits] at q
      have q2 := fb b.lits (a.fin uSt c) (Ex.lits_ok h.2.2.1)
      rw [← fin_lits] at q2
      exact ⟨h.1, iha c h.2.1 h0 (by omega), ihb (a.fin uSt c) h.2.2.1 (by omega) (by omega), ihd _ h.2.2.2 (by omega) (by omega)⟩
  have q := fb e.lits c (Ex.lits_ok h)
  rw [← fin_lits] at q
  exact ⟨go e c h h0 h1, q⟩
/-! ### apart and together -/
theorem shape_put {α : Type} (ln : α → Int) (e : Ex α) : e.shape ln = e.put (e.lits.map ln) := by
  have := put_of_thr (fun v (_ : Unit) => ln v) uU e ()
  rw [thrL_map] at this
  exact this.symm
theorem shape_lits {α : Type} (ln : α → Int) (e : Ex α) : (e.shape ln).lits = e.lits.map ln := by
  unfold Ex.shape; rw [thr_lits, thrL_map]
theorem thr_shape {α β σ : Type} {g : α → σ → β} {u : α → σ → σ} {la : α → Int} {lb : β → Int} (h : ∀ v s, lb (g v s) = la v) (e : Ex α) (s : σ) : (e.thr g u s).shape lb = e.shape la := by
  have q : ∀ (l : List α) (s : σ), (thrL g u l s).map lb = l.map la := by
    intro l
    induction l with
    | nil => intro s; rfl
    | cons v l ih => intro s; simp only [thrL, List.map_cons, h, ih]
  rw [shape_put, shape_put, put_thr, thr_lits, q]
abbrev lnT : List Ch → Int := fun s => s.length
theorem cut_back : ∀ (l : List (List Ch)) (pre : List Ch), thrL (gF (pre ++ l.flatten)) uF (l.map lnT) (pre.length : Int) = l
  | [], pre => rfl
  | v :: l, pre => by
    have ih := cut_back l (pre ++ v)
    simp only [List.map_cons, thrL, List.flatten_cons]
    have h1 : gF (pre ++ (v ++ l.flatten)) (lnT v) pre.length = v := by
      show cut _ _ _ = _
      rw [cutA, List.drop_left, List.take_left]
    have h2 : uF (lnT v) (pre.length : Int) = ((pre ++ v).length : Int) := by simp
    rw [h1, h2, ← List.append_assoc, ih]
/-- a text is filled into its own shape -/
theorem fill_back (m : Ex (List Ch)) : (m.shape lnT).thr (gF m.lits.flatten) uF 0 = m := by
  have h1 := put_of_thr (gF m.lits.flatten) uF (m.shape lnT) 0
  have h2 := cut_back m.lits []
  rw [List.nil_append] at h2
  have h2 : thrL (gF m.lits.flatten) uF (m.lits.map lnT) 0 = m.lits := h2
  rw [shape_lits, h2] at h1
  have h3 : (m.shape lnT).put m.lits = m.put m.lits := put_thr _ _ _ _ _
  have h4 := put_self m []
  rw [List.append_nil] at h4
  rw [← h1, h3, h4]
theorem gF_len {tx : List Ch} {l a : Int} (hl : 0 ≤ l) (ha : 0 ≤ a) : (gF tx l a).length ≤ l.toNat := by
  obtain ⟨i, rfl⟩ := Int.eq_ofNat_of_zero_le ha
  obtain ⟨m, rfl⟩ := Int.eq_ofNat_of_zero_le hl
  show (cut tx _ _).length ≤ _
  rw [cutA, List.length_take]
  omega
end Ev

/-! ## K10a -/
set_option Elab.async false
set_option linter.all false
set_option maxRecDepth 100000
namespace Law
open PySem PySem.Spec PyProof.Rows L2 Ev
def topS (i : Nat) : Stmt := PySem.Challenge.pw_shiptrace_k10_shapes.main.body.getD i (.Pass ⟨0, 0, 0, 0⟩)
abbrev s_l_tape : Stmt := topS 13
def N_l_tape : List Str := ["_law_script", "_law_total", "_law_cell"]
theorem sc_l_tape : FnScope N_l_tape ["_law_script"] (defScope s_l_tape) := ⟨rfl, rfl, rfl, by decide +kernel, rfl, by decide +kernel, by decide +kernel⟩
noncomputable def F_l_tape : List (Str × FnI) := []
noncomputable def C_l_tape : List (Str × D) := []
def B_l_tape : List Str := ["list", "int", "abs"]
theorem e_l_tape : denSs 60 (scOf N_l_tape (defScope s_l_tape) F_l_tape C_l_tape B_l_tape) (defBody s_l_tape) = d_l_tape := by kernel_rfl
abbrev s_l_draw : Stmt := topS 14
def N_l_draw : List Str := ["_law_tape_here", "_law_many", "_law_place", "_law_number_here"]
theorem sc_l_draw : FnScope N_l_draw ["_law_tape_here", "_law_many"] (defScope s_l_draw) := ⟨rfl, rfl, rfl, by decide +kernel, rfl, by decide +kernel, by decide +kernel⟩
noncomputable def F_l_draw : List (Str × FnI) := []
noncomputable def C_l_draw : List (Str × D) := []
def B_l_draw : List Str := ["max", "int", "len", "abs"]
theorem e_l_draw : denSs 60 (scOf N_l_draw (defScope s_l_draw) F_l_draw C_l_draw B_l_draw) (defBody s_l_draw) = d_l_draw := by kernel_rfl
abbrev s_l_name : Stmt := topS 17
def N_l_name : List Str := ["_law_tape_here", "_law_stem", "_law_menu", "_law_name_here", "_law_k"]
theorem sc_l_name : FnScope N_l_name ["_law_tape_here", "_law_stem"] (defScope s_l_name) := ⟨rfl, rfl, rfl, by decide +kernel, rfl, by decide +kernel, by decide +kernel⟩
noncomputable def F_l_name : List (Str × FnI) := [("_law_draw", ⟨2, [], c_l_draw⟩)]
noncomputable def C_l_name : List (Str × D) := []
def B_l_name : List Str := ["range"]
theorem e_l_name : denSs 60 (scOf N_l_name (defScope s_l_name) F_l_name C_l_name B_l_name) (defBody s_l_name) = d_l_name := by kernel_rfl
abbrev s_l_names : Stmt := topS 18
def N_l_names : List Str := ["_law_tape_here", "_law_most", "_law_stem", "_law_names_here", "_law_k", "_law_name_here"]
theorem sc_l_names : FnScope N_l_names ["_law_tape_here", "_law_most"] (defScope s_l_names) := ⟨rfl, rfl, rfl, by decide +kernel, rfl, by decide +kernel, by decide +kernel⟩
noncomputable def F_l_names : List (Str × FnI) := [("_law_draw", ⟨2, [], c_l_draw⟩), ("_law_name", ⟨2, [], c_l_name⟩)]
noncomputable def C_l_names : List (Str × D) := []
def B_l_names : List Str := ["range"]
theorem e_l_names : denSs 60 (scOf N_l_names (defScope s_l_names) F_l_names C_l_names B_l_names) (defBody s_l_names) = d_l_xnames := by kernel_rfl
abbrev s_l_string : Stmt := topS 15
def N_l_string : List Str := ["_law_tape_here", "_law_size", "_law_every", "_law_menu", "_law_k"]
theorem sc_l_string : FnScope N_l_string ["_law_tape_here", "_law_size"] (defScope s_l_string) := ⟨rfl, rfl, rfl, by decide +kernel, rfl, by decide +kernel, by decide +kernel⟩
noncomputable def F_l_string : List (Str × FnI) := [("_law_draw", ⟨2, [], c_l_draw⟩)]
noncomputable def C_l_string : List (Str × D) := []
def B_l_string : List Str := ["range", "len"]
theorem e_l_string : denSs 60 (scOf N_l_string (defScope s_l_string) F_l_string C_l_string B_l_string) (defBody s_l_string) = d_l_string := by kernel_rfl
abbrev s_l_literal : Stmt := topS 19
def N_l_literal : List Str := ["_law_tape_here", "_law_choice"]
theorem sc_l_literal : FnScope N_l_literal ["_law_tape_here"] (defScope s_l_literal) := ⟨rfl, rfl, rfl, by decide +kernel, rfl, by decide +kernel, by decide +kernel⟩
noncomputable def F_l_literal : List (Str × FnI) := [("_law_draw", ⟨2, [], c_l_draw⟩), ("_law_string", ⟨2, [], c_l_string⟩)]
noncomputable def C_l_literal : List (Str × D) := []
def B_l_literal : List Str := ["int"]
theorem e_l_literal : denSs 60 (scOf N_l_literal (defScope s_l_literal) F_l_literal C_l_literal B_l_literal) (defBody s_l_literal) = d_l_literal := by kernel_rfl
abbrev s_l_leaf : Stmt := topS 20
def N_l_leaf : List Str := ["_law_tape_here", "_law_names_here", "_law_choice", "_law_name_here"]
theorem sc_l_leaf : FnScope N_l_leaf ["_law_tape_here", "_law_names_here"] (defScope s_l_leaf) := ⟨rfl, rfl, rfl, by decide +kernel, rfl, by decide +kernel, by decide +kernel⟩
noncomputable def F_l_leaf : List (Str × FnI) := [("_law_draw", ⟨2, [], c_l_draw⟩), ("_law_literal", ⟨1, [], c_l_literal⟩)]
noncomputable def C_l_leaf : List (Str × D) := []
def B_l_leaf : List Str := ["len"]
theorem e_l_leaf : denSs 60 (scOf N_l_leaf (defScope s_l_leaf) F_l_leaf C_l_leaf B_l_leaf) (defBody s_l_leaf) = d_l_leaf := by kernel_rfl
abbrev s_l_expression : Stmt := topS 21
def N_l_expression : List Str := ["_law_tape_here", "_law_names_here", "_law_depth", "_law_coins", "_law_choice", "_law_left", "_law_first", "_law_right"]
theorem sc_l_expression : FnScope N_l_expression ["_law_tape_here", "_law_names_here", "_law_depth", "_law_coins"] (defScope s_l_expression) := ⟨rfl, rfl, rfl, by decide +kernel, rfl, by decide +kernel, by decide +kernel⟩
noncomputable def F_l_expression (c : List D → Store → R RV) : List (Str × FnI) := [("_law_expression", ⟨4, [], c⟩), ("_law_draw", ⟨2, [], c_l_draw⟩), ("_law_leaf", ⟨2, [], c_l_leaf⟩)]
noncomputable def C_l_expression : List (Str × D) := []
def B_l_expression : List Str := ["int"]
theorem e_l_expression (c : List D → Store → R RV) : denSs 60 (scOf N_l_expression (defScope s_l_expression) (F_l_expression c) C_l_expression B_l_expression) (defBody s_l_expression) = d_l_expression c := by kernel_rfl
abbrev s_l_number : Stmt := topS 23
def N_l_number : List Str := ["_law_tape_here"]
theorem sc_l_number : FnScope N_l_number ["_law_tape_here"] (defScope s_l_number) := ⟨rfl, rfl, rfl, by decide +kernel, rfl, by decide +kernel, by decide +kernel⟩
noncomputable def F_l_number : List (Str × FnI) := [("_law_draw", ⟨2, [], c_l_draw⟩)]
noncomputable def C_l_number : List (Str × D) := []
def B_l_number : List Str := []
theorem e_l_number : denSs 60 (scOf N_l_number (defScope s_l_number) F_l_number C_l_number B_l_number) (defBody s_l_number) = d_l_number := by kernel_rfl
abbrev s_l_stamped : Stmt := topS 16
def N_l_stamped : List Str := ["_law_string_here", "_law_change", "_law_start", "_law_k"]
theorem sc_l_stamped : FnScope N_l_stamped ["_law_string_here", "_law_change", "_law_start"] (defScope s_l_stamped) := ⟨rfl, rfl, rfl, by decide +kernel, rfl, by decide +kernel, by decide +kernel⟩
noncomputable def F_l_stamped : List (Str × FnI) := []
noncomputable def C_l_stamped : List (Str × D) := []
def B_l_stamped : List Str := ["tuple", "range", "len"]
theorem e_l_stamped : denSs 60 (scOf N_l_stamped (defScope s_l_stamped) F_l_stamped C_l_stamped B_l_stamped) (defBody s_l_stamped) = d_l_stamped := by kernel_rfl
abbrev s_l_marked : Stmt := topS 22
def N_l_marked : List Str := ["_law_part", "_law_change", "_law_count", "_law_first", "_law_inner"]
theorem sc_l_marked : FnScope N_l_marked ["_law_part", "_law_change", "_law_count"] (defScope s_l_marked) := ⟨rfl, rfl, rfl, by decide +kernel, rfl, by decide +kernel, by decide +kernel⟩
noncomputable def F_l_marked (c : List D → Store → R RV) : List (Str × FnI) := [("_law_marked", ⟨3, [], c⟩), ("_law_stamped", ⟨3, [], c_l_stamped⟩)]
noncomputable def C_l_marked : List (Str × D) := []
def B_l_marked : List Str := ["tuple", "isinstance", "len"]
theorem e_l_marked (c : List D → Store → R RV) : denSs 60 (scOf N_l_marked (defScope s_l_marked) (F_l_marked c) C_l_marked B_l_marked) (defBody s_l_marked) = d_l_marked c := by kernel_rfl
abbrev s_l_shape : Stmt := topS 25
def N_l_shape : List Str := ["_law_part", "_law_inner"]
theorem sc_l_shape : FnScope N_l_shape ["_law_part"] (defScope s_l_shape) := ⟨rfl, rfl, rfl, by decide +kernel, rfl, by decide +kernel, by decide +kernel⟩
noncomputable def F_l_shape (c : List D → Store → R RV) : List (Str × FnI) := [("_law_shape", ⟨1, [], c⟩)]
noncomputable def C_l_shape : List (Str × D) := []
def B_l_shape : List Str := ["tuple", "isinstance", "len"]
theorem e_l_shape (c : List D → Store → R RV) : denSs 60 (scOf N_l_shape (defScope s_l_shape) (F_l_shape c) C_l_shape B_l_shape) (defBody s_l_shape) = d_l_shape c := by kernel_rfl
abbrev s_l_text : Stmt := topS 24
def N_l_text : List Str := ["_law_tape_here", "_law_size", "_law_string_here", "_law_sign"]
theorem sc_l_text : FnScope N_l_text ["_law_tape_here", "_law_size"] (defScope s_l_text) := ⟨rfl, rfl, rfl, by decide +kernel, rfl, by decide +kernel, by decide +kernel⟩
noncomputable def F_l_text : List (Str × FnI) := [("_law_string", ⟨2, [], c_l_string⟩), ("_law_draw", ⟨2, [], c_l_draw⟩)]
noncomputable def C_l_text : List (Str × D) := []
def B_l_text : List Str := ["tuple"]
theorem e_l_text : denSs 60 (scOf N_l_text (defScope s_l_text) F_l_text C_l_text B_l_text) (defBody s_l_text) = d_l_text := by kernel_rfl
abbrev s_part_places : Stmt := topS 4
def N_part_places : List Str := ["expression"]
theorem sc_part_places : FnScope N_part_places ["expression"] (defScope s_part_places) := ⟨rfl, rfl, rfl, by decide +kernel, rfl, by decide +kernel, by decide +kernel⟩
noncomputable def F_part_places : List (Str × FnI) := []
noncomputable def C_part_places : List (Str × D) := []
def B_part_places : List Str := []
theorem e_part_places : denSs 60 (scOfD N_part_places (defScope s_part_places) F_part_places C_part_places B_part_places [("PLACES", tab_PLACES)]) (defBody s_part_places) = d_part_places := by kernel_rfl
abbrev s_subexpressions : Stmt := topS 5
def N_subexpressions : List Str := ["expression", "found", "place"]
theorem sc_subexpressions : FnScope N_subexpressions ["expression"] (defScope s_subexpressions) := ⟨rfl, rfl, rfl, by decide +kernel, rfl, by decide +kernel, by decide +kernel⟩
noncomputable def F_subexpressions (c : List D → Store → R RV) : List (Str × FnI) := [("subexpressions", ⟨1, [], c⟩), ("part_places", ⟨1, [], c_part_places⟩)]
noncomputable def C_subexpressions : List (Str × D) := []
def B_subexpressions : List Str := []
theorem e_subexpressions (c : List D → Store → R RV) : denSs 60 (scOf N_subexpressions (defScope s_subexpressions) (F_subexpressions c) C_subexpressions B_subexpressions) (defBody s_subexpressions) = d_subexpressions c := by kernel_rfl
abbrev s_literal_values : Stmt := topS 6
def N_literal_values : List Str := ["expression", "part"]
theorem sc_literal_values : FnScope N_literal_values ["expression"] (defScope s_literal_values) := ⟨rfl, rfl, rfl, by decide +kernel, rfl, by decide +kernel, by decide +kernel⟩
noncomputable def F_literal_values : List (Str × FnI) := [("subexpressions", ⟨1, [], (c_subexpressions 8)⟩)]
noncomputable def C_literal_values : List (Str × D) := []
def B_literal_values : List Str := []
theorem e_literal_values : denSs 60 (scOf N_literal_values (defScope s_literal_values) F_literal_values C_literal_values B_literal_values) (defBody s_literal_values) = d_literal_values := by kernel_rfl
abbrev s_with_literals : Stmt := topS 8
def N_with_literals : List Str := ["expression", "values", "result", "used", "place", "part"]
theorem sc_with_literals : FnScope N_with_literals ["expression", "values"] (defScope s_with_literals) := ⟨rfl, rfl, rfl, by decide +kernel, rfl, by decide +kernel, by decide +kernel⟩
noncomputable def F_with_literals (c : List D → Store → R RV) : List (Str × FnI) := [("with_literals", ⟨2, [], c⟩), ("part_places", ⟨1, [], c_part_places⟩), ("literal_values", ⟨1, [], c_literal_values⟩)]
noncomputable def C_with_literals : List (Str × D) := []
def B_with_literals : List Str := ["len"]
theorem e_with_literals (c : List D → Store → R RV) : denSs 60 (scOf N_with_literals (defScope s_with_literals) (F_with_literals c) C_with_literals B_with_literals) (defBody s_with_literals) = d_with_literals c := by kernel_rfl
abbrev s_stamp : Stmt := topS 1
def N_stamp : List Str := ["string", "change", "start", "k"]
theorem sc_stamp : FnScope N_stamp ["string", "change", "start"] (defScope s_stamp) := ⟨rfl, rfl, rfl, by decide +kernel, rfl, by decide +kernel, by decide +kernel⟩
noncomputable def F_stamp : List (Str × FnI) := []
noncomputable def C_stamp : List (Str × D) := []
def B_stamp : List Str := ["tuple", "range", "len"]
theorem e_stamp : denSs 60 (scOf N_stamp (defScope s_stamp) F_stamp C_stamp B_stamp) (defBody s_stamp) = d_l_stamped := by kernel_rfl
abbrev s_stamp_expression : Stmt := topS 11
def N_stamp_expression : List Str := ["expression", "change", "start", "values", "string"]
theorem sc_stamp_expression : FnScope N_stamp_expression ["expression", "change", "start"] (defScope s_stamp_expression) := ⟨rfl, rfl, rfl, by decide +kernel, rfl, by decide +kernel, by decide +kernel⟩
noncomputable def F_stamp_expression : List (Str × FnI) := [("literal_values", ⟨1, [], c_literal_values⟩), ("with_literals", ⟨2, [], (c_with_literals 8)⟩), ("stamp", ⟨3, [(.int 0)], c_l_stamped⟩)]
noncomputable def C_stamp_expression : List (Str × D) := []
def B_stamp_expression : List Str := ["len"]
theorem e_stamp_expression : denSs 60 (scOf N_stamp_expression (defScope s_stamp_expression) F_stamp_expression C_stamp_expression B_stamp_expression) (defBody s_stamp_expression) = d_stamp_expression := by kernel_rfl
abbrev s_fill : Stmt := topS 10
def N_fill : List Str := ["shape", "text", "values", "used", "length"]
theorem sc_fill : FnScope N_fill ["shape", "text"] (defScope s_fill) := ⟨rfl, rfl, rfl, by decide +kernel, rfl, by decide +kernel, by decide +kernel⟩
noncomputable def F_fill : List (Str × FnI) := [("literal_values", ⟨1, [], c_literal_values⟩), ("with_literals", ⟨2, [], (c_with_literals 8)⟩)]
noncomputable def C_fill : List (Str × D) := []
def B_fill : List Str := []
theorem e_fill : denSs 60 (scOf N_fill (defScope s_fill) F_fill C_fill B_fill) (defBody s_fill) = d_fill := by kernel_rfl
abbrev s_l_filling : Stmt := topS 26
def N_l_filling : List Str := ["_law_part", "_law_given", "_law_at", "_law_first", "_law_inner"]
theorem sc_l_filling : FnScope N_l_filling ["_law_part", "_law_given", "_law_at"] (defScope s_l_filling) := ⟨rfl, rfl, rfl, by decide +kernel, rfl, by decide +kernel, by decide +kernel⟩
noncomputable def F_l_filling (c : List D → Store → R RV) : List (Str × FnI) := [("_law_filling", ⟨3, [], c⟩)]
noncomputable def C_l_filling : List (Str × D) := []
def B_l_filling : List Str := ["tuple", "isinstance"]
theorem e_l_filling (c : List D → Store → R RV) : denSs 60 (scOf N_l_filling (defScope s_l_filling) (F_l_filling c) C_l_filling B_l_filling) (defBody s_l_filling) = d_l_filling c := by kernel_rfl
abbrev s_shape_of : Stmt := topS 9
def N_shape_of : List Str := ["expression", "value"]
theorem sc_shape_of : FnScope N_shape_of ["expression"] (defScope s_shape_of) := ⟨rfl, rfl, rfl, by decide +kernel, rfl, by decide +kernel, by decide +kernel⟩
noncomputable def F_shape_of : List (Str × FnI) := [("with_literals", ⟨2, [], (c_with_literals 8)⟩), ("literal_values", ⟨1, [], c_literal_values⟩)]
noncomputable def C_shape_of : List (Str × D) := []
def B_shape_of : List Str := ["len"]
theorem e_shape_of : denSs 60 (scOf N_shape_of (defScope s_shape_of) F_shape_of C_shape_of B_shape_of) (defBody s_shape_of) = d_shape_of := by kernel_rfl
abbrev s_literals_of : Stmt := topS 7
def N_literals_of : List Str := ["expression", "text", "value"]
theorem sc_literals_of : FnScope N_literals_of ["expression"] (defScope s_literals_of) := ⟨rfl, rfl, rfl, by decide +kernel, rfl, by decide +kernel, by decide +kernel⟩
noncomputable def F_literals_of : List (Str × FnI) := [("literal_values", ⟨1, [], c_literal_values⟩)]
noncomputable def C_literals_of : List (Str × D) := []
def B_literals_of : List Str := []
theorem e_literals_of : denSs 60 (scOf N_literals_of (defScope s_literals_of) F_literals_of C_literals_of B_literals_of) (defBody s_literals_of) = d_literals_of := by kernel_rfl
abbrev s_law : Stmt := topS 27
def N_law : List Str := ["_law_script", "_law_tape_here", "_law_names_here", "_law_written", "_law_change", "_law_first", "_law_count", "_law_due", "_law_shape_here", "_law_given"]
theorem sc_law : FnScope N_law ["_law_script"] (defScope s_law) := ⟨rfl, rfl, rfl, by decide +kernel, rfl, by decide +kernel, by decide +kernel⟩
noncomputable def d_law : SS :=
  (sSeq (sSet 1 (eCall c_l_tape [] (aCons (eVar 0) aNil)))
  (sSeq (sSet 2 (eCall c_l_xnames [] (aCons (eVar 1) (aCons (eC (.int 4)) aNil))))
  (sSeq (sSet 3 (eCall (c_l_expression 8) [] (aCons (eVar 1) (aCons (eVar 2) (aCons (eC (.int 4)) (aCons (eC (.bl true)) aNil))))))
  (sSeq (sSet 4 (eCall c_l_number [] (aCons (eVar 1) aNil)))
  (sSeq (sSet 5 (eCall c_l_number [] (aCons (eVar 1) aNil)))
  (sSeq (sSet 6 (eLst (aCons (eVar 5) aNil)))
  (sSeq (sSet 7 (eCall (c_l_marked 8) [] (aCons (eVar 3) (aCons (eVar 4) (aCons (eVar 6) aNil)))))
  (sSeq (sIf (eBool (e2 dNe (eN (g1 dRepr) (bCons (eCall c_stamp_expression [] (aCons (eVar 3) (aCons (eVar 4) (aCons (eVar 5) aNil)))) bNil)) (eN (g1 dRepr) (bCons (eVar 7) bNil)))) (
    (sSeq (sRet (eC (.bl false))) sNil)) sNil)
  (sSeq (sIf (eBool (e2 dNe (eN (g1 dRepr) (bCons (eCall c_stamp_expression [(.int 0)] (aCons (eVar 3) (aCons (eVar 4) aNil))) bNil)) (eN (g1 dRepr) (bCons (eCall (c_l_marked 8) [] (aCons (eVar 3) (aCons (eVar 4) (aCons (eLst (aCons (eC (.int 0)) aNil)) aNil)))) bNil)))) (
    (sSeq (sRet (eC (.bl false))) sNil)) sNil)
  (sSeq (sSet 8 (eCall (c_l_shape 8) [] (aCons (eVar 3) aNil)))
  (sSeq (sIf (tOrB (eBool (e2 dNe (eN (g1 dRepr) (bCons (eCall c_shape_of [] (aCons (eVar 3) aNil)) bNil)) (eN (g1 dRepr) (bCons (eVar 8) bNil)))) (eBool (e2 dNe (eN (g1 dRepr) (bCons (eCall c_shape_of [] (aCons (eVar 7) aNil)) bNil)) (eN (g1 dRepr) (bCons (eVar 8) bNil))))) (
    (sSeq (sRet (eC (.bl false))) sNil)) sNil)
  (sSeq (sSet 9 (eCall c_l_text [] (aCons (eVar 1) (aCons (e2 dAdd (e2 dSub (e2 dIx (eVar 6) (eC (.int 0))) (eVar 5)) (eCall c_l_draw [] (aCons (eVar 1) (aCons (eC (.int 4)) aNil)))) aNil))))
  (sSeq (sIf (eBool (e2 dNe (eN (g1 dRepr) (bCons (eCall c_fill [] (aCons (eVar 8) (aCons (eVar 9) aNil))) bNil)) (eN (g1 dRepr) (bCons (eCall (c_l_filling 8) [] (aCons (eVar 8) (aCons (eVar 9) (aCons (eLst (aCons (eC (.int 0)) aNil)) aNil)))) bNil)))) (
    (sSeq (sRet (eC (.bl false))) sNil)) sNil)
  (sSeq (sRet (e2 dEq (eN (g1 dRepr) (bCons (eCall c_fill [] (aCons (eCall c_shape_of [] (aCons (eVar 7) aNil)) (aCons (eCall c_literals_of [] (aCons (eVar 7) aNil)) aNil))) bNil)) (eN (g1 dRepr) (bCons (eVar 7) bNil)))) sNil))))))))))))))
noncomputable def c_law : List D → Store → R RV := callB 10 d_law
noncomputable def F_law : List (Str × FnI) := [("_law_tape", ⟨1, [], c_l_tape⟩), ("_law_names", ⟨2, [], c_l_xnames⟩), ("_law_expression", ⟨4, [], (c_l_expression 8)⟩), ("_law_number", ⟨1, [], c_l_number⟩), ("_law_marked", ⟨3, [], (c_l_marked 8)⟩), ("_law_shape", ⟨1, [], (c_l_shape 8)⟩), ("_law_text", ⟨2, [], c_l_text⟩), ("stamp_expression", ⟨3, [(.int 0)], c_stamp_expression⟩), ("_law_draw", ⟨2, [], c_l_draw⟩), ("fill", ⟨2, [], c_fill⟩), ("_law_filling", ⟨3, [], (c_l_filling 8)⟩), ("shape_of", ⟨1, [], c_shape_of⟩), ("literals_of", ⟨1, [], c_literals_of⟩)]
noncomputable def C_law : List (Str × D) := []
def B_law : List Str := ["repr"]
theorem e_law : denSs 60 (scOf N_law (defScope s_law) F_law C_law B_law) (defBody s_law) = d_law := by kernel_rfl
end Law

/-! ## K10t -/
set_option Elab.async false
set_option linter.all false
set_option maxRecDepth 100000
namespace Law
open PySem Ev
theorem fill_mk {P : Int → Prop} (T : Tp) (rest : Store) {tx : List Ch} {c : Int} {e : Ex Int} (h : e.ok P) (hd : e.depth < 7) : c_l_filling 8 [e.enc .int, txD tx, .ref (rest.length + 2)] (mk T (rest ++ [.lst [.int c]])) = .ok (.v ((e.thr (gF tx) uF c).enc txD)) (mk T (rest ++ [.lst [.int (e.fin uF c)]])) := by
  have hm : rest.length + 2 < (mk T (rest ++ [.lst [.int c]])).length := by rw [mk_len]; simp
  have e1 := filling_ok hm (tx := tx) 8 c h (by omega)
  have e2 : ∀ c', cel (mk T (rest ++ [.lst [.int c]])) (rest.length + 2) c' = mk T (rest ++ [.lst [.int c']]) := fun c' => by
    unfold cel
    rw [mk_setAt]
    simp
  rw [e2, e2] at e1
  exact e1
theorem law_true (ns : List Int) (hn : ns.length ≤ 63) : ∃ st', c_law [.rol (ns.map .int)] [] = .ok (.v (.bl true)) st' := by
  refine law_by ?_
  have hsl : sLine = 16777216 := rfl
  obtain ⟨T, e0, e1⟩ := start_at ns
  obtain ⟨nm, T1, e2, N, _⟩ := xnames_at T [] (most := 4) (by decide) (by decide)
  obtain ⟨a, T2, e3, a1, a2, a3, _⟩ := expr_at N true [] 8 3 4 T1 (by decide) (by decide)
  have hz : sz 3 = 40 := rfl
  have al := lits_len a
  obtain ⟨ch, T3, e4, c0, c1, _⟩ := number_at T2 [.lst (nm.map .str)]
  obtain ⟨fi, T4, e5, f0, f1, _⟩ := number_at T3 [.lst (nm.map .str)]
  have hP : ∀ s, PL s → s.length ≤ 1000 := fun s h => by have := h.1; omega
  have m1 := mark_mk hP T4 [.lst (nm.map .str)] (ch := ch) (c := fi) a1 (by omega)
  have q1 := mark_okU (ch := ch) (by omega) (c := fi) a1 f0 (by omega)
  have s1 := fun st => stamp_expr_ok hP (ch := ch) (c := fi) st a1 (by omega) (by omega)
  have m2 := mark_mk hP T4 [.lst (nm.map .str), .lst [.int (a.fin uSt fi)]] (ch := ch) (c := 0) a1 (by omega)
  have q2 := mark_okU (ch := ch) (by omega) (c := 0) a1 (by decide) (by omega)
  have s2 := fun st => stamp_expr_ok hP (ch := ch) (c := 0) st a1 (by omega) (by omega)
  have d1 : (a.mark ch fi).depth = a.depth := thr_depth ..
  have d2 : (a.mark ch 0).depth = a.depth := thr_depth ..
  have z1 : (a.mark ch fi).subs.length = a.subs.length := thr_subs ..
  have z2 : (a.mark ch 0).subs.length = a.subs.length := thr_subs ..
  have r1 := fun st => repr_marked q1.1 (by omega) (by omega) st
  have r2 := fun st => repr_marked q2.1 (by omega) (by omega) st
  have h1 := fun st => lshape_ok hP 8 st a1 (by omega)
  have h2 := fun st => shape_of_ok (f := D.str) (ln := lnS) (fun _ => rfl) (fun v st h => by have := h.1; simp [show v.length ≤ sLine by omega]) st a1 (by omega) (by omega)
  have h3 := fun st => shape_of_ok (f := txD) (ln := lnT) tx_pure (fun v st _ => len_tx v st) st q1.1 (by omega) (by omega)
  have hs : (a.mark ch fi).shape lnT = a.shape lnS := thr_shape (fun v s => by show ((stampL v ch s).length : Int) = v.length; rw [stampL_len]) a fi
  have hb := fill_back (a.mark ch fi)
  rw [hs] at h3 hb
  have b1 := (thr_ok (g := fun (v : List Nat) (_ : Unit) => lnS v) (u := uU) (P := PL) (Q := fun l : Int => 0 ≤ l ∧ l ≤ 61) (I := fun _ => True) (fun v s h _ => ⟨Int.natCast_nonneg _, by show (v.length : Int) ≤ 61; have := h.1; omega⟩) (fun _ _ _ _ => trivial) a () a1 trivial).1
  have b1 : (a.shape lnS).ok (fun l : Int => 0 ≤ l ∧ l ≤ 61) := b1
  have d3 : (a.shape lnS).depth = a.depth := thr_depth ..
  have z3 : (a.shape lnS).subs.length = a.subs.length := thr_subs ..
  have r3 := fun st => repr_shape (Ex.ok_mono (Q := fun v : Int => v.natAbs < 10 ^ 22) (fun v h => by omega) b1) (by omega) (by omega) st
  have xl : (a.mark ch fi).lits.flatten.length ≤ (a.mark ch fi).lits.length * 61 := flat_len fun x hx => (Ex.lits_ok q1.1 x hx).1
  have xq := lits_len (a.mark ch fi)
  have l1 := fun st => litsof_ok st q1.1 (by omega) (by omega) (by omega)
  have w0 := dr_nn T4 4
  have w1 := dr_lt T4 4 (by decide)
  obtain ⟨tx, T6, e6, t1, t2, _⟩ := text_at (nx T4 4) [.lst (nm.map .str), .lst [.int (a.fin uSt fi)], .lst [.int (a.fin uSt 0)]] (n := a.fin uSt fi - fi + dr T4 4) (by omega) (by omega)
  have g1 := fun st => fill_ok (tx := tx) st b1 (by omega) (by omega)
  have g2 := fill_mk T6 [.lst (nm.map .str), .lst [.int (a.fin uSt fi)], .lst [.int (a.fin uSt 0)]] (tx := tx) (c := 0) b1 (by omega)
  have g3 := fun st => fill_ok (tx := (a.mark ch fi).lits.flatten) st b1 (by omega) (by omega)
  rw [hb] at g3
  have k1 := (thr_ok (g := gF tx) (u := uF) (P := fun l : Int => 0 ≤ l ∧ l ≤ 61) (Q := QU) (I := fun c => 0 ≤ c) (fun v s h i => ⟨by have := gF_len (tx := tx) h.1 i; omega, fun x hx => by
    have := t2 x (cut_mem hx)
    exact ⟨this.1, by omega, by omega⟩⟩) (fun v s h i => by simp only [uF]; omega) (a.shape lnS) 0 b1 (by decide)).1
  have d4 : ((a.shape lnS).thr (gF tx) uF 0).depth = (a.shape lnS).depth := thr_depth ..
  have z4 : ((a.shape lnS).thr (gF tx) uF 0).subs.length = (a.shape lnS).subs.length := thr_subs ..
  have r4 := fun st => repr_marked k1 (by omega) (by omega) st
  simp only [List.length_cons, List.length_nil, List.cons_append, List.nil_append, Nat.reduceAdd] at m1 m2 g2
  generalize (a.shape lnS).fin uF 0 = cz at *
  generalize (((a.shape lnS).thr (gF tx) uF 0).enc txD) = FI at *
  generalize (a.shape lnS).enc D.int = SH at *
  generalize hMK : (a.mark ch fi).enc txD = MK at *
  generalize hM0 : (a.mark ch 0).enc txD = M0 at *
  generalize txD (a.mark ch fi).lits.flatten = FL at *
  generalize txD tx = TX at *
  generalize a.enc D.str = A at *
  unfold d_law
  simp [e0, e1, e2, e3, e4, e5, m1, s1, r1, m2, s2, r2, h1, h2, h3, r3, draw_at, e6, g1, g2, g3, r4, l1, show 1 ≤ sLine by omega]
end Law

/-! ## K10z -/
set_option Elab.async false
set_option linter.all false
set_option maxRecDepth 100000
namespace Law
open PySem PySem.Spec PyProof.Rows L2 Ev
section
variable {P : Program} {w : World} {K : PySem.W.Frag} {mg : Str → Option Value} {base : Heap}
theorem ok_l_tape {f : Addr} {fd : FuncData} (F : Fun K "_law_tape" "_law_tape" s_l_tape f fd) (z_list : mg "list" = none) (z_int : mg "int" = none) (z_abs : mg "abs" = none) : FnG P w K mg base 1 f fd ["_law_script"] (spD K (fun _ => none) 1 c_l_tape) :=
  fn_by (N := N_l_tape) (k := 0) (n := 60) F sc_l_tape (fns := F_l_tape) (cst := C_l_tape) (blt := B_l_tape) trivial trivial ⟨⟨z_list, by decide +kernel, by decide +kernel⟩, ⟨z_int, by decide +kernel, by decide +kernel⟩, ⟨z_abs, by decide +kernel, by decide +kernel⟩, trivial⟩ e_l_tape
theorem ok_l_draw {f : Addr} {fd : FuncData} (F : Fun K "_law_draw" "_law_draw" s_l_draw f fd) (z_max : mg "max" = none) (z_int : mg "int" = none) (z_len : mg "len" = none) (z_abs : mg "abs" = none) : FnG P w K mg base 1 f fd ["_law_tape_here", "_law_many"] (spD K (fun _ => none) 2 c_l_draw) :=
  fn_by (N := N_l_draw) (k := 0) (n := 60) F sc_l_draw (fns := F_l_draw) (cst := C_l_draw) (blt := B_l_draw) trivial trivial ⟨⟨z_max, by decide +kernel, by decide +kernel⟩, ⟨z_int, by decide +kernel, by decide +kernel⟩, ⟨z_len, by decide +kernel, by decide +kernel⟩, ⟨z_abs, by decide +kernel, by decide +kernel⟩, trivial⟩ e_l_draw
theorem ok_l_name {f : Addr} {fd : FuncData} (F : Fun K "_law_name" "_law_name" s_l_name f fd) {f_l_draw : Addr} {fd_l_draw : FuncData} (G_l_draw : FnG P w K mg base 1 f_l_draw fd_l_draw ["_law_tape_here", "_law_many"] (spD K (fun _ => none) 2 c_l_draw)) (g_l_draw : mg "_law_draw" = some (.ref f_l_draw)) (k_l_draw : PySem.W.keepIn K (.ref f_l_draw) = true) (b_l_draw : Binds K fd_l_draw ["_law_tape_here", "_law_many"] []) (z_range : mg "range" = none) : FnG P w K mg base 2 f fd ["_law_tape_here", "_law_stem"] (spD K (fun _ => none) 2 c_l_name) :=
  fn_by (N := N_l_name) (k := 1) (n := 60) F sc_l_name (fns := F_l_name) (cst := C_l_name) (blt := B_l_name) ⟨⟨⟨f_l_draw, fd_l_draw, _, _, [], [], by decide, G_l_draw, g_l_draw, k_l_draw, b_l_draw, b_l_draw, .nil, fun _ _ => rfl⟩⟩, trivial⟩ trivial ⟨⟨z_range, by decide +kernel, by decide +kernel⟩, trivial⟩ e_l_name
theorem ok_l_names {f : Addr} {fd : FuncData} (F : Fun K "_law_names" "_law_names" s_l_names f fd) {f_l_draw : Addr} {fd_l_draw : FuncData} (G_l_draw : FnG P w K mg base 1 f_l_draw fd_l_draw ["_law_tape_here", "_law_many"] (spD K (fun _ => none) 2 c_l_draw)) (g_l_draw : mg "_law_draw" = some (.ref f_l_draw)) (k_l_draw : PySem.W.keepIn K (.ref f_l_draw) = true) (b_l_draw : Binds K fd_l_draw ["_law_tape_here", "_law_many"] []) {f_l_name : Addr} {fd_l_name : FuncData} (G_l_name : FnG P w K mg base 2 f_l_name fd_l_name ["_law_tape_here", "_law_stem"] (spD K (fun _ => none) 2 c_l_name)) (g_l_name : mg "_law_name" = some (.ref f_l_name)) (k_l_name : PySem.W.keepIn K (.ref f_l_name) = true) (b_l_name : Binds K fd_l_name ["_law_tape_here", "_law_stem"] []) (z_range : mg "range" = none) : FnG P w K mg base 3 f fd ["_law_tape_here", "_law_most"] (spD K (fun _ => none) 2 c_l_xnames) :=
  fn_by (N := N_l_names) (k := 2) (n := 60) F sc_l_names (fns := F_l_names) (cst := C_l_names) (blt := B_l_names) ⟨⟨⟨f_l_draw, fd_l_draw, _, _, [], [], by decide, G_l_draw, g_l_draw, k_l_draw, b_l_draw, b_l_draw, .nil, fun _ _ => rfl⟩⟩, ⟨⟨f_l_name, fd_l_name, _, _, [], [], by decide, G_l_name, g_l_name, k_l_name, b_l_name, b_l_name, .nil, fun _ _ => rfl⟩⟩, trivial⟩ trivial ⟨⟨z_range, by decide +kernel, by decide +kernel⟩, trivial⟩ e_l_names
theorem ok_l_string {f : Addr} {fd : FuncData} (F : Fun K "_law_string" "_law_string" s_l_string f fd) {f_l_draw : Addr} {fd_l_draw : FuncData} (G_l_draw : FnG P w K mg base 1 f_l_draw fd_l_draw ["_law_tape_here", "_law_many"] (spD K (fun _ => none) 2 c_l_draw)) (g_l_draw : mg "_law_draw" = some (.ref f_l_draw)) (k_l_draw : PySem.W.keepIn K (.ref f_l_draw) = true) (b_l_draw : Binds K fd_l_draw ["_law_tape_here", "_law_many"] []) (z_range : mg "range" = none) (z_len : mg "len" = none) : FnG P w K mg base 2 f fd ["_law_tape_here", "_law_size"] (spD K (fun _ => none) 2 c_l_string) :=
  fn_by (N := N_l_string) (k := 1) (n := 60) F sc_l_string (fns := F_l_string) (cst := C_l_string) (blt := B_l_string) ⟨⟨⟨f_l_draw, fd_l_draw, _, _, [], [], by decide, G_l_draw, g_l_draw, k_l_draw, b_l_draw, b_l_draw, .nil, fun _ _ => rfl⟩⟩, trivial⟩ trivial ⟨⟨z_range, by decide +kernel, by decide +kernel⟩, ⟨z_len, by decide +kernel, by decide +kernel⟩, trivial⟩ e_l_string
theorem ok_l_literal {f : Addr} {fd : FuncData} (F : Fun K "_law_literal" "_law_literal" s_l_literal f fd) {f_l_draw : Addr} {fd_l_draw : FuncData} (G_l_draw : FnG P w K mg base 1 f_l_draw fd_l_draw ["_law_tape_here", "_law_many"] (spD K (fun _ => none) 2 c_l_draw)) (g_l_draw : mg "_law_draw" = some (.ref f_l_draw)) (k_l_draw : PySem.W.keepIn K (.ref f_l_draw) = true) (b_l_draw : Binds K fd_l_draw ["_law_tape_here", "_law_many"] []) {f_l_string : Addr} {fd_l_string : FuncData} (G_l_string : FnG P w K mg base 2 f_l_string fd_l_string ["_law_tape_here", "_law_size"] (spD K (fun _ => none) 2 c_l_string)) (g_l_string : mg "_law_string" = some (.ref f_l_string)) (k_l_string : PySem.W.keepIn K (.ref f_l_string) = true) (b_l_string : Binds K fd_l_string ["_law_tape_here", "_law_size"] []) (z_int : mg "int" = none) : FnG P w K mg base 3 f fd ["_law_tape_here"] (spD K (fun _ => none) 1 c_l_literal) :=
  fn_by (N := N_l_literal) (k := 2) (n := 60) F sc_l_literal (fns := F_l_literal) (cst := C_l_literal) (blt := B_l_literal) ⟨⟨⟨f_l_draw, fd_l_draw, _, _, [], [], by decide, G_l_draw, g_l_draw, k_l_draw, b_l_draw, b_l_draw, .nil, fun _ _ => rfl⟩⟩, ⟨⟨f_l_string, fd_l_string, _, _, [], [], by decide, G_l_string, g_l_string, k_l_string, b_l_string, b_l_string, .nil, fun _ _ => rfl⟩⟩, trivial⟩ trivial ⟨⟨z_int, by decide +kernel, by decide +kernel⟩, trivial⟩ e_l_literal
theorem ok_l_leaf {f : Addr} {fd : FuncData} (F : Fun K "_law_leaf" "_law_leaf" s_l_leaf f fd) {f_l_draw : Addr} {fd_l_draw : FuncData} (G_l_draw : FnG P w K mg base 1 f_l_draw fd_l_draw ["_law_tape_here", "_law_many"] (spD K (fun _ => none) 2 c_l_draw)) (g_l_draw : mg "_law_draw" = some (.ref f_l_draw)) (k_l_draw : PySem.W.keepIn K (.ref f_l_draw) = true) (b_l_draw : Binds K fd_l_draw ["_law_tape_here", "_law_many"] []) {f_l_literal : Addr} {fd_l_literal : FuncData} (G_l_literal : FnG P w K mg base 3 f_l_literal fd_l_literal ["_law_tape_here"] (spD K (fun _ => none) 1 c_l_literal)) (g_l_literal : mg "_law_literal" = some (.ref f_l_literal)) (k_l_literal : PySem.W.keepIn K (.ref f_l_literal) = true) (b_l_literal : Binds K fd_l_literal ["_law_tape_here"] []) (z_len : mg "len" = none) : FnG P w K mg base 4 f fd ["_law_tape_here", "_law_names_here"] (spD K (fun _ => none) 2 c_l_leaf) :=
  fn_by (N := N_l_leaf) (k := 3) (n := 60) F sc_l_leaf (fns := F_l_leaf) (cst := C_l_leaf) (blt := B_l_leaf) ⟨⟨⟨f_l_draw, fd_l_draw, _, _, [], [], by decide, G_l_draw, g_l_draw, k_l_draw, b_l_draw, b_l_draw, .nil, fun _ _ => rfl⟩⟩, ⟨⟨f_l_literal, fd_l_literal, _, _, [], [], by decide, G_l_literal, g_l_literal, k_l_literal, b_l_literal, b_l_literal, .nil, fun _ _ => rfl⟩⟩, trivial⟩ trivial ⟨⟨z_len, by decide +kernel, by decide +kernel⟩, trivial⟩ e_l_leaf
theorem ok_l_expression {f : Addr} {fd : FuncData} (F : Fun K "_law_expression" "_law_expression" s_l_expression f fd) (g_self : mg "_law_expression" = some (.ref f)) (k_self : PySem.W.keepIn K (.ref f) = true) (b_self : Binds K fd ["_law_tape_here", "_law_names_here", "_law_depth", "_law_coins"] []) {f_l_draw : Addr} {fd_l_draw : FuncData} (G_l_draw : FnG P w K mg base 1 f_l_draw fd_l_draw ["_law_tape_here", "_law_many"] (spD K (fun _ => none) 2 c_l_draw)) (g_l_draw : mg "_law_draw" = some (.ref f_l_draw)) (k_l_draw : PySem.W.keepIn K (.ref f_l_draw) = true) (b_l_draw : Binds K fd_l_draw ["_law_tape_here", "_law_many"] []) {f_l_leaf : Addr} {fd_l_leaf : FuncData} (G_l_leaf : FnG P w K mg base 4 f_l_leaf fd_l_leaf ["_law_tape_here", "_law_names_here"] (spD K (fun _ => none) 2 c_l_leaf)) (g_l_leaf : mg "_law_leaf" = some (.ref f_l_leaf)) (k_l_leaf : PySem.W.keepIn K (.ref f_l_leaf) = true) (b_l_leaf : Binds K fd_l_leaf ["_law_tape_here", "_law_names_here"] []) (z_int : mg "int" = none) : ∀ n, FnG P w K mg base (4 + n) f fd ["_law_tape_here", "_law_names_here", "_law_depth", "_law_coins"] (spD K (fun _ => none) 4 (c_l_expression n)) := by
  intro n
  induction n with
  | zero => exact fnG_bad rfl
  | succ n ih =>
    exact fn_by (N := N_l_expression) (k := 4 + n) (n := 60) F sc_l_expression (fns := F_l_expression (c_l_expression n)) (cst := C_l_expression) (blt := B_l_expression) ⟨⟨⟨f, fd, _, _, [], [], Nat.le_refl _, ih, g_self, k_self, b_self, b_self, .nil, fun _ _ => rfl⟩⟩, ⟨⟨f_l_draw, fd_l_draw, _, _, [], [], by omega, G_l_draw, g_l_draw, k_l_draw, b_l_draw, b_l_draw, .nil, fun _ _ => rfl⟩⟩, ⟨⟨f_l_leaf, fd_l_leaf, _, _, [], [], by omega, G_l_leaf, g_l_leaf, k_l_leaf, b_l_leaf, b_l_leaf, .nil, fun _ _ => rfl⟩⟩, trivial⟩ trivial ⟨⟨z_int, by decide +kernel, by decide +kernel⟩, trivial⟩ (e_l_expression (c_l_expression n))
theorem ok_l_number {f : Addr} {fd : FuncData} (F : Fun K "_law_number" "_law_number" s_l_number f fd) {f_l_draw : Addr} {fd_l_draw : FuncData} (G_l_draw : FnG P w K mg base 1 f_l_draw fd_l_draw ["_law_tape_here", "_law_many"] (spD K (fun _ => none) 2 c_l_draw)) (g_l_draw : mg "_law_draw" = some (.ref f_l_draw)) (k_l_draw : PySem.W.keepIn K (.ref f_l_draw) = true) (b_l_draw : Binds K fd_l_draw ["_law_tape_here", "_law_many"] []) : FnG P w K mg base 2 f fd ["_law_tape_here"] (spD K (fun _ => none) 1 c_l_number) :=
  fn_by (N := N_l_number) (k := 1) (n := 60) F sc_l_number (fns := F_l_number) (cst := C_l_number) (blt := B_l_number) ⟨⟨⟨f_l_draw, fd_l_draw, _, _, [], [], by decide, G_l_draw, g_l_draw, k_l_draw, b_l_draw, b_l_draw, .nil, fun _ _ => rfl⟩⟩, trivial⟩ trivial trivial e_l_number
theorem ok_l_stamped {f : Addr} {fd : FuncData} (F : Fun K "_law_stamped" "_law_stamped" s_l_stamped f fd) (z_tuple : mg "tuple" = none) (z_range : mg "range" = none) (z_len : mg "len" = none) : FnG P w K mg base 1 f fd ["_law_string_here", "_law_change", "_law_start"] (spD K (fun _ => none) 3 c_l_stamped) :=
  fn_by (N := N_l_stamped) (k := 0) (n := 60) F sc_l_stamped (fns := F_l_stamped) (cst := C_l_stamped) (blt := B_l_stamped) trivial trivial ⟨⟨z_tuple, by decide +kernel, by decide +kernel⟩, ⟨z_range, by decide +kernel, by decide +kernel⟩, ⟨z_len, by decide +kernel, by decide +kernel⟩, trivial⟩ e_l_stamped
theorem ok_l_marked {f : Addr} {fd : FuncData} (F : Fun K "_law_marked" "_law_marked" s_l_marked f fd) (g_self : mg "_law_marked" = some (.ref f)) (k_self : PySem.W.keepIn K (.ref f) = true) (b_self : Binds K fd ["_law_part", "_law_change", "_law_count"] []) {f_l_stamped : Addr} {fd_l_stamped : FuncData} (G_l_stamped : FnG P w K mg base 1 f_l_stamped fd_l_stamped ["_law_string_here", "_law_change", "_law_start"] (spD K (fun _ => none) 3 c_l_stamped)) (g_l_stamped : mg "_law_stamped" = some (.ref f_l_stamped)) (k_l_stamped : PySem.W.keepIn K (.ref f_l_stamped) = true) (b_l_stamped : Binds K fd_l_stamped ["_law_string_here", "_law_change", "_law_start"] []) (z_tuple : mg "tuple" = none) (z_isinstance : mg "isinstance" = none) (z_len : mg "len" = none) : ∀ n, FnG P w K mg base (1 + n) f fd ["_law_part", "_law_change", "_law_count"] (spD K (fun _ => none) 3 (c_l_marked n)) := by
  intro n
  induction n with
  | zero => exact fnG_bad rfl
  | succ n ih =>
    exact fn_by (N := N_l_marked) (k := 1 + n) (n := 60) F sc_l_marked (fns := F_l_marked (c_l_marked n)) (cst := C_l_marked) (blt := B_l_marked) ⟨⟨⟨f, fd, _, _, [], [], Nat.le_refl _, ih, g_self, k_self, b_self, b_self, .nil, fun _ _ => rfl⟩⟩, ⟨⟨f_l_stamped, fd_l_stamped, _, _, [], [], by omega, G_l_stamped, g_l_stamped, k_l_stamped, b_l_stamped, b_l_stamped, .nil, fun _ _ => rfl⟩⟩, trivial⟩ trivial ⟨⟨z_tuple, by decide +kernel, by decide +kernel⟩, ⟨z_isinstance, by decide +kernel, by decide +kernel⟩, ⟨z_len, by decide +kernel, by decide +kernel⟩, trivial⟩ (e_l_marked (c_l_marked n))
theorem ok_l_shape {f : Addr} {fd : FuncData} (F : Fun K "_law_shape" "_law_shape" s_l_shape f fd) (g_self : mg "_law_shape" = some (.ref f)) (k_self : PySem.W.keepIn K (.ref f) = true) (b_self : Binds K fd ["_law_part"] []) (z_tuple : mg "tuple" = none) (z_isinstance : mg "isinstance" = none) (z_len : mg "len" = none) : ∀ n, FnG P w K mg base (0 + n) f fd ["_law_part"] (spD K (fun _ => none) 1 (c_l_shape n)) := by
  intro n
  induction n with
  | zero => exact fnG_bad rfl
  | succ n ih =>
    exact fn_by (N := N_l_shape) (k := 0 + n) (n := 60) F sc_l_shape (fns := F_l_shape (c_l_shape n)) (cst := C_l_shape) (blt := B_l_shape) ⟨⟨⟨f, fd, _, _, [], [], Nat.le_refl _, ih, g_self, k_self, b_self, b_self, .nil, fun _ _ => rfl⟩⟩, trivial⟩ trivial ⟨⟨z_tuple, by decide +kernel, by decide +kernel⟩, ⟨z_isinstance, by decide +kernel, by decide +kernel⟩, ⟨z_len, by decide +kernel, by decide +kernel⟩, trivial⟩ (e_l_shape (c_l_shape n))
theorem ok_l_text {f : Addr} {fd : FuncData} (F : Fun K "_law_text" "_law_text" s_l_text f fd) {f_l_string : Addr} {fd_l_string : FuncData} (G_l_string : FnG P w K mg base 2 f_l_string fd_l_string ["_law_tape_here", "_law_size"] (spD K (fun _ => none) 2 c_l_string)) (g_l_string : mg "_law_string" = some (.ref f_l_string)) (k_l_string : PySem.W.keepIn K (.ref f_l_string) = true) (b_l_string : Binds K fd_l_string ["_law_tape_here", "_law_size"] []) {f_l_draw : Addr} {fd_l_draw : FuncData} (G_l_draw : FnG P w K mg base 1 f_l_draw fd_l_draw ["_law_tape_here", "_law_many"] (spD K (fun _ => none) 2 c_l_draw)) (g_l_draw : mg "_law_draw" = some (.ref f_l_draw)) (k_l_draw : PySem.W.keepIn K (.ref f_l_draw) = true) (b_l_draw : Binds K fd_l_draw ["_law_tape_here", "_law_many"] []) (z_tuple : mg "tuple" = none) : FnG P w K mg base 3 f fd ["_law_tape_here", "_law_size"] (spD K (fun _ => none) 2 c_l_text) :=
  fn_by (N := N_l_text) (k := 2) (n := 60) F sc_l_text (fns := F_l_text) (cst := C_l_text) (blt := B_l_text) ⟨⟨⟨f_l_string, fd_l_string, _, _, [], [], by decide, G_l_string, g_l_string, k_l_string, b_l_string, b_l_string, .nil, fun _ _ => rfl⟩⟩, ⟨⟨f_l_draw, fd_l_draw, _, _, [], [], by decide, G_l_draw, g_l_draw, k_l_draw, b_l_draw, b_l_draw, .nil, fun _ _ => rfl⟩⟩, trivial⟩ trivial ⟨⟨z_tuple, by decide +kernel, by decide +kernel⟩, trivial⟩ e_l_text
theorem ok_part_places {f : Addr} {fd : FuncData} (F : Fun K "part_places" "part_places" s_part_places f fd) (dc_PLACES : DctF K w mg "PLACES" tab_PLACES) : FnG P w K mg base 1 f fd ["expression"] (spD K (fun _ => none) 1 c_part_places) :=
  fn_byD (N := N_part_places) (k := 0) (n := 60) F sc_part_places (fns := F_part_places) (cst := C_part_places) (blt := B_part_places) (dct := [("PLACES", tab_PLACES)]) trivial trivial trivial ⟨dc_PLACES, trivial⟩ e_part_places
theorem ok_subexpressions {f : Addr} {fd : FuncData} (F : Fun K "subexpressions" "subexpressions" s_subexpressions f fd) (g_self : mg "subexpressions" = some (.ref f)) (k_self : PySem.W.keepIn K (.ref f) = true) (b_self : Binds K fd ["expression"] []) {f_part_places : Addr} {fd_part_places : FuncData} (G_part_places : FnG P w K mg base 1 f_part_places fd_part_places ["expression"] (spD K (fun _ => none) 1 c_part_places)) (g_part_places : mg "part_places" = some (.ref f_part_places)) (k_part_places : PySem.W.keepIn K (.ref f_part_places) = true) (b_part_places : Binds K fd_part_places ["expression"] []) : ∀ n, FnG P w K mg base (1 + n) f fd ["expression"] (spD K (fun _ => none) 1 (c_subexpressions n)) := by
  intro n
  induction n with
  | zero => exact fnG_bad rfl
  | succ n ih =>
    exact fn_by (N := N_subexpressions) (k := 1 + n) (n := 60) F sc_subexpressions (fns := F_subexpressions (c_subexpressions n)) (cst := C_subexpressions) (blt := B_subexpressions) ⟨⟨⟨f, fd, _, _, [], [], Nat.le_refl _, ih, g_self, k_self, b_self, b_self, .nil, fun _ _ => rfl⟩⟩, ⟨⟨f_part_places, fd_part_places, _, _, [], [], by omega, G_part_places, g_part_places, k_part_places, b_part_places, b_part_places, .nil, fun _ _ => rfl⟩⟩, trivial⟩ trivial trivial (e_subexpressions (c_subexpressions n))
theorem ok_literal_values {f : Addr} {fd : FuncData} (F : Fun K "literal_values" "literal_values" s_literal_values f fd) {f_subexpressions : Addr} {fd_subexpressions : FuncData} (G_subexpressions : FnG P w K mg base 9 f_subexpressions fd_subexpressions ["expression"] (spD K (fun _ => none) 1 (c_subexpressions 8))) (g_subexpressions : mg "subexpressions" = some (.ref f_subexpressions)) (k_subexpressions : PySem.W.keepIn K (.ref f_subexpressions) = true) (b_subexpressions : Binds K fd_subexpressions ["expression"] []) : FnG P w K mg base 10 f fd ["expression"] (spD K (fun _ => none) 1 c_literal_values) :=
  fn_by (N := N_literal_values) (k := 9) (n := 60) F sc_literal_values (fns := F_literal_values) (cst := C_literal_values) (blt := B_literal_values) ⟨⟨⟨f_subexpressions, fd_subexpressions, _, _, [], [], by decide, G_subexpressions, g_subexpressions, k_subexpressions, b_subexpressions, b_subexpressions, .nil, fun _ _ => rfl⟩⟩, trivial⟩ trivial trivial e_literal_values
theorem ok_with_literals {f : Addr} {fd : FuncData} (F : Fun K "with_literals" "with_literals" s_with_literals f fd) (g_self : mg "with_literals" = some (.ref f)) (k_self : PySem.W.keepIn K (.ref f) = true) (b_self : Binds K fd ["expression", "values"] []) {f_part_places : Addr} {fd_part_places : FuncData} (G_part_places : FnG P w K mg base 1 f_part_places fd_part_places ["expression"] (spD K (fun _ => none) 1 c_part_places)) (g_part_places : mg "part_places" = some (.ref f_part_places)) (k_part_places : PySem.W.keepIn K (.ref f_part_places) = true) (b_part_places : Binds K fd_part_places ["expression"] []) {f_literal_values : Addr} {fd_literal_values : FuncData} (G_literal_values : FnG P w K mg base 10 f_literal_values fd_literal_values ["expression"] (spD K (fun _ => none) 1 c_literal_values)) (g_literal_values : mg "literal_values" = some (.ref f_literal_values)) (k_literal_values : PySem.W.keepIn K (.ref f_literal_values) = true) (b_literal_values : Binds K fd_literal_values ["expression"] []) (z_len : mg "len" = none) : ∀ n, FnG P w K mg base (10 + n) f fd ["expression", "values"] (spD K (fun _ => none) 2 (c_with_literals n)) := by
  intro n
  induction n with
  | zero => exact fnG_bad rfl
  | succ n ih =>
    exact fn_by (N := N_with_literals) (k := 10 + n) (n := 60) F sc_with_literals (fns := F_with_literals (c_with_literals n)) (cst := C_with_literals) (blt := B_with_literals) ⟨⟨⟨f, fd, _, _, [], [], Nat.le_refl _, ih, g_self, k_self, b_self, b_self, .nil, fun _ _ => rfl⟩⟩, ⟨⟨f_part_places, fd_part_places, _, _, [], [], by omega, G_part_places, g_part_places, k_part_places, b_part_places, b_part_places, .nil, fun _ _ => rfl⟩⟩, ⟨⟨f_literal_values, fd_literal_values, _, _, [], [], by omega, G_literal_values, g_literal_values, k_literal_values, b_literal_values, b_literal_values, .nil, fun _ _ => rfl⟩⟩, trivial⟩ trivial ⟨⟨z_len, by decide +kernel, by decide +kernel⟩, trivial⟩ (e_with_literals (c_with_literals n))
theorem ok_stamp {f : Addr} {fd : FuncData} {dV : Value} (F : FunV K "stamp" "stamp" s_stamp dV f fd) (z_tuple : mg "tuple" = none) (z_range : mg "range" = none) (z_len : mg "len" = none) : FnG P w K mg base 1 f fd ["string", "change", "start"] (spD K (fun _ => none) 3 c_l_stamped) :=
  fn_byV (N := N_stamp) (k := 0) (n := 60) F sc_stamp (fns := F_stamp) (cst := C_stamp) (blt := B_stamp) trivial trivial ⟨⟨z_tuple, by decide +kernel, by decide +kernel⟩, ⟨z_range, by decide +kernel, by decide +kernel⟩, ⟨z_len, by decide +kernel, by decide +kernel⟩, trivial⟩ e_stamp
theorem ok_stamp_expression {f : Addr} {fd : FuncData} {dV : Value} (F : FunV K "stamp_expression" "stamp_expression" s_stamp_expression dV f fd) {f_literal_values : Addr} {fd_literal_values : FuncData} (G_literal_values : FnG P w K mg base 10 f_literal_values fd_literal_values ["expression"] (spD K (fun _ => none) 1 c_literal_values)) (g_literal_values : mg "literal_values" = some (.ref f_literal_values)) (k_literal_values : PySem.W.keepIn K (.ref f_literal_values) = true) (b_literal_values : Binds K fd_literal_values ["expression"] []) {f_with_literals : Addr} {fd_with_literals : FuncData} (G_with_literals : FnG P w K mg base 18 f_with_literals fd_with_literals ["expression", "values"] (spD K (fun _ => none) 2 (c_with_literals 8))) (g_with_literals : mg "with_literals" = some (.ref f_with_literals)) (k_with_literals : PySem.W.keepIn K (.ref f_with_literals) = true) (b_with_literals : Binds K fd_with_literals ["expression", "values"] []) {f_stamp : Addr} {fd_stamp : FuncData} (G_stamp : FnG P w K mg base 1 f_stamp fd_stamp ["string", "change", "start"] (spD K (fun _ => none) 3 c_l_stamped)) (g_stamp : mg "stamp" = some (.ref f_stamp)) (k_stamp : PySem.W.keepIn K (.ref f_stamp) = true) (b_stamp : Binds K fd_stamp ["string", "change", "start"] []) {ud_stamp : List Value} (bd_stamp : Binds K fd_stamp ["string", "change", "start"] ud_stamp) (v_stamp : Vals [.int 0] ud_stamp) (z_len : mg "len" = none) : FnG P w K mg base 19 f fd ["expression", "change", "start"] (spD K (fun _ => none) 3 c_stamp_expression) :=
  fn_byV (N := N_stamp_expression) (k := 18) (n := 60) F sc_stamp_expression (fns := F_stamp_expression) (cst := C_stamp_expression) (blt := B_stamp_expression) ⟨⟨⟨f_literal_values, fd_literal_values, _, _, [], [], by decide, G_literal_values, g_literal_values, k_literal_values, b_literal_values, b_literal_values, .nil, fun _ _ => rfl⟩⟩, ⟨⟨f_with_literals, fd_with_literals, _, _, [], [], by decide, G_with_literals, g_with_literals, k_with_literals, b_with_literals, b_with_literals, .nil, fun _ _ => rfl⟩⟩, ⟨⟨f_stamp, fd_stamp, _, _, [.int 0], ud_stamp, by decide, G_stamp, g_stamp, k_stamp, b_stamp, bd_stamp, v_stamp, fun _ _ => ⟨_, _, rfl, rfl, rfl⟩⟩⟩, trivial⟩ trivial ⟨⟨z_len, by decide +kernel, by decide +kernel⟩, trivial⟩ e_stamp_expression
theorem ok_fill {f : Addr} {fd : FuncData} (F : Fun K "fill" "fill" s_fill f fd) {f_literal_values : Addr} {fd_literal_values : FuncData} (G_literal_values : FnG P w K mg base 10 f_literal_values fd_literal_values ["expression"] (spD K (fun _ => none) 1 c_literal_values)) (g_literal_values : mg "literal_values" = some (.ref f_literal_values)) (k_literal_values : PySem.W.keepIn K (.ref f_literal_values) = true) (b_literal_values : Binds K fd_literal_values ["expression"] []) {f_with_literals : Addr} {fd_with_literals : FuncData} (G_with_literals : FnG P w K mg base 18 f_with_literals fd_with_literals ["expression", "values"] (spD K (fun _ => none) 2 (c_with_literals 8))) (g_with_literals : mg "with_literals" = some (.ref f_with_literals)) (k_with_literals : PySem.W.keepIn K (.ref f_with_literals) = true) (b_with_literals : Binds K fd_with_literals ["expression", "values"] []) : FnG P w K mg base 19 f fd ["shape", "text"] (spD K (fun _ => none) 2 c_fill) :=
  fn_by (N := N_fill) (k := 18) (n := 60) F sc_fill (fns := F_fill) (cst := C_fill) (blt := B_fill) ⟨⟨⟨f_literal_values, fd_literal_values, _, _, [], [], by decide, G_literal_values, g_literal_values, k_literal_values, b_literal_values, b_literal_values, .nil, fun _ _ => rfl⟩⟩, ⟨⟨f_with_literals, fd_with_literals, _, _, [], [], by decide, G_with_literals, g_with_literals, k_with_literals, b_with_literals, b_with_literals, .nil, fun _ _ => rfl⟩⟩, trivial⟩ trivial trivial e_fill
theorem ok_l_filling {f : Addr} {fd : FuncData} (F : Fun K "_law_filling" "_law_filling" s_l_filling f fd) (g_self : mg "_law_filling" = some (.ref f)) (k_self : PySem.W.keepIn K (.ref f) = true) (b_self : Binds K fd ["_law_part", "_law_given", "_law_at"] []) (z_tuple : mg "tuple" = none) (z_isinstance : mg "isinstance" = none) : ∀ n, FnG P w K mg base (0 + n) f fd ["_law_part", "_law_given", "_law_at"] (spD K (fun _ => none) 3 (c_l_filling n)) := by
  intro n
  induction n with
  | zero => exact fnG_bad rfl
  | succ n ih =>
    exact fn_by (N := N_l_filling) (k := 0 + n) (n := 60) F sc_l_filling (fns := F_l_filling (c_l_filling n)) (cst := C_l_filling) (blt := B_l_filling) ⟨⟨⟨f, fd, _, _, [], [], Nat.le_refl _, ih, g_self, k_self, b_self, b_self, .nil, fun _ _ => rfl⟩⟩, trivial⟩ trivial ⟨⟨z_tuple, by decide +kernel, by decide +kernel⟩, ⟨z_isinstance, by decide +kernel, by decide +kernel⟩, trivial⟩ (e_l_filling (c_l_filling n))
theorem ok_shape_of {f : Addr} {fd : FuncData} (F : Fun K "shape_of" "shape_of" s_shape_of f fd) {f_with_literals : Addr} {fd_with_literals : FuncData} (G_with_literals : FnG P w K mg base 18 f_with_literals fd_with_literals ["expression", "values"] (spD K (fun _ => none) 2 (c_with_literals 8))) (g_with_literals : mg "with_literals" = some (.ref f_with_literals)) (k_with_literals : PySem.W.keepIn K (.ref f_with_literals) = true) (b_with_literals : Binds K fd_with_literals ["expression", "values"] []) {f_literal_values : Addr} {fd_literal_values : FuncData} (G_literal_values : FnG P w K mg base 10 f_literal_values fd_literal_values ["expression"] (spD K (fun _ => none) 1 c_literal_values)) (g_literal_values : mg "literal_values" = some (.ref f_literal_values)) (k_literal_values : PySem.W.keepIn K (.ref f_literal_values) = true) (b_literal_values : Binds K fd_literal_values ["expression"] []) (z_len : mg "len" = none) : FnG P w K mg base 19 f fd ["expression"] (spD K (fun _ => none) 1 c_shape_of) :=
  fn_by (N := N_shape_of) (k := 18) (n := 60) F sc_shape_of (fns := F_shape_of) (cst := C_shape_of) (blt := B_shape_of) ⟨⟨⟨f_with_literals, fd_with_literals, _, _, [], [], by decide, G_with_literals, g_with_literals, k_with_literals, b_with_literals, b_with_literals, .nil, fun _ _ => rfl⟩⟩, ⟨⟨f_literal_values, fd_literal_values, _, _, [], [], by decide, G_literal_values, g_literal_values, k_literal_values, b_literal_values, b_literal_values, .nil, fun _ _ => rfl⟩⟩, trivial⟩ trivial ⟨⟨z_len, by decide +kernel, by decide +kernel⟩, trivial⟩ e_shape_of
theorem ok_literals_of {f : Addr} {fd : FuncData} (F : Fun K "literals_of" "literals_of" s_literals_of f fd) {f_literal_values : Addr} {fd_literal_values : FuncData} (G_literal_values : FnG P w K mg base 10 f_literal_values fd_literal_values ["expression"] (spD K (fun _ => none) 1 c_literal_values)) (g_literal_values : mg "literal_values" = some (.ref f_literal_values)) (k_literal_values : PySem.W.keepIn K (.ref f_literal_values) = true) (b_literal_values : Binds K fd_literal_values ["expression"] []) : FnG P w K mg base 11 f fd ["expression"] (spD K (fun _ => none) 1 c_literals_of) :=
  fn_by (N := N_literals_of) (k := 10) (n := 60) F sc_literals_of (fns := F_literals_of) (cst := C_literals_of) (blt := B_literals_of) ⟨⟨⟨f_literal_values, fd_literal_values, _, _, [], [], by decide, G_literal_values, g_literal_values, k_literal_values, b_literal_values, b_literal_values, .nil, fun _ _ => rfl⟩⟩, trivial⟩ trivial trivial e_literals_of
theorem ok_law {f : Addr} {fd : FuncData} (F : Fun K "law" "law" s_law f fd) {f_l_tape : Addr} {fd_l_tape : FuncData} (G_l_tape : FnG P w K mg base 1 f_l_tape fd_l_tape ["_law_script"] (spD K (fun _ => none) 1 c_l_tape)) (g_l_tape : mg "_law_tape" = some (.ref f_l_tape)) (k_l_tape : PySem.W.keepIn K (.ref f_l_tape) = true) (b_l_tape : Binds K fd_l_tape ["_law_script"] []) {f_l_names : Addr} {fd_l_names : FuncData} (G_l_names : FnG P w K mg base 3 f_l_names fd_l_names ["_law_tape_here", "_law_most"] (spD K (fun _ => none) 2 c_l_xnames)) (g_l_names : mg "_law_names" = some (.ref f_l_names)) (k_l_names : PySem.W.keepIn K (.ref f_l_names) = true) (b_l_names : Binds K fd_l_names ["_law_tape_here", "_law_most"] []) {f_l_expression : Addr} {fd_l_expression : FuncData} (G_l_expression : FnG P w K mg base 12 f_l_expression fd_l_expression ["_law_tape_here", "_law_names_here", "_law_depth", "_law_coins"] (spD K (fun _ => none) 4 (c_l_expression 8))) (g_l_expression : mg "_law_expression" = some (.ref f_l_expression)) (k_l_expression : PySem.W.keepIn K (.ref f_l_expression) = true) (b_l_expression : Binds K fd_l_expression ["_law_tape_here", "_law_names_here", "_law_depth", "_law_coins"] []) {f_l_number : Addr} {fd_l_number : FuncData} (G_l_number : FnG P w K mg base 2 f_l_number fd_l_number ["_law_tape_here"] (spD K (fun _ => none) 1 c_l_number)) (g_l_number : mg "_law_number" = some (.ref f_l_number)) (k_l_number : PySem.W.keepIn K (.ref f_l_number) = true) (b_l_number : Binds K fd_l_number ["_law_tape_here"] []) {f_l_marked : Addr} {fd_l_marked : FuncData} (G_l_marked : FnG P w K mg base 9 f_l_marked fd_l_marked ["_law_part", "_law_change", "_law_count"] (spD K (fun _ => none) 3 (c_l_marked 8))) (g_l_marked : mg "_law_marked" = some (.ref f_l_marked)) (k_l_marked : PySem.W.keepIn K (.ref f_l_marked) = true) (b_l_marked : Binds K fd_l_marked ["_law_part", "_law_change", "_law_count"] []) {f_l_shape : Addr} {fd_l_shape : FuncData} (G_l_shape : FnG P w K mg base 8 f_l_shape fd_l_shape ["_law_part"] (spD K (fun _ => none) 1 (c_l_shape 8))) (g_l_shape : mg "_law_shape" = some (.ref f_l_shape)) (k_l_shape : PySem.W.keepIn K (.ref f_l_shape) = true) (b_l_shape : Binds K fd_l_shape ["_law_part"] []) {f_l_text : Addr} {fd_l_text : FuncData} (G_l_text : FnG P w K mg base 3 f_l_text fd_l_text ["_law_tape_here", "_law_size"] (spD K (fun _ => none) 2 c_l_text)) (g_l_text : mg "_law_text" = some (.ref f_l_text)) (k_l_text : PySem.W.keepIn K (.ref f_l_text) = true) (b_l_text : Binds K fd_l_text ["_law_tape_here", "_law_size"] []) {f_stamp_expression : Addr} {fd_stamp_expression : FuncData} (G_stamp_expression : FnG P w K mg base 19 f_stamp_expression fd_stamp_expression ["expression", "change", "start"] (spD K (fun _ => none) 3 c_stamp_expression)) (g_stamp_expression : mg "stamp_expression" = some (.ref f_stamp_expression)) (k_stamp_expression : PySem.W.keepIn K (.ref f_stamp_expression) = true) (b_stamp_expression : Binds K fd_stamp_expression ["expression", "change", "start"] []) {ud_stamp_expression : List Value} (bd_stamp_expression : Binds K fd_stamp_expression ["expression", "change", "start"] ud_stamp_expression) (v_stamp_expression : Vals [.int 0] ud_stamp_expression) {f_l_draw : Addr} {fd_l_draw : FuncData} (G_l_draw : FnG P w K mg base 1 f_l_draw fd_l_draw ["_law_tape_here", "_law_many"] (spD K (fun _ => none) 2 c_l_draw)) (g_l_draw : mg "_law_draw" = some (.ref f_l_draw)) (k_l_draw : PySem.W.keepIn K (.ref f_l_draw) = true) (b_l_draw : Binds K fd_l_draw ["_law_tape_here", "_law_many"] []) {f_fill : Addr} {fd_fill : FuncData} (G_fill : FnG P w K mg base 19 f_fill fd_fill ["shape", "text"] (spD K (fun _ => none) 2 c_fill)) (g_fill : mg "fill" = some (.ref f_fill)) (k_fill : PySem.W.keepIn K (.ref f_fill) = true) (b_fill : Binds K fd_fill ["shape", "text"] []) {f_l_filling : Addr} {fd_l_filling : FuncData} (G_l_filling : FnG P w K mg base 8 f_l_filling fd_l_filling ["_law_part", "_law_given", "_law_at"] (spD K (fun _ => none) 3 (c_l_filling 8))) (g_l_filling : mg "_law_filling" = some (.ref f_l_filling)) (k_l_filling : PySem.W.keepIn K (.ref f_l_filling) = true) (b_l_filling : Binds K fd_l_filling ["_law_part", "_law_given", "_law_at"] []) {f_shape_of : Addr} {fd_shape_of : FuncData} (G_shape_of : FnG P w K mg base 19 f_shape_of fd_shape_of ["expression"] (spD K (fun _ => none) 1 c_shape_of)) (g_shape_of : mg "shape_of" = some (.ref f_shape_of)) (k_shape_of : PySem.W.keepIn K (.ref f_shape_of) = true) (b_shape_of : Binds K fd_shape_of ["expression"] []) {f_literals_of : Addr} {fd_literals_of : FuncData} (G_literals_of : FnG P w K mg base 11 f_literals_of fd_literals_of ["expression"] (spD K (fun _ => none) 1 c_literals_of)) (g_literals_of : mg "literals_of" = some (.ref f_literals_of)) (k_literals_of : PySem.W.keepIn K (.ref f_literals_of) = true) (b_literals_of : Binds K fd_literals_of ["expression"] []) (z_repr : mg "repr" = none) : FnG P w K mg base 20 f fd ["_law_script"] (spD K (fun _ => none) 1 c_law) :=
  fn_by (N := N_law) (k := 19) (n := 60) F sc_law (fns := F_law) (cst := C_law) (blt := B_law) ⟨⟨⟨f_l_tape, fd_l_tape, _, _, [], [], by decide, G_l_tape, g_l_tape, k_l_tape, b_l_tape, b_l_tape, .nil, fun _ _ => rfl⟩⟩, ⟨⟨f_l_names, fd_l_names, _, _, [], [], by decide, G_l_names, g_l_names, k_l_names, b_l_names, b_l_names, .nil, fun _ _ => rfl⟩⟩, ⟨⟨f_l_expression, fd_l_expression, _, _, [], [], by decide, G_l_expression, g_l_expression, k_l_expression, b_l_expression, b_l_expression, .nil, fun _ _ => rfl⟩⟩, ⟨⟨f_l_number, fd_l_number, _, _, [], [], by decide, G_l_number, g_l_number, k_l_number, b_l_number, b_l_number, .nil, fun _ _ => rfl⟩⟩, ⟨⟨f_l_marked, fd_l_marked, _, _, [], [], by decide, G_l_marked, g_l_marked, k_l_marked, b_l_marked, b_l_marked, .nil, fun _ _ => rfl⟩⟩, ⟨⟨f_l_shape, fd_l_shape, _, _, [], [], by decide, G_l_shape, g_l_shape, k_l_shape, b_l_shape, b_l_shape, .nil, fun _ _ => rfl⟩⟩, ⟨⟨f_l_text, fd_l_text, _, _, [], [], by decide, G_l_text, g_l_text, k_l_text, b_l_text, b_l_text, .nil, fun _ _ => rfl⟩⟩, ⟨⟨f_stamp_expression, fd_stamp_expression, _, _, [.int 0], ud_stamp_expression, by decide, G_stamp_expression, g_stamp_expression, k_stamp_expression, b_stamp_expression, bd_stamp_expression, v_stamp_expression, fun _ _ => ⟨_, _, rfl, rfl, rfl⟩⟩⟩, ⟨⟨f_l_draw, fd_l_draw, _, _, [], [], by decide, G_l_draw, g_l_draw, k_l_draw, b_l_draw, b_l_draw, .nil, fun _ _ => rfl⟩⟩, ⟨⟨f_fill, fd_fill, _, _, [], [], by decide, G_fill, g_fill, k_fill, b_fill, b_fill, .nil, fun _ _ => rfl⟩⟩, ⟨⟨f_l_filling, fd_l_filling, _, _, [], [], by decide, G_l_filling, g_l_filling, k_l_filling, b_l_filling, b_l_filling, .nil, fun _ _ => rfl⟩⟩, ⟨⟨f_shape_of, fd_shape_of, _, _, [], [], by decide, G_shape_of, g_shape_of, k_shape_of, b_shape_of, b_shape_of, .nil, fun _ _ => rfl⟩⟩, ⟨⟨f_literals_of, fd_literals_of, _, _, [], [], by decide, G_literals_of, g_literals_of, k_literals_of, b_literals_of, b_literals_of, .nil, fun _ _ => rfl⟩⟩, trivial⟩ trivial ⟨⟨z_repr, by decide +kernel, by decide +kernel⟩, trivial⟩ e_law
end
theorem all_mk {P : Program} {w : World} {K : PySem.W.Frag} {h : Heap} {mg : Str → Option Value} {fa : Addr} (X : K.In h) (G : h.Ns mainGlobals mg) (hfa : mg "law" = some (.ref fa))
    {fa_l_tape : Addr} {od_l_tape an_l_tape : Option Addr} {sl_l_tape : Array (Option Value)} {oc_l_tape kV_l_tape dc_l_tape pm_l_tape cd_l_tape ct_l_tape : Value} (a_l_tape : PySem.W.nsIn K mainGlobals "_law_tape" = some (some (.ref fa_l_tape))) (l_l_tape : K.lookup fa_l_tape = some ⟨oc_l_tape, od_l_tape, .func (PySem.W.fnOf "_law_tape" "_law_tape" (defArgs s_l_tape) (defBody s_l_tape) (defScope s_l_tape) .none kV_l_tape dc_l_tape pm_l_tape an_l_tape cd_l_tape ct_l_tape), sl_l_tape⟩) (c_l_tape0 : PySem.W.codeIn K cd_l_tape "_law_tape" = true) (k_l_tape : PySem.W.keepIn K (.ref fa_l_tape) = true)
    {fa_l_draw : Addr} {od_l_draw an_l_draw : Option Addr} {sl_l_draw : Array (Option Value)} {oc_l_draw kV_l_draw dc_l_draw pm_l_draw cd_l_draw ct_l_draw : Value} (a_l_draw : PySem.W.nsIn K mainGlobals "_law_draw" = some (some (.ref fa_l_draw))) (l_l_draw : K.lookup fa_l_draw = some ⟨oc_l_draw, od_l_draw, .func (PySem.W.fnOf "_law_draw" "_law_draw" (defArgs s_l_draw) (defBody s_l_draw) (defScope s_l_draw) .none kV_l_draw dc_l_draw pm_l_draw an_l_draw cd_l_draw ct_l_draw), sl_l_draw⟩) (c_l_draw0 : PySem.W.codeIn K cd_l_draw "_law_draw" = true) (k_l_draw : PySem.W.keepIn K (.ref fa_l_draw) = true)
    {fa_l_name : Addr} {od_l_name an_l_name : Option Addr} {sl_l_name : Array (Option Value)} {oc_l_name kV_l_name dc_l_name pm_l_name cd_l_name ct_l_name : Value} (a_l_name : PySem.W.nsIn K mainGlobals "_law_name" = some (some (.ref fa_l_name))) (l_l_name : K.lookup fa_l_name = some ⟨oc_l_name, od_l_name, .func (PySem.W.fnOf "_law_name" "_law_name" (defArgs s_l_name) (defBody s_l_name) (defScope s_l_name) .none kV_l_name dc_l_name pm_l_name an_l_name cd_l_name ct_l_name), sl_l_name⟩) (c_l_name0 : PySem.W.codeIn K cd_l_name "_law_name" = true) (k_l_name : PySem.W.keepIn K (.ref fa_l_name) = true)
    {fa_l_names : Addr} {od_l_names an_l_names : Option Addr} {sl_l_names : Array (Option Value)} {oc_l_names kV_l_names dc_l_names pm_l_names cd_l_names ct_l_names : Value} (a_l_names : PySem.W.nsIn K mainGlobals "_law_names" = some (some (.ref fa_l_names))) (l_l_names : K.lookup fa_l_names = some ⟨oc_l_names, od_l_names, .func (PySem.W.fnOf "_law_names" "_law_names" (defArgs s_l_names) (defBody s_l_names) (defScope s_l_names) .none kV_l_names dc_l_names pm_l_names an_l_names cd_l_names ct_l_names), sl_l_names⟩) (c_l_names0 : PySem.W.codeIn K cd_l_names "_law_names" = true) (k_l_names : PySem.W.keepIn K (.ref fa_l_names) = true)
    {fa_l_string : Addr} {od_l_string an_l_string : Option Addr} {sl_l_string : Array (Option Value)} {oc_l_string kV_l_string dc_l_string pm_l_string cd_l_string ct_l_string : Value} (a_l_string : PySem.W.nsIn K mainGlobals "_law_string" = some (some (.ref fa_l_string))) (l_l_string : K.lookup fa_l_string = some ⟨oc_l_string, od_l_string, .func (PySem.W.fnOf "_law_string" "_law_string" (defArgs s_l_string) (defBody s_l_string) (defScope s_l_string) .none kV_l_string dc_l_string pm_l_string an_l_string cd_l_string ct_l_string), sl_l_string⟩) (c_l_string0 : PySem.W.codeIn K cd_l_string "_law_string" = true) (k_l_string : PySem.W.keepIn K (.ref fa_l_string) = true)
    {fa_l_literal : Addr} {od_l_literal an_l_literal : Option Addr} {sl_l_literal : Array (Option Value)} {oc_l_literal kV_l_literal dc_l_literal pm_l_literal cd_l_literal ct_l_literal : Value} (a_l_literal : PySem.W.nsIn K mainGlobals "_law_literal" = some (some (.ref fa_l_literal))) (l_l_literal : K.lookup fa_l_literal = some ⟨oc_l_literal, od_l_literal, .func (PySem.W.fnOf "_law_literal" "_law_literal" (defArgs s_l_literal) (defBody s_l_literal) (defScope s_l_literal) .none kV_l_literal dc_l_literal pm_l_literal an_l_literal cd_l_literal ct_l_literal), sl_l_literal⟩) (c_l_literal0 : PySem.W.codeIn K cd_l_literal "_law_literal" = true) (k_l_literal : PySem.W.keepIn K (.ref fa_l_literal) = true)
    {fa_l_leaf : Addr} {od_l_leaf an_l_leaf : Option Addr} {sl_l_leaf : Array (Option Value)} {oc_l_leaf kV_l_leaf dc_l_leaf pm_l_leaf cd_l_leaf ct_l_leaf : Value} (a_l_leaf : PySem.W.nsIn K mainGlobals "_law_leaf" = some (some (.ref fa_l_leaf))) (l_l_leaf : K.lookup fa_l_leaf = some ⟨oc_l_leaf, od_l_leaf, .func (PySem.W.fnOf "_law_leaf" "_law_leaf" (defArgs s_l_leaf) (defBody s_l_leaf) (defScope s_l_leaf) .none kV_l_leaf dc_l_leaf pm_l_leaf an_l_leaf cd_l_leaf ct_l_leaf), sl_l_leaf⟩) (c_l_leaf0 : PySem.W.codeIn K cd_l_leaf "_law_leaf" = true) (k_l_leaf : PySem.W.keepIn K (.ref fa_l_leaf) = true)
    {fa_l_expression : Addr} {od_l_expression an_l_expression : Option Addr} {sl_l_expression : Array (Option Value)} {oc_l_expression kV_l_expression dc_l_expression pm_l_expression cd_l_expression ct_l_expression : Value} (a_l_expression : PySem.W.nsIn K mainGlobals "_law_expression" = some (some (.ref fa_l_expression))) (l_l_expression : K.lookup fa_l_expression = some ⟨oc_l_expression, od_l_expression, .func (PySem.W.fnOf "_law_expression" "_law_expression" (defArgs s_l_expression) (defBody s_l_expression) (defScope s_l_expression) .none kV_l_expression dc_l_expression pm_l_expression an_l_expression cd_l_expression ct_l_expression), sl_l_expression⟩) (c_l_expression0 : PySem.W.codeIn K cd_l_expression "_law_expression" = true) (k_l_expression : PySem.W.keepIn K (.ref fa_l_expression) = true)
    {fa_l_number : Addr} {od_l_number an_l_number : Option Addr} {sl_l_number : Array (Option Value)} {oc_l_number kV_l_number dc_l_number pm_l_number cd_l_number ct_l_number : Value} (a_l_number : PySem.W.nsIn K mainGlobals "_law_number" = some (some (.ref fa_l_number))) (l_l_number : K.lookup fa_l_number = some ⟨oc_l_number, od_l_number, .func (PySem.W.fnOf "_law_number" "_law_number" (defArgs s_l_number) (defBody s_l_number) (defScope s_l_number) .none kV_l_number dc_l_number pm_l_number an_l_number cd_l_number ct_l_number), sl_l_number⟩) (c_l_number0 : PySem.W.codeIn K cd_l_number "_law_number" = true) (k_l_number : PySem.W.keepIn K (.ref fa_l_number) = true)
    {fa_l_stamped : Addr} {od_l_stamped an_l_stamped : Option Addr} {sl_l_stamped : Array (Option Value)} {oc_l_stamped kV_l_stamped dc_l_stamped pm_l_stamped cd_l_stamped ct_l_stamped : Value} (a_l_stamped : PySem.W.nsIn K mainGlobals "_law_stamped" = some (some (.ref fa_l_stamped))) (l_l_stamped : K.lookup fa_l_stamped = some ⟨oc_l_stamped, od_l_stamped, .func (PySem.W.fnOf "_law_stamped" "_law_stamped" (defArgs s_l_stamped) (defBody s_l_stamped) (defScope s_l_stamped) .none kV_l_stamped dc_l_stamped pm_l_stamped an_l_stamped cd_l_stamped ct_l_stamped), sl_l_stamped⟩) (c_l_stamped0 : PySem.W.codeIn K cd_l_stamped "_law_stamped" = true) (k_l_stamped : PySem.W.keepIn K (.ref fa_l_stamped) = true)
    {fa_l_marked : Addr} {od_l_marked an_l_marked : Option Addr} {sl_l_marked : Array (Option Value)} {oc_l_marked kV_l_marked dc_l_marked pm_l_marked cd_l_marked ct_l_marked : Value} (a_l_marked : PySem.W.nsIn K mainGlobals "_law_marked" = some (some (.ref fa_l_marked))) (l_l_marked : K.lookup fa_l_marked = some ⟨oc_l_marked, od_l_marked, .func (PySem.W.fnOf "_law_marked" "_law_marked" (defArgs s_l_marked) (defBody s_l_marked) (defScope s_l_marked) .none kV_l_marked dc_l_marked pm_l_marked an_l_marked cd_l_marked ct_l_marked), sl_l_marked⟩) (c_l_marked0 : PySem.W.codeIn K cd_l_marked "_law_marked" = true) (k_l_marked : PySem.W.keepIn K (.ref fa_l_marked) = true)
    {fa_l_shape : Addr} {od_l_shape an_l_shape : Option Addr} {sl_l_shape : Array (Option Value)} {oc_l_shape kV_l_shape dc_l_shape pm_l_shape cd_l_shape ct_l_shape : Value} (a_l_shape : PySem.W.nsIn K mainGlobals "_law_shape" = some (some (.ref fa_l_shape))) (l_l_shape : K.lookup fa_l_shape = some ⟨oc_l_shape, od_l_shape, .func (PySem.W.fnOf "_law_shape" "_law_shape" (defArgs s_l_shape) (defBody s_l_shape) (defScope s_l_shape) .none kV_l_shape dc_l_shape pm_l_shape an_l_shape cd_l_shape ct_l_shape), sl_l_shape⟩) (c_l_shape0 : PySem.W.codeIn K cd_l_shape "_law_shape" = true) (k_l_shape : PySem.W.keepIn K (.ref fa_l_shape) = true)
    {fa_l_text : Addr} {od_l_text an_l_text : Option Addr} {sl_l_text : Array (Option Value)} {oc_l_text kV_l_text dc_l_text pm_l_text cd_l_text ct_l_text : Value} (a_l_text : PySem.W.nsIn K mainGlobals "_law_text" = some (some (.ref fa_l_text))) (l_l_text : K.lookup fa_l_text = some ⟨oc_l_text, od_l_text, .func (PySem.W.fnOf "_law_text" "_law_text" (defArgs s_l_text) (defBody s_l_text) (defScope s_l_text) .none kV_l_text dc_l_text pm_l_text an_l_text cd_l_text ct_l_text), sl_l_text⟩) (c_l_text0 : PySem.W.codeIn K cd_l_text "_law_text" = true) (k_l_text : PySem.W.keepIn K (.ref fa_l_text) = true)
    {fa_part_places : Addr} {od_part_places an_part_places : Option Addr} {sl_part_places : Array (Option Value)} {oc_part_places kV_part_places dc_part_places pm_part_places cd_part_places ct_part_places : Value} (a_part_places : PySem.W.nsIn K mainGlobals "part_places" = some (some (.ref fa_part_places))) (l_part_places : K.lookup fa_part_places = some ⟨oc_part_places, od_part_places, .func (PySem.W.fnOf "part_places" "part_places" (defArgs s_part_places) (defBody s_part_places) (defScope s_part_places) .none kV_part_places dc_part_places pm_part_places an_part_places cd_part_places ct_part_places), sl_part_places⟩) (c_part_places0 : PySem.W.codeIn K cd_part_places "part_places" = true) (k_part_places : PySem.W.keepIn K (.ref fa_part_places) = true)
    {fa_subexpressions : Addr} {od_subexpressions an_subexpressions : Option Addr} {sl_subexpressions : Array (Option Value)} {oc_subexpressions kV_subexpressions dc_subexpressions pm_subexpressions cd_subexpressions ct_subexpressions : Value} (a_subexpressions : PySem.W.nsIn K mainGlobals "subexpressions" = some (some (.ref fa_subexpressions))) (l_subexpressions : K.lookup fa_subexpressions = some ⟨oc_subexpressions, od_subexpressions, .func (PySem.W.fnOf "subexpressions" "subexpressions" (defArgs s_subexpressions) (defBody s_subexpressions) (defScope s_subexpressions) .none kV_subexpressions dc_subexpressions pm_subexpressions an_subexpressions cd_subexpressions ct_subexpressions), sl_subexpressions⟩) (c_subexpressions0 : PySem.W.codeIn K cd_subexpressions "subexpressions" = true) (k_subexpressions : PySem.W.keepIn K (.ref fa_subexpressions) = true)
    {fa_literal_values : Addr} {od_literal_values an_literal_values : Option Addr} {sl_literal_values : Array (Option Value)} {oc_literal_values kV_literal_values dc_literal_values pm_literal_values cd_literal_values ct_literal_values : Value} (a_literal_values : PySem.W.nsIn K mainGlobals "literal_values" = some (some (.ref fa_literal_values))) (l_literal_values : K.lookup fa_literal_values = some ⟨oc_literal_values, od_literal_values, .func (PySem.W.fnOf "literal_values" "literal_values" (defArgs s_literal_values) (defBody s_literal_values) (defScope s_literal_values) .none kV_literal_values dc_literal_values pm_literal_values an_literal_values cd_literal_values ct_literal_values), sl_literal_values⟩) (c_literal_values0 : PySem.W.codeIn K cd_literal_values "literal_values" = true) (k_literal_values : PySem.W.keepIn K (.ref fa_literal_values) = true)
    {fa_with_literals : Addr} {od_with_literals an_with_literals : Option Addr} {sl_with_literals : Array (Option Value)} {oc_with_literals kV_with_literals dc_with_literals pm_with_literals cd_with_literals ct_with_literals : Value} (a_with_literals : PySem.W.nsIn K mainGlobals "with_literals" = some (some (.ref fa_with_literals))) (l_with_literals : K.lookup fa_with_literals = some ⟨oc_with_literals, od_with_literals, .func (PySem.W.fnOf "with_literals" "with_literals" (defArgs s_with_literals) (defBody s_with_literals) (defScope s_with_literals) .none kV_with_literals dc_with_literals pm_with_literals an_with_literals cd_with_literals ct_with_literals), sl_with_literals⟩) (c_with_literals0 : PySem.W.codeIn K cd_with_literals "with_literals" = true) (k_with_literals : PySem.W.keepIn K (.ref fa_with_literals) = true)
    {dT_stamp : Addr} {do_stamp : Obj} {dn_stamp : Nat} {tk0_stamp : Tok} {fa_stamp : Addr} {od_stamp an_stamp : Option Addr} {sl_stamp : Array (Option Value)} {oc_stamp kV_stamp dc_stamp pm_stamp cd_stamp ct_stamp : Value} (a_stamp : PySem.W.nsIn K mainGlobals "stamp" = some (some (.ref fa_stamp))) (l_stamp : K.lookup fa_stamp = some ⟨oc_stamp, od_stamp, .func (PySem.W.fnOf "stamp" "stamp" (defArgs s_stamp) (defBody s_stamp) (defScope s_stamp) (.ref dT_stamp) kV_stamp dc_stamp pm_stamp an_stamp cd_stamp ct_stamp), sl_stamp⟩) (c_stamp0 : PySem.W.codeIn K cd_stamp "stamp" = true) (k_stamp : PySem.W.keepIn K (.ref fa_stamp) = true) (dl_stamp : K.lookup dT_stamp = some do_stamp) (dd_stamp : do_stamp.data = .seq ([.int 0 tk0_stamp] : List Value).toArray dn_stamp)
    {dT_stamp_expression : Addr} {do_stamp_expression : Obj} {dn_stamp_expression : Nat} {tk0_stamp_expression : Tok} {fa_stamp_expression : Addr} {od_stamp_expression an_stamp_expression : Option Addr} {sl_stamp_expression : Array (Option Value)} {oc_stamp_expression kV_stamp_expression dc_stamp_expression pm_stamp_expression cd_stamp_expression ct_stamp_expression : Value} (a_stamp_expression : PySem.W.nsIn K mainGlobals "stamp_expression" = some (some (.ref fa_stamp_expression))) (l_stamp_expression : K.lookup fa_stamp_expression = some ⟨oc_stamp_expression, od_stamp_expression, .func (PySem.W.fnOf "stamp_expression" "stamp_expression" (defArgs s_stamp_expression) (defBody s_stamp_expression) (defScope s_stamp_expression) (.ref dT_stamp_expression) kV_stamp_expression dc_stamp_expression pm_stamp_expression an_stamp_expression cd_stamp_expression ct_stamp_expression), sl_stamp_expression⟩) (c_stamp_expression0 : PySem.W.codeIn K cd_stamp_expression "stamp_expression" = true) (k_stamp_expression : PySem.W.keepIn K (.ref fa_stamp_expression) = true) (dl_stamp_expression : K.lookup dT_stamp_expression = some do_stamp_expression) (dd_stamp_expression : do_stamp_expression.data = .seq ([.int 0 tk0_stamp_expression] : List Value).toArray dn_stamp_expression)
    {fa_fill : Addr} {od_fill an_fill : Option Addr} {sl_fill : Array (Option Value)} {oc_fill kV_fill dc_fill pm_fill cd_fill ct_fill : Value} (a_fill : PySem.W.nsIn K mainGlobals "fill" = some (some (.ref fa_fill))) (l_fill : K.lookup fa_fill = some ⟨oc_fill, od_fill, .func (PySem.W.fnOf "fill" "fill" (defArgs s_fill) (defBody s_fill) (defScope s_fill) .none kV_fill dc_fill pm_fill an_fill cd_fill ct_fill), sl_fill⟩) (c_fill0 : PySem.W.codeIn K cd_fill "fill" = true) (k_fill : PySem.W.keepIn K (.ref fa_fill) = true)
    {fa_l_filling : Addr} {od_l_filling an_l_filling : Option Addr} {sl_l_filling : Array (Option Value)} {oc_l_filling kV_l_filling dc_l_filling pm_l_filling cd_l_filling ct_l_filling : Value} (a_l_filling : PySem.W.nsIn K mainGlobals "_law_filling" = some (some (.ref fa_l_filling))) (l_l_filling : K.lookup fa_l_filling = some ⟨oc_l_filling, od_l_filling, .func (PySem.W.fnOf "_law_filling" "_law_filling" (defArgs s_l_filling) (defBody s_l_filling) (defScope s_l_filling) .none kV_l_filling dc_l_filling pm_l_filling an_l_filling cd_l_filling ct_l_filling), sl_l_filling⟩) (c_l_filling0 : PySem.W.codeIn K cd_l_filling "_law_filling" = true) (k_l_filling : PySem.W.keepIn K (.ref fa_l_filling) = true)
    {fa_shape_of : Addr} {od_shape_of an_shape_of : Option Addr} {sl_shape_of : Array (Option Value)} {oc_shape_of kV_shape_of dc_shape_of pm_shape_of cd_shape_of ct_shape_of : Value} (a_shape_of : PySem.W.nsIn K mainGlobals "shape_of" = some (some (.ref fa_shape_of))) (l_shape_of : K.lookup fa_shape_of = some ⟨oc_shape_of, od_shape_of, .func (PySem.W.fnOf "shape_of" "shape_of" (defArgs s_shape_of) (defBody s_shape_of) (defScope s_shape_of) .none kV_shape_of dc_shape_of pm_shape_of an_shape_of cd_shape_of ct_shape_of), sl_shape_of⟩) (c_shape_of0 : PySem.W.codeIn K cd_shape_of "shape_of" = true) (k_shape_of : PySem.W.keepIn K (.ref fa_shape_of) = true)
    {fa_literals_of : Addr} {od_literals_of an_literals_of : Option Addr} {sl_literals_of : Array (Option Value)} {oc_literals_of kV_literals_of dc_literals_of pm_literals_of cd_literals_of ct_literals_of : Value} (a_literals_of : PySem.W.nsIn K mainGlobals "literals_of" = some (some (.ref fa_literals_of))) (l_literals_of : K.lookup fa_literals_of = some ⟨oc_literals_of, od_literals_of, .func (PySem.W.fnOf "literals_of" "literals_of" (defArgs s_literals_of) (defBody s_literals_of) (defScope s_literals_of) .none kV_literals_of dc_literals_of pm_literals_of an_literals_of cd_literals_of ct_literals_of), sl_literals_of⟩) (c_literals_of0 : PySem.W.codeIn K cd_literals_of "literals_of" = true) (k_literals_of : PySem.W.keepIn K (.ref fa_literals_of) = true)
    {fa_law : Addr} {od_law an_law : Option Addr} {sl_law : Array (Option Value)} {oc_law kV_law dc_law pm_law cd_law ct_law : Value} (a_law : PySem.W.nsIn K mainGlobals "law" = some (some (.ref fa_law))) (l_law : K.lookup fa_law = some ⟨oc_law, od_law, .func (PySem.W.fnOf "law" "law" (defArgs s_law) (defBody s_law) (defScope s_law) .none kV_law dc_law pm_law an_law cd_law ct_law), sl_law⟩) (c_law0 : PySem.W.codeIn K cd_law "law" = true) (k_law : PySem.W.keepIn K (.ref fa_law) = true)
    {D_PLACES : Addr} (a_PLACES : PySem.W.nsIn K mainGlobals "PLACES" = some (some (.ref D_PLACES))) (w_PLACES : He.dicW K D_PLACES = some (He.keysIn w.params ["concat", "slice", "find", "after", "before", "replace all", "if", "dynamic file", "coin"]))
    {dt0_PLACES : Addr} {do0_PLACES : Obj} {dn0_PLACES : Nat} {dk0_0_PLACES dk0_1_PLACES : Tok} (dx0_PLACES : PySem.W.nsIn K D_PLACES "concat" = some (some (.ref dt0_PLACES))) (dl0_PLACES : K.lookup dt0_PLACES = some do0_PLACES) (dc0_PLACES : do0_PLACES.cls = .type "tuple") (dd_0_PLACES : do0_PLACES.data = .seq ([.int 1 dk0_0_PLACES, .int 2 dk0_1_PLACES] : List Value).toArray dn0_PLACES)
    {dt1_PLACES : Addr} {do1_PLACES : Obj} {dn1_PLACES : Nat} {dk1_0_PLACES : Tok} (dx1_PLACES : PySem.W.nsIn K D_PLACES "slice" = some (some (.ref dt1_PLACES))) (dl1_PLACES : K.lookup dt1_PLACES = some do1_PLACES) (dc1_PLACES : do1_PLACES.cls = .type "tuple") (dd_1_PLACES : do1_PLACES.data = .seq ([.int 1 dk1_0_PLACES] : List Value).toArray dn1_PLACES)
    {dt2_PLACES : Addr} {do2_PLACES : Obj} {dn2_PLACES : Nat} {dk2_0_PLACES dk2_1_PLACES : Tok} (dx2_PLACES : PySem.W.nsIn K D_PLACES "find" = some (some (.ref dt2_PLACES))) (dl2_PLACES : K.lookup dt2_PLACES = some do2_PLACES) (dc2_PLACES : do2_PLACES.cls = .type "tuple") (dd_2_PLACES : do2_PLACES.data = .seq ([.int 1 dk2_0_PLACES, .int 2 dk2_1_PLACES] : List Value).toArray dn2_PLACES)
    {dt3_PLACES : Addr} {do3_PLACES : Obj} {dn3_PLACES : Nat} {dk3_0_PLACES dk3_1_PLACES : Tok} (dx3_PLACES : PySem.W.nsIn K D_PLACES "after" = some (some (.ref dt3_PLACES))) (dl3_PLACES : K.lookup dt3_PLACES = some do3_PLACES) (dc3_PLACES : do3_PLACES.cls = .type "tuple") (dd_3_PLACES : do3_PLACES.data = .seq ([.int 1 dk3_0_PLACES, .int 2 dk3_1_PLACES] : List Value).toArray dn3_PLACES)
    {dt4_PLACES : Addr} {do4_PLACES : Obj} {dn4_PLACES : Nat} {dk4_0_PLACES dk4_1_PLACES : Tok} (dx4_PLACES : PySem.W.nsIn K D_PLACES "before" = some (some (.ref dt4_PLACES))) (dl4_PLACES : K.lookup dt4_PLACES = some do4_PLACES) (dc4_PLACES : do4_PLACES.cls = .type "tuple") (dd_4_PLACES : do4_PLACES.data = .seq ([.int 1 dk4_0_PLACES, .int 2 dk4_1_PLACES] : List Value).toArray dn4_PLACES)
    {dt5_PLACES : Addr} {do5_PLACES : Obj} {dn5_PLACES : Nat} {dk5_0_PLACES dk5_1_PLACES dk5_2_PLACES : Tok} (dx5_PLACES : PySem.W.nsIn K D_PLACES "replace all" = some (some (.ref dt5_PLACES))) (dl5_PLACES : K.lookup dt5_PLACES = some do5_PLACES) (dc5_PLACES : do5_PLACES.cls = .type "tuple") (dd_5_PLACES : do5_PLACES.data = .seq ([.int 1 dk5_0_PLACES, .int 2 dk5_1_PLACES, .int 3 dk5_2_PLACES] : List Value).toArray dn5_PLACES)
    {dt6_PLACES : Addr} {do6_PLACES : Obj} {dn6_PLACES : Nat} {dk6_0_PLACES dk6_1_PLACES dk6_2_PLACES : Tok} (dx6_PLACES : PySem.W.nsIn K D_PLACES "if" = some (some (.ref dt6_PLACES))) (dl6_PLACES : K.lookup dt6_PLACES = some do6_PLACES) (dc6_PLACES : do6_PLACES.cls = .type "tuple") (dd_6_PLACES : do6_PLACES.data = .seq ([.int 1 dk6_0_PLACES, .int 2 dk6_1_PLACES, .int 3 dk6_2_PLACES] : List Value).toArray dn6_PLACES)
    {dt7_PLACES : Addr} {do7_PLACES : Obj} {dn7_PLACES : Nat} {dk7_0_PLACES : Tok} (dx7_PLACES : PySem.W.nsIn K D_PLACES "dynamic file" = some (some (.ref dt7_PLACES))) (dl7_PLACES : K.lookup dt7_PLACES = some do7_PLACES) (dc7_PLACES : do7_PLACES.cls = .type "tuple") (dd_7_PLACES : do7_PLACES.data = .seq ([.int 1 dk7_0_PLACES] : List Value).toArray dn7_PLACES)
    {dt8_PLACES : Addr} {do8_PLACES : Obj} {dn8_PLACES : Nat} {dk8_0_PLACES dk8_1_PLACES : Tok} (dx8_PLACES : PySem.W.nsIn K D_PLACES "coin" = some (some (.ref dt8_PLACES))) (dl8_PLACES : K.lookup dt8_PLACES = some do8_PLACES) (dc8_PLACES : do8_PLACES.cls = .type "tuple") (dd_8_PLACES : do8_PLACES.data = .seq ([.int 2 dk8_0_PLACES, .int 3 dk8_1_PLACES] : List Value).toArray dn8_PLACES)
    (dm0_PLACES : PySem.W.nsIn K D_PLACES "literal" = some none)
    (dm1_PLACES : PySem.W.nsIn K D_PLACES "file" = some none)
    (dm2_PLACES : PySem.W.nsIn K D_PLACES "optional file" = some none)
    (dm3_PLACES : PySem.W.nsIn K D_PLACES "target" = some none)
    (dm4_PLACES : PySem.W.nsIn K D_PLACES "concat files" = some none)
    (z_list : PySem.W.nsIn K mainGlobals "list" = some none)
    (z_int : PySem.W.nsIn K mainGlobals "int" = some none)
    (z_abs : PySem.W.nsIn K mainGlobals "abs" = some none)
    (z_max : PySem.W.nsIn K mainGlobals "max" = some none)
    (z_len : PySem.W.nsIn K mainGlobals "len" = some none)
    (z_range : PySem.W.nsIn K mainGlobals "range" = some none)
    (z_tuple : PySem.W.nsIn K mainGlobals "tuple" = some none)
    (z_isinstance : PySem.W.nsIn K mainGlobals "isinstance" = some none)
    (z_repr : PySem.W.nsIn K mainGlobals "repr" = some none) :
    ∃ fd : FuncData, (∀ (s : Shared) (u : Value), BindsTo s fd ⟨[u], []⟩ [("_law_script", u)]) ∧ ∀ base : Heap, K.In base → base.Ns mainGlobals mg → FnG P w K mg base 20 fa fd ["_law_script"] (spD K (fun _ => none) 1 c_law) := by
  cases hfa.symm.trans (PySem.W.mg_of X G a_law)
  rw [show (Str.ofString "concat") = (⟨([99, 111, 110, 99, 97, 116] : List Nat).toArray⟩ : Str) from by decide +kernel] at dx0_PLACES
  rw [show (Str.ofString "slice") = (⟨([115, 108, 105, 99, 101] : List Nat).toArray⟩ : Str) from by decide +kernel] at dx1_PLACES
  rw [show (Str.ofString "find") = (⟨([102, 105, 110, 100] : List Nat).toArray⟩ : Str) from by decide +kernel] at dx2_PLACES
  rw [show (Str.ofString "after") = (⟨([97, 102, 116, 101, 114] : List Nat).toArray⟩ : Str) from by decide +kernel] at dx3_PLACES
  rw [show (Str.ofString "before") = (⟨([98, 101, 102, 111, 114, 101] : List Nat).toArray⟩ : Str) from by decide +kernel] at dx4_PLACES
  rw [show (Str.ofString "replace all") = (⟨([114, 101, 112, 108, 97, 99, 101, 32, 97, 108, 108] : List Nat).toArray⟩ : Str) from by decide +kernel] at dx5_PLACES
  rw [show (Str.ofString "if") = (⟨([105, 102] : List Nat).toArray⟩ : Str) from by decide +kernel] at dx6_PLACES
  rw [show (Str.ofString "dynamic file") = (⟨([100, 121, 110, 97, 109, 105, 99, 32, 102, 105, 108, 101] : List Nat).toArray⟩ : Str) from by decide +kernel] at dx7_PLACES
  rw [show (Str.ofString "coin") = (⟨([99, 111, 105, 110] : List Nat).toArray⟩ : Str) from by decide +kernel] at dx8_PLACES
  rw [show (Str.ofString "literal") = (⟨([108, 105, 116, 101, 114, 97, 108] : List Nat).toArray⟩ : Str) from by decide +kernel] at dm0_PLACES
  rw [show (Str.ofString "file") = (⟨([102, 105, 108, 101] : List Nat).toArray⟩ : Str) from by decide +kernel] at dm1_PLACES
  rw [show (Str.ofString "optional file") = (⟨([111, 112, 116, 105, 111, 110, 97, 108, 32, 102, 105, 108, 101] : List Nat).toArray⟩ : Str) from by decide +kernel] at dm2_PLACES
  rw [show (Str.ofString "target") = (⟨([116, 97, 114, 103, 101, 116] : List Nat).toArray⟩ : Str) from by decide +kernel] at dm3_PLACES
  rw [show (Str.ofString "concat files") = (⟨([99, 111, 110, 99, 97, 116, 32, 102, 105, 108, 101, 115] : List Nat).toArray⟩ : Str) from by decide +kernel] at dm4_PLACES
  have dc_PLACES : DctF K w mg "PLACES" tab_PLACES := dct_mk (PySem.W.mg_of X G a_PLACES) w_PLACES ⟨⟨_, .ref dt0_PLACES, dx0_PLACES, rfl, vals_intsK (ns := [1, 2]) (.cons ⟨_, rfl⟩ (.cons ⟨_, rfl⟩ .nil)) dl0_PLACES dc0_PLACES dd_0_PLACES⟩, ⟨_, .ref dt1_PLACES, dx1_PLACES, rfl, vals_intsK (ns := [1]) (.cons ⟨_, rfl⟩ .nil) dl1_PLACES dc1_PLACES dd_1_PLACES⟩, ⟨_, .ref dt2_PLACES, dx2_PLACES, rfl, vals_intsK (ns := [1, 2]) (.cons ⟨_, rfl⟩ (.cons ⟨_, rfl⟩ .nil)) dl2_PLACES dc2_PLACES dd_2_PLACES⟩, ⟨_, .ref dt3_PLACES, dx3_PLACES, rfl, vals_intsK (ns := [1, 2]) (.cons ⟨_, rfl⟩ (.cons ⟨_, rfl⟩ .nil)) dl3_PLACES dc3_PLACES dd_3_PLACES⟩, ⟨_, .ref dt4_PLACES, dx4_PLACES, rfl, vals_intsK (ns := [1, 2]) (.cons ⟨_, rfl⟩ (.cons ⟨_, rfl⟩ .nil)) dl4_PLACES dc4_PLACES dd_4_PLACES⟩, ⟨_, .ref dt5_PLACES, dx5_PLACES, rfl, vals_intsK (ns := [1, 2, 3]) (.cons ⟨_, rfl⟩ (.cons ⟨_, rfl⟩ (.cons ⟨_, rfl⟩ .nil))) dl5_PLACES dc5_PLACES dd_5_PLACES⟩, ⟨_, .ref dt6_PLACES, dx6_PLACES, rfl, vals_intsK (ns := [1, 2, 3]) (.cons ⟨_, rfl⟩ (.cons ⟨_, rfl⟩ (.cons ⟨_, rfl⟩ .nil))) dl6_PLACES dc6_PLACES dd_6_PLACES⟩, ⟨_, .ref dt7_PLACES, dx7_PLACES, rfl, vals_intsK (ns := [1]) (.cons ⟨_, rfl⟩ .nil) dl7_PLACES dc7_PLACES dd_7_PLACES⟩, ⟨_, .ref dt8_PLACES, dx8_PLACES, rfl, vals_intsK (ns := [2, 3]) (.cons ⟨_, rfl⟩ (.cons ⟨_, rfl⟩ .nil)) dl8_PLACES dc8_PLACES dd_8_PLACES⟩, dm0_PLACES, dm1_PLACES, dm2_PLACES, dm3_PLACES, dm4_PLACES, trivial⟩
  have F_l_tape := fun_mk (st := s_l_tape) l_l_tape c_l_tape0 k_l_tape
  have b_l_tape := F_l_tape.binds (ps := ["_law_script"]) fun _ _ _ _ _ _ us hl => match us, hl with | [_], _ => rfl
  have F_l_draw := fun_mk (st := s_l_draw) l_l_draw c_l_draw0 k_l_draw
  have b_l_draw := F_l_draw.binds (ps := ["_law_tape_here", "_law_many"]) fun _ _ _ _ _ _ us hl => match us, hl with | [_, _], _ => rfl
  have F_l_name := fun_mk (st := s_l_name) l_l_name c_l_name0 k_l_name
  have b_l_name := F_l_name.binds (ps := ["_law_tape_here", "_law_stem"]) fun _ _ _ _ _ _ us hl => match us, hl with | [_, _], _ => rfl
  have F_l_names := fun_mk (st := s_l_names) l_l_names c_l_names0 k_l_names
  have b_l_names := F_l_names.binds (ps := ["_law_tape_here", "_law_most"]) fun _ _ _ _ _ _ us hl => match us, hl with | [_, _], _ => rfl
  have F_l_string := fun_mk (st := s_l_string) l_l_string c_l_string0 k_l_string
  have b_l_string := F_l_string.binds (ps := ["_law_tape_here", "_law_size"]) fun _ _ _ _ _ _ us hl => match us, hl with | [_, _], _ => rfl
  have F_l_literal := fun_mk (st := s_l_literal) l_l_literal c_l_literal0 k_l_literal
  have b_l_literal := F_l_literal.binds (ps := ["_law_tape_here"]) fun _ _ _ _ _ _ us hl => match us, hl with | [_], _ => rfl
  have F_l_leaf := fun_mk (st := s_l_leaf) l_l_leaf c_l_leaf0 k_l_leaf
  have b_l_leaf := F_l_leaf.binds (ps := ["_law_tape_here", "_law_names_here"]) fun _ _ _ _ _ _ us hl => match us, hl with | [_, _], _ => rfl
  have F_l_expression := fun_mk (st := s_l_expression) l_l_expression c_l_expression0 k_l_expression
  have b_l_expression := F_l_expression.binds (ps := ["_law_tape_here", "_law_names_here", "_law_depth", "_law_coins"]) fun _ _ _ _ _ _ us hl => match us, hl with | [_, _, _, _], _ => rfl
  have F_l_number := fun_mk (st := s_l_number) l_l_number c_l_number0 k_l_number
  have b_l_number := F_l_number.binds (ps := ["_law_tape_here"]) fun _ _ _ _ _ _ us hl => match us, hl with | [_], _ => rfl
  have F_l_stamped := fun_mk (st := s_l_stamped) l_l_stamped c_l_stamped0 k_l_stamped
  have b_l_stamped := F_l_stamped.binds (ps := ["_law_string_here", "_law_change", "_law_start"]) fun _ _ _ _ _ _ us hl => match us, hl with | [_, _, _], _ => rfl
  have F_l_marked := fun_mk (st := s_l_marked) l_l_marked c_l_marked0 k_l_marked
  have b_l_marked := F_l_marked.binds (ps := ["_law_part", "_law_change", "_law_count"]) fun _ _ _ _ _ _ us hl => match us, hl with | [_, _, _], _ => rfl
  have F_l_shape := fun_mk (st := s_l_shape) l_l_shape c_l_shape0 k_l_shape
  have b_l_shape := F_l_shape.binds (ps := ["_law_part"]) fun _ _ _ _ _ _ us hl => match us, hl with | [_], _ => rfl
  have F_l_text := fun_mk (st := s_l_text) l_l_text c_l_text0 k_l_text
  have b_l_text := F_l_text.binds (ps := ["_law_tape_here", "_law_size"]) fun _ _ _ _ _ _ us hl => match us, hl with | [_, _], _ => rfl
  have F_part_places := fun_mk (st := s_part_places) l_part_places c_part_places0 k_part_places
  have b_part_places := F_part_places.binds (ps := ["expression"]) fun _ _ _ _ _ _ us hl => match us, hl with | [_], _ => rfl
  have F_subexpressions := fun_mk (st := s_subexpressions) l_subexpressions c_subexpressions0 k_subexpressions
  have b_subexpressions := F_subexpressions.binds (ps := ["expression"]) fun _ _ _ _ _ _ us hl => match us, hl with | [_], _ => rfl
  have F_literal_values := fun_mk (st := s_literal_values) l_literal_values c_literal_values0 k_literal_values
  have b_literal_values := F_literal_values.binds (ps := ["expression"]) fun _ _ _ _ _ _ us hl => match us, hl with | [_], _ => rfl
  have F_with_literals := fun_mk (st := s_with_literals) l_with_literals c_with_literals0 k_with_literals
  have b_with_literals := F_with_literals.binds (ps := ["expression", "values"]) fun _ _ _ _ _ _ us hl => match us, hl with | [_, _], _ => rfl
  have F_stamp := funV_mk (st := s_stamp) l_stamp c_stamp0 k_stamp
  have b_stamp := F_stamp.binds (ps := ["string", "change", "start"]) dl_stamp dd_stamp 3 1 rfl fun _ _ _ _ _ _ us hl => match us, hl with | [_, _, _], _ => ⟨_, rfl, rfl⟩
  have bd_stamp := F_stamp.binds (ps := ["string", "change", "start"]) dl_stamp dd_stamp 2 0 rfl fun _ _ _ _ _ _ us hl => match us, hl with | [_, _], _ => ⟨_, rfl, rfl⟩
  have v_stamp : Vals [.int 0] ([.int 0 tk0_stamp] : List Value) := .cons ⟨_, rfl⟩ .nil
  have F_stamp_expression := funV_mk (st := s_stamp_expression) l_stamp_expression c_stamp_expression0 k_stamp_expression
  have b_stamp_expression := F_stamp_expression.binds (ps := ["expression", "change", "start"]) dl_stamp_expression dd_stamp_expression 3 1 rfl fun _ _ _ _ _ _ us hl => match us, hl with | [_, _, _], _ => ⟨_, rfl, rfl⟩
  have bd_stamp_expression := F_stamp_expression.binds (ps := ["expression", "change", "start"]) dl_stamp_expression dd_stamp_expression 2 0 rfl fun _ _ _ _ _ _ us hl => match us, hl with | [_, _], _ => ⟨_, rfl, rfl⟩
  have v_stamp_expression : Vals [.int 0] ([.int 0 tk0_stamp_expression] : List Value) := .cons ⟨_, rfl⟩ .nil
  have F_fill := fun_mk (st := s_fill) l_fill c_fill0 k_fill
  have b_fill := F_fill.binds (ps := ["shape", "text"]) fun _ _ _ _ _ _ us hl => match us, hl with | [_, _], _ => rfl
  have F_l_filling := fun_mk (st := s_l_filling) l_l_filling c_l_filling0 k_l_filling
  have b_l_filling := F_l_filling.binds (ps := ["_law_part", "_law_given", "_law_at"]) fun _ _ _ _ _ _ us hl => match us, hl with | [_, _, _], _ => rfl
  have F_shape_of := fun_mk (st := s_shape_of) l_shape_of c_shape_of0 k_shape_of
  have b_shape_of := F_shape_of.binds (ps := ["expression"]) fun _ _ _ _ _ _ us hl => match us, hl with | [_], _ => rfl
  have F_literals_of := fun_mk (st := s_literals_of) l_literals_of c_literals_of0 k_literals_of
  have b_literals_of := F_literals_of.binds (ps := ["expression"]) fun _ _ _ _ _ _ us hl => match us, hl with | [_], _ => rfl
  have F_law := fun_mk (st := s_law) l_law c_law0 k_law
  refine ⟨PySem.W.fnOf "law" "law" (defArgs s_law) (defBody s_law) (defScope s_law) .none kV_law dc_law pm_law an_law cd_law ct_law, fun s v => .of_eq rfl, fun base _ _ => ?_⟩
  have G_l_tape := ok_l_tape (P := P) (w := w) (mg := mg) (base := base) F_l_tape (PySem.W.mg_none_of X G z_list) (PySem.W.mg_none_of X G z_int) (PySem.W.mg_none_of X G z_abs)
  have G_l_draw := ok_l_draw (P := P) (w := w) (mg := mg) (base := base) F_l_draw (PySem.W.mg_none_of X G z_max) (PySem.W.mg_none_of X G z_int) (PySem.W.mg_none_of X G z_len) (PySem.W.mg_none_of X G z_abs)
  have G_l_name := ok_l_name (P := P) (w := w) (mg := mg) (base := base) F_l_name G_l_draw (PySem.W.mg_of X G a_l_draw) k_l_draw b_l_draw (PySem.W.mg_none_of X G z_range)
  have G_l_names := ok_l_names (P := P) (w := w) (mg := mg) (base := base) F_l_names G_l_draw (PySem.W.mg_of X G a_l_draw) k_l_draw b_l_draw G_l_name (PySem.W.mg_of X G a_l_name) k_l_name b_l_name (PySem.W.mg_none_of X G z_range)
  have G_l_string := ok_l_string (P := P) (w := w) (mg := mg) (base := base) F_l_string G_l_draw (PySem.W.mg_of X G a_l_draw) k_l_draw b_l_draw (PySem.W.mg_none_of X G z_range) (PySem.W.mg_none_of X G z_len)
  have G_l_literal := ok_l_literal (P := P) (w := w) (mg := mg) (base := base) F_l_literal G_l_draw (PySem.W.mg_of X G a_l_draw) k_l_draw b_l_draw G_l_string (PySem.W.mg_of X G a_l_string) k_l_string b_l_string (PySem.W.mg_none_of X G z_int)
  have G_l_leaf := ok_l_leaf (P := P) (w := w) (mg := mg) (base := base) F_l_leaf G_l_draw (PySem.W.mg_of X G a_l_draw) k_l_draw b_l_draw G_l_literal (PySem.W.mg_of X G a_l_literal) k_l_literal b_l_literal (PySem.W.mg_none_of X G z_len)
  have G_l_expression := ok_l_expression (P := P) (w := w) (mg := mg) (base := base) F_l_expression (PySem.W.mg_of X G a_l_expression) k_l_expression b_l_expression G_l_draw (PySem.W.mg_of X G a_l_draw) k_l_draw b_l_draw G_l_leaf (PySem.W.mg_of X G a_l_leaf) k_l_leaf b_l_leaf (PySem.W.mg_none_of X G z_int) 8
  have G_l_number := ok_l_number (P := P) (w := w) (mg := mg) (base := base) F_l_number G_l_draw (PySem.W.mg_of X G a_l_draw) k_l_draw b_l_draw
  have G_l_stamped := ok_l_stamped (P := P) (w := w) (mg := mg) (base := base) F_l_stamped (PySem.W.mg_none_of X G z_tuple) (PySem.W.mg_none_of X G z_range) (PySem.W.mg_none_of X G z_len)
  have G_l_marked := ok_l_marked (P := P) (w := w) (mg := mg) (base := base) F_l_marked (PySem.W.mg_of X G a_l_marked) k_l_marked b_l_marked G_l_stamped (PySem.W.mg_of X G a_l_stamped) k_l_stamped b_l_stamped (PySem.W.mg_none_of X G z_tuple) (PySem.W.mg_none_of X G z_isinstance) (PySem.W.mg_none_of X G z_len) 8
  have G_l_shape := ok_l_shape (P := P) (w := w) (mg := mg) (base := base) F_l_shape (PySem.W.mg_of X G a_l_shape) k_l_shape b_l_shape (PySem.W.mg_none_of X G z_tuple) (PySem.W.mg_none_of X G z_isinstance) (PySem.W.mg_none_of X G z_len) 8
  have G_l_text := ok_l_text (P := P) (w := w) (mg := mg) (base := base) F_l_text G_l_string (PySem.W.mg_of X G a_l_string) k_l_string b_l_string G_l_draw (PySem.W.mg_of X G a_l_draw) k_l_draw b_l_draw (PySem.W.mg_none_of X G z_tuple)
  have G_part_places := ok_part_places (P := P) (w := w) (mg := mg) (base := base) F_part_places dc_PLACES
  have G_subexpressions := ok_subexpressions (P := P) (w := w) (mg := mg) (base := base) F_subexpressions (PySem.W.mg_of X G a_subexpressions) k_subexpressions b_subexpressions G_part_places (PySem.W.mg_of X G a_part_places) k_part_places b_part_places 8
  have G_literal_values := ok_literal_values (P := P) (w := w) (mg := mg) (base := base) F_literal_values G_subexpressions (PySem.W.mg_of X G a_subexpressions) k_subexpressions b_subexpressions
  have G_with_literals := ok_with_literals (P := P) (w := w) (mg := mg) (base := base) F_with_literals (PySem.W.mg_of X G a_with_literals) k_with_literals b_with_literals G_part_places (PySem.W.mg_of X G a_part_places) k_part_places b_part_places G_literal_values (PySem.W.mg_of X G a_literal_values) k_literal_values b_literal_values (PySem.W.mg_none_of X G z_len) 8
  have G_stamp := ok_stamp (P := P) (w := w) (mg := mg) (base := base) F_stamp (PySem.W.mg_none_of X G z_tuple) (PySem.W.mg_none_of X G z_range) (PySem.W.mg_none_of X G z_len)
  have G_stamp_expression := ok_stamp_expression (P := P) (w := w) (mg := mg) (base := base) F_stamp_expression G_literal_values (PySem.W.mg_of X G a_literal_values) k_literal_values b_literal_values G_with_literals (PySem.W.mg_of X G a_with_literals) k_with_literals b_with_literals G_stamp (PySem.W.mg_of X G a_stamp) k_stamp b_stamp bd_stamp v_stamp (PySem.W.mg_none_of X G z_len)
  have G_fill := ok_fill (P := P) (w := w) (mg := mg) (base := base) F_fill G_literal_values (PySem.W.mg_of X G a_literal_values) k_literal_values b_literal_values G_with_literals (PySem.W.mg_of X G a_with_literals) k_with_literals b_with_literals
  have G_l_filling := ok_l_filling (P := P) (w := w) (mg := mg) (base := base) F_l_filling (PySem.W.mg_of X G a_l_filling) k_l_filling b_l_filling (PySem.W.mg_none_of X G z_tuple) (PySem.W.mg_none_of X G z_isinstance) 8
  have G_shape_of := ok_shape_of (P := P) (w := w) (mg := mg) (base := base) F_shape_of G_with_literals (PySem.W.mg_of X G a_with_literals) k_with_literals b_with_literals G_literal_values (PySem.W.mg_of X G a_literal_values) k_literal_values b_literal_values (PySem.W.mg_none_of X G z_len)
  have G_literals_of := ok_literals_of (P := P) (w := w) (mg := mg) (base := base) F_literals_of G_literal_values (PySem.W.mg_of X G a_literal_values) k_literal_values b_literal_values
  exact ok_law F_law G_l_tape (PySem.W.mg_of X G a_l_tape) k_l_tape b_l_tape G_l_names (PySem.W.mg_of X G a_l_names) k_l_names b_l_names G_l_expression (PySem.W.mg_of X G a_l_expression) k_l_expression b_l_expression G_l_number (PySem.W.mg_of X G a_l_number) k_l_number b_l_number G_l_marked (PySem.W.mg_of X G a_l_marked) k_l_marked b_l_marked G_l_shape (PySem.W.mg_of X G a_l_shape) k_l_shape b_l_shape G_l_text (PySem.W.mg_of X G a_l_text) k_l_text b_l_text G_stamp_expression (PySem.W.mg_of X G a_stamp_expression) k_stamp_expression b_stamp_expression bd_stamp_expression v_stamp_expression G_l_draw (PySem.W.mg_of X G a_l_draw) k_l_draw b_l_draw G_fill (PySem.W.mg_of X G a_fill) k_fill b_fill G_l_filling (PySem.W.mg_of X G a_l_filling) k_l_filling b_l_filling G_shape_of (PySem.W.mg_of X G a_shape_of) k_shape_of b_shape_of G_literals_of (PySem.W.mg_of X G a_literals_of) k_literals_of b_literals_of (PySem.W.mg_none_of X G z_repr)
end Law
open PySem PySem.W PyProof.Rows in
set_option maxHeartbeats 0 in
theorem PySem.Challenge.cw_shiptrace_k10_shapes_holds : PySem.Challenge.rw_shiptrace_k10_shapes.Holds := by
  w_on; o_law; k_head; (case hw => w_witness2)
  k_fill
  refine Ev.walkG (l := PySem.Challenge.rw_shiptrace_k10_shapes) (n := 63) (k := 20) (x := "_law_script") (cl := fun _ _ => none) (c := Law.c_law) rfl (by decide) rfl ⟨rfl, by decide, by decide⟩ (fun w h Y => PySem.W.kIn_of Y) ?F Law.law_true
  case F =>
    intro w mg fa h KX G hmg
    refine' Law.all_mk KX G hmg ?a_l_tape ?l_l_tape ?c_l_tape0 ?k_l_tape ?a_l_draw ?l_l_draw ?c_l_draw0 ?k_l_draw ?a_l_name ?l_l_name ?c_l_name0 ?k_l_name ?a_l_names ?l_l_names ?c_l_names0 ?k_l_names ?a_l_string ?l_l_string ?c_l_string0 ?k_l_string ?a_l_literal ?l_l_literal ?c_l_literal0 ?k_l_literal ?a_l_leaf ?l_l_leaf ?c_l_leaf0 ?k_l_leaf ?a_l_expression ?l_l_expression ?c_l_expression0 ?k_l_expression ?a_l_number ?l_l_number ?c_l_number0 ?k_l_number ?a_l_stamped ?l_l_stamped ?c_l_stamped0 ?k_l_stamped ?a_l_marked ?l_l_marked ?c_l_marked0 ?k_l_marked ?a_l_shape ?l_l_shape ?c_l_shape0 ?k_l_shape ?a_l_text ?l_l_text ?c_l_text0 ?k_l_text ?a_part_places ?l_part_places ?c_part_places0 ?k_part_places ?a_subexpressions ?l_subexpressions ?c_subexpressions0 ?k_subexpressions ?a_literal_values ?l_literal_values ?c_literal_values0 ?k_literal_values ?a_with_literals ?l_with_literals ?c_with_literals0 ?k_with_literals ?a_stamp ?l_stamp ?c_stamp0 ?k_stamp ?dl_stamp ?dd_stamp ?a_stamp_expression ?l_stamp_expression ?c_stamp_expression0 ?k_stamp_expression ?dl_stamp_expression ?dd_stamp_expression ?a_fill ?l_fill ?c_fill0 ?k_fill ?a_l_filling ?l_l_filling ?c_l_filling0 ?k_l_filling ?a_shape_of ?l_shape_of ?c_shape_of0 ?k_shape_of ?a_literals_of ?l_literals_of ?c_literals_of0 ?k_literals_of ?a_law ?l_law ?c_law0 ?k_law ?a_PLACES ?w_PLACES ?dx0_PLACES ?dl0_PLACES ?dc0_PLACES ?dd_0_PLACES ?dx1_PLACES ?dl1_PLACES ?dc1_PLACES ?dd_1_PLACES ?dx2_PLACES ?dl2_PLACES ?dc2_PLACES ?dd_2_PLACES ?dx3_PLACES ?dl3_PLACES ?dc3_PLACES ?dd_3_PLACES ?dx4_PLACES ?dl4_PLACES ?dc4_PLACES ?dd_4_PLACES ?dx5_PLACES ?dl5_PLACES ?dc5_PLACES ?dd_5_PLACES ?dx6_PLACES ?dl6_PLACES ?dc6_PLACES ?dd_6_PLACES ?dx7_PLACES ?dl7_PLACES ?dc7_PLACES ?dd_7_PLACES ?dx8_PLACES ?dl8_PLACES ?dc8_PLACES ?dd_8_PLACES ?dm0_PLACES ?dm1_PLACES ?dm2_PLACES ?dm3_PLACES ?dm4_PLACES ?z_list ?z_int ?z_abs ?z_max ?z_len ?z_range ?z_tuple ?z_isinstance ?z_repr
    (case a_l_tape => k_is); (case l_l_tape => k_is); (case c_l_tape0 => k_is); (case k_l_tape => k_is); (case a_l_draw => k_is); (case l_l_draw => k_is); (case c_l_draw0 => k_is); (case k_l_draw => k_is); (case a_l_name => k_is); (case l_l_name => k_is); (case c_l_name0 => k_is); (case k_l_name => k_is); (case a_l_names => k_is); (case l_l_names => k_is); (case c_l_names0 => k_is); (case k_l_names => k_is); (case a_l_string => k_is); (case l_l_string => k_is); (case c_l_string0 => k_is); (case k_l_string => k_is); (case a_l_literal => k_is); (case l_l_literal => k_is); (case c_l_literal0 => k_is); (case k_l_literal => k_is); (case a_l_leaf => k_is); (case l_l_leaf => k_is); (case c_l_leaf0 => k_is); (case k_l_leaf => k_is); (case a_l_expression => k_is); (case l_l_expression => k_is); (case c_l_expression0 => k_is); (case k_l_expression => k_is); (case a_l_number => k_is); (case l_l_number => k_is); (case c_l_number0 => k_is); (case k_l_number => k_is); (case a_l_stamped => k_is); (case l_l_stamped => k_is); (case c_l_stamped0 => k_is); (case k_l_stamped => k_is); (case a_l_marked => k_is); (case l_l_marked => k_is); (case c_l_marked0 => k_is); (case k_l_marked => k_is); (case a_l_shape => k_is); (case l_l_shape => k_is); (case c_l_shape0 => k_is); (case k_l_shape => k_is); (case a_l_text => k_is); (case l_l_text => k_is); (case c_l_text0 => k_is); (case k_l_text => k_is); (case a_part_places => k_is); (case l_part_places => k_is); (case c_part_places0 => k_is); (case k_part_places => k_is); (case a_subexpressions => k_is); (case l_subexpressions => k_is); (case c_subexpressions0 => k_is); (case k_subexpressions => k_is); (case a_literal_values => k_is); (case l_literal_values => k_is); (case c_literal_values0 => k_is); (case k_literal_values => k_is); (case a_with_literals => k_is); (case l_with_literals => k_is); (case c_with_literals0 => k_is); (case k_with_literals => k_is); (case a_stamp => k_is); (case l_stamp => k_is); (case c_stamp0 => k_is); (case k_stamp => k_is); (case dl_stamp => k_is); (case dd_stamp => first | rfl | k_is); (case a_stamp_expression => k_is); (case l_stamp_expression => k_is); (case c_stamp_expression0 => k_is); (case k_stamp_expression => k_is); (case dl_stamp_expression => k_is); (case dd_stamp_expression => first | rfl | k_is); (case a_fill => k_is); (case l_fill => k_is); (case c_fill0 => k_is); (case k_fill => k_is); (case a_l_filling => k_is); (case l_l_filling => k_is); (case c_l_filling0 => k_is); (case k_l_filling => k_is); (case a_shape_of => k_is); (case l_shape_of => k_is); (case c_shape_of0 => k_is); (case k_shape_of => k_is); (case a_literals_of => k_is); (case l_literals_of => k_is); (case c_literals_of0 => k_is); (case k_literals_of => k_is); (case a_law => k_is); (case l_law => k_is); (case c_law0 => k_is); (case k_law => k_is); (case a_PLACES => k_is); (case w_PLACES => rfl); (case dx0_PLACES => k_is); (case dl0_PLACES => k_is); (case dc0_PLACES => first | rfl | k_is); (case dd_0_PLACES => first | rfl | k_is); (case dx1_PLACES => k_is); (case dl1_PLACES => k_is); (case dc1_PLACES => first | rfl | k_is); (case dd_1_PLACES => first | rfl | k_is); (case dx2_PLACES => k_is); (case dl2_PLACES => k_is); (case dc2_PLACES => first | rfl | k_is); (case dd_2_PLACES => first | rfl | k_is); (case dx3_PLACES => k_is); (case dl3_PLACES => k_is); (case dc3_PLACES => first | rfl | k_is); (case dd_3_PLACES => first | rfl | k_is); (case dx4_PLACES => k_is); (case dl4_PLACES => k_is); (case dc4_PLACES => first | rfl | k_is); (case dd_4_PLACES => first | rfl | k_is); (case dx5_PLACES => k_is); (case dl5_PLACES => k_is); (case dc5_PLACES => first | rfl | k_is); (case dd_5_PLACES => first | rfl | k_is); (case dx6_PLACES => k_is); (case dl6_PLACES => k_is); (case dc6_PLACES => first | rfl | k_is); (case dd_6_PLACES => first | rfl | k_is); (case dx7_PLACES => k_is); (case dl7_PLACES => k_is); (case dc7_PLACES => first | rfl | k_is); (case dd_7_PLACES => first | rfl | k_is); (case dx8_PLACES => k_is); (case dl8_PLACES => k_is); (case dc8_PLACES => first | rfl | k_is); (case dd_8_PLACES => first | rfl | k_is); (case dm0_PLACES => k_is); (case dm1_PLACES => k_is); (case dm2_PLACES => k_is); (case dm3_PLACES => k_is); (case dm4_PLACES => k_is); (case z_list => k_is); (case z_int => k_is); (case z_abs => k_is); (case z_max => k_is); (case z_len => k_is); (case z_range => k_is); (case z_tuple => k_is); (case z_isinstance => k_is); (case z_repr => k_is)

