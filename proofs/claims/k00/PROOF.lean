import PyProof.Rows.All
import Wide.All
import OpenK.AllK
import Wide.FinOn
import HandS.ForMost
import HandS.ForExc
import HandS.IsInst
import HandS.Wide
import HandS.Flow
import HandS.Style
import HandS.TupAny
import HandS.Comp
import HandS.Text
import PyProof.ReprRoads
import HandS.ExcIs
import KE.KExcIs
import KE.KExcSuper
import HandS.ExcInit
import HandS.ExcSuper
import HandS.Nested
import HandS.ExcField
import PySem.Challenge.RW_lanecross_k00_errors_and_their_fields
set_option Elab.async false
set_option linter.all false
set_option maxRecDepth 100000
set_option maxHeartbeats 2000000
set_option autoImplicit false
namespace Z
open PySem PySem.Spec L2

/-! ## data, store, results -/
inductive D where
  | non
  | bl (b : Bool)
  | int (i : Int)
  | str (x : Str)
  | ty (n : String)
  | cls (c : Nat)
  | tup (l : List D)
  | lst (l : List D)
  | kst (l : List D)
  | dct (ks : List Key) (vs : List D)
  | ins (c : Nat) (ks : List Str) (vs : List D)
  | loc (n : Nat)
  | exn (c : Nat) (ks : List Str) (vs : List D)

inductive Ent where
  | lst (l : List D)
  | dct (ks : List Key) (vs : List D)
  | ins (c : Nat) (ks : List Str) (vs : List D)
  | dead

abbrev Store := List Ent

inductive Res (α : Type) where
  | ok (a : α) (S : Store)
  | ex (c : Nat) (ks : List Str) (vs : List D) (S : Store)
  | bad

def Res.bind {α β : Type} (r : Res α) (f : α → Store → Res β) : Res β :=
  match r with
  | .ok a S => f a S
  | .ex c ks vs S => .ex c ks vs S
  | .bad => .bad
@[simp] theorem bind_ok {α β : Type} (a : α) (S : Store) (f : α → Store → Res β) : (Res.ok a S).bind f = f a S := rfl
@[simp] theorem bind_ex {α β : Type} (c : Nat) (ks : List Str) (vs : List D) (S : Store) (f : α → Store → Res β) : (Res.ex (α := α) c ks vs S).bind f = .ex c ks vs S := rfl
@[simp] theorem bind_bad {α β : Type} (f : α → Store → Res β) : (Res.bad (α := α)).bind f = .bad := rfl

/-- a def's locals -/
abbrev Env' := List (Option D)
/-- a statement's result -/
inductive SR where
  | nx (ρ : Env') (S : Store)
  | rt (d : D) (S : Store)
  | bk (ρ : Env') (S : Store)
  | ct (ρ : Env') (S : Store)
  | ex (ρ : Env') (c : Nat) (ks : List Str) (vs : List D) (S : Store)
  | bad

/-! ## what they stand for -/
structure Gm where
  K : PySem.W.Frag
  mg : Str → Option Value
  cls : Nat → Addr

/-- a tuple: tracked, or of the module -/
def TupF (K : PySem.W.Frag) (F : Hp) (a : Addr) (xs : List V) : Prop := F a = some (.tup xs) ∨
  ∃ (o : Obj) (its : Array Value) (n : Nat), K.lookup a = some o ∧ o.cls = .type "tuple" ∧ o.data = .seq its n ∧ its.size ≤ sizeLine ∧ Vals xs its.toList
/-- an exception that was caught, its dict at od -/
def xO (C : Addr) (od : Option Addr) (a : Addr) : HO := .ext fun h => ∃ (oe : Obj) (vs : Array Value), h.get? a = some oe ∧ Zc (.ref C) od oe ∧ oe.data = .fields vs
/-- its fields -/
def XdR (F : Hp) (od : Option Addr) (ks : List Str) (xs : List V) : Prop := match od with
  | some dx => F dx = some (.xd (ks.zip xs))
  | none => ks = []
theorem XdR.same {F F' : Hp} {od : Option Addr} {ks : List Str} {xs : List V} (e : Same F F') (h : XdR F od ks xs) : XdR F' od ks xs := by
  cases od with
  | none => exact h
  | some dx => exact e _ _ h
theorem TupF.of {K : PySem.W.Frag} {F : Hp} {a : Addr} {xs : List V} (h : F a = some (.tup xs)) : TupF K F a xs := .inl h
mutual
inductive Rep (G : Gm) (F : Hp) (μ : List Addr) : D → V → Prop
  | non : Rep G F μ .non .non
  | bl (b : Bool) : Rep G F μ (.bl b) (.bl b)
  | int (i : Int) : Rep G F μ (.int i) (.int i)
  | str (x : Str) : Rep G F μ (.str x) (.str x)
  | ty (n : String) : Rep G F μ (.ty n) (.ty n)
  | cls (c : Nat) : Rep G F μ (.cls c) (.ref (G.cls c))
  | tup {a : Addr} {l : List D} {xs : List V} : TupF G.K F a xs → Reps G F μ l xs → Rep G F μ (.tup l) (.ref a)
  | lst {a : Addr} {l : List D} {xs : List V} : F a = some (.lst xs) → Reps G F μ l xs → Rep G F μ (.lst l) (.ref a)
  | kst {a : Addr} {l : List D} {xs : List V} : SqL G.K F a xs → Reps G F μ l xs → Rep G F μ (.kst l) (.ref a)
  | dct {a : Addr} {ks : List Key} {vs : List D} {xs : List V} : F a = some (.dK (ks.zip xs)) → ks.length = vs.length → Reps G F μ vs xs → Rep G F μ (.dct ks vs) (.ref a)
  | ins {a dx : Addr} {c : Nat} {ks : List Str} {vs : List D} {xs : List V} : F a = some (.ins (G.cls c) dx (ks.zip xs)) → ks.length = vs.length → Reps G F μ vs xs → Rep G F μ (.ins c ks vs) (.ref a)
  | loc {n : Nat} {a : Addr} : μ[n]? = some a → Rep G F μ (.loc n) (.ref a)
  | exn {a : Addr} {od : Option Addr} {c : Nat} {ks : List Str} {vs : List D} {xs : List V} : F a = some (xO (G.cls c) od a) → XdR F od ks xs → ks.length = vs.length → Reps G F μ vs xs → Rep G F μ (.exn c ks vs) (.ref a)
inductive Reps (G : Gm) (F : Hp) (μ : List Addr) : List D → List V → Prop
  | nil : Reps G F μ [] []
  | cons {d : D} {v : V} {ds : List D} {vs : List V} : Rep G F μ d v → Reps G F μ ds vs → Reps G F μ (d :: ds) (v :: vs)
end

theorem same_sqL {K : PySem.W.Frag} {H H' : Hp} {a : Addr} {xs : List V} (e : Same H H') (h : SqL K H a xs) : SqL K H' a xs := e.seq h
theorem same_tupF {K : PySem.W.Frag} {H H' : Hp} {a : Addr} {xs : List V} (e : Same H H') (h : TupF K H a xs) : TupF K H' a xs := by
  rcases h with h | h
  · exact .inl (e _ _ h)
  · exact .inr h
theorem same_sqT {K : PySem.W.Frag} {H H' : Hp} {a : Addr} {xs : List V} (e : Same H H') (h : TupF K H a xs) : SqT K H' a xs := by
  rcases h with h | h
  · exact .inl (.inl (e _ _ h))
  · exact .inr h

structure Ext (F : Hp) (μ : List Addr) (F' : Hp) (μ' : List Addr) : Prop where
  fz : Same F F'
  mu : ∀ (i : Nat) (a : Addr), μ[i]? = some a → μ'[i]? = some a
theorem Ext.refl (F : Hp) (μ : List Addr) : Ext F μ F μ := ⟨fun _ _ h => h, fun (_ : Nat) (_ : Addr) h => h⟩
theorem Ext.trans {F1 F2 F3 : Hp} {m1 m2 m3 : List Addr} (a : Ext F1 m1 F2 m2) (b : Ext F2 m2 F3 m3) : Ext F1 m1 F3 m3 :=
  ⟨fun c o h => b.fz c o (a.fz c o h), fun i c h => b.mu i c (a.mu i c h)⟩

mutual
theorem Rep.mono {G : Gm} {F F' : Hp} {μ μ' : List Addr} (x : Ext F μ F' μ') {d : D} {v : V} : Rep G F μ d v → Rep G F' μ' d v
  | .non => .non
  | .bl b => .bl b
  | .int i => .int i
  | .str s => .str s
  | .ty n => .ty n
  | .cls c => .cls c
  | .tup h r => .tup (same_tupF x.fz h) (Reps.mono x r)
  | .lst h r => .lst (x.fz _ _ h) (Reps.mono x r)
  | .kst h r => .kst (same_sqL x.fz h) (Reps.mono x r)
  | .dct h l r => .dct (x.fz _ _ h) l (Reps.mono x r)
  | .ins h l r => .ins (x.fz _ _ h) l (Reps.mono x r)
  | .loc h => .loc (x.mu _ _ h)
  | .exn h y l r => .exn (x.fz _ _ h) (y.same x.fz) l (Reps.mono x r)
theorem Reps.mono {G : Gm} {F F' : Hp} {μ μ' : List Addr} (x : Ext F μ F' μ') {ds : List D} {vs : List V} : Reps G F μ ds vs → Reps G F' μ' ds vs
  | .nil => .nil
  | .cons a b => .cons (Rep.mono x a) (Reps.mono x b)
end

theorem Reps.length {G : Gm} {F : Hp} {μ : List Addr} : ∀ {ds : List D} {vs : List V}, Reps G F μ ds vs → ds.length = vs.length
  | _, _, .nil => rfl
  | _, _, .cons _ b => congrArg (· + 1) b.length
theorem Reps.get {G : Gm} {F : Hp} {μ : List Addr} : ∀ {ds : List D} {vs : List V} {i : Nat} {d : D}, Reps G F μ ds vs → ds[i]? = some d → ∃ v, vs[i]? = some v ∧ Rep G F μ d v
  | _, _, 0, _, .cons a _, h => ⟨_, rfl, by simp at h; subst h; exact a⟩
  | _, _, i + 1, _, .cons _ b, h => by
    obtain ⟨v, h1, h2⟩ := Reps.get (i := i) b (by simpa using h)
    exact ⟨v, by simpa using h1, h2⟩
theorem Reps.getV {G : Gm} {F : Hp} {μ : List Addr} : ∀ {ds : List D} {vs : List V} {i : Nat} {v : V}, Reps G F μ ds vs → vs[i]? = some v → ∃ d, ds[i]? = some d ∧ Rep G F μ d v
  | _, _, 0, _, .cons a _, h => ⟨_, rfl, by simp at h; subst h; exact a⟩
  | _, _, i + 1, _, .cons _ b, h => by
    obtain ⟨v, h1, h2⟩ := Reps.getV (i := i) b (by simpa using h)
    exact ⟨v, by simpa using h1, h2⟩
theorem Reps.app {G : Gm} {F : Hp} {μ : List Addr} : ∀ {ds es : List D} {vs ws : List V}, Reps G F μ ds vs → Reps G F μ es ws → Reps G F μ (ds ++ es) (vs ++ ws)
  | _, _, _, _, .nil, b => b
  | _, _, _, _, .cons a c, b => .cons a (c.app b)
theorem Reps.set {G : Gm} {F : Hp} {μ : List Addr} {d : D} {v : V} (r : Rep G F μ d v) : ∀ {ds : List D} {vs : List V} (i : Nat), Reps G F μ ds vs → Reps G F μ (ds.set i d) (vs.set i v)
  | _, _, _, .nil => .nil
  | _, _, 0, .cons _ b => .cons r b
  | _, _, i + 1, .cons a b => .cons a (Reps.set r i b)
theorem Reps.take {G : Gm} {F : Hp} {μ : List Addr} : ∀ {ds : List D} {vs : List V} (n : Nat), Reps G F μ ds vs → Reps G F μ (ds.take n) (vs.take n)
  | _, _, 0, _ => .nil
  | _, _, _ + 1, .nil => .nil
  | _, _, n + 1, .cons a b => .cons a (Reps.take n b)
theorem Reps.drop {G : Gm} {F : Hp} {μ : List Addr} : ∀ {ds : List D} {vs : List V} (n : Nat), Reps G F μ ds vs → Reps G F μ (ds.drop n) (vs.drop n)
  | _, _, 0, r => r
  | _, _, _ + 1, .nil => .nil
  | _, _, n + 1, .cons _ b => Reps.drop n b
theorem Reps.rev {G : Gm} {F : Hp} {μ : List Addr} : ∀ {ds : List D} {vs : List V}, Reps G F μ ds vs → Reps G F μ ds.reverse vs.reverse
  | _, _, .nil => .nil
  | _, _, .cons a b => by
    rw [List.reverse_cons, List.reverse_cons]
    exact (b.rev).app (.cons a .nil)
theorem Reps.eraseIdx {G : Gm} {F : Hp} {μ : List Addr} : ∀ {ds : List D} {vs : List V} (n : Nat), Reps G F μ ds vs → Reps G F μ (ds.eraseIdx n) (vs.eraseIdx n)
  | _, _, _, .nil => .nil
  | _, _, 0, .cons _ b => b
  | _, _, n + 1, .cons a b => .cons a (Reps.eraseIdx n b)

/-- what stands at a live place -/
inductive EntOk (G : Gm) (F : Hp) (μ : List Addr) (H : Hp) (a : Addr) : Ent → Prop
  | dead : EntOk G F μ H a .dead
  | lst {l : List D} {xs : List V} : F a = none → H a = some (.lst xs) → Reps G F μ l xs → EntOk G F μ H a (.lst l)
  | dct {ks : List Key} {vs : List D} {xs : List V} : F a = none → H a = some (.dK (ks.zip xs)) → ks.length = vs.length → Reps G F μ vs xs → EntOk G F μ H a (.dct ks vs)
  | ins {c : Nat} {ks : List Str} {vs : List D} {dx : Addr} {xs : List V} : F a = none → H a = some (.ins (G.cls c) dx (ks.zip xs)) → ks.length = vs.length → Reps G F μ vs xs → EntOk G F μ H a (.ins c ks vs)

structure Rel (G : Gm) (F : Hp) (μ : List Addr) (S : Store) (H : Hp) : Prop where
  sub : Same F H
  len : μ.length = S.length
  inj : ∀ (i j : Nat) (a : Addr), μ[i]? = some a → μ[j]? = some a → i = j
  ent : ∀ (i : Nat) (a : Addr) (e : Ent), μ[i]? = some a → S[i]? = some e → EntOk G F μ H a e
  trk : ∀ (i : Nat) (a : Addr), μ[i]? = some a → ∃ o, H a = some o

structure EnvR (G : Gm) (F : Hp) (μ : List Addr) (ρ : Env') (σ : St) : Prop where
  len : ρ.length = σ.length
  get : ∀ (i : Nat) (d : D), ρ[i]? = some (some d) → ∃ v, σ[i]? = some (some v) ∧ Rep G F μ d v

theorem EnvR.mono {G : Gm} {F F' : Hp} {μ μ' : List Addr} {ρ : Env'} {σ : St} (h : EnvR G F μ ρ σ) (x : Ext F μ F' μ') : EnvR G F' μ' ρ σ :=
  ⟨h.len, fun i d e => let ⟨v, a, b⟩ := h.get i d e; ⟨v, a, b.mono x⟩⟩
theorem EnvR.set {G : Gm} {F : Hp} {μ : List Addr} {ρ : Env'} {σ : St} (h : EnvR G F μ ρ σ) {d : D} {v : V} (i : Nat) (r : Rep G F μ d v) : EnvR G F μ (ρ.set i (some d)) (σ.set i (some v)) := by
  refine ⟨by simp [h.len], fun j e hj => ?_⟩
  by_cases hij : i = j
  · subst hij
    by_cases hl : i < ρ.length
    · rw [List.getElem?_set_self hl] at hj
      cases hj
      exact ⟨v, List.getElem?_set_self (by rw [← h.len]; exact hl), r⟩
    · rw [List.getElem?_eq_none (by simp; omega)] at hj
      cases hj
  · rw [List.getElem?_set_ne hij] at hj
    rw [List.getElem?_set_ne hij]
    exact h.get j e hj
/-- a slot told otherwise, of the same value -/
theorem EnvR.tell {G : Gm} {F : Hp} {μ : List Addr} {ρ : Env'} {σ : St} (h : EnvR G F μ ρ σ) {d : D} {v : V} (i : Nat) (hs : σ[i]? = some (some v)) (r : Rep G F μ d v) : EnvR G F μ (ρ.set i (some d)) σ := by
  refine ⟨by simp [h.len], fun j e hj => ?_⟩
  by_cases hij : i = j
  · subst hij
    by_cases hl : i < ρ.length
    · rw [List.getElem?_set_self hl] at hj
      cases hj
      exact ⟨v, hs, r⟩
    · rw [List.getElem?_eq_none (by simp; omega)] at hj
      cases hj
  · rw [List.getElem?_set_ne hij] at hj
    exact h.get j e hj

/-! ## what is wanted behind -/
abbrev RR (α β : Type) := Hp → List Addr → α → β → Prop
def rB : RR Bool Bool := fun _ _ a b => a = b
def Post {α β : Type} (G : Gm) (W : WX) (R : RR α β) (F : Hp) (μ : List Addr) (σ : St) (Q : β → Hp → Prop) : Res α → Prop
  | .ok d S => ∀ F' μ' v H', Ext F μ F' μ' → Rel G F' μ' S H' → R F' μ' d v → Q v H'
  | .ex c ks vs S => ∀ F' μ' dx xs H', Ext F μ F' μ' → Rel G F' μ' S H' → XdR F' dx ks xs → ks.length = vs.length → Reps G F' μ' vs xs → W (.ref (G.cls c)) dx σ H'
  | .bad => False
theorem Post.mono {α β : Type} {G : Gm} {W : WX} {R : RR α β} {F F1 : Hp} {μ μ1 : List Addr} {σ : St} {Q : β → Hp → Prop} {r : Res α} (h : Post G W R F μ σ Q r) (x : Ext F μ F1 μ1) : Post G W R F1 μ1 σ Q r := by
  cases r with
  | ok d S => exact fun F' μ' v H' e a b => h F' μ' v H' (x.trans e) a b
  | ex c ks vs S => exact fun F' μ' dx xs H' e a b l r => h F' μ' dx xs H' (x.trans e) a b l r
  | bad => exact h
/-- one after another -/
theorem Post.bind {α β α' β' : Type} {G : Gm} {W : WX} {R : RR α β} {R' : RR α' β'} {F : Hp} {μ : List Addr} {σ : St} {Q : β' → Hp → Prop} {Q1 : β → Hp → Prop} {r : Res α} {f : α → Store → Res α'}
    (h : Post G W R' F μ σ Q (r.bind f))
    (k : ∀ d S F' μ' v H', Ext F μ F' μ' → Rel G F' μ' S H' → R F' μ' d v → Post G W R' F' μ' σ Q (f d S) → Q1 v H') : Post G W R F μ σ Q1 r := by
  cases r with
  | ok d S => exact fun F' μ' v H' e a b => k d S F' μ' v H' e a b (Post.mono (show Post G W R' F μ σ Q (f d S) from h) e)
  | ex c ks vs S => exact h
  | bad => exact h

/-! ## expressions -/
def ImpE {α β : Type} (G : Gm) (W : WX) (R : RR α β) (t : St → Hp → (β → Hp → Prop) → Prop) (m : Env' → Store → Res α) : Prop :=
  ∀ ρ S σ H F μ Q, EnvR G F μ ρ σ → Rel G F μ S H → Post G W R F μ σ Q (m ρ S) → t σ H Q
abbrev ME := Env' → Store → Res D
abbrev MB := Env' → Store → Res Bool
abbrev ML := Env' → Store → Res (List D)
structure SE (G : Gm) (X : Cx) (W : WX) (e : Expr) (m : ME) : Prop where
  ex : ∃ t, PE X e t ∧ ImpE G W (Rep G) t m
structure ST (G : Gm) (X : Cx) (W : WX) (e : Expr) (m : MB) : Prop where
  ex : ∃ t, PT X e t ∧ ImpE G W rB t m
structure SW (G : Gm) (X : Cx) (W : WX) (e : Expr) (m : MB) : Prop where
  ex : ∃ t, PW X e t ∧ ImpE G W rB t m
structure SA (G : Gm) (X : Cx) (W : WX) (es : List Expr) (m : ML) : Prop where
  ex : ∃ t, PA X es t ∧ ImpE G W (Reps G) t m
/-- what every place within a def knows -/
structure Ok (G : Gm) (X : Cx) (k : Nat) (W : WX) : Prop where
  K : X.K = G.K
  mg : X.mg = G.mg
  calm : X.calm = true
  nd : X.N.Nodup
  room : Room k X.A
  gd : X.A.guards = some []
  tk : Takes X W
  po : PassesOwn (model X.prog X.w) X.A X.env X.xe

/-! ## how the heap goes on -/
section
variable {G : Gm} {F : Hp} {μ : List Addr} {S : Store} {H : Hp}
theorem Rel.fnone (r : Rel G F μ S H) {p : Addr} (h : H p = none) : F p = none := by
  cases e : F p with
  | none => rfl
  | some o =>
    have := r.sub p o e
    rw [h] at this
    cases this
theorem Rel.mune (r : Rel G F μ S H) {p a : Addr} {i : Nat} (h : H p = none) (e : μ[i]? = some a) : a ≠ p := fun z => by
  obtain ⟨o, q⟩ := r.trk i a e
  rw [z, h] at q
  cases q
theorem EntOk.stay {F' H' : Hp} {μ' : List Addr} {a : Addr} {e : Ent} (x : Ext F μ F' μ') (hf : F a = none → F' a = none) (hh : ∀ o, H a = some o → H' a = some o) : EntOk G F μ H a e → EntOk G F' μ' H' a e
  | .dead => .dead
  | .lst h1 h2 r => .lst (hf h1) (hh _ h2) (r.mono x)
  | .dct h1 h2 l r => .dct (hf h1) (hh _ h2) l (r.mono x)
  | .ins h1 h2 l r => .ins (hf h1) (hh _ h2) l (r.mono x)
theorem same_upd {F : Hp} {p : Addr} {o : HO} (h : F p = none) : Same F (upd F p o) := fun b u e => by
  rw [upd_ne (ne_of_none e h)]
  exact e
/-- a new object that will never change -/
theorem Rel.newF (r : Rel G F μ S H) {p : Addr} (o : HO) (h : H p = none) : Ext F μ (upd F p o) μ ∧ Rel G (upd F p o) μ S (upd H p o) := by
  have hF := r.fnone h
  have x : Ext F μ (upd F p o) μ := ⟨same_upd hF, fun i a z => z⟩
  refine ⟨x, fun b u e => ?_, r.len, r.inj, fun i a e h1 h2 => ?_, fun i a h1 => ?_⟩
  · by_cases hb : b = p
    · subst hb
      rw [upd_same] at e ⊢
      exact e
    · rw [upd_ne hb] at e ⊢
      exact r.sub b u e
  · have na := r.mune h h1
    exact (r.ent i a e h1 h2).stay x (fun z => by rw [upd_ne na]; exact z) fun o z => by rw [upd_ne na]; exact z
  · have na := r.mune h h1
    obtain ⟨u, q⟩ := r.trk i a h1
    exact ⟨u, by rw [upd_ne na]; exact q⟩
/-- something beside that nobody looks at -/
theorem Rel.beside (r : Rel G F μ S H) {p : Addr} (o : HO) (h : H p = none) : Rel G F μ S (upd H p o) := by
  refine ⟨fun b u e => ?_, r.len, r.inj, fun i a e h1 h2 => ?_, fun i a h1 => ?_⟩
  · rw [upd_ne (fun z => by rw [z, r.fnone h] at e; cases e)]
    exact r.sub b u e
  · have na := r.mune h h1
    exact (r.ent i a e h1 h2).stay (Ext.refl F μ) (fun z => z) fun o z => by rw [upd_ne na]; exact z
  · have na := r.mune h h1
    obtain ⟨u, q⟩ := r.trk i a h1
    exact ⟨u, by rw [upd_ne na]; exact q⟩
theorem ext_app (F : Hp) (μ : List Addr) (p : Addr) : Ext F μ F (μ ++ [p]) :=
  ⟨fun _ _ h => h, fun i a h => by rw [List.getElem?_append_left (List.getElem?_eq_some_iff.mp h).1]; exact h⟩
/-- a new object that may change -/
theorem Rel.newL (r : Rel G F μ S H) {p : Addr} {o : HO} {e : Ent} (h : H p = none) (he : EntOk G F (μ ++ [p]) (upd H p o) p e) : Rel G F (μ ++ [p]) (S ++ [e]) (upd H p o) := by
  have x := ext_app F μ p
  refine ⟨fun b u q => ?_, by simp [r.len], fun i j a h1 h2 => ?_, fun i a e' h1 h2 => ?_, fun i a h1 => ?_⟩
  · rw [upd_ne (fun z => by rw [z, r.fnone h] at q; cases q)]
    exact r.sub b u q
  · rw [List.getElem?_append] at h1 h2
    split at h1 <;> split at h2
    · exact r.inj i j a h1 h2
    · rename_i hi hj
      have : a = p := by
        obtain ⟨hl, q⟩ := List.getElem?_eq_some_iff.mp h2
        simpa using q.symm
      exact absurd this (r.mune h h1)
    · rename_i hi hj
      have : a = p := by
        obtain ⟨hl, q⟩ := List.getElem?_eq_some_iff.mp h1
        simpa using q.symm
      exact absurd this (r.mune h h2)
    · obtain ⟨hl, _⟩ := List.getElem?_eq_some_iff.mp h1
      obtain ⟨hl', _⟩ := List.getElem?_eq_some_iff.mp h2
      simp at hl hl'
      omega
  · by_cases hi : i < μ.length
    · rw [List.getElem?_append_left hi] at h1
      rw [List.getElem?_append_left (by rw [← r.len]; exact hi)] at h2
      have na := r.mune h h1
      exact (r.ent i a e' h1 h2).stay x (fun z => z) fun o z => by rw [upd_ne na]; exact z
    · rw [List.getElem?_append_right (by omega)] at h1
      rw [List.getElem?_append_right (by rw [← r.len]; omega)] at h2
      obtain ⟨hl, q⟩ := List.getElem?_eq_some_iff.mp h1
      obtain ⟨hl', q'⟩ := List.getElem?_eq_some_iff.mp h2
      have e1 : p = a := by simpa using q
      have e2 : e = e' := by simpa using q'
      subst e1
      subst e2
      exact he
  · by_cases hi : i < μ.length
    · rw [List.getElem?_append_left hi] at h1
      have na := r.mune h h1
      obtain ⟨u, q⟩ := r.trk i a h1
      exact ⟨u, by rw [upd_ne na]; exact q⟩
    · rw [List.getElem?_append_right (by omega)] at h1
      obtain ⟨hl, q⟩ := List.getElem?_eq_some_iff.mp h1
      have e1 : p = a := by simpa using q
      subst e1
      exact ⟨o, upd_same⟩
/-- a live object is written -/
theorem Rel.write (r : Rel G F μ S H) {n : Nat} {a : Addr} {o : HO} {e : Ent} (hm : μ[n]? = some a) (hf : F a = none) (he : EntOk G F μ (upd H a o) a e) : Rel G F μ (S.set n e) (upd H a o) := by
  refine ⟨fun b u q => ?_, by simp [r.len], r.inj, fun i b e' h1 h2 => ?_, fun i b h1 => ?_⟩
  · rw [upd_ne (fun z => by rw [z, hf] at q; cases q)]
    exact r.sub b u q
  · by_cases hi : n = i
    · subst hi
      rw [hm] at h1
      cases h1
      rw [List.getElem?_set_self (by rw [← r.len]; exact (List.getElem?_eq_some_iff.mp hm).1)] at h2
      cases h2
      exact he
    · rw [List.getElem?_set_ne hi] at h2
      have nb : b ≠ a := fun z => hi (r.inj n i a hm (z ▸ h1))
      exact (r.ent i b e' h1 h2).stay (Ext.refl F μ) (fun z => z) fun o z => by rw [upd_ne nb]; exact z
  · by_cases nb : b = a
    · subst nb
      exact ⟨o, upd_same⟩
    · obtain ⟨u, q⟩ := r.trk i b h1
      exact ⟨u, by rw [upd_ne nb]; exact q⟩
/-- a live object is told to change no more -/
theorem Rel.freeze (r : Rel G F μ S H) {n : Nat} {a : Addr} {o : HO} (hm : μ[n]? = some a) (hf : F a = none) (ho : H a = some o) : Ext F μ (upd F a o) μ ∧ Rel G (upd F a o) μ (S.set n .dead) H := by
  have x : Ext F μ (upd F a o) μ := ⟨same_upd hf, fun i a z => z⟩
  refine ⟨x, fun b u q => ?_, by simp [r.len], r.inj, fun i b e' h1 h2 => ?_, r.trk⟩
  · by_cases hb : b = a
    · subst hb
      rw [upd_same] at q
      rw [← q]
      exact ho
    · rw [upd_ne hb] at q
      exact r.sub b u q
  · by_cases hi : n = i
    · subst hi
      rw [List.getElem?_set_self (by rw [← r.len]; exact (List.getElem?_eq_some_iff.mp hm).1)] at h2
      cases h2
      exact .dead
    · rw [List.getElem?_set_ne hi] at h2
      have nb : b ≠ a := fun z => hi (r.inj n i a hm (z ▸ h1))
      exact (r.ent i b e' h1 h2).stay x (fun z => by rw [upd_ne nb]; exact z) fun o z => z
theorem Rel.lstAt (r : Rel G F μ S H) {n : Nat} {a : Addr} {l : List D} (hm : μ[n]? = some a) (hs : S[n]? = some (.lst l)) : ∃ xs, F a = none ∧ H a = some (.lst xs) ∧ Reps G F μ l xs := by
  cases r.ent n a _ hm hs with
  | lst h1 h2 h3 => exact ⟨_, h1, h2, h3⟩
theorem Rel.dctAt (r : Rel G F μ S H) {n : Nat} {a : Addr} {ks : List Key} {vs : List D} (hm : μ[n]? = some a) (hs : S[n]? = some (.dct ks vs)) : ∃ xs, F a = none ∧ H a = some (.dK (ks.zip xs)) ∧ ks.length = vs.length ∧ Reps G F μ vs xs := by
  cases r.ent n a _ hm hs with
  | dct h1 h2 h3 h4 => exact ⟨_, h1, h2, h3, h4⟩
theorem Rel.insAt (r : Rel G F μ S H) {n : Nat} {a : Addr} {c : Nat} {ks : List Str} {vs : List D} (hm : μ[n]? = some a) (hs : S[n]? = some (.ins c ks vs)) : ∃ dx xs, F a = none ∧ H a = some (.ins (G.cls c) dx (ks.zip xs)) ∧ ks.length = vs.length ∧ Reps G F μ vs xs := by
  cases r.ent n a _ hm hs with
  | ins h1 h2 h3 h4 => exact ⟨_, _, h1, h2, h3, h4⟩
end
end Z

set_option Elab.async false
set_option linter.all false
set_option maxRecDepth 100000
set_option maxHeartbeats 2000000
set_option autoImplicit false
namespace Z
open PySem PySem.Spec L2

/-! ## expressions: what they mean -/
def truthD (S : Store) : D → Option Bool
  | .non => some false
  | .bl b => some b
  | .int i => some (i != 0)
  | .str x => if x.length ≤ sizeLine then some ((x.length : Int) != 0) else none
  | .tup l => some (!l.isEmpty)
  | .lst l => some (!l.isEmpty)
  | .kst l => some (!l.isEmpty)
  | .dct ks _ => some (!ks.isEmpty)
  | .loc n =>
    match S[n]? with
    | some (.lst l) => some (!l.isEmpty)
    | some (.dct ks _) => some (!ks.isEmpty)
    | _ => none
  | _ => none
def resO {α : Type} (o : Option α) (S : Store) : Res α :=
  match o with
  | some a => .ok a S
  | none => .bad
@[simp] theorem resO_some {α : Type} (a : α) (S : Store) : resO (some a) S = .ok a S := rfl
@[simp] theorem resO_none {α : Type} (S : Store) : resO (none : Option α) S = .bad := rfl

def mVar (i : Nat) : ME := fun ρ S => resO (ρ[i]?.join) S
def mC (d : D) : ME := fun _ S => .ok d S
def mBin (f : D → D → Store → Res D) (a b : ME) : ME := fun ρ S => (a ρ S).bind fun x S1 => (b ρ S1).bind fun y S2 => f x y S2
def mUn (f : D → Store → Res D) (a : ME) : ME := fun ρ S => (a ρ S).bind f
def mTst (a : ME) : MB := fun ρ S => (a ρ S).bind fun x S1 => resO (truthD S1 x) S1
def asBl : D → Option Bool
  | .bl b => some b
  | _ => none
def mBlT (a : ME) : MB := fun ρ S => (a ρ S).bind fun x S1 => resO (asBl x) S1
def mAndT (a b : MB) : MB := fun ρ S => (a ρ S).bind fun c S1 => if c = true then b ρ S1 else .ok false S1
def mOrT (a b : MB) : MB := fun ρ S => (a ρ S).bind fun c S1 => if c = true then .ok true S1 else b ρ S1
def mNotT (a : MB) : MB := fun ρ S => (a ρ S).bind fun c S1 => .ok (!c) S1
def mIf (c : MB) (a b : ME) : ME := fun ρ S => (c ρ S).bind fun k S1 => if k = true then a ρ S1 else b ρ S1
def mAndV (a b : ME) : ME := fun ρ S => (a ρ S).bind fun x S1 => (resO (truthD S1 x) S1).bind fun c S2 => if c = true then b ρ S2 else .ok x S2
def mOrV (a b : ME) : ME := fun ρ S => (a ρ S).bind fun x S1 => (resO (truthD S1 x) S1).bind fun c S2 => if c = true then .ok x S2 else b ρ S2
def mNotV (a : ME) : ME := fun ρ S => (a ρ S).bind fun x S1 => (resO (truthD S1 x) S1).bind fun c S2 => .ok (.bl (!c)) S2
def mNilL : ML := fun _ S => .ok [] S
def mConsL (a : ME) (l : ML) : ML := fun ρ S => (a ρ S).bind fun x S1 => (l ρ S1).bind fun xs S2 => .ok (x :: xs) S2
def mTup (l : ML) : ME := fun ρ S => (l ρ S).bind fun xs S1 => if xs.length ≤ sizeLine then .ok (.tup xs) S1 else .bad
/-- a list that will not change -/
def mLst (l : ML) : ME := fun ρ S => (l ρ S).bind fun xs S1 => if xs.length ≤ sizeLine then .ok (.lst xs) S1 else .bad
/-- a list that may change -/
def mLoc (l : ML) : ME := fun ρ S => (l ρ S).bind fun xs S1 => if xs.length ≤ sizeLine then .ok (.loc S1.length) (S1 ++ [.lst xs]) else .bad
def mCall (f : List D → Store → Res D) (l : ML) : ME := fun ρ S => (l ρ S).bind f
/-- a list (or an object) is told to change no more -/
def frzD : D → Store → Res D
  | .loc n, S =>
    match S[n]? with
    | some (.lst l) => .ok (.lst l) (S.set n .dead)
    | some (.dct ks vs) => .ok (.dct ks vs) (S.set n .dead)
    | some (.ins c ks vs) => .ok (.ins c ks vs) (S.set n .dead)
    | _ => .bad
  | d, S => .ok d S
def mFrz (a : ME) : ME := mUn frzD a

/-! ## .. and that it is so -/
section
variable {G : Gm} {X : Cx} {W : WX} {k : Nat}
theorem zip_isEmpty {α β : Type} : ∀ {ks : List α} {xs : List β}, ks.length = xs.length → (ks.zip xs).isEmpty = ks.isEmpty
  | [], _, _ => rfl
  | _ :: _, _ :: _, _ => rfl
  | _ :: _, [], h => by cases h
theorem reps_empty {F : Hp} {μ : List Addr} {l : List D} {xs : List V} (r : Reps G F μ l xs) : xs.isEmpty = l.isEmpty := by
  cases r <;> rfl
theorem truth_ok {F : Hp} {μ : List Addr} {S : Store} {H : Hp} {d : D} {v : V} {c : Bool} (r : Rel G F μ S H) (p : Rep G F μ d v) (h : truthD S d = some c) : TruV G.K v H c := by
  cases p with
  | non => exact (Option.some.inj h).symm
  | bl b => exact (Option.some.inj h).symm
  | int i => exact (Option.some.inj h).symm
  | str x =>
    simp only [truthD] at h
    split at h
    · rename_i hl
      exact ⟨hl, (Option.some.inj h).symm⟩
    · cases h
  | ty n => cases h
  | cls n => cases h
  | tup hs hr => exact .inr (.inl ⟨_, same_sqT r.sub hs, by rw [reps_empty hr]; exact (Option.some.inj h).symm⟩)
  | lst hs hr => exact .inl ⟨_, SqL.of (r.sub _ _ hs), by rw [reps_empty hr]; exact (Option.some.inj h).symm⟩
  | kst hs hr => exact .inl ⟨_, same_sqL r.sub hs, by rw [reps_empty hr]; exact (Option.some.inj h).symm⟩
  | dct hs hl hr => exact .inr (.inr ⟨_, r.sub _ _ hs, by rw [zip_isEmpty (by rw [hl, hr.length])]; exact (Option.some.inj h).symm⟩)
  | ins => cases h
  | exn => cases h
  | @loc n a hm =>
    simp only [truthD] at h
    split at h
    · rename_i l hs
      obtain ⟨xs, _, h2, h3⟩ := r.lstAt hm hs
      exact .inl ⟨xs, SqL.of h2, by rw [reps_empty h3]; exact (Option.some.inj h).symm⟩
    · rename_i ks vs hs
      obtain ⟨xs, _, h2, hl, h3⟩ := r.dctAt hm hs
      exact .inr (.inr ⟨_, h2, by rw [zip_isEmpty (by rw [hl, h3.length])]; exact (Option.some.inj h).symm⟩)
    · cases h
theorem post_resO {α α' β' : Type} {W : WX} {R : RR α' β'} {F : Hp} {μ : List Addr} {σ : L2.St} {Q : β' → Hp → Prop} {o : Option α} {S : Store} {f : α → Store → Res α'} (h : Post G W R F μ σ Q ((resO o S).bind f)) : ∃ a, o = some a ∧ Post G W R F μ σ Q (f a S) := by
  cases o with
  | none => exact h.elim
  | some a => exact ⟨a, rfl, h⟩
theorem post_resO1 {α' β' : Type} {W : WX} {R : RR α' β'} {F : Hp} {μ : List Addr} {σ : L2.St} {Q : β' → Hp → Prop} {o : Option α'} {S : Store} (h : Post G W R F μ σ Q (resO o S)) : ∃ a, o = some a ∧ Post G W R F μ σ Q (.ok a S) := by
  cases o with
  | none => exact h.elim
  | some a => exact ⟨a, rfl, h⟩

theorem se_var {i : Nat} {x : Str} {pos : Pos} (hN : X.N[i]? = some x := by rfl) (hv : Vis X.env.scope x := by first | exact Or.inl rfl | exact Or.inr (Or.inl rfl) | exact Or.inr (Or.inr rfl)) (hd : (x == ("__debug__" : Str)) = false := by decide)
    (hcd : (x == ("__classdict__" : Str)) = false := by decide) : SE G X W (.Name x pos) (mVar i) := by
  refine ⟨_, pe_var hN hv hd hcd, fun ρ S σ H F μ Q he hr hp => ?_⟩
  obtain ⟨d, e, hp⟩ := post_resO1 hp
  have e' : ρ[i]? = some (some d) := by
    cases q : ρ[i]? with
    | none => rw [q] at e; cases e
    | some o => rw [q] at e; cases o with
      | none => cases e
      | some d' => cases e; rfl
  obtain ⟨v, h1, h2⟩ := he.get i d e'
  exact ⟨v, h1, hp F μ v H (Ext.refl _ _) hr h2⟩
theorem se_c {e : Expr} {d : D} {v : V} (h : PE X e (tC v)) (r : ∀ F μ, Rep G F μ d v) : SE G X W e (mC d) :=
  ⟨_, h, fun ρ S σ H F μ Q he hr hp => hp F μ v H (Ext.refl _ _) hr (r F μ)⟩
theorem se_int {i : Int} {j : Nat} {pos : Pos} : SE G X W (.Constant (.int i) j pos) (mC (.int i)) := se_c pe_int fun _ _ => .int i
theorem se_bl {b : Bool} {j : Nat} {pos : Pos} : SE G X W (.Constant (.bool b) j pos) (mC (.bl b)) := se_c pe_bl fun _ _ => .bl b
theorem se_non {j : Nat} {pos : Pos} : SE G X W (.Constant .none j pos) (mC .non) := se_c pe_non fun _ _ => .non
theorem se_str {x : Str} {j : Nat} {pos : Pos} : SE G X W (.Constant (.str x) j pos) (mC (.str x)) := se_c pe_str fun _ _ => .str x

/-- what an operation by values does -/
def OpI (G : Gm) (f : D → D → Store → Res D) (r : R2) : Prop :=
  ∀ (W : WX) (F : Hp) (μ : List Addr) (σ : L2.St) (S : Store) (H : Hp) (x y : D) (u v : V) (Q : VK), Rel G F μ S H → Rep G F μ x u → Rep G F μ y v → Post G W (Rep G) F μ σ Q (f x y S) → r u v H Q
def UnI (G : Gm) (f : D → Store → Res D) (r : V → Hp → VK → Prop) : Prop :=
  ∀ (W : WX) (F : Hp) (μ : List Addr) (σ : L2.St) (S : Store) (H : Hp) (x : D) (u : V) (Q : VK), Rel G F μ S H → Rep G F μ x u → Post G W (Rep G) F μ σ Q (f x S) → r u H Q
def CallI (G : Gm) (f : List D → Store → Res D) (r : List V → Hp → VK → Prop) : Prop :=
  ∀ (W : WX) (F : Hp) (μ : List Addr) (σ : L2.St) (S : Store) (H : Hp) (ds : List D) (us : List V) (Q : VK), Rel G F μ S H → Reps G F μ ds us → Post G W (Rep G) F μ σ Q (f ds S) → r us H Q
theorem imp_bin {ta tb : TE} {a b : ME} {f : D → D → Store → Res D} {r : R2} (ha : ImpE G W (Rep G) ta a) (hb : ImpE G W (Rep G) tb b) (hf : OpI G f r) : ImpE G W (Rep G) (tOp r ta tb) (mBin f a b) := by
  intro ρ S σ H F μ Q he hr hp
  refine ha ρ S σ H F μ _ he hr (Post.bind hp fun x S1 F1 μ1 u H1 x1 r1 p1 q1 => ?_)
  refine hb ρ S1 σ H1 F1 μ1 _ (he.mono x1) r1 (Post.bind q1 fun y S2 F2 μ2 v H2 x2 r2 p2 q2 => ?_)
  exact hf W F2 μ2 σ S2 H2 x y u v Q r2 (p1.mono x2) p2 q2
theorem imp_un {ta : TE} {a : ME} {f : D → Store → Res D} {r : V → Hp → VK → Prop} (ha : ImpE G W (Rep G) ta a) (hf : UnI G f r) : ImpE G W (Rep G) (tUn r ta) (mUn f a) := by
  intro ρ S σ H F μ Q he hr hp
  refine ha ρ S σ H F μ _ he hr (Post.bind hp fun x S1 F1 μ1 u H1 x1 r1 p1 q1 => ?_)
  exact hf W F1 μ1 σ S1 H1 x u Q r1 p1 q1
theorem se_op {a b : Expr} {op : Operator} {pos : Pos} {f : D → D → Store → Res D} {r : R2} {ma mb : ME} (hf : OpI G f r) (ho : OpR X (binaryOp op) r) (ha : SE G X W a ma) (hb : SE G X W b mb) : SE G X W (.BinOp a op b pos) (mBin f ma mb) := by
  obtain ⟨ta, pa, ia⟩ := ha
  obtain ⟨tb, pb, ib⟩ := hb
  exact ⟨_, pe_op ho pa pb, imp_bin ia ib hf⟩
theorem se_un {a : Expr} {op : UnaryOp} {pos : Pos} {f : D → Store → Res D} {r : V → Hp → VK → Prop} {ma : ME} (hf : UnI G f r) (ho : UnR X (unaryOp op) r) (ha : SE G X W a ma) : SE G X W (.UnaryOp op a pos) (mUn f ma) := by
  obtain ⟨ta, pa, ia⟩ := ha
  exact ⟨_, pe_un ho pa, imp_un ia hf⟩
theorem se_cmp {a b : Expr} {op : CmpOp} {pos : Pos} {f : D → D → Store → Res D} {r : R2} {ma mb : ME} (hf : OpI G f r) (ho : OpR X (compareOp op) r) (ha : SE G X W a ma) (hb : SE G X W b mb) (hm : behindInMarks op b = false) : SE G X W (.Compare a [op] [b] pos) (mBin f ma mb) := by
  obtain ⟨ta, pa, ia⟩ := ha
  obtain ⟨tb, pb, ib⟩ := hb
  exact ⟨_, pe_cmpR ho pa pb hm, imp_bin ia ib hf⟩
theorem imp_bl {ta : TE} {a : ME} (ha : ImpE G W (Rep G) ta a) : ImpE G W rB (tTest ta) (mBlT a) := by
  intro ρ S σ H F μ Q he hr hp
  refine ha ρ S σ H F μ _ he hr (Post.bind hp fun x S1 F1 μ1 u H1 x1 r1 p1 q1 => ?_)
  obtain ⟨c, e, q⟩ := post_resO1 q1
  cases x with
  | bl b =>
    cases p1
    exact ⟨_, rfl, q F1 μ1 _ H1 (Ext.refl _ _) r1 (Option.some.inj e).symm⟩
  | _ => cases e
theorem st_cmp {a b : Expr} {op : CmpOp} {pos : Pos} {f : D → D → Store → Res D} {r : R2} {ma mb : ME} (hf : OpI G f r) (ho : OpR X (compareOp op) r) (ha : SE G X W a ma) (hb : SE G X W b mb) (hm : behindInMarks op b = false) : ST G X W (.Compare a [op] [b] pos) (mBlT (mBin f ma mb)) := by
  obtain ⟨ta, pa, ia⟩ := ha
  obtain ⟨tb, pb, ib⟩ := hb
  exact ⟨_, pt_cmpR ho pa pb hm, imp_bl (imp_bin ia ib hf)⟩
theorem st_truth {a : Expr} {ma : ME} (hK : X.K = G.K) (ha : SE G X W a ma) (he : ∀ whole, isTrue a X.env whole = (do let v ← whole; standAt a.pos; holding [v] (truthy v)) := by intro _; rfl) : ST G X W a (mTst ma) := by
  obtain ⟨ta, pa, ia⟩ := ha
  refine ⟨_, pt_truth pa he, fun ρ S σ H F μ Q en hr hp => ?_⟩
  refine ia ρ S σ H F μ _ en hr (Post.bind hp fun x S1 F1 μ1 u H1 x1 r1 p1 q1 => ?_)
  obtain ⟨c, e, q⟩ := post_resO1 q1
  refine ⟨c, ?_, q F1 μ1 c H1 (Ext.refl _ _) r1 rfl⟩
  rw [hK]
  exact truth_ok r1 p1 e
theorem SW.pt {e : Expr} {m : MB} (h : SW G X W e m) : ST G X W e m := by
  obtain ⟨t, p, i⟩ := h
  exact ⟨t, p.pt, i⟩
theorem imp_and {ta tb : TT} {a b : MB} (ha : ImpE G W rB ta a) (hb : ImpE G W rB tb b) : ImpE G W rB (tAnd ta tb) (mAndT a b) := by
  intro ρ S σ H F μ Q he hr hp
  refine ha ρ S σ H F μ _ he hr (Post.bind hp fun c S1 F1 μ1 c' H1 x1 r1 p1 q1 => ?_)
  cases (show c = c' from p1)
  cases c with
  | true => exact iteT (hb ρ S1 σ H1 F1 μ1 Q (he.mono x1) r1 q1)
  | false => exact iteF (q1 F1 μ1 false H1 (Ext.refl _ _) r1 rfl)
theorem imp_or {ta tb : TT} {a b : MB} (ha : ImpE G W rB ta a) (hb : ImpE G W rB tb b) : ImpE G W rB (tOr ta tb) (mOrT a b) := by
  intro ρ S σ H F μ Q he hr hp
  refine ha ρ S σ H F μ _ he hr (Post.bind hp fun c S1 F1 μ1 c' H1 x1 r1 p1 q1 => ?_)
  cases (show c = c' from p1)
  cases c with
  | false => exact iteF (hb ρ S1 σ H1 F1 μ1 Q (he.mono x1) r1 q1)
  | true => exact iteT (q1 F1 μ1 true H1 (Ext.refl _ _) r1 rfl)
theorem sw_and1 {a : Expr} {pos : Pos} {m : MB} (ha : ST G X W a m) : SW G X W (.BoolOp .And [a] pos) m := by
  obtain ⟨t, p, i⟩ := ha
  exact ⟨t, pw_and1 p, i⟩
theorem sw_or1 {a : Expr} {pos : Pos} {m : MB} (ha : ST G X W a m) : SW G X W (.BoolOp .Or [a] pos) m := by
  obtain ⟨t, p, i⟩ := ha
  exact ⟨t, pw_or1 p, i⟩
theorem sw_and {a b : Expr} {rest : List Expr} {pos : Pos} {m n : MB} (ha : ST G X W a m) (hb : SW G X W (.BoolOp .And (b :: rest) pos) n) : SW G X W (.BoolOp .And (a :: b :: rest) pos) (mAndT m n) := by
  obtain ⟨t, p, i⟩ := ha
  obtain ⟨u, q, j⟩ := hb
  exact ⟨_, pw_and p q, imp_and i j⟩
theorem sw_or {a b : Expr} {rest : List Expr} {pos : Pos} {m n : MB} (ha : ST G X W a m) (hb : SW G X W (.BoolOp .Or (b :: rest) pos) n) : SW G X W (.BoolOp .Or (a :: b :: rest) pos) (mOrT m n) := by
  obtain ⟨t, p, i⟩ := ha
  obtain ⟨u, q, j⟩ := hb
  exact ⟨_, pw_or p q, imp_or i j⟩
theorem st_not {a : Expr} {pos : Pos} {m : MB} (ha : ST G X W a m) : ST G X W (.UnaryOp .Not a pos) (mNotT m) := by
  obtain ⟨t, p, i⟩ := ha
  refine ⟨_, pt_not p, fun ρ S σ H F μ Q he hr hp => ?_⟩
  refine i ρ S σ H F μ _ he hr (Post.bind hp fun c S1 F1 μ1 c' H1 x1 r1 p1 q1 => ?_)
  cases (show c = c' from p1)
  exact q1 F1 μ1 (!c) H1 (Ext.refl _ _) r1 rfl
theorem se_ifExp {c a b : Expr} {pos : Pos} {mc : MB} {ma mb : ME} (hc : ST G X W c mc) (ha : SE G X W a ma) (hb : SE G X W b mb) : SE G X W (.IfExp c a b pos) (mIf mc ma mb) := by
  obtain ⟨tc, pc, ic⟩ := hc
  obtain ⟨ta, pa, ia⟩ := ha
  obtain ⟨tb, pb, ib⟩ := hb
  refine ⟨_, pe_ifExp pc pa pb, fun ρ S σ H F μ Q he hr hp => ?_⟩
  refine ic ρ S σ H F μ _ he hr (Post.bind hp fun c S1 F1 μ1 c' H1 x1 r1 p1 q1 => ?_)
  cases (show c = c' from p1)
  cases c with
  | true => exact iteT (ia ρ S1 σ H1 F1 μ1 Q (he.mono x1) r1 q1)
  | false => exact iteF (ib ρ S1 σ H1 F1 μ1 Q (he.mono x1) r1 q1)
theorem se_one {op : BoolOp} {a : Expr} {pos : Pos} {m : ME} (ha : SE G X W a m) : SE G X W (.BoolOp op [a] pos) m := by
  obtain ⟨t, p, i⟩ := ha
  exact ⟨t, pe_one p, i⟩
theorem se_and {a b : Expr} {rest : List Expr} {pos : Pos} {m n : ME} (hK : X.K = G.K) (ha : SE G X W a m) (hb : SE G X W (.BoolOp .And (b :: rest) pos) n) : SE G X W (.BoolOp .And (a :: b :: rest) pos) (mAndV m n) := by
  obtain ⟨ta, pa, ia⟩ := ha
  obtain ⟨tb, pb, ib⟩ := hb
  refine ⟨_, pe_andT pa pb, fun ρ S σ H F μ Q he hr hp => ?_⟩
  refine ia ρ S σ H F μ _ he hr (Post.bind hp fun x S1 F1 μ1 u H1 x1 r1 p1 q1 => ?_)
  obtain ⟨c, e, q⟩ := post_resO q1
  refine ⟨c, by rw [hK]; exact truth_ok r1 p1 e, ?_⟩
  cases c with
  | true => exact iteT (ib ρ S1 σ H1 F1 μ1 Q (he.mono x1) r1 q)
  | false => exact iteF (q F1 μ1 u H1 (Ext.refl _ _) r1 p1)
theorem se_or {a b : Expr} {rest : List Expr} {pos : Pos} {m n : ME} (hK : X.K = G.K) (ha : SE G X W a m) (hb : SE G X W (.BoolOp .Or (b :: rest) pos) n) : SE G X W (.BoolOp .Or (a :: b :: rest) pos) (mOrV m n) := by
  obtain ⟨ta, pa, ia⟩ := ha
  obtain ⟨tb, pb, ib⟩ := hb
  refine ⟨_, pe_orT pa pb, fun ρ S σ H F μ Q he hr hp => ?_⟩
  refine ia ρ S σ H F μ _ he hr (Post.bind hp fun x S1 F1 μ1 u H1 x1 r1 p1 q1 => ?_)
  obtain ⟨c, e, q⟩ := post_resO q1
  refine ⟨c, by rw [hK]; exact truth_ok r1 p1 e, ?_⟩
  cases c with
  | false => exact iteF (ib ρ S1 σ H1 F1 μ1 Q (he.mono x1) r1 q)
  | true => exact iteT (q F1 μ1 u H1 (Ext.refl _ _) r1 p1)
theorem se_not {a : Expr} {pos : Pos} {m : ME} (hK : X.K = G.K) (ha : SE G X W a m) : SE G X W (.UnaryOp .Not a pos) (mNotV m) := by
  obtain ⟨ta, pa, ia⟩ := ha
  refine ⟨_, pe_notT pa, fun ρ S σ H F μ Q he hr hp => ?_⟩
  refine ia ρ S σ H F μ _ he hr (Post.bind hp fun x S1 F1 μ1 u H1 x1 r1 p1 q1 => ?_)
  obtain ⟨c, e, q⟩ := post_resO q1
  exact ⟨c, by rw [hK]; exact truth_ok r1 p1 e, q F1 μ1 _ H1 (Ext.refl _ _) r1 (.bl _)⟩

/-! ### lists of expressions, displays -/
theorem sa_nil : SA G X W [] mNilL := ⟨_, pa_nil, fun ρ S σ H F μ Q he hr hp => hp F μ [] H (Ext.refl _ _) hr .nil⟩
theorem sa_cons {e : Expr} {es : List Expr} {m : ME} {n : ML} (ha : SE G X W e m) (hb : SA G X W es n) (hs : starEach (e :: es) X.env = (false, eval e X.env) :: starEach es X.env := by rfl) : SA G X W (e :: es) (mConsL m n) := by
  obtain ⟨ta, pa, ia⟩ := ha
  obtain ⟨tb, pb, ib⟩ := hb
  refine ⟨_, pa_cons pa pb hs, fun ρ S σ H F μ Q he hr hp => ?_⟩
  refine ia ρ S σ H F μ _ he hr (Post.bind hp fun x S1 F1 μ1 u H1 x1 r1 p1 q1 => ?_)
  refine ib ρ S1 σ H1 F1 μ1 _ (he.mono x1) r1 (Post.bind q1 fun xs S2 F2 μ2 us H2 x2 r2 p2 q2 => ?_)
  exact q2 F2 μ2 _ H2 (Ext.refl _ _) r2 (.cons (p1.mono x2) p2)
theorem post_if {α β : Type} {R : RR α β} {F : Hp} {μ : List Addr} {σ : L2.St} {Q : β → Hp → Prop} {c : Prop} [Decidable c] {r : Res α} (h : Post G W R F μ σ Q (if c then r else .bad)) : c ∧ Post G W R F μ σ Q r := by
  by_cases hc : c
  · rw [if_pos hc] at h
    exact ⟨hc, h⟩
  · rw [if_neg hc] at h
    exact h.elim
theorem se_tup {es : List Expr} {cx : Nat} {pos : Pos} {m : ML} (h : SA G X W es m) : SE G X W (.Tuple es cx pos) (mTup m) := by
  obtain ⟨t, p, i⟩ := h
  refine ⟨_, pe_tup p, fun ρ S σ H F μ Q he hr hp => ?_⟩
  refine i ρ S σ H F μ _ he hr (Post.bind hp fun xs S1 F1 μ1 us H1 x1 r1 p1 q1 => ?_)
  obtain ⟨hl, q⟩ := post_if q1
  refine ⟨by rw [← p1.length]; exact hl, fun p hp => ?_⟩
  obtain ⟨xx, rr⟩ := r1.newF (.tup us) hp
  exact q _ _ _ _ xx rr (.tup (TupF.of upd_same) (p1.mono xx))
theorem se_lst {es : List Expr} {pos : Pos} {m : ML} (h : SA G X W es m) : SE G X W (.List es pos) (mLst m) := by
  obtain ⟨t, p, i⟩ := h
  refine ⟨_, pe_lst p, fun ρ S σ H F μ Q he hr hp => ?_⟩
  refine i ρ S σ H F μ _ he hr (Post.bind hp fun xs S1 F1 μ1 us H1 x1 r1 p1 q1 => ?_)
  obtain ⟨hl, q⟩ := post_if q1
  refine ⟨by rw [← p1.length]; exact hl, fun p hp => ?_⟩
  obtain ⟨xx, rr⟩ := r1.newF (.lst us) hp
  exact q _ _ _ _ xx rr (.lst upd_same (p1.mono xx))
theorem mu_new {F : Hp} {μ : List Addr} {S : Store} {H : Hp} (r : Rel G F μ S H) (p : Addr) : (μ ++ [p])[S.length]? = some p := by
  rw [← r.len]
  simp
theorem se_loc {es : List Expr} {pos : Pos} {m : ML} (h : SA G X W es m) : SE G X W (.List es pos) (mLoc m) := by
  obtain ⟨t, p, i⟩ := h
  refine ⟨_, pe_lst p, fun ρ S σ H F μ Q he hr hp => ?_⟩
  refine i ρ S σ H F μ _ he hr (Post.bind hp fun xs S1 F1 μ1 us H1 x1 r1 p1 q1 => ?_)
  obtain ⟨hl, q⟩ := post_if q1
  refine ⟨by rw [← p1.length]; exact hl, fun p hp => ?_⟩
  have rr := r1.newL (e := .lst xs) hp (.lst (r1.fnone hp) upd_same (p1.mono (ext_app F1 μ1 p)))
  exact q _ _ _ _ (ext_app F1 μ1 p) rr (.loc (mu_new r1 p))
/-- told to change no more -/
theorem se_frz {e : Expr} {m : ME} (h : SE G X W e m) : SE G X W e (mFrz m) := by
  obtain ⟨t, p, i⟩ := h
  refine ⟨t, p, fun ρ S σ H F μ Q he hr hp => ?_⟩
  refine i ρ S σ H F μ _ he hr (Post.bind hp fun d S1 F1 μ1 v H1 x1 r1 p1 q1 => ?_)
  cases p1 with
  | @loc n a hm =>
    simp only [frzD] at q1
    split at q1
    · rename_i l hs
      obtain ⟨xs, hf, ho, hr'⟩ := r1.lstAt hm hs
      obtain ⟨xx, rr⟩ := r1.freeze hm hf ho
      exact q1 _ _ _ _ xx rr (.lst upd_same (hr'.mono xx))
    · rename_i ks vs hs
      obtain ⟨xs, hf, ho, hl, hr'⟩ := r1.dctAt hm hs
      obtain ⟨xx, rr⟩ := r1.freeze hm hf ho
      exact q1 _ _ _ _ xx rr (.dct upd_same hl (hr'.mono xx))
    · rename_i c ks vs hs
      obtain ⟨dx, xs, hf, ho, hl, hr'⟩ := r1.insAt hm hs
      obtain ⟨xx, rr⟩ := r1.freeze hm hf ho
      exact q1 _ _ _ _ xx rr (.ins upd_same hl (hr'.mono xx))
    · exact q1.elim
  | non => exact q1 _ _ _ _ (Ext.refl _ _) r1 .non
  | bl b => exact q1 _ _ _ _ (Ext.refl _ _) r1 (.bl b)
  | int b => exact q1 _ _ _ _ (Ext.refl _ _) r1 (.int b)
  | str b => exact q1 _ _ _ _ (Ext.refl _ _) r1 (.str b)
  | ty b => exact q1 _ _ _ _ (Ext.refl _ _) r1 (.ty b)
  | cls b => exact q1 _ _ _ _ (Ext.refl _ _) r1 (.cls b)
  | tup a b => exact q1 _ _ _ _ (Ext.refl _ _) r1 (.tup a b)
  | lst a b => exact q1 _ _ _ _ (Ext.refl _ _) r1 (.lst a b)
  | kst a b => exact q1 _ _ _ _ (Ext.refl _ _) r1 (.kst a b)
  | dct a b c => exact q1 _ _ _ _ (Ext.refl _ _) r1 (.dct a b c)
  | ins a b c => exact q1 _ _ _ _ (Ext.refl _ _) r1 (.ins a b c)
  | exn a b c e => exact q1 _ _ _ _ (Ext.refl _ _) r1 (.exn a b c e)
end
end Z

set_option Elab.async false
set_option linter.all false
set_option maxRecDepth 100000
set_option maxHeartbeats 2000000
set_option autoImplicit false
namespace Z
open PySem PySem.Spec L2

/-! ## statements -/
abbrev MS := Env' → Store → SR
def srRes {α : Type} (ρ : Env') (r : Res α) (f : α → Store → SR) : SR :=
  match r with
  | .ok a S => f a S
  | .ex c ks vs S => .ex ρ c ks vs S
  | .bad => .bad
@[simp] theorem srRes_ok {α : Type} (ρ : Env') (a : α) (S : Store) (f : α → Store → SR) : srRes ρ (.ok a S) f = f a S := rfl
@[simp] theorem srRes_ex {α : Type} (ρ : Env') (c : Nat) (ks : List Str) (vs : List D) (S : Store) (f : α → Store → SR) : srRes ρ (.ex c ks vs S) f = .ex ρ c ks vs S := rfl
@[simp] theorem srRes_bad {α : Type} (ρ : Env') (f : α → Store → SR) : srRes ρ (.bad) f = .bad := rfl
def SR.seq (r : SR) (f : Env' → Store → SR) : SR :=
  match r with
  | .nx ρ S => f ρ S
  | r => r
@[simp] theorem seq_nx (ρ : Env') (S : Store) (f : Env' → Store → SR) : (SR.nx ρ S).seq f = f ρ S := rfl
@[simp] theorem seq_rt (d : D) (S : Store) (f : Env' → Store → SR) : (SR.rt d S).seq f = .rt d S := rfl
@[simp] theorem seq_bk (ρ : Env') (S : Store) (f : Env' → Store → SR) : (SR.bk ρ S).seq f = .bk ρ S := rfl
@[simp] theorem seq_ct (ρ : Env') (S : Store) (f : Env' → Store → SR) : (SR.ct ρ S).seq f = .ct ρ S := rfl
@[simp] theorem seq_ex (ρ : Env') (c : Nat) (ks : List Str) (vs : List D) (S : Store) (f : Env' → Store → SR) : (SR.ex ρ c ks vs S).seq f = .ex ρ c ks vs S := rfl
@[simp] theorem seq_bad (f : Env' → Store → SR) : (SR.bad).seq f = .bad := rfl

def sExpr (a : ME) : MS := fun ρ S => srRes ρ (a ρ S) fun _ S1 => .nx ρ S1
def sRet (a : ME) : MS := fun ρ S => srRes ρ (a ρ S) fun d S1 => .rt d S1
def sRetN : MS := fun _ S => .rt .non S
def sPass : MS := fun ρ S => .nx ρ S
def sBreak : MS := fun ρ S => .bk ρ S
def sCont : MS := fun ρ S => .ct ρ S
def sIf (c : MB) (t e : MS) : MS := fun ρ S => srRes ρ (c ρ S) fun b S1 => if b = true then t ρ S1 else e ρ S1
def sSeq (a b : MS) : MS := fun ρ S => (a ρ S).seq b
/-- a place's value told to change no more (nothing is done) -/
def frzAt (i : Nat) (ρ : Env') (S : Store) : SR :=
  match ρ[i]?.join with
  | some d => srRes ρ (frzD d S) fun d' S' => .nx (ρ.set i (some d')) S'
  | none => .bad
def sFrzB (i : Nat) (a : MS) : MS := fun ρ S => (frzAt i ρ S).seq a
def sFrzA (i : Nat) (a : MS) : MS := fun ρ S => (a ρ S).seq (frzAt i)
/-- targets -/
abbrev MG := D → Env' → Store → Option (Env' × Store)
abbrev MGs := List D → Env' → Store → Option (Env' × Store)
def gNm (i : Nat) : MG := fun d ρ S => some (ρ.set i (some d), S)
def gsNil : MGs := fun ds ρ S => match ds with | [] => some (ρ, S) | _ => none
def gsCons (g : MG) (gs : MGs) : MGs := fun ds ρ S => match ds with | d :: r => (g d ρ S).bind fun p => gs r p.1 p.2 | [] => none
def itemsD (S : Store) : D → Option (List D)
  | .tup l => some l
  | .lst l => some l
  | .kst l => some l
  | .loc n =>
    match S[n]? with
    | some (.lst l) => some l
    | _ => none
  | _ => none
def gMany (n : Nat) (gs : MGs) : MG := fun d ρ S =>
  match itemsD S d with
  | some l => if l.length = n then gs l ρ S else none
  | none => none
def srGo (o : Option (Env' × Store)) : SR :=
  match o with
  | some p => .nx p.1 p.2
  | none => .bad
@[simp] theorem srGo_some (p : Env' × Store) : srGo (some p) = .nx p.1 p.2 := rfl
@[simp] theorem srGo_none : srGo none = .bad := rfl
def sAsg (a : ME) (g : MG) : MS := fun ρ S => srRes ρ (a ρ S) fun d S1 => srGo (g d ρ S1)
def sPar (i j : Nat) (l : ML) : MS := fun ρ S => srRes ρ (l ρ S) fun ds S1 => match ds with | [d, e] => .nx ((ρ.set i (some d)).set j (some e)) S1 | _ => .bad

def PostS (G : Gm) (W : WX) (F : Hp) (μ : List Addr) (Ds : Ends) : SR → Prop
  | .nx ρ S => ∀ F' μ' σ' H', Ext F μ F' μ' → Rel G F' μ' S H' → EnvR G F' μ' ρ σ' → Ds.nx σ' H'
  | .rt d S => ∀ F' μ' v H', Ext F μ F' μ' → Rel G F' μ' S H' → Rep G F' μ' d v → Ds.rt v H'
  | .bk ρ S => ∀ F' μ' σ' H', Ext F μ F' μ' → Rel G F' μ' S H' → EnvR G F' μ' ρ σ' → Ds.bk σ' H'
  | .ct ρ S => ∀ F' μ' σ' H', Ext F μ F' μ' → Rel G F' μ' S H' → EnvR G F' μ' ρ σ' → Ds.ct σ' H'
  | .ex ρ c ks vs S => ∀ F' μ' σ' dx xs H', Ext F μ F' μ' → Rel G F' μ' S H' → EnvR G F' μ' ρ σ' → XdR F' dx ks xs → ks.length = vs.length → Reps G F' μ' vs xs → W (.ref (G.cls c)) dx σ' H'
  | .bad => False
section
variable {G : Gm} {X : Cx} {W : WX} {k : Nat} {F F1 : Hp} {μ μ1 : List Addr} {Ds : Ends}
theorem PostS.mono {r : SR} (h : PostS G W F μ Ds r) (x : Ext F μ F1 μ1) : PostS G W F1 μ1 Ds r := by
  cases r with
  | nx ρ S => exact fun F' μ' v H' e a b => h F' μ' v H' (x.trans e) a b
  | rt d S => exact fun F' μ' v H' e a b => h F' μ' v H' (x.trans e) a b
  | bk ρ S => exact fun F' μ' v H' e a b => h F' μ' v H' (x.trans e) a b
  | ct ρ S => exact fun F' μ' v H' e a b => h F' μ' v H' (x.trans e) a b
  | ex ρ c ks vs S => exact fun F' μ' σ' dx xs H' e a b => h F' μ' σ' dx xs H' (x.trans e) a b
  | bad => exact h
/-- an expression ahead -/
theorem PostS.res {α β : Type} {R : RR α β} {ρ : Env'} {σ : L2.St} {r : Res α} {f : α → Store → SR} {Q : β → Hp → Prop} (h : PostS G W F μ Ds (srRes ρ r f)) (he : EnvR G F μ ρ σ)
    (kk : ∀ d S F' μ' v H', Ext F μ F' μ' → Rel G F' μ' S H' → R F' μ' d v → PostS G W F' μ' Ds (f d S) → Q v H') : Post G W R F μ σ Q r := by
  cases r with
  | ok d S => exact fun F' μ' v H' e a b => kk d S F' μ' v H' e a b (PostS.mono (show PostS G W F μ Ds (f d S) from h) e)
  | ex c ks vs S => exact fun F' μ' dx xs H' e a b l r => h F' μ' σ dx xs H' e a (he.mono e) b l r
  | bad => exact h.elim
/-- a statement ahead -/
theorem PostS.seq {r : SR} {f : Env' → Store → SR} {N : L2.St → Hp → Prop} (h : PostS G W F μ Ds (r.seq f))
    (kk : ∀ ρ S F' μ' σ' H', Ext F μ F' μ' → Rel G F' μ' S H' → EnvR G F' μ' ρ σ' → PostS G W F' μ' Ds (f ρ S) → N σ' H') : PostS G W F μ { Ds with nx := N } r := by
  cases r with
  | nx ρ S => exact fun F' μ' v H' e a b => kk ρ S F' μ' v H' e a b (PostS.mono (show PostS G W F μ Ds (f ρ S) from h) e)
  | rt d S => exact h
  | bk ρ S => exact h
  | ct ρ S => exact h
  | ex ρ c ks vs S => exact h
  | bad => exact h

def ImpS (G : Gm) (W : WX) (t : TS) (m : MS) : Prop :=
  ∀ ρ S σ H F μ Ds, EnvR G F μ ρ σ → Rel G F μ S H → PostS G W F μ Ds (m ρ S) → t Ds σ H
structure SS (G : Gm) (X : Cx) (W : WX) (st : Stmt) (m : MS) : Prop where
  ex : ∃ t, PS X st t ∧ ImpS G W t m
structure SSs (G : Gm) (X : Cx) (W : WX) (st : List Stmt) (m : MS) : Prop where
  ex : ∃ t, PSs X st t ∧ ImpS G W t m
structure SG (G : Gm) (X : Cx) (tg : Expr) (m : MG) : Prop where
  ex : ∃ t, PG X tg t ∧ ∀ d v ρ S σ H F μ Q ρ' S', EnvR G F μ ρ σ → Rel G F μ S H → Rep G F μ d v → m d ρ S = some (ρ', S') →
    (∀ F' μ' σ' H', Ext F μ F' μ' → Rel G F' μ' S' H' → EnvR G F' μ' ρ' σ' → Q σ' H') → t v σ H Q
structure SGs (G : Gm) (X : Cx) (tg : List Expr) (m : MGs) : Prop where
  ex : ∃ t, PGs X tg t ∧ ∀ ds vs ρ S σ H F μ Q ρ' S', EnvR G F μ ρ σ → Rel G F μ S H → Reps G F μ ds vs → m ds ρ S = some (ρ', S') →
    (∀ F' μ' σ' H', Ext F μ F' μ' → Rel G F' μ' S' H' → EnvR G F' μ' ρ' σ' → Q σ' H') → t vs σ H Q

theorem ss_nil : SSs G X W [] sPass := ⟨_, pss_nil, fun ρ S σ H F μ Ds he hr hp => hp F μ σ H (Ext.refl _ _) hr he⟩
theorem ss_one {st : Stmt} {m : MS} (h : SS G X W st m) : SSs G X W [st] m := by
  obtain ⟨t, p, i⟩ := h
  exact ⟨t, pss_one p, i⟩
theorem ss_cons {st : Stmt} {rest : List Stmt} {m n : MS} (h : SS G X W st m) (h2 : SSs G X W rest n) : SSs G X W (st :: rest) (sSeq m n) := by
  obtain ⟨t, p, i⟩ := h
  obtain ⟨u, q, j⟩ := h2
  refine ⟨_, pss_cons p q, fun ρ S σ H F μ Ds he hr hp => ?_⟩
  exact i ρ S σ H F μ _ he hr (PostS.seq hp fun ρ1 S1 F1 μ1 σ1 H1 x1 r1 e1 q1 => j ρ1 S1 σ1 H1 F1 μ1 Ds e1 r1 q1)
theorem ss_pass {pos : Pos} : SS G X W (.Pass pos) sPass := ⟨_, ps_pass, fun ρ S σ H F μ Ds he hr hp => hp F μ σ H (Ext.refl _ _) hr he⟩
theorem ss_break {pos : Pos} : SS G X W (.Break pos) sBreak := ⟨_, ps_break, fun ρ S σ H F μ Ds he hr hp => hp F μ σ H (Ext.refl _ _) hr he⟩
theorem ss_cont {pos : Pos} : SS G X W (.Continue pos) sCont := ⟨_, ps_continue, fun ρ S σ H F μ Ds he hr hp => hp F μ σ H (Ext.refl _ _) hr he⟩
theorem ss_expr {e : Expr} {pos : Pos} {m : ME} (h : SE G X W e m) (hs : swapsWith e none pos.line X.env = pure false := by rfl) : SS G X W (.Expr e pos) (sExpr m) := by
  obtain ⟨t, p, i⟩ := h
  refine ⟨_, ps_expr p hs, fun ρ S σ H F μ Ds he hr hp => ?_⟩
  exact i ρ S σ H F μ _ he hr (PostS.res hp he fun d S1 F1 μ1 v H1 x1 r1 p1 q1 => q1 F1 μ1 σ H1 (Ext.refl _ _) r1 (he.mono x1))
theorem ss_ret {e : Expr} {pos : Pos} {m : ME} (h : SE G X W e m) : SS G X W (.Return (some e) pos) (sRet m) := by
  obtain ⟨t, p, i⟩ := h
  refine ⟨_, ps_ret p, fun ρ S σ H F μ Ds he hr hp => ?_⟩
  exact i ρ S σ H F μ _ he hr (PostS.res hp he fun d S1 F1 μ1 v H1 x1 r1 p1 q1 => q1 F1 μ1 v H1 (Ext.refl _ _) r1 p1)
theorem ss_retN {pos : Pos} : SS G X W (.Return none pos) sRetN := ⟨_, ps_retN, fun ρ S σ H F μ Ds he hr hp => hp F μ .non H (Ext.refl _ _) hr .non⟩
theorem ss_if {c : Expr} {a b : List Stmt} {pos : Pos} {mc : MB} {ma mb : MS} (hc : ST G X W c mc) (ha : SSs G X W a ma) (hb : SSs G X W b mb) : SS G X W (.If c a b pos) (sIf mc ma mb) := by
  obtain ⟨tc, pc, ic⟩ := hc
  obtain ⟨ta, pa, ia⟩ := ha
  obtain ⟨tb, pb, ib⟩ := hb
  refine ⟨_, ps_if pc pa pb, fun ρ S σ H F μ Ds he hr hp => ?_⟩
  refine ic ρ S σ H F μ _ he hr (PostS.res hp he fun c S1 F1 μ1 c' H1 x1 r1 p1 q1 => ?_)
  cases (show c = c' from p1)
  cases c with
  | true => exact iteT (ia ρ S1 σ H1 F1 μ1 Ds (he.mono x1) r1 q1)
  | false => exact iteF (ib ρ S1 σ H1 F1 μ1 Ds (he.mono x1) r1 q1)
theorem frz_ok {W : WX} {d : D} {v : V} {S : Store} {H : Hp} {ρ : Env'} {f : D → Store → SR} (r : Rel G F μ S H) (p : Rep G F μ d v) (h : PostS G W F μ Ds (srRes ρ (frzD d S) f)) :
    ∃ d' S' F', Ext F μ F' μ ∧ Rel G F' μ S' H ∧ Rep G F' μ d' v ∧ PostS G W F' μ Ds (f d' S') := by
  cases p with
  | @loc n a hm =>
    simp only [frzD] at h
    split at h
    · rename_i l hs
      obtain ⟨xs, hf, ho, hr'⟩ := r.lstAt hm hs
      obtain ⟨xx, rr⟩ := r.freeze hm hf ho
      exact ⟨_, _, _, xx, rr, .lst upd_same (hr'.mono xx), h.mono xx⟩
    · rename_i ks vs hs
      obtain ⟨xs, hf, ho, hl, hr'⟩ := r.dctAt hm hs
      obtain ⟨xx, rr⟩ := r.freeze hm hf ho
      exact ⟨_, _, _, xx, rr, .dct upd_same hl (hr'.mono xx), h.mono xx⟩
    · rename_i c ks vs hs
      obtain ⟨dx, xs, hf, ho, hl, hr'⟩ := r.insAt hm hs
      obtain ⟨xx, rr⟩ := r.freeze hm hf ho
      exact ⟨_, _, _, xx, rr, .ins upd_same hl (hr'.mono xx), h.mono xx⟩
    · exact h.elim
  | non => exact ⟨_, _, _, Ext.refl _ _, r, .non, h⟩
  | bl b => exact ⟨_, _, _, Ext.refl _ _, r, .bl b, h⟩
  | int b => exact ⟨_, _, _, Ext.refl _ _, r, .int b, h⟩
  | str b => exact ⟨_, _, _, Ext.refl _ _, r, .str b, h⟩
  | ty b => exact ⟨_, _, _, Ext.refl _ _, r, .ty b, h⟩
  | cls b => exact ⟨_, _, _, Ext.refl _ _, r, .cls b, h⟩
  | tup a b => exact ⟨_, _, _, Ext.refl _ _, r, .tup a b, h⟩
  | lst a b => exact ⟨_, _, _, Ext.refl _ _, r, .lst a b, h⟩
  | kst a b => exact ⟨_, _, _, Ext.refl _ _, r, .kst a b, h⟩
  | dct a b c => exact ⟨_, _, _, Ext.refl _ _, r, .dct a b c, h⟩
  | ins a b c => exact ⟨_, _, _, Ext.refl _ _, r, .ins a b c, h⟩
  | exn a b c e => exact ⟨_, _, _, Ext.refl _ _, r, .exn a b c e, h⟩
theorem join_some {α : Type} {o : Option (Option α)} {a : α} (h : o.join = some a) : o = some (some a) := by
  cases o with
  | none => cases h
  | some o => cases o with
    | none => cases h
    | some b => cases h; rfl
theorem frzAt_ok {W : WX} {i : Nat} {ρ : Env'} {S : Store} {σ : L2.St} {H : Hp} {f : Env' → Store → SR} (he : EnvR G F μ ρ σ) (r : Rel G F μ S H) (h : PostS G W F μ Ds ((frzAt i ρ S).seq f)) :
    ∃ ρ' S' F', Ext F μ F' μ ∧ Rel G F' μ S' H ∧ EnvR G F' μ ρ' σ ∧ PostS G W F' μ Ds (f ρ' S') := by
  unfold frzAt at h
  split at h
  · rename_i d e
    have e' := join_some e
    obtain ⟨v, hv, p⟩ := he.get i d e'
    have h' : PostS G W F μ Ds (srRes ρ (frzD d S) fun d' S' => f (ρ.set i (some d')) S') := by
      cases q : frzD d S with
      | ok a S' => rw [q] at h; exact h
      | ex c ks vs S' => rw [q] at h; exact h
      | bad => rw [q] at h; exact h
    obtain ⟨d', S', F', x, rr, pp, hh⟩ := frz_ok r p h'
    exact ⟨_, _, _, x, rr, (he.mono x).tell i hv pp, hh⟩
  · exact h.elim
theorem ss_frzB {st : Stmt} {m : MS} (i : Nat) (h : SS G X W st m) : SS G X W st (sFrzB i m) := by
  obtain ⟨t, p, im⟩ := h
  refine ⟨t, p, fun ρ S σ H F μ Ds he hr hp => ?_⟩
  obtain ⟨ρ', S', F', x, rr, ee, hh⟩ := frzAt_ok he hr hp
  exact im ρ' S' σ H F' μ Ds ee rr hh
theorem ss_frzA {st : Stmt} {m : MS} (i : Nat) (h : SS G X W st m) : SS G X W st (sFrzA i m) := by
  obtain ⟨t, p, im⟩ := h
  refine ⟨t, p, fun ρ S σ H F μ Ds he hr hp => ?_⟩
  refine im ρ S σ H F μ Ds he hr ?_
  have q := PostS.seq hp (N := Ds.nx) fun ρ1 S1 F1 μ1 σ1 H1 x1 r1 e1 q1 => by
    have q1' : PostS G W F1 μ1 Ds ((frzAt i ρ1 S1).seq fun ρ S => .nx ρ S) := by
      cases hq : frzAt i ρ1 S1 <;> (rw [hq] at q1; exact q1)
    obtain ⟨ρ', S', F', x, rr, ee, hh⟩ := frzAt_ok e1 r1 q1'
    exact hh F' μ1 σ1 H1 (Ext.refl _ _) rr ee
  exact q

/-! ### targets, assignments -/
theorem sg_name {i : Nat} {x : Str} {pos : Pos} (hN : X.N.Nodup) (hi : X.N[i]? = some x := by rfl) (hx : Loc X.env.scope x := by first | exact Or.inl rfl | exact Or.inr rfl) (hf : X.fn x = true ∨ X.env.scope.names.lookup x = some .local := by first | exact .inl rfl | exact .inr rfl) : SG G X (.Name x pos) (gNm i) :=
  ⟨_, pg_name hN hi hx hf, fun d v ρ S σ H F μ Q ρ' S' he hr p e hq => by
    cases e
    exact hq F μ _ H (Ext.refl _ _) hr (he.set i p)⟩
theorem sgs_nil : SGs G X [] gsNil := by
  refine ⟨_, pgs_nil, fun ds vs ρ S σ H F μ Q ρ' S' he hr p e hq => ?_⟩
  cases p with
  | nil =>
    cases e
    exact ⟨rfl, hq F μ σ H (Ext.refl _ _) hr he⟩
  | cons a b => cases e
theorem sgs_cons {e : Expr} {es : List Expr} {g : MG} {gs : MGs} (h1 : SG G X e g) (h2 : SGs G X es gs) (hs : (assignEach (e :: es) X.env).map (·.2) = assign e X.env :: (assignEach es X.env).map (·.2) := by rfl) : SGs G X (e :: es) (gsCons g gs) := by
  obtain ⟨t, p, i⟩ := h1
  obtain ⟨u, q, j⟩ := h2
  refine ⟨_, pgs_cons p q hs, fun ds vs ρ S σ H F μ Q ρ' S' he hr r e hq => ?_⟩
  cases r with
  | nil => cases e
  | @cons d v ds vs r1 r2 =>
    simp only [gsCons] at e
    cases hg : g d ρ S with
    | none => rw [hg] at e; cases e
    | some w =>
      rw [hg] at e
      refine ⟨v, vs, rfl, i d v ρ S σ H F μ _ w.1 w.2 he hr r1 hg fun F1 μ1 σ1 H1 x1 rr e1 => ?_⟩
      exact j ds vs w.1 w.2 σ1 H1 F1 μ1 Q ρ' S' e1 rr (r2.mono x1) e fun F2 μ2 σ2 H2 x2 r2 e2 => hq F2 μ2 σ2 H2 (x1.trans x2) r2 e2
theorem PG.or {tg : Expr} {t u : TG} (h : PG X tg t) (h2 : PG X tg u) : PG X tg (fun v σ H Q => t v σ H Q ∨ u v σ H Q) := by
  refine ⟨fun pins s σ H v w Q I r hw => ?_⟩
  rcases hw with hw | hw
  · exact h.run pins s σ H v w Q I r hw
  · exact h2.run pins s σ H v w Q I r hw
/-- what may be read as a row of items -/
theorem items_ok {d : D} {v : V} {S : Store} {H : Hp} {l : List D} (hr : Rel G F μ S H) (r : Rep G F μ d v) (h : itemsD S d = some l) :
    ∃ a xs, v = .ref a ∧ Reps G F μ l xs ∧ ((SqT G.K H a xs) ∨ (SqL G.K H a xs)) := by
  cases r with
  | tup hs hr' =>
    cases h
    exact ⟨_, _, rfl, hr', .inl (same_sqT hr.sub hs)⟩
  | lst hs hr' =>
    cases h
    exact ⟨_, _, rfl, hr', .inr (SqL.of (hr.sub _ _ hs))⟩
  | kst hs hr' =>
    cases h
    exact ⟨_, _, rfl, hr', .inr (same_sqL hr.sub hs)⟩
  | @loc m a hm =>
    simp only [itemsD] at h
    split at h
    · rename_i l' hs
      cases h
      obtain ⟨xs, hf, ho, hr'⟩ := hr.lstAt hm hs
      exact ⟨_, _, rfl, hr', .inr (SqL.of ho)⟩
    · cases h
  | _ => cases h
theorem sg_many {es : List Expr} {cx : Nat} {pos : Pos} {gs : MGs} {n : Nat} (hK : X.K = G.K) (hc : X.calm = true) (h : SGs G X es gs) (hn : (assignEach es X.env).length = n := by rfl) (hst : (assignEach es X.env).findIdx? (·.1) = none := by rfl) : SG G X (.Tuple es cx pos) (gMany n gs) := by
  obtain ⟨t, p, i⟩ := h
  refine ⟨_, PG.or (pg_tup hc p hn hst) (pg_lst hc p hn hst), fun d v ρ S σ H F μ Q ρ' S' he hr r e hq => ?_⟩
  unfold gMany at e
  split at e
  · rename_i l hl
    by_cases hlen : l.length = n
    · rw [if_pos hlen] at e
      obtain ⟨a, xs, rfl, rs, hs⟩ := items_ok hr r hl
      have hx : xs.length = n := by rw [← rs.length]; exact hlen
      rcases hs with hs | hs
      · exact .inl ⟨a, xs, rfl, by rw [hK]; exact hs, hx, i _ _ ρ S σ H F μ Q ρ' S' he hr rs e hq⟩
      · exact .inr ⟨a, xs, rfl, by rw [hK]; exact hs, hx, i _ _ ρ S σ H F μ Q ρ' S' he hr rs e hq⟩
    · rw [if_neg hlen] at e
      cases e
  · cases e
theorem srGo_ok {o : Option (Env' × Store)} (h : PostS G W F μ Ds (srGo o)) : ∃ ρ S, o = some (ρ, S) ∧ PostS G W F μ Ds (.nx ρ S) := by
  cases o with
  | none => exact h.elim
  | some p => exact ⟨p.1, p.2, rfl, h⟩
theorem ss_asg {tg e : Expr} {pos : Pos} {m : ME} {g : MG} (h : SE G X W e m) (hg : SG G X tg g) (hs : swapsWithSole [tg] e pos.line X.env = pure false := by rfl) (hw : swappedStores [tg] e X.env = pure none := by rfl)
    (h1 : (assignEach [tg] X.env).map (·.2) = [assign tg X.env] := by rfl) : SS G X W (.Assign [tg] e pos) (sAsg m g) := by
  obtain ⟨t, p, i⟩ := h
  obtain ⟨u, q, j⟩ := hg
  refine ⟨_, ps_asg p q hs hw h1, fun ρ S σ H F μ Ds he hr hp => ?_⟩
  refine i ρ S σ H F μ _ he hr (PostS.res hp he fun d S1 F1 μ1 v H1 x1 r1 p1 q1 => ?_)
  obtain ⟨ρ2, S2, e2, q2⟩ := srGo_ok q1
  exact j d v ρ S1 σ H1 F1 μ1 Ds.nx ρ2 S2 (he.mono x1) r1 p1 e2 q2
theorem ss_set {i : Nat} {x : Str} {e : Expr} {m : ME} {pos pos' : Pos} (hN : X.N.Nodup) (h : SE G X W e m) (hi : X.N[i]? = some x := by rfl) (hx : Loc X.env.scope x := by first | exact Or.inl rfl | exact Or.inr rfl) (hs : swapsWith e (some (.Name x pos')) pos.line X.env = pure false := by rfl) (hf : X.fn x = true ∨ X.env.scope.names.lookup x = some .local := by first | exact .inl rfl | exact .inr rfl) :
    SS G X W (.Assign [.Name x pos'] e pos) (sAsg m (gNm i)) := by
  obtain ⟨t, p, im⟩ := h
  refine ⟨_, ps_set hN hi hx p hs hf, fun ρ S σ H F μ Ds he hr hp => ?_⟩
  refine im ρ S σ H F μ _ he hr (PostS.res hp he fun d S1 F1 μ1 v H1 x1 r1 p1 q1 => ?_)
  exact q1 F1 μ1 _ H1 (Ext.refl _ _) r1 ((he.mono x1).set i p1)
theorem ss_par {i j : Nat} {x y : Str} {a b : Expr} {m : ML} {px py pt pos : Pos} {kt k2 : Nat} {pt2 : Pos} (hc : X.calm = true) (hN : X.N.Nodup) (hij : i ≠ j) (ha : SA G X W [a, b] m) (hi : X.N[i]? = some x := by rfl) (hj : X.N[j]? = some y := by rfl)
    (hx : X.env.scope.names.lookup x = some .local := by rfl) (hy : X.env.scope.names.lookup y = some .local := by rfl)
    (hw : swappedStores [.Tuple [.Name x px, .Name y py] kt pt] (.Tuple [a, b] k2 pt2) X.env = pure (some [x, y]) := by rfl)
    (hs : swapsWithSole [.Tuple [.Name x px, .Name y py] kt pt] (.Tuple [a, b] k2 pt2) pos.line X.env = pure false := by rfl) :
    SS G X W (.Assign [.Tuple [.Name x px, .Name y py] kt pt] (.Tuple [a, b] k2 pt2) pos) (sPar i j m) := by
  obtain ⟨t, p, im⟩ := ha
  refine ⟨_, ps_par hc hN hi hj hij hx hy p hw hs, fun ρ S σ H F μ Ds he hr hp => ?_⟩
  refine im ρ S σ H F μ _ he hr (PostS.res hp he fun ds S1 F1 μ1 vs H1 x1 r1 p1 q1 => ?_)
  cases p1 with
  | nil => exact q1.elim
  | cons a1 b1 =>
    cases b1 with
    | nil => exact q1.elim
    | cons a2 b2 =>
      cases b2 with
      | nil => exact ⟨_, _, rfl, q1 F1 μ1 _ H1 (Ext.refl _ _) r1 (((he.mono x1).set i a1).set j a2)⟩
      | cons _ _ => exact q1.elim
end

/-! ## loops -/
def SR.turn (r : SR) (f : Env' → Store → SR) : SR :=
  match r with
  | .nx ρ S => f ρ S
  | .ct ρ S => f ρ S
  | .bk ρ S => .nx ρ S
  | r => r
@[simp] theorem turn_nx (ρ : Env') (S : Store) (f : Env' → Store → SR) : (SR.nx ρ S).turn f = f ρ S := rfl
@[simp] theorem turn_rt (d : D) (S : Store) (f : Env' → Store → SR) : (SR.rt d S).turn f = .rt d S := rfl
@[simp] theorem turn_bk (ρ : Env') (S : Store) (f : Env' → Store → SR) : (SR.bk ρ S).turn f = .nx ρ S := rfl
@[simp] theorem turn_ct (ρ : Env') (S : Store) (f : Env' → Store → SR) : (SR.ct ρ S).turn f = f ρ S := rfl
@[simp] theorem turn_ex (ρ : Env') (c : Nat) (ks : List Str) (vs : List D) (S : Store) (f : Env' → Store → SR) : (SR.ex ρ c ks vs S).turn f = .ex ρ c ks vs S := rfl
@[simp] theorem turn_bad (f : Env' → Store → SR) : (SR.bad).turn f = .bad := rfl
def forL (g : MG) (b : MS) : List D → Env' → Store → SR
  | [], ρ, S => .nx ρ S
  | d :: ds, ρ, S => (srGo (g d ρ S)).seq fun ρ1 S1 => (b ρ1 S1).turn fun ρ2 S2 => forL g b ds ρ2 S2
def sFor (l : ML) (g : MG) (b : MS) : MS := fun ρ S => srRes ρ (l ρ S) fun ds S1 => forL g b ds ρ S1
def whileN (c : MB) (b : MS) : Nat → Env' → Store → SR
  | 0, _, _ => .bad
  | n + 1, ρ, S => srRes ρ (c ρ S) fun k S1 => if k = true then (b ρ S1).turn fun ρ2 S2 => whileN c b n ρ2 S2 else .nx ρ S1
open Classical in
noncomputable def sWhile (c : MB) (b : MS) : MS := fun ρ S =>
  if h : ∃ n, whileN c b n ρ S ≠ .bad then whileN c b (Classical.choose h) ρ S else .bad
section
variable {G : Gm} {X : Cx} {W : WX} {k : Nat} {F F1 : Hp} {μ μ1 : List Addr} {Ds : Ends}
theorem PostS.turn {r : SR} {f : Env' → Store → SR} {N : L2.St → Hp → Prop} (h : PostS G W F μ Ds (r.turn f))
    (kk : ∀ ρ S F' μ' σ' H', Ext F μ F' μ' → Rel G F' μ' S H' → EnvR G F' μ' ρ σ' → PostS G W F' μ' Ds (f ρ S) → N σ' H') : PostS G W F μ { Ds with nx := N, ct := N, bk := Ds.nx } r := by
  cases r with
  | nx ρ S => exact fun F' μ' v H' e a b => kk ρ S F' μ' v H' e a b (PostS.mono (show PostS G W F μ Ds (f ρ S) from h) e)
  | ct ρ S => exact fun F' μ' v H' e a b => kk ρ S F' μ' v H' e a b (PostS.mono (show PostS G W F μ Ds (f ρ S) from h) e)
  | rt d S => exact h
  | bk ρ S => exact h
  | ex ρ c ks vs S => exact h
  | bad => exact h
/-- the items come, in whatever world that goes on -/
structure Yields (G : Gm) (F : Hp) (μ : List Addr) (ds : List D) (J : It) : Prop where
  go : ∀ (i : Nat) (F1 : Hp) (μ1 : List Addr) (S : Store) (H : Hp), Ext F μ F1 μ1 → Rel G F1 μ1 S H → i < ds.length → J.go i H
  stop : ∀ (i : Nat) (F1 : Hp) (μ1 : List Addr) (S : Store) (H : Hp), Ext F μ F1 μ1 → Rel G F1 μ1 S H → ds.length ≤ i → J.stop i H
  yld : ∀ (i : Nat) (F1 : Hp) (μ1 : List Addr) (S : Store) (H : Hp) (x : V) (H' : Hp) (d : D), Ext F μ F1 μ1 → Rel G F1 μ1 S H → ds[i]? = some d → J.yld i H x H' →
    ∃ F2 μ2, Ext F1 μ1 F2 μ2 ∧ Rel G F2 μ2 S H' ∧ Rep G F2 μ2 d x
def ImpI (G : Gm) (W : WX) (t : TI) (m : ML) : Prop := ImpE G W (Yields G) (fun σ H (R : It → Hp → Prop) => t σ H R) m
structure SI (G : Gm) (X : Cx) (W : WX) (tg it : Expr) (m : ML) : Prop where
  ex : ∃ t, PI X tg it t ∧ ImpI G W t m
theorem ss_for {tg it : Expr} {body : List Stmt} {pos : Pos} {l : ML} {g : MG} {b : MS} (hp : PassesOwn (model X.prog X.w) X.A X.env X.xe) (hc : X.calm = true) (hi : SI G X W tg it l) (hg : SG G X tg g) (hb : SSs G X W body b)
    (hs : ∀ x, foldedSetIterable it X.env x = pure x := by intro _; rfl) : SS G X W (.For tg it body [] pos) (sFor l g b) := by
  obtain ⟨ti, pi, ii⟩ := hi
  obtain ⟨t, pg, ig⟩ := hg
  obtain ⟨tb, pb, ib⟩ := hb
  refine ⟨_, ps_for hp hc pi pg pb hs, fun ρ S σ H F μ Ds he hr hpo => ?_⟩
  refine ii ρ S σ H F μ _ he hr (PostS.res hpo he fun ds S1 F1 μ1 J H1 x1 r1 y1 q1 => ?_)
  refine ⟨fun i m σ H => m = ds.length - i ∧ i ≤ ds.length ∧ ∃ F' μ' ρ S, Ext F1 μ1 F' μ' ∧ Rel G F' μ' S H ∧ EnvR G F' μ' ρ σ ∧ PostS G W F' μ' Ds (forL g b (ds.drop i) ρ S), ⟨ds.length, by simp, Nat.zero_le _, F1, μ1, ρ, S1, Ext.refl _ _, r1, he.mono x1, q1⟩, ?_⟩
  rintro i m σ2 H2 ⟨rfl, hi, F2, μ2, ρ2, S2, x2, r2, e2, q2⟩
  by_cases hlt : i < ds.length
  · refine .inr ⟨y1.go i F2 μ2 S2 H2 x2 r2 hlt, fun σ' H' => ∃ F' μ' ρ S, Ext F1 μ1 F' μ' ∧ Rel G F' μ' S H' ∧ EnvR G F' μ' ρ σ' ∧ PostS G W F' μ' Ds (forL g b (ds.drop (i + 1)) ρ S), fun σ' H' h => ⟨ds.length - (i + 1), by omega, rfl, hlt, h⟩, fun x H' hy => ?_⟩
    have hd : ds[i]? = some ds[i] := List.getElem?_eq_getElem hlt
    obtain ⟨F3, μ3, x3, r3, p3⟩ := y1.yld i F2 μ2 S2 H2 x H' _ x2 r2 hd hy
    have hdrop : ds.drop i = ds[i] :: ds.drop (i + 1) := (List.drop_eq_getElem_cons hlt)
    rw [hdrop] at q2
    simp only [forL] at q2
    cases hgd : g ds[i] ρ2 S2 with
    | none => rw [hgd] at q2; exact q2.elim
    | some w =>
      rw [hgd] at q2
      refine ig _ x ρ2 S2 σ2 H' F3 μ3 _ w.1 w.2 (e2.mono x3) r3 p3 hgd fun F4 μ4 σ4 H4 x4 r4 e4 => ?_
      refine ib w.1 w.2 σ4 H4 F4 μ4 _ e4 r4 ?_
      have xx := x2.trans (x3.trans x4)
      exact PostS.turn (PostS.mono q2 (x3.trans x4)) fun ρ5 S5 F5 μ5 σ5 H5 x5 r5 e5 q5 => ⟨F5, μ5, ρ5, S5, xx.trans x5, r5, e5, q5⟩
  · refine .inl ⟨y1.stop i F2 μ2 S2 H2 x2 r2 (by omega), ?_⟩
    rw [List.drop_eq_nil_of_le (by omega)] at q2
    exact q2 F2 μ2 σ2 H2 (Ext.refl _ _) r2 e2
theorem ss_while {c : Expr} {body : List Stmt} {pos : Pos} {mc : MB} {b : MS} (hp : PassesOwn (model X.prog X.w) X.A X.env X.xe) (hc : ST G X W c mc) (hb : SSs G X W body b) : SS G X W (.While c body [] pos) (sWhile mc b) := by
  obtain ⟨tc, pc, ic⟩ := hc
  obtain ⟨tb, pb, ib⟩ := hb
  refine ⟨_, ps_while hp pc pb, fun ρ S σ H F μ Ds he hr hpo => ?_⟩
  unfold sWhile at hpo
  split at hpo
  · rename_i hn
    obtain ⟨n, hn⟩ : ∃ n, n = Classical.choose hn := ⟨_, rfl⟩
    rw [← hn] at hpo
    refine ⟨fun m σ H => ∃ F' μ' ρ S, Rel G F' μ' S H ∧ EnvR G F' μ' ρ σ ∧ PostS G W F' μ' Ds (whileN mc b m ρ S), ⟨n, F, μ, ρ, S, hr, he, hpo⟩, ?_⟩
    rintro m σ1 H1 ⟨F1, μ1, ρ1, S1, r1, e1, q1⟩
    cases m with
    | zero => exact q1.elim
    | succ m =>
      refine ic ρ1 S1 σ1 H1 F1 μ1 _ e1 r1 (PostS.res (show PostS G W F1 μ1 Ds (srRes ρ1 (mc ρ1 S1) _) from q1) e1 fun c S2 F2 μ2 c' H2 x2 r2 p2 q2 => ?_)
      cases (show c = c' from p2)
      cases c with
      | false => exact iteF (q2 F2 μ2 σ1 H2 (Ext.refl _ _) r2 (e1.mono x2))
      | true =>
        refine iteT ⟨fun σ' H' => ∃ F' μ' ρ S, Rel G F' μ' S H' ∧ EnvR G F' μ' ρ σ' ∧ PostS G W F' μ' Ds (whileN mc b m ρ S), fun σ' H' h => ⟨m, Nat.lt_succ_self m, h⟩, ?_⟩
        rw [if_pos rfl] at q2
        refine ib ρ1 S2 σ1 H2 F2 μ2 _ (e1.mono x2) r2 ?_
        exact PostS.turn q2 fun ρ5 S5 F5 μ5 σ5 H5 x5 r5 e5 q5 => ⟨F5, μ5, ρ5, S5, r5, e5, q5⟩
  · exact hpo.elim
/-- a loop that comes to its end has this value -/
theorem whileN_mono (c : MB) (b : MS) : ∀ (n m : Nat) (ρ : Env') (S : Store), whileN c b n ρ S ≠ .bad → n ≤ m → whileN c b m ρ S = whileN c b n ρ S
  | 0, _, _, _, h, _ => absurd rfl h
  | n + 1, 0, _, _, _, hm => absurd hm (by omega)
  | n + 1, m + 1, ρ, S, h, hm => by
    simp only [whileN] at h ⊢
    cases hc : c ρ S with
    | bad => rfl
    | ex _ _ _ _ => rfl
    | ok kk S1 =>
      rw [hc] at h
      simp only [srRes_ok] at h ⊢
      by_cases hk : kk = true
      · rw [if_pos hk] at h ⊢
        rw [if_pos hk]
        cases hb : b ρ S1 with
        | nx ρ2 S2 =>
          rw [hb] at h
          exact whileN_mono c b n m ρ2 S2 h (by omega)
        | ct ρ2 S2 =>
          rw [hb] at h
          exact whileN_mono c b n m ρ2 S2 h (by omega)
        | _ => rfl
      · rw [if_neg hk, if_neg hk]
theorem sWhile_eq {c : MB} {b : MS} {ρ : Env'} {S : Store} {n : Nat} {r : SR} (h : whileN c b n ρ S = r) (hr : r ≠ .bad) : sWhile c b ρ S = r := by
  have hn : ∃ n, whileN c b n ρ S ≠ .bad := ⟨n, by rw [h]; exact hr⟩
  unfold sWhile
  rw [dif_pos hn]
  have hz := Classical.choose_spec hn
  obtain ⟨z, ez⟩ : ∃ z, z = Classical.choose hn := ⟨_, rfl⟩
  rw [← ez] at hz ⊢
  rcases Nat.le_total z n with q | q
  · rw [← whileN_mono c b z n ρ S hz q, h]
  · rw [whileN_mono c b n z ρ S (by rw [h]; exact hr) q, h]
end
end Z

set_option Elab.async false
set_option linter.all false
set_option maxRecDepth 100000
set_option maxHeartbeats 2000000
set_option autoImplicit false
namespace Z
open PySem PySem.Spec L2

/-! ## defs and their calls -/
abbrev MF := List D → Store → Res D
def wE (E : XK) : WX := fun c d _ H => E c d H
def spM (G : Gm) (n : Nat) (mf : MF) : Sp := fun vs H Q E => vs.length = n ∧ ∃ F μ S ds, Rel G F μ S H ∧ Reps G F μ ds vs ∧ Post G (wE E) (Rep G) F μ [] Q (mf ds S)
/-- the def at f does what mf says -/
structure GFn (G : Gm) (P : Program) (w : World) (base : Heap) (k : Nat) (f : Addr) (fd : FuncData) (ps : List Str) (mf : MF) : Prop where
  run : ∀ (A : Around) (outer : List Env) (s : Shared) (H : Hp) (args : Args) (us : List Value) (vs : List V) (Q : VK) (E : XK), Room k A → A.guards = some [] → Env0 P w G.K G.mg base A outer s H →
    BindsTo s fd args (ps.zip us) → Vals vs us → spM G ps.length mf vs H Q E → codeAny (model P w) A (.call (.ref f) args) (CR (L2.CX P w) outer P w H s Q E) s
theorem GFn.mono {G : Gm} {P : Program} {w : World} {base : Heap} {j k : Nat} {f : Addr} {fd : FuncData} {ps : List Str} {mf : MF} (h : GFn G P w base j f fd ps mf) (hjk : j ≤ k) : GFn G P w base k f fd ps mf :=
  ⟨fun A outer s H args us vs Q E hr => h.run A outer s H args us vs Q E (hr.mono hjk)⟩
def runDef (n m : Nat) (b : MS) : MF := fun args S =>
  if args.length = n then
    match b (args.map some ++ List.replicate (m - n) none) S with
    | .nx _ S' => .ok .non S'
    | .rt d S' => .ok d S'
    | .ex _ c ks vs S' => .ex c ks vs S'
    | _ => .bad
  else .bad
/-- a def of the text as it stands behind the top (with or without defaults) -/
structure FunG (K : PySem.W.Frag) (x qual : Str) (st : Stmt) (f : Addr) (fd : FuncData) : Prop where
  ex : ∃ (oc : Value) (od : Option Addr) (dV kV doc pm : Value) (an : Option Addr) (cdv ct : Value) (osl : Array (Option Value)),
    fd = PySem.W.fnOf x qual (defArgs st) (defBody st) (defScope st) dV kV doc pm an cdv ct ∧ K.lookup f = some ⟨oc, od, .func fd, osl⟩ ∧ PySem.W.codeIn K cdv qual = true
  kp : PySem.W.keepIn K (.ref f) = true
theorem funG_mk {K : PySem.W.Frag} {x qual : Str} {st : Stmt} {f : Addr} {oc : Value} {od an : Option Addr} {osl : Array (Option Value)} {dV kV doc pm cdv ct : Value}
    (l : K.lookup f = some ⟨oc, od, .func (PySem.W.fnOf x qual (defArgs st) (defBody st) (defScope st) dV kV doc pm an cdv ct), osl⟩) (c : PySem.W.codeIn K cdv qual = true) (k : PySem.W.keepIn K (.ref f) = true) :
    FunG K x qual st f (PySem.W.fnOf x qual (defArgs st) (defBody st) (defScope st) dV kV doc pm an cdv ct) := ⟨⟨oc, od, dV, kV, doc, pm, an, cdv, ct, osl, rfl, l, c⟩, k⟩
section
variable {G : Gm} {P : Program} {w : World} {base : Heap}
theorem env_start {F : Hp} {μ : List Addr} {N : List Str} {ds : List D} {vs : List V} {n : Nat} (r : Reps G F μ ds vs) (hn : ds.length = n) : EnvR G F μ (ds.map some ++ List.replicate (N.length - n) none) (L2.start N vs) := by
  have hl := r.length
  refine ⟨by unfold L2.start; simp [hl]; omega, fun i d h => ?_⟩
  unfold L2.start
  by_cases hi : i < ds.length
  · rw [List.getElem?_append_left (by simpa using hi), List.getElem?_map] at h
    cases e : ds[i]? with
    | none => rw [e] at h; cases h
    | some d' =>
      rw [e] at h
      cases h
      obtain ⟨v, h1, h2⟩ := r.get e
      exact ⟨v, by rw [List.getElem?_append_left (by rw [List.length_map, ← hl]; exact hi), List.getElem?_map, h1]; rfl, h2⟩
  · rw [List.getElem?_append_right (by simp; omega)] at h
    obtain ⟨_, e⟩ := List.getElem?_eq_some_iff.mp h
    simp at e
theorem GFn.of_body {x qual : Str} {st : Stmt} {f : Addr} {fd : FuncData} {N ps : List Str} {k : Nat} {b : MS} (FF : FunG G.K x qual st f fd) (S : FnScope N ps (defScope st))
    (hbody : ∀ (cdv : Value) (A : Around) (outer : List Env) (s : Shared) (H : Hp) (E : XK), Ok G (cxOf (L2.CX P w) P w G.K G.mg base N qual (defScope st) f cdv A outer s H E) k (wE E) →
      SSs G (cxOf (L2.CX P w) P w G.K G.mg base N qual (defScope st) f cdv A outer s H E) (wE E) (defBody st) b) : GFn G P w base (k + 1) f fd ps (runDef ps.length N.length b) := by
  obtain ⟨oc, od, dV, kV, doc, pm, an, cdv, ct, osl, rfl, lk, hcd⟩ := FF.ex
  refine ⟨fun A outer s H args us vs Q E hr hgd e0 hb r hsp => ?_⟩
  obtain ⟨hl, F, μ, S0, ds, hrel, hreps, hpost⟩ := hsp
  have KX : G.K.In s.heap := e0.mod.kin.keeps (fun b o e =>
    (e0.bs b o e).1)
  have lim : s.heap.NoLimit := e0.mod.nolimit.keeps (fun b o e =>
    (e0.bs b o e).1)
  have hkind : ∀ y ∈ ps.zip us, (defScope st).names.lookup y.1 = some .local ∨
      ((defScope st).names.lookup y.1 = some .cell ∧ ((cellsFrom (s.heap.objs.size + 1) (defScope st).names []).lookup y.1).isSome = true) := by
    intro y hy
    have hm := (List.of_mem_zip (show (y.1, y.2) ∈ ps.zip us from hy)).1
    rcases S.par y.1 hm with q | q
    · exact .inl q
    · exact .inr ⟨q, PySem.W.cellsFrom_some _ _ _ (.inl q)⟩
  refine codeAny_call_function hr.depth (KX _ _ lk) rfl S.co S.gen rfl (PySem.W.codeRec_of KX hcd) (hb _ _ _ _ ?_)
  refine wpAny_newFunctionEnv_cells S.kind hkind (fun env he s1 x1 => ?_)
  subst he
  refine ⟨lim.keeps x1.toInCall.keep, codeAny_func ?_⟩
  have hk : Ok G (cxOf (L2.CX P w) P w G.K G.mg base N qual (defScope st) f cdv A outer s H E) k (wE E) :=
    ⟨rfl, rfl, rfl, S.nd, hr.deeper _, hgd, takes_of rfl rfl rfl rfl, passes_of rfl⟩
  obtain ⟨t, ht, hi⟩ := hbody cdv A outer s H E hk
  have I : Inv (cxOf (L2.CX P w) P w G.K G.mg base N qual (defScope st) f cdv A outer s H E) [] (L2.start N vs) H s1 :=
    inv_start S hr.hd e0 hl r x1
  have hds : ds.length = ps.length := by rw [hreps.length, hl]
  have hq : t { nx := fun _ H' => Q .non H', rt := Q } (L2.start N vs) H := by
    refine hi _ S0 _ H F μ _ (env_start (N := N) hreps hds) hrel ?_
    unfold runDef at hpost
    rw [if_pos hds] at hpost
    revert hpost
    cases b (ds.map some ++ List.replicate (N.length - ps.length) none) S0 with
    | nx ρ S' => exact fun h F' μ' σ' H' x r e => h F' μ' .non H' x r .non
    | rt d S' => exact fun h => h
    | ex ρ c ks vs S' => exact fun h F' μ' σ' dx xs H' x r e a l q => h F' μ' dx xs H' x r a l q
    | _ => exact fun h => h.elim
  refine wpAny_mono (ht.run [] s1 (L2.start N vs) H _ I hq) (fun fl s' hs => ?_) (fun e s' hs => hs)
  have fin : ∀ {σ' : L2.St} {H' : Hp} {v : V} {u : Value}, Inv (cxOf (L2.CX P w) P w G.K G.mg base N qual (defScope st) f cdv A outer s H E) [] σ' H' s' → RelV v u → Q v H' → CE outer P w H s Q u s' :=
    fun {σ' H' v u} J rv q =>
      ⟨v, H', J.os, J.bare, J.base, J.hok, rv, q⟩
  cases fl with
  | ret u =>
    obtain ⟨v, σ', H', J, rv, q⟩ := hs
    exact fin J rv q
  | next =>
    obtain ⟨σ', H', J, q⟩ := hs
    exact fin (v := V.non) (u := Value.none) J rfl q
  | brk => exact hs.elim fun _ h => h.elim fun _ h => h.2.elim
  | cont => exact hs.elim fun _ h => h.elim fun _ h => h.2.elim
end

section
variable {G : Gm} {X : Cx} {W : WX} {k j : Nat}
/-- the callee runs, from an expression -/
theorem run_G {f : Addr} {fd : FuncData} {ps : List Str} {mf : MF} {pins : List (Addr × Obj)} {σ : L2.St} {H : Hp} {s : Shared} {Q : VK} {args : Args} {us : List Value} {vs : List V}
    (ok : Ok G X k W) (g : GFn G X.prog X.w X.base j f fd ps mf) (hj : j ≤ k) (I : Inv X pins σ H s) (hb : BindsTo s fd args (ps.zip us)) (r : Vals vs us) (h : spM G ps.length mf vs H Q (WE W σ)) :
    codeAny (model X.prog X.w) X.A (.call (.ref f) args) (fun r s' => match r with | .ok (.ret u) => EP X pins σ Q u s' | .ok _ => False | .error e => X.xe e s') s := by
  have e0 : Env0 X.prog X.w G.K G.mg X.base X.A X.stack s H := by
    have e := I.env0
    rw [ok.K, ok.mg] at e
    exact e
  refine codeAny_mono (g.run X.A X.stack s H args us vs Q (WE W σ) (ok.room.mono hj) ok.gd e0 hb r h) fun r s' hq => ?_
  cases r with
  | error e => exact passAt ok.tk σ pins H s e s' I hq
  | ok fl => cases fl with
    | ret u => exact I.after hq
    | _ => exact hq.elim
/-- how positional arguments are bound -/
def BdP (K : PySem.W.Frag) (fd : FuncData) (ps : List Str) : Prop := ∀ (s : Shared) (us : List Value), K.In s.heap → us.length = ps.length → BindsTo s fd ⟨us, []⟩ (ps.zip us)
theorem bdP_mk {K : PySem.W.Frag} {fd : FuncData} {ps : List Str} (h : ∀ us : List Value, us.length = ps.length → bindArgs fd ⟨us, []⟩ = pure (ps.zip us)) : BdP K fd ps := fun s us _ hl => .of_eq (h us hl)
def tSp (sp : Sp) (E : L2.St → XK) (t : TA) : TE := fun σ H Q => t σ H fun vs H1 => sp vs H1 Q (E σ)
theorem imp_call {n : Nat} {mf : MF} {t : TA} {m : ML} (hl : ∀ ds S, mf ds S ≠ .bad → ds.length = n) (h : ImpE G W (Reps G) t m) : ImpE G W (Rep G) (tSp (spM G n mf) (WE W) t) (mCall mf m) := by
  intro ρ S σ H F μ Q he hr hp
  refine h ρ S σ H F μ _ he hr (Post.bind hp fun ds S1 F1 μ1 vs H1 x1 r1 p1 q1 => ?_)
  refine ⟨?_, F1, μ1, S1, ds, r1, p1, ?_⟩
  · rw [← p1.length]
    refine hl ds S1 fun z => ?_
    rw [z] at q1
    exact q1.elim
  · cases hm : mf ds S1 with
    | ok d S2 => rw [hm] at q1; exact q1
    | ex c ks vs S2 => rw [hm] at q1; exact q1
    | bad => rw [hm] at q1; exact q1
theorem runDef_len {n m : Nat} {b : MS} {ds : List D} {S : Store} (h : runDef n m b ds S ≠ .bad) : ds.length = n := by
  unfold runDef at h
  split at h
  · assumption
  · exact absurd rfl h
theorem se_call {f : Addr} {fd : FuncData} {ps : List Str} {mf : MF} {x : Str} {p pos : Pos} {e : Expr} {es : List Expr} {m : ML} (ok : Ok G X k W) (g : GFn G X.prog X.w X.base j f fd ps mf) (hj : j ≤ k) (hl : ∀ ds S, mf ds S ≠ .bad → ds.length = ps.length)
    (hm : G.mg x = some (.ref f)) (hk : PySem.W.keepIn G.K (.ref f) = true) (hb : BdP G.K fd ps) (ha : SA G X W (e :: es) m) (hg : Gl X x := by rfl)
    (hdb : (x == ("__debug__" : Str)) = false := by decide) (he : starEach (e :: es) X.env = (false, eval e X.env) :: starEach es X.env := by rfl) (hpl : (backTo pos (starEach es X.env)).any (·.1) = false := by rfl) :
    SE G X W (.Call (.Name x p) (e :: es) [] pos) (mCall mf m) := by
  obtain ⟨t, pa, i⟩ := ha
  refine ⟨_, ?_, imp_call hl i⟩
  refine ⟨fun pins s σ H Q I h => wpAny_Call_Name_kw (ld_glob I hg (by rw [ok.mg]; exact hm) ?_ hdb)⟩
  refine PySem.W.callWith_K (h₀ := X.base) I.ok.mod.kin (by rw [ok.K]; exact hk) (thn (pa.run pos pins s σ H _ I h) fun us s1 hv => ?_) he hpl
  obtain ⟨vs, H1, I1, r, q⟩ := hv
  refine ⟨I1.kIn, wpAny_call (codeAny_mono (run_G ok g hj I1 (hb s1 us (by have z := I1.kIn; rw [ok.K] at z; exact z) (by rw [← r.length]; exact q.1)) r q) fun r' s' hq => ?_)⟩
  cases r' with
  | error e => exact hq
  | ok fl => cases fl with
    | ret u => exact hq
    | _ => exact hq.elim
theorem se_call0 {f : Addr} {fd : FuncData} {ps : List Str} {mf : MF} {x : Str} {p pos : Pos} (ok : Ok G X k W) (g : GFn G X.prog X.w X.base j f fd ps mf) (hj : j ≤ k) (hl : ∀ ds S, mf ds S ≠ .bad → ds.length = ps.length)
    (hm : G.mg x = some (.ref f)) (hk : PySem.W.keepIn G.K (.ref f) = true) (hb : BdP G.K fd ps) (hg : Gl X x := by rfl)
    (hdb : (x == ("__debug__" : Str)) = false := by decide) : SE G X W (.Call (.Name x p) [] [] pos) (mCall mf mNilL) := by
  obtain ⟨t, pa, i⟩ := (sa_nil : SA G X W [] mNilL)
  refine ⟨_, ?_, imp_call (t := tNil) hl (fun ρ S σ H F μ Q he hr hp => hp F μ [] H (Ext.refl _ _) hr .nil)⟩
  refine ⟨fun pins s σ H Q I h => wpAny_Call_Name_kw (ld_glob I hg (by rw [ok.mg]; exact hm) ?_ hdb)⟩
  refine PySem.W.callWith_K0 I.kIn (by rw [ok.K]; exact hk) ?_
  refine wpAny_call (codeAny_mono (run_G (us := []) (vs := []) ok g hj I (hb s [] (by have z := I.kIn; rw [ok.K] at z; exact z) h.1) .nil h) fun r' s' hq => ?_)
  cases r' with
  | error e => exact hq
  | ok fl => cases fl with
    | ret u => exact hq
    | _ => exact hq.elim

/-! ### calls with keywords -/
inductive Src where
  | ps (j : Nat)
  | kw (j : Nat)
  | df (j : Nat)
def fill {α : Type} (us ws ds : List α) : List Src → Option (List α)
  | [] => some []
  | .ps j :: r => (us[j]?).bind fun a => (fill us ws ds r).map (a :: ·)
  | .kw j :: r => (ws[j]?).bind fun a => (fill us ws ds r).map (a :: ·)
  | .df j :: r => (ds[j]?).bind fun a => (fill us ws ds r).map (a :: ·)
/-- how positional and keywords' arguments are bound, defaults filling up -/
def BdK (K : PySem.W.Frag) (fd : FuncData) (ps : List Str) (n : Nat) (ks : List Str) (src : List Src) (dv : List Value) : Prop :=
  ∀ (s : Shared) (us ws r : List Value), K.In s.heap → us.length = n → ws.length = ks.length → fill us ws dv src = some r → BindsTo s fd ⟨us, ks.zip ws⟩ (ps.zip r)
theorem fill_rep {F : Hp} {μ : List Addr} {d1 d2 d3 : List D} {v1 v2 v3 : List V} (a : Reps G F μ d1 v1) (b : Reps G F μ d2 v2) (c : Reps G F μ d3 v3) : ∀ {src : List Src} {r : List D}, fill d1 d2 d3 src = some r → ∃ r', fill v1 v2 v3 src = some r' ∧ Reps G F μ r r'
  | [], _, h => by
    cases h
    exact ⟨[], rfl, .nil⟩
  | .ps j :: src, r, h => by
    simp only [fill] at h ⊢
    cases e : d1[j]? with
    | none => rw [e] at h; cases h
    | some d =>
      cases e2 : fill d1 d2 d3 src with
      | none => rw [e, e2] at h; cases h
      | some r2 =>
        rw [e, e2] at h
        cases h
        obtain ⟨v, h1, h2⟩ := a.get e
        obtain ⟨r', h3, h4⟩ := fill_rep a b c e2
        exact ⟨v :: r', by rw [h1, h3]; rfl, .cons h2 h4⟩
  | .kw j :: src, r, h => by
    simp only [fill] at h ⊢
    cases e : d2[j]? with
    | none => rw [e] at h; cases h
    | some d =>
      cases e2 : fill d1 d2 d3 src with
      | none => rw [e, e2] at h; cases h
      | some r2 =>
        rw [e, e2] at h
        cases h
        obtain ⟨v, h1, h2⟩ := b.get e
        obtain ⟨r', h3, h4⟩ := fill_rep a b c e2
        exact ⟨v :: r', by rw [h1, h3]; rfl, .cons h2 h4⟩
  | .df j :: src, r, h => by
    simp only [fill] at h ⊢
    cases e : d3[j]? with
    | none => rw [e] at h; cases h
    | some d =>
      cases e2 : fill d1 d2 d3 src with
      | none => rw [e, e2] at h; cases h
      | some r2 =>
        rw [e, e2] at h
        cases h
        obtain ⟨v, h1, h2⟩ := c.get e
        obtain ⟨r', h3, h4⟩ := fill_rep a b c e2
        exact ⟨v :: r', by rw [h1, h3]; rfl, .cons h2 h4⟩
theorem fill_val {v1 v2 v3 : List V} {u1 u2 u3 : List Value} (a : Vals v1 u1) (b : Vals v2 u2) (c : Vals v3 u3) : ∀ {src : List Src} {r : List V}, fill v1 v2 v3 src = some r → ∃ r', fill u1 u2 u3 src = some r' ∧ Vals r r'
  | [], _, h => by
    cases h
    exact ⟨[], rfl, .nil⟩
  | .ps j :: src, r, h => by
    simp only [fill] at h ⊢
    cases e : v1[j]? with
    | none => rw [e] at h; cases h
    | some d =>
      cases e2 : fill v1 v2 v3 src with
      | none => rw [e, e2] at h; cases h
      | some r2 =>
        rw [e, e2] at h
        cases h
        obtain ⟨v, h1, h2⟩ := a.get e
        obtain ⟨r', h3, h4⟩ := fill_val a b c e2
        exact ⟨v :: r', by rw [h1, h3]; rfl, .cons h2 h4⟩
  | .kw j :: src, r, h => by
    simp only [fill] at h ⊢
    cases e : v2[j]? with
    | none => rw [e] at h; cases h
    | some d =>
      cases e2 : fill v1 v2 v3 src with
      | none => rw [e, e2] at h; cases h
      | some r2 =>
        rw [e, e2] at h
        cases h
        obtain ⟨v, h1, h2⟩ := b.get e
        obtain ⟨r', h3, h4⟩ := fill_val a b c e2
        exact ⟨v :: r', by rw [h1, h3]; rfl, .cons h2 h4⟩
  | .df j :: src, r, h => by
    simp only [fill] at h ⊢
    cases e : v3[j]? with
    | none => rw [e] at h; cases h
    | some d =>
      cases e2 : fill v1 v2 v3 src with
      | none => rw [e, e2] at h; cases h
      | some r2 =>
        rw [e, e2] at h
        cases h
        obtain ⟨v, h1, h2⟩ := c.get e
        obtain ⟨r', h3, h4⟩ := fill_val a b c e2
        exact ⟨v :: r', by rw [h1, h3]; rfl, .cons h2 h4⟩
/-- the keywords' values -/
structure SK (G : Gm) (X : Cx) (W : WX) (kws : List Keyword) (m : ML) : Prop where
  ex : ∃ t, PK X kws t ∧ ImpE G W (Reps G) t m
theorem sk_nil : SK G X W [] mNilL := ⟨_, pk_nil, fun ρ S σ H F μ Q he hr hp => hp F μ [] H (Ext.refl _ _) hr .nil⟩
theorem sk_cons {nm : Option Str} {e : Expr} {kpos : Pos} {kws : List Keyword} {m : ME} {n : ML} (ha : SE G X W e m) (hb : SK G X W kws n) : SK G X W (⟨nm, e, kpos⟩ :: kws) (mConsL m n) := by
  obtain ⟨ta, pa, ia⟩ := ha
  obtain ⟨tb, pb, ib⟩ := hb
  refine ⟨_, pk_cons pa pb, fun ρ S σ H F μ Q he hr hp => ?_⟩
  refine ia ρ S σ H F μ _ he hr (Post.bind hp fun x S1 F1 μ1 u H1 x1 r1 p1 q1 => ?_)
  refine ib ρ S1 σ H1 F1 μ1 _ (he.mono x1) r1 (Post.bind q1 fun xs S2 F2 μ2 us H2 x2 r2 p2 q2 => ?_)
  exact q2 F2 μ2 _ H2 (Ext.refl _ _) r2 (.cons (p1.mono x2) p2)
def mCallK (mf : MF) (n m : Nat) (src : List Src) (df : List D) (a b : ML) : ME := fun ρ S => (a ρ S).bind fun us S1 => (b ρ S1).bind fun ws S2 =>
  if us.length = n ∧ ws.length = m then
    match fill us ws df src with
    | some r => mf r S2
    | none => .bad
  else .bad
/-- the defaults' values: known ahead -/
def Dfl (G : Gm) (df : List D) (dv : List Value) : Prop := ∃ vs, Vals vs dv ∧ ∀ F μ, Reps G F μ df vs
theorem dfl_nil : Dfl G [] [] := ⟨[], .nil, fun _ _ => .nil⟩
def tSpK (G : Gm) (n m pn : Nat) (src : List Src) (mf : MF) (dvs : List V) (E : L2.St → XK) (t tk : TA) : TE := fun σ H Q => t σ H fun vs H1 => tk σ H1 fun zs H2 => vs.length = n ∧ zs.length = m ∧ ∃ r, fill vs zs dvs src = some r ∧ spM G pn mf r H2 Q (E σ)
theorem se_callK {f : Addr} {fd : FuncData} {ps ks : List Str} {n : Nat} {src : List Src} {df : List D} {dv : List Value} {mf : MF} {x : Str} {p pos : Pos} {e : Expr} {es : List Expr} {kws : List Keyword} {a b : ML}
    (ok : Ok G X k W) (g : GFn G X.prog X.w X.base j f fd ps mf) (hj : j ≤ k) (hl : ∀ ds S, mf ds S ≠ .bad → ds.length = ps.length)
    (hm : G.mg x = some (.ref f)) (hk : PySem.W.keepIn G.K (.ref f) = true) (hd : Dfl G df dv) (hb : BdK G.K fd ps n ks src dv) (ha : SA G X W (e :: es) a) (hkw : SK G X W kws b) (hg : Gl X x := by rfl)
    (hall : (backToKw pos (keywordEach kws X.env)).all (·.1.isSome) = true := by rfl) (hks : (backToKw pos (keywordEach kws X.env)).filterMap (·.1) = ks := by rfl)
    (hdb : (x == ("__debug__" : Str)) = false := by decide) (he : starEach (e :: es) X.env = (false, eval e X.env) :: starEach es X.env := by rfl)
    (hpl : ((backTo pos (starEach (e :: es) X.env)).any (·.1) || (backToKw pos (keywordEach kws X.env)).any (·.1.isNone)) = false := by rfl) :
    SE G X W (.Call (.Name x p) (e :: es) kws pos) (mCallK mf n ks.length src df a b) := by
  obtain ⟨t, pa, i⟩ := ha
  obtain ⟨tk, pk, ik⟩ := hkw
  obtain ⟨dvs, rd, hdf⟩ := hd
  refine ⟨tSpK G n ks.length ps.length src mf dvs (WE W) t tk, ⟨fun pins s σ H Q I h => wpAny_Call_Name_kw (ld_glob I hg (by rw [ok.mg]; exact hm) ?_ hdb)⟩, fun ρ S σ H F μ Q hen hr hp => ?_⟩
  · refine PySem.W.callWith_KW (h₀ := X.base) I.ok.mod.kin (by rw [ok.K]; exact hk) hall (thn (pa.run pos pins s σ H _ I h) fun us s1 hv => ?_) hpl he
    obtain ⟨vs, H1, I1, r, q⟩ := hv
    refine thn (pk.run pos pins s1 σ H1 _ I1 q) fun ws s2 hv2 => ?_
    obtain ⟨zs, H2, I2, rz, hn1, hn2, r', hfill, hsp⟩ := hv2
    obtain ⟨u', hfu, ru⟩ := fill_val r rz rd hfill
    refine ⟨I2.kIn, ?_⟩
    rw [hks]
    refine wpAny_call (codeAny_mono (run_G ok g hj I2 (hb s2 us ws u' (by have z := I2.kIn; rw [ok.K] at z; exact z) (by rw [← r.length]; exact hn1) (by rw [← rz.length]; exact hn2) hfu) ru hsp) fun r' s' hq => ?_)
    cases r' with
    | error e => exact hq
    | ok fl => cases fl with
      | ret u => exact hq
      | _ => exact hq.elim
  · refine i ρ S σ H F μ _ hen hr (Post.bind hp fun us S1 F1 μ1 vs H1 x1 r1 p1 q1 => ?_)
    refine ik ρ S1 σ H1 F1 μ1 _ (hen.mono x1) r1 (Post.bind q1 fun ws S2 F2 μ2 zs H2 x2 r2 p2 q2 => ?_)
    obtain ⟨⟨hn1, hn2⟩, q3⟩ := post_if q2
    cases hf : fill us ws df src with
    | none => rw [hf] at q3; exact q3.elim
    | some rr =>
      rw [hf] at q3
      have q3 : Post G W (Rep G) F2 μ2 σ Q (mf rr S2) := q3
      obtain ⟨r', hf', hr'⟩ := fill_rep (p1.mono x2) p2 (hdf F2 μ2) hf
      refine ⟨by rw [← p1.length]; exact hn1, by rw [← p2.length]; exact hn2, r', hf', ?_, F2, μ2, S2, rr, r2, hr', ?_⟩
      · rw [← hr'.length]
        refine hl rr S2 fun z => ?_
        rw [z] at q3
        exact q3.elim
      · cases hmm : mf rr S2 with
        | ok d S2 => rw [hmm] at q3; exact q3
        | ex c ks vs S2 => rw [hmm] at q3; exact q3
        | bad => rw [hmm] at q3; exact q3
theorem se_callK0 {f : Addr} {fd : FuncData} {ps ks : List Str} {src : List Src} {df : List D} {dv : List Value} {mf : MF} {x : Str} {p pos : Pos} {kws : List Keyword} {b : ML}
    (ok : Ok G X k W) (g : GFn G X.prog X.w X.base j f fd ps mf) (hj : j ≤ k) (hl : ∀ ds S, mf ds S ≠ .bad → ds.length = ps.length)
    (hm : G.mg x = some (.ref f)) (hk : PySem.W.keepIn G.K (.ref f) = true) (hd : Dfl G df dv) (hb : BdK G.K fd ps 0 ks src dv) (hkw : SK G X W kws b) (hg : Gl X x := by rfl)
    (hall : (backToKw pos (keywordEach kws X.env)).all (·.1.isSome) = true := by rfl) (hks : (backToKw pos (keywordEach kws X.env)).filterMap (·.1) = ks := by rfl)
    (hdb : (x == ("__debug__" : Str)) = false := by decide)
    (hpl : ((backTo pos (starEach [] X.env)).any (·.1) || (backToKw pos (keywordEach kws X.env)).any (·.1.isNone)) = false := by rfl) :
    SE G X W (.Call (.Name x p) [] kws pos) (mCallK mf 0 ks.length src df mNilL b) := by
  obtain ⟨tk, pk, ik⟩ := hkw
  obtain ⟨dvs, rd, hdf⟩ := hd
  refine ⟨tSpK G 0 ks.length ps.length src mf dvs (WE W) tNil tk, ⟨fun pins s σ H Q I h => wpAny_Call_Name_kw (ld_glob I hg (by rw [ok.mg]; exact hm) ?_ hdb)⟩, fun ρ S σ H F μ Q hen hr hp => ?_⟩
  · refine PySem.W.callWith_KW0 (h₀ := X.base) I.ok.mod.kin (by rw [ok.K]; exact hk) hall (thn (pk.run pos pins s σ H _ I h) fun ws s2 hv2 => ?_) hpl
    obtain ⟨zs, H2, I2, rz, hn1, hn2, r', hfill, hsp⟩ := hv2
    obtain ⟨u', hfu, ru⟩ := fill_val (u1 := []) .nil rz rd hfill
    refine ⟨I2.kIn, ?_⟩
    rw [hks]
    refine wpAny_call (codeAny_mono (run_G ok g hj I2 (hb s2 [] ws u' (by have z := I2.kIn; rw [ok.K] at z; exact z) rfl (by rw [← rz.length]; exact hn2) hfu) ru hsp) fun r' s' hq => ?_)
    cases r' with
    | error e => exact hq
    | ok fl => cases fl with
      | ret u => exact hq
      | _ => exact hq.elim
  · show tk σ H _
    refine ik ρ S σ H F μ _ hen hr (Post.bind (show Post G W (Rep G) F μ σ Q ((b ρ S).bind _) from hp) fun ws S2 F2 μ2 zs H2 x2 r2 p2 q2 => ?_)
    obtain ⟨⟨hn1, hn2⟩, q3⟩ := post_if q2
    cases hf : fill [] ws df src with
    | none => rw [hf] at q3; exact q3.elim
    | some rr =>
      rw [hf] at q3
      have q3 : Post G W (Rep G) F2 μ2 σ Q (mf rr S2) := q3
      obtain ⟨r', hf', hr'⟩ := fill_rep (v1 := []) .nil p2 (hdf F2 μ2) hf
      refine ⟨rfl, by rw [← p2.length]; exact hn2, r', hf', ?_, F2, μ2, S2, rr, r2, hr', ?_⟩
      · rw [← hr'.length]
        refine hl rr S2 fun z => ?_
        rw [z] at q3
        exact q3.elim
      · cases hmm : mf rr S2 with
        | ok d S2 => rw [hmm] at q3; exact q3
        | ex c ks vs S2 => rw [hmm] at q3; exact q3
        | bad => rw [hmm] at q3; exact q3
end
end Z

set_option Elab.async false
set_option linter.all false
set_option maxRecDepth 100000
set_option maxHeartbeats 2000000
set_option autoImplicit false
namespace Z
open PySem PySem.Spec L2

/-! ## operations by value -/
def b2n (b : Bool) : Int := if b = true then 1 else 0
def lstD (S : Store) : D → Option (List D)
  | .lst l => some l
  | .loc n =>
    match S[n]? with
    | some (.lst l) => some l
    | _ => none
  | _ => none
def addD (x y : D) (S : Store) : Res D :=
  match x, y with
  | .int i, .int j => .ok (.int (i + j)) S
  | .int i, .bl b => .ok (.int (i + b2n b)) S
  | .str a, .str b => if a.length + b.length ≤ sizeLine then .ok (.str (a ++ b)) S else .bad
  | .tup a, .tup b => if a.length + b.length ≤ sizeLine then .ok (.tup (a ++ b)) S else .bad
  | x, y =>
    match lstD S x, lstD S y with
    | some a, some b => if a.length + b.length ≤ sizeLine then .ok (.lst (a ++ b)) S else .bad
    | _, _ => .bad
def subD (x y : D) (S : Store) : Res D :=
  match x, y with
  | .int i, .int j => .ok (.int (i - j)) S
  | _, _ => .bad
def MulOk (i j : Int) : Prop := i.natAbs.log2 + j.natAbs.log2 < 1000000 ∨ ((-(2 ^ 64) < i ∧ i < 2 ^ 64) ∨ (-(2 ^ 64) < j ∧ j < 2 ^ 64))
instance (i j : Int) : Decidable (MulOk i j) := by unfold MulOk; infer_instance
def mulD (x y : D) (S : Store) : Res D :=
  match x, y with
  | .int i, .int j => if MulOk i j then .ok (.int (i * j)) S else .bad
  | _, _ => .bad
def fdivD (x y : D) (S : Store) : Res D :=
  match x, y with
  | .int i, .int j => if 0 < j ∧ j.natAbs.log2 < 9000 then .ok (.int (i / j)) S else .bad
  | _, _ => .bad
def modD (x y : D) (S : Store) : Res D :=
  match x, y with
  | .int i, .int j => if 0 < j then .ok (.int (i % j)) S else .bad
  | _, _ => .bad
def powD (x y : D) (S : Store) : Res D :=
  match x, y with
  | .int i, .int j => if 0 ≤ j ∧ j ≤ 1000000 ∧ i.natAbs < 2 ^ 64 then .ok (.int (i ^ j.toNat)) S else .bad
  | _, _ => .bad
def negD (x : D) (S : Store) : Res D :=
  match x with
  | .int i => .ok (.int (-i)) S
  | _ => .bad
def ltD (x y : D) (S : Store) : Res D :=
  match x, y with
  | .int i, .int j => .ok (.bl (decide (i < j))) S
  | .str i, .str j => .ok (.bl (decide (i.cps.toList < j.cps.toList))) S
  | _, _ => .bad
def leD (x y : D) (S : Store) : Res D :=
  match x, y with
  | .int i, .int j => .ok (.bl (decide (i ≤ j))) S
  | _, _ => .bad
def gtD (x y : D) (S : Store) : Res D :=
  match x, y with
  | .int i, .int j => .ok (.bl (decide (j < i))) S
  | _, _ => .bad
def geD (x y : D) (S : Store) : Res D :=
  match x, y with
  | .int i, .int j => .ok (.bl (decide (j ≤ i))) S
  | _, _ => .bad
def isNon : D → Bool
  | .non => true
  | _ => false
def isD (x y : D) (S : Store) : Res D :=
  match x, y with
  | x, .non => .ok (.bl (isNon x)) S
  | .bl a, .bl b => .ok (.bl (decide (a = b))) S
  | _, _ => .bad
def isNotD (x y : D) (S : Store) : Res D :=
  match x, y with
  | x, .non => .ok (.bl (!isNon x)) S
  | .bl a, .bl b => .ok (.bl (!decide (a = b))) S
  | _, _ => .bad
mutual
/-- plain data -/
def toP : D → Option PyData
  | .non => some .none
  | .bl b => some (.bool b)
  | .int i => some (.int i)
  | .str x => some (.str x)
  | .tup l => (toPs l).map .tuple
  | .lst l => (toPs l).map .list
  | .kst l => (toPs l).map .list
  | _ => none
def toPs : List D → Option (List PyData)
  | [] => some []
  | d :: ds =>
    match toP d, toPs ds with
    | some p, some ps => some (p :: ps)
    | _, _ => none
end
def toPS (S : Store) (d : D) : Option PyData :=
  match lstD S d with
  | some l => (toPs l).map .list
  | none => toP d
def eqScal : D → D → Option Bool
  | .int i, .int j => some (decide (i = j))
  | .str a, .str b => some (decide (a = b))
  | .bl a, .bl b => some (decide (a = b))
  | _, _ => none
def eqB (S : Store) (x y : D) : Option Bool :=
  match eqScal x y with
  | some b => some b
  | none =>
    match toPS S x, toPS S y with
    | some p, some q => if SeqAt.shaped p && SeqAt.shaped q then some (PyData.eqv p q) else none
    | _, _ => none
def eqD (x y : D) (S : Store) : Res D := (resO (eqB S x y) S).bind fun b S => .ok (.bl b) S
def neD (x y : D) (S : Store) : Res D := (resO (eqB S x y) S).bind fun b S => .ok (.bl (!b)) S
def ixD (o i : D) (S : Store) : Res D :=
  match i with
  | .int k =>
    match o with
    | .str x => if x.length ≤ sizeLine then resO ((atI x.cps.toList k).map fun c => .str ⟨#[c]⟩) S else .bad
    | o =>
      match itemsD S o with
      | some l => resO (atI l k) S
      | none => .bad
  | _ => .bad
def lenD (x : D) (S : Store) : Res D :=
  match x with
  | .str x => if x.length ≤ sizeLine then .ok (.int x.length) S else .bad
  | x =>
    match itemsD S x with
    | some l => .ok (.int l.length) S
    | none => .bad
/-- o[i] = v of a live list -/
def setD (v o i : D) (S : Store) : Option Store :=
  match o, i with
  | .loc n, .int k =>
    match S[n]? with
    | some (.lst l) => (ixN l.length k).map fun j => S.set n (.lst (l.set j v))
    | _ => none
  | _, _ => none

section
variable {G : Gm} {X : Cx} {W : WX} {k : Nat}
theorem post_ok {α β : Type} {R : RR α β} {F : Hp} {μ : List Addr} {S : Store} {H : Hp} {σ : L2.St} {Q : β → Hp → Prop} {a : α} {b : β} (r : Rel G F μ S H) (hr : R F μ a b) (h : Post G W R F μ σ Q (.ok a S)) : Q b H := h F μ b H (Ext.refl _ _) r hr
theorem lst_ok {d : D} {v : V} {F : Hp} {μ : List Addr} {S : Store} {H : Hp} {l : List D} (hr : Rel G F μ S H) (r : Rep G F μ d v) (h : lstD S d = some l) : ∃ a xs, v = .ref a ∧ Reps G F μ l xs ∧ H a = some (.lst xs) := by
  cases r with
  | lst hs hr' =>
    cases h
    exact ⟨_, _, rfl, hr', hr.sub _ _ hs⟩
  | @loc m a hm =>
    simp only [lstD] at h
    split at h
    · rename_i l' hs
      cases h
      obtain ⟨xs, hf, ho, hr'⟩ := hr.lstAt hm hs
      exact ⟨_, _, rfl, hr', ho⟩
    · cases h
  | _ => cases h
/-- either way -/
theorem OpI.or {f : D → D → Store → Res D} {r r' : R2} (h : ∀ (W : WX) (F : Hp) (μ : List Addr) (σ : L2.St) (S : Store) (H : Hp) (x y : D) (u v : V) (Q : VK), Rel G F μ S H → Rep G F μ x u → Rep G F μ y v → Post G W (Rep G) F μ σ Q (f x y S) → r u v H Q ∨ r' u v H Q) : OpI G f (fun x y H Q => r x y H Q ∨ r' x y H Q) := h
theorem rep_emp {F : Hp} {μ : List Addr} {l : List D} {xs : List V} (r : Reps G F μ l xs) : xs = [] ↔ l = [] := by cases r <;> simp
theorem oi_add (hK : X.K = G.K) : OpI G addD (fun x y H Q => (rI0 fun i j => .int (i + j)) x y H Q ∨ (∃ i k, x = .int i ∧ y = .bl k ∧ Q (.int (i + PyProof.Rows.b2i k)) H) ∨ (∃ i j, x = .str i ∧ y = .str j ∧ i.length + j.length ≤ sizeLine ∧ Q (.str (i ++ j)) H) ∨ rCatA X.K x y H Q ∨ rCat x y H Q) := by
  intro W F μ σ S H x y u v Q r rx ry h
  unfold addD at h
  split at h
  · cases rx; cases ry
    exact .inl ⟨_, _, rfl, rfl, post_ok r (.int _) h⟩
  · cases rx; cases ry
    exact .inr (.inl ⟨_, _, rfl, rfl, post_ok r (.int _) h⟩)
  · cases rx; cases ry
    obtain ⟨hl, h⟩ := post_if h
    exact .inr (.inr (.inl ⟨_, _, rfl, rfl, hl, post_ok r (.str _) h⟩))
  · rename_i a b
    cases rx with
    | tup h1 r1 =>
      cases ry with
      | tup h2 r2 =>
        obtain ⟨hl, h⟩ := post_if h
        refine .inr (.inr (.inr (.inl ⟨_, _, _, _, rfl, rfl, by rw [hK]; exact same_sqT r.sub h1, by rw [hK]; exact same_sqT r.sub h2, by rw [← r1.length, ← r2.length]; exact hl, fun e => ?_, fun e1 e2 => ?_, fun e1 e2 p hp => ?_⟩)))
        · rw [rep_emp r1] at e
          subst e
          exact post_ok r (.tup h2 r2) h
        · rw [rep_emp r2] at e2
          subst e2
          rw [List.append_nil] at h
          exact post_ok r (.tup h1 r1) h
        · obtain ⟨x, rr⟩ := r.newF (.tup _) hp
          exact h _ _ _ _ x rr (.tup (TupF.of upd_same) ((r1.app r2).mono x))
  · split at h
    · rename_i a b ha hb
      obtain ⟨hl, h⟩ := post_if h
      obtain ⟨p1, xs, rfl, r1, h1⟩ := lst_ok r rx ha
      obtain ⟨p2, ys, rfl, r2, h2⟩ := lst_ok r ry hb
      refine .inr (.inr (.inr (.inr ⟨_, _, _, _, rfl, rfl, h1, h2, by rw [← r1.length, ← r2.length]; exact hl, fun p hp => ?_⟩)))
      obtain ⟨x, rr⟩ := r.newF (.lst _) hp
      exact h _ _ _ _ x rr (.lst upd_same ((r1.app r2).mono x))
    · exact h.elim
theorem or_add : OpR X (binaryOp .Add) (fun x y H Q => (rI0 fun i j => .int (i + j)) x y H Q ∨ (∃ i k, x = .int i ∧ y = .bl k ∧ Q (.int (i + PyProof.Rows.b2i k)) H) ∨ (∃ i j, x = .str i ∧ y = .str j ∧ i.length + j.length ≤ sizeLine ∧ Q (.str (i ++ j)) H) ∨ rCatA X.K x y H Q ∨ rCat x y H Q) :=
  op_add.or (op_add_ib.or (op_add_str.or (op_catA.or op_cat)))
theorem oi_int {f : D → D → Store → Res D} {C : Int → Int → Prop} {g : Int → Int → Int} (h : ∀ x y S, f x y S ≠ .bad → ∃ i j, x = .int i ∧ y = .int j ∧ C i j ∧ f x y S = .ok (.int (g i j)) S) : OpI G f (rI C fun i j => .int (g i j)) := by
  intro W F μ σ S H x y u v Q r rx ry hp
  have hb : f x y S ≠ .bad := fun z => by rw [z] at hp; exact hp
  obtain ⟨i, j, rfl, rfl, hc, e⟩ := h x y S hb
  rw [e] at hp
  cases rx; cases ry
  exact ⟨i, j, rfl, rfl, hc, post_ok r (.int _) hp⟩
theorem oi_sub : OpI G subD (rI0 fun i j => .int (i - j)) := by
  intro W F μ σ S H x y u v Q r rx ry h
  unfold subD at h
  split at h
  · cases rx; cases ry
    exact ⟨_, _, rfl, rfl, post_ok r (.int _) h⟩
  · exact h.elim
theorem oi_mul : OpI G mulD (fun x y H Q => rI CMulW (fun i j => .int (i * j)) x y H Q ∨ rI CMul (fun i j => .int (i * j)) x y H Q) := by
  intro W F μ σ S H x y u v Q r rx ry h
  unfold mulD at h
  split at h
  · cases rx; cases ry
    obtain ⟨hc, h⟩ := post_if h
    rcases hc with hc | hc
    · exact .inl ⟨_, _, rfl, rfl, hc, post_ok r (.int _) h⟩
    · exact .inr ⟨_, _, rfl, rfl, hc, post_ok r (.int _) h⟩
  · exact h.elim
theorem or_mul : OpR X (binaryOp .Mult) (fun x y H Q => rI CMulW (fun i j => .int (i * j)) x y H Q ∨ rI CMul (fun i j => .int (i * j)) x y H Q) := op_mulW.or op_mul
theorem oi_fdiv : OpI G fdivD (rI CDivW fun i j => .int (i / j)) := oi_int fun x y S h => by
  unfold fdivD at h ⊢
  split at h
  · split at h
    · rename_i i j hc
      exact ⟨i, j, rfl, rfl, hc, by rw [if_pos hc]⟩
    · exact absurd rfl h
  · exact absurd rfl h
theorem oi_mod : OpI G modD (rI (fun _ j => 0 < j) fun i j => .int (i % j)) := oi_int fun x y S h => by
  unfold modD at h ⊢
  split at h
  · split at h
    · rename_i i j hc
      exact ⟨i, j, rfl, rfl, hc, by rw [if_pos hc]⟩
    · exact absurd rfl h
  · exact absurd rfl h
theorem oi_pow : OpI G powD (rI CPow fun i j => .int (i ^ j.toNat)) := oi_int fun x y S h => by
  unfold powD at h ⊢
  split at h
  · split at h
    · rename_i i j hc
      exact ⟨i, j, rfl, rfl, hc, by rw [if_pos hc]⟩
    · exact absurd rfl h
  · exact absurd rfl h
theorem ui_neg : UnI G negD (rU fun i => .int (-i)) := by
  intro W F μ σ S H x u Q r rx h
  unfold negD at h
  split at h
  · cases rx
    exact ⟨_, rfl, post_ok r (.int _) h⟩
  · exact h.elim
theorem oi_lt : OpI G ltD (fun x y H Q => (rI0 fun i j => .bl (decide (i < j))) x y H Q ∨ ∃ i j, x = .str i ∧ y = .str j ∧ Q (.bl (decide (i.cps.toList < j.cps.toList))) H) := by
  intro W F μ σ S H x y u v Q r rx ry h
  unfold ltD at h
  split at h
  · cases rx; cases ry
    exact .inl ⟨_, _, rfl, rfl, post_ok r (.bl _) h⟩
  · cases rx; cases ry
    exact .inr ⟨_, _, rfl, rfl, post_ok r (.bl _) h⟩
  · exact h.elim
theorem or_lt : OpR X (compareOp .Lt) (fun x y H Q => (rI0 fun i j => .bl (decide (i < j))) x y H Q ∨ ∃ i j, x = .str i ∧ y = .str j ∧ Q (.bl (decide (i.cps.toList < j.cps.toList))) H) := op_lt.or op_lt_str
theorem oi_le : OpI G leD (rI0 fun i j => .bl (decide (i ≤ j))) := by
  intro W F μ σ S H x y u v Q r rx ry h
  unfold leD at h
  split at h
  · cases rx; cases ry
    exact ⟨_, _, rfl, rfl, post_ok r (.bl _) h⟩
  · exact h.elim
theorem oi_gt : OpI G gtD (rI0 fun i j => .bl (decide (j < i))) := by
  intro W F μ σ S H x y u v Q r rx ry h
  unfold gtD at h
  split at h
  · cases rx; cases ry
    exact ⟨_, _, rfl, rfl, post_ok r (.bl _) h⟩
  · exact h.elim
theorem oi_ge : OpI G geD (rI0 fun i j => .bl (decide (j ≤ i))) := by
  intro W F μ σ S H x y u v Q r rx ry h
  unfold geD at h
  split at h
  · cases rx; cases ry
    exact ⟨_, _, rfl, rfl, post_ok r (.bl _) h⟩
  · exact h.elim
theorem non_iff {F : Hp} {μ : List Addr} {d : D} {v : V} (r : Rep G F μ d v) : decide (v = .non) = isNon d := by cases r <;> rfl
theorem oi_is : OpI G isD (fun x y H Q => (y = .non ∧ Q (.bl (decide (x = .non))) H) ∨ rIsB x y H Q) := by
  intro W F μ σ S H x y u v Q r rx ry h
  unfold isD at h
  split at h
  · cases ry
    exact .inl ⟨rfl, by rw [non_iff rx]; exact post_ok r (.bl _) h⟩
  · cases rx; cases ry
    exact .inr ⟨_, _, rfl, rfl, post_ok r (.bl _) h⟩
  · exact h.elim
theorem or_is : OpR X (compareOp .Is) (fun x y H Q => (y = .non ∧ Q (.bl (decide (x = .non))) H) ∨ rIsB x y H Q) := op_isN.or op_isBl
theorem oi_isNot : OpI G isNotD (fun x y H Q => (y = .non ∧ Q (.bl (!decide (x = .non))) H) ∨ rNotB x y H Q) := by
  intro W F μ σ S H x y u v Q r rx ry h
  unfold isNotD at h
  split at h
  · cases ry
    exact .inl ⟨rfl, by rw [non_iff rx]; exact post_ok r (.bl _) h⟩
  · cases rx; cases ry
    exact .inr ⟨_, _, rfl, rfl, post_ok r (.bl _) h⟩
  · exact h.elim
theorem or_isNot : OpR X (compareOp .IsNot) (fun x y H Q => (y = .non ∧ Q (.bl (!decide (x = .non))) H) ∨ rNotB x y H Q) := op_notN.or op_notBl

mutual
theorem dp_of {F : Hp} {μ : List Addr} {H : Hp} (hs : Same F H) : ∀ (d : D) (v : V) (p : PyData), Rep G F μ d v → toP d = some p → Dp G.K H v p
  | .non, _, _, r, h => by cases r; cases h; exact .non
  | .bl _, _, _, r, h => by cases r; cases h; exact .bl _
  | .int _, _, _, r, h => by cases r; cases h; exact .int _
  | .str _, _, _, r, h => by cases r; cases h; exact .str _
  | .tup l, _, _, r, h => by
    cases r with
    | tup h1 h2 =>
      simp only [toP] at h
      cases e : toPs l with
      | none => rw [e] at h; cases h
      | some ps => rw [e] at h; cases h; exact .tup (same_sqT hs h1) (dp_all hs l _ ps h2 e)
  | .lst l, _, _, r, h => by
    cases r with
    | lst h1 h2 =>
      simp only [toP] at h
      cases e : toPs l with
      | none => rw [e] at h; cases h
      | some ps => rw [e] at h; cases h; exact .lst (SqL.of (hs _ _ h1)) (dp_all hs l _ ps h2 e)
  | .kst l, _, _, r, h => by
    cases r with
    | kst h1 h2 =>
      simp only [toP] at h
      cases e : toPs l with
      | none => rw [e] at h; cases h
      | some ps => rw [e] at h; cases h; exact .lst (same_sqL hs h1) (dp_all hs l _ ps h2 e)
  | .ty _, _, _, _, h => by simp [toP] at h
  | .cls _, _, _, _, h => by simp [toP] at h
  | .dct _ _, _, _, _, h => by simp [toP] at h
  | .ins _ _ _, _, _, _, h => by simp [toP] at h
  | .loc _, _, _, _, h => by simp [toP] at h
  | .exn _ _ _, _, _, _, h => by simp [toP] at h
theorem dp_all {F : Hp} {μ : List Addr} {H : Hp} (hs : Same F H) : ∀ (ds : List D) (vs : List V) (ps : List PyData), Reps G F μ ds vs → toPs ds = some ps → DpAll G.K H vs ps
  | [], _, _, r, h => by cases r; cases h; exact .nil
  | d :: ds, _, _, r, h => by
    cases r with
    | cons r1 r2 =>
      simp only [toPs] at h
      cases e1 : toP d with
      | none => rw [e1] at h; cases h
      | some p =>
        cases e2 : toPs ds with
        | none => rw [e1, e2] at h; cases h
        | some ps => rw [e1, e2] at h; cases h; exact .cons (dp_of hs d _ p r1 e1) (dp_all hs ds _ ps r2 e2)
end
theorem dp_ok {F : Hp} {μ : List Addr} {S : Store} {H : Hp} {d : D} {v : V} {p : PyData} (r : Rel G F μ S H) (rd : Rep G F μ d v) (h : toPS S d = some p) : Dp G.K H v p := by
  unfold toPS at h
  split at h
  · rename_i l hl
    obtain ⟨a, xs, rfl, h1, h2⟩ := lst_ok r rd hl
    cases e : toPs l with
    | none => rw [e] at h; cases h
    | some ps => rw [e] at h; cases h; exact .lst (SqL.of h2) (dp_all r.sub l _ ps h1 e)
  · exact dp_of r.sub d v p rd h
theorem post_bindO {α : Type} {α' β' : Type} {R : RR α' β'} {F : Hp} {μ : List Addr} {σ : L2.St} {Q : β' → Hp → Prop} {o : Option α} {S : Store} {f : α → Store → Res α'} (h : Post G W R F μ σ Q ((resO o S).bind f)) : ∃ a, o = some a ∧ Post G W R F μ σ Q (f a S) := post_resO h
theorem oi_eq (hK : X.K = G.K) : OpI G eqD (fun x y H Q => rEq x y H Q ∨ rEqD X.K x y H Q) := by
  intro W F μ σ S H x y u v Q r rx ry h
  obtain ⟨b, e, h⟩ := post_bindO h
  have hq := post_ok r (.bl b) h
  unfold eqB at e
  split at e
  · rename_i b' he
    cases e
    unfold eqScal at he
    split at he
    · cases he; cases rx; cases ry
      exact .inl ⟨rfl, by rw [dec_int, Bool.beq_eq_decide_eq]; exact hq⟩
    · cases he; cases rx; cases ry
      exact .inl ⟨rfl, by rw [dec_str, Bool.beq_eq_decide_eq]; exact hq⟩
    · cases he; cases rx; cases ry
      exact .inl ⟨rfl, by rw [dec_bl, Bool.beq_eq_decide_eq]; exact hq⟩
    · cases he
  · split at e
    · rename_i p q hp' hq'
      split at e
      · rename_i hsh
        cases e
        rw [Bool.and_eq_true] at hsh
        exact .inr ⟨p, q, by rw [hK]; exact dp_ok r rx hp', by rw [hK]; exact dp_ok r ry hq', hsh.1, hsh.2, hq⟩
      · cases e
    · cases e
theorem or_eq (hr : Room k X.A) : OpR X (compareOp .Eq) (fun x y H Q => rEq x y H Q ∨ rEqD X.K x y H Q) := op_eq.or (op_eqD hr.units)
theorem oi_ne (hK : X.K = G.K) : OpI G neD (fun x y H Q => rNe x y H Q ∨ rNeD X.K x y H Q) := by
  intro W F μ σ S H x y u v Q r rx ry h
  obtain ⟨b, e, h⟩ := post_bindO h
  have hq := post_ok r (.bl (!b)) h
  unfold eqB at e
  split at e
  · rename_i b' he
    cases e
    unfold eqScal at he
    split at he
    · cases he; cases rx; cases ry
      exact .inl ⟨rfl, by rw [dec_int, Bool.beq_eq_decide_eq]; exact hq⟩
    · cases he; cases rx; cases ry
      exact .inl ⟨rfl, by rw [dec_str, Bool.beq_eq_decide_eq]; exact hq⟩
    · cases he; cases rx; cases ry
      exact .inl ⟨rfl, by rw [dec_bl, Bool.beq_eq_decide_eq]; exact hq⟩
    · cases he
  · split at e
    · rename_i p q hp' hq'
      split at e
      · rename_i hsh
        cases e
        rw [Bool.and_eq_true] at hsh
        exact .inr ⟨p, q, by rw [hK]; exact dp_ok r rx hp', by rw [hK]; exact dp_ok r ry hq', hsh.1, hsh.2, hq⟩
      · cases e
    · cases e
theorem or_ne (hr : Room k X.A) : OpR X (compareOp .NotEq) (fun x y H Q => rNe x y H Q ∨ rNeD X.K x y H Q) := op_ne.or (op_neD hr.units)

/-! ### subscripts, stores -/
theorem atI_rep {F : Hp} {μ : List Addr} {l : List D} {xs : List V} {i : Int} {d : D} (r : Reps G F μ l xs) (h : atI l i = some d) : ∃ v, atI xs i = some v ∧ Rep G F μ d v := by
  unfold atI at h ⊢
  rw [← r.length]
  cases e : ixN l.length i with
  | none => rw [e] at h; cases h
  | some j =>
    rw [e] at h
    exact r.get h
theorem oi_ix (hK : X.K = G.K) : OpI G ixD (rIx X.K) := by
  intro W F μ σ S H x y u v Q r rx ry h
  unfold ixD at h
  split at h
  · cases ry
    split at h
    · cases rx
      obtain ⟨hl, h⟩ := post_if h
      obtain ⟨d, e, h⟩ := post_resO1 h
      cases e' : atI _ _ with
      | none => rw [e'] at e; cases e
      | some c =>
        rw [e'] at e
        cases e
        exact .inr (.inr ⟨_, _, c, rfl, rfl, hl, e', post_ok r (.str _) h⟩)
    · split at h
      · rename_i l hl
        obtain ⟨d, e, h⟩ := post_resO1 h
        obtain ⟨a, xs, rfl, rs, hs⟩ := items_ok r rx hl
        obtain ⟨w, e1, rw1⟩ := atI_rep rs e
        rcases hs with hs | hs
        · exact .inr (.inl ⟨a, xs, _, w, rfl, rfl, by rw [hK]; exact hs, e1, post_ok r rw1 h⟩)
        · exact .inl ⟨a, xs, _, w, rfl, rfl, by rw [hK]; exact hs, e1, post_ok r rw1 h⟩
      · exact h.elim
  · exact h.elim
theorem se_ix {a b : Expr} {pos : Pos} {ma mb : ME} (hK : X.K = G.K) (ha : SE G X W a ma) (hb : SE G X W b mb) (hs : PlainIx b := by intro _ _; rfl) : SE G X W (.Subscript a b pos) (mBin ixD ma mb) := by
  obtain ⟨ta, pa, ia⟩ := ha
  obtain ⟨tb, pb, ib⟩ := hb
  exact ⟨_, pe_ix ix_seq pa pb hs, imp_bin ia ib (oi_ix hK)⟩
def gSet (o i : ME) : MG := fun v ρ S =>
  match o ρ S with
  | .ok od S1 =>
    match i ρ S1 with
    | .ok id S2 => (setD v od id S2).map fun S3 => (ρ, S3)
    | _ => none
  | _ => none
theorem sg_set {o i : Expr} {pos : Pos} {mo mi : ME} (ok : Ok G X k W) (ho : SE G X W o mo) (hi : SE G X W i mi) (ha : ∀ v, assign (.Subscript o i pos) X.env v = (do
      let ov ← holding [v] (eval o X.env)
      let iv ← holding [v, ov] (eval i X.env)
      standAt pos
      holding [v, ov, iv] (setItem ov iv v)
      release [v, ov, iv] []) := by intro _; rfl) : SG G X (.Subscript o i pos) (gSet mo mi) := by
  obtain ⟨ta, pa, ia⟩ := ho
  obtain ⟨tb, pb, ib⟩ := hi
  refine ⟨_, pg_sub pa pb set_list ha, fun d v ρ S σ H F μ Q ρ' S' he hr rd e hq => ?_⟩
  unfold gSet at e
  cases h1 : mo ρ S with
  | ok od S1 =>
    rw [h1] at e
    simp only at e
    cases h2 : mi ρ S1 with
    | ok id S2 =>
      rw [h2] at e
      simp only at e
      refine ia ρ S σ H F μ _ he hr ?_
      rw [h1]
      intro F1 μ1 vo H1 x1 r1 ro
      refine ib ρ S1 σ H1 F1 μ1 _ (he.mono x1) r1 ?_
      rw [h2]
      intro F2 μ2 vi H2 x2 r2 ri
      unfold setD at e
      split at e
      · rename_i n kk
        split at e
        · rename_i l hs
          have ro' := ro.mono x2
          cases ro' with
          | @loc _ a hm =>
            cases ri
            obtain ⟨xs, hf, hh, rs⟩ := r2.lstAt hm hs
            cases hj : ixN l.length kk with
            | none => rw [hj] at e; cases e
            | some j =>
              rw [hj] at e
              cases e
              refine ⟨a, xs, kk, j, rfl, rfl, hh, by rw [← rs.length]; exact hj, ?_⟩
              have rd' := rd.mono (x1.trans x2)
              have rr := r2.write (o := .lst (xs.set j v)) (e := .lst (l.set j d)) hm hf (.lst hf upd_same (rs.set rd' j))
              exact hq F2 μ2 σ _ (x1.trans x2) rr (he.mono (x1.trans x2))
        · cases e
      · cases e
    | _ => rw [h2] at e; cases e
  | _ => rw [h1] at e; cases e

/-! ### built-in functions -/
theorem imp_cb {r : List V → Hp → VK → Prop} {f : MF} {t : TA} {m : ML} (hi : CallI G f r) (h : ImpE G W (Reps G) t m) : ImpE G W (Rep G) (tCB r t) (mCall f m) := by
  intro ρ S σ H F μ Q he hr hp
  exact h ρ S σ H F μ _ he hr (Post.bind hp fun ds S1 F1 μ1 vs H1 x1 r1 p1 q1 => hi W F1 μ1 σ S1 H1 ds vs Q r1 p1 q1)
theorem se_callB {x : Str} {p pos : Pos} {id : String} {e : Expr} {es : List Expr} {r : List V → Hp → VK → Prop} {f : MF} {m : ML} (hi : CallI G f r) (hc : CallR X (.builtin id) r) (hmg : X.mg = G.mg) (hm : G.mg x = none) (hv : bootBuiltins x = some (.builtin id)) (ha : SA G X W (e :: es) m) (hg : Gl X x := by rfl)
    (hn : x ≠ "__name__" := by decide) (hdb : (x == ("__debug__" : Str)) = false := by decide) (he : starEach (e :: es) X.env = (false, eval e X.env) :: starEach es X.env := by rfl) (hpl : (backTo pos (starEach es X.env)).any (·.1) = false := by rfl) : SE G X W (.Call (.Name x p) (e :: es) [] pos) (mCall f m) := by
  obtain ⟨t, pa, i⟩ := ha
  exact ⟨_, pe_callB hc hg (by rw [hmg]; exact hm) hv pa hn hdb he hpl, imp_cb hi i⟩
theorem se_callTy {x : Str} {p pos : Pos} {T : String} {e : Expr} {es : List Expr} {r : List V → Hp → VK → Prop} {f : MF} {m : ML} (hi : CallI G f r) (hc : CallR X (.type T) r) (hmg : X.mg = G.mg) (hm : G.mg x = none) (hv : bootBuiltins x = some (.type T)) (ha : SA G X W (e :: es) m) (hg : Gl X x := by rfl)
    (hn : x ≠ "__name__" := by decide) (hdb : (x == ("__debug__" : Str)) = false := by decide) (he : starEach (e :: es) X.env = (false, eval e X.env) :: starEach es X.env := by rfl) (hpl : (backTo pos (starEach es X.env)).any (·.1) = false := by rfl) : SE G X W (.Call (.Name x p) (e :: es) [] pos) (mCall f m) := by
  obtain ⟨t, pa, i⟩ := ha
  exact ⟨_, pe_callTy hc hg (by rw [hmg]; exact hm) hv pa hn hdb he hpl, imp_cb hi i⟩
def f1 (f : D → Store → Res D) : MF := fun ds S => match ds with | [d] => f d S | _ => .bad
theorem ci_1 {f : D → Store → Res D} {r : List V → Hp → VK → Prop} (h : ∀ (W : WX) (F : Hp) (μ : List Addr) (σ : L2.St) (S : Store) (H : Hp) (d : D) (v : V) (Q : VK), Rel G F μ S H → Rep G F μ d v → Post G W (Rep G) F μ σ Q (f d S) → r [v] H Q) : CallI G (f1 f) r := by
  intro W F μ σ S H ds us Q hr hs hp
  unfold f1 at hp
  split at hp
  · cases hs with
    | cons a b => cases b with | nil => exact h W F μ σ S H _ _ Q hr a hp
  · exact hp.elim
def absD (x : D) (S : Store) : Res D :=
  match x with
  | .int i => .ok (.int (if i < 0 then -i else i)) S
  | _ => .bad
theorem ci_abs : CallI G (f1 absD) (fun xs H Q => ∃ i, xs = [.int i] ∧ Q (.int (if i < 0 then -i else i)) H) := ci_1 fun W F μ σ S H d v Q hr rd hp => by
  unfold absD at hp
  split at hp
  · cases rd
    exact ⟨_, rfl, post_ok hr (.int _) hp⟩
  · exact hp.elim
def intD (x : D) (S : Store) : Res D :=
  match x with
  | .int i => .ok (.int i) S
  | .bl b => .ok (.int (if b then 1 else 0)) S
  | _ => .bad
theorem ci_int : CallI G (f1 intD) (fun xs H Q => (∃ i, xs = [.int i] ∧ Q (.int i) H) ∨ ∃ k, xs = [.bl k] ∧ Q (.int (if k then 1 else 0)) H) := ci_1 fun W F μ σ S H d v Q hr rd hp => by
  unfold intD at hp
  split at hp
  · cases rd
    exact .inl ⟨_, rfl, post_ok hr (.int _) hp⟩
  · cases rd
    exact .inr ⟨_, rfl, post_ok hr (.int _) hp⟩
  · exact hp.elim
theorem ci_len (hK : X.K = G.K) : CallI G (f1 lenD) (fun xs H Q => ∃ x n, xs = [x] ∧ LenV X.K x H n ∧ Q (.int n) H) := ci_1 fun W F μ σ S H d v Q hr rd hp => by
  unfold lenD at hp
  split at hp
  · cases rd
    obtain ⟨hl, hp⟩ := post_if hp
    exact ⟨_, _, rfl, ⟨hl, rfl⟩, post_ok hr (.int _) hp⟩
  · split at hp
    · rename_i l hl
      obtain ⟨a, xs, rfl, rs, hs⟩ := items_ok hr rd hl
      have hq := post_ok hr (.int _) hp
      rw [rs.length] at hq
      rcases hs with hs | hs
      · exact ⟨_, xs.length, rfl, .inr ⟨xs, by rw [hK]; exact hs, rfl⟩, hq⟩
      · exact ⟨_, xs.length, rfl, .inl ⟨xs, by rw [hK]; exact hs, rfl⟩, hq⟩
    · exact hp.elim
def tupD (x : D) (S : Store) : Res D :=
  match itemsD S x with
  | some l => .ok (.tup l) S
  | none => .bad
theorem ci_tup (hK : X.K = G.K) : CallI G (f1 tupD) (fun xs H Q => ∃ p ys, xs = [.ref p] ∧ ((SqL X.K H p ys ∧ ∀ l, H l = none → Q (.ref l) (upd H l (.tup ys))) ∨ (SqT X.K H p ys ∧ Q (.ref p) H))) := ci_1 fun W F μ σ S H d v Q hr rd hp => by
  unfold tupD at hp
  split at hp
  · rename_i l hl
    cases rd with
    | tup h1 h2 =>
      cases hl
      exact ⟨_, _, rfl, .inr ⟨by rw [hK]; exact same_sqT hr.sub h1, post_ok hr (.tup h1 h2) hp⟩⟩
    | lst h1 h2 =>
      cases hl
      refine ⟨_, _, rfl, .inl ⟨SqL.of (hr.sub _ _ h1), fun p hn => ?_⟩⟩
      obtain ⟨x, rr⟩ := hr.newF (.tup _) hn
      exact hp _ _ _ _ x rr (.tup (TupF.of upd_same) (h2.mono x))
    | kst h1 h2 =>
      cases hl
      refine ⟨_, _, rfl, .inl ⟨by rw [hK]; exact same_sqL hr.sub h1, fun p hn => ?_⟩⟩
      obtain ⟨x, rr⟩ := hr.newF (.tup _) hn
      exact hp _ _ _ _ x rr (.tup (TupF.of upd_same) (h2.mono x))
    | @loc m a hm =>
      simp only [itemsD] at hl
      split at hl
      · rename_i l' hs
        cases hl
        obtain ⟨xs, hf, ho, h2⟩ := hr.lstAt hm hs
        refine ⟨_, _, rfl, .inl ⟨SqL.of ho, fun p hn => ?_⟩⟩
        obtain ⟨x, rr⟩ := hr.newF (.tup _) hn
        exact hp _ _ _ _ x rr (.tup (TupF.of upd_same) (h2.mono x))
      · cases hl
    | _ => cases hl
  · exact hp.elim
/-- list(x), never changed behind; list(x), that may change -/
def listD (x : D) (S : Store) : Res D :=
  match itemsD S x with
  | some l => .ok (.lst l) S
  | none => .bad
def listLD (x : D) (S : Store) : Res D :=
  match itemsD S x with
  | some l => .ok (.loc S.length) (S ++ [.lst l])
  | none => .bad
theorem ci_list (hK : X.K = G.K) : CallI G (f1 listD) (fun xs H Q => ∃ p ys, xs = [.ref p] ∧ (SqL X.K H p ys ∨ SqT X.K H p ys) ∧ ∀ l, H l = none → Q (.ref l) (upd H l (.lst ys))) := ci_1 fun W F μ σ S H d v Q hr rd hp => by
  unfold listD at hp
  split at hp
  · rename_i l hl
    obtain ⟨a, xs, rfl, rs, hs⟩ := items_ok hr rd hl
    refine ⟨a, xs, rfl, by rw [hK]; exact hs.symm, fun p hn => ?_⟩
    obtain ⟨x, rr⟩ := hr.newF (.lst _) hn
    exact hp _ _ _ _ x rr (.lst upd_same (rs.mono x))
  · exact hp.elim
theorem ci_listL (hK : X.K = G.K) : CallI G (f1 listLD) (fun xs H Q => ∃ p ys, xs = [.ref p] ∧ (SqL X.K H p ys ∨ SqT X.K H p ys) ∧ ∀ l, H l = none → Q (.ref l) (upd H l (.lst ys))) := ci_1 fun W F μ σ S H d v Q hr rd hp => by
  unfold listLD at hp
  split at hp
  · rename_i l hl
    obtain ⟨a, xs, rfl, rs, hs⟩ := items_ok hr rd hl
    refine ⟨a, xs, rfl, by rw [hK]; exact hs.symm, fun p hn => ?_⟩
    have rr := hr.newL (e := .lst l) hn (.lst (hr.fnone hn) upd_same (rs.mono (ext_app F μ p)))
    exact hp _ _ _ _ (ext_app F μ p) rr (.loc (mu_new hr p))
  · exact hp.elim
def blsD : List D → Option (List Bool)
  | [] => some []
  | .bl b :: r => (blsD r).map (b :: ·)
  | _ => none
theorem bls_rep {F : Hp} {μ : List Addr} : ∀ {l : List D} {xs : List V} {bs : List Bool}, Reps G F μ l xs → blsD l = some bs → xs = bs.map V.bl
  | [], _, _, r, h => by cases r; cases h; rfl
  | .bl b :: l, _, bs, r, h => by
    simp only [blsD] at h
    cases e : blsD l with
    | none => rw [e] at h; cases h
    | some bs' =>
      rw [e] at h
      cases h
      cases r with
      | cons r1 r2 =>
        cases r1
        rw [bls_rep r2 e]
        rfl
def allD (x : D) (S : Store) : Res D := (resO ((lstD S x).bind blsD) S).bind fun bs S => .ok (.bl (bs.all id)) S
def anyD (x : D) (S : Store) : Res D := (resO ((lstD S x).bind blsD) S).bind fun bs S => .ok (.bl (bs.any id)) S
theorem ci_all : CallI G (f1 allD) (rAll X.K) := ci_1 fun W F μ σ S H d v Q hr rd hp => by
  obtain ⟨bs, e, hp⟩ := post_bindO hp
  cases e1 : lstD S d with
  | none => rw [e1] at e; cases e
  | some l =>
    rw [e1] at e
    obtain ⟨a, xs, rfl, rs, hs⟩ := lst_ok hr rd e1
    exact ⟨a, bs, rfl, by rw [← bls_rep rs e]; exact SqL.of hs, post_ok hr (.bl _) hp⟩
theorem ci_any : CallI G (f1 anyD) (rAny X.K) := ci_1 fun W F μ σ S H d v Q hr rd hp => by
  obtain ⟨bs, e, hp⟩ := post_bindO hp
  cases e1 : lstD S d with
  | none => rw [e1] at e; cases e
  | some l =>
    rw [e1] at e
    obtain ⟨a, xs, rfl, rs, hs⟩ := lst_ok hr rd e1
    exact ⟨a, bs, rfl, by rw [← bls_rep rs e]; exact SqL.of hs, post_ok hr (.bl _) hp⟩
end
end Z

set_option Elab.async false
set_option linter.all false
set_option maxRecDepth 100000
set_option maxHeartbeats 2000000
set_option autoImplicit false
namespace Z
open PySem PySem.Spec L2

/-! ## the store cut back -/
mutual
def closed (n : Nat) : D → Bool
  | .loc k => decide (k < n)
  | .tup l => closedL n l
  | .lst l => closedL n l
  | .kst l => closedL n l
  | .dct _ vs => closedL n vs
  | .ins _ _ vs => closedL n vs
  | .exn _ _ vs => closedL n vs
  | _ => true
def closedL (n : Nat) : List D → Bool
  | [] => true
  | d :: ds => closed n d && closedL n ds
end
def closedE (n : Nat) : Ent → Bool
  | .lst l => closedL n l
  | .dct _ vs => closedL n vs
  | .ins _ _ vs => closedL n vs
  | .dead => true
def CutOk (S S' : Store) : Prop := (∃ g, S' = S ++ g) ∨ (S.length ≤ S'.length ∧ ∀ e ∈ S'.take S.length, closedE S.length e = true)
open Classical in
noncomputable def cut (S : Store) : Res D → Res D
  | .ok d S' => if closed S.length d = true ∧ CutOk S S' then .ok d (S'.take S.length) else .ok d S'
  | .ex c ks vs S' => if closedL S.length vs = true ∧ CutOk S S' then .ex c ks vs (S'.take S.length) else .ex c ks vs S'
  | .bad => .bad
noncomputable def mCut (m : ME) : ME := fun ρ S => cut S (m ρ S)
theorem cut_same (S : Store) (d : D) : cut S (.ok d S) = .ok d S := by
  simp only [cut]
  split
  · rw [List.take_length]
  · rfl
theorem cut_app {S g : Store} {d : D} (h : closed S.length d = true) : cut S (.ok d (S ++ g)) = .ok d S := by
  have hc : closed S.length d = true ∧ CutOk S (S ++ g) := ⟨h, .inl ⟨g, rfl⟩⟩
  simp only [cut, if_pos hc, List.take_left]
theorem cut_ex {S g : Store} {c : Nat} {ks : List Str} {vs : List D} (h : closedL S.length vs = true) : cut S (.ex c ks vs (S ++ g)) = .ex c ks vs S := by
  have hc : closedL S.length vs = true ∧ CutOk S (S ++ g) := ⟨h, .inl ⟨g, rfl⟩⟩
  simp only [cut, if_pos hc, List.take_left]
theorem cut_take {S S1 g : Store} {d : D} (h : closed S.length d = true) (hl : S1.length = S.length) (hc : ∀ e ∈ S1, closedE S.length e = true) : cut S (.ok d (S1 ++ g)) = .ok d S1 := by
  have e : (S1 ++ g).take S.length = S1 := by rw [← hl, List.take_left]
  have hc : closed S.length d = true ∧ CutOk S (S1 ++ g) := ⟨h, .inr ⟨by simp; omega, by rw [e]; exact hc⟩⟩
  simp only [cut, if_pos hc, e]
@[simp] theorem cut_bad (S : Store) : cut S .bad = .bad := rfl
section
variable {G : Gm} {X : Cx} {W : WX} {k : Nat}
theorem take_get {α : Type} {l : List α} {n i : Nat} {a : α} (h : (l.take n)[i]? = some a) : l[i]? = some a ∧ i < n := by
  rw [List.getElem?_take] at h
  split at h
  · exact ⟨h, by assumption⟩
  · cases h
mutual
theorem Rep.shut {F : Hp} {μ : List Addr} {n : Nat} : ∀ {d : D} {v : V}, Rep G F μ d v → closed n d = true → Rep G F (μ.take n) d v
  | _, _, .non, _ => .non
  | _, _, .bl b, _ => .bl b
  | _, _, .int i, _ => .int i
  | _, _, .str s, _ => .str s
  | _, _, .ty s, _ => .ty s
  | _, _, .cls c, _ => .cls c
  | _, _, .tup h r, hc => .tup h (Reps.shut r (by simpa [closed] using hc))
  | _, _, .lst h r, hc => .lst h (Reps.shut r (by simpa [closed] using hc))
  | _, _, .kst h r, hc => .kst h (Reps.shut r (by simpa [closed] using hc))
  | _, _, .dct h l r, hc => .dct h l (Reps.shut r (by simpa [closed] using hc))
  | _, _, .ins h l r, hc => .ins h l (Reps.shut r (by simpa [closed] using hc))
  | _, _, .exn h y l r, hc => .exn h y l (Reps.shut r (by simpa [closed] using hc))
  | _, _, .loc h, hc => .loc (by rw [List.getElem?_take, if_pos (by simpa [closed] using hc)]; exact h)
theorem Reps.shut {F : Hp} {μ : List Addr} {n : Nat} : ∀ {ds : List D} {vs : List V}, Reps G F μ ds vs → closedL n ds = true → Reps G F (μ.take n) ds vs
  | _, _, .nil, _ => .nil
  | _, _, .cons a b, hc => by
    simp only [closedL, Bool.and_eq_true] at hc
    exact .cons (Rep.shut a hc.1) (Reps.shut b hc.2)
end
mutual
theorem Rep.cl {F : Hp} {μ : List Addr} {n : Nat} (hn : μ.length ≤ n) : ∀ {d : D} {v : V}, Rep G F μ d v → closed n d = true
  | _, _, .non => rfl
  | _, _, .bl b => rfl
  | _, _, .int i => rfl
  | _, _, .str s => rfl
  | _, _, .ty s => rfl
  | _, _, .cls c => rfl
  | _, _, .tup h r => by simpa [closed] using Reps.cl hn r
  | _, _, .lst h r => by simpa [closed] using Reps.cl hn r
  | _, _, .kst h r => by simpa [closed] using Reps.cl hn r
  | _, _, .dct h l r => by simpa [closed] using Reps.cl hn r
  | _, _, .ins h l r => by simpa [closed] using Reps.cl hn r
  | _, _, .exn h y l r => by simpa [closed] using Reps.cl hn r
  | _, _, .loc h => by
    have := (List.getElem?_eq_some_iff.mp h).1
    simp only [closed, decide_eq_true_eq]
    omega
theorem Reps.cl {F : Hp} {μ : List Addr} {n : Nat} (hn : μ.length ≤ n) : ∀ {ds : List D} {vs : List V}, Reps G F μ ds vs → closedL n ds = true
  | _, _, .nil => rfl
  | _, _, .cons a b => by
    simp only [closedL, Bool.and_eq_true]
    exact ⟨Rep.cl hn a, Reps.cl hn b⟩
end
theorem EntOk.shut {F : Hp} {μ : List Addr} {H : Hp} {a : Addr} {n : Nat} {e : Ent} (h : EntOk G F μ H a e) (hc : closedE n e = true) : EntOk G F (μ.take n) H a e := by
  cases h with
  | dead => exact .dead
  | lst h1 h2 r => exact .lst h1 h2 (r.shut hc)
  | dct h1 h2 l r => exact .dct h1 h2 l (r.shut hc)
  | ins h1 h2 l r => exact .ins h1 h2 l (r.shut hc)
theorem EntOk.cl {F : Hp} {μ : List Addr} {H : Hp} {a : Addr} {n : Nat} {e : Ent} (hn : μ.length ≤ n) (h : EntOk G F μ H a e) : closedE n e = true := by
  cases h with
  | dead => rfl
  | lst h1 h2 r => exact r.cl hn
  | dct h1 h2 l r => exact r.cl hn
  | ins h1 h2 l r => exact r.cl hn
theorem Rel.shut {F : Hp} {μ : List Addr} {S : Store} {H : Hp} {n : Nat} (r : Rel G F μ S H) (hc : ∀ e ∈ S.take n, closedE n e = true) : Rel G F (μ.take n) (S.take n) H :=
  ⟨r.sub, by rw [List.length_take, List.length_take, r.len], fun i j a h1 h2 => r.inj i j a (take_get h1).1 (take_get h2).1,
    fun i a e h1 h2 => (r.ent i a e (take_get h1).1 (take_get h2).1).shut (hc e (List.mem_of_getElem? h2)), fun i a h1 => r.trk i a (take_get h1).1⟩
theorem Ext.shut {F F' : Hp} {μ μ' : List Addr} (x : Ext F μ F' μ') : Ext F μ F' (μ'.take μ.length) :=
  ⟨x.fz, fun i a h => by rw [List.getElem?_take, if_pos (List.getElem?_eq_some_iff.mp h).1]; exact x.mu i a h⟩
theorem cut_all {F F' : Hp} {μ μ' : List Addr} {S S' : Store} {H H' : Hp} (r : Rel G F μ S H) (x : Ext F μ F' μ') (r' : Rel G F' μ' S' H') (hc : CutOk S S') : ∀ e ∈ S'.take S.length, closedE S.length e = true := by
  rcases hc with ⟨g, rfl⟩ | ⟨_, h⟩
  · intro e he
    rw [List.take_left] at he
    obtain ⟨i, hi⟩ := List.getElem?_of_mem he
    have hlt : i < μ.length := by rw [r.len]; exact (List.getElem?_eq_some_iff.mp hi).1
    exact (r.ent i μ[i] e (List.getElem?_eq_getElem hlt) hi).cl (by rw [r.len]; exact Nat.le_refl _)
  · exact h
theorem post_cut {F : Hp} {μ : List Addr} {S : Store} {H : Hp} {σ : L2.St} {Q : VK} {r : Res D} (hr : Rel G F μ S H) (h : Post G W (Rep G) F μ σ Q (cut S r)) : Post G W (Rep G) F μ σ Q r := by
  unfold cut at h
  cases r with
  | ok d S' =>
    simp only at h
    split at h
    · rename_i hc
      intro F' μ' v H' x rr p
      have hl : S.length = μ.length := hr.len.symm
      have hall := cut_all hr x rr hc.2
      have h' := h F' (μ'.take μ.length) v H' x.shut (by rw [← hl]; exact rr.shut hall) (by rw [← hl]; exact p.shut hc.1)
      exact h'
    · exact h
  | ex c ks vs S' =>
    simp only at h
    split at h
    · rename_i hc
      intro F' μ' dx xs H' x rr e l p
      have hl : S.length = μ.length := hr.len.symm
      have hall := cut_all hr x rr hc.2
      exact h F' (μ'.take μ.length) dx xs H' x.shut (by rw [← hl]; exact rr.shut hall) e l (by rw [← hl]; exact p.shut hc.1)
    · exact h
  | bad => exact h
theorem imp_cut {t : TE} {m : ME} (h : ImpE G W (Rep G) t m) : ImpE G W (Rep G) t (mCut m) := fun ρ S σ H F μ Q he hr hp => h ρ S σ H F μ Q he hr (post_cut hr hp)
theorem se_cut {e : Expr} {m : ME} (h : SE G X W e m) : SE G X W e (mCut m) := by
  obtain ⟨t, p, i⟩ := h
  exact ⟨t, p, imp_cut i⟩
theorem imp_frz {t : TE} {m : ME} (i : ImpE G W (Rep G) t m) : ImpE G W (Rep G) t (mFrz m) := by
  intro ρ S σ H F μ Q he hr hp
  refine i ρ S σ H F μ _ he hr (Post.bind hp fun d S1 F1 μ1 v H1 x1 r1 p1 q1 => ?_)
  have q2 : PostS G W F1 μ1 { nx := fun _ _ => False, rt := Q } (srRes [] (frzD d S1) fun d' S' => .rt d' S') := by
    cases e : frzD d S1 with
    | ok a S' => rw [e] at q1; exact q1
    | ex c ks vs S' => cases d <;> simp [frzD] at e; split at e <;> cases e
    | bad => rw [e] at q1; exact q1
  obtain ⟨d', S', F', x, rr, pp, hh⟩ := frz_ok r1 p1 q2
  exact hh F' μ1 v H1 (Ext.refl _ _) rr pp
/-- a def whose store is cut back -/
noncomputable def cutM (mf : MF) : MF := fun ds S => cut S (mf ds S)
theorem GFn.cut {P : Program} {w : World} {base : Heap} {f : Addr} {fd : FuncData} {ps : List Str} {mf : MF} (h : GFn G P w base k f fd ps mf) : GFn G P w base k f fd ps (cutM mf) := by
  refine ⟨fun A outer s H args us vs Q E hr hg e0 hb r hs => h.run A outer s H args us vs Q E hr hg e0 hb r ?_⟩
  obtain ⟨hl, F, μ, S, ds, hrel, hrs, hp⟩ := hs
  exact ⟨hl, F, μ, S, ds, hrel, hrs, post_cut hrel hp⟩
theorem cutM_len {mf : MF} {n : Nat} (h : ∀ ds S, mf ds S ≠ .bad → ds.length = n) : ∀ ds S, cutM mf ds S ≠ .bad → ds.length = n := fun ds S hb => h ds S fun z => by
  unfold cutM at hb
  rw [z] at hb
  exact hb rfl

/-! ## what is walked -/
theorem PI.or {tg it : Expr} {t u : TI} (h : PI X tg it t) (h2 : PI X tg it u) : PI X tg it (fun σ H R => t σ H R ∨ u σ H R) := by
  refine ⟨fun pins s σ H R I hw => ?_⟩
  rcases hw with hw | hw
  · exact h.run pins s σ H R I hw
  · exact h2.run pins s σ H R I hw
/-- items that stay -/
def stillD : D → Option (List D)
  | .tup l => some l
  | .lst l => some l
  | .kst l => some l
  | _ => none
def mIter (m : ME) : ML := fun ρ S => (m ρ S).bind fun d S1 => resO (stillD d) S1
theorem yields_list {K : PySem.W.Frag} (hK : K = G.K) {F : Hp} {μ : List Addr} {a : Addr} {l : List D} {xs : List V} (hs : SqL K F a xs) (hr : Reps G F μ l xs) : Yields G F μ l (Itl K a) where
  go := fun i F1 μ1 S H x r hi => by
    obtain ⟨v, hv⟩ : ∃ v, xs[i]? = some v := ⟨_, List.getElem?_eq_getElem (by rw [← hr.length]; exact hi)⟩
    exact ⟨xs, v, same_sqL (x.fz.trans r.sub) hs, hv⟩
  stop := fun i F1 μ1 S H x r hi => ⟨xs, same_sqL (x.fz.trans r.sub) hs, by rw [← hr.length]; exact hi⟩
  yld := fun i F1 μ1 S H v H' d x r hd hy => by
    obtain ⟨rfl, h⟩ := hy
    have hv := h xs (same_sqL (x.fz.trans r.sub) hs)
    obtain ⟨w, h1, h2⟩ := hr.get hd
    rw [hv] at h1
    cases h1
    exact ⟨F1, μ1, Ext.refl _ _, r, h2.mono x⟩
theorem yields_tup {K : PySem.W.Frag} (hK : K = G.K) {F : Hp} {μ : List Addr} {a : Addr} {l : List D} {xs : List V} (hs : TupF K F a xs) (hr : Reps G F μ l xs) : Yields G F μ l (Itt K a) where
  go := fun i F1 μ1 S H x r hi => by
    obtain ⟨v, hv⟩ : ∃ v, xs[i]? = some v := ⟨_, List.getElem?_eq_getElem (by rw [← hr.length]; exact hi)⟩
    exact ⟨xs, v, same_sqT (x.fz.trans r.sub) hs, hv⟩
  stop := fun i F1 μ1 S H x r hi => ⟨xs, same_sqT (x.fz.trans r.sub) hs, by rw [← hr.length]; exact hi⟩
  yld := fun i F1 μ1 S H v H' d x r hd hy => by
    obtain ⟨rfl, h⟩ := hy
    have hv := h xs (same_sqT (x.fz.trans r.sub) hs)
    obtain ⟨w, h1, h2⟩ := hr.get hd
    rw [hv] at h1
    cases h1
    exact ⟨F1, μ1, Ext.refl _ _, r, h2.mono x⟩
theorem si_seq {tg e : Expr} {m : ME} (hK : X.K = G.K) (h : SE G X W e m) : SI G X W tg e (mIter m) := by
  obtain ⟨t, p, i⟩ := h
  refine ⟨_, PI.or (pi_list p) (pi_tup p), fun ρ S σ H F μ R he hr hp => ?_⟩
  unfold mIter at hp
  cases hm : m ρ S with
  | bad => rw [hm] at hp; exact hp.elim
  | ex c ks vs S1 =>
    rw [hm] at hp
    exact .inl (i ρ S σ H F μ _ he hr (by rw [hm]; exact hp))
  | ok d S1 =>
    rw [hm] at hp
    obtain ⟨l, e, hp⟩ := post_resO1 (show Post G W (Yields G) F μ σ (fun J H' => R J H') (resO (stillD d) S1) from hp)
    cases d with
    | tup l' =>
      cases e
      refine .inr (i ρ S σ H F μ _ he hr ?_)
      rw [hm]
      intro F1 μ1 v H1 x1 r1 p1
      cases p1 with
      | tup hs hrs =>
        refine ⟨_, rfl, ⟨_, by rw [hK]; exact same_sqT r1.sub hs⟩, ?_⟩
        exact hp F1 μ1 _ H1 x1 r1 (yields_tup hK (by rw [hK]; exact hs) hrs)
    | lst l' =>
      cases e
      refine .inl (i ρ S σ H F μ _ he hr ?_)
      rw [hm]
      intro F1 μ1 v H1 x1 r1 p1
      cases p1 with
      | lst hs hrs =>
        refine ⟨_, rfl, ⟨_, SqL.of (r1.sub _ _ hs)⟩, ?_⟩
        exact hp F1 μ1 _ H1 x1 r1 (yields_list hK (SqL.of hs) hrs)
    | kst l' =>
      cases e
      refine .inl (i ρ S σ H F μ _ he hr ?_)
      rw [hm]
      intro F1 μ1 v H1 x1 r1 p1
      cases p1 with
      | kst hs hrs =>
        refine ⟨_, rfl, ⟨_, by rw [hK]; exact same_sqL r1.sub hs⟩, ?_⟩
        exact hp F1 μ1 _ H1 x1 r1 (yields_list hK (by rw [hK]; exact hs) hrs)
    | _ => cases e
def rangeL (lo : Int) (n : Nat) : List D := (List.range n).map fun (i : Nat) => .int (lo + (i : Int))
theorem yields_range {F : Hp} {μ : List Addr} {lo : Int} {n : Nat} : Yields G F μ (rangeL lo n) (Itr lo n) where
  go := fun i F1 μ1 S H x r hi => by
    simp [rangeL] at hi
    exact hi
  stop := fun i F1 μ1 S H x r hi => by
    simp [rangeL] at hi
    exact hi
  yld := fun i F1 μ1 S H v H' d x r hd hy => by
    obtain ⟨rfl, rfl⟩ := hy
    unfold rangeL at hd
    rw [List.getElem?_map] at hd
    cases e : (List.range n)[i]? with
    | none => rw [e] at hd; cases hd
    | some j =>
      rw [e] at hd
      have := List.getElem?_eq_some_iff.mp e
      obtain ⟨hl, hj⟩ := this
      simp at hj
      subst hj
      cases hd
      exact ⟨F1, μ1, Ext.refl _ _, r, .int _⟩
def rgOk (j : Int) : Bool := decide (-2 ^ 62 ≤ j) && decide (j < 2 ^ 62)
theorem rgOk_b {j : Int} (h : rgOk j = true) : -2 ^ 62 ≤ j ∧ j < 2 ^ 62 := by
  unfold rgOk at h
  rw [Bool.and_eq_true] at h
  exact ⟨of_decide_eq_true h.1, of_decide_eq_true h.2⟩
theorem rgOk_of {j : Int} (h : -1000000000 ≤ j ∧ j ≤ 1000000000) : rgOk j = true := by
  unfold rgOk
  rw [Bool.and_eq_true]
  exact ⟨decide_eq_true (by omega), decide_eq_true (by omega)⟩
def mRange1 (l : ML) : ML := fun ρ S => (l ρ S).bind fun ds S1 =>
  match ds with
  | [.int j] => if rgOk j = true then .ok (rangeL 0 j.toNat) S1 else .bad
  | _ => .bad
theorem si_range1 {tg a : Expr} {p pos : Pos} {m : ML} (hmg : X.mg = G.mg) (hm : G.mg "range" = none) (ha : SA G X W [a] m) (hg : Gl X "range" := by rfl) (hs : starEach [a] X.env = [(false, eval a X.env)] := by rfl) : SI G X W tg (.Call (.Name "range" p) [a] [] pos) (mRange1 m) := by
  obtain ⟨t, pa, i⟩ := ha
  refine ⟨_, pi_range1 hg (by rw [hmg]; exact hm) pa hs, fun ρ S σ H F μ R he hr hp => ?_⟩
  refine i ρ S σ H F μ _ he hr (Post.bind hp fun ds S1 F1 μ1 vs H1 x1 r1 p1 q1 => ?_)
  split at q1
  · obtain ⟨hb, q⟩ := post_if q1
    cases p1 with
    | cons a1 b1 =>
      cases b1
      cases a1
      exact ⟨_, rfl, (rgOk_b hb).1, (rgOk_b hb).2, q F1 μ1 _ H1 (Ext.refl _ _) r1 yields_range⟩
  · exact q1.elim
def mRange2 (l : ML) : ML := fun ρ S => (l ρ S).bind fun ds S1 =>
  match ds with
  | [.int i, .int j] => if rgOk i = true ∧ rgOk j = true then .ok (rangeL i (j - i).toNat) S1 else .bad
  | _ => .bad

theorem si_range2 {tg a b : Expr} {p pos : Pos} {m : ML} (hmg : X.mg = G.mg) (hm : G.mg "range" = none) (ha : SA G X W [a, b] m) (hg : Gl X "range" := by rfl) (hs : starEach [a, b] X.env = [(false, eval a X.env), (false, eval b X.env)] := by rfl) (hs2 : starEach [b] X.env = [(false, eval b X.env)] := by rfl) : SI G X W tg (.Call (.Name "range" p) [a, b] [] pos) (mRange2 m) := by
  obtain ⟨t, pa, i⟩ := ha
  refine ⟨_, pi_range2 hg (by rw [hmg]; exact hm) pa hs hs2, fun ρ S σ H F μ R he hr hp => ?_⟩
  refine i ρ S σ H F μ _ he hr (Post.bind hp fun ds S1 F1 μ1 vs H1 x1 r1 p1 q1 => ?_)
  split at q1
  · obtain ⟨hb, q⟩ := post_if q1
    cases p1 with
    | cons a1 b1 =>
      cases b1 with
      | cons a2 b2 =>
        cases b2
        cases a1
        cases a2
        exact ⟨_, _, rfl, ⟨(rgOk_b hb.1).1, (rgOk_b hb.1).2, (rgOk_b hb.2).1, (rgOk_b hb.2).2⟩, q F1 μ1 _ H1 (Ext.refl _ _) r1 yields_range⟩
  · exact q1.elim

/-! ## list comprehensions -/
def tOf (G : Gm) (W : WX) (m : ME) : TE := fun σ H Q => ∃ F μ ρ S, EnvR G F μ ρ σ ∧ Rel G F μ S H ∧ Post G W (Rep G) F μ σ Q (m ρ S)
theorem SE.pe {e : Expr} {m : ME} (h : SE G X W e m) : PE X e (tOf G W m) := by
  obtain ⟨t, p, i⟩ := h
  exact ⟨fun pins s σ H Q I ⟨F, μ, ρ, S, he, hr, hp⟩ => p.run pins s σ H Q I (i ρ S σ H F μ Q he hr hp)⟩
def tOfT (G : Gm) (W : WX) (m : MB) : TT := fun σ H Q => ∃ F μ ρ S, EnvR G F μ ρ σ ∧ Rel G F μ S H ∧ Post G W rB F μ σ Q (m ρ S)
theorem ST.pt {e : Expr} {m : MB} (h : ST G X W e m) : PT X e (tOfT G W m) := by
  obtain ⟨t, p, i⟩ := h
  exact ⟨fun pins s σ H Q I ⟨F, μ, ρ, S, he, hr, hp⟩ => p.run pins s σ H Q I (i ρ S σ H F μ Q he hr hp)⟩
/-- a target that stores at the places vs alone -/
def tOfG (G : Gm) (vs : List Nat) (m : MG) : TG := fun v σ H Q => ∃ F μ ρ S d ρ' S', EnvR G F μ ρ σ ∧ Rel G F μ S H ∧ Rep G F μ d v ∧ m d ρ S = some (ρ', S') ∧
  ∀ F' μ' σ' H', Ext F μ F' μ' → Rel G F' μ' S' H' → EnvR G F' μ' ρ' σ' → wipe σ' vs = wipe σ vs → Q σ' H'
def tOfGs (G : Gm) (vs : List Nat) (m : MGs) : TGs := fun us σ H Q => ∃ F μ ρ S ds ρ' S', EnvR G F μ ρ σ ∧ Rel G F μ S H ∧ Reps G F μ ds us ∧ m ds ρ S = some (ρ', S') ∧
  ∀ F' μ' σ' H', Ext F μ F' μ' → Rel G F' μ' S' H' → EnvR G F' μ' ρ' σ' → wipe σ' vs = wipe σ vs → Q σ' H'
structure SO (G : Gm) (X : Cx) (vs : List Nat) (tg : Expr) (m : MG) : Prop where
  pg : PG X tg (tOfG G vs m)
structure SOs (G : Gm) (X : Cx) (vs : List Nat) (tg : List Expr) (m : MGs) : Prop where
  pg : PGs X tg (tOfGs G vs m)
theorem wipe_set {σ : L2.St} {i : Nat} {x : Option V} : ∀ {vs : List Nat}, i ∈ vs → wipe (σ.set i x) vs = wipe σ vs
  | [], h => by simp at h
  | v :: vs, h => by
    unfold wipe
    by_cases hm : i ∈ vs
    · rw [wipe_set hm]
    · have e : i = v := by
        rcases List.mem_cons.mp h with e | e
        · exact e
        · exact absurd e hm
      subst e
      apply List.ext_getElem?
      intro j
      by_cases hj : i = j
      · subst hj
        by_cases hl : i < σ.length
        · rw [List.getElem?_set_self (by rw [wipe_length, List.length_set]; exact hl), List.getElem?_set_self (by rw [wipe_length]; exact hl)]
        · rw [List.getElem?_eq_none (by rw [List.length_set, wipe_length, List.length_set]; omega), List.getElem?_eq_none (by rw [List.length_set, wipe_length]; omega)]
      · rw [List.getElem?_set_ne hj, List.getElem?_set_ne hj]
        clear h hm
        induction vs with
        | nil => unfold wipe; rw [List.getElem?_set_ne hj]
        | cons w ws ih =>
          unfold wipe
          by_cases hw : w = j
          · subst hw
            by_cases hl : w < σ.length
            · rw [List.getElem?_set_self (by rw [wipe_length, List.length_set]; exact hl), List.getElem?_set_self (by rw [wipe_length]; exact hl)]
            · rw [List.getElem?_eq_none (by rw [List.length_set, wipe_length, List.length_set]; omega), List.getElem?_eq_none (by rw [List.length_set, wipe_length]; omega)]
          · rw [List.getElem?_set_ne hw, List.getElem?_set_ne hw]
            exact ih
theorem wipe_sub {σ : L2.St} {vs : List Nat} : ∀ {ws : List Nat}, (∀ i ∈ ws, i ∈ vs) → wipe (wipe σ ws) vs = wipe σ vs
  | [], _ => rfl
  | w :: ws, h => by
    show wipe ((wipe σ ws).set w none) vs = wipe σ vs
    rw [wipe_set (h w List.mem_cons_self)]
    exact wipe_sub fun i hi => h i (List.mem_cons_of_mem _ hi)
theorem so_name {vs : List Nat} {i : Nat} {x : Str} {pos : Pos} (hN : X.N.Nodup) (hv : i ∈ vs := by decide) (hi : X.N[i]? = some x := by rfl) (hx : Loc X.env.scope x := by first | exact Or.inl rfl | exact Or.inr rfl) (hf : X.fn x = true ∨ X.env.scope.names.lookup x = some .local := by first | exact .inl rfl | exact .inr rfl) : SO G X vs (.Name x pos) (gNm i) :=
  ⟨⟨fun pins s σ H v u Q I r hw => by
    obtain ⟨F, μ, ρ, S, d, ρ', S', he, hr, rd, e, hq⟩ := hw
    cases e
    exact (pg_name hN hi hx hf).run pins s σ H v u Q I r (hq F μ _ H (Ext.refl _ _) hr (he.set i rd) (wipe_set hv))⟩⟩
theorem sos_nil {vs : List Nat} : SOs G X vs [] gsNil :=
  ⟨⟨fun pins s σ H us ws Q I r hw => by
    obtain ⟨F, μ, ρ, S, ds, ρ', S', he, hr, rd, e, hq⟩ := hw
    cases rd with
    | nil =>
      cases e
      exact pgs_nil.run pins s σ H [] ws Q I r ⟨rfl, hq F μ σ H (Ext.refl _ _) hr he rfl⟩
    | cons a b => cases e⟩⟩
theorem sos_cons {vs : List Nat} {e : Expr} {es : List Expr} {g : MG} {gs : MGs} (h1 : SO G X vs e g) (h2 : SOs G X vs es gs) (hs : (assignEach (e :: es) X.env).map (·.2) = assign e X.env :: (assignEach es X.env).map (·.2) := by rfl) : SOs G X vs (e :: es) (gsCons g gs) :=
  ⟨⟨fun pins s σ H us ws Q I r hw => by
    obtain ⟨F, μ, ρ, S, ds, ρ', S', he, hr, rd, e', hq⟩ := hw
    refine (pgs_cons h1.pg h2.pg hs).run pins s σ H us ws Q I r ?_
    cases rd with
    | nil => cases e'
    | @cons d v ds vs' r1 r2 =>
      simp only [gsCons] at e'
      cases hg : g d ρ S with
      | none => rw [hg] at e'; cases e'
      | some w =>
        rw [hg] at e'
        refine ⟨v, vs', rfl, F, μ, ρ, S, d, w.1, w.2, he, hr, r1, hg, fun F1 μ1 σ1 H1 x1 rr e1 w1 => ?_⟩
        exact ⟨F1, μ1, w.1, w.2, ds, ρ', S', e1, rr, r2.mono x1, e', fun F2 μ2 σ2 H2 x2 r2 e2 w2 => hq F2 μ2 σ2 H2 (x1.trans x2) r2 e2 (w2.trans w1)⟩⟩⟩
theorem so_many {vs : List Nat} {es : List Expr} {cx : Nat} {pos : Pos} {gs : MGs} {n : Nat} (hK : X.K = G.K) (hc : X.calm = true) (h : SOs G X vs es gs) (hn : (assignEach es X.env).length = n := by rfl) (hst : (assignEach es X.env).findIdx? (·.1) = none := by rfl) : SO G X vs (.Tuple es cx pos) (gMany n gs) :=
  ⟨⟨fun pins s σ H v u Q I r hw => by
    obtain ⟨F, μ, ρ, S, d, ρ', S', he, hr, rd, e, hq⟩ := hw
    refine (PG.or (pg_tup hc h.pg hn hst) (pg_lst hc h.pg hn hst)).run pins s σ H v u Q I r ?_
    unfold gMany at e
    split at e
    · rename_i l hl
      by_cases hlen : l.length = n
      · rw [if_pos hlen] at e
        obtain ⟨a, xs, rfl, rs, hs⟩ := items_ok hr rd hl
        have hx : xs.length = n := by rw [← rs.length]; exact hlen
        rcases hs with hs | hs
        · exact .inl ⟨a, xs, rfl, by rw [hK]; exact hs, hx, F, μ, ρ, S, l, ρ', S', he, hr, rs, e, hq⟩
        · exact .inr ⟨a, xs, rfl, by rw [hK]; exact hs, hx, F, μ, ρ, S, l, ρ', S', he, hr, rs, e, hq⟩
      · rw [if_neg hlen] at e
        cases e
    · cases e⟩⟩
def wipeR (ρ : Env') : List Nat → Env'
  | [] => ρ
  | v :: vs => (wipeR ρ vs).set v none
theorem wipeR_ok {F : Hp} {μ : List Addr} {ρ : Env'} {σ : L2.St} (h : EnvR G F μ ρ σ) : ∀ vs : List Nat, EnvR G F μ (wipeR ρ vs) (wipe σ vs)
  | [] => h
  | v :: vs => by
    have ih := wipeR_ok h vs
    refine ⟨by unfold wipeR wipe; rw [List.length_set, List.length_set]; exact ih.len, fun i d e => ?_⟩
    unfold wipeR at e
    unfold wipe
    by_cases hi : v = i
    · subst hi
      by_cases hl : v < (wipeR ρ vs).length
      · rw [List.getElem?_set_self hl] at e; cases e
      · rw [List.getElem?_eq_none (by rw [List.length_set]; omega)] at e; cases e
    · rw [List.getElem?_set_ne hi] at e
      rw [List.getElem?_set_ne hi]
      exact ih.get i d e
def noEx {α : Type} : Res α → Res α
  | .ok a S => .ok a S
  | _ => .bad
@[simp] theorem noEx_ok {α : Type} (a : α) (S : Store) : noEx (.ok a S) = .ok a S := rfl
def pushAt (n : Nat) (y : D) (S : Store) : Option Store :=
  match S[n]? with
  | some (.lst acc) => if acc.length < sizeLine then some (S.set n (.lst (acc ++ [y]))) else none
  | _ => none
def compL (n : Nat) (g : MG) (t : MB) (e : ME) (ρ : Env') : List D → Store → Res Unit
  | [], S => .ok () S
  | d :: ds, S =>
    match g d ρ S with
    | some p => (noEx (t p.1 p.2)).bind fun b S2 =>
      if b = true then (noEx (e p.1 S2)).bind fun y S3 => (resO (pushAt n y S3) S3).bind fun S4 _ => compL n g t e ρ ds S4
      else compL n g t e ρ ds S2
    | none => .bad
def mComp (l : ML) (vs : List Nat) (g : MG) (t : MB) (e : ME) : ME := fun ρ S => (l ρ S).bind fun ds S1 => (compL S1.length g t e (wipeR ρ vs) ds (S1 ++ [.lst []])).bind fun _ S2 => .ok (.loc S1.length) S2
def mYes : MB := fun _ S => .ok true S
abbrev WN : WX := fun _ _ _ _ => False
theorem noEx_ne {α : Type} {r : Res α} {β : Type} {f : α → Store → Res β} {R : β → Prop} (h : ∃ u S, (noEx r).bind f = .ok u S) : ∃ a S, r = .ok a S := by
  cases r with
  | ok a S => exact ⟨a, S, rfl⟩
  | _ => obtain ⟨u, S, h⟩ := h; cases h
theorem imp_lc {ti : TI} {l : ML} {vs : List Nat} {g : MG} {t : MB} {e : ME} (ii : ImpI G W ti l) : ImpE G W (Rep G) (tLc ti (tOfG G vs g) (tOfT G WN t) (tOf G WN e) vs) (mComp l vs g t e) := by
  intro ρ S σ H F μ Q he hr hp
  refine ii ρ S σ H F μ _ he hr (Post.bind hp fun ds S1 F1 μ1 J H1 x1 r1 y1 q1 => ?_)
  intro p hpn
  cases hres : compL S1.length g t e (wipeR ρ vs) ds (S1 ++ [.lst []]) with
  | bad => rw [hres] at q1; exact q1.elim
  | ex c ks vs' S' =>
    exfalso
    have noex : ∀ (ds : List D) (S : Store), compL S1.length g t e (wipeR ρ vs) ds S ≠ .ex c ks vs' S' := by
      intro ds
      induction ds with
      | nil => intro S z; cases z
      | cons d ds ih =>
        intro S z
        simp only [compL] at z
        cases hg : g d (wipeR ρ vs) S with
        | none => rw [hg] at z; cases z
        | some w =>
          rw [hg] at z
          simp only at z
          cases ht : t w.1 w.2 with
          | ok b S2 =>
            rw [ht] at z
            simp only [noEx_ok, bind_ok] at z
            by_cases hb : b = true
            · rw [if_pos hb] at z
              cases hee : e w.1 S2 with
              | ok y S3 =>
                rw [hee] at z
                simp only [noEx_ok, bind_ok] at z
                cases hpp : pushAt S1.length y S3 with
                | none => rw [hpp] at z; cases z
                | some S4 => rw [hpp] at z; exact ih S4 z
              | ex _ _ _ _ => rw [hee] at z; cases z
              | bad => rw [hee] at z; cases z
            · rw [if_neg hb] at z
              exact ih S2 z
          | ex _ _ _ _ => rw [ht] at z; cases z
          | bad => rw [ht] at z; cases z
    exact noex ds _ hres
  | ok u S9 =>
    rw [hres] at q1
    have q9 : Post G W (Rep G) F1 μ1 σ Q (.ok (.loc S1.length) S9) := q1
    have r2 : Rel G F1 (μ1 ++ [p]) (S1 ++ [.lst []]) (upd H1 p (.lst [])) := r1.newL hpn (.lst (r1.fnone hpn) upd_same .nil)
    have hpl : (μ1 ++ [p])[S1.length]? = some p := mu_new r1 p
    refine ⟨fun i m H => m = ds.length - i ∧ i ≤ ds.length ∧ ∃ F' μ' S, Ext F1 (μ1 ++ [p]) F' μ' ∧ Rel G F' μ' S H ∧ compL S1.length g t e (wipeR ρ vs) (ds.drop i) S = .ok u S9, ⟨ds.length, by simp, Nat.zero_le _, F1, μ1 ++ [p], _, Ext.refl _ _, r2, hres⟩, ?_⟩
    rintro i m H2 ⟨rfl, hi, F2, μ2, S2, x2, r2, c2⟩
    have xa := ext_app F1 μ1 p
    by_cases hlt : i < ds.length
    · refine .inr ⟨y1.go i F2 μ2 S2 H2 (xa.trans x2) r2 hlt, fun H' => ∃ F' μ' S, Ext F1 (μ1 ++ [p]) F' μ' ∧ Rel G F' μ' S H' ∧ compL S1.length g t e (wipeR ρ vs) (ds.drop (i + 1)) S = .ok u S9, fun H' h => ⟨ds.length - (i + 1), by omega, rfl, hlt, h⟩, fun x H' hy => ?_⟩
      have hd : ds[i]? = some ds[i] := List.getElem?_eq_getElem hlt
      obtain ⟨F3, μ3, x3, r3, p3⟩ := y1.yld i F2 μ2 S2 H2 x H' _ (xa.trans x2) r2 hd hy
      rw [List.drop_eq_getElem_cons hlt] at c2
      simp only [compL] at c2
      cases hg : g ds[i] (wipeR ρ vs) S2 with
      | none => rw [hg] at c2; cases c2
      | some w =>
        rw [hg] at c2
        simp only at c2
        have e3 : EnvR G F3 μ3 (wipeR ρ vs) (wipe σ vs) := wipeR_ok ((he.mono x1).mono ((xa.trans x2).trans x3)) vs
        refine ⟨F3, μ3, wipeR ρ vs, S2, ds[i], w.1, w.2, e3, r3, p3, hg, fun F4 μ4 σ4 H4 x4 r4 e4 w4 => ⟨?_, F4, μ4, w.1, w.2, e4, r4, ?_⟩⟩
        · rw [w4]
          exact wipe_sub fun i hi => hi
        · cases ht : t w.1 w.2 with
          | bad => rw [ht] at c2; cases c2
          | ex _ _ _ _ => rw [ht] at c2; cases c2
          | ok b S5 =>
            rw [ht] at c2
            simp only [noEx_ok, bind_ok] at c2
            intro F5 μ5 b' H5 x5 r5 hb'
            cases (show b = b' from hb')
            cases b with
            | false =>
              refine iteF ?_
              rw [if_neg Bool.false_ne_true] at c2
              exact ⟨F5, μ5, S5, ((x2.trans x3).trans x4).trans x5, r5, c2⟩
            | true =>
              refine iteT ?_
              rw [if_pos rfl] at c2
              refine ⟨F5, μ5, w.1, S5, e4.mono x5, r5, ?_⟩
              cases hee : e w.1 S5 with
              | bad => rw [hee] at c2; cases c2
              | ex _ _ _ _ => rw [hee] at c2; cases c2
              | ok y S6 =>
                rw [hee] at c2
                simp only [noEx_ok, bind_ok] at c2
                intro F6 μ6 v6 H6 x6 r6 p6
                have xx := (((x2.trans x3).trans x4).trans x5).trans x6
                have hp6 := xx.mu _ _ hpl
                unfold pushAt at c2
                split at c2
                · rename_i acc hacc
                  obtain ⟨as, hf, hh, rs⟩ := r6.lstAt hp6 hacc
                  by_cases hsz : acc.length < sizeLine
                  · rw [if_pos hsz] at c2
                    refine ⟨as, hh, by rw [← rs.length]; exact hsz, F6, μ6, _, xx, r6.write (o := .lst (as ++ [v6])) (e := .lst (acc ++ [y])) hp6 hf (.lst hf upd_same (rs.app (.cons p6 .nil))), c2⟩
                  · rw [if_neg hsz] at c2
                    cases c2
                · cases c2
    · refine .inl ⟨y1.stop i F2 μ2 S2 H2 (xa.trans x2) r2 (by omega), ?_⟩
      rw [List.drop_eq_nil_of_le (by omega)] at c2
      cases c2
      exact q9 F2 μ2 _ H2 (xa.trans x2) r2 (.loc (x2.mu _ _ hpl))
structure SQ (G : Gm) (X : Cx) (W : WX) (ifs : List Expr) (m : MB) : Prop where
  ex : PTs X ifs (tOfT G W m)
theorem sq_nil : SQ G X W [] mYes := ⟨⟨fun pins s σ H Q I hw => pts_nil.run pins s σ H Q I (by
  obtain ⟨F, μ, ρ, S, he, hr, hp⟩ := hw
  exact hp F μ true H (Ext.refl _ _) hr rfl)⟩⟩
theorem sq_one {c : Expr} {m : MB} (h : ST G X W c m) : SQ G X W [c] m := ⟨pts_one h.pt⟩
theorem Ok.blk (ok : Ok G X k W) (s : Shared) (H : Hp) (scope : Scope) (cenv : Env) (fp : List Addr) : Ok G (X.blk s H scope cenv fp) k WN :=
  ⟨ok.K, ok.mg, ok.calm, ok.nd, ok.room, ok.gd, takes0, PassesOwn.never⟩
theorem se_lc {elt tg iter : Expr} {ifs : List Expr} {scope : Scope} {own : List (Str × Nat)} {pos : Pos} {l : ML} {g : MG} {t : MB} {e : ME} (ok : Ok G X k W) (hi : SI G X W tg iter l)
    (hg : ∀ (s : Shared) (H : Hp) (C : Addr) (cl : List (Str × Addr)) (fp : List Addr), SO G (X.blk s H scope (compEnvC scope cl C X.env) fp) (own.map (·.2)) tg g)
    (ht : ∀ (s : Shared) (H : Hp) (C : Addr) (cl : List (Str × Addr)) (fp : List Addr), Ok G (X.blk s H scope (compEnvC scope cl C X.env) fp) k WN → SQ G (X.blk s H scope (compEnvC scope cl C X.env) fp) WN ifs t)
    (he : ∀ (s : Shared) (H : Hp) (C : Addr) (cl : List (Str × Addr)) (fp : List Addr), Ok G (X.blk s H scope (compEnvC scope cl C X.env) fp) k WN → SE G (X.blk s H scope (compEnvC scope cl C X.env) fp) WN elt e)
    (bk : BlkOk X.N X.env.scope scope own := by exact blkOk_by (by decide +kernel)) (hs : ∀ x, foldedSetIterable iter X.env x = pure x := by intro _; rfl) :
    SE G X W (.ListComp elt [⟨tg, iter, ifs, 0⟩] scope pos) (mComp l (own.map (·.2)) g t e) := by
  obtain ⟨ti, pi, ii⟩ := hi
  exact ⟨_, pe_lc ok.calm ok.nd pi bk (fun s H C cl fp => (hg s H C cl fp).pg) (fun s H C cl fp => (ht s H C cl fp (ok.blk _ _ _ _ _)).ex) (fun s H C cl fp => (he s H C cl fp (ok.blk _ _ _ _ _)).pe) hs, imp_lc ii⟩
/-- the value is told in one way or another -/
def mId (m : ME) : ME := m
theorem ss_setLc {i : Nat} {y : Str} {py : Pos} {elt tg iter : Expr} {ifs : List Expr} {scope : Scope} {own : List (Str × Nat)} {pos spos : Pos} {l : ML} {g : MG} {t : MB} {e : ME} (wr : ME → ME) (hwr : ∀ (t : TE) (m : ME), ImpE G W (Rep G) t m → ImpE G W (Rep G) t (wr m)) (ok : Ok G X k W) (hi : SI G X W tg iter l)
    (hg : ∀ (s : Shared) (H : Hp) (C : Addr) (cl : List (Str × Addr)) (fp : List Addr), SO G (X.blk s H scope (compEnvC scope cl C X.env) fp) (own.map (·.2)) tg g)
    (ht : ∀ (s : Shared) (H : Hp) (C : Addr) (cl : List (Str × Addr)) (fp : List Addr), Ok G (X.blk s H scope (compEnvC scope cl C X.env) fp) k WN → SQ G (X.blk s H scope (compEnvC scope cl C X.env) fp) WN ifs t)
    (he : ∀ (s : Shared) (H : Hp) (C : Addr) (cl : List (Str × Addr)) (fp : List Addr), Ok G (X.blk s H scope (compEnvC scope cl C X.env) fp) k WN → SE G (X.blk s H scope (compEnvC scope cl C X.env) fp) WN elt e)
    (hy : X.N[i]? = some y := by rfl) (hyl : X.env.scope.names.lookup y = some .local := by rfl)
    (hsw : swapsWith (.ListComp elt [⟨tg, iter, ifs, 0⟩] scope pos) (some (.Name y py)) spos.line X.env = pure true := by exact sw_true rfl rfl rfl (by decide +kernel))
    (bk : BlkOk X.N X.env.scope scope own := by exact blkOk_by (by decide +kernel)) (hs : ∀ x, foldedSetIterable iter X.env x = pure x := by intro _; rfl) :
    SS G X W (.Assign [.Name y py] (.ListComp elt [⟨tg, iter, ifs, 0⟩] scope pos) spos) (sAsg (wr (mComp l (own.map (·.2)) g t e)) (gNm i)) := by
  obtain ⟨ti, pi, ii⟩ := hi
  refine ⟨_, ps_setLc ok.calm ok.nd hy hyl hsw pi bk (fun s H C cl fp => (hg s H C cl fp).pg) (fun s H C cl fp => (ht s H C cl fp (ok.blk _ _ _ _ _)).ex) (fun s H C cl fp => (he s H C cl fp (ok.blk _ _ _ _ _)).pe) hs, fun ρ S σ H F μ Ds he hr hp => ?_⟩
  refine hwr _ _ (imp_lc ii) ρ S σ H F μ _ he hr (PostS.res hp he fun d S1 F1 μ1 v H1 x1 r1 p1 q1 => ?_)
  exact q1 F1 μ1 _ H1 (Ext.refl _ _) r1 ((he.mono x1).set i p1)
theorem wr_frz : ∀ (t : TE) (m : ME), ImpE G W (Rep G) t m → ImpE G W (Rep G) t (mCut (mFrz m)) := fun _ _ h => imp_cut (imp_frz h)
theorem wr_id : ∀ (t : TE) (m : ME), ImpE G W (Rep G) t m → ImpE G W (Rep G) t (mId m) := fun _ _ h => h
end
end Z

set_option Elab.async false
set_option linter.all false
set_option maxRecDepth 100000
set_option maxHeartbeats 2000000
set_option autoImplicit false
namespace Z
open PySem PySem.Spec L2

/-! ## isinstance -/
inductive Tg where
  | ty (n : String)
  | cls (c : Nat)
  | exc (c : Nat)
  deriving DecidableEq
def tgV (G : Gm) : Tg → Value
  | .ty n => .type n
  | .cls c => .ref (G.cls c)
  | .exc c => .ref (G.cls c)
def tagD (S : Store) : D → Option Tg
  | .non => some (.ty "NoneType")
  | .bl _ => some (.ty "bool")
  | .int _ => some (.ty "int")
  | .str _ => some (.ty "str")
  | .tup _ => some (.ty "tuple")
  | .lst _ => some (.ty "list")
  | .dct _ _ => some (.ty "dict")
  | .ins c _ _ => some (.cls c)
  | .exn c _ _ => some (.exc c)
  | .loc n =>
    match S[n]? with
    | some (.lst _) => some (.ty "list")
    | some (.dct _ _) => some (.ty "dict")
    | some (.ins c _ _) => some (.cls c)
    | _ => none
  | _ => none
def tgOf : D → Option Tg
  | .ty n => some (.ty n)
  | .cls c => some (.cls c)
  | _ => none
def tgsOf : List D → Option (List Tg)
  | [] => some []
  | d :: r => match tgOf d, tgsOf r with
    | some t, some ts => some (t :: ts)
    | _, _ => none
abbrev Tab := Tg → Tg → Option Bool
def anyTab (tab : Tab) (t : Tg) : List Tg → Option Bool
  | [] => some false
  | c :: r => match tab t c with
    | some true => some true
    | some false => anyTab tab t r
    | none => none
def isiD (tab : Tab) : MF := fun ds S =>
  match ds with
  | [x, .tup ts] => resO ((tagD S x).bind fun a => (tgsOf ts).bind fun cs => (anyTab tab a cs).map D.bl) S
  | [x, t] => resO ((tagD S x).bind fun a => (tgOf t).bind fun c => (tab a c).map D.bl) S
  | _ => .bad
/-- what is told of a class of one's own -/
structure ClsT (K : PySem.W.Frag) (C : Addr) : Prop where
  cl : Cls K C
  ha : PySem.W.findIn K (.ref C) "__class__" = some (some (.builtin "object.__class__"))
  hn : PySem.W.specialIn K (.builtin "object.__class__") "__get__" = some (some (.builtin "getset_descriptor.__get__"))
  htk : PySem.W.takesIn K (.builtin "object.__class__") = some true
  hm : PySem.W.mroIn K C (.type "object") = some true
/-- what is told of an own error class -/
structure ExcT (K : PySem.W.Frag) (C : Addr) : Prop where
  cl : (PySem.W.clsIn K C).isSome = true
  ga : PySem.W.findIn K (.ref C) "__getattribute__" = some (some (.builtin "BaseException.__getattribute__"))
  gt : PySem.W.findIn K (.ref C) "__getattr__" = some none
  sB : PySem.W.subIn K (.ref C) (.type "BaseException") = some true
  ha : PySem.W.findIn K (.ref C) "__class__" = some (some (.builtin "object.__class__"))
  hn : PySem.W.specialIn K (.builtin "object.__class__") "__get__" = some (some (.builtin "getset_descriptor.__get__"))
  tk : PySem.W.takesIn K (.builtin "object.__class__") = some true
  hm : PySem.W.mroIn K C (.type "object") = some true
  hd : PySem.W.hasDictIn K C = true
/-- a value's type, errors that were caught among them -/
inductive TyZ (K : PySem.W.Frag) (H : Hp) : V → Value → Prop where
  | base {x : V} {t : Value} (h : TyX K H x t) : TyZ K H x t
  | exn {a C : Addr} {od : Option Addr} (h : H a = some (xO C od a)) (hd : ∀ dx, od = some dx → ∃ fs, H dx = some (.xd fs)) (T : ExcT K C) : TyZ K H (.ref a) (.ref C)
structure TabOk (G : Gm) (tab : Tab) : Prop where
  exc : ∀ c b r, tab (.exc c) b = some r → ExcT G.K (G.cls c)
  kit : ∀ a b r, tab a b = some r → PySem.W.kitOne G.K (tgV G a) (tgV G b) = some r
  cls : ∀ c b r, tab (.cls c) b = some r → ClsT G.K (G.cls c)
section
variable {G : Gm} {X : Cx} {W : WX} {k : Nat}
theorem tag_ok {F : Hp} {μ : List Addr} {S : Store} {H : Hp} {d : D} {v : V} {a : Tg} (hr : Rel G F μ S H) (r : Rep G F μ d v) (h : tagD S d = some a) (hc : ∀ c, a = .cls c → ClsT G.K (G.cls c)) (hx : ∀ c, a = .exc c → ExcT G.K (G.cls c)) : TyZ G.K H v (tgV G a) := by
  cases r with
  | exn h1 h2 _ _ =>
    cases h
    refine .exn (hr.sub _ _ h1) (fun dx e => ?_) (hx _ rfl)
    subst e
    exact ⟨_, hr.sub _ _ h2⟩
  | non => cases h; exact .base (.base .non)
  | bl b => cases h; exact .base (.base (.bl b))
  | int b => cases h; exact .base (.base (.int b))
  | str b => cases h; exact .base (.base (.str b))
  | tup hs _ =>
    cases h
    rcases same_sqT hr.sub hs with (q | ⟨o, q⟩) | ⟨o, its, n, q, q1, _⟩
    · exact .base (.base (.tup q))
    · exact .base (.fTuple q)
    · exact .base (.kTuple q q1)
  | lst hs _ => cases h; exact .base (.base (.lst (hr.sub _ _ hs)))
  | dct hs _ _ => cases h; exact .base (.base (.dK (hr.sub _ _ hs)))
  | ins hs _ _ =>
    cases h
    have T := hc _ rfl
    exact .base (.base (.ins (hr.sub _ _ hs) T.cl T.ha T.hn T.htk T.hm))
  | @loc n p hm =>
    simp only [tagD] at h
    split at h
    · rename_i l hs
      cases h
      obtain ⟨xs, _, q, _⟩ := hr.lstAt hm hs
      exact .base (.base (.lst q))
    · rename_i l hs
      cases h
      obtain ⟨xs, _, q, _⟩ := hr.dctAt hm hs
      exact .base (.base (.dK q))
    · rename_i l hs
      cases h
      obtain ⟨dx, xs, _, q, _⟩ := hr.insAt hm hs
      have T := hc _ rfl
      exact .base (.base (.ins q T.cl T.ha T.hn T.htk T.hm))
    · cases h
  | _ => cases h
theorem tg_ok {F : Hp} {μ : List Addr} {d : D} {v : V} {a : Tg} (r : Rep G F μ d v) (h : tgOf d = some a) : ClsV v (tgV G a) := by
  cases r with
  | ty n => cases h; exact .ty n
  | cls c => cases h; exact .own _
  | _ => cases h
theorem tgs_ok {F : Hp} {μ : List Addr} : ∀ {ds : List D} {vs : List V} {ts : List Tg}, Reps G F μ ds vs → tgsOf ds = some ts → PySem.Paired ClsV vs (ts.map (tgV G))
  | [], _, _, r, h => by cases r; cases h; exact .nil
  | d :: ds, _, _, r, h => by
    cases r with
    | cons r1 r2 =>
      simp only [tgsOf] at h
      cases e1 : tgOf d with
      | none => rw [e1] at h; cases h
      | some t =>
        cases e2 : tgsOf ds with
        | none => rw [e1, e2] at h; cases h
        | some ts =>
          rw [e1, e2] at h
          cases h
          exact .cons (tg_ok r1 e1) (tgs_ok r2 e2)
theorem anyTab_ok {tab : Tab} (T : TabOk G tab) {a : Tg} : ∀ {cs : List Tg} {r : Bool}, anyTab tab a cs = some r → PySem.W.kitAny G.K (tgV G a) (cs.map (tgV G)) = some r
  | [], _, h => by cases h; rfl
  | c :: cs, r, h => by
    simp only [anyTab] at h
    cases e : tab a c with
    | none => rw [e] at h; cases h
    | some b =>
      rw [e] at h
      refine kitAny_cons (T.kit a c b e) (fun hb => ?_) fun hb => ?_
      · subst hb
        exact anyTab_ok T h
      · subst hb
        cases h
        rfl
theorem anyTab_exc {tab : Tab} (T : TabOk G tab) {a : Tg} {cs : List Tg} {r : Bool} (hne : cs ≠ []) (h : anyTab tab a cs = some r) : ∀ c, a = .exc c → ExcT G.K (G.cls c) := by
  intro c e
  subst e
  cases cs with
  | nil => exact absurd rfl hne
  | cons b cs =>
    simp only [anyTab] at h
    cases e : tab (.exc c) b with
    | none => rw [e] at h; cases h
    | some q => exact T.exc c b q e
theorem anyTab_cls {tab : Tab} (T : TabOk G tab) {a : Tg} {cs : List Tg} {r : Bool} (hne : cs ≠ []) (h : anyTab tab a cs = some r) : ∀ c, a = .cls c → ClsT G.K (G.cls c) := by
  intro c e
  subst e
  cases cs with
  | nil => exact absurd rfl hne
  | cons b cs =>
    simp only [anyTab] at h
    cases e : tab (.cls c) b with
    | none => rw [e] at h; cases h
    | some q => exact T.cls c b q e
def isiM (tab : Tab) : MF := fun ds S =>
  match ds with
  | [x, t] =>
    match t with
    | .tup ts => if ts.isEmpty = false then resO ((tagD S x).bind fun a => (tgsOf ts).bind fun cs => (anyTab tab a cs).map D.bl) S else .bad
    | t => resO ((tagD S x).bind fun a => (tgOf t).bind fun c => (tab a c).map D.bl) S
  | _ => .bad
def rZ1 (K : PySem.W.Frag) : List V → Hp → VK → Prop := fun xs H Q => ∃ (x c : V) (t u : Value) (b : Bool), xs = [x, c] ∧ ClsV c u ∧ TyZ K H x t ∧ PySem.W.kitOne K t u = some b ∧ Q (.bl b) H
def rZ2 (K : PySem.W.Frag) : List V → Hp → VK → Prop := fun xs H Q => ∃ (x : V) (tp : Addr) (cs : List V) (t : Value) (us : List Value) (b : Bool), xs = [x, .ref tp] ∧ H tp = some (.tup cs) ∧ PySem.Paired ClsV cs us ∧ TyZ K H x t ∧ PySem.W.kitAny K t us = some b ∧ Q (.bl b) H
def rZ3 (K : PySem.W.Frag) : List V → Hp → VK → Prop := fun xs H Q => ∃ (x : V) (tp : Addr) (dd : Option Addr) (us : List Value) (n : Nat) (sl : Array (Option Value)) (t : Value) (b : Bool), xs = [x, .ref tp] ∧
  K.lookup tp = some ⟨.type "tuple", dd, .seq us.toArray n, sl⟩ ∧ TyZ K H x t ∧ PySem.W.kitAny K t us = some b ∧ Q (.bl b) H
theorem kitZ {pins : List (Addr × Obj)} {σ : L2.St} {H : Hp} {s : Shared} {x : V} {u t : Value} (I : Inv X pins σ H s) (rx : RelV x u) (ty : TyZ X.K H x t) : ∃ P : Heap → Prop, PySem.W.KitX X.K u t P ∧ P s.heap ∧ u ≠ .builtin "__main__.__loader__#opaque" := by
  cases ty with
  | base h => exact kit_of I rx h
  | @exn a C od h hd T =>
    obtain rfl : u = Value.ref a := rx
    have hx : ObjOk X.prog X.w H s.heap a (.ext fun h => ∃ (oe : Obj) (vs : Array Value), h.get? a = some oe ∧ Zc (.ref C) od oe ∧ oe.data = .fields vs) := I.hok a _ h
    obtain ⟨oe, vs, h1, h2, h3⟩ := hx.1
    cases od with
    | none =>
      have J : PySem.W.InstAt s.heap a oe C none := ⟨h1, h2.1, by unfold PySem.W.notCls; rw [h3] <;> rfl, by rw [h2.2]; exact True.intro⟩
      exact ⟨_, PySem.W.kitx_exc T.cl T.ga T.gt T.sB T.ha T.hn T.tk T.hm, J, fun z => nomatch z⟩
    | some dx =>
      obtain ⟨fs, hf⟩ := hd dx rfl
      have hy : ObjOk X.prog X.w H s.heap dx (.xd fs) := I.hok dx _ hf
      obtain ⟨mA, hns, _⟩ := hy
      obtain ⟨od, ho, _⟩ := lookIn_ns hns
      have J : PySem.W.InstAt s.heap a oe C (some od) := ⟨h1, h2.1, by unfold PySem.W.notCls; rw [h3] <;> rfl, by rw [h2.2]; exact ho⟩
      exact ⟨_, PySem.W.kitx_exc T.cl T.ga T.gt T.sB T.ha T.hn T.tk T.hm, J, fun z => nomatch z⟩
theorem cr_z1 : CallR X (.builtin "isinstance") (rZ1 X.K) := by
  intro pins s σ H xs us Q I r h
  obtain ⟨x, c, t, u, b, rfl, k, ty, e, q⟩ := h
  obtain ⟨u1, u2, rfl, r1, r2⟩ := vals2 r
  have e2 := k.eq r2
  subst e2
  obtain ⟨P, Z, p, hx⟩ := kitZ I r1 ty
  exact PySem.W.kia_one Z I.kIn p e hx (fun tk => ⟨.bl b, H, I.tok tk, rfl, q⟩)
theorem cr_z2 : CallR X (.builtin "isinstance") (rZ2 X.K) := by
  intro pins s σ H xs us Q I r h
  obtain ⟨x, tp, cs, t, ws, b, rfl, hT, k, ty, e, q⟩ := h
  obtain ⟨u1, u2, rfl, r1, r2⟩ := vals2 r
  cases (show u2 = Value.ref tp from r2)
  obtain ⟨P, Z, p, hx⟩ := kitZ I r1 ty
  have hT' : ObjOk X.prog X.w H s.heap tp (.tup cs) := I.hok tp _ hT
  obtain ⟨_, its, rv, o, h1, h2, n, h3⟩ := hT'
  have e3 := ClsV.all k rv
  subst e3
  obtain ⟨oc, od, dt, sl⟩ := o
  simp only at h2 h3
  subst h2 h3
  exact PySem.W.kia_tup Z I.kIn p h1 e hx (fun tk => ⟨.bl b, H, I.tok tk, rfl, q⟩)
theorem cr_z3 : CallR X (.builtin "isinstance") (rZ3 X.K) := by
  intro pins s σ H xs us Q I r h
  obtain ⟨x, tp, dd, ws, n, sl, t, b, rfl, hk, ty, e, q⟩ := h
  obtain ⟨u1, u2, rfl, r1, r2⟩ := vals2 r
  cases (show u2 = Value.ref tp from r2)
  obtain ⟨P, Z, p, hx⟩ := kitZ I r1 ty
  exact PySem.W.kia_tup Z I.kIn p (I.kIn _ _ hk) e hx (fun tk => ⟨.bl b, H, I.tok tk, rfl, q⟩)
theorem ci_isi {tab : Tab} (T : TabOk G tab) : CallI G (isiM tab) (fun xs H Q => rZ1 G.K xs H Q ∨ rZ2 G.K xs H Q ∨ rZ3 G.K xs H Q) := by
  intro W F μ σ S H ds us Q hr hs hp
  unfold isiM at hp
  split at hp
  · rename_i x t
    cases hs with
    | cons r1 r2 =>
      cases r2 with
      | cons r2 r3 =>
        cases r3
        split at hp
        · rename_i ts
          obtain ⟨hne, hp⟩ := post_if hp
          obtain ⟨d, e, hp⟩ := post_resO1 hp
          cases e1 : tagD S x with
          | none => rw [e1] at e; cases e
          | some a =>
            cases e2 : tgsOf ts with
            | none => rw [e1, e2] at e; cases e
            | some cs =>
              cases e3 : anyTab tab a cs with
              | none => rw [e1, e2] at e; simp [e3] at e
              | some b =>
                rw [e1, e2] at e
                simp [e3] at e
                subst e
                cases r2 with
                | tup hs2 hr2 =>
                  have hcs : cs ≠ [] := fun z => by
                    subst z
                    cases ts with
                    | nil => cases hne
                    | cons t r =>
                      simp only [tgsOf] at e2
                      split at e2 <;> cases e2
                  have ty := tag_ok hr r1 e1 (anyTab_cls T hcs e3) (anyTab_exc T hcs e3)
                  have pr := tgs_ok hr2 e2
                  rcases hs2 with q | ⟨o, its, n, q, q1, q2, q3, q4⟩
                  · exact .inr (.inl ⟨_, _, _, _, _, b, rfl, hr.sub _ _ q, pr, ty, anyTab_ok T e3, post_ok hr (.bl _) hp⟩)
                  · obtain ⟨oc, od, dt, sl⟩ := o
                    simp only at q1 q2
                    subst q1
                    subst q2
                    have e4 := ClsV.all pr q4
                    refine .inr (.inr ⟨_, _, od, cs.map (tgV G), n, sl, _, b, rfl, ?_, ty, anyTab_ok T e3, post_ok hr (.bl _) hp⟩)
                    rw [q, ← e4]
        · obtain ⟨d, e, hp⟩ := post_resO1 hp
          cases e1 : tagD S x with
          | none => rw [e1] at e; cases e
          | some a =>
            cases e2 : tgOf t with
            | none => rw [e1, e2] at e; cases e
            | some c =>
              cases e3 : tab a c with
              | none => rw [e1, e2] at e; simp [e3] at e
              | some b =>
                rw [e1, e2] at e
                simp [e3] at e
                subst e
                exact .inl ⟨_, _, _, _, b, rfl, tg_ok r2 e2, tag_ok hr r1 e1 (fun c' hc' => by subst hc'; exact T.cls c' c b e3) (fun c' hc' => by subst hc'; exact T.exc c' c b e3), T.kit a c b e3, post_ok hr (.bl _) hp⟩
  · exact hp.elim
theorem cr_isi (hK : X.K = G.K) : CallR X (.builtin "isinstance") (fun xs H Q => rZ1 G.K xs H Q ∨ rZ2 G.K xs H Q ∨ rZ3 G.K xs H Q) := by
  rw [← hK]
  exact cr_z1.or (cr_z2.or cr_z3)
/-- built-in types alone -/
def tab0 : Tab := fun a b =>
  match a, b with
  | .ty m, .ty n => if m ∈ ["NoneType", "bool", "int", "str", "tuple", "list", "dict"] ∧ n ∈ ["int", "bool", "str", "list", "tuple", "dict"] then some (decide (m = n) || (decide (m = "bool") && decide (n = "int"))) else none
  | _, _ => none
theorem kit0 : ∀ m ∈ ["NoneType", "bool", "int", "str", "tuple", "list", "dict"], ∀ n ∈ ["int", "bool", "str", "list", "tuple", "dict"], kitB m n = some (decide (m = n) || (decide (m = "bool") && decide (n = "int"))) := by decide +kernel
theorem tab0_ok : TabOk G tab0 where
  kit := fun a b r h => by
    unfold tab0 at h
    split at h
    · split at h
      · rename_i m n hm
        cases h
        exact kit_ty (kit0 m hm.1 n hm.2)
      · cases h
    · cases h
  cls := fun c b r h => by cases h
  exc := fun c b r h => by cases h

/-! ## repr -/
def rRepr (K : PySem.W.Frag) : List V → Hp → VK → Prop := fun xs H Q => ∃ x p, xs = [x] ∧ Dp K H x p ∧ SeqAt.shaped p = true ∧ p.showable = true ∧ p.shown.length ≤ sizeLine ∧ Q (.str p.shown) H
theorem cr_repr (hgd : X.A.guards = some []) (hr : Room k X.A) : CallR X (.builtin "repr") (rRepr X.K) := by
  intro pins s σ H xs us Q I rv h
  obtain ⟨x, p, rfl, hd, hsh, hs, hz, q⟩ := h
  obtain ⟨u, rfl, ru⟩ := vals1 rv
  have hu := hr.un
  have hsh' : p.canLay0 = true ∧ p.depth ≤ 64 := by
    unfold SeqAt.shaped at hsh
    rw [Bool.and_eq_true, decide_eq_true_eq] at hsh
    exact hsh
  have fin : ∀ (h' : Heap) (t : Tok) (tk : Nat), (∀ b o, s.heap.get? b = some o → h'.get? b = some o) → EP X pins σ Q (.str p.shown t) { s with heap := h', toks := tk } := fun h' t tk hk => ⟨.str p.shown, H, I.kept hk, ⟨t, rfl⟩, q⟩
  have fin0 : ∀ (t : Tok) (tk : Nat), EP X pins σ Q (.str p.shown t) { s with toks := tk } := fun t tk => ⟨.str p.shown, H, I.tok tk, ⟨t, rfl⟩, q⟩
  cases hd with
  | non => cases ru; exact P.repr_of_none (fin0 _ _)
  | bl b => cases ru; exact P.repr_of_bool (fin0 _ _)
  | int i =>
    obtain ⟨t, rfl⟩ := ru
    exact P.repr_of_int (by simpa [PyData.showable] using hs) (fin0 _ _)
  | str z =>
    obtain ⟨t, rfl⟩ := ru
    exact P.repr_of_str (fin0 _ _) (by simpa [PyData.shown] using hz)
  | lst h1 h2 =>
    obtain ⟨as, r⟩ := Dp.reads I _ _ _ (Dp.lst h1 h2) ru
    cases ru
    exact repr_of_reads' r hs (PyData.noDict_hsm (PyData.hasDict_of_canLay _ hsh'.1)) hgd (by have := hsh'.2; omega) (fun _ _ h => h) (fun h' t tk hk => fin h' t tk hk) hz
  | tup h1 h2 =>
    obtain ⟨as, r⟩ := Dp.reads I _ _ _ (Dp.tup h1 h2) ru
    cases ru
    exact repr_of_reads' r hs (PyData.noDict_hsm (PyData.hasDict_of_canLay _ hsh'.1)) hgd (by have := hsh'.2; omega) (fun _ _ h => h) (fun h' t tk hk => fin h' t tk hk) hz
def reprD (x : D) (S : Store) : Res D :=
  match toPS S x with
  | some p => if SeqAt.shaped p = true ∧ p.showable = true ∧ p.shown.length ≤ sizeLine then .ok (.str p.shown) S else .bad
  | none => .bad
theorem ci_repr (hK : X.K = G.K) : CallI G (f1 reprD) (rRepr X.K) := ci_1 fun W F μ σ S H d v Q hr rd hp => by
  unfold reprD at hp
  split at hp
  · rename_i p hpp
    obtain ⟨⟨h1, h2, h3⟩, hp⟩ := post_if hp
    exact ⟨v, p, rfl, by rw [hK]; exact dp_ok hr rd hpp, h1, h2, h3, post_ok hr (.str _) hp⟩
  · exact hp.elim

/-! ## slices -/
abbrev MO := Env' → Store → Res (Option Int)
def rOI : RR (Option Int) (Option Int) := fun _ _ a b => a = b
structure SOp (G : Gm) (X : Cx) (W : WX) (e : Option Expr) (m : MO) : Prop where
  ex : ∃ t, PO X e t ∧ ImpE G W rOI t m
def mNoP : MO := fun _ S => .ok none S
def asInt : D → Option Int
  | .int i => some i
  | _ => none
def mPart (a : ME) : MO := fun ρ S => (a ρ S).bind fun d S1 => (resO (asInt d) S1).bind fun i S2 => .ok (some i) S2
theorem sop_none : SOp G X W none mNoP := ⟨_, po_none, fun ρ S σ H F μ Q he hr hp => hp F μ none H (Ext.refl _ _) hr rfl⟩
theorem sop_some {e : Expr} {m : ME} (h : SE G X W e m) : SOp G X W (some e) (mPart m) := by
  obtain ⟨t, p, i⟩ := h
  refine ⟨_, po_some p, fun ρ S σ H F μ Q he hr hp => ?_⟩
  refine i ρ S σ H F μ _ he hr (Post.bind hp fun d S1 F1 μ1 v H1 x1 r1 p1 q1 => ?_)
  obtain ⟨n, e, q⟩ := post_bindO q1
  cases d with
  | int j =>
    cases e
    cases p1
    exact ⟨_, rfl, q F1 μ1 _ H1 (Ext.refl _ _) r1 rfl⟩
  | _ => cases e
def cutL {α : Type} (xs : List α) (lo hi : Option Int) : List α := (xs.drop (HT.sIx xs.length 0 lo)).take (HT.sIx xs.length xs.length hi - HT.sIx xs.length 0 lo)
/-- a slice; a list's slice is a new list (never changed behind) -/
def sliceD (d : D) (lo hi : Option Int) (S : Store) : Res D :=
  match d with
  | .str x => if x.length ≤ sizeLine then .ok (.str (cutS x lo hi)) S else .bad
  | .tup l => .ok (.tup (cutL l lo hi)) S
  | d =>
    match itemsD S d with
    | some l => .ok (.lst (cutL l lo hi)) S
    | none => .bad
def mSlice (a : ME) (lo hi : MO) : ME := fun ρ S => (a ρ S).bind fun d S1 => (lo ρ S1).bind fun l S2 => (hi ρ S2).bind fun h S3 => sliceD d l h S3
theorem cutL_rep {F : Hp} {μ : List Addr} {l : List D} {xs : List V} (r : Reps G F μ l xs) (lo hi : Option Int) : Reps G F μ (cutL l lo hi) (cutV xs lo hi) := by
  unfold cutL cutV
  rw [r.length]
  exact (r.drop _).take _
theorem cutL_all {α : Type} {l : List α} {lo hi : Option Int} (h : HT.sIx l.length 0 lo = 0 ∧ HT.sIx l.length l.length hi = l.length) : cutL l lo hi = l := by
  unfold cutL
  rw [h.1, h.2]
  simp
theorem se_slice {e : Expr} {lo hi : Option Expr} {p2 pos : Pos} {m : ME} {a b : MO} (hK : X.K = G.K) (he : SE G X W e m) (hl : SOp G X W lo a) (hh : SOp G X W hi b) : SE G X W (.Subscript e (.Slice lo hi none p2) pos) (mSlice m a b) := by
  obtain ⟨t, p, i⟩ := he
  obtain ⟨tl, pl, il⟩ := hl
  obtain ⟨th, ph, ih⟩ := hh
  refine ⟨_, pe_slice (sl_str.or (sl_tupA.or sl_list)) p pl ph, fun ρ S σ H F μ Q he hr hp => ?_⟩
  refine i ρ S σ H F μ _ he hr (Post.bind hp fun d S1 F1 μ1 v H1 x1 r1 p1 q1 => ?_)
  refine il ρ S1 σ H1 F1 μ1 _ (he.mono x1) r1 (Post.bind q1 fun l S2 F2 μ2 l' H2 x2 r2 e2 q2 => ?_)
  refine ih ρ S2 σ H2 F2 μ2 _ ((he.mono x1).mono x2) r2 (Post.bind q2 fun h S3 F3 μ3 h' H3 x3 r3 e3 q3 => ?_)
  cases (show l = l' from e2)
  cases (show h = h' from e3)
  have p3 := (p1.mono x2).mono x3
  unfold sliceD at q3
  split at q3
  · cases p3
    obtain ⟨hz, q⟩ := post_if q3
    exact .inl ⟨_, rfl, hz, post_ok r3 (.str _) q⟩
  · cases p3 with
    | tup hs hrs =>
      refine .inr (.inl ⟨_, _, rfl, by rw [hK]; exact same_sqT r3.sub hs, fun hw => ?_, fun hw p hpn => ?_⟩)
      · rw [← hrs.length] at hw
        rw [cutL_all hw] at q3
        exact post_ok r3 (.tup hs hrs) q3
      · obtain ⟨x, rr⟩ := r3.newF (.tup _) hpn
        exact q3 _ _ _ _ x rr (.tup (TupF.of upd_same) ((cutL_rep hrs _ _).mono x))
  · rename_i hns hnt
    split at q3
    · rename_i l hl
      have hlist : ∃ a xs, v = .ref a ∧ Reps G F3 μ3 l xs ∧ SqL G.K H3 a xs := by
        cases p3 with
        | tup hs hrs => exact absurd rfl (hnt _)
        | lst hs hrs =>
          cases hl
          exact ⟨_, _, rfl, hrs, SqL.of (r3.sub _ _ hs)⟩
        | kst hs hrs =>
          cases hl
          exact ⟨_, _, rfl, hrs, same_sqL r3.sub hs⟩
        | @loc m a hm =>
          simp only [itemsD] at hl
          split at hl
          · rename_i l' hs
            cases hl
            obtain ⟨xs, hf, ho, h2⟩ := r3.lstAt hm hs
            exact ⟨_, _, rfl, h2, SqL.of ho⟩
          · cases hl
        | _ => cases hl
      obtain ⟨a, xs, rfl, hrs, hs⟩ := hlist
      refine .inr (.inr ⟨a, xs, rfl, by rw [hK]; exact hs, fun p hpn => ?_⟩)
      obtain ⟨x, rr⟩ := r3.newF (.lst _) hpn
      exact q3 _ _ _ _ x rr (.lst upd_same ((cutL_rep hrs _ _).mono x))
    · exact q3.elim

/-! ## dicts, written -/
def mDict0 : ME := fun _ S => .ok (.loc S.length) (S ++ [.dct [] []])
theorem se_dict0 {pos : Pos} : SE G X W (.Dict [] [] pos) mDict0 := by
  refine ⟨_, pe_dnewK, fun ρ S σ H F μ Q he hr hp => fun p hpn => ?_⟩
  have rr := hr.newL (e := .dct [] []) (o := .dK []) hpn (.dct (xs := []) (hr.fnone hpn) upd_same rfl .nil)
  exact hp _ _ _ _ (ext_app F μ p) rr (.loc (mu_new hr p))
def dctNew (n : Nat) (ks : List Key) (vs : List D) (S : Store) : Res D :=
  match S[n]? with
  | some (.dct [] []) => if ks.length = vs.length ∧ ks.Nodup ∧ ks.length ≤ 15 then .ok (.loc n) (S.set n (.dct ks vs)) else .bad
  | _ => .bad
def mDict (ks : List Key) (l : ML) : ME := fun ρ S => (l ρ (S ++ [.dct [] []])).bind fun vs S1 => dctNew S.length ks vs S1
/-- written keys, values -/
structure SD (G : Gm) (X : Cx) (W : WX) (pos : Pos) (keys : List (Option Expr)) (vals : List Expr) (ks : List Key) (m : ML) : Prop where
  ex : ∃ trs, PPs X pos keys vals trs ∧ ∀ ρ S σ H F μ (Q : List (V × V) → Hp → Prop), EnvR G F μ ρ σ → Rel G F μ S H → Post G W (fun F μ ds ps => ks.length = ds.length ∧ ∃ xs, ps = (ks.zip xs).map (fun kv => (kV kv.1, kv.2)) ∧ Reps G F μ ds xs) F μ σ Q (m ρ S) → tPairs trs σ H Q
theorem sd_nil {pos : Pos} : SD G X W pos [] [] [] mNilL := ⟨_, pps_nil, fun ρ S σ H F μ Q he hr hp => hp F μ [] H (Ext.refl _ _) hr ⟨rfl, [], rfl, .nil⟩⟩
theorem sd_cons {pos : Pos} {ke v : Expr} {keys : List (Option Expr)} {vals : List Expr} {kk : Key} {ks : List Key} {m : ME} {l : ML} (hk : PE X ke (tC (kV kk))) (hv : SE G X W v m) (hr : SD G X W pos keys vals ks l) : SD G X W pos (some ke :: keys) (v :: vals) (kk :: ks) (mConsL m l) := by
  obtain ⟨t, p, i⟩ := hv
  obtain ⟨trs, q, j⟩ := hr
  refine ⟨_, pps_cons hk p q, fun ρ S σ H F μ Q he hr hp => ?_⟩
  refine i ρ S σ H F μ _ he hr (Post.bind hp fun d S1 F1 μ1 w H1 x1 r1 p1 q1 => ?_)
  cases hl : l ρ S1 with
  | bad => rw [hl] at q1; exact q1.elim
  | ex c ks' vs' S2 =>
    rw [hl] at q1
    exact j ρ S1 σ H1 F1 μ1 _ (he.mono x1) r1 (by rw [hl]; exact q1)
  | ok ds S2 =>
    rw [hl] at q1
    refine j ρ S1 σ H1 F1 μ1 _ (he.mono x1) r1 ?_
    rw [hl]
    intro F2 μ2 ps H2 x2 r2 hps
    obtain ⟨hlen, xs, rfl, rxs⟩ := hps
    exact (show Post G W _ F1 μ1 σ Q (.ok (d :: ds) S2) from q1) F2 μ2 _ H2 x2 r2 ⟨by simp [hlen], w :: xs, rfl, .cons (p1.mono x2) rxs⟩
theorem putK_app {κ : Type} [DecidableEq κ] : ∀ (acc : List (κ × V)) (k : κ) (x : V), (∀ p ∈ acc, p.1 ≠ k) → putK acc k x = acc ++ [(k, x)] := fun acc k x h => by
  refine putK_new x ?_
  unfold valV
  have : acc.find? (fun p => decide (p.1 = k)) = none := List.find?_eq_none.mpr fun p hp => by simpa using h p hp
  rw [this]
  rfl
theorem merge_nodup : ∀ (more acc : List (Key × V)), ((acc ++ more).map (·.1)).Nodup → mergeK acc more = acc ++ more
  | [], acc, _ => by simp [mergeK]
  | p :: more, acc, h => by
    have h1 : ∀ q ∈ acc, q.1 ≠ p.1 := by
      intro q hq e
      rw [List.map_append, List.nodup_append] at h
      exact h.2.2 q.1 (List.mem_map_of_mem hq) p.1 (by simp) e
    show mergeK (putK acc p.1 p.2) more = _
    rw [putK_app acc p.1 p.2 h1, merge_nodup more (acc ++ [(p.1, p.2)]) (by rw [List.append_assoc]; exact h), List.append_assoc]
    rfl
theorem map_zip_fst {α β : Type} : ∀ {ks : List α} {xs : List β}, ks.length = xs.length → (ks.zip xs).map (·.1) = ks
  | [], _, _ => rfl
  | k :: ks, x :: xs, h => by
    simp only [List.zip_cons_cons, List.map_cons]
    rw [map_zip_fst (by simpa using h)]
  | _ :: _, [], h => by cases h
theorem se_dict {pos : Pos} {keys : List (Option Expr)} {vals : List Expr} {ks : List Key} {l : ML} (h : SD G X W pos keys vals ks l) (hall : keys.all (·.isSome) = true := by rfl) (hlen : keys.length = vals.length := by rfl) (h0 : keys ≠ [] := by (intro z; cases z)) (h15 : keys.length ≤ 15 := by decide) : SE G X W (.Dict keys vals pos) (mDict ks l) := by
  obtain ⟨trs, p, i⟩ := h
  refine ⟨_, pe_disp p hall hlen h0 h15, fun ρ S σ H F μ Q he hr hp => fun p hpn => ?_⟩
  have rr := hr.newL (e := .dct [] []) (o := .dK []) hpn (.dct (xs := []) (hr.fnone hpn) upd_same rfl .nil)
  have xa := ext_app F μ p
  refine i ρ (S ++ [.dct [] []]) σ _ F (μ ++ [p]) _ (he.mono xa) rr ?_
  have hp' := Post.mono hp xa
  show Post G W _ F (μ ++ [p]) σ _ (l ρ (S ++ [.dct [] []]))
  refine Post.bind (show Post G W (Rep G) F (μ ++ [p]) σ Q ((l ρ (S ++ [.dct [] []])).bind fun vs S1 => dctNew S.length ks vs S1) from hp') fun ds S1 F1 μ1 ps H1 x1 r1 hps q1 => ?_
  obtain ⟨hlen, xs, rfl, rxs⟩ := hps
  have hm := x1.mu _ _ (mu_new hr p)
  unfold dctNew at q1
  split at q1
  · rename_i hs
    obtain ⟨⟨hl2, hnd, hl15⟩, q⟩ := post_if q1
    obtain ⟨ys, hf, hh, _, hy⟩ := r1.dctAt hm hs
    cases hy
    have hz : (ks.zip xs).length = ks.length := by rw [List.length_zip, ← rxs.length]; omega
    have hlx : ks.length = xs.length := by rw [hlen, rxs.length]
    refine ⟨hh, ks.zip xs, rfl, by rw [hz]; exact hl15, ?_⟩
    have em : mergeK [] (ks.zip xs) = ks.zip xs := by
      have := merge_nodup (ks.zip xs) [] (by rw [List.nil_append, map_zip_fst hlx]; exact hnd)
      simpa using this
    rw [em]
    exact q _ _ _ _ (Ext.refl _ _) (r1.write (e := .dct ks ds) hm hf (.dct hf upd_same hl2 rxs)) (.loc hm)
  · exact q1.elim
end
end Z

set_option Elab.async false
set_option linter.all false
set_option maxRecDepth 100000
set_option maxHeartbeats 2000000
set_option autoImplicit false
namespace Z
open PySem PySem.Spec PyProof.Rows L2

/-! ## the law's own call -/
/-- what is to be shown of a law's meaning -/
def LawHolds (n : Nat) (mf : MF) : Prop := ∀ ns : List Int, ns.length ≤ n → ∃ S, mf [.kst (ns.map D.int)] [] = .ok (.bl true) S
theorem ints_rep {G : Gm} {F : Hp} {μ : List Addr} : ∀ ns : List Int, Reps G F μ (ns.map D.int) (ns.map V.int)
  | [] => .nil
  | n :: ns => .cons (.int n) (ints_rep ns)
section
variable {P : Program} {w : World} {G : Gm} {k : Nat} {fa a : Addr} {fd : FuncData} {x : Str} {mf : MF} {s1 : Shared} {vs : List Value} {ns : List Int} {mb : Str → Option Value}
/-- over a tracked heap in which at most the script stands -/
theorem law_core (hk : G.K.In s1.heap) (hn : s1.heap.Ns mainGlobals G.mg) (hb : s1.heap.Ns builtinsNs mb) (hv : ∀ y : Str, y ≠ "__name__" → mb y = bootBuiltins y) (hl : s1.heap.NoLimit) (hg : s1.gens = #[])
    (ha : s1.heap.get? a = some { cls := .type "list", data := .seq vs.toArray }) (hr : Room k callerA)
    (F : ∀ base : Heap, G.K.In base → base.Ns mainGlobals G.mg → GFn G P w base k fa fd [x] mf) (hbind : ∀ (s : Shared) (u : Value), BindsTo s fd ⟨[u], []⟩ [(x, u)]) (hm : ∃ S, mf [.kst (ns.map D.int)] [] = .ok (.bl true) S)
    (H : Hp) (hS : SqL G.K H a (ns.map V.int)) (hok : HOk P w H s1.heap) (only : ∀ b, H b ≠ none → b = a ∧ G.K.lookup a = none ∧ ∃ o xs, H b = some (.frz o (.lst xs))) :
    codeAny (model P w) callerA (.call (.ref fa) ⟨[.ref a], []⟩) (fun r s' => r = .ok (.ret (.bool true)) ∧ OldK s1.heap s'.heap ∧ s'.os = s1.os ∧ AllBare s'.gens) s1 := by
  have off : ∀ (b : Addr) (o : Obj), s1.heap.get? b = some o → (∀ es ep, o.data = .dict es ep → H b = none) := by
    intro b o e es ep d
    by_cases hz : H b = none
    · exact hz
    · obtain ⟨rfl, _⟩ := only b hz
      rw [ha] at e
      have : o = { cls := .type "list", data := .seq vs.toArray } := (Option.some.inj e).symm
      rw [this] at d
      cases (show Data.seq vs.toArray _ = Data.dict es ep from d)
  have nss : ∀ (b : Addr) (m : Str → Option Value), s1.heap.Ns b m → (hidT s1.heap H).Ns b m := by
    rintro b m ⟨o, es, ep, e, d, r⟩
    exact ⟨o, es, ep, hidT_get e (off b o e es ep d), d, r⟩
  have kin : G.K.In (hidT s1.heap H) := by
    intro b o e
    refine hidT_get (hk b o e) ?_
    by_cases hz : H b = none
    · exact hz
    · obtain ⟨rfl, h2, _⟩ := only b hz
      rw [h2] at e
      cases e
  have md : Mod G.K G.mg (hidT s1.heap H) := by
    obtain ⟨mc, q1, q2⟩ := hl
    exact ⟨kin, nss _ _ hn, ⟨mb, nss _ _ hb, hv⟩, ⟨mc, nss _ _ q1, q2⟩⟩
  have no : ∀ (b : Addr), b ∈ frs ([] : List Env) → False := by
    intro b hb
    simp [frs] at hb
  have e0 : Env0 P w G.K G.mg (hidT s1.heap H) callerA [] s1 H := by
    refine ⟨rfl, md, ?_, Nat.le_of_eq (hidT_size _ _), trivial, fun b hb => (no b hb).elim, hok, .of_eq hg⟩
    intro b o e
    exact of_hidT e
  have run := (F _ kin (nss _ _ hn)).run callerA [] s1 H ⟨[.ref a], []⟩ [.ref a] [.ref a] (fun v _ => v = .bl true) (fun _ _ _ => False) hr rfl e0 (hbind s1 (.ref a)) (.cons rfl .nil)
  refine codeAny_mono (run ?_) ?_
  · obtain ⟨S, hm⟩ := hm
    refine ⟨rfl, H, [], [], [.kst (ns.map D.int)], ⟨fun _ _ h => h, rfl, fun i j a h => by simp at h, fun i a e h => by simp at h, fun i a h => by simp at h⟩, .cons (.kst hS (ints_rep ns)) .nil, ?_⟩
    rw [hm]
    intro F' μ' v H' _ _ r
    cases r
    rfl
  · intro r s' h
    cases r with
    | error e =>
      obtain ⟨_, _, _, _, _, _, _, _, _, _, _, _, z⟩ := h
      exact z.elim
    | ok fl =>
      cases fl with
      | ret u =>
        obtain ⟨v, H', os, bare, un, hok', r', q⟩ := h
        have q' : v = .bl true := q
        subst q'
        cases (show u = Value.bool true from r')
        refine ⟨rfl, OldK.of_keep ?_, os, bare⟩
        intro b o e
        by_cases hz : H b = none
        · exact un.keep b o e hz (no b) (by simp)
        · obtain ⟨rfl, _, ob, xs, z⟩ := only b hz
          have z2 := un.frzs b ob _ z
          have e1 := (hok b _ z).1
          have e2 := (hok' b _ z2).1
          rw [e] at e1
          cases e1
          exact e2
      | _ => exact h.elim
theorem law_G (hk : G.K.In s1.heap) (hn : s1.heap.Ns mainGlobals G.mg) (hb : s1.heap.Ns builtinsNs mb) (hv : ∀ y : Str, y ≠ "__name__" → mb y = bootBuiltins y) (hl : s1.heap.NoLimit) (hg : s1.gens = #[])
    (ha : s1.heap.get? a = some { cls := .type "list", data := .seq vs.toArray }) (hi : IntsAre vs ns) (hz : ns.length ≤ sizeLine) (hr : Room k callerA)
    (F : ∀ base : Heap, G.K.In base → base.Ns mainGlobals G.mg → GFn G P w base k fa fd [x] mf) (hbind : ∀ (s : Shared) (u : Value), BindsTo s fd ⟨[u], []⟩ [(x, u)]) (hm : ∃ S, mf [.kst (ns.map D.int)] [] = .ok (.bl true) S) :
    codeAny (model P w) callerA (.call (.ref fa) ⟨[.ref a], []⟩) (fun r s' => r = .ok (.ret (.bool true)) ∧ OldK s1.heap s'.heap ∧ s'.os = s1.os ∧ AllBare s'.gens) s1 := by
  have rv := vals_ints hi
  by_cases hlk : G.K.lookup a = none
  · obtain ⟨H, hH⟩ : ∃ H : Hp, H = fun b => if b = a then some (.frz { cls := .type "list", data := .seq vs.toArray } (.lst (ns.map V.int))) else none := ⟨_, rfl⟩
    have ha' : H a = some (.frz { cls := .type "list", data := .seq vs.toArray } (.lst (ns.map V.int))) := by rw [hH]; exact if_pos rfl
    have hx : ∀ b, b ≠ a → H b = none := fun b hb => by rw [hH]; exact if_neg hb
    refine law_core hk hn hb hv hl hg ha hr F hbind hm H (.inl (.inr ⟨_, ha'⟩)) ?_ ?_
    · intro b u z
      by_cases hba : b = a
      · subst hba
        rw [ha'] at z
        cases z
        exact ⟨ha, by simpa using hz, vs, _, rv, ha⟩
      · rw [hx b hba] at z
        cases z
    · intro b z
      by_cases hba : b = a
      · subst hba
        exact ⟨rfl, hlk, _, _, ha'⟩
      · exact absurd (hx b hba) z
  · obtain ⟨o, ho⟩ := Option.ne_none_iff_exists'.mp hlk
    have e := hk a o ho
    rw [ha] at e
    cases e
    refine law_core hk hn hb hv hl hg ha hr F hbind hm (fun _ => none) (.inr ⟨_, vs.toArray, _, ho, rfl, rfl, rfl, ?_, by simpa using rv⟩) (fun b u z => by cases z) (fun b z => absurd rfl z)
    have hlen := hi.length
    rw [List.size_toArray, hlen]
    exact hz
end
/-- the goal that k_head leaves -/
theorem walk_G {l : PySem.W.OpenLaw} {n k : Nat} {q : Program} {loose : List Str} {XP : (Str → Option Value) → Heap → Prop} {YP : World → Heap → Prop} {d : DefRec} {K : Params → PySem.W.Frag} {x : Str} {mf : MF}
    (hn : l.most = some n) (hn2 : n ≤ sizeLine) (hdf : d.params.defaults = []) (hr : Room k callerA) (hY : ∀ (w : World) (h : Heap), YP w h → (K w.params).In h)
    (F : ∀ (w : World) (mg : Str → Option Value) (fa : Addr) (h : Heap), (K w.params).In h → h.Ns mainGlobals mg → mg d.name = some (.ref fa) →
      ∃ (cl : Nat → Addr) (fd : FuncData), (∀ (s : Shared) (u : Value), BindsTo s fd ⟨[u], []⟩ [(x, u)]) ∧
        ∀ base : Heap, (K w.params).In base → base.Ns mainGlobals mg → GFn ⟨K w.params, mg, cl⟩ l.prog w base k fa fd [x] mf)
    (hlaw : LawHolds n mf) : PySem.W.WalkO q loose XP YP l.row.toRowW d [] (fun f vs => PySem.call f vs) := by
  refine Att.attach_call hn hdf ?_
  intro w s0 s1 mg mb fa o pm cd doc a vs ns G Y ho hd hcd hmg hobj hints hlen hg
  have KX := hY w _ Y
  obtain ⟨cl, fd, hb, hF⟩ := F w mg fa _ KX G.T.g hmg
  exact law_G (G := ⟨K w.params, mg, cl⟩) KX G.T.g G.T.b G.T.builtins G.T.nolimit hg hobj hints (Nat.le_trans hlen hn2) hr hF hb (hlaw ns hlen)
end Z

set_option Elab.async false
set_option linter.all false
set_option maxRecDepth 100000
set_option maxHeartbeats 2000000
set_option autoImplicit false
namespace Z
open PySem PySem.Spec L2

/-! ## short words for printed proofs -/
/-- a def of the module -/
structure Df (G : Gm) (x : Str) (st : Stmt) (ps : List Str) (f : Addr) (fd : FuncData) : Prop where
  fg : FunG G.K x x st f fd
  mg : G.mg x = some (.ref f)
  bd : BdP G.K fd ps
section
variable {G : Gm} {X : Cx} {W : WX} {k j : Nat}
theorem cx_call {f : Addr} {fd : FuncData} {ps : List Str} {mf : MF} {x : Str} {st : Stmt} {p pos : Pos} {e : Expr} {es : List Expr} {m : ML} (ok : Ok G X k W) (d : Df G x st ps f fd) (g : GFn G X.prog X.w X.base j f fd ps mf) (hl : ∀ ds S, mf ds S ≠ .bad → ds.length = ps.length) (ha : SA G X W (e :: es) m)
    (hj : j ≤ k := by first | decide | omega) (hg : Gl X x := by rfl) (hdb : (x == ("__debug__" : Str)) = false := by decide) (he : starEach (e :: es) X.env = (false, eval e X.env) :: starEach es X.env := by rfl) (hpl : (backTo pos (starEach es X.env)).any (·.1) = false := by rfl) :
    SE G X W (.Call (.Name x p) (e :: es) [] pos) (mCall mf m) := se_call ok g hj hl d.mg d.fg.kp d.bd ha hg hdb he hpl
theorem cx_call0 {f : Addr} {fd : FuncData} {ps : List Str} {mf : MF} {x : Str} {st : Stmt} {p pos : Pos} (ok : Ok G X k W) (d : Df G x st ps f fd) (g : GFn G X.prog X.w X.base j f fd ps mf) (hl : ∀ ds S, mf ds S ≠ .bad → ds.length = ps.length)
    (hj : j ≤ k := by first | decide | omega) (hg : Gl X x := by rfl) (hdb : (x == ("__debug__" : Str)) = false := by decide) :
    SE G X W (.Call (.Name x p) [] [] pos) (mCall mf mNilL) := se_call0 ok g hj hl d.mg d.fg.kp d.bd hg hdb
theorem cx_ty {x : Str} {n : String} {pos : Pos} (ok : Ok G X k W) (hm : G.mg x = none) (hv : bootBuiltins x = some (.type n) := by decide +kernel) (hg : Gl X x := by rfl) (hn : x ≠ "__name__" := by decide) (hdb : (x == ("__debug__" : Str)) = false := by decide) : SE G X W (.Name x pos) (mC (.ty n)) :=
  se_c (pe_bltn hg (by rw [ok.mg]; exact hm) hv (show RelV (.ty n) (.type n) from rfl) hn hdb) fun _ _ => .ty n
theorem cx_abs {p pos : Pos} {e : Expr} {es : List Expr} {m : ML} (ok : Ok G X k W) (hm : G.mg "abs" = none) (ha : SA G X W (e :: es) m) (hg : Gl X "abs" := by rfl) (he : starEach (e :: es) X.env = (false, eval e X.env) :: starEach es X.env := by rfl) (hpl : (backTo pos (starEach es X.env)).any (·.1) = false := by rfl) : SE G X W (.Call (.Name "abs" p) (e :: es) [] pos) (mCall (f1 absD) m) :=
  se_callB ci_abs call_abs ok.mg hm (by decide +kernel) ha hg (by decide) (by decide) he hpl
theorem cx_len {p pos : Pos} {e : Expr} {es : List Expr} {m : ML} (ok : Ok G X k W) (hm : G.mg "len" = none) (ha : SA G X W (e :: es) m) (hg : Gl X "len" := by rfl) (he : starEach (e :: es) X.env = (false, eval e X.env) :: starEach es X.env := by rfl) (hpl : (backTo pos (starEach es X.env)).any (·.1) = false := by rfl) : SE G X W (.Call (.Name "len" p) (e :: es) [] pos) (mCall (f1 lenD) m) :=
  se_callB (ci_len ok.K) call_len ok.mg hm (by decide +kernel) ha hg (by decide) (by decide) he hpl
theorem cx_all {p pos : Pos} {e : Expr} {es : List Expr} {m : ML} (ok : Ok G X k W) (hm : G.mg "all" = none) (ha : SA G X W (e :: es) m) (hg : Gl X "all" := by rfl) (he : starEach (e :: es) X.env = (false, eval e X.env) :: starEach es X.env := by rfl) (hpl : (backTo pos (starEach es X.env)).any (·.1) = false := by rfl) : SE G X W (.Call (.Name "all" p) (e :: es) [] pos) (mCall (f1 allD) m) :=
  se_callB ci_all (cr_all ok.calm) ok.mg hm (by decide +kernel) ha hg (by decide) (by decide) he hpl
theorem cx_any {p pos : Pos} {e : Expr} {es : List Expr} {m : ML} (ok : Ok G X k W) (hm : G.mg "any" = none) (ha : SA G X W (e :: es) m) (hg : Gl X "any" := by rfl) (he : starEach (e :: es) X.env = (false, eval e X.env) :: starEach es X.env := by rfl) (hpl : (backTo pos (starEach es X.env)).any (·.1) = false := by rfl) : SE G X W (.Call (.Name "any" p) (e :: es) [] pos) (mCall (f1 anyD) m) :=
  se_callB ci_any (cr_any ok.calm) ok.mg hm (by decide +kernel) ha hg (by decide) (by decide) he hpl
theorem cx_repr {p pos : Pos} {e : Expr} {es : List Expr} {m : ML} (ok : Ok G X k W) (hm : G.mg "repr" = none) (ha : SA G X W (e :: es) m) (hg : Gl X "repr" := by rfl) (he : starEach (e :: es) X.env = (false, eval e X.env) :: starEach es X.env := by rfl) (hpl : (backTo pos (starEach es X.env)).any (·.1) = false := by rfl) : SE G X W (.Call (.Name "repr" p) (e :: es) [] pos) (mCall (f1 reprD) m) :=
  se_callB (ci_repr ok.K) (cr_repr ok.gd ok.room) ok.mg hm (by decide +kernel) ha hg (by decide) (by decide) he hpl
theorem cx_isi {tab : Tab} {p pos : Pos} {e : Expr} {es : List Expr} {m : ML} (ok : Ok G X k W) (T : TabOk G tab) (hm : G.mg "isinstance" = none) (ha : SA G X W (e :: es) m) (hg : Gl X "isinstance" := by rfl) (he : starEach (e :: es) X.env = (false, eval e X.env) :: starEach es X.env := by rfl) (hpl : (backTo pos (starEach es X.env)).any (·.1) = false := by rfl) : SE G X W (.Call (.Name "isinstance" p) (e :: es) [] pos) (mCall (isiM tab) m) :=
  se_callB (ci_isi T) (cr_isi ok.K) ok.mg hm (by decide +kernel) ha hg (by decide) (by decide) he hpl
theorem cx_int {p pos : Pos} {e : Expr} {es : List Expr} {m : ML} (ok : Ok G X k W) (hm : G.mg "int" = none) (ha : SA G X W (e :: es) m) (hg : Gl X "int" := by rfl) (he : starEach (e :: es) X.env = (false, eval e X.env) :: starEach es X.env := by rfl) (hpl : (backTo pos (starEach es X.env)).any (·.1) = false := by rfl) : SE G X W (.Call (.Name "int" p) (e :: es) [] pos) (mCall (f1 intD) m) :=
  se_callTy ci_int call_int1 ok.mg hm (by decide +kernel) ha hg (by decide) (by decide) he hpl
theorem cx_tuple {p pos : Pos} {e : Expr} {es : List Expr} {m : ML} (ok : Ok G X k W) (hm : G.mg "tuple" = none) (ha : SA G X W (e :: es) m) (hg : Gl X "tuple" := by rfl) (he : starEach (e :: es) X.env = (false, eval e X.env) :: starEach es X.env := by rfl) (hpl : (backTo pos (starEach es X.env)).any (·.1) = false := by rfl) : SE G X W (.Call (.Name "tuple" p) (e :: es) [] pos) (mCall (f1 tupD) m) :=
  se_callTy (ci_tup ok.K) call_tuple_of ok.mg hm (by decide +kernel) ha hg (by decide) (by decide) he hpl
theorem cx_list {p pos : Pos} {e : Expr} {es : List Expr} {m : ML} (ok : Ok G X k W) (hm : G.mg "list" = none) (ha : SA G X W (e :: es) m) (hg : Gl X "list" := by rfl) (he : starEach (e :: es) X.env = (false, eval e X.env) :: starEach es X.env := by rfl) (hpl : (backTo pos (starEach es X.env)).any (·.1) = false := by rfl) : SE G X W (.Call (.Name "list" p) (e :: es) [] pos) (mCall (f1 listD) m) :=
  se_callTy (ci_list ok.K) call_list_of ok.mg hm (by decide +kernel) ha hg (by decide) (by decide) he hpl
theorem cx_listL {p pos : Pos} {e : Expr} {es : List Expr} {m : ML} (ok : Ok G X k W) (hm : G.mg "list" = none) (ha : SA G X W (e :: es) m) (hg : Gl X "list" := by rfl) (he : starEach (e :: es) X.env = (false, eval e X.env) :: starEach es X.env := by rfl) (hpl : (backTo pos (starEach es X.env)).any (·.1) = false := by rfl) : SE G X W (.Call (.Name "list" p) (e :: es) [] pos) (mCall (f1 listLD) m) :=
  se_callTy (ci_listL ok.K) call_list_of ok.mg hm (by decide +kernel) ha hg (by decide) (by decide) he hpl
theorem cx_add {a b : Expr} {pos : Pos} {ma mb : ME} (ok : Ok G X k W) (ha : SE G X W a ma) (hb : SE G X W b mb) : SE G X W (.BinOp a .Add b pos) (mBin addD ma mb) := se_op (oi_add ok.K) or_add ha hb
theorem cx_sub {a b : Expr} {pos : Pos} {ma mb : ME} (ok : Ok G X k W) (ha : SE G X W a ma) (hb : SE G X W b mb) : SE G X W (.BinOp a .Sub b pos) (mBin subD ma mb) := se_op oi_sub op_sub ha hb
theorem cx_mul {a b : Expr} {pos : Pos} {ma mb : ME} (ok : Ok G X k W) (ha : SE G X W a ma) (hb : SE G X W b mb) : SE G X W (.BinOp a .Mult b pos) (mBin mulD ma mb) := se_op oi_mul or_mul ha hb
theorem cx_fdiv {a b : Expr} {pos : Pos} {ma mb : ME} (ok : Ok G X k W) (ha : SE G X W a ma) (hb : SE G X W b mb) : SE G X W (.BinOp a .FloorDiv b pos) (mBin fdivD ma mb) := se_op oi_fdiv op_fdivW ha hb
theorem cx_mod {a b : Expr} {pos : Pos} {ma mb : ME} (ok : Ok G X k W) (ha : SE G X W a ma) (hb : SE G X W b mb) : SE G X W (.BinOp a .Mod b pos) (mBin modD ma mb) := se_op oi_mod op_mod ha hb
theorem cx_pow {a b : Expr} {pos : Pos} {ma mb : ME} (ok : Ok G X k W) (ha : SE G X W a ma) (hb : SE G X W b mb) : SE G X W (.BinOp a .Pow b pos) (mBin powD ma mb) := se_op oi_pow op_pow ha hb
theorem cx_neg {a : Expr} {pos : Pos} {ma : ME} (ok : Ok G X k W) (ha : SE G X W a ma) : SE G X W (.UnaryOp .USub a pos) (mUn negD ma) := se_un ui_neg un_neg ha
theorem cx_lt {a b : Expr} {pos : Pos} {ma mb : ME} (ok : Ok G X k W) (ha : SE G X W a ma) (hb : SE G X W b mb) : SE G X W (.Compare a [.Lt] [b] pos) (mBin ltD ma mb) := se_cmp oi_lt or_lt ha hb (nomark _)
theorem cx_le {a b : Expr} {pos : Pos} {ma mb : ME} (ok : Ok G X k W) (ha : SE G X W a ma) (hb : SE G X W b mb) : SE G X W (.Compare a [.LtE] [b] pos) (mBin leD ma mb) := se_cmp oi_le op_le ha hb (nomark _)
theorem cx_gt {a b : Expr} {pos : Pos} {ma mb : ME} (ok : Ok G X k W) (ha : SE G X W a ma) (hb : SE G X W b mb) : SE G X W (.Compare a [.Gt] [b] pos) (mBin gtD ma mb) := se_cmp oi_gt op_gt ha hb (nomark _)
theorem cx_ge {a b : Expr} {pos : Pos} {ma mb : ME} (ok : Ok G X k W) (ha : SE G X W a ma) (hb : SE G X W b mb) : SE G X W (.Compare a [.GtE] [b] pos) (mBin geD ma mb) := se_cmp oi_ge op_ge ha hb (nomark _)
theorem cx_eq {a b : Expr} {pos : Pos} {ma mb : ME} (ok : Ok G X k W) (ha : SE G X W a ma) (hb : SE G X W b mb) : SE G X W (.Compare a [.Eq] [b] pos) (mBin eqD ma mb) := se_cmp (oi_eq ok.K) (or_eq ok.room) ha hb (nomark _)
theorem cx_ne {a b : Expr} {pos : Pos} {ma mb : ME} (ok : Ok G X k W) (ha : SE G X W a ma) (hb : SE G X W b mb) : SE G X W (.Compare a [.NotEq] [b] pos) (mBin neD ma mb) := se_cmp (oi_ne ok.K) (or_ne ok.room) ha hb (nomark _)
theorem cx_is {a b : Expr} {pos : Pos} {ma mb : ME} (ok : Ok G X k W) (ha : SE G X W a ma) (hb : SE G X W b mb) : SE G X W (.Compare a [.Is] [b] pos) (mBin isD ma mb) := se_cmp oi_is or_is ha hb (nomark _)
theorem cx_isNot {a b : Expr} {pos : Pos} {ma mb : ME} (ok : Ok G X k W) (ha : SE G X W a ma) (hb : SE G X W b mb) : SE G X W (.Compare a [.IsNot] [b] pos) (mBin isNotD ma mb) := se_cmp oi_isNot or_isNot ha hb (nomark _)
theorem ct_lt {a b : Expr} {pos : Pos} {ma mb : ME} (ok : Ok G X k W) (ha : SE G X W a ma) (hb : SE G X W b mb) : ST G X W (.Compare a [.Lt] [b] pos) (mBlT (mBin ltD ma mb)) := st_cmp oi_lt or_lt ha hb (nomark _)
theorem ct_le {a b : Expr} {pos : Pos} {ma mb : ME} (ok : Ok G X k W) (ha : SE G X W a ma) (hb : SE G X W b mb) : ST G X W (.Compare a [.LtE] [b] pos) (mBlT (mBin leD ma mb)) := st_cmp oi_le op_le ha hb (nomark _)
theorem ct_gt {a b : Expr} {pos : Pos} {ma mb : ME} (ok : Ok G X k W) (ha : SE G X W a ma) (hb : SE G X W b mb) : ST G X W (.Compare a [.Gt] [b] pos) (mBlT (mBin gtD ma mb)) := st_cmp oi_gt op_gt ha hb (nomark _)
theorem ct_ge {a b : Expr} {pos : Pos} {ma mb : ME} (ok : Ok G X k W) (ha : SE G X W a ma) (hb : SE G X W b mb) : ST G X W (.Compare a [.GtE] [b] pos) (mBlT (mBin geD ma mb)) := st_cmp oi_ge op_ge ha hb (nomark _)
theorem ct_eq {a b : Expr} {pos : Pos} {ma mb : ME} (ok : Ok G X k W) (ha : SE G X W a ma) (hb : SE G X W b mb) : ST G X W (.Compare a [.Eq] [b] pos) (mBlT (mBin eqD ma mb)) := st_cmp (oi_eq ok.K) (or_eq ok.room) ha hb (nomark _)
theorem ct_ne {a b : Expr} {pos : Pos} {ma mb : ME} (ok : Ok G X k W) (ha : SE G X W a ma) (hb : SE G X W b mb) : ST G X W (.Compare a [.NotEq] [b] pos) (mBlT (mBin neD ma mb)) := st_cmp (oi_ne ok.K) (or_ne ok.room) ha hb (nomark _)
theorem ct_is {a b : Expr} {pos : Pos} {ma mb : ME} (ok : Ok G X k W) (ha : SE G X W a ma) (hb : SE G X W b mb) : ST G X W (.Compare a [.Is] [b] pos) (mBlT (mBin isD ma mb)) := st_cmp oi_is or_is ha hb (nomark _)
theorem ct_isNot {a b : Expr} {pos : Pos} {ma mb : ME} (ok : Ok G X k W) (ha : SE G X W a ma) (hb : SE G X W b mb) : ST G X W (.Compare a [.IsNot] [b] pos) (mBlT (mBin isNotD ma mb)) := st_cmp oi_isNot or_isNot ha hb (nomark _)
theorem bdK_mk {K : PySem.W.Frag} {x q : Str} {st : Stmt} {f : Addr} {fd : FuncData} (_ : FunG K x q st f fd) {ps : List Str} {n : Nat} {ks : List Str} {src : List Src}
    (h : ∀ us ws r : List Value, us.length = n → ws.length = ks.length → fill us ws [] src = some r → bindArgs fd ⟨us, ks.zip ws⟩ = pure (ps.zip r)) : BdK K fd ps n ks src [] := fun s us ws r _ h1 h2 h3 => .of_eq (h us ws r h1 h2 h3)
theorem runL {n m : Nat} {b : MS} : ∀ ds S, cutM (runDef n m b) ds S ≠ .bad → ds.length = n := cutM_len fun _ _ h => runDef_len h
end
end Z

set_option Elab.async false
set_option linter.all false
set_option maxRecDepth 100000
set_option maxHeartbeats 4000000
set_option autoImplicit false
namespace PySem
namespace ZX
open PySem.HandSPX PySem.Calls PyProof.Rows

/-! ## an own exception class called, keywords too -/
section
variable {M : Model} {A : Around} {E : Value → Shared → Prop} {h : Heap} {g : Array GenState} {d : Drawn} {t : Nat} {os : OsState}
variable {nm q : Str} {C N : Addr} {bs bm bmB : List Value} {hdct : Bool} {sn : List Str} {sub : List Value} {ab : Bool} {col : Option Bool} {dd : Option Addr} {k0 k1 k2 k3 k5 : Option Value} {B newId initId : String}
theorem kcheck_new (F : ExcBaseFacts B newId initId bmB) (hT : ∀ X : String, bm.contains (.type X) = bmB.contains (.type X)) {rest : List Value} {kw : List (Str × Value)} {Q : Unit → Shared → Prop}
    (hC : h.get? C = some (excClassObj nm q C N bs bm hdct sn sub ab col dd k0 k1 k2 k3 k5 newId)) (hq : Q () ⟨h, g, d, t, os⟩) : wpAny M A (checkBuiltinCall newId ⟨.ref C :: rest, kw⟩) Q E ⟨h, g, d, t, os⟩ := by
  have hcont : (Value.ref C :: bm).contains (.type B) = true := by rw [List.contains_cons, hT, F.hasB, Bool.or_true]
  have hstar := F.noStar
  simp only [checkBuiltinCall, F.newKind, F.newSplit, F.newRow]
  repeat (first | refine wpAny_loadPart_at hC ?_ | (refine wpAny_isSubtype_exc hC ?_; rw [hcont]) | refine wpAny_staticBase_exc hC ?_ | refine wpAny_madeBy_exc hC ?_ | simp only [bne_self_eq_false, Bool.false_eq_true, if_false] | wp_step)
  exact hq
theorem kcheck_type {rest : List Value} {kw : List (Str × Value)} {Q : Unit → Shared → Prop} (hC : h.get? C = some (excClassObj nm q C N bs bm hdct sn sub ab col dd k0 k1 k2 k3 k5 newId))
    (hq : Q () ⟨h, g, d, t, os⟩) : wpAny M A (checkBuiltinCall "type.__call__" ⟨.ref C :: rest, kw⟩) Q E ⟨h, g, d, t, os⟩ := by
  have f3 := tc_sub
  have hT : (⟨h, g, d, t, os⟩ : Shared).TypeIs (.ref C) "type" := ⟨_, hC, rfl⟩
  simp only [checkBuiltinCall, tc_kind, tc_split]
  repeat (any_goals (first | assumption | with_reducible refine wpAny_loadPart_at hC ?_ | with_reducible refine wpAny_onRaise ?_ | with_reducible refine wpAny_map ?_ | wp_step))
end
section
variable {prog : Program} {w : World} {A : Around} {E : Value → Shared → Prop} {R : Result → Shared → Prop} {h : Heap} {g : Array GenState} {d : Drawn} {t : Nat} {os : OsState}
variable {nm q : Str} {C N : Addr} {bs bm bmB : List Value} {hdct : Bool} {sn : List Str} {sub : List Value} {ab : Bool} {col : Option Bool} {dd : Option Addr} {k0 k1 k2 k3 k5 : Option Value} {B newId initId : String}
theorem knew_own (F : ExcBaseFacts B newId initId bmB) (hT : ∀ X : String, bm.contains (.type X) = bmB.contains (.type X)) {rest : List Value} {kw : List (Str × Value)}
    (hC : h.get? C = some (excClassObj nm q C N bs bm hdct sn sub ab col dd k0 k1 k2 k3 k5 newId))
    (hq : R (.ok (.ret (.ref (h.objs.size + 1)))) ⟨(h.push { cls := .type "tuple", data := .seq rest.toArray }).push
      { cls := .ref C, data := .fields #[.ref h.objs.size, .none, .none, .none, .bool false, .none] }, g, d, t, os⟩) (hrest : rest.length ≤ sizeLine) :
    codeAny (model prog w) A (.builtin newId ⟨.ref C :: rest, kw⟩) R ⟨h, g, d, t, os⟩ := by
  have hends := F.ends
  have hcB : (Value.ref C :: bm).contains (.type B) = true := by rw [List.contains_cons, hT, F.hasB, Bool.or_true]
  have hcA : (Value.ref C :: bm).contains (.type "AttributeError") = false := by rw [List.contains_cons, hT, F.noAttr]; rfl
  have hcN : (Value.ref C :: bm).contains (.type "NameError") = false := by rw [List.contains_cons, hT, F.noName]; rfl
  refine codeAny_builtinAt F.entry ?_
  unfold Builtin.«BaseException.__new__»
  refine wpAt_bind ?_
  show wpAt _ _ _ (stack >>= _) _ _ _
  refine wpAt_bind (wpAt_stack fun p below => wpAt_of_wpAny ?_)
  wp_walk
  refine wpAt_of_wpAny ?_
  rw [F.owner]
  repeat (first | with_reducible refine wpAny_madeHere_exc F.canon hC ?_ | with_reducible refine wpAny_loadPart_at hC ?_ | (with_reducible refine wpAny_isSubtype_exc hC ?_; first | rw [hcB] | rw [hcA] | rw [hcN]) | wp_step)
  show R _ _
  rw [Heap.size_push]
  exact hq
theorem ktype_call (F : ExcBaseFacts B newId initId bmB) (hT : ∀ X : String, bm.contains (.type X) = bmB.contains (.type X)) {rest : List Value} {kw : List (Str × Value)} {fI : Addr} {Q : Fin → Shared → Prop}
    (hC : h.get? C = some (excClassObj nm q C N bs bm hdct sn sub ab col dd k0 k1 k2 k3 k5 newId))
    (hi : W.Looks (model prog w) h (typeLookup (.ref C) "__init__") (some (.ref fI))) (hb : ∀ self, W.Looks (model prog w) h (bindSpecial (.ref fI) self) (.ref fI, [self])) (hrest : rest.length ≤ sizeLine)
    (hq : codeAny (model prog w) A (.call (.ref fI) ⟨.ref (h.objs.size + 1) :: rest, kw⟩)
      (fun r s' => match r with | .ok (.ret v) => v = .none ∧ Q (.done (.ret (.ref (h.objs.size + 1)))) s' | .ok _ => False | .error e => E e s')
      ⟨(h.push (W.kdv_tup rest)).push (excO C h.objs.size), g, d, t, os⟩) :
    wpAny (model prog w) A (Builtin.«type.__call__» ⟨.ref C :: rest, kw⟩) Q E ⟨h, g, d, t, os⟩ := by
  repeat (first | with_reducible refine wpAny_loadPart_at hC ?_ | with_reducible refine wpAny_madeBy_exc hC ?_ | wp_step)
  refine codeAny_call_builtin_code (Code.quiet_builtin _ F.quiet) (kcheck_new F hT hC ?_)
  refine knew_own F hT hC ?_ hrest
  show wpAny _ _ _ _ _ _
  have k : ∀ b o, h.get? b = some o → ((h.push (W.kdv_tup rest)).push (excO C h.objs.size)).get? b = some o := fun b o e => Heap.get?_push_of_some _ (Heap.get?_push_of_some _ e)
  have hC₁ := k _ _ hC
  have hget : ((h.push (W.kdv_tup rest)).push (excO C h.objs.size)).get? (h.objs.size + 1) = some (excO C h.objs.size) := by heap_get
  have hcC : (Value.ref C :: bm).contains (.ref C) = true := by simp
  have i1 := hi.keeps k
  have b1 := (hb (.ref (h.objs.size + 1))).keeps k
  unfold isInstance
  repeat (first | with_reducible refine wpAny_loadPart_at hget ?_ | (with_reducible refine wpAny_isSubtype_exc hC₁ ?_; rw [hcC]) | wp_step)
  show wpAny _ _ (typeLookup (.ref C) _) _ _ _
  refine i1.at ?_
  refine wpAny_holding (wpAny_bind (b1.at ?_))
  refine wpAny_bind (wpAny_call (codeAny_mono hq fun r s' z => ?_))
  rcases r with e | (v | _ | _ | _) <;> first | exact z | exact z.elim | skip
  obtain ⟨rfl, z⟩ := z
  first
    | exact wpAny_pure (wpAny_pure z)
    | (wp_walk; exact z)
theorem kcall_own (F : ExcBaseFacts B newId initId bmB) (hT : ∀ X : String, bm.contains (.type X) = bmB.contains (.type X)) {rest : List Value} {kw : List (Str × Value)} {fI : Addr}
    (hC : h.get? C = some (excClassObj nm q C N bs bm hdct sn sub ab col dd k0 k1 k2 k3 k5 newId))
    (hi : W.Looks (model prog w) h (typeLookup (.ref C) "__init__") (some (.ref fI))) (hb : ∀ self, W.Looks (model prog w) h (bindSpecial (.ref fI) self) (.ref fI, [self])) (hrest : rest.length ≤ sizeLine)
    (hq : codeAny (model prog w) (A.under (.builtin "type.__call__" ⟨.ref C :: rest, kw⟩)) (.call (.ref fI) ⟨.ref (h.objs.size + 1) :: rest, kw⟩) (W.InitBack (h.objs.size + 1) R)
      ⟨(h.push (W.kdv_tup rest)).push (excO C h.objs.size), g, d, t, os⟩) :
    codeAny (model prog w) A (.call (.ref C) ⟨rest, kw⟩) R ⟨h, g, d, t, os⟩ := by
  have f1 := tc_lookup
  have f2 := tc_bind (.ref C)
  have hTy : (⟨h, g, d, t, os⟩ : Shared).TypeIs (.ref C) "type" := ⟨_, hC, rfl⟩
  refine codeAny_of_tree ?_
  show wpAny _ _ (callAny (.ref C) _) _ _ _
  repeat (any_goals (first | assumption | with_reducible refine wpAny_loadPart_at hC ?_ | wp_step))
  refine ⟨rfl, ?_⟩
  refine codeAny_call_builtin_at (Code.quiet_builtin _ (by decide +kernel)) entry_typeCall (kcheck_type hC (ktype_call F hT hC hi hb hrest ?_))
  refine codeAny_mono hq fun r s' z => ?_
  rcases r with e | (v | _ | _ | _) <;> exact z
end
end ZX
end PySem

set_option Elab.async false
set_option linter.all false
set_option maxRecDepth 100000
set_option maxHeartbeats 4000000
set_option autoImplicit false
namespace PySem
namespace ZX
open PySem.HandSPX PySem.Calls PySem.W

/-- the bound ValueError.__init__ called: the args are laid anew -/
theorem mw_run {prog : Program} {w : World} {A : Around} {E : Value → Shared → Prop} {h : Heap} {g : Array GenState} {d : Drawn} {t : Nat} {os : OsState}
    {nm q : Str} {C N : Addr} {bs bm : List Value} {hdct : Bool} {sn : List Str} {sub : List Value} {ab : Bool} {col : Option Bool} {dd : Option Addr} {k0 k1 k2 k3 k5 : Option Value} {u e t0 : Addr} {us : List Value} {Q : Value → Shared → Prop}
    (hC : h.get? C = some (excClassObj nm q C N bs bm hdct sn sub ab col dd k0 k1 k2 k3 k5 "ValueError.__new__")) (he : h.get? e = some (excO C t0)) (hu : h.get? u = some (kxs_mw "ValueError.__init__" e)) (hl : us.length ≤ sizeLine)
    (go : ∀ h' t1, (∀ b o, b ≠ e → h.get? b = some o → h'.get? b = some o) → h'.get? e = some (excO C t1) → Q .none ⟨h', g, d, t, os⟩) :
    wpAny (model prog w) A (call (.ref u) us) Q E ⟨h, g, d, t, os⟩ := by
  refine wpAny_call (codeAny_of_tree ?_)
  show wpAny _ A.in1 (callAny (.ref u) ⟨us, []⟩) _ _ _
  simp only [callAny]
  refine wpAny_bind (wpAny_load hu ?_)
  simp only [kxs_mw, show (Value.type "method-wrapper" == Value.type "method" || Value.type "method-wrapper" == Value.type "builtin_function_or_method" || Value.type "method-wrapper" == Value.type "method-wrapper") = true by decide, if_true]
  refine W.KFB.if_so (by decide) ?_
  refine wpAny_bind (ESX.check_bound F.excBase_ValueError hC he rfl ?_)
  refine wpAny_bind (wpAny_pure (wpAny_pure ?_))
  refine ⟨Code.quiet_builtin _ (by decide +kernel), codeAny_builtin F.excBase_ValueError.initEntry ?_⟩
  rw [Around.under_plainId F.excBase_ValueError.init.plain _]
  wp_walk
  refine go _ h.objs.size (fun b o hb ho => ?_) ?_
  · rw [Heap.get?_update_other _ _ (Ne.symm hb)]
    exact Heap.get?_push_of_some _ ho
  · rw [Heap.get?_update_self _ (Heap.get?_push_of_some _ he) rfl]
    rfl
end ZX
end PySem

namespace Z
open PySem PySem.Spec PyProof.Rows L2 PySem.W

abbrev sf (fs : List Str) : List Str := ("self" : Str) :: fs
/-- super().__init__('..') -/
def supS (t : Str) (n : Nat) (p0 p1 p2 p3 p4 p5 : Pos) : Stmt := .Expr (.Call (.Attribute (.Call (.Name "super" p0) [] [] p1) "__init__" p2) [.Constant (.str t) n p3] [] p4) p5
/-- what an own error class and its __init__ must be -/
structure InK (K : Frag) (P : Program) (C fI : Addr) (qual : Str) (st : Stmt) (fs : List Str) (fd : FuncData) : Prop where
  oex : OexC K C
  iC : findIn K (.ref C) "__init__" = some (some (.ref fI))
  tI : typeIn K (.ref fI) = some (.type "function")
  fn : ∃ (oc : Value) (od : Option Addr) (doc pm kV dV : Value) (an : Option Addr) (cda cc : Addr) (ct : Value) (osl : Array (Option Value)),
    fd = ksFn "__init__" qual (defArgs st) (defBody st) (defScope st) dV kV doc pm an (.ref cda) ct cc ∧ K.lookup fI = some ⟨oc, od, .func fd, osl⟩ ∧ codeIn K (.ref cda) qual = true ∧
    (∃ (ccl : Value) (cdd : Option Addr) (vs : Array Value) (ccs : Array (Option Value)) (file : Str) (tf : Tok), K.lookup cda = some ⟨ccl, cdd, .fields vs, ccs⟩ ∧ vs[2]? = some (.str file tf) ∧ ((P.main.file : Str) == file) = true) ∧
    ∃ (cl : Value) (cld : Option Addr) (csl : Array (Option Value)), K.lookup cc = some ⟨cl, cld, .cell (some (.ref C)), csl⟩
  sup : nsIn K mainGlobals "super" = some none
  top : (P.main.scope.names.lookup ("super" : Str)).isSome = false
  sin : ks_superIn K C C "__init__" = some (some (.builtin "ValueError.__init__"))
  opq : nsIn K cStatics "thirdparty.any" = some none
  msf : mroIn K C (.ref C) = some true
  sVE : subIn K (.ref C) (.type "ValueError") = some true
  noF : ∀ f ∈ fs, findIn K (.ref C) f = some none
/-- the def's scope -/
structure InS (fs : List Str) (sc : Scope) : Prop where
  kind : sc.kind = .function
  co : sc.isCoroutine = false
  gen : sc.isGenerator = false
  nocell : ∀ x ∈ sc.names, x.2 ≠ .cell
  par : ∀ x ∈ sf fs, sc.names.lookup x = some .local
  sup : sc.names.lookup ("super" : Str) = some .globalImplicit
  cls : sc.names.lookup ("__class__" : Str) = some .free
  free : ∀ x, sc.names.lookup x = some .free → x = "__class__"
  nd : (sf fs).Nodup

def cxI (P : Program) (w : World) (K : Frag) (mg : Str → Option Value) (base : Heap) (N : List Str) (qual : Str) (sc : Scope) (f : Addr) (cd : Value) (cc : Addr) (A : Around) (outer : List Env) (s : Shared) (H : Hp) (R : Result → Shared → Prop) : L2.Cx where
  prog := P
  w := w
  K := K
  mg := mg
  base := base
  A := A.deeper (ksEnv qual sc s.heap.objs.size f cd cc)
  N := N
  s_0 := s
  H_0 := H
  env := ksEnv qual sc s.heap.objs.size f cd cc
  outer := outer
  stack := ksEnv qual sc s.heap.objs.size f cd cc :: outer
  ex := []
  fn := fun _ => false
  calm := true
  pn := []
  xe := fun e s' => wpAny (model P w) (A.deeper (ksEnv qual sc s.heap.objs.size f cd cc)) (leaving (ksEnv qual sc s.heap.objs.size f cd cc) e) (fun _ s'' => R (.error e) s'') (fun e' s'' => R (.error e') s'') s'
section
variable {P : Program} {w : World} {K : Frag} {mg : Str → Option Value} {base : Heap} {fs : List Str} {qual : Str} {sc : Scope} {f cc C : Addr} {cd : Value} {A : Around} {outer : List Env} {s : Shared} {H : Hp} {R : Result → Shared → Prop}
theorem invI {us : List Value} {vs : List V} {h1 : Heap} {tk : Nat} (S : InS fs sc) (hd : A.handled = none) (e0 : Env0 P w K mg base A outer s H) (hl : vs.length = (sf fs).length) (r : Vals vs us)
    (hns : h1.Ns s.heap.objs.size (fun x => ((sf fs).zip us).reverse.lookup x)) (hk : ∀ b o, s.heap.get? b = some o → h1.get? b = some o)
    (hcc : ∃ o v, K.lookup cc = some o ∧ o.data = .cell v) :
    Inv (cxI P w K mg base (sf fs) qual sc f cd cc A outer s H R) [] (vs.map some) H { s with heap := h1, toks := tk } := by
  have noA : ∀ b : Addr, b ∉ (cxI P w K mg base (sf fs) qual sc f cd cc A outer s H R).ex := by
    intro b z
    exact absurd (show b ∈ ([] : List Addr) from z) (by simp)
  have hcell : ∀ x c, (cxI P w K mg base (sf fs) qual sc f cd cc A outer s H R).env.cells.lookup x = some c → x = "__class__" ∧ c = cc := by
    intro x c h
    have h' : ([(("__class__" : Str), cc)] : List (Str × Addr)).lookup x = some c := h
    by_cases hx : x = "__class__"
    · subst hx
      simp [List.lookup] at h'
      exact ⟨rfl, h'.symm⟩
    · have : (x == ("__class__" : Str)) = false := by simpa using hx
      simp [List.lookup, this] at h'
  obtain ⟨oc, ov, lcc, dcc⟩ := hcc
  have bcc := e0.mod.kin _ _ lcc
  refine ⟨⟨e0.mod, S.kind, rfl, rfl, Nat.le_refl _, ?_, ?_, ?_, fun _ => hd, Around.frames_deeper e0.frames, .inr ⟨rfl, rfl⟩, fun b z => absurd z (noA b), e0.bs, e0.bsz, fun b _ _ => noA b, fun b z => absurd z (noA b), e0.funs, e0.frf⟩,
    rfl, e0.bare, Un.kept hk, ⟨_, hns, ?_⟩, ?_, e0.hok.fresh (Nat.le_refl _), ?_, fun p hp => absurd (show p ∈ ([] : List (Addr × Obj)) from hp) (by simp), e0.hok.kept hk, ?_⟩
  · intro x y c h1 h2
    rw [(hcell x c h1).1, (hcell y c h2).1]
  · intro x hx
    have hx' : sc.names.lookup x = some .cell ∨ sc.names.lookup x = some .free := hx
    rcases hx' with hx' | hx'
    · exact absurd rfl (S.nocell _ (PySem.mem_of_lookup hx'))
    · rw [S.free x hx']
      exact ⟨cc, by show ([(("__class__" : Str), cc)] : List (Str × Addr)).lookup ("__class__" : Str) = some cc; simp [List.lookup]⟩
  · intro x c h _
    exact absurd (show false = true from h) Bool.false_ne_true
  · intro i y v h1' h2 h3
    rw [List.getElem?_map] at h2
    cases e : vs[i]? with
    | none => rw [e] at h2; cases h2
    | some v' =>
      rw [e] at h2
      cases h2
      obtain ⟨u, hu, rv⟩ := r.get e
      have hy : (sf fs)[i]? = some y := h1'
      have hu' : us.length = (sf fs).length := by rw [← hl]; exact (Paired.length r).symm
      refine ⟨u, rv, .inl ⟨S.par y (List.mem_of_getElem? hy), ?_⟩⟩
      exact NdefX.zip_look S.nd hy hu
  · intro x c h
    obtain ⟨_, rfl⟩ := hcell x c h
    exact ⟨ov, oc, hk _ _ (e0.bs _ _ bcc).1, dcc⟩
  · intro x c h
    obtain ⟨_, rfl⟩ := hcell x c h
    exact (e0.bs _ _ bcc).2
  · show (vs.map some).length = (sf fs).length
    rw [List.length_map, hl]

/-- how its first statement is read -/
def SupEq (qual : Str) (sc : Scope) (t : Str) (n : Nat) (p0 p1 p2 p3 p4 : Pos) : Prop := ∀ (L f : Addr) (cd : Value) (cc : Addr), ∃ pl : Sem Bool,
  eval (.Call (.Attribute (.Call (.Name "super" p0) [] [] p1) "__init__" p2) [.Constant (.str t) n p3] [] p4) (ksEnv qual sc L f cd cc) = (do
      let ov ← attributeBase (.Call (.Name "super" p0) [] [] p1) "__init__" (ksEnv qual sc L f cd cc) (eval (.Call (.Name "super" p0) [] [] p1) (ksEnv qual sc L f cd cc))
      standAt p2.atName
      let (g, first) ← holding [ov] (getMethod ov "__init__" pl)
      callWith p4 g first (backTo p4 (starEach [.Constant (.str t) n p3] (ksEnv qual sc L f cd cc))) [])
/-- super().__init__('..') runs, the exception is as it was -/
theorem sup_run {st : Stmt} {fd : FuncData} {cda : Addr} {a : Addr} {t : Str} {n : Nat} {p0 p1 p2 p3 p4 p5 : Pos} {σ : L2.St} {s1 : Shared} {Q : Flow → Shared → Prop} {body : List Stmt}
    (T : InK K P C f qual st fs fd) (S : InS fs sc) (hev : SupEq qual sc t n p0 p1 p2 p3 p4) (har : ((defArgs st).posonlyargs ++ (defArgs st).args).head?.map (·.arg) = some ("self" : Str))
    (lf : ∃ oc od osl, K.lookup f = some ⟨oc, od, .func fd, osl⟩) (hfd : fd.params = defArgs st)
    (lc : ∃ ccl cdd vs ccs file tf, K.lookup cda = some ⟨ccl, cdd, .fields vs, ccs⟩ ∧ vs[2]? = some (.str file tf) ∧ ((P.main.file : Str) == file) = true)
    (lcc : ∃ cl cld csl, K.lookup cc = some ⟨cl, cld, .cell (some (.ref C)), csl⟩)
    (I : Inv (cxI P w K mg base (sf fs) qual sc f (.ref cda) cc A outer s H R) [] σ H s1) (h0 : σ[0]? = some (some (.ref a))) (ha : H a = some (exo a C none))
    (go : ∀ s2, Inv (cxI P w K mg base (sf fs) qual sc f (.ref cda) cc A outer s H R) [] σ H s2 → Q .next s2) :
    PySem.wpAt (model P w) (A.deeper (ksEnv qual sc s.heap.objs.size f (.ref cda) cc)) (.func body (ksEnv qual sc s.heap.objs.size f (.ref cda) cc)) (exec (supS t n p0 p1 p2 p3 p4 p5) (ksEnv qual sc s.heap.objs.size f (.ref cda) cc)) Q
      (cxI P w K mg base (sf fs) qual sc f (.ref cda) cc A outer s H R).xe s1 := by
  have hKI := I.kIn
  have hKI' : K.In s1.heap := hKI
  obtain ⟨oc, od, osl, lf⟩ := lf
  obtain ⟨ccl, cdd, vs', ccs, file, tf, lcd, hv2, hfile⟩ := lc
  obtain ⟨cl, cld, csl, lcc⟩ := lcc
  obtain ⟨nm, q, N, bs, bm, sn, sub, ab, col, dd, k0, k1, k2, k3, k5, hC, hbm⟩ := T.oex.cls
  have hcl : clsIn K C = some { name := nm, bases := bs, mro := .ref C :: bm, ns := N, qualname := q, hasDict := true, slotNames := sn, subclasses := sub, abstract := ab, collection := col, hasDel := false } := by unfold clsIn; rw [hC] <;> rfl
  obtain ⟨ar, har1, har2⟩ : ∃ ar : Arg, ((defArgs st).posonlyargs ++ (defArgs st).args).head? = some ar ∧ ar.arg = ("self" : Str) := by
    cases e : ((defArgs st).posonlyargs ++ (defArgs st).args).head? with
    | none => rw [e] at har; cases har
    | some ar => rw [e] at har; exact ⟨ar, rfl, Option.some.inj har⟩
  obtain ⟨t1, hoe⟩ := exo_at I.hok ha
  obtain ⟨m, hns, hlk⟩ := I.loc
  have hself : ∃ u, RelV (.ref a) u ∧ m ("self" : Str) = some u := by
    obtain ⟨u, r, q⟩ := hlk 0 ("self" : Str) (.ref a) rfl h0 (.inl (S.par _ List.mem_cons_self))
    rcases q with ⟨_, q⟩ | ⟨q, _⟩
    · exact ⟨u, r, q⟩
    · have z : sc.names.lookup ("self" : Str) = some .cell ∨ sc.names.lookup ("self" : Str) = some .free := q
      rw [S.par _ List.mem_cons_self] at z
      rcases z with z | z <;> cases z
  obtain ⟨u, ru, hm⟩ := hself
  obtain rfl : u = Value.ref a := ru
  have hmg : mg ("super" : Str) = none := PySem.W.mg_none_of I.mod.kin I.mod.glob T.sup
  obtain ⟨mb, hb1, hb2⟩ := I.mod.blt
  obtain ⟨pl, hev⟩ := hev s.heap.objs.size f (.ref cda) cc
  have hqt := I.quiet
  obtain ⟨hh, g, d, tk, os⟩ := s1
  refine ks_wpAt_Expr_any ?_ hqt
  refine ks_wpAt_MethodCall (pl := pl) ?_ hev
  refine ks_wpAt_super_base (f := f) (cc := cda) (ar := ar) (vs := vs') (file := file) (tf := tf) S.sup S.cls (by decide) rfl (hKI' _ _ lf) rfl (by rw [hfd]; exact har1) rfl (hKI' _ _ lcd) rfl hv2 hfile T.top ?_
  refine ks_loadName_global S.kind S.sup (Calls.loadGlobal_builtin (env := ksEnv qual sc s.heap.objs.size f (.ref cda) cc) (I.mod.glob.keeps I.bk) hmg (hb1.keeps I.bk) ((hb2 _ (by decide)).trans (by first | boot_by_name | rfl | kernel_rfl)) ⟨rfl, ?_⟩)
  refine wpAny_loadName_free S.kind S.cls rfl ⟨_, hKI' _ _ lcc, rfl⟩ ?_
  refine wpAny_loadName_local S.kind (by rw [har2]; exact S.par _ List.mem_cons_self) hns (by rw [har2]; exact hm) ?_
  refine ks_wpAny_isType_cls (hKI' _ _ hC) rfl ⟨rfl, ?_⟩
  have hsubC : Looks (model P w) hh (isSubtype (.ref C) (.ref C)) true := looks_mroIn hKI' T.msf
  refine ks_wpAny_call_super (hKI' _ _ hC) rfl hoe rfl (fun c z => by cases z) hsubC fun h2 e2 k2 => ?_
  have I2 : Inv (cxI P w K mg base (sf fs) qual sc f (.ref cda) cc A outer s H R) [] σ H ⟨h2, g, d, tk, os⟩ := I.kept (t' := tk) k2
  have hK2 : K.In h2 := I2.kIn
  have KF := kxs_ValueError
  have hI2 : Looks (model P w) h2 (isInstance (.ref a) (.type "ValueError")) true := (InstAt.type (od := none) ⟨k2 _ _ hoe, rfl, rfl, trivial⟩).andThen (looks_subIn hK2 T.sVE)
  have hsin := T.sin
  unfold ks_superIn at hsin
  rw [hcl, Option.bind_some] at hsin
  have haC : a ≠ C := fun z => by
    rw [z] at hoe
    have := hKI' _ _ hC
    rw [this] at hoe
    cases hoe
  refine kxs_getMethod KF (l₀ := .ref C :: bm) e2 (looks_opaque hK2 T.opq) ?_ rfl hK2 hsin hI2 haC (by decide) ?_
  · exact fun A Q E s k q => wpAny_bind ((looks_clsIn hK2 hcl) A _ E s k (wpAny_pure q))
  have hm2 : (h2.push (kxs_mw "ValueError.__init__" a)).get? h2.objs.size = some (kxs_mw "ValueError.__init__" a) := Heap.get?_push_at rfl rfl
  have k3 : ∀ b o, h2.get? b = some o → (h2.push (kxs_mw "ValueError.__init__" a)).get? b = some o := fun b o e => Heap.get?_push_of_some _ e
  have I3 : Inv (cxI P w K mg base (sf fs) qual sc f (.ref cda) cc A outer s H R) [] σ H ⟨h2.push (kxs_mw "ValueError.__init__" a), g, d, tk + 1, os⟩ := I2.kept (t' := tk + 1) k3
  have he : starEach [.Constant (.str t) n p3] (ksEnv qual sc s.heap.objs.size f (.ref cda) cc) = (false, eval (.Constant (.str t) n p3) (ksEnv qual sc s.heap.objs.size f (.ref cda) cc)) :: starEach [] (ksEnv qual sc s.heap.objs.size f (.ref cda) cc) := by rfl
  refine kxs_callWith (i := "ValueError.__init__") (x := a) (by rw [he]; rfl) ?_
  rw [he]
  refine Calls.evalArgs_plain (Calls.spliced_cons (Calls.Constant_str (k := n) (pos := p3) (Calls.spliced_nil ⟨hm2, ?_⟩)))
  have I4 : Inv (cxI P w K mg base (sf fs) qual sc f (.ref cda) cc A outer s H R) [] σ H ⟨h2.push (kxs_mw "ValueError.__init__" a), g, d, tk + 1 + 1, os⟩ := I3.tok _
  have hoe3 := k3 _ _ (k2 _ _ hoe)
  have hC3 := k3 _ _ (k2 _ _ (hKI' _ _ hC))
  refine ZX.mw_run hC3 hoe3 hm2 (by rw [sizeLine_eq]; exact (by decide : 1 ≤ 16777216)) fun h' t2 k4 hx4 => ?_
  have J := I4.write (t' := tk + 1 + 1) (x := a) (e := a) (o := exo a C none) (by rw [ha]; exact True.intro) (.inl rfl) k4 ⟨_, hx4⟩ (exo_ok hx4)
  have eu : upd H a (exo a C none) = H := by
    funext b
    by_cases hb : b = a
    · rw [hb, upd_same, ha]
    · rw [upd_ne hb]
  rw [eu] at J
  exact go _ J
/-- the whole __init__ -/
theorem init_of {st : Stmt} {fd : FuncData} {fI : Addr} {us : List Value} {vs : List V} {a : Addr} {t : Str} {n : Nat} {p0 p1 p2 p3 p4 p5 : Pos} {Q : VK} {E : XK} {rest : List Stmt} {tr : TS} {args : Args} {CXX : CXT}
    (T : InK K P C fI qual st fs fd) (S : InS fs (defScope st)) (hev : SupEq qual (defScope st) t n p0 p1 p2 p3 p4) (har : ((defArgs st).posonlyargs ++ (defArgs st).args).head?.map (·.arg) = some ("self" : Str))
    (hbd : defBody st = supS t n p0 p1 p2 p3 p4 p5 :: rest) (hd : A.handled = none) (hdp : A.depth < recursionLimit) (e0 : Env0 P w K mg base A outer s H) (hb : BindsTo s fd args ((sf fs).zip us)) (r : Vals vs us) (hl : vs.length = (sf fs).length)
    (h0 : vs[0]? = some (.ref a)) (ha : H a = some (exo a C none))
    (hrest : ∀ (cd : Value) (cc : Addr) (R : Result → Shared → Prop), PSs (cxI P w K mg base (sf fs) qual (defScope st) fI cd cc A outer s H R) rest tr)
    (hq : tr { nx := fun _ H' => Q .non H', rt := fun _ _ => False } (vs.map some) H) : codeAny (model P w) A (.call (.ref fI) args) (CR CXX outer P w H s Q E) s := by
  obtain ⟨oc, od, doc, pm, kV, dV, an, cda, cc, ct, osl, rfl, lf, hcd, lc, lcc⟩ := T.fn
  have KX : K.In s.heap := e0.mod.kin.keeps fun b o e => (e0.bs b o e).1
  have lim : s.heap.NoLimit := e0.mod.nolimit.keeps fun b o e => (e0.bs b o e).1
  have hlen : us.length = (sf fs).length := by
    rw [← hl]
    exact (Paired.length r).symm
  refine ks_codeAny_call_defAt (fd := ksFn "__init__" qual (defArgs st) (defBody st) (defScope st) dV kV doc pm an (.ref cda) ct cc) (body := defBody st) (binds := (sf fs).zip us) hdp (KX _ _ lf) rfl lim (codeRec_of KX hcd) rfl hb S.nocell
    (fun y hy => S.par y.1 (List.of_mem_zip (show (y.1, y.2) ∈ (sf fs).zip us from hy)).1) (fun h1 hns hk => ?_) S.co S.gen S.kind
  have I : Inv (cxI P w K mg base (sf fs) qual (defScope st) fI (.ref cda) cc A outer s H (CR CXX outer P w H s Q E)) [] (vs.map some) H { s with heap := h1, toks := s.toks + ((sf fs).zip us).length } :=
    invI S hd e0 hl r hns hk (by obtain ⟨cl, cld, csl, z⟩ := lcc; exact ⟨_, _, z, rfl⟩)
  show PySem.wpAt (model P w) (A.deeper (ksEnv qual (defScope st) s.heap.objs.size fI (.ref cda) cc)) (.func (defBody st) (ksEnv qual (defScope st) s.heap.objs.size fI (.ref cda) cc)) (execs (defBody st) (ksEnv qual (defScope st) s.heap.objs.size fI (.ref cda) cc)) _ _ _
  rw [hbd]
  refine ks_wpAt_execs_cons ?_
  rw [← hbd]
  refine sup_run (R := CR CXX outer P w H s Q E) T S hev har ⟨_, _, _, lf⟩ rfl lc lcc I (by rw [List.getElem?_map, h0]; rfl) ha fun s2 J => ?_
  refine PySem.wpAt_of_wpAny ?_
  refine wpAny_mono ((hrest (.ref cda) cc (CR CXX outer P w H s Q E)).run [] s2 (vs.map some) H _ J hq) (fun fl s' hs => ?_) (fun e s' hs => hs)
  cases fl with
  | ret u =>
    obtain ⟨_, _, _, _, _, z⟩ := hs
    exact z.elim
  | next =>
    obtain ⟨σ', H', J', q⟩ := hs
    exact ⟨V.non, H', J'.os, J'.bare, J'.base, J'.hok, rfl, q⟩
  | brk => exact hs.elim fun _ h => h.elim fun _ h => h.2.elim
  | cont => exact hs.elim fun _ h => h.elim fun _ h => h.2.elim
end
end Z

set_option Elab.async false
set_option linter.all false
set_option maxRecDepth 100000
set_option maxHeartbeats 4000000
set_option autoImplicit false
namespace Z
open PySem PySem.Spec PyProof.Rows L2

/-! ## own errors: made and raised -/
/-- how the values are bound -/
def BdX (K : PySem.W.Frag) (fd : FuncData) (fs : List Str) (n : Nat) (ks : List Str) (src : List Src) : Prop :=
  ∀ (s : Shared) (self : Value) (us ws r : List Value), K.In s.heap → us.length = n → ws.length = ks.length → fill us ws [] src = some r → BindsTo s fd ⟨self :: us, ks.zip ws⟩ ((sf fs).zip (self :: r))
/-- its fields are set -/
def FldB (fs : List Str) (rest : List Stmt) : Prop := match fs with
    | [] => rest = []
    | [f] => ∃ q1 q2 q3 q4 : Pos, rest = [.Assign [.Attribute (.Name "self" q1) f q2] (.Name f q3) q4]
    | [f, g] => ∃ q1 q2 q3 q4 r1 r2 r3 r4 : Pos, rest = [.Assign [.Attribute (.Name "self" q1) f q2] (.Name f q3) q4, .Assign [.Attribute (.Name "self" r1) g r2] (.Name g r3) r4]
    | _ => False
/-- class number c, called x, its fields fs -/
structure XcF (G : Gm) (P : Program) (c : Nat) (x qual : Str) (st : Stmt) (fs : List Str) (fI : Addr) (fd : FuncData) : Prop where
  mg : G.mg x = some (.ref (G.cls c))
  ink : InK G.K P (G.cls c) fI qual st fs fd
  ins : InS fs (defScope st)
  har : ((defArgs st).posonlyargs ++ (defArgs st).args).head?.map (·.arg) = some ("self" : Str)
  sup : ∃ (t : Str) (n : Nat) (p0 p1 p2 p3 p4 p5 : Pos) (rest : List Stmt), SupEq qual (defScope st) t n p0 p1 p2 p3 p4 ∧ defBody st = supS t n p0 p1 p2 p3 p4 p5 :: rest ∧ FldB fs rest
  ndb : ∀ f ∈ fs, (f == ("__debug__" : Str)) = false ∧ (f == ("__classdict__" : Str)) = false
/-- what the call leaves -/
def XQ (C : Addr) (fs : List Str) (r : List V) (H : Hp) (Q : XK) : Prop := (fs = [] → Q (.ref C) none H) ∧ (fs ≠ [] → ∀ d, H d = none → Q (.ref C) (some d) (upd H d (.xd (fs.zip r).reverse)))
section
variable {X : Cx} {pins : List (Addr × Obj)} {σ : L2.St}
theorem mk_endN {H1 : Hp} {Q : XK} {hp hp2 h2 : Heap} {g1 g2 : Array GenState} {d1 d2 : Drawn} {t1 t2 : Nat} {os1 os2 : OsState} {a C : Addr} (T : Raises X (.ref C)) (I1 : Inv X pins σ H1 ⟨hp, g1, d1, t1, os1⟩)
    (ha : hp.objs.size ≤ a) (k : ∀ b o, hp.get? b = some o → hp2.get? b = some o) (un : Un (frs X.stack) [] (upd H1 a (exo a C none)) (upd H1 a (exo a C none)) hp2 h2) (hok : HOk X.prog X.w (upd H1 a (exo a C none)) h2) (ho : os2 = os1) (hb : AllBare g2)
    (q : Q (.ref C) none H1) : MkP X pins σ Q (.ref a) ⟨h2, g2, d2, t2, os2⟩ := by
  obtain ⟨t0, hoe⟩ := exo_at hok (upd_same (H := H1) (a := a) (o := exo a C none))
  have hn : H1 a = none := I1.hok.fresh ha
  obtain ⟨G, g1', g2'⟩ := restrict h2 fun b => decide (b ≠ a)
  have gk : ∀ b, b ≠ a → G.get? b = h2.get? b := fun b hb => g1' b (decide_eq_true hb)
  have ge : G.get? a = none := g2' a (by simp)
  have nha : ∀ {b : Addr} {o : Obj}, hp.get? b = some o → b ≠ a := fun {b o} z => Nat.ne_of_lt (Nat.lt_of_lt_of_le (Heap.lt_size z) ha)
  have up : ∀ {b : Addr}, b ≠ a → H1 b = none → upd H1 a (exo a C none) b = none := fun {b} hb n => by rw [upd_ne hb]; exact n
  have U : Un (frs X.stack) [] H1 H1 hp G := by
    refine ⟨fun b o z n hf hx => ?_, fun b o z n hf hx => ?_, fun b o z n hx => n, fun b o z hx => ?_, fun b xs z => z, fun b o v z => z, fun b ps z => ⟨#[], by rw [z]; simp⟩⟩
    · rw [gk b (nha z)]
      exact un.keep b o (k b o z) (up (nha z) n) hf hx
    · rw [gk b (nha z)]
      exact un.slot b o (k b o z) (up (nha z) n) hf hx
    · rw [gk b (nha z)]
      exact un.there b o (k b o z) hx
  have hok3 : HOk X.prog X.w H1 G := fun b o z => by
    have hba : b ≠ a := fun e => by
      rw [e, hn] at z
      cases z
    refine (hok b o (by rw [upd_ne hba]; exact z)).stay (fun c v hc y => ?_) (fun c hc => ?_) fun c xs hc => ?_
    · have hca : c ≠ a := by
        rcases hc with hc | hc
        · rw [hc]
          exact hba
        · intro e
          rw [e, upd_same] at hc
          exact exo_own (Option.some.inj hc)
      rw [gk c hca]
      exact y
    · have hca : c ≠ a := fun e => by
        rw [e, upd_same] at hc
        exact exo_own (Option.some.inj hc)
      rw [upd_ne hca] at hc
      exact hc
    · have hca : c ≠ a := fun e => by
        rw [e, upd_same] at hc
        exact exo_tup (Option.some.inj hc)
      rw [upd_ne hca] at hc
      exact hc
  have J : Inv X pins σ H1 ⟨G, g2, d2, t2, os2⟩ := I1.call' (ch := []) ho U hok3 hb (fun b z => absurd z (by simp))
  refine ⟨a, _, _, ⟨G, g2, d2, t2, os2⟩, _, .ref C, none, rfl, J, fun b o z => ?_, ge, hoe, ⟨rfl, rfl⟩, rfl, rfl, hn, rfl, hb, T, q⟩
  by_cases hba : b = a
  · rw [hba, ge] at z
    cases z
  · exact (gk b hba).symm.trans z
theorem upd_del {H : Hp} {a d : Addr} {e f f2 g : HO} (hn : H a = none) : upd (L2.del (upd (upd (upd H a e) d f) a g) a) d f2 = upd H d f2 := by
  funext b
  by_cases hd : b = d
  · rw [hd, upd_same, upd_same]
  · rw [upd_ne hd, upd_ne hd]
    by_cases ha : b = a
    · rw [ha, del_same, hn]
    · rw [del_ne ha, upd_ne ha, upd_ne hd, upd_ne ha]
theorem upd_del2 {H : Hp} {a d : Addr} {e f f2 f3 g : HO} (hn : H a = none) : upd (L2.del (upd (upd (upd (upd H a e) d f) a g) d f2) a) d f3 = upd H d f3 := by
  funext b
  by_cases hd : b = d
  · rw [hd, upd_same, upd_same]
  · rw [upd_ne hd, upd_ne hd]
    by_cases ha : b = a
    · rw [ha, del_same, hn]
    · rw [del_ne ha, upd_ne hd, upd_ne ha, upd_ne hd, upd_ne ha]
/-- the class is called -/
theorem mk_core {G : Gm} {c k n : Nat} {x qual : Str} {st : Stmt} {fs ks : List Str} {fI : Addr} {fd : FuncData} {src : List Src} {H : Hp} {s : Shared} {us ws : List Value} {ru : List Value} {r : List V} {Q : XK} (T : XcF G X.prog c x qual st fs fI fd) (B : BdX G.K fd fs n ks src)
    (hK : X.K = G.K) (hr : Room (k + 1) X.A) (I : Inv X pins σ H s) (h1 : us.length = n) (h2 : ws.length = ks.length) (hf : fill us ws [] src = some ru) (rv : Vals r ru) (hl : r.length = fs.length) (hul : us.length ≤ 1000) (hq : XQ (G.cls c) fs r H Q) :
    wpAny (model X.prog X.w) X.A (call (.ref (G.cls c)) us (ks.zip ws)) (MkP X pins σ Q) X.xe s := by
  have TI := T.ink
  rw [← hK] at TI B
  obtain ⟨nm, q, N, bs, bm, sn, sub, ab, col, dd, k0, k1, k2, k3, k5, hC, hbm⟩ := TI.oex.cls
  obtain ⟨hp, g, dr, tk, os⟩ := s
  have hsz : hp.objs.size ≤ hp.objs.size + 1 := Nat.le_succ _
  have hn : H (hp.objs.size + 1) = none := I.hok.fresh hsz
  have kk : ∀ b o, hp.get? b = some o → ((hp.push (PySem.W.kdv_tup us)).push (PySem.HandSPX.excO (G.cls c) hp.objs.size)).get? b = some o := fun b o e => Heap.get?_push_of_some _ (Heap.get?_push_of_some _ e)
  have hget : ((hp.push (PySem.W.kdv_tup us)).push (PySem.HandSPX.excO (G.cls c) hp.objs.size)).get? (hp.objs.size + 1) = some (PySem.HandSPX.excO (G.cls c) hp.objs.size) := by heap_get
  have I2 : Inv X pins σ (upd H (hp.objs.size + 1) (exo (hp.objs.size + 1) (G.cls c) none)) ⟨(hp.push (PySem.W.kdv_tup us)).push (PySem.HandSPX.excO (G.cls c) hp.objs.size), g, dr, tk, os⟩ :=
    I.laid (t' := tk) (a := hp.objs.size + 1) (o := exo (hp.objs.size + 1) (G.cls c) none) (h' := (hp.push (PySem.W.kdv_tup us)).push (PySem.HandSPX.excO (G.cls c) hp.objs.size)) kk hsz (exo_ok hget)
  have hus : us.length ≤ sizeLine := by
    rw [sizeLine_eq]
    omega
  have R : Raises X (.ref (G.cls c)) := raises_own TI.oex.exC TI.oex.tyC
  have r2 : Vals (V.ref (hp.objs.size + 1) :: r) (Value.ref (hp.objs.size + 1) :: ru) := .cons rfl rv
  obtain ⟨t, nn, p0, p1, p2, p3, p4, p5, rest, hev, hbd, hrest⟩ := T.sup
  -- the end
  have fin : ∀ (Q2 : VK), (∀ (v : V) (H2 : Hp) (u : Value) (s' : Shared), CE X.stack X.prog X.w (upd H (hp.objs.size + 1) (exo (hp.objs.size + 1) (G.cls c) none)) ⟨(hp.push (PySem.W.kdv_tup us)).push (PySem.HandSPX.excO (G.cls c) hp.objs.size), g, dr, tk, os⟩ Q2 u s' → u = .none ∧ MkP X pins σ Q (.ref (hp.objs.size + 1)) s') →
      codeAny (model X.prog X.w) (X.A.under (.builtin "type.__call__" ⟨.ref (G.cls c) :: us, ks.zip ws⟩)) (.call (.ref fI) ⟨.ref (hp.objs.size + 1) :: us, ks.zip ws⟩)
        (CR (fun _ _ _ _ _ _ => False) X.stack X.prog X.w (upd H (hp.objs.size + 1) (exo (hp.objs.size + 1) (G.cls c) none)) ⟨(hp.push (PySem.W.kdv_tup us)).push (PySem.HandSPX.excO (G.cls c) hp.objs.size), g, dr, tk, os⟩ Q2 (fun _ _ _ => False)) ⟨(hp.push (PySem.W.kdv_tup us)).push (PySem.HandSPX.excO (G.cls c) hp.objs.size), g, dr, tk, os⟩ →
      wpAny (model X.prog X.w) X.A (call (.ref (G.cls c)) us (ks.zip ws)) (MkP X pins σ Q) X.xe ⟨hp, g, dr, tk, os⟩ := by
    intro Q2 h2 hrun
    refine wpAny_call (ZX.kcall_own F.excBase_ValueError (fun Y => PySem.HandSPX.refsVE_contains Y bm hbm) (I.kIn _ _ hC) (PySem.W.looks_findIn I.kIn TI.iC) (fun self => PySem.W.bind_fn I.kIn self TI.tI) hus
      (codeAny_mono hrun fun r s' hq' => ?_))
    cases r with
    | error er => exact False.elim hq'
    | ok fl =>
      cases fl with
      | ret u =>
        have z := h2 .non H u s' hq'
        exact z
      | next => exact False.elim hq'
      | brk => exact False.elim hq'
      | cont => exact False.elim hq'
  have hrm := hr.make (G.cls c) us (ks.zip ws)
  have e2 := I2.env0.make (G.cls c) us (ks.zip ws)
  have hb := B ⟨(hp.push (PySem.W.kdv_tup us)).push (PySem.HandSPX.excO (G.cls c) hp.objs.size), g, dr, tk, os⟩ (.ref (hp.objs.size + 1)) us ws ru I2.kIn h1 h2 hf
  have hl2 : (V.ref (hp.objs.size + 1) :: r).length = (sf fs).length := by simp [hl]
  rcases fs with _ | ⟨f, _ | ⟨f', _ | ⟨f'', fs⟩⟩⟩
  · obtain rfl : r = [] := List.length_eq_zero_iff.mp hl
    refine fin (fun v H2 => v = .non ∧ H2 = upd H (hp.objs.size + 1) (exo (hp.objs.size + 1) (G.cls c) none)) (fun v H2 u s' hce => ?_) ?_
    · obtain ⟨v', H', os2, bare2, un2, hok2, rv', rfl, rfl⟩ := hce
      obtain ⟨h2, g2, d2, t2, os'⟩ := s'
      exact ⟨rv', mk_endN R I hsz kk un2 hok2 os2 bare2 (hq.1 rfl)⟩
    · refine init_of (tr := tNext) TI T.ins hev T.har hbd hrm.hd hrm.depth e2 hb r2 hl2 rfl upd_same (fun cd cc RR => ?_) ⟨rfl, rfl⟩
      rw [show rest = [] from hrest]
      exact pss_nil
  · obtain ⟨y, rfl⟩ : ∃ y, r = [y] := List.length_eq_one_iff.mp hl
    obtain ⟨q1, q2, q3, q4, hrest⟩ := hrest
    refine fin (fun v H2 => v = .non ∧ ∃ d, H d = none ∧ d ≠ hp.objs.size + 1 ∧ H2 = upd (upd (upd H (hp.objs.size + 1) (exo (hp.objs.size + 1) (G.cls c) none)) d (exd d [(f, y)])) (hp.objs.size + 1) (exo (hp.objs.size + 1) (G.cls c) (some d))) (fun v H2 u s' hce => ?_) ?_
    · obtain ⟨v', H', os2, bare2, un2, hok2, rv', rfl, d, hd, hda, rfl⟩ := hce
      obtain ⟨h2, g2, d2, t2, os'⟩ := s'
      refine ⟨rv', mk_end R I hsz kk un2 hok2 os2 bare2 upd_same (by rw [upd_ne hda, upd_same]) hd ?_⟩
      rw [upd_del hn]
      exact hq.2 (by simp) d hd
    · refine init_of (tr := tOst X.K f (tVar 0) (tVar 1)) TI T.ins hev T.har hbd hrm.hd hrm.depth e2 hb r2 hl2 rfl upd_same (fun cd cc RR => ?_) ?_
      · rw [hrest]
        exact pss_one (ps_ost (pv 0 rfl (.inl (T.ins.par _ (by simp))) (by decide) (by decide)) (pv 1 rfl (.inl (T.ins.par _ (by simp))) (T.ndb _ (by simp)).1 (T.ndb _ (by simp)).2))
      · refine ⟨y, rfl, .ref (hp.objs.size + 1), rfl, hp.objs.size + 1, G.cls c, rfl, TI.oex, TI.noF _ (by simp), .inl ⟨upd_same, fun dx hd hne => ⟨rfl, dx, ?_, hne, rfl⟩⟩⟩
        rw [upd_ne hne] at hd
        exact hd
  · obtain ⟨y, z, rfl⟩ : ∃ y z, r = [y, z] := by
      match r, hl with
      | [y, z], _ => exact ⟨y, z, rfl⟩
    obtain ⟨q1, q2, q3, q4, q5, q6, q7, q8, hrest⟩ := hrest
    refine fin (fun v H2 => v = .non ∧ ∃ d, H d = none ∧ d ≠ hp.objs.size + 1 ∧ H2 = upd (upd (upd (upd H (hp.objs.size + 1) (exo (hp.objs.size + 1) (G.cls c) none)) d (exd d [(f, y)])) (hp.objs.size + 1) (exo (hp.objs.size + 1) (G.cls c) (some d))) d (exd d [(f', z), (f, y)])) (fun v H2 u s' hce => ?_) ?_
    · obtain ⟨v', H', os2, bare2, un2, hok2, rv', rfl, d, hd, hda, rfl⟩ := hce
      obtain ⟨h2, g2, d2, t2, os'⟩ := s'
      refine ⟨rv', mk_end R I hsz kk un2 hok2 os2 bare2 (by rw [upd_ne (Ne.symm hda), upd_same]) upd_same hd ?_⟩
      rw [upd_del2 hn]
      exact hq.2 (by simp) d hd
    · refine init_of (tr := tSeq (tOst X.K f (tVar 0) (tVar 1)) (tOst X.K f' (tVar 0) (tVar 2))) TI T.ins hev T.har hbd hrm.hd hrm.depth e2 hb r2 hl2 rfl upd_same (fun cd cc RR => ?_) ?_
      · rw [hrest]
        exact pss_cons (ps_ost (pv 0 rfl (.inl (T.ins.par _ (by simp))) (by decide) (by decide)) (pv 1 rfl (.inl (T.ins.par _ (by simp))) (T.ndb _ (by simp)).1 (T.ndb _ (by simp)).2))
          (pss_one (ps_ost (pv 0 rfl (.inl (T.ins.par _ (by simp))) (by decide) (by decide)) (pv 2 rfl (.inl (T.ins.par _ (by simp))) (T.ndb _ (by simp)).1 (T.ndb _ (by simp)).2)))
      · refine ⟨y, rfl, .ref (hp.objs.size + 1), rfl, hp.objs.size + 1, G.cls c, rfl, TI.oex, TI.noF _ (by simp), .inl ⟨upd_same, fun dx hd hne => ?_⟩⟩
        rw [upd_ne hne] at hd
        refine ⟨z, rfl, .ref (hp.objs.size + 1), rfl, hp.objs.size + 1, G.cls c, rfl, TI.oex, TI.noF _ (by simp), .inr ⟨dx, [(f, y)], upd_same, by rw [upd_ne hne, upd_same], by simp, ⟨rfl, dx, hd, hne, rfl⟩⟩⟩
  · exact (show False from hrest).elim
end
def sRaise (c : Nat) (fs : List Str) (n m : Nat) (src : List Src) (a b : ML) : MS := fun ρ S => srRes ρ (a ρ S) fun us S1 => srRes ρ (b ρ S1) fun ws S2 =>
  if us.length = n ∧ ws.length = m ∧ n ≤ 1000 then
    match fill us ws [] src with
    | some ds => if ds.length = fs.length then .ex ρ c fs.reverse ds.reverse S2 else .bad
    | none => .bad
  else .bad
def tRs (C : Addr) (fs : List Str) (n m : Nat) (src : List Src) (t tk : TA) : L2.St → Hp → XK → Prop := fun σ H Q => t σ H fun vs H1 => tk σ H1 fun zs H2 => vs.length = n ∧ zs.length = m ∧ n ≤ 1000 ∧ ∃ r, fill vs zs [] src = some r ∧ r.length = fs.length ∧ XQ C fs r H2 Q
section
variable {G : Gm} {X : Cx} {W : WX} {k : Nat} {c n : Nat} {x qual : Str} {st : Stmt} {fs ks : List Str} {fI : Addr} {fd : FuncData} {src : List Src} {p pos pos' : Pos} {a b : ML}
theorem imp_raise {t tk : TA} (ia : ImpE G W (Reps G) t a) (ib : ImpE G W (Reps G) tk b) : ImpS G W (fun _ σ H => tRs (G.cls c) fs n ks.length src t tk σ H fun cls d H' => W cls d σ H') (sRaise c fs n ks.length src a b) := by
  intro ρ S σ H F μ Ds he hr hp
  refine ia ρ S σ H F μ _ he hr (PostS.res hp he fun us S1 F1 μ1 vs H1 x1 r1 p1 q1 => ?_)
  refine ib ρ S1 σ H1 F1 μ1 _ (he.mono x1) r1 (PostS.res q1 (he.mono x1) fun ws S2 F2 μ2 zs H2 x2 r2 p2 q2 => ?_)
  by_cases hc : us.length = n ∧ ws.length = ks.length ∧ n ≤ 1000
  · rw [if_pos hc] at q2
    cases hf : fill us ws [] src with
    | none => rw [hf] at q2; exact q2.elim
    | some ds =>
      rw [hf] at q2
      by_cases hl : ds.length = fs.length
      · simp only [if_pos hl] at q2
        obtain ⟨r, hfr, rr⟩ := fill_rep (p1.mono x2) p2 (.nil : Reps G F2 μ2 [] []) hf
        refine ⟨by rw [← p1.length]; exact hc.1, by rw [← p2.length]; exact hc.2.1, hc.2.2, r, hfr, by rw [← rr.length]; exact hl, fun h0 => ?_, fun h0 d hd => ?_⟩
        · subst h0
          obtain rfl : ds = [] := List.length_eq_zero_iff.mp hl
          cases rr
          exact q2 F2 μ2 σ none [] H2 (Ext.refl _ _) r2 ((he.mono x1).mono x2) rfl rfl .nil
        · obtain ⟨xx, r3⟩ := r2.newF (.xd (fs.zip r).reverse) hd
          refine q2 _ μ2 σ (some d) r.reverse _ xx r3 (((he.mono x1).mono x2).mono xx) ?_ (by simp [hl]) (rr.mono xx).rev
          show upd F2 d _ d = _
          rw [upd_same, List.zip_eq_zipWith, List.reverse_zipWith (by rw [← rr.length]; exact hl.symm)]
          rfl
      · simp only [if_neg hl] at q2
        exact q2.elim
  · rw [if_neg hc] at q2
    exact q2.elim
theorem ss_raiseP {e : Expr} {es : List Expr} (ok : Ok G X k W) (hk : 1 ≤ k) (T : XcF G X.prog c x qual st fs fI fd) (B : BdX G.K fd fs n [] src) (ha : SA G X W (e :: es) a) (hg : Gl X x := by rfl)
    (hdb : (x == ("__debug__" : Str)) = false := by decide) (he : starEach (e :: es) X.env = (false, eval e X.env) :: starEach es X.env := by rfl) (hpl : (backTo pos (starEach es X.env)).any (·.1) = false := by rfl) :
    SS G X W (.Raise (some (.Call (.Name x p) (e :: es) [] pos)) none pos') (sRaise c fs n 0 src a mNilL) := by
  obtain ⟨t, pa, ia⟩ := ha
  refine ⟨_, ps_raise ok.calm ok.tk (t := tRs (G.cls c) fs n 0 src t tNil) ?_, imp_raise (ks := []) ia fun ρ S σ H F μ Q he hr hp => hp F μ [] H (Ext.refl _ _) hr .nil⟩
  intro pins s σ H Q I h
  refine wpAny_Call_Name_kw (ld_glob I hg (by rw [ok.mg]; exact T.mg) ?_ hdb)
  refine PySem.W.callWith_K (h₀ := X.base) I.ok.mod.kin (by rw [ok.K]; exact T.ink.oex.kC) (thn (pa.run pos pins s σ H _ I h) fun us s1 hv => ?_) he hpl
  obtain ⟨vs, H1, I1, r1, h1, h2, h3, r, hf, hl, hq⟩ := hv
  obtain ⟨ru, hfu, rv⟩ := fill_val r1 (.nil : Vals [] []) (.nil : Vals [] []) hf
  have hus : us.length = n := by rw [← h1]; exact (Paired.length r1).symm
  refine ⟨I1.kIn, ?_⟩
  rw [List.nil_append]
  exact mk_core (ks := []) (ws := []) T B ok.K (ok.room.mono hk) I1 hus rfl hfu rv hl (by omega) hq
theorem ss_raiseK {kws : List Keyword} (ok : Ok G X k W) (hk : 1 ≤ k) (T : XcF G X.prog c x qual st fs fI fd) (B : BdX G.K fd fs 0 ks src) (hb : SK G X W kws b) (hg : Gl X x := by rfl)
    (hall : (backToKw pos (keywordEach kws X.env)).all (·.1.isSome) = true := by rfl) (hks : (backToKw pos (keywordEach kws X.env)).filterMap (·.1) = ks := by rfl)
    (hdb : (x == ("__debug__" : Str)) = false := by decide) (hpl : ((backTo pos (starEach [] X.env)).any (·.1) || (backToKw pos (keywordEach kws X.env)).any (·.1.isNone)) = false := by rfl) :
    SS G X W (.Raise (some (.Call (.Name x p) [] kws pos)) none pos') (sRaise c fs 0 ks.length src mNilL b) := by
  obtain ⟨tk, pk, ik⟩ := hb
  refine ⟨_, ps_raise ok.calm ok.tk (t := tRs (G.cls c) fs 0 ks.length src tNil tk) ?_, imp_raise (fun ρ S σ H F μ Q he hr hp => hp F μ [] H (Ext.refl _ _) hr .nil) ik⟩
  intro pins s σ H Q I h
  refine wpAny_Call_Name_kw (ld_glob I hg (by rw [ok.mg]; exact T.mg) ?_ hdb)
  refine PySem.W.callWith_KW0 (h₀ := X.base) I.ok.mod.kin (by rw [ok.K]; exact T.ink.oex.kC) hall (thn (pk.run pos pins s σ H _ I h) fun ws s1 hv => ?_) hpl
  obtain ⟨zs, H1, I1, r1, h1, h2, h3, r, hf, hl, hq⟩ := hv
  obtain ⟨ru, hfu, rv⟩ := fill_val (.nil : Vals [] []) r1 (.nil : Vals [] []) hf
  have hws : ws.length = ks.length := by rw [← h2]; exact (Paired.length r1).symm
  rw [hks]
  exact ⟨I1.kIn, mk_core (us := []) T B ok.K (ok.room.mono hk) I1 rfl hws hfu rv hl (by simp) hq⟩
theorem ss_raise0 (ok : Ok G X k W) (hk : 1 ≤ k) (T : XcF G X.prog c x qual st fs fI fd) (B : BdX G.K fd fs 0 [] src) (hg : Gl X x := by rfl) (hdb : (x == ("__debug__" : Str)) = false := by decide) :
    SS G X W (.Raise (some (.Call (.Name x p) [] [] pos)) none pos') (sRaise c fs 0 0 src mNilL mNilL) := by
  refine ⟨_, ps_raise ok.calm ok.tk (t := tRs (G.cls c) fs 0 0 src tNil tNil) ?_, imp_raise (ks := []) (fun ρ S σ H F μ Q he hr hp => hp F μ [] H (Ext.refl _ _) hr .nil) (fun ρ S σ H F μ Q he hr hp => hp F μ [] H (Ext.refl _ _) hr .nil)⟩
  intro pins s σ H Q I h
  refine wpAny_Call_Name_kw (ld_glob I hg (by rw [ok.mg]; exact T.mg) ?_ hdb)
  refine PySem.W.callWith_K0 I.kIn (by rw [ok.K]; exact T.ink.oex.kC) ?_
  obtain ⟨h1, h2, h3, r, hf, hl, hq⟩ := h
  obtain ⟨ru, hfu, rv⟩ := fill_val (.nil : Vals [] []) (.nil : Vals [] []) (.nil : Vals [] []) hf
  exact mk_core (ks := []) (ws := []) (us := []) T B ok.K (ok.room.mono hk) I rfl rfl hfu rv hl (by simp) hq
end
end Z

set_option Elab.async false
set_option linter.all false
set_option maxRecDepth 100000
set_option maxHeartbeats 4000000
set_option autoImplicit false
namespace Z
open PySem PySem.Spec PyProof.Rows L2

/-! ## an error is caught and kept -/
section
variable {X : Cx} {pins : List (Addr × Obj)} {σ : L2.St} {H : Hp} {s : Shared}
theorem inv_track {a C : Addr} {oe : Obj} {vs : Array Value} {d : Option Addr} (J : Inv X ((a, oe) :: pins) σ H s) (hz : Zc (.ref C) d oe) (hd : oe.data = .fields vs) (n0 : X.s_0.heap.get? a = none) (np : ∀ p ∈ X.pn ++ pins, p.1 ≠ a) :
    Inv X pins σ (upd H a (xO C d a)) s := by
  have P := J.pin (a, oe) (List.mem_append_right _ List.mem_cons_self)
  obtain ⟨ha, hn, hL, hF, hc⟩ := P
  have ha' : s.heap.get? a = some oe := ha
  have hn' : H a = none := hn
  have ne0 : ∀ {b : Addr} {o : Obj}, X.s_0.heap.get? b = some o → b ≠ a := fun {b o} e z => by
    rw [z, n0] at e
    cases e
  have neH : ∀ {b : Addr} {o : HO}, H b = some o → b ≠ a := fun {b o} e z => by
    rw [z, hn'] at e
    cases e
  refine ⟨J.ok, J.os, J.bare, ⟨J.base.keep, J.base.slot, fun b o e n hx => ?_, J.base.there, fun b xs e => ?_, fun b o u e => ?_, fun b ps e => ?_⟩, J.loc, J.cell, ?_, fun x c e => ?_, fun p hp => ?_, fun b o e => ?_, J.len⟩
  · rw [upd_ne (ne0 e)]
    exact J.base.free b o e n hx
  · have q := J.base.tups b xs e
    rw [upd_ne (neH q)]
    exact q
  · have q := J.base.frzs b o u e
    rw [upd_ne (neH q)]
    exact q
  · obtain ⟨more, q⟩ := J.base.tbls b ps e
    exact ⟨more, by rw [upd_ne (neH q)]; exact q⟩
  · rw [upd_ne (Ne.symm hL)]
    exact J.free
  · obtain ⟨v, o, ho, hdc⟩ := J.cell x c e
    have : c ≠ a := fun z => by
      rw [z, ha'] at ho
      cases ho
      exact hc _ hdc
    rw [upd_ne this]
    exact J.freeC x c e
  · have hp' : p ∈ X.pn ++ (a, oe) :: pins := by
      rcases List.mem_append.mp hp with q | q
      · exact List.mem_append_left _ q
      · exact List.mem_append_right _ (List.mem_cons_of_mem _ q)
    obtain ⟨e, n, ne, nf, dd⟩ := J.pin p hp'
    exact ⟨e, by rw [upd_ne (np p hp)]; exact n, ne, nf, dd⟩
  · by_cases hb : b = a
    · subst hb
      rw [upd_same] at e
      cases e
      refine ⟨⟨oe, vs, ha', hz, hd⟩, ⟨oe, ha'⟩, fun h1 h2 z kk => ?_⟩
      obtain ⟨o1, v1, q1, q2⟩ := z
      exact ⟨o1, v1, kk _ q1, q2⟩
    · rw [upd_ne hb] at e
      exact (J.hok b o e).stay (fun c v _ q => q) (fun c q => by rw [upd_ne (neH q)]; exact q) fun c xs q => by rw [upd_ne (neH q)]; exact q
end
/-- what the clause wishes -/
def wKeep (K : PySem.W.Frag) (c : Value) (i j : Nat) (Wout : WX) (D : Ends) : WX := fun cls d σ H =>
  ∃ b, PySem.W.exmOne K cls c = some b ∧ (b = true → ∀ a, H a = none → ∃ C, cls = .ref C ∧ D.nx ((σ.set j (some (.ref a))).set i none) (upd H a (xO C d a))) ∧ (b = false → Wout cls d σ H)
section
variable {X : Cx} {x n m : Str} {cv : Value} {i j : Nat} {body : List Stmt} {np pm pn' pa pos pos' : Pos} {tb : WX → TS} {Wout : WX}
theorem ps_try_keep (hs : X.stack = X.env :: X.outer) (hf : X.env.frame = some X.env.locals) (hex : X.ex = []) (hN : X.N.Nodup) (hi : X.N[i]? = some n) (hj : X.N[j]? = some m) (hln : X.env.kindOf n = some .local) (hlm : X.env.kindOf m = some .local) (hc : Names X x cv) (tk : Takes X Wout)
    (hb : ∀ (W : WX) (pn : List (Addr × Obj)) (xe : Value → Shared → Prop), Takes (X.tr pn xe) W → PassesOwn (model X.prog X.w) X.A X.env xe → PSs (X.tr pn xe) body (tb W))
    (hd1 : (n == ("__debug__" : Str)) = false) (hd2 : (n == ("__classdict__" : Str)) = false)
    (hsw : swapsWithSole [.Name m pm] (.Name n pn') pa.line X.env = pure false) (hss : swappedStores [.Name m pm] (.Name n pn') X.env = pure none) (has : (assignEach [.Name m pm] X.env).map (·.2) = [assign (.Name m pm) X.env]) :
    PS X (.Try body [.ExceptHandler (some (.Name x np)) (some n) [.Assign [.Name m pm] (.Name n pn') pa] pos'] [] [] pos) (fun D σ H => tb (wKeep X.K cv i j Wout D) D σ H) := by
  refine ⟨fun pins s σ H D I h => ?_⟩
  have ok := I.ok
  have hfr : X.A.frames = some (X.env :: X.outer) := by rw [ok.frames, hs]
  have hloc : Loc X.env.scope n := .inl hln
  refine wpAny_Try_except ?_
  refine wpAny_mono ((hb (wKeep X.K cv i j Wout D) (X.pn ++ pins) (fun e s₁ => wpAny (model X.prog X.w) X.A (noteFrame e X.env) (fun _ s₂ => wpAny (model X.prog X.w) X.A (setFlight e none) (fun _ s₃ =>
    wpAny (model X.prog X.w) X.A (handleBy e X.env [.ExceptHandler (some (.Name x np)) (some n) [.Assign [.Name m pm] (.Name n pn') pa] pos']) (SP X pins D) X.xe s₃) X.xe s₂) X.xe s₁) (fun u s' xx => ?_) PassesOwn.looking).run [] s σ H D (I.toTry _) h) (fun f s1 hsp => ?_) (fun e s1 he => he)
  · obtain ⟨a, B, sI, pins', σ', H', cls, d, rfl, J', nb, up, sky, na, os, ag, b, hb1, hyes, hno⟩ := xx
    have J : Inv X pins σ' H' sI := J'.ofTry ok
    have sky' : Sky B (X.env :: X.outer) a (Zc cls d) X.env.locals s'.heap := by rw [← hs]; exact sky
    have hBa : B.get? a = none := by
      rcases sky' with q | q | q
      · exact q.2.1
      · exact q.2.1
      · exact q.2.1
    show wpAny (model X.prog X.w) X.A (noteFrame (.ref a) X.env) _ _ _
    refine Sky.land Zc.steady hfr hf sky' fun h3 fl3 up3 => ?_
    have J3 : Inv X pins σ' H' { s' with heap := h3 } := J.landed nb fl3.1 (up.trans up3) os ag
    obtain ⟨oe3, vs3, he3, hz3, hd3⟩ := fl3.there
    have nfr : a ∉ frs (X.env :: X.outer) := fun hm => by
      obtain ⟨_, o', e', hnf⟩ := fl3.2.2.1.mem hm
      rw [he3] at e'
      cases e'
      exact hnf _ hd3
    have nL : a ≠ X.env.locals := fun z => nfr (List.mem_filterMap.mpr ⟨X.env, List.mem_cons_self, by rw [hf, z]⟩)
    have nF : a ∉ X.fs := fun hm => by
      obtain ⟨e, he, q⟩ := List.mem_filterMap.mp hm
      exact nfr (List.mem_filterMap.mpr ⟨e, List.mem_cons_of_mem _ he, q⟩)
    have nS : a ∉ frs X.stack := by
      rw [hs]
      exact nfr
    -- the error was not there at the entry
    have n0 : X.s_0.heap.get? a = none := by
      cases e : X.s_0.heap.get? a with
      | none => rfl
      | some o =>
        obtain ⟨o', q⟩ := J.base.there a o e (by rw [hex]; exact fun z => nomatch z)
        have z := nb a o' q nS
        rw [hBa] at z
        cases z
    have npn : ∀ p ∈ X.pn ++ pins, p.1 ≠ a := fun p hp z => by
      obtain ⟨e, _, _, _, _⟩ := J.pin p hp
      rw [z] at e
      have q := nb a _ e nS
      rw [hBa] at q
      cases q
    have S3 := J3.suite he3 hd3 na nL nF
    refine wpAny_handleBy_cons (codeAny_handlers_test ?_) (by intro q; cases q)
    have LT : PySem.W.Looks (model X.prog X.w) h3 (typeOf (.ref a)) cls := fun A Q E s k q => wpAny_typeOf_ref (k _ _ he3) (by rw [hz3.1]; exact q)
    have LM := PySem.W.exm_one (M := model X.prog X.w) (J3.kIn) LT hb1
    have test : ∀ {Q : Value → Shared → Prop} {E : Value → Shared → Prop}, Q cv { s' with heap := h3 } → wpAny (model X.prog X.w) (X.A.mark (some (.ref a))) (eval (.Name x np) X.env) Q E { s' with heap := h3 } := fun {Q E} q => by
      obtain ⟨hg, hdbg, hm | ⟨hm, hv, hnn⟩⟩ := hc
      · exact ld_glob (X := X.suite a ((a, oe3) :: (X.pn ++ pins))) S3 hg hm q hdbg
      · exact ld_blt (X := X.suite a ((a, oe3) :: (X.pn ++ pins))) S3 hg hm hv q hnn hdbg
    refine test (LM.here ?_)
    cases b with
    | true =>
      refine codeAny_handlers_suite_as ?_
      refine HandSPX.lands_againZ fl3 fun h4 fl4 up4 => ?_
      have J4 : Inv X pins σ' H' { s' with heap := h4 } := J.landed nb fl4.1 ((up.trans up3).trans up4) os ag
      obtain ⟨oe4, vs4, he4, hz4, hd4⟩ := fl4.there
      have S4 := J4.suite he4 hd4 na nL nF
      have hil : i < X.N.length := (List.getElem?_eq_some_iff.mp hi).1
      obtain ⟨C, hC, hnx⟩ := hyes rfl a na
      refine store_ok (X := X.suite a ((a, oe4) :: (X.pn ++ pins))) (v := .ref a) S4 hN hi hloc rfl (fun s5 S5 => ?_) (.inr hln)
      have hps : PSs (X.suite a ((a, oe4) :: (X.pn ++ pins))) [.Assign [.Name m pm] (.Name n pn') pa] (tAsg (tVar i) (gName j)) :=
        pss_one (ps_asg (X := X.suite a ((a, oe4) :: (X.pn ++ pins))) (pe_var (X := X.suite a ((a, oe4) :: (X.pn ++ pins))) hi (.inl hln) hd1 hd2) (pg_name (X := X.suite a ((a, oe4) :: (X.pn ++ pins))) hN hj (.inl hlm) (.inr hlm)) hsw hss has)
      have hsl : σ'.length = X.N.length := J.len
      have hrd : tAsg (tVar i) (gName j) { nx := fun σ6 H6 => σ6 = (σ'.set i (some (.ref a))).set j (some (.ref a)) ∧ H6 = H', rt := fun _ _ => False } (σ'.set i (some (.ref a))) H' :=
        ⟨.ref a, List.getElem?_set_self (by omega), rfl, rfl⟩
      refine wpAny_mono (hps.run [] s5 _ H' _ S5 hrd) (fun f s6 hsp => ?_) (fun _ _ z => False.elim z)
      cases f with
      | next =>
        obtain ⟨σ6, H6, S6, e6, e7⟩ := hsp
        subst e6 e7
        have J6 : Inv X ((a, oe4) :: pins) ((σ'.set i (some (.ref a))).set j (some (.ref a))) H6 s6 :=
          ⟨ok, S6.os, S6.bare, S6.base, S6.loc, S6.cell, S6.free, S6.freeC, fun p hp => S6.pin p (by
            rcases List.mem_append.mp hp with q | q
            · exact List.mem_append_left _ (List.mem_cons_of_mem _ (List.mem_append_left _ q))
            · rcases List.mem_cons.mp q with q | q
              · rw [q]
                exact List.mem_append_left _ List.mem_cons_self
              · exact List.mem_append_left _ (List.mem_cons_of_mem _ (List.mem_append_right _ q))), S6.hok, S6.len⟩
        have hz5 : Zc (.ref C) d oe4 := by rw [← hC]; exact hz4
        have done : ∀ {Q : Shared → Prop}, (∀ s7, Inv X pins (((σ'.set i (some (.ref a))).set j (some (.ref a))).set i none) (upd H6 a (xO C d a)) s7 → Q s7) →
            wpAny (model X.prog X.w) X.A (do bindName X.env n .none; unbindBehindTheSuite X.env n pos') (fun _ s7 => Q s7) X.xe s6 :=
          fun {Q} hq => gone_ok J6 hN hi hln fun s7 J7 => hq s7 (inv_track J7 hz5 hd4 n0 npn)
        refine done fun s7 J7 => ⟨_, _, J7, ?_⟩
        have e8 : ((σ'.set i (some (V.ref a))).set j (some (.ref a))).set i none = (σ'.set j (some (.ref a))).set i none := by
          by_cases hij : i = j
          · subst hij
            simp
          · rw [List.set_comm _ _ (hij), List.set_set]
        rw [e8]
        exact hnx
      | brk => exact hsp.elim fun _ h => h.elim fun _ h => h.2.elim
      | cont => exact hsp.elim fun _ h => h.elim fun _ h => h.2.elim
      | ret u => exact hsp.elim fun _ h => h.elim fun _ h => h.elim fun _ h => h.2.2.elim
    | false =>
      show wpAny _ X.A (handleBy (.ref a) X.env []) _ _ _
      refine wpAny_handleBy_nil ?_
      obtain ⟨k1, k2, k3, oe, vs, T, oT, ts', he, hz, hd, h1, hr⟩ := id fl3
      unfold PySem.passOn
      refine wpAny_bind (wpAny_field he hd h1 ?_)
      rw [if_neg (show ¬ ((Value.ref T == Value.none) = true) from by simp)]
      have fin : wpAny (model X.prog X.w) X.A (setFlight (.ref a) X.env.frame) (fun _ s4 => wpAny (model X.prog X.w) X.A (throw (.ref a) : Sem Flow) (SP X pins D) X.xe s4) X.xe { s' with heap := h3 } := by
        rw [hf]
        refine HandSPX.setFlight_upZ fl3 fun h4 hh4 up4 => wpAny_throw (tk _ _ ?_)
        exact ⟨a, B, sI, pins, σ', H', cls, d, rfl, J, nb, (up.trans up3).trans up4, .inr (.inr (by rw [hs]; exact hh4)), na, os, ag, hno rfl⟩
      first
        | exact wpAny_bind (wpAny_pure (wpAny_bind fin))
        | exact wpAny_bind fin
  · cases f with
    | next =>
      obtain ⟨σ', H', J', q⟩ := hsp
      exact wpAny_execs_nil ⟨σ', H', J'.ofTry ok, q⟩
    | brk =>
      obtain ⟨σ', H', J', q⟩ := hsp
      exact ⟨σ', H', J'.ofTry ok, q⟩
    | cont =>
      obtain ⟨σ', H', J', q⟩ := hsp
      exact ⟨σ', H', J'.ofTry ok, q⟩
    | ret u =>
      obtain ⟨v, σ', H', J', r, q⟩ := hsp
      exact ⟨v, σ', H', J'.ofTry ok, r, q⟩
end

/-! ### .. in the layer -/
def tU (G : Gm) (m : MS) (W : WX) : TS := fun D σ H => ∃ ρ S F μ, EnvR G F μ ρ σ ∧ Rel G F μ S H ∧ PostS G W F μ D (m ρ S)
theorem pss_U {G : Gm} {X : Cx} {W : WX} {st : List Stmt} {m : MS} (h : SSs G X W st m) : PSs X st (tU G m W) := by
  obtain ⟨t, p, i⟩ := h
  exact ⟨fun pins s σ H D I hh => by
    obtain ⟨ρ, S, F, μ, he, hr, hp⟩ := hh
    exact p.run pins s σ H D I (i ρ S σ H F μ D he hr hp)⟩
def sTryK (ex : Nat → Option Bool) (i j : Nat) (mb : MS) : MS := fun ρ S =>
  match mb ρ S with
  | .ex ρ' c ks vs S' => (match ex c with
    | some true => .nx ((ρ'.set j (some (.exn c ks vs))).set i none) S'
    | some false => .ex ρ' c ks vs S'
    | none => .bad)
  | r => r
theorem EnvR.setN {G : Gm} {F : Hp} {μ : List Addr} {ρ : Env'} {σ : L2.St} (h : EnvR G F μ ρ σ) (i : Nat) : EnvR G F μ (ρ.set i none) (σ.set i none) := by
  refine ⟨by simp [h.len], fun j e hj => ?_⟩
  by_cases hij : i = j
  · subst hij
    by_cases hl : i < ρ.length
    · rw [List.getElem?_set_self hl] at hj
      cases hj
    · rw [List.getElem?_eq_none (by simp; omega)] at hj
      cases hj
  · rw [List.getElem?_set_ne hij] at hj
    rw [List.getElem?_set_ne hij]
    exact h.get j e hj
theorem Ok.tr {G : Gm} {X : Cx} {k : Nat} {W W' : WX} {pn : List (Addr × Obj)} {xe : Value → Shared → Prop} (ok : Ok G X k W) (h1 : Takes (X.tr pn xe) W') (h2 : PassesOwn (model X.prog X.w) X.A X.env xe) : Ok G (X.tr pn xe) k W' :=
  ⟨ok.K, ok.mg, ok.calm, ok.nd, ok.room, ok.gd, h1, h2⟩
section
variable {G : Gm} {X : Cx} {W : WX} {k : Nat} {x n m : Str} {cv : Value} {i j : Nat} {body : List Stmt} {np pm pn' pa pos pos' : Pos} {mb : MS} {exn : Nat → Option Bool}
theorem ss_try_keep (ok : Ok G X k W) (hc : Names X x cv) (hx : ∀ c b, exn c = some b → PySem.W.exmOne G.K (.ref (G.cls c)) cv = some b)
    (hbody : ∀ (pn : List (Addr × Obj)) (xe : Value → Shared → Prop) (W' : WX), Ok G (X.tr pn xe) k W' → SSs G (X.tr pn xe) W' body mb)
    (hi : X.N[i]? = some n := by rfl) (hj : X.N[j]? = some m := by rfl) (hs : X.stack = X.env :: X.outer := by rfl) (hf : X.env.frame = some X.env.locals := by rfl) (hex : X.ex = [] := by rfl) (hln : X.env.kindOf n = some .local := by rfl) (hlm : X.env.kindOf m = some .local := by rfl)
    (hd1 : (n == ("__debug__" : Str)) = false := by decide) (hd2 : (n == ("__classdict__" : Str)) = false := by decide)
    (hsw : swapsWithSole [.Name m pm] (.Name n pn') pa.line X.env = pure false := by rfl) (hss : swappedStores [.Name m pm] (.Name n pn') X.env = pure none := by rfl) (has : (assignEach [.Name m pm] X.env).map (·.2) = [assign (.Name m pm) X.env] := by rfl) :
    SS G X W (.Try body [.ExceptHandler (some (.Name x np)) (some n) [.Assign [.Name m pm] (.Name n pn') pa] pos'] [] [] pos) (sTryK exn i j mb) := by
  refine ⟨_, ps_try_keep (tb := tU G mb) hs hf hex ok.nd hi hj hln hlm hc ok.tk (fun W' pn xe h1 h2 => pss_U (hbody pn xe W' (ok.tr h1 h2))) hd1 hd2 hsw hss has, fun ρ S σ H F μ Ds he hr hp => ?_⟩
  refine ⟨ρ, S, F, μ, he, hr, ?_⟩
  unfold sTryK at hp
  cases hm : mb ρ S with
  | ex ρ' c ks vs S' =>
    rw [hm] at hp
    simp only at hp
    intro F' μ' σ' dx xs H' x1 r1 e1 a1 l1 p1
    cases hq : exn c with
    | none => rw [hq] at hp; exact hp.elim
    | some b =>
      rw [hq] at hp
      refine ⟨b, by rw [ok.K]; exact hx c b hq, fun hb a ha => ?_, fun hb => ?_⟩
      · subst hb
        obtain ⟨xx, r2⟩ := r1.newF (xO (G.cls c) dx a) ha
        exact ⟨G.cls c, rfl, hp _ μ' _ _ (x1.trans xx) r2 (((e1.mono xx).set j (.exn upd_same (a1.same xx.fz) l1 (p1.mono xx))).setN i)⟩
      · subst hb
        exact hp F' μ' σ' dx xs H' x1 r1 e1 a1 l1 p1
  | nx ρ' S' => rw [hm] at hp; exact hp
  | rt d S' => rw [hm] at hp; exact hp
  | bk ρ' S' => rw [hm] at hp; exact hp
  | ct ρ' S' => rw [hm] at hp; exact hp
  | bad => rw [hm] at hp; exact hp
end

/-! ### its fields -/
def tXa (K : PySem.W.Frag) (n : Str) (te : TE) : TE := fun σ H Q => te σ H fun x H1 => ∃ (a C dx : Addr) (fs : List (Str × V)) (v : V), x = .ref a ∧ H1 a = some (xO C (some dx) a) ∧ XfC K C ∧ PySem.W.findIn K (.ref C) n = some none ∧ H1 dx = some (.xd fs) ∧ fs.lookup n = some v ∧ Q v H1
theorem pe_xa {X : Cx} {e : Expr} {te : TE} {pos : Pos} {n : Str} (he : PE X e te) (hb : attributeBase e n X.env (eval e X.env) = eval e X.env := by rfl) : PE X (.Attribute e n pos) (tXa X.K n te) := by
  refine ⟨fun pins s σ H Q I h => ?_⟩
  refine attr_of hb (thn (he.run pins s σ H _ I h) fun u s1 hh => ?_)
  obtain ⟨x, H1, I1, rx, a, C, dx, fs, v, ex, ea, T, hno, ed, l, q⟩ := hh
  subst ex
  obtain rfl : u = Value.ref a := rx
  have hy : ObjOk X.prog X.w H1 s1.heap a (.ext fun h => ∃ (oe : Obj) (vs : Array Value), h.get? a = some oe ∧ Zc (.ref C) (some dx) oe ∧ oe.data = .fields vs) := I1.hok a _ ea
  obtain ⟨oe, vs, ho, hz, hd⟩ := hy.1
  have hx : ObjOk X.prog X.w H1 s1.heap dx (.xd fs) := I1.hok dx _ ed
  obtain ⟨mA, hns, hr⟩ := hx
  obtain ⟨od, hod, hl⟩ := lookIn_ns hns
  obtain ⟨u, hu, ru⟩ := RelO.some_of (v := v) (o := mA n) (by rw [← l]; exact hr n)
  have J : PySem.W.InstAt s1.heap a oe C (some od) := by
    refine ⟨ho, hz.1, ?_, ?_⟩
    · unfold PySem.W.notCls
      rw [hd] <;> rfl
    · rw [hz.2]
      exact hod
  exact HandSPX.exc_get I1.kIn J T.ga T.gg T.exC (PySem.W.findObj_own T.hdC hno rfl (by rw [hl, hu])) (handed_of ru) ⟨v, H1, I1.tok _, ru, q⟩
def attrX (cs : List Nat) (n : Str) : D → Store → Res D
  | .exn c ks vs, S => if c ∈ cs then resO ((ks.zip vs).lookup n) S else .bad
  | _, _ => .bad
theorem zip_lookup {G : Gm} {F : Hp} {μ : List Addr} {n : Str} : ∀ {ks : List Str} {vs : List D} {xs : List V} {d : D}, Reps G F μ vs xs → (ks.zip vs).lookup n = some d → ∃ v, (ks.zip xs).lookup n = some v ∧ Rep G F μ d v
  | [], _, _, _, _, h => by simp at h
  | _ :: _, _, _, _, .nil, h => by simp at h
  | k :: ks, _, _, d, .cons (d := d') (v := v') r rs, h => by
    simp only [List.zip_cons_cons, List.lookup_cons] at h ⊢
    cases e : (n == k) with
    | true =>
      rw [e] at h
      cases h
      exact ⟨v', rfl, r⟩
    | false =>
      rw [e] at h
      exact zip_lookup rs h
structure XaT (G : Gm) (cs : List Nat) (n : Str) : Prop where
  ok : ∀ c ∈ cs, XfC G.K (G.cls c) ∧ PySem.W.findIn G.K (.ref (G.cls c)) n = some none
theorem cx_xattr {G : Gm} {X : Cx} {W : WX} {k : Nat} {e : Expr} {pos : Pos} {n : Str} {m : ME} {cs : List Nat} (ok : Ok G X k W) (T : XaT G cs n) (h : SE G X W e m) (hb : attributeBase e n X.env (eval e X.env) = eval e X.env := by rfl) :
    SE G X W (.Attribute e n pos) (mUn (attrX cs n) m) := by
  obtain ⟨t, p, i⟩ := h
  refine ⟨_, pe_xa p hb, fun ρ S σ H F μ Q he hr hp => ?_⟩
  refine i ρ S σ H F μ _ he hr (Post.bind hp fun d S1 F1 μ1 v H1 x1 r1 p1 q1 => ?_)
  cases p1 with
  | @exn a od c ks vs xs h1 h2 h3 h4 =>
    simp only [attrX] at q1
    obtain ⟨hc, q1⟩ := post_if q1
    obtain ⟨d', e', q2⟩ := post_resO1 q1
    obtain ⟨v', hv, rv⟩ := zip_lookup h4 e'
    cases od with
    | none =>
      have : ks = [] := h2
      subst this
      simp at e'
    | some dx =>
      have h2' : F1 dx = some (.xd (ks.zip xs)) := h2
      rw [ok.K]
      exact ⟨a, G.cls c, dx, _, v', rfl, r1.sub _ _ h1, (T.ok c hc).1, (T.ok c hc).2, r1.sub _ _ h2', hv, q2 F1 μ1 v' H1 (Ext.refl _ _) r1 rv⟩
  | _ => exact q1.elim
end Z

set_option Elab.async false
set_option linter.all false
set_option maxRecDepth 100000
set_option maxHeartbeats 4000000
set_option autoImplicit false
namespace Z
open PySem PySem.Spec PyProof.Rows L2

/-! ## enumerate -/
def enumL (l : List D) : List D := l.zipIdx.map fun p => .tup [.int (p.2 : Int), p.1]
theorem enumL_len (l : List D) : (enumL l).length = l.length := by simp [enumL]
theorem enumL_get {l : List D} {i : Nat} {d : D} (h : (enumL l)[i]? = some d) : ∃ x, l[i]? = some x ∧ d = .tup [.int (i : Int), x] := by
  unfold enumL at h
  rw [List.getElem?_map, List.getElem?_zipIdx] at h
  cases e : l[i]? with
  | none => rw [e] at h; cases h
  | some x =>
    rw [e] at h
    cases h
    exact ⟨x, rfl, by simp⟩
section
variable {G : Gm} {X : Cx} {W : WX} {k : Nat}
theorem yields_enum {K : PySem.W.Frag} {F : Hp} {μ : List Addr} {a : Addr} {l : List D} {xs : List V} (hs : SqL K F a xs) (hr : Reps G F μ l xs) : Yields G F μ (enumL l) (Ite K a) where
  go := fun i F1 μ1 S H x r hi => by
    rw [enumL_len] at hi
    obtain ⟨v, hv⟩ : ∃ v, xs[i]? = some v := ⟨_, List.getElem?_eq_getElem (by rw [← hr.length]; exact hi)⟩
    exact ⟨xs, v, same_sqL (x.fz.trans r.sub) hs, hv⟩
  stop := fun i F1 μ1 S H x r hi => by
    rw [enumL_len] at hi
    exact ⟨xs, same_sqL (x.fz.trans r.sub) hs, by rw [← hr.length]; exact hi⟩
  yld := fun i F1 μ1 S H v H' d x r hd hy => by
    obtain ⟨T, y, rfl, hn, rfl, h⟩ := hy
    have hv := h xs (same_sqL (x.fz.trans r.sub) hs)
    obtain ⟨e, he, rfl⟩ := enumL_get hd
    obtain ⟨w, h1, h2⟩ := hr.get he
    rw [hv] at h1
    cases h1
    obtain ⟨xx, rr⟩ := r.newF (.tup [.int (i : Int), y]) hn
    exact ⟨_, μ1, xx, rr, .tup (.inl upd_same) (.cons (.int _) (.cons ((h2.mono x).mono xx) .nil))⟩
def mEnum (l : ML) : ML := fun ρ S => (l ρ S).bind fun ds S1 =>
  match ds with
  | [.lst l] => .ok (enumL l) S1
  | [.kst l] => .ok (enumL l) S1
  | _ => .bad
theorem si_enum {elts : List Expr} {kk : Nat} {tpos p pos : Pos} {a : Expr} {m : ML} (ok : Ok G X k W) (hm : G.mg "enumerate" = none) (ha : SA G X W [a] m) (hg : Gl X "enumerate" := by rfl) (hs : starEach [a] X.env = [(false, eval a X.env)] := by rfl) :
    SI G X W (.Tuple elts kk tpos) (.Call (.Name "enumerate" p) [a] [] pos) (mEnum m) := by
  obtain ⟨t, pa, i⟩ := ha
  refine ⟨_, pi_enum hg (by rw [ok.mg]; exact hm) pa hs, fun ρ S σ H F μ R he hr hp => ?_⟩
  refine i ρ S σ H F μ _ he hr (Post.bind hp fun ds S1 F1 μ1 vs H1 x1 r1 p1 q1 => ?_)
  split at q1
  · cases p1 with
    | cons a1 b1 =>
      cases b1
      cases a1 with
      | lst h1 h2 => exact ⟨_, _, rfl, by rw [ok.K]; exact SqL.of (r1.sub _ _ h1), q1 F1 μ1 _ H1 (Ext.refl _ _) r1 (yields_enum (by rw [ok.K]; exact SqL.of h1) h2)⟩
  · cases p1 with
    | cons a1 b1 =>
      cases b1
      cases a1 with
      | kst h1 h2 => exact ⟨_, _, rfl, by rw [ok.K]; exact same_sqL r1.sub h1, q1 F1 μ1 _ H1 (Ext.refl _ _) r1 (yields_enum (by rw [ok.K]; exact h1) h2)⟩
  · exact q1.elim
end

/-! ## what is checked of the classes, all at once -/
section
open PySem.W
def excTB (K : Frag) (C : Addr) : Bool :=
  (clsIn K C).isSome && (decide (findIn K (.ref C) "__getattribute__" = some (some (.builtin "BaseException.__getattribute__"))) && (decide (findIn K (.ref C) "__getattr__" = some none) && (decide (subIn K (.ref C) (.type "BaseException") = some true) &&
  (decide (findIn K (.ref C) "__class__" = some (some (.builtin "object.__class__"))) && (decide (specialIn K (.builtin "object.__class__") "__get__" = some (some (.builtin "getset_descriptor.__get__"))) && (decide (takesIn K (.builtin "object.__class__") = some true) &&
  (decide (mroIn K C (.type "object") = some true) && hasDictIn K C)))))))
theorem excTB_ok {K : Frag} {C : Addr} (h : excTB K C = true) : ExcT K C := by
  unfold excTB at h
  simp only [Bool.and_eq_true, decide_eq_true_eq] at h
  obtain ⟨h1, h2, h3, h4, h5, h6, h7, h8, h9⟩ := h
  exact ⟨h1, h2, h3, h4, h5, h6, h7, h8, h9⟩
def tabB (K : Frag) (C : Nat → Addr) (n : Nat) (tys : List String) (sub : Nat → Nat → Bool) (sty : Nat → String → Bool) : Bool :=
  (List.range n).all fun c => excTB K (C c) && ((List.range n).all (fun d => decide (kitOne K (.ref (C c)) (.ref (C d)) = some (sub c d))) && tys.all fun t => decide (kitOne K (.ref (C c)) (.type t) = some (sty c t)))
def tabX (n : Nat) (tys : List String) (sub : Nat → Nat → Bool) (sty : Nat → String → Bool) : Tab := fun a b =>
  match a, b with
  | .exc c, .cls d => if c < n ∧ d < n then some (sub c d) else none
  | .exc c, .ty t => if c < n ∧ t ∈ tys then some (sty c t) else none
  | .exc _, .exc _ => none
  | a, b => tab0 a b
theorem kitN : ∀ m ∈ ["NoneType", "bool", "int", "str", "tuple", "list", "dict"], True := fun _ _ => trivial
theorem tab0_cls {a : Tg} {d : Nat} : tab0 a (.cls d) = none := by cases a <;> rfl
theorem tabX_ok {G : Gm} {n : Nat} {tys : List String} {sub : Nat → Nat → Bool} {sty : Nat → String → Bool} (h : tabB G.K G.cls n tys sub sty = true) : TabOk G (tabX n tys sub sty) := by
  unfold tabB at h
  rw [List.all_eq_true] at h
  have hx : ∀ c, c < n → ExcT G.K (G.cls c) ∧ (∀ d, d < n → kitOne G.K (.ref (G.cls c)) (.ref (G.cls d)) = some (sub c d)) ∧ ∀ t ∈ tys, kitOne G.K (.ref (G.cls c)) (.type t) = some (sty c t) := fun c hc => by
    have q := h c (List.mem_range.mpr hc)
    simp only [Bool.and_eq_true, List.all_eq_true, decide_eq_true_eq] at q
    exact ⟨excTB_ok q.1, fun d hd => q.2.1 d (List.mem_range.mpr hd), q.2.2⟩
  refine ⟨fun c b r hr => ?_, fun a b r hr => ?_, fun c b r hr => ?_⟩
  · unfold tabX at hr
    cases b with
    | cls d =>
      simp only at hr
      split at hr
      · rename_i hc
        exact (hx c hc.1).1
      · cases hr
    | ty t =>
      simp only at hr
      split at hr
      · rename_i hc
        exact (hx c hc.1).1
      · cases hr
    | exc d => cases hr
  · unfold tabX at hr
    cases a with
    | exc c =>
      cases b with
      | cls d =>
        simp only at hr
        split at hr
        · rename_i hc
          cases hr
          exact (hx c hc.1).2.1 d hc.2
        · cases hr
      | ty t =>
        simp only at hr
        split at hr
        · rename_i hc
          cases hr
          exact (hx c hc.1).2.2 t hc.2
        · cases hr
      | exc d => cases hr
    | ty t => exact tab0_ok.kit _ _ _ hr
    | cls c => exact tab0_ok.kit _ _ _ hr
  · exact tab0_ok.cls c b r hr
/-- what the text says of a class's __init__ -/
structure XsC (qual : Str) (st : Stmt) (fs : List Str) : Prop where
  ins : InS fs (defScope st)
  har : ((defArgs st).posonlyargs ++ (defArgs st).args).head?.map (·.arg) = some ("self" : Str)
  sup : ∃ (t : Str) (n : Nat) (p0 p1 p2 p3 p4 p5 : Pos) (rest : List Stmt), SupEq qual (defScope st) t n p0 p1 p2 p3 p4 ∧ defBody st = supS t n p0 p1 p2 p3 p4 p5 :: rest ∧ FldB fs rest
  ndb : ∀ f ∈ fs, (f == ("__debug__" : Str)) = false ∧ (f == ("__classdict__" : Str)) = false
theorem free_of {l : List (Str × NameKind)} (h : ∀ y ∈ l, y.2 = .free → y.1 = ("__class__" : Str)) : ∀ x, l.lookup x = some .free → x = "__class__" := fun x hx => h (x, .free) (PySem.mem_of_lookup hx) rfl
def clsB (s : Stmt) : List Stmt := match s with
  | .ClassDef _ _ _ b _ _ _ _ _ _ _ => b
  | _ => []
/-- .. and the written part -/
def xcB (K : Frag) (C fI : Addr) (fs : List Str) : Bool :=
  decide (findIn K (.ref C) "__setattr__" = some (some (.builtin "object.__setattr__"))) && (decide (subIn K (.ref C) (.type "BaseException") = some true) && (decide (typeIn K (.ref C) = some (.type "type")) && (keepIn K (.ref C) &&
  (decide (findIn K (.ref C) "__init__" = some (some (.ref fI))) && (decide (typeIn K (.ref fI) = some (.type "function")) && (decide (ks_superIn K C C "__init__" = some (some (.builtin "ValueError.__init__"))) && (decide (mroIn K C (.ref C) = some true) &&
  (decide (subIn K (.ref C) (.type "ValueError") = some true) && fs.all fun f => decide (findIn K (.ref C) f = some none)))))))))
theorem xcf_mk {G : Gm} {P : Program} {c : Nat} {x qual : Str} {st : Stmt} {fs : List Str} {fI C cda cc : Addr} {nm q : Str} {N : Addr} {bs bm : List Value} {sn : List Str} {sub : List Value} {ab : Bool} {col : Option Bool} {dd od an cdd cld : Option Addr} {k0 k1 k2 k3 k5 : Option Value}
    {oc dV kV doc pm ct ccl cl : Value} {osl ccs csl : Array (Option Value)} {vs : Array Value} {file : Str} {tf : Tok} (xs : XsC qual st fs) (hC : G.cls c = C) (hm : G.mg x = some (.ref C))
    (lC : G.K.lookup C = some (excClassObj nm q C N bs bm true sn sub ab col dd k0 k1 k2 k3 k5 "ValueError.__new__")) (rv : PySem.HandSPX.refsVE bm = true) (xb : xcB G.K C fI fs = true)
    (lI : G.K.lookup fI = some ⟨oc, od, .func (ksFn "__init__" qual (defArgs st) (defBody st) (defScope st) dV kV doc pm an (.ref cda) ct cc), osl⟩) (cI : codeIn G.K (.ref cda) qual = true)
    (lcd : G.K.lookup cda = some ⟨ccl, cdd, .fields vs, ccs⟩) (v2 : vs[2]? = some (.str file tf)) (pf : ((P.main.file : Str) == file) = true) (lcc : G.K.lookup cc = some ⟨cl, cld, .cell (some (.ref C)), csl⟩)
    (su : nsIn G.K mainGlobals "super" = some none) (tp : (P.main.scope.names.lookup ("super" : Str)).isSome = false) (oq : nsIn G.K cStatics "thirdparty.any" = some none) :
    XcF G P c x qual st fs fI (ksFn "__init__" qual (defArgs st) (defBody st) (defScope st) dV kV doc pm an (.ref cda) ct cc) := by
  subst hC
  unfold xcB at xb
  simp only [Bool.and_eq_true, decide_eq_true_eq, List.all_eq_true] at xb
  obtain ⟨b1, b2, b3, b4, b5, b6, b7, b8, b9, b10⟩ := xb
  exact ⟨hm, ⟨⟨⟨nm, q, N, bs, bm, sn, sub, ab, col, dd, k0, k1, k2, k3, k5, lC, rv⟩, b1, b2, b3, b4⟩, b5, b6, ⟨oc, od, doc, pm, kV, dV, an, cda, cc, ct, osl, rfl, lI, cI, ⟨ccl, cdd, vs, ccs, file, tf, lcd, v2, pf⟩, ⟨cl, cld, csl, lcc⟩⟩, su, tp, b7, oq, b8, b9, b10⟩, xs.ins, xs.har, xs.sup, xs.ndb⟩
theorem bdX_mk {K : Frag} {fd : FuncData} {fs : List Str} {n : Nat} {ks : List Str} {src : List Src}
    (h : ∀ (self : Value) (us ws r : List Value), us.length = n → ws.length = ks.length → fill us ws [] src = some r → bindArgs fd ⟨self :: us, ks.zip ws⟩ = pure ((sf fs).zip (self :: r))) : BdX K fd fs n ks src := fun s self us ws r _ h1 h2 h3 => .of_eq (h self us ws r h1 h2 h3)
def xaB (K : Frag) (C : Nat → Addr) (cs : List Nat) (n : Str) : Bool := cs.all fun c => xfB K (C c) && decide (findIn K (.ref (C c)) n = some none)
theorem xaB_ok {G : Gm} {cs : List Nat} {n : Str} (h : xaB G.K G.cls cs n = true) : XaT G cs n := ⟨fun c hc => by
  have q := (List.all_eq_true.mp h) c hc
  rw [Bool.and_eq_true] at q
  exact ⟨xfB_ok q.1, of_decide_eq_true q.2⟩⟩
def exqX (n : Nat) (sub : Nat → Nat → Bool) (d : Nat) : Nat → Option Bool := fun c => if c < n then some (sub c d) else none
def exB (K : Frag) (C : Nat → Addr) (n : Nat) (sub : Nat → Nat → Bool) (d : Nat) : Bool := (List.range n).all fun c => decide (exmOne K (.ref (C c)) (.ref (C d)) = some (sub c d))
theorem exB_ok {G : Gm} {n d : Nat} {sub : Nat → Nat → Bool} (h : exB G.K G.cls n sub d = true) : ∀ c b, exqX n sub d c = some b → exmOne G.K (.ref (G.cls c)) (.ref (G.cls d)) = some b := fun c b hq => by
  unfold exqX at hq
  split at hq
  · rename_i hc
    cases hq
    exact of_decide_eq_true ((List.all_eq_true.mp h) c (List.mem_range.mpr hc))
  · cases hq
end
theorem cx_cls {G : Gm} {X : Cx} {W : WX} {k c : Nat} {x : Str} {pos : Pos} (ok : Ok G X k W) (hm : G.mg x = some (.ref (G.cls c))) (hg : Gl X x := by rfl) (hdb : (x == ("__debug__" : Str)) = false := by decide) : SE G X W (.Name x pos) (mC (.cls c)) :=
  se_c (pe_glob hg (by rw [ok.mg]; exact hm) (show RelV (.ref (G.cls c)) (.ref (G.cls c)) from rfl) hdb) fun _ _ => .cls c
theorem nms {G : Gm} {X : Cx} {W : WX} {k c : Nat} {x : Str} (ok : Ok G X k W) (hm : G.mg x = some (.ref (G.cls c))) (hg : Gl X x := by rfl) (hdb : (x == ("__debug__" : Str)) = false := by decide) : Names X x (.ref (G.cls c)) := ⟨hg, hdb, .inl (by rw [ok.mg]; exact hm)⟩
end Z

set_option Elab.async false
set_option linter.all false
set_option maxRecDepth 100000
set_option maxHeartbeats 4000000
set_option autoImplicit false
namespace Z
open PySem PySem.Spec PyProof.Rows L2

/-! ## repr of a list in which flat dicts stand -/
/-- scalars -/
inductive Sc : V → PyData → Prop
  | non : Sc .non .none
  | bl (b : Bool) : Sc (.bl b) (.bool b)
  | int (i : Int) : Sc (.int i) (.int i)
  | str (x : Str) : Sc (.str x) (.str x)
def keyP : Key → PyData
  | .inl i => .int i
  | .inr x => .str x
/-- an item: data without dicts, or a flat dict -/
inductive Di (K : PySem.W.Frag) (H : Hp) : V → PyData → Prop
  | data {v : V} {p : PyData} : Dp K H v p → p.hasDict = false → Di K H v p
  | dct {a : Addr} {kvs : List (Key × V)} {ps : List (PyData × PyData)} : H a = some (.dK kvs) → PySem.Paired (fun (q : Key × V) (r : PyData × PyData) => r.1 = keyP q.1 ∧ Sc q.2 r.2) kvs ps → Di K H (.ref a) (.dict ps)
section
variable {X : Cx} {pins : List (Addr × Obj)} {σ : L2.St} {H : Hp} {s : Shared}
theorem sc_reads {h : Heap} {v : V} {p : PyData} {u : Value} (hh : Sc v p) (r : RelV v u) : Reads h u p [] := by
  revert hh
  intro h
  cases h with
  | non => cases r; exact .none
  | bl b => cases r; exact .bool b
  | int i => obtain ⟨t, rfl⟩ := r; exact .int i t
  | str x => obtain ⟨t, rfl⟩ := r; exact .str x t
theorem dct_all {P : Program} {w : World} {h : Heap} : ∀ {es : List DictEntry} {us : List (Key × Value)} {kvs : List (Key × V)} {ps : List (PyData × PyData)}, Pairs (mixKind P w) es us → KV kvs us →
    PySem.Paired (fun (q : Key × V) (r : PyData × PyData) => r.1 = keyP q.1 ∧ Sc q.2 r.2) kvs ps → ReadsAll h (es.map (·.key)) (ps.map (·.1)) [] ∧ ReadsAll h (es.map (·.val)) (ps.map (·.2)) []
  | _, _, _, _, .nil, a, b => by
    cases a
    cases b
    exact ⟨.nil, .nil⟩
  | _, _, _, _, .cons (e := e) h1 h2 h3, a, b => by
    cases a with
    | cons a1 a2 =>
      cases b with
      | cons b1 b2 =>
        rename_i kv _ _ q _ r _
        obtain ⟨i1, i2⟩ := dct_all (h := h) h3 a2 b2
        obtain ⟨k, v⟩ := q
        obtain ⟨k', u⟩ := kv
        obtain ⟨e1, e2⟩ := a1
        obtain ⟨f1, f2⟩ := b1
        simp only at e1 e2 f1 f2 h1 h2
        subst e1
        have hk : Reads h e.key r.1 [] := by
          rw [f1]
          rcases keyIs_shape (show keyIs k e.key = true from h1) with ⟨i, t, rfl, z⟩ | ⟨x, t, rfl, z⟩
          · rw [z]; exact .int i t
          · rw [z]; exact .str x t
        have hv : Reads h e.val r.2 [] := by
          rw [h2]
          exact sc_reads f2 e2
        exact ⟨.cons hk i1, .cons hv i2⟩
theorem di_reads (I : Inv X pins σ H s) {v : V} {p : PyData} {u : Value} (h : Di X.K H v p) (r : RelV v u) : ∃ as, Reads s.heap u p as ∧ (p.hasDict = true → sysModules ∉ as) := by
  cases h with
  | data h1 h2 =>
    obtain ⟨as, q⟩ := Dp.reads I _ _ _ h1 r
    exact ⟨as, q, fun z => by rw [h2] at z; cases z⟩
  | @dct a kvs ps h1 h2 =>
    obtain rfl : u = Value.ref a := r
    have hx : ObjOk X.prog X.w H s.heap a (.dK kvs) := I.hok a _ h1
    obtain ⟨_, hsys, vs, hkv, o, es, ep, ho, hex, hd, _, hp, _⟩ := hx
    obtain ⟨q1, q2⟩ := dct_all (h := s.heap) hp hkv h2
    refine ⟨_, Reads.dict ho hex.1 hd q1 q2, fun _ hm => ?_⟩
    have hm' : sysModules = a := by simpa using hm
    rw [← hm'] at hsys
    simp at hsys
theorem di_all (I : Inv X pins σ H s) : ∀ {vs : List V} {ps : List PyData} {us : List Value}, PySem.Paired (Di X.K H) vs ps → Vals vs us → PyData.showableAll ps = true → (∀ t ∈ PyData.shownAll ps, t.length ≤ sizeLine) →
    ∃ as bs, ReadsAll s.heap us ps as ∧ ReadAtMost s.heap (PyData.depthAll ps) bs ∧ ReprAllK X.prog X.w bs s.heap (PyData.depthAll ps) us (PyData.shownAll ps)
  | _, _, _, .nil, r, _, _ => by
    cases r
    exact ⟨[], [], .nil, (fun _ h => nomatch h), by simp only [PyData.shownAll]; exact .nil⟩
  | _, _, _, @PySem.Paired.cons _ _ _ _ d _ ds h1 h2, r, hs, hz => by
    cases r with
    | cons r1 r2 =>
      have hs' : d.showable = true ∧ PyData.showableAll ds = true := by simpa [PyData.showableAll] using hs
      obtain ⟨as1, q1, n1⟩ := di_reads I h1 r1
      obtain ⟨b1, hb1, k1⟩ := ReprK.of_reads (prog := X.prog) (w := X.w) q1 hs'.1 n1 (hz _ (by simp only [PyData.shownAll]; exact List.mem_cons_self ..))
      obtain ⟨as2, b2, q2, hb2, k2⟩ := di_all I h2 r2 hs'.2 (fun t ht => hz t (by simp only [PyData.shownAll]; exact List.mem_cons_of_mem _ ht))
      refine ⟨_, b1 ++ b2, .cons q1 q2, fun b hm => ?_, ?_⟩
      · simp only [PyData.depthAll]
        rcases List.mem_append.mp hm with hm | hm
        · obtain ⟨d', as', r', hd'⟩ := hb1 b hm
          exact ⟨d', as', r', Nat.le_trans hd' (Nat.le_max_left _ _)⟩
        · obtain ⟨d', as', r', hd'⟩ := hb2 b hm
          exact ⟨d', as', r', Nat.le_trans hd' (Nat.le_max_right _ _)⟩
      · simp only [PyData.depthAll, PyData.shownAll]
        exact .cons ((k1.more fun b hb => List.mem_append_left _ hb).level_le (Nat.le_max_left _ _)) (k2.more_le (fun b hb => List.mem_append_right _ hb) (Nat.le_max_right _ _))
end
def rReprI (K : PySem.W.Frag) : List V → Hp → VK → Prop := fun xs H Q => ∃ (a : Addr) (vs : List V) (ps : List PyData), xs = [.ref a] ∧ SqL K H a vs ∧ PySem.Paired (Di K H) vs ps ∧ (PyData.list ps).showable = true ∧ (PyData.list ps).shown.length ≤ sizeLine ∧ (PyData.list ps).depth ≤ 64 ∧ Q (.str (PyData.list ps).shown) H
theorem cr_reprI {X : Cx} {k : Nat} (hgd : X.A.guards = some []) (hr : Room k X.A) : CallR X (.builtin "repr") (rReprI X.K) := by
  intro pins s σ H xs us Q I rv h
  obtain ⟨a, vs, ps, rfl, hl, hp, hs, hz, hdp, q⟩ := h
  obtain ⟨u, rfl, ru⟩ := vals1 rv
  obtain rfl : u = Value.ref a := ru
  have hun := hr.un
  have hz' : (listText (PyData.shownAll ps)).length ≤ sizeLine := by simpa only [PyData.shown] using hz
  obtain ⟨its, rv, ⟨o, n, ho, hc, _, hd⟩, _⟩ := I.list hl
  obtain ⟨as, bs, hra, hb, hk⟩ := di_all I hp rv (by simpa [PyData.showable] using hs) (fun t ht => Nat.le_trans (listText_mem_le ht) hz')
  have R : Reads s.heap (.ref a) (.list ps) (a :: as) := .list ho hc hd hra
  have hna : a ∉ bs := not_mem_of_deeper R (by simp only [PyData.depth]; omega) hb
  have S : ShowsBy X.prog X.w s.heap a (.list ps) "list" "list.__repr__" := by
    refine ⟨F.slot_list_repr.toG, F.slot_list_str, F.slot_list_format, fun s' hk0 => ⟨o, hk0 _ _ ho, hc⟩, fun A E s' Q hg hu hk0 hQ => ?_⟩
    simp only [PyData.depth] at hu
    simp only [PyData.shown] at hQ
    cases its with
    | nil =>
      cases hra
      simp only [PyData.shownAll, listText_nil] at hQ
      exact call_list_repr_empty ⟨o, hk0 _ _ ho, hc⟩ (hk0 _ _ ho) hd (hQ s'.heap _ _ fun _ _ e => e)
    | cons x l => exact call_list_reprK ho hc hd hna (by simpa using hk.length_eq) (fun i y e => hk.item i y (by simpa using e)) hg (fun b _ => Clear.nil b) hu hk0 hQ hz'
  have hun2 : X.A.units + ((PyData.list ps).depth + 1) < cLine := by omega
  exact call_repr_slot (by omega) (S.typeIs s (fun _ _ e => e)) S.slotRepr (S.call X.A.in1 _ s _ hgd (by show X.A.units + 1 + (PyData.list ps).depth < cLine; omega) (fun _ _ e => e) fun h' u tk hk => ⟨_, _, rfl, ⟨.str (PyData.list ps).shown, H, I.kept hk, ⟨u, rfl⟩, q⟩⟩)
/-! ### .. in the layer -/
def scP : D → Option PyData
  | .non => some .none
  | .bl b => some (.bool b)
  | .int i => some (.int i)
  | .str x => some (.str x)
  | _ => none
def scPs : List D → Option (List PyData)
  | [] => some []
  | d :: ds => match scP d, scPs ds with
    | some p, some ps => some (p :: ps)
    | _, _ => none
def itP (d : D) : Option PyData :=
  match d with
  | .dct ks vs => if ks.length = vs.length then (scPs vs).map fun qs => .dict ((ks.map keyP).zip qs) else none
  | d => match toP d with
    | some p => if p.hasDict = false then some p else none
    | none => none
def itPs : List D → Option (List PyData)
  | [] => some []
  | d :: ds => match itP d, itPs ds with
    | some p, some ps => some (p :: ps)
    | _, _ => none
def reprZ (x : D) (S : Store) : Res D :=
  match toPS S x with
  | some p => if SeqAt.shaped p = true ∧ p.showable = true ∧ p.shown.length ≤ sizeLine then .ok (.str p.shown) S else .bad
  | none =>
    match x with
    | .lst l => (match itPs l with
      | some ps => if (PyData.list ps).showable = true ∧ (PyData.list ps).shown.length ≤ sizeLine ∧ (PyData.list ps).depth ≤ 64 then .ok (.str (PyData.list ps).shown) S else .bad
      | none => .bad)
    | _ => .bad
section
variable {G : Gm} {X : Cx} {W : WX} {k : Nat}
theorem sc_ok {F : Hp} {μ : List Addr} : ∀ {ds : List D} {xs : List V} {qs : List PyData}, Reps G F μ ds xs → scPs ds = some qs → PySem.Paired Sc xs qs
  | [], _, _, r, h => by cases r; cases h; exact .nil
  | d :: ds, _, _, r, h => by
    cases r with
    | cons r1 r2 =>
      simp only [scPs] at h
      cases e1 : scP d with
      | none => rw [e1] at h; cases h
      | some p =>
        cases e2 : scPs ds with
        | none => rw [e1, e2] at h; cases h
        | some ps =>
          rw [e1, e2] at h
          cases h
          refine .cons ?_ (sc_ok r2 e2)
          cases r1 with
          | non => cases e1; exact .non
          | bl b => cases e1; exact .bl b
          | int i => cases e1; exact .int i
          | str x => cases e1; exact .str x
          | _ => cases e1
theorem zip_pairs : ∀ {ks : List Key} {xs : List V} {qs : List PyData}, ks.length = xs.length → PySem.Paired Sc xs qs → PySem.Paired (fun (q : Key × V) (r : PyData × PyData) => r.1 = keyP q.1 ∧ Sc q.2 r.2) (ks.zip xs) ((ks.map keyP).zip qs)
  | [], [], _, _, h => by cases h; exact .nil
  | k :: ks, x :: xs, _, hl, h => by
    cases h with
    | cons h1 h2 => exact .cons ⟨rfl, h1⟩ (zip_pairs (by simpa using hl) h2)
  | [], _ :: _, _, hl, _ => by cases hl
  | _ :: _, [], _, hl, _ => by cases hl
theorem it_ok {F : Hp} {μ : List Addr} {H : Hp} (hs : Same F H) {d : D} {v : V} {p : PyData} (r : Rep G F μ d v) (h : itP d = some p) : Di G.K H v p := by
  unfold itP at h
  split at h
  · rename_i ks vs
    split at h
    · rename_i hl
      cases r with
      | dct h1 h2 h3 =>
        cases e : scPs vs with
        | none => rw [e] at h; cases h
        | some qs =>
          rw [e] at h
          cases h
          exact .dct (hs _ _ h1) (zip_pairs (by rw [hl, h3.length]) (sc_ok h3 e))
    · cases h
  · split at h
    · rename_i p' e
      split at h
      · rename_i hd
        cases h
        exact .data (dp_of hs _ _ _ r e) hd
      · cases h
    · cases h
theorem its_ok {F : Hp} {μ : List Addr} {H : Hp} (hs : Same F H) : ∀ {ds : List D} {vs : List V} {ps : List PyData}, Reps G F μ ds vs → itPs ds = some ps → PySem.Paired (Di G.K H) vs ps
  | [], _, _, r, h => by cases r; cases h; exact .nil
  | d :: ds, _, _, r, h => by
    cases r with
    | cons r1 r2 =>
      simp only [itPs] at h
      cases e1 : itP d with
      | none => rw [e1] at h; cases h
      | some p =>
        cases e2 : itPs ds with
        | none => rw [e1, e2] at h; cases h
        | some ps =>
          rw [e1, e2] at h
          cases h
          exact .cons (it_ok hs r1 e1) (its_ok hs r2 e2)
theorem ci_reprZ (hK : X.K = G.K) : CallI G (f1 reprZ) (fun xs H Q => rRepr X.K xs H Q ∨ rReprI X.K xs H Q) := ci_1 fun W F μ σ S H d v Q hr rd hp => by
  unfold reprZ at hp
  split at hp
  · rename_i p hpp
    obtain ⟨⟨h1, h2, h3⟩, hp⟩ := post_if hp
    exact .inl ⟨v, p, rfl, by rw [hK]; exact dp_ok hr rd hpp, h1, h2, h3, post_ok hr (.str _) hp⟩
  · split at hp
    · rename_i l
      split at hp
      · rename_i ps hps
        obtain ⟨⟨h1, h2, h3⟩, hp⟩ := post_if hp
        cases rd with
        | lst hl hrs => exact .inr ⟨_, _, ps, rfl, SqL.of (hr.sub _ _ hl), by rw [hK]; exact its_ok hr.sub hrs hps, h1, h2, h3, post_ok hr (.str _) hp⟩
      · exact hp.elim
    · exact hp.elim
theorem cx_reprZ {p pos : Pos} {e : Expr} {es : List Expr} {m : ML} (ok : Ok G X k W) (hm : G.mg "repr" = none) (ha : SA G X W (e :: es) m) (hg : Gl X "repr" := by rfl) (he : starEach (e :: es) X.env = (false, eval e X.env) :: starEach es X.env := by rfl) (hpl : (backTo pos (starEach es X.env)).any (·.1) = false := by rfl) : SE G X W (.Call (.Name "repr" p) (e :: es) [] pos) (mCall (f1 reprZ) m) :=
  se_callB (ci_reprZ ok.K) ((cr_repr ok.gd ok.room).or (cr_reprI ok.gd ok.room)) ok.mg hm (by decide +kernel) ha hg (by decide) (by decide) he hpl
end
end Z

set_option Elab.async false
set_option linter.all false
set_option maxRecDepth 100000
set_option maxHeartbeats 2000000
set_option autoImplicit false
namespace Z
open PySem PySem.Spec L2

/-! ## reckoning with meanings: plain Lean, no program -/
section
variable (ρ : Env') (S : Store)
@[simp] theorem ev_var (i : Nat) : mVar i ρ S = resO (ρ[i]?.join) S := rfl
@[simp] theorem ev_c (d : D) : mC d ρ S = .ok d S := rfl
@[simp] theorem ev_bin (f : D → D → Store → Res D) (a b : ME) : mBin f a b ρ S = (a ρ S).bind fun x S1 => (b ρ S1).bind fun y S2 => f x y S2 := rfl
@[simp] theorem ev_un (f : D → Store → Res D) (a : ME) : mUn f a ρ S = (a ρ S).bind f := rfl
@[simp] theorem ev_tst (a : ME) : mTst a ρ S = (a ρ S).bind fun x S1 => resO (truthD S1 x) S1 := rfl
@[simp] theorem ev_blT (a : ME) : mBlT a ρ S = (a ρ S).bind fun x S1 => resO (asBl x) S1 := rfl
@[simp] theorem ev_andT (a b : MB) : mAndT a b ρ S = (a ρ S).bind fun c S1 => if c = true then b ρ S1 else .ok false S1 := rfl
@[simp] theorem ev_orT (a b : MB) : mOrT a b ρ S = (a ρ S).bind fun c S1 => if c = true then .ok true S1 else b ρ S1 := rfl
@[simp] theorem ev_notT (a : MB) : mNotT a ρ S = (a ρ S).bind fun c S1 => .ok (!c) S1 := rfl
@[simp] theorem ev_if (c : MB) (a b : ME) : mIf c a b ρ S = (c ρ S).bind fun k S1 => if k = true then a ρ S1 else b ρ S1 := rfl
@[simp] theorem ev_andV (a b : ME) : mAndV a b ρ S = (a ρ S).bind fun x S1 => (resO (truthD S1 x) S1).bind fun c S2 => if c = true then b ρ S2 else .ok x S2 := rfl
@[simp] theorem ev_orV (a b : ME) : mOrV a b ρ S = (a ρ S).bind fun x S1 => (resO (truthD S1 x) S1).bind fun c S2 => if c = true then .ok x S2 else b ρ S2 := rfl
@[simp] theorem ev_notV (a : ME) : mNotV a ρ S = (a ρ S).bind fun x S1 => (resO (truthD S1 x) S1).bind fun c S2 => .ok (.bl (!c)) S2 := rfl
@[simp] theorem ev_nilL : mNilL ρ S = .ok [] S := rfl
@[simp] theorem ev_consL (a : ME) (l : ML) : mConsL a l ρ S = (a ρ S).bind fun x S1 => (l ρ S1).bind fun xs S2 => .ok (x :: xs) S2 := rfl
@[simp] theorem ev_tup (l : ML) : mTup l ρ S = (l ρ S).bind fun xs S1 => if xs.length ≤ sizeLine then .ok (.tup xs) S1 else .bad := rfl
@[simp] theorem ev_lst (l : ML) : mLst l ρ S = (l ρ S).bind fun xs S1 => if xs.length ≤ sizeLine then .ok (.lst xs) S1 else .bad := rfl
@[simp] theorem ev_loc (l : ML) : mLoc l ρ S = (l ρ S).bind fun xs S1 => if xs.length ≤ sizeLine then .ok (.loc S1.length) (S1 ++ [.lst xs]) else .bad := rfl
@[simp] theorem ev_call (f : List D → Store → Res D) (l : ML) : mCall f l ρ S = (l ρ S).bind f := rfl
@[simp] theorem ev_iter (m : ME) : mIter m ρ S = (m ρ S).bind fun d S1 => resO (stillD d) S1 := rfl
@[simp] theorem ev_yes : mYes ρ S = .ok true S := rfl
@[simp] theorem ev_noP : mNoP ρ S = .ok none S := rfl
@[simp] theorem ev_part (a : ME) : mPart a ρ S = (a ρ S).bind fun d S1 => (resO (asInt d) S1).bind fun i S2 => .ok (some i) S2 := rfl
@[simp] theorem ev_slice (a : ME) (lo hi : MO) : mSlice a lo hi ρ S = (a ρ S).bind fun d S1 => (lo ρ S1).bind fun l S2 => (hi ρ S2).bind fun h S3 => sliceD d l h S3 := rfl
@[simp] theorem ev_frz (a : ME) : mFrz a ρ S = (a ρ S).bind frzD := rfl
@[simp] theorem ev_callK (mf : MF) (n m : Nat) (src : List Src) (df : List D) (a b : ML) : mCallK mf n m src df a b ρ S = (a ρ S).bind fun us S1 => (b ρ S1).bind fun ws S2 =>
  if us.length = n ∧ ws.length = m then
    match fill us ws df src with
    | some r => mf r S2
    | none => .bad
  else .bad := rfl
@[simp] theorem es_expr (a : ME) : sExpr a ρ S = srRes ρ (a ρ S) fun _ S1 => .nx ρ S1 := rfl
@[simp] theorem es_ret (a : ME) : sRet a ρ S = srRes ρ (a ρ S) fun d S1 => .rt d S1 := rfl
@[simp] theorem es_retN : sRetN ρ S = .rt .non S := rfl
@[simp] theorem es_pass : sPass ρ S = .nx ρ S := rfl
@[simp] theorem es_break : sBreak ρ S = .bk ρ S := rfl
@[simp] theorem es_cont : sCont ρ S = .ct ρ S := rfl
@[simp] theorem es_if (c : MB) (t e : MS) : sIf c t e ρ S = srRes ρ (c ρ S) fun b S1 => if b = true then t ρ S1 else e ρ S1 := rfl
@[simp] theorem es_seq (a b : MS) : sSeq a b ρ S = (a ρ S).seq b := rfl
@[simp] theorem es_asg (a : ME) (g : MG) : sAsg a g ρ S = srRes ρ (a ρ S) fun d S1 => srGo (g d ρ S1) := rfl
@[simp] theorem es_par (i j : Nat) (l : ML) : sPar i j l ρ S = srRes ρ (l ρ S) fun ds S1 => match ds with | [d, e] => .nx ((ρ.set i (some d)).set j (some e)) S1 | _ => .bad := rfl
@[simp] theorem es_for (l : ML) (g : MG) (b : MS) : sFor l g b ρ S = srRes ρ (l ρ S) fun ds S1 => forL g b ds ρ S1 := rfl
@[simp] theorem eg_nm (i : Nat) (d : D) : gNm i d ρ S = some (ρ.set i (some d), S) := rfl
@[simp] theorem eg_nil : gsNil [] ρ S = some (ρ, S) := rfl
@[simp] theorem eg_cons (g : MG) (gs : MGs) (d : D) (r : List D) : gsCons g gs (d :: r) ρ S = (g d ρ S).bind fun p => gs r p.1 p.2 := rfl
@[simp] theorem eg_many (n : Nat) (gs : MGs) (d : D) : gMany n gs d ρ S = match itemsD S d with | some l => if l.length = n then gs l ρ S else none | none => none := rfl
@[simp] theorem eg_set (o i : ME) (v : D) : gSet o i v ρ S = match o ρ S with
  | .ok od S1 => (match i ρ S1 with
    | .ok id S2 => (setD v od id S2).map fun S3 => (ρ, S3)
    | _ => none)
  | _ => none := rfl
end
theorem range1_j {l : ML} {ρ : Env'} {S S1 : Store} {j : Int} (h : l ρ S = .ok [.int j] S1) (hb : rgOk j = true) : mRange1 l ρ S = .ok (rangeL 0 j.toNat) S1 := by
  unfold mRange1
  rw [h]
  simp only [bind_ok]
  rw [if_pos hb]
theorem rgOk_nat {m : Nat} (hm : m ≤ 1000000) : rgOk (m : Int) = true := rgOk_of ⟨by omega, by omega⟩
theorem range1_ok {l : ML} {ρ : Env'} {S S1 : Store} {m : Nat} (h : l ρ S = .ok [.int (m : Int)] S1) (hm : m ≤ 1000000) : mRange1 l ρ S = .ok (rangeL 0 m) S1 := by
  have := range1_j h (rgOk_nat hm)
  rw [Int.toNat_natCast] at this
  exact this
theorem range2_ok {l : ML} {ρ : Env'} {S S1 : Store} {a b : Int} (h : l ρ S = .ok [.int a, .int b] S1) (ha : rgOk a = true) (hb : rgOk b = true) : mRange2 l ρ S = .ok (rangeL a (b - a).toNat) S1 := by
  unfold mRange2
  rw [h]
  simp only [bind_ok]
  rw [if_pos ⟨ha, hb⟩]
@[simp] theorem e_f1 (f : D → Store → Res D) (d : D) (S : Store) : f1 f [d] S = f d S := rfl
@[simp] theorem isi_mk (tab : Tab) (x : D) (n : String) (S : Store) : isiM tab [x, .ty n] S = resO ((tagD S x).bind fun a => (tab a (.ty n)).map D.bl) S := rfl
@[simp] theorem isi_mk2 (tab : Tab) (x : D) (m n : String) (S : Store) : isiM tab [x, .tup [.ty m, .ty n]] S = resO ((tagD S x).bind fun a => (anyTab tab a [.ty m, .ty n]).map D.bl) S := rfl
@[simp] theorem size_small (n : Nat) : (n ≤ sizeLine) = (n ≤ 16777216) := by rw [sizeLine_eq]
@[simp] theorem size_small' (n : Nat) : (n < sizeLine) = (n < 16777216) := by rw [sizeLine_eq]
@[simp] theorem run_def (n m : Nat) (b : MS) (args : List D) (S : Store) : runDef n m b args S = if args.length = n then
    match b (args.map some ++ List.replicate (m - n) none) S with
    | .nx _ S' => .ok .non S'
    | .rt d S' => .ok d S'
    | .ex _ c ks vs S' => .ex c ks vs S'
    | _ => .bad
  else .bad := rfl
@[simp] theorem cutM_eq (mf : MF) (ds : List D) (S : Store) : cutM mf ds S = cut S (mf ds S) := rfl

/-! ### the drawing of numbers -/
/-- the cells, how many were begun, what is left -/
def nutE (cells : List Int) (t l : Int) : Ent := .lst [.lst (cells.map .int), .int t, .int l]
@[simp] theorem nut_closed (n : Nat) (cells : List Int) (t l : Int) : closedE n (nutE cells t l) = true := by
  have h : ∀ cs : List Int, closedL n (cs.map D.int) = true := by
    intro cs
    induction cs with
    | nil => rfl
    | cons c cs ih => simp only [List.map_cons, closedL, ih]; rfl
  simp only [nutE, closedE, closedL, closed, h, Bool.and_self, Bool.and_true]
theorem toPs_ints : ∀ cs : List Int, toPs (cs.map D.int) = some (cs.map PyData.int)
  | [] => rfl
  | c :: cs => by
    simp only [List.map_cons, toPs, toP, toPs_ints cs]
theorem canLay_ints : ∀ cs : List Int, PyData.canLayAll0 (cs.map PyData.int) = true
  | [] => rfl
  | c :: cs => by
    simp only [List.map_cons, PyData.canLayAll0, canLay_ints cs, PyData.canLay0, Bool.and_self]
theorem depth_ints : ∀ cs : List Int, PyData.depthAll (cs.map PyData.int) ≤ 0
  | [] => Nat.le_refl _
  | c :: cs => by
    have := depth_ints cs
    simp only [List.map_cons, PyData.depthAll, PyData.depth]
    omega
theorem shaped_ints (cs : List Int) : SeqAt.shaped (.list (cs.map PyData.int)) = true := by
  have h := depth_ints cs
  have e : (PyData.list (cs.map PyData.int)).depth ≤ 64 := by
    simp only [PyData.depth]
    omega
  have c : (PyData.list (cs.map PyData.int)).canLay0 = true := by
    simp only [PyData.canLay0]
    exact canLay_ints cs
  unfold SeqAt.shaped
  rw [c, decide_eq_true e]
  rfl
theorem ne_nil_ints (S : Store) (cs : List Int) : neD (.lst (cs.map D.int)) (.lst []) S = .ok (.bl (!cs.isEmpty)) S := by
  have e : eqB S (.lst (cs.map D.int)) (.lst []) = some cs.isEmpty := by
    unfold eqB
    simp only [eqScal, toPS, lstD, toPs_ints, toPs, Option.map_some]
    have h2 : SeqAt.shaped (.list []) = true := by decide
    rw [shaped_ints, h2]
    cases cs <;> simp [PyData.eqv, PyData.eqvAll]
  unfold neD
  rw [e]
  rfl
theorem eq_nil_ints (S : Store) (cs : List Int) : eqD (.lst (cs.map D.int)) (.lst []) S = .ok (.bl cs.isEmpty) S := by
  have e : eqB S (.lst (cs.map D.int)) (.lst []) = some cs.isEmpty := by
    unfold eqB
    simp only [eqScal, toPS, lstD, toPs_ints, toPs, Option.map_some]
    have h2 : SeqAt.shaped (.list []) = true := by decide
    rw [shaped_ints, h2]
    cases cs <;> simp [PyData.eqv, PyData.eqvAll]
  unfold eqD
  rw [e]
  rfl
end Z

set_option Elab.async false
set_option linter.all false
set_option maxRecDepth 100000
set_option maxHeartbeats 4000000
set_option autoImplicit false
namespace Z
open PySem PySem.Spec L2

/-! ### drawing, as the laws do it -/
def bCellA : MS := (sIf (mBlT (mBin neD (mBin ixD (mVar 0) (mC (.int 0))) (mLst mNilL))) (sAsg (mBin ixD (mBin ixD (mVar 0) (mC (.int 0))) (mBin modD (mCall (f1 intD) (mConsL (mVar 3) mNilL)) (mCall (f1 lenD) (mConsL (mBin ixD (mVar 0) (mC (.int 0))) mNilL)))) (gNm 4)) sPass)
def bMixA (c1 c2 p1 c3 p2 p3 c4 : Int) : MS := (sSeq (sAsg (mBin modD (mCall (f1 intD) (mConsL (mBin powD (mBin addD (mBin addD (mBin modD (mCall (f1 intD) (mConsL (mVar 4) mNilL)) (mC (.int p1))) (mBin mulD (mC (.int c3)) (mVar 3))) (mC (.int c2))) (mC (.int 5))) mNilL)) (mC (.int p2))) (gNm 5)) (sSeq (sAsg (mBin modD (mCall (f1 intD) (mConsL (mBin powD (mBin addD (mBin addD (mBin mulD (mVar 5) (mBin addD (mBin mulD (mC (.int 2)) (mVar 3)) (mC (.int c2)))) (mBin mulD (mBin mulD (mC (.int c1)) (mVar 3)) (mVar 3))) (mC (.int c3))) (mC (.int 3))) mNilL)) (mC (.int p3))) (gNm 5)) (sRet (mBin modD (mCall (f1 intD) (mConsL (mBin fdivD (mVar 5) (mC (.int c4))) mNilL)) (mVar 1)))))
def bDrawA (c1 c2 p1 c3 p2 p3 c4 : Int) : MS := (sSeq (sIf (mBlT (mBin gtD (mBin ixD (mVar 0) (mC (.int 2))) (mC (.int 0)))) (sSeq (sAsg (mCall (f1 intD) (mConsL (mBin ixD (mVar 0) (mC (.int 2))) mNilL)) (gNm 2)) (sSeq (sAsg (mBin fdivD (mVar 2) (mVar 1)) (gSet (mVar 0) (mC (.int 2)))) (sRet (mBin modD (mCall (f1 intD) (mConsL (mVar 2) mNilL)) (mVar 1))))) sPass) (sSeq (sAsg (mBin ixD (mVar 0) (mC (.int 1))) (gNm 3)) (sSeq (sAsg (mBin addD (mVar 3) (mC (.int 1))) (gSet (mVar 0) (mC (.int 1)))) (sSeq (sAsg (mBin addD (mBin mulD (mC (.int c1)) (mVar 3)) (mC (.int c2))) (gNm 4)) (sSeq bCellA (sSeq (sIf (mAndT (mBlT (mBin ltD (mVar 3) (mCall (f1 lenD) (mConsL (mBin ixD (mVar 0) (mC (.int 0))) mNilL)))) (mBlT (mBin geD (mCall (f1 absD) (mConsL (mVar 4) mNilL)) (mBin powD (mC (.int 10)) (mC (.int 18)))))) (sSeq (sAsg (mBin addD (mBin mulD (mC (.int 2)) (mBin subD (mCall (f1 absD) (mConsL (mCall (f1 intD) (mConsL (mVar 4) mNilL)) mNilL)) (mBin powD (mC (.int 10)) (mC (.int 18))))) (mCall (f1 intD) (mConsL (mBin ltD (mVar 4) (mC (.int 0))) mNilL))) (gNm 2)) (sSeq (sAsg (mBin fdivD (mVar 2) (mVar 1)) (gSet (mVar 0) (mC (.int 2)))) (sRet (mBin modD (mCall (f1 intD) (mConsL (mVar 2) mNilL)) (mVar 1))))) sPass) (bMixA c1 c2 p1 c3 p2 p3 c4)))))))
/-- the constants are small, and moduli -/
structure Small (c1 c2 p1 c3 p2 p3 c4 : Int) : Prop where
  h1 : 0 ≤ c1 ∧ c1 < 2 ^ 18
  h2 : 0 ≤ c2 ∧ c2 < 2 ^ 18
  h3 : 0 ≤ c3 ∧ c3 < 2 ^ 18
  q1 : 0 < p1 ∧ p1 < 2 ^ 31
  q2 : 0 < p2 ∧ p2 < 2 ^ 31
  q3 : 0 < p3 ∧ p3 < 2 ^ 31
  q4 : 0 < c4 ∧ c4 < 2 ^ 18
theorem mul_ok {i j : Int} (h : -(2 ^ 64) < i ∧ i < 2 ^ 64) : MulOk i j := .inr (.inl h)
theorem mul_ok' {i j : Int} (h : -(2 ^ 64) < j ∧ j < 2 ^ 64) : MulOk i j := .inr (.inr h)
theorem log_small {j : Int} {b : Nat} (hb : j.natAbs < 2 ^ b) (h0 : 0 < b) (h9 : b ≤ 9000) : j.natAbs.log2 < 9000 := Nat.lt_of_lt_of_le (PySem.Flt.log2_lt_of h0 hb) h9
theorem atI_of {α : Type} {xs : List α} {i : Int} (h0 : 0 ≤ i) (h1 : i < xs.length) : ∃ v, atI xs i = some v ∧ v ∈ xs := by
  obtain ⟨j, rfl⟩ : ∃ j : Nat, i = (j : Int) := ⟨i.toNat, by omega⟩
  have hj : j < xs.length := by omega
  exact ⟨xs[j], atI_nat (List.getElem?_eq_getElem hj), List.getElem_mem hj⟩
theorem cut_len {S S' : Store} {d : D} (h : S'.length = S.length) : cut S (.ok d S') = .ok d S' := by
  simp only [cut]
  split
  · rw [← h, List.take_length]
  · rfl
section
variable {S : Store} {n : Nat} {cells : List Int} {t l : Int} (hn : S[n]? = some (nutE cells t l))
include hn
theorem nut_0 : ixD (.loc n) (.int 0) S = .ok (.lst (cells.map .int)) S := by
  simp [ixD, itemsD, hn, nutE, atI, ixN]
theorem nut_1 : ixD (.loc n) (.int 1) S = .ok (.int t) S := by
  simp [ixD, itemsD, hn, nutE, atI, ixN]
theorem nut_2 : ixD (.loc n) (.int 2) S = .ok (.int l) S := by
  simp [ixD, itemsD, hn, nutE, atI, ixN]
theorem nut_s1 (x : Int) : setD (.int x) (.loc n) (.int 1) S = some (S.set n (nutE cells x l)) := by
  simp [setD, hn, nutE, ixN]
theorem nut_s2 (x : Int) : setD (.int x) (.loc n) (.int 2) S = some (S.set n (nutE cells t x)) := by
  simp [setD, hn, nutE, ixN]
theorem nut_at (e : Ent) : (S.set n e)[n]? = some e := List.getElem?_set_self (List.getElem?_eq_some_iff.mp hn).1
end
theorem ne_nil0 (S : Store) : neD (.lst []) (.lst []) S = .ok (.bl false) S := ne_nil_ints S []
theorem mulD_ok {i j : Int} {S : Store} (h : MulOk i j) : mulD (.int i) (.int j) S = .ok (.int (i * j)) S := by
  unfold mulD
  exact if_pos h
theorem powD_ok {i j : Int} {S : Store} (h : 0 ≤ j ∧ j ≤ 1000000 ∧ i.natAbs < 2 ^ 64) : powD (.int i) (.int j) S = .ok (.int (i ^ j.toNat)) S := by
  unfold powD
  exact if_pos h
theorem fdivD_ok {i j : Int} {S : Store} (h : 0 < j ∧ j.natAbs.log2 < 9000) : fdivD (.int i) (.int j) S = .ok (.int (i / j)) S := by
  unfold fdivD
  exact if_pos h
theorem modD_ok {i j : Int} {S : Store} (h : 0 < j) : modD (.int i) (.int j) S = .ok (.int (i % j)) S := by
  unfold modD
  exact if_pos h
@[simp] theorem addD_int (i j : Int) (S : Store) : addD (.int i) (.int j) S = .ok (.int (i + j)) S := rfl
@[simp] theorem subD_int (i j : Int) (S : Store) : subD (.int i) (.int j) S = .ok (.int (i - j)) S := rfl
@[simp] theorem ltD_int (i j : Int) (S : Store) : ltD (.int i) (.int j) S = .ok (.bl (decide (i < j))) S := rfl
@[simp] theorem leD_int (i j : Int) (S : Store) : leD (.int i) (.int j) S = .ok (.bl (decide (i ≤ j))) S := rfl
@[simp] theorem gtD_int (i j : Int) (S : Store) : gtD (.int i) (.int j) S = .ok (.bl (decide (j < i))) S := rfl
@[simp] theorem geD_int (i j : Int) (S : Store) : geD (.int i) (.int j) S = .ok (.bl (decide (j ≤ i))) S := rfl
@[simp] theorem intD_int (i : Int) (S : Store) : intD (.int i) S = .ok (.int i) S := rfl
@[simp] theorem intD_bl (b : Bool) (S : Store) : intD (.bl b) S = .ok (.int (if b then 1 else 0)) S := rfl
@[simp] theorem absD_int (i : Int) (S : Store) : absD (.int i) S = .ok (.int (if i < 0 then -i else i)) S := rfl
@[simp] theorem negD_int (i : Int) (S : Store) : negD (.int i) S = .ok (.int (-i)) S := rfl
@[simp] theorem lenD_lst (l : List D) (S : Store) : lenD (.lst l) S = .ok (.int l.length) S := rfl
@[simp] theorem lenD_tup (l : List D) (S : Store) : lenD (.tup l) S = .ok (.int l.length) S := rfl
@[simp] theorem asBl_bl (b : Bool) : asBl (.bl b) = some b := rfl
@[simp] theorem ixD_lst (l : List D) (i : Int) (S : Store) : ixD (.lst l) (.int i) S = resO (atI l i) S := rfl
@[simp] theorem ixD_tup (l : List D) (i : Int) (S : Store) : ixD (.tup l) (.int i) S = resO (atI l i) S := rfl
theorem mulb {x y : Int} {B C : Nat} (hx : 0 ≤ x) (hB : x < 2 ^ B) (hy : 0 ≤ y) (hC : y < 2 ^ C) : x * y < 2 ^ (B + C) := by
  rw [Int.pow_add]
  rcases Int.lt_or_eq_of_le hy with h | h
  · exact Int.mul_lt_mul hB (Int.le_of_lt hC) h (Int.le_of_lt (Int.pow_pos (by decide)))
  · rw [← h, Int.mul_zero]
    exact Int.mul_pos (Int.pow_pos (by decide)) (Int.pow_pos (by decide))
theorem mixA {c1 c2 p1 c3 p2 p3 c4 : Int} (K : Small c1 c2 p1 c3 p2 p3 c4) {t many cell : Int} (ht : 0 ≤ t ∧ t < 2 ^ 20) (hm : 0 < many) (ρ : Env') (S : Store) (hl : ρ.length = 6) (h1 : ρ[1]? = some (some (.int many))) (h3 : ρ[3]? = some (some (.int t))) (h4 : ρ[4]? = some (some (.int cell))) :
    ∃ r, bMixA c1 c2 p1 c3 p2 p3 c4 ρ S = .rt (.int r) S ∧ 0 ≤ r ∧ r < many := by
  obtain ⟨a1, a2⟩ := K.h1
  obtain ⟨b1, b2⟩ := K.h2
  obtain ⟨d1, d2⟩ := K.h3
  obtain ⟨t0, t1⟩ := ht
  have n1 := mulb d1 d2 t0 t1
  have n1' := Int.mul_nonneg d1 t0
  have x1 := Int.emod_nonneg cell (show p1 ≠ 0 by have := K.q1.1; omega)
  have x2 := Int.emod_lt_of_pos cell K.q1.1
  have x3 := K.q1.2
  have e1 : ∀ S, modD (.int cell) (.int p1) S = .ok (.int (cell % p1)) S := fun S => modD_ok K.q1.1
  have e2 : ∀ S, mulD (.int c3) (.int t) S = .ok (.int (c3 * t)) S := fun S => mulD_ok (mul_ok ⟨by omega, by omega⟩)
  have e3 : ∀ S, powD (.int (cell % p1 + c3 * t + c2)) (.int 5) S = .ok (.int ((cell % p1 + c3 * t + c2) ^ 5)) S := fun S => powD_ok ⟨by decide, by decide, by omega⟩
  obtain ⟨y, hy⟩ : ∃ y, y = (cell % p1 + c3 * t + c2) ^ 5 := ⟨_, rfl⟩
  have y1 := Int.emod_nonneg y (show p2 ≠ 0 by have := K.q2.1; omega)
  have y2 := Int.emod_lt_of_pos y K.q2.1
  have y3 := K.q2.2
  obtain ⟨m, hm'⟩ : ∃ m, m = y % p2 := ⟨_, rfl⟩
  have e4 : ∀ S, modD (.int y) (.int p2) S = .ok (.int m) S := fun S => by rw [hm']; exact modD_ok K.q2.1
  have e5 : ∀ S, mulD (.int 2) (.int t) S = .ok (.int (2 * t)) S := fun S => mulD_ok (mul_ok (by decide))
  have m1 : 0 ≤ m := by omega
  have m2 : m < 2 ^ 31 := by omega
  have e6 : ∀ S, mulD (.int m) (.int (2 * t + c2)) S = .ok (.int (m * (2 * t + c2))) S := fun S => mulD_ok (mul_ok ⟨by omega, by omega⟩)
  have e7 : ∀ S, mulD (.int c1) (.int t) S = .ok (.int (c1 * t)) S := fun S => mulD_ok (mul_ok ⟨by omega, by omega⟩)
  have n2 := mulb a1 a2 t0 t1
  have n2' := Int.mul_nonneg a1 t0
  have e8 : ∀ S, mulD (.int (c1 * t)) (.int t) S = .ok (.int (c1 * t * t)) S := fun S => mulD_ok (mul_ok ⟨by omega, by omega⟩)
  have n3 := mulb n2' n2 t0 t1
  have n3' := Int.mul_nonneg n2' t0
  have n4 := mulb m1 m2 (show 0 ≤ 2 * t + c2 by omega) (show 2 * t + c2 < 2 ^ 22 by omega)
  have n4' := Int.mul_nonneg m1 (show 0 ≤ 2 * t + c2 by omega)
  have e9 : ∀ S, powD (.int (m * (2 * t + c2) + c1 * t * t + c3)) (.int 3) S = .ok (.int ((m * (2 * t + c2) + c1 * t * t + c3) ^ 3)) S := fun S => powD_ok ⟨by decide, by decide, by omega⟩
  obtain ⟨z, hz⟩ : ∃ z, z = (m * (2 * t + c2) + c1 * t * t + c3) ^ 3 := ⟨_, rfl⟩
  have e10 : ∀ S, modD (.int z) (.int p3) S = .ok (.int (z % p3)) S := fun S => modD_ok K.q3.1
  have e11 : ∀ S, fdivD (.int (z % p3)) (.int c4) S = .ok (.int (z % p3 / c4)) S := fun S => fdivD_ok ⟨K.q4.1, log_small (b := 18) (by have := K.q4; omega) (by decide) (by decide)⟩
  have e12 : ∀ x S, modD (.int x) (.int many) S = .ok (.int (x % many)) S := fun x S => modD_ok hm
  refine ⟨z % p3 / c4 % many, ?_, Int.emod_nonneg _ (by omega), Int.emod_lt_of_pos _ hm⟩
  have l5 : 5 < ρ.length := by omega
  simp [bMixA, h1, h3, h4, e1, e2, e3, ← hy, e4, e5, e6, e7, e8, e9, ← hz, e10, e11, e12, l5, List.getElem?_set]
theorem drawA {c1 c2 p1 c3 p2 p3 c4 : Int} (K : Small c1 c2 p1 c3 p2 p3 c4) {S : Store} {n : Nat} {cells : List Int} {t l many : Int} (hn : S[n]? = some (nutE cells t l)) (ht : 0 ≤ t ∧ t < 2 ^ 20) (hm : 0 < many) (hm2 : many.natAbs.log2 < 9000) :
    ∃ r t' l', cutM (runDef 2 6 (bDrawA c1 c2 p1 c3 p2 p3 c4)) [.loc n, .int many] S = .ok (.int r) (S.set n (nutE cells t' l')) ∧ 0 ≤ r ∧ r < many ∧ t ≤ t' ∧ t' ≤ t + 1 := by
  have hmod : ∀ x : Int, 0 ≤ x % many ∧ x % many < many := fun x => ⟨Int.emod_nonneg x (by omega), Int.emod_lt_of_pos x hm⟩
  have hfd : ∀ x : Int, ∀ S, fdivD (.int x) (.int many) S = .ok (.int (x / many)) S := fun x S => fdivD_ok ⟨hm, hm2⟩
  have hmd : ∀ x : Int, ∀ S, modD (.int x) (.int many) S = .ok (.int (x % many)) S := fun x S => modD_ok hm
  by_cases hl : 0 < l
  · refine ⟨l % many, t, l / many, ?_, (hmod l).1, (hmod l).2, Int.le_refl _, by omega⟩
    simp [bDrawA, nut_2 hn, nut_s2 hn, hl, hfd, hmd]
    exact cut_len (by simp)
  · have h1 := nut_at hn (nutE cells (t + 1) l)
    have ha : ∀ S, mulD (.int c1) (.int t) S = .ok (.int (c1 * t)) S := fun S => mulD_ok (mul_ok ⟨by have := K.h1.1; omega, by have := K.h1.2; omega⟩)
    have hten : ∀ S, powD (.int 10) (.int 18) S = .ok (.int (10 ^ 18)) S := fun S => powD_ok (by decide)
    have htwo : ∀ x : Int, ∀ S, mulD (.int 2) (.int x) S = .ok (.int (2 * x)) S := fun x S => mulD_ok (mul_ok (by decide))
    -- the cell
    obtain ⟨cell, hcell⟩ : ∃ cell : Int, ∀ (ρ : Env'), ρ.length = 6 → ρ[0]? = some (some (.loc n)) → ρ[3]? = some (some (.int t)) → ρ[4]? = some (some (.int (c1 * t + c2))) →
        bCellA ρ (S.set n (nutE cells (t + 1) l)) = .nx (ρ.set 4 (some (.int cell))) (S.set n (nutE cells (t + 1) l)) := by
      by_cases hc : cells = []
      · refine ⟨c1 * t + c2, fun ρ hρ h0 h3 h4 => ?_⟩
        have e4 : ρ.set 4 (some (.int (c1 * t + c2))) = ρ := by
          apply List.ext_getElem?
          intro j
          by_cases hj : 4 = j
          · subst hj
            rw [List.getElem?_set_self (by omega), h4]
          · rw [List.getElem?_set_ne hj]
        subst hc
        have h2 := nut_0 h1
        simp only [List.map_nil] at h2
        simp [bCellA, h0, h2, ne_nil_ints S [], ne_nil0, e4]
      · have hlen : 0 < (cells.length : Int) := by
          cases cells with
          | nil => exact absurd rfl hc
          | cons a b => simp
        obtain ⟨v, hv, hmem⟩ := atI_of (xs := cells.map D.int) (i := t % (cells.length : Int)) (Int.emod_nonneg _ (by omega)) (by rw [List.length_map]; exact Int.emod_lt_of_pos _ hlen)
        obtain ⟨cell, _, rfl⟩ := List.mem_map.mp hmem
        refine ⟨cell, fun ρ hρ h0 h3 h4 => ?_⟩
        have hmd' : ∀ S, modD (.int t) (.int (cells.length : Int)) S = .ok (.int (t % (cells.length : Int))) S := fun S => modD_ok hlen
        simp [bCellA, h0, h3, nut_0 h1, ne_nil_ints, hc, hmd', hv]
    have hnut0 := nut_0 h1
    have hs2 := fun x => nut_s2 h1 x
    have fin : ∀ x l' : Int, cut S (.ok (.int x) ((S.set n (nutE cells (t + 1) l)).set n (nutE cells (t + 1) l'))) = .ok (.int x) (S.set n (nutE cells (t + 1) l')) := fun x l' => by
      rw [List.set_set]
      exact cut_len (by simp)
    have fin0 : ∀ x : Int, cut S (.ok (.int x) (S.set n (nutE cells (t + 1) l))) = .ok (.int x) (S.set n (nutE cells (t + 1) l)) := fun x => cut_len (by simp)
    by_cases hA : t < cells.length
    · by_cases hB : 1000000000000000000 ≤ (if cell < 0 then -cell else cell)
      · refine ⟨(2 * ((if cell < 0 then -cell else cell) - 1000000000000000000) + if cell < 0 then 1 else 0) % many, t + 1, (2 * ((if cell < 0 then -cell else cell) - 1000000000000000000) + if cell < 0 then 1 else 0) / many, ?_, (hmod _).1, (hmod _).2, by omega, Int.le_refl _⟩
        simp [bDrawA, nut_2 hn, hl, nut_1 hn, nut_s1 hn, ha, hcell, hnut0, hA, hB, hten, htwo, hfd, hmd, hs2, cut_len]
      · obtain ⟨r, hr, hr1, hr2⟩ := mixA K ht hm [some (.loc n), some (.int many), none, some (.int t), some (.int cell), none] (S.set n (nutE cells (t + 1) l)) rfl rfl rfl rfl
        refine ⟨r, t + 1, l, ?_, hr1, hr2, by omega, Int.le_refl _⟩
        simp [bDrawA, nut_2 hn, hl, nut_1 hn, nut_s1 hn, ha, hcell, hnut0, hA, hB, hten, hr, fin0]
    · obtain ⟨r, hr, hr1, hr2⟩ := mixA K ht hm [some (.loc n), some (.int many), none, some (.int t), some (.int cell), none] (S.set n (nutE cells (t + 1) l)) rfl rfl rfl rfl
      refine ⟨r, t + 1, l, ?_, hr1, hr2, by omega, Int.le_refl _⟩
      simp [bDrawA, nut_2 hn, hl, nut_1 hn, nut_s1 hn, ha, hcell, hnut0, hA, hr, fin0]
end Z

set_option Elab.async false
set_option linter.all false
set_option maxRecDepth 100000
set_option maxHeartbeats 4000000
set_option autoImplicit false
namespace Z
open PySem PySem.Spec L2

/-! ### comprehensions without a test, one name -/
def WfS (S : Store) : Prop := ∀ e ∈ S, closedE S.length e = true
theorem pushAt_ok {n : Nat} {S : Store} {acc : List D} {y : D} (h : S[n]? = some (.lst acc)) (hz : acc.length < 16777216) : pushAt n y S = some (S.set n (.lst (acc ++ [y]))) := by
  unfold pushAt
  rw [h]
  simp only [size_small', if_pos hz]
theorem compL_pure {n i : Nat} {e : ME} {ρ : Env'} {f : D → D} : ∀ (ds : List D) (S : Store) (acc : List D), S[n]? = some (.lst acc) → acc.length + ds.length ≤ 16777216 →
    (∀ d ∈ ds, ∀ S, e (ρ.set i (some d)) S = .ok (f d) S) → compL n (gNm i) mYes e ρ ds S = .ok () (S.set n (.lst (acc ++ ds.map f)))
  | [], S, acc, h, _, _ => by
    have hl := (List.getElem?_eq_some_iff.mp h)
    obtain ⟨h1, h2⟩ := hl
    simp only [compL, List.map_nil, List.append_nil]
    rw [← h2, List.set_getElem_self]
  | d :: ds, S, acc, h, hz, he => by
    have h1 : n < S.length := (List.getElem?_eq_some_iff.mp h).1
    simp only [List.length_cons] at hz
    simp only [compL, eg_nm, ev_yes, noEx_ok, bind_ok, if_true, he d List.mem_cons_self S, pushAt_ok h (show acc.length < 16777216 by omega), resO_some]
    rw [compL_pure ds _ (acc ++ [f d]) (List.getElem?_set_self h1) (by simp; omega) fun d' hd' => he d' (List.mem_cons_of_mem _ hd')]
    simp
theorem closedL_app {n : Nat} : ∀ {a b : List D}, closedL n (a ++ b) = (closedL n a && closedL n b)
  | [], b => by simp [closedL]
  | d :: a, b => by simp [closedL, closedL_app (a := a), Bool.and_assoc]
theorem closedL_all {n : Nat} : ∀ {a : List D}, (∀ d ∈ a, closed n d = true) → closedL n a = true
  | [], _ => rfl
  | d :: a, h => by
    simp only [closedL, h d List.mem_cons_self, closedL_all fun d' hd' => h d' (List.mem_cons_of_mem _ hd'), Bool.and_self]
theorem comp_pure {l : ML} {i : Nat} {e : ME} {ρ : Env'} {S : Store} {ds : List D} {f : D → D} (hl : l ρ S = .ok ds S) (hz : ds.length ≤ 16777216) (hc : ∀ d ∈ ds, closed S.length (f d) = true)
    (he : ∀ d ∈ ds, ∀ S, e ((wipeR ρ [i]).set i (some d)) S = .ok (f d) S) : mCut (mFrz (mComp l [i] (gNm i) mYes e)) ρ S = .ok (.lst (ds.map f)) S := by
  have hn : (S ++ [Ent.lst []])[S.length]? = some (.lst []) := by simp
  have h := compL_pure (n := S.length) (i := i) (e := e) (ρ := wipeR ρ [i]) (f := f) ds (S ++ [.lst []]) [] hn (by simpa using hz) he
  have hset : (S ++ [Ent.lst []]).set S.length (.lst ([] ++ ds.map f)) = S ++ [.lst (ds.map f)] := by simp
  rw [hset] at h
  have hs2 : (S ++ [Ent.lst (ds.map f)])[S.length]? = some (.lst (ds.map f)) := by simp
  have hset2 : (S ++ [Ent.lst (ds.map f)]).set S.length .dead = S ++ [.dead] := by simp
  show cut S ((mComp l [i] (gNm i) mYes e ρ S).bind frzD) = _
  unfold mComp
  rw [hl]
  simp only [bind_ok, h, frzD, hs2, hset2]
  refine cut_app ?_
  simp only [closed]
  exact closedL_all fun d hd => by
    obtain ⟨d', hd', rfl⟩ := List.mem_map.mp hd
    exact hc d' hd'

/-! ### .. whose elements are drawn -/
/-- what one drawing does: something that P holds of, at most c more cells begun -/
def Draws (n : Nat) (cells : List Int) (T : Int) (P : D → Prop) (c : Int) (r : Store → Res D) : Prop :=
  ∀ (S : Store) (t l : Int), WfS S → S[n]? = some (nutE cells t l) → 0 ≤ t → t + c ≤ T → ∃ y t' l', r S = .ok y (S.set n (nutE cells t' l')) ∧ P y ∧ t ≤ t' ∧ t' ≤ t + c
theorem WfS.set {S : Store} {n : Nat} {e : Ent} (h : WfS S) (he : closedE S.length e = true) : WfS (S.set n e) := fun x hx => by
  rw [List.length_set]
  rcases List.mem_or_eq_of_mem_set hx with q | q
  · exact h x q
  · rw [q]
    exact he
mutual
theorem closed_mono {m n : Nat} (h : m ≤ n) : ∀ {d : D}, closed m d = true → closed n d = true
  | .non, _ => rfl
  | .bl _, _ => rfl
  | .int _, _ => rfl
  | .str _, _ => rfl
  | .ty _, _ => rfl
  | .cls _, _ => rfl
  | .tup l, q => by simp only [closed] at q ⊢; exact closedL_mono h q
  | .lst l, q => by simp only [closed] at q ⊢; exact closedL_mono h q
  | .kst l, q => by simp only [closed] at q ⊢; exact closedL_mono h q
  | .dct _ l, q => by simp only [closed] at q ⊢; exact closedL_mono h q
  | .ins _ _ l, q => by simp only [closed] at q ⊢; exact closedL_mono h q
  | .exn _ _ l, q => by simp only [closed] at q ⊢; exact closedL_mono h q
  | .loc k, q => by simp only [closed, decide_eq_true_eq] at q ⊢; omega
theorem closedL_mono {m n : Nat} (h : m ≤ n) : ∀ {l : List D}, closedL m l = true → closedL n l = true
  | [], _ => rfl
  | d :: l, q => by
    simp only [closedL, Bool.and_eq_true] at q ⊢
    exact ⟨closed_mono h q.1, closedL_mono h q.2⟩
end
theorem closedE_mono {m n : Nat} (h : m ≤ n) : ∀ {e : Ent}, closedE m e = true → closedE n e = true
  | .lst l, q => closedL_mono h q
  | .dct _ l, q => closedL_mono h q
  | .ins _ _ l, q => closedL_mono h q
  | .dead, _ => rfl
theorem WfS.app {S : Store} {e : Ent} (h : WfS S) (he : closedE (S.length + 1) e = true) : WfS (S ++ [e]) := fun x hx => by
  rw [List.length_append, List.length_singleton]
  rcases List.mem_append.mp hx with q | q
  · exact closedE_mono (Nat.le_succ _) (h x q)
  · rw [List.mem_singleton.mp q]
    exact he
theorem compL_draw {n m i : Nat} {cells : List Int} {T c : Int} {P : D → Prop} {e : ME} {ρ : Env'} (hc : 0 ≤ c) (hmn : m ≠ n) (hP : ∀ d, P d → ∀ k, closed k d = true) : ∀ (ds : List D) (S : Store) (acc : List D) (t l : Int), WfS S → S[m]? = some (.lst acc) → S[n]? = some (nutE cells t l) → acc.length + ds.length ≤ 16777216 → 0 ≤ t → t + c * ds.length ≤ T → (∀ d ∈ acc, P d) →
    (∀ d ∈ ds, Draws n cells T P c fun S => e (ρ.set i (some d)) S) →
    ∃ ys t' l', compL m (gNm i) mYes e ρ ds S = .ok () ((S.set n (nutE cells t' l')).set m (.lst (acc ++ ys))) ∧ ys.length = ds.length ∧ (∀ d ∈ ys, P d) ∧ t ≤ t' ∧ t' ≤ t + c * ds.length
  | [], S, acc, t, l, hw, h, hn, _, h0, hT, ha, _ => by
    refine ⟨[], t, l, ?_, rfl, by simp, Int.le_refl _, by simp⟩
    obtain ⟨h1, h2⟩ := List.getElem?_eq_some_iff.mp hn
    obtain ⟨h3, h4⟩ := List.getElem?_eq_some_iff.mp h
    simp only [compL, List.append_nil]
    rw [← h2, List.set_getElem_self, ← h4, List.set_getElem_self]
  | d :: ds, S, acc, t, l, hw, h, hn, hz, h0, hT, ha, he => by
    simp only [List.length_cons] at hz
    have hexp : c * ((d :: ds).length : Int) = c + c * (ds.length : Int) := by
      rw [List.length_cons, Int.natCast_succ, Int.mul_add, Int.mul_one, Int.add_comm]
    have hcd : 0 ≤ c * (ds.length : Int) := Int.mul_nonneg hc (by omega)
    obtain ⟨y, t1, l1, e1, p1, q1, q2⟩ := he d List.mem_cons_self S t l hw hn h0 (by rw [hexp] at hT; omega)
    obtain ⟨S1, hS1⟩ : ∃ S1, S1 = S.set n (nutE cells t1 l1) := ⟨_, rfl⟩
    have hm1 : S1[m]? = some (.lst acc) := by rw [hS1, List.getElem?_set_ne (Ne.symm hmn)]; exact h
    have hn1 : S1[n]? = some (nutE cells t1 l1) := by rw [hS1]; exact nut_at hn _
    have hw1 : WfS S1 := by rw [hS1]; exact hw.set (nut_closed _ _ _ _)
    obtain ⟨S2, hS2⟩ : ∃ S2, S2 = S1.set m (.lst (acc ++ [y])) := ⟨_, rfl⟩
    have hm2 : S2[m]? = some (.lst (acc ++ [y])) := by rw [hS2]; exact List.getElem?_set_self (List.getElem?_eq_some_iff.mp hm1).1
    have hn2 : S2[n]? = some (nutE cells t1 l1) := by rw [hS2, List.getElem?_set_ne hmn]; exact hn1
    have ha2 : ∀ d ∈ acc ++ [y], P d := fun d hd => by
      rcases List.mem_append.mp hd with q | q
      · exact ha d q
      · rw [List.mem_singleton.mp q]; exact p1
    have hw2 : WfS S2 := by
      rw [hS2]
      exact hw1.set (closedL_all fun d hd => hP d (ha2 d hd) _)
    obtain ⟨ys, t2, l2, e2, len2, p2, q3, q4⟩ := compL_draw hc hmn hP ds S2 (acc ++ [y]) t1 l1 hw2 hm2 hn2 (by simp; omega) (by omega) (by rw [hexp] at hT; omega) ha2 fun d' hd' => he d' (List.mem_cons_of_mem _ hd')
    refine ⟨y :: ys, t2, l2, ?_, by simp [len2], fun d hd => ?_, by omega, by rw [hexp]; omega⟩
    · simp only [compL, eg_nm, ev_yes, noEx_ok, bind_ok, if_true, e1, ← hS1, pushAt_ok hm1 (show acc.length < 16777216 by omega), resO_some, ← hS2, e2]
      congr 1
      apply List.ext_getElem?
      intro j
      by_cases hj : m = j
      · subst hj
        rw [List.getElem?_set_self (by rw [List.length_set, hS2, List.length_set, hS1, List.length_set]; exact (List.getElem?_eq_some_iff.mp h).1), List.getElem?_set_self (by rw [List.length_set]; exact (List.getElem?_eq_some_iff.mp h).1), List.append_assoc]
        rfl
      · rw [List.getElem?_set_ne hj, List.getElem?_set_ne hj]
        by_cases hk : n = j
        · subst hk
          rw [List.getElem?_set_self (by rw [hS2, List.length_set, hS1, List.length_set]; exact (List.getElem?_eq_some_iff.mp hn).1), List.getElem?_set_self (List.getElem?_eq_some_iff.mp hn).1]
        · rw [List.getElem?_set_ne hk, List.getElem?_set_ne hk, hS2, List.getElem?_set_ne hj, hS1, List.getElem?_set_ne hk]
    · rcases List.mem_cons.mp hd with q | q
      · rw [q]; exact p1
      · exact p2 d q
/-- [e for i in ..], e drawn: so many values that P holds of -/
theorem comp_draw {n i : Nat} {cells : List Int} {T c : Int} {P : D → Prop} {l : ML} {e : ME} {ρ : Env'} {S0 S : Store} {ds : List D} {t l0 : Int} (h0l : S0.length = S.length) (hc : 0 ≤ c) (hP : ∀ d, P d → ∀ k, closed k d = true) (hw : WfS S) (hn : S[n]? = some (nutE cells t l0)) (h0 : 0 ≤ t) (hT : t + c * ds.length ≤ T)
    (hl : l ρ S0 = .ok ds S) (hz : ds.length ≤ 16777216) (he : ∀ d ∈ ds, Draws n cells T P c fun S => e ((wipeR ρ [i]).set i (some d)) S) :
    ∃ ys t' l', mCut (mFrz (mComp l [i] (gNm i) mYes e)) ρ S0 = .ok (.lst ys) (S.set n (nutE cells t' l')) ∧ ys.length = ds.length ∧ (∀ d ∈ ys, P d) ∧ t ≤ t' ∧ t' ≤ t + c * ds.length := by
  have hlt : n < S.length := (List.getElem?_eq_some_iff.mp hn).1
  have hn' : (S ++ [Ent.lst []])[n]? = some (nutE cells t l0) := by rw [List.getElem?_append_left hlt]; exact hn
  have hm : (S ++ [Ent.lst []])[S.length]? = some (.lst []) := by simp
  obtain ⟨ys, t', l', e1, len, p, q1, q2⟩ := compL_draw hc (Nat.ne_of_gt hlt) hP ds (S ++ [.lst []]) [] t l0 (hw.app rfl) hm hn' (by simpa using hz) h0 hT (by simp) he
  refine ⟨ys, t', l', ?_, len, p, q1, q2⟩
  have hset : ((S ++ [Ent.lst []]).set n (nutE cells t' l')).set S.length (.lst ([] ++ ys)) = S.set n (nutE cells t' l') ++ [.lst ys] := by
    rw [List.set_append_left _ _ hlt, List.set_append_right _ _ (by simp)]
    simp
  rw [hset] at e1
  have hs2 : (S.set n (nutE cells t' l') ++ [Ent.lst ys])[S.length]? = some (.lst ys) := by
    rw [List.getElem?_append_right (by simp)]
    simp
  have hset2 : (S.set n (nutE cells t' l') ++ [Ent.lst ys]).set S.length .dead = S.set n (nutE cells t' l') ++ [.dead] := by
    rw [List.set_append_right _ _ (by simp)]
    simp
  show cut S0 ((mComp l [i] (gNm i) mYes e ρ S0).bind frzD) = _
  unfold mComp
  rw [hl]
  simp only [bind_ok, e1, frzD, hs2, hset2]
  refine cut_take ?_ (by rw [List.length_set, h0l]) ?_
  · simp only [closed]
    exact closedL_all fun d hd => hP d (p d hd) _
  · intro x hx
    rw [h0l]
    rcases List.mem_or_eq_of_mem_set hx with q | q
    · exact hw x q
    · rw [q]
      exact nut_closed _ _ _ _

/-! ### the maker of what draws -/
theorem cut_open {S S' : Store} {d : D} (h : closed S.length d = false) : cut S (.ok d S') = .ok d S' := by
  simp only [cut]
  exact if_neg fun z => by
    rw [h] at z
    cases z.1
noncomputable def bMake (k : Int) : MS := sRet (mLoc (mConsL (mCut (mFrz (mComp (mIter (mSlice (mVar 0) mNoP (mPart (mC (.int k))))) [1] (gNm 1) mYes (mCall (f1 intD) (mConsL (mVar 1) mNilL))))) (mConsL (mC (.int 0)) (mConsL (mC (.int 0)) mNilL))))
theorem make_ok {k : Nat} {ns : List Int} (hns : ns.length ≤ 63) : cutM (runDef 1 2 (bMake k)) [.kst (ns.map D.int)] [] = .ok (.loc 0) [nutE (ns.take k) 0 0] := by
  have hs : cutL (ns.map D.int) none (some (k : Int)) = (ns.take k).map D.int := by
    unfold cutL
    rw [HT.sIx_none, HT.sIx_nat]
    simp only [List.drop_zero, Nat.sub_zero, List.map_take, List.length_map]
    by_cases h : k ≤ ns.length
    · rw [Nat.min_eq_left h]
    · rw [Nat.min_eq_right (by omega), List.take_of_length_le (by simp), List.take_of_length_le (by simp; omega)]
  have hit : ∀ S, mIter (mSlice (mVar 0) mNoP (mPart (mC (.int (k : Int))))) [some (.kst (ns.map D.int)), none] S = .ok ((ns.take k).map D.int) S := fun S => by
    simp [asInt, sliceD, itemsD, hs, stillD]
  have hcomp : ∀ S, mCut (mFrz (mComp (mIter (mSlice (mVar 0) mNoP (mPart (mC (.int (k : Int)))))) [1] (gNm 1) mYes (mCall (f1 intD) (mConsL (mVar 1) mNilL)))) [some (.kst (ns.map D.int)), none] S = .ok (.lst (((ns.take k).map D.int).map id)) S := fun S => by
    refine comp_pure (f := id) (hit S) (by simp; omega) (fun d hd => ?_) (fun d hd S => ?_)
    · obtain ⟨z, _, rfl⟩ := List.mem_map.mp hd
      rfl
    · obtain ⟨z, _, rfl⟩ := List.mem_map.mp hd
      simp [wipeR]
  have h := hcomp []
  simp only [List.map_id] at h
  simp only [List.map_take] at h
  simp [bMake, h, nutE]
  exact cut_open rfl
end Z

set_option Elab.async false
set_option linter.all false
set_option maxRecDepth 100000
set_option maxHeartbeats 4000000
set_option autoImplicit false
namespace Z
open PySem PySem.Spec L2

/-! ### comprehensions with a test -/
theorem compL_filter {n : Nat} {g : MG} {q : MB} {e : ME} {ρ : Env'} {b : D → Bool} {f : D → D} : ∀ (ds : List D) (S : Store) (acc : List D), S[n]? = some (.lst acc) → acc.length + ds.length ≤ 16777216 →
    (∀ d ∈ ds, ∃ ρd, ∀ S, g d ρ S = some (ρd, S) ∧ q ρd S = .ok (b d) S ∧ (b d = true → e ρd S = .ok (f d) S)) → compL n g q e ρ ds S = .ok () (S.set n (.lst (acc ++ (ds.filter b).map f)))
  | [], S, acc, h, _, _ => by
    obtain ⟨h1, h2⟩ := List.getElem?_eq_some_iff.mp h
    simp only [compL, List.filter_nil, List.map_nil, List.append_nil]
    rw [← h2, List.set_getElem_self]
  | d :: ds, S, acc, h, hz, he => by
    have h1 : n < S.length := (List.getElem?_eq_some_iff.mp h).1
    simp only [List.length_cons] at hz
    obtain ⟨ρd, hd⟩ := he d List.mem_cons_self
    obtain ⟨e1, e2, e3⟩ := hd S
    cases hb : b d with
    | false =>
      rw [hb] at e2
      simp only [compL, e1, e2, noEx_ok, bind_ok, Bool.false_eq_true, if_false]
      rw [compL_filter ds S acc h (by omega) fun d' hd' => he d' (List.mem_cons_of_mem _ hd')]
      simp [List.filter_cons, hb]
    | true =>
      rw [hb] at e2
      simp only [compL, e1, e2, noEx_ok, bind_ok, if_true, e3 hb, pushAt_ok h (show acc.length < 16777216 by omega), resO_some]
      rw [compL_filter ds _ (acc ++ [f d]) (List.getElem?_set_self h1) (by simp; omega) fun d' hd' => he d' (List.mem_cons_of_mem _ hd')]
      simp [List.filter_cons, hb]
theorem comp_filter {l : ML} {vs : List Nat} {g : MG} {q : MB} {e : ME} {ρ : Env'} {S : Store} {ds : List D} {b : D → Bool} {f : D → D} (hl : l ρ S = .ok ds S) (hz : ds.length ≤ 16777216) (hc : ∀ d ∈ ds, b d = true → closed S.length (f d) = true)
    (he : ∀ d ∈ ds, ∃ ρd, ∀ S, g d (wipeR ρ vs) S = some (ρd, S) ∧ q ρd S = .ok (b d) S ∧ (b d = true → e ρd S = .ok (f d) S)) : mCut (mFrz (mComp l vs g q e)) ρ S = .ok (.lst ((ds.filter b).map f)) S := by
  have hn : (S ++ [Ent.lst []])[S.length]? = some (.lst []) := by simp
  have h := compL_filter (n := S.length) (g := g) (q := q) (e := e) (ρ := wipeR ρ vs) (b := b) (f := f) ds (S ++ [.lst []]) [] hn (by simpa using hz) he
  have hset : (S ++ [Ent.lst []]).set S.length (.lst ([] ++ (ds.filter b).map f)) = S ++ [.lst ((ds.filter b).map f)] := by simp
  rw [hset] at h
  have hs2 : (S ++ [Ent.lst ((ds.filter b).map f)])[S.length]? = some (.lst ((ds.filter b).map f)) := by simp
  have hset2 : (S ++ [Ent.lst ((ds.filter b).map f)]).set S.length .dead = S ++ [.dead] := by simp
  show cut S ((mComp l vs g q e ρ S).bind frzD) = _
  unfold mComp
  rw [hl]
  simp only [bind_ok, h, frzD, hs2, hset2]
  refine cut_app ?_
  simp only [closed]
  refine closedL_all fun d hd => ?_
  obtain ⟨d', hd', rfl⟩ := List.mem_map.mp hd
  obtain ⟨h1, h2⟩ := List.mem_filter.mp hd'
  exact hc d' h1 h2
theorem cut_exS (S : Store) (c : Nat) (ks : List Str) (vs : List D) : cut S (.ex c ks vs S) = .ex c ks vs S := by
  simp only [cut]
  split
  · rw [List.take_length]
  · rfl
@[simp] theorem es_tryK (ex : Nat → Option Bool) (i j : Nat) (mb : MS) (ρ : Env') (S : Store) : sTryK ex i j mb ρ S = match mb ρ S with
  | .ex ρ' c ks vs S' => (match ex c with
    | some true => .nx ((ρ'.set j (some (.exn c ks vs))).set i none) S'
    | some false => .ex ρ' c ks vs S'
    | none => .bad)
  | r => r := rfl
@[simp] theorem es_raise (c : Nat) (fs : List Str) (n m : Nat) (src : List Src) (a b : ML) (ρ : Env') (S : Store) : sRaise c fs n m src a b ρ S = srRes ρ (a ρ S) fun us S1 => srRes ρ (b ρ S1) fun ws S2 =>
  if us.length = n ∧ ws.length = m ∧ n ≤ 1000 then
    match fill us ws [] src with
    | some ds => if ds.length = fs.length then .ex ρ c fs.reverse ds.reverse S2 else .bad
    | none => .bad
  else .bad := rfl
@[simp] theorem isi_x (tab : Tab) (c d : Nat) (ks : List Str) (vs : List D) (S : Store) : isiM tab [.exn c ks vs, .cls d] S = resO ((tab (.exc c) (.cls d)).map D.bl) S := rfl
@[simp] theorem isi_xt (tab : Tab) (c : Nat) (n : String) (ks : List Str) (vs : List D) (S : Store) : isiM tab [.exn c ks vs, .ty n] S = resO ((tab (.exc c) (.ty n)).map D.bl) S := rfl
theorem isi_xs (tab : Tab) (c : Nat) (a : D) (as : List D) (ks : List Str) (vs : List D) (S : Store) : isiM tab [.exn c ks vs, .tup (a :: as)] S = resO ((tgsOf (a :: as)).bind fun cs => (anyTab tab (.exc c) cs).map D.bl) S := rfl
@[simp] theorem ev_xattr (cs : List Nat) (n : Str) (c : Nat) (ks : List Str) (vs : List D) (S : Store) : attrX cs n (.exn c ks vs) S = if c ∈ cs then resO ((ks.zip vs).lookup n) S else .bad := rfl
@[simp] theorem ev_enum (l : ML) (ρ : Env') (S : Store) : mEnum l ρ S = (l ρ S).bind fun ds S1 => match ds with
  | [.lst l] => .ok (enumL l) S1
  | [.kst l] => .ok (enumL l) S1
  | _ => .bad := rfl
end Z

set_option Elab.async false
set_option linter.all false
set_option maxRecDepth 100000
set_option maxHeartbeats 4000000
set_option autoImplicit false
/-! printed by gen.py: what each def means -/
namespace Z
open PySem PySem.Spec L2
def ancL : Nat → List Nat := fun c => [[0], [1, 0], [2, 0], [3, 0], [4, 0], [5, 0], [6, 0], [7, 0], [8, 0], [9, 0], [10, 0], [11, 0], [12, 0], [13, 0], [14, 0], [15, 0], [16, 0], [17, 0]].getD c []
def subL (c d : Nat) : Bool := (ancL c).contains d
def styL (c : Nat) (t : String) : Bool := ["ValueError", "Exception", "BaseException", "object"].contains t
def tabL : Tab := tabX 18 ["ValueError", "LookupError", "TypeError", "ArithmeticError"] subL styL
noncomputable def b__law_nut : MS := (sRet (mLoc (mConsL (mCut (mFrz (mComp (mIter (mSlice (mVar 0) mNoP (mPart (mC (.int 60))))) [1] (gNm 1) mYes (mCall (f1 intD) (mConsL (mVar 1) mNilL))))) (mConsL (mC (.int 0)) (mConsL (mC (.int 0)) mNilL)))))
noncomputable def m__law_nut : MF := cutM (runDef 1 2 b__law_nut)
noncomputable def b__law_crack : MS := (sSeq (sIf (mBlT (mBin gtD (mBin ixD (mVar 0) (mC (.int 2))) (mC (.int 0)))) (sSeq (sAsg (mCall (f1 intD) (mConsL (mBin ixD (mVar 0) (mC (.int 2))) mNilL)) (gNm 2)) (sSeq (sAsg (mBin fdivD (mVar 2) (mVar 1)) (gSet (mVar 0) (mC (.int 2)))) (sRet (mBin modD (mCall (f1 intD) (mConsL (mVar 2) mNilL)) (mVar 1))))) sPass) (sSeq (sAsg (mBin ixD (mVar 0) (mC (.int 1))) (gNm 3)) (sSeq (sAsg (mBin addD (mVar 3) (mC (.int 1))) (gSet (mVar 0) (mC (.int 1)))) (sSeq (sAsg (mBin addD (mBin mulD (mC (.int 108127)) (mVar 3)) (mC (.int 8111))) (gNm 4)) (sSeq (sIf (mBlT (mBin neD (mBin ixD (mVar 0) (mC (.int 0))) (mLst mNilL))) (sAsg (mBin ixD (mBin ixD (mVar 0) (mC (.int 0))) (mBin modD (mCall (f1 intD) (mConsL (mVar 3) mNilL)) (mCall (f1 lenD) (mConsL (mBin ixD (mVar 0) (mC (.int 0))) mNilL)))) (gNm 4)) sPass) (sSeq (sIf (mAndT (mBlT (mBin ltD (mVar 3) (mCall (f1 lenD) (mConsL (mBin ixD (mVar 0) (mC (.int 0))) mNilL)))) (mBlT (mBin geD (mCall (f1 absD) (mConsL (mVar 4) mNilL)) (mBin powD (mC (.int 10)) (mC (.int 18)))))) (sSeq (sAsg (mBin addD (mBin mulD (mC (.int 2)) (mBin subD (mCall (f1 absD) (mConsL (mCall (f1 intD) (mConsL (mVar 4) mNilL)) mNilL)) (mBin powD (mC (.int 10)) (mC (.int 18))))) (mCall (f1 intD) (mConsL (mBin ltD (mVar 4) (mC (.int 0))) mNilL))) (gNm 2)) (sSeq (sAsg (mBin fdivD (mVar 2) (mVar 1)) (gSet (mVar 0) (mC (.int 2)))) (sRet (mBin modD (mCall (f1 intD) (mConsL (mVar 2) mNilL)) (mVar 1))))) sPass) (sSeq (sAsg (mBin modD (mCall (f1 intD) (mConsL (mBin powD (mBin addD (mBin addD (mBin modD (mCall (f1 intD) (mConsL (mVar 4) mNilL)) (mC (.int 2147483563))) (mBin mulD (mC (.int 85103)) (mVar 3))) (mC (.int 8111))) (mC (.int 5))) mNilL)) (mC (.int 2147483579))) (gNm 5)) (sSeq (sAsg (mBin modD (mCall (f1 intD) (mConsL (mBin powD (mBin addD (mBin addD (mBin mulD (mVar 5) (mBin addD (mBin mulD (mC (.int 2)) (mVar 3)) (mC (.int 8111)))) (mBin mulD (mBin mulD (mC (.int 108127)) (mVar 3)) (mVar 3))) (mC (.int 85103))) (mC (.int 3))) mNilL)) (mC (.int 2147483549))) (gNm 5)) (sRet (mBin modD (mCall (f1 intD) (mConsL (mBin fdivD (mVar 5) (mC (.int 64))) mNilL)) (mVar 1)))))))))))
noncomputable def m__law_crack : MF := cutM (runDef 2 6 b__law_crack)
noncomputable def b__law_pick : MS := (sRet (mBin ixD (mVar 1) (mCall m__law_crack (mConsL (mVar 0) (mConsL (mCall (f1 lenD) (mConsL (mVar 1) mNilL)) mNilL)))))
noncomputable def m__law_pick : MF := cutM (runDef 2 2 b__law_pick)
noncomputable def b__law_value : MS := (sRet (mCall m__law_pick (mConsL (mVar 0) (mConsL (mLst (mConsL (mC .non) (mConsL (mC (.bl true)) (mConsL (mC (.int 5)) (mConsL (mUn negD (mC (.int 7))) (mConsL (mTup (mConsL (mC (.int 7)) (mConsL (mC (.int 2)) mNilL))) (mConsL (mC (.str ("piece" : Str))) (mConsL (mLst (mConsL (mC (.int 1)) (mConsL (mLst (mConsL (mC (.int 2)) mNilL)) mNilL))) (mConsL (mCut (mFrz (mDict [(Sum.inr ("a" : Str) : Key)] (mConsL (mC (.int 1)) mNilL)))) (mConsL (mTup mNilL) (mConsL (mC (.str ("" : Str))) (mConsL (mBin powD (mC (.int 10)) (mC (.int 30))) mNilL)))))))))))) mNilL))))
noncomputable def m__law_value : MF := cutM (runDef 1 1 b__law_value)
noncomputable def b__law_first : MS := (sSeq (sIf (mBlT (mBin eqD (mVar 0) (mC (.int 0)))) (sRaise 1 ["part"] 1 0 [.ps 0] (mConsL (mVar 1) mNilL) mNilL) sPass) (sSeq (sIf (mBlT (mBin eqD (mVar 0) (mC (.int 1)))) (sRaise 2 ["part"] 1 0 [.ps 0] (mConsL (mVar 1) mNilL) mNilL) sPass) (sSeq (sIf (mBlT (mBin eqD (mVar 0) (mC (.int 2)))) (sRaise 3 ["part"] 1 0 [.ps 0] (mConsL (mVar 1) mNilL) mNilL) sPass) (sSeq (sIf (mBlT (mBin eqD (mVar 0) (mC (.int 3)))) (sRaise 4 ["part"] 1 0 [.ps 0] (mConsL (mVar 1) mNilL) mNilL) sPass) (sSeq (sIf (mBlT (mBin eqD (mVar 0) (mC (.int 4)))) (sRaise 5 ["part"] 1 0 [.ps 0] (mConsL (mVar 1) mNilL) mNilL) sPass) (sSeq (sIf (mBlT (mBin eqD (mVar 0) (mC (.int 5)))) (sRaise 6 ["part"] 1 0 [.ps 0] (mConsL (mVar 1) mNilL) mNilL) sPass) (sSeq (sIf (mBlT (mBin eqD (mVar 0) (mC (.int 6)))) (sRaise 7 ["part"] 1 0 [.ps 0] (mConsL (mVar 1) mNilL) mNilL) sPass) (sSeq (sIf (mBlT (mBin eqD (mVar 0) (mC (.int 7)))) (sRaise 8 ["part"] 1 0 [.ps 0] (mConsL (mVar 1) mNilL) mNilL) sPass) (sSeq (sIf (mBlT (mBin eqD (mVar 0) (mC (.int 8)))) (sRaise 9 ["part"] 1 0 [.ps 0] (mConsL (mVar 1) mNilL) mNilL) sPass) (sSeq (sIf (mBlT (mBin eqD (mVar 0) (mC (.int 9)))) (sRaise 10 ["value"] 1 0 [.ps 0] (mConsL (mVar 1) mNilL) mNilL) sPass) (sSeq (sIf (mBlT (mBin eqD (mVar 0) (mC (.int 10)))) (sRaise 11 ["value"] 1 0 [.ps 0] (mConsL (mVar 1) mNilL) mNilL) sPass) (sSeq (sIf (mBlT (mBin eqD (mVar 0) (mC (.int 11)))) (sRaise 12 ["value"] 1 0 [.ps 0] (mConsL (mVar 1) mNilL) mNilL) sPass) (sRaise 14 ["why"] 1 0 [.ps 0] (mConsL (mVar 1) mNilL) mNilL)))))))))))))
noncomputable def m__law_first : MF := cutM (runDef 2 2 b__law_first)
noncomputable def b__law_named : MS := (sSeq (sIf (mBlT (mBin eqD (mVar 0) (mC (.int 0)))) (sRaise 1 ["part"] 0 1 [.kw 0] mNilL (mConsL (mVar 1) mNilL)) sPass) (sSeq (sIf (mBlT (mBin eqD (mVar 0) (mC (.int 1)))) (sRaise 2 ["part"] 0 1 [.kw 0] mNilL (mConsL (mVar 1) mNilL)) sPass) (sSeq (sIf (mBlT (mBin eqD (mVar 0) (mC (.int 2)))) (sRaise 3 ["part"] 0 1 [.kw 0] mNilL (mConsL (mVar 1) mNilL)) sPass) (sSeq (sIf (mBlT (mBin eqD (mVar 0) (mC (.int 3)))) (sRaise 4 ["part"] 0 1 [.kw 0] mNilL (mConsL (mVar 1) mNilL)) sPass) (sSeq (sIf (mBlT (mBin eqD (mVar 0) (mC (.int 4)))) (sRaise 5 ["part"] 0 1 [.kw 0] mNilL (mConsL (mVar 1) mNilL)) sPass) (sSeq (sIf (mBlT (mBin eqD (mVar 0) (mC (.int 5)))) (sRaise 6 ["part"] 0 1 [.kw 0] mNilL (mConsL (mVar 1) mNilL)) sPass) (sSeq (sIf (mBlT (mBin eqD (mVar 0) (mC (.int 6)))) (sRaise 7 ["part"] 0 1 [.kw 0] mNilL (mConsL (mVar 1) mNilL)) sPass) (sSeq (sIf (mBlT (mBin eqD (mVar 0) (mC (.int 7)))) (sRaise 8 ["part"] 0 1 [.kw 0] mNilL (mConsL (mVar 1) mNilL)) sPass) (sSeq (sIf (mBlT (mBin eqD (mVar 0) (mC (.int 8)))) (sRaise 9 ["part"] 0 1 [.kw 0] mNilL (mConsL (mVar 1) mNilL)) sPass) (sSeq (sIf (mBlT (mBin eqD (mVar 0) (mC (.int 9)))) (sRaise 10 ["value"] 0 1 [.kw 0] mNilL (mConsL (mVar 1) mNilL)) sPass) (sSeq (sIf (mBlT (mBin eqD (mVar 0) (mC (.int 10)))) (sRaise 11 ["value"] 0 1 [.kw 0] mNilL (mConsL (mVar 1) mNilL)) sPass) (sSeq (sIf (mBlT (mBin eqD (mVar 0) (mC (.int 11)))) (sRaise 12 ["value"] 0 1 [.kw 0] mNilL (mConsL (mVar 1) mNilL)) sPass) (sRaise 14 ["why"] 0 1 [.kw 0] mNilL (mConsL (mVar 1) mNilL))))))))))))))
noncomputable def m__law_named : MF := cutM (runDef 2 2 b__law_named)
noncomputable def b__law_last : MS := (sSeq (sIf (mAndT (mBlT (mBin eqD (mVar 0) (mC (.int 13)))) (mTst (mVar 3))) (sRaise 13 ["what", "most"] 0 2 [.kw 1, .kw 0] mNilL (mConsL (mVar 2) (mConsL (mVar 1) mNilL))) sPass) (sSeq (sIf (mBlT (mBin eqD (mVar 0) (mC (.int 13)))) (sRaise 13 ["what", "most"] 2 0 [.ps 0, .ps 1] (mConsL (mVar 1) (mConsL (mVar 2) mNilL)) mNilL) sPass) (sSeq (sIf (mAndT (mBlT (mBin eqD (mVar 0) (mC (.int 14)))) (mTst (mVar 3))) (sRaise 16 ["line", "item"] 0 2 [.kw 1, .kw 0] mNilL (mConsL (mVar 2) (mConsL (mVar 1) mNilL))) sPass) (sSeq (sIf (mBlT (mBin eqD (mVar 0) (mC (.int 14)))) (sRaise 16 ["line", "item"] 2 0 [.ps 0, .ps 1] (mConsL (mVar 1) (mConsL (mVar 2) mNilL)) mNilL) sPass) (sSeq (sIf (mAndT (mBlT (mBin eqD (mVar 0) (mC (.int 15)))) (mTst (mVar 3))) (sRaise 17 ["line", "error"] 0 2 [.kw 1, .kw 0] mNilL (mConsL (mVar 2) (mConsL (mVar 1) mNilL))) sPass) (sSeq (sIf (mBlT (mBin eqD (mVar 0) (mC (.int 15)))) (sRaise 17 ["line", "error"] 2 0 [.ps 0, .ps 1] (mConsL (mVar 1) (mConsL (mVar 2) mNilL)) mNilL) sPass) (sRaise 15 [] 0 0 [] mNilL mNilL)))))))
noncomputable def m__law_last : MF := cutM (runDef 4 4 b__law_last)
noncomputable def b__law_kinds : MS := (sSeq (sAsg (mLst (mConsL (mCall (isiM tabL) (mConsL (mVar 0) (mConsL (mC (.cls 1)) mNilL))) (mConsL (mCall (isiM tabL) (mConsL (mVar 0) (mConsL (mC (.cls 2)) mNilL))) (mConsL (mCall (isiM tabL) (mConsL (mVar 0) (mConsL (mC (.cls 3)) mNilL))) (mConsL (mCall (isiM tabL) (mConsL (mVar 0) (mConsL (mC (.cls 4)) mNilL))) mNilL))))) (gNm 1)) (sSeq (sAsg (mBin addD (mVar 1) (mLst (mConsL (mCall (isiM tabL) (mConsL (mVar 0) (mConsL (mC (.cls 5)) mNilL))) (mConsL (mCall (isiM tabL) (mConsL (mVar 0) (mConsL (mC (.cls 6)) mNilL))) (mConsL (mCall (isiM tabL) (mConsL (mVar 0) (mConsL (mC (.cls 7)) mNilL))) (mConsL (mCall (isiM tabL) (mConsL (mVar 0) (mConsL (mC (.cls 8)) mNilL))) mNilL)))))) (gNm 1)) (sSeq (sAsg (mBin addD (mVar 1) (mLst (mConsL (mCall (isiM tabL) (mConsL (mVar 0) (mConsL (mC (.cls 9)) mNilL))) (mConsL (mCall (isiM tabL) (mConsL (mVar 0) (mConsL (mC (.cls 10)) mNilL))) (mConsL (mCall (isiM tabL) (mConsL (mVar 0) (mConsL (mC (.cls 11)) mNilL))) (mConsL (mCall (isiM tabL) (mConsL (mVar 0) (mConsL (mC (.cls 12)) mNilL))) mNilL)))))) (gNm 1)) (sSeq (sAsg (mBin addD (mVar 1) (mLst (mConsL (mCall (isiM tabL) (mConsL (mVar 0) (mConsL (mC (.cls 14)) mNilL))) (mConsL (mCall (isiM tabL) (mConsL (mVar 0) (mConsL (mC (.cls 13)) mNilL))) (mConsL (mCall (isiM tabL) (mConsL (mVar 0) (mConsL (mC (.cls 16)) mNilL))) (mConsL (mCall (isiM tabL) (mConsL (mVar 0) (mConsL (mC (.cls 17)) mNilL))) (mConsL (mCall (isiM tabL) (mConsL (mVar 0) (mConsL (mC (.cls 15)) mNilL))) mNilL))))))) (gNm 1)) (sRet (mCut (mFrz (mComp (mEnum (mConsL (mVar 1) mNilL)) [2, 3] (gMany 2 (gsCons (gNm 2) (gsCons (gNm 3) gsNil))) (mTst (mVar 3)) (mVar 2)))))))))
noncomputable def m__law_kinds : MF := cutM (runDef 1 4 b__law_kinds)
noncomputable def b__law_fields : MS := (sSeq (sIf (mBlT (mBin ltD (mVar 0) (mC (.int 9)))) (sRet (mLst (mConsL (mUn (attrX [1, 2, 3, 4, 5, 6, 7, 8, 9] "part") (mVar 1)) mNilL))) sPass) (sSeq (sIf (mBlT (mBin ltD (mVar 0) (mC (.int 12)))) (sRet (mLst (mConsL (mUn (attrX [10, 11, 12] "value") (mVar 1)) mNilL))) sPass) (sSeq (sIf (mBlT (mBin eqD (mVar 0) (mC (.int 12)))) (sRet (mLst (mConsL (mUn (attrX [14] "why") (mVar 1)) mNilL))) sPass) (sSeq (sIf (mBlT (mBin eqD (mVar 0) (mC (.int 13)))) (sRet (mLst (mConsL (mUn (attrX [13] "what") (mVar 1)) (mConsL (mUn (attrX [13] "most") (mVar 1)) mNilL)))) sPass) (sSeq (sIf (mBlT (mBin eqD (mVar 0) (mC (.int 14)))) (sRet (mLst (mConsL (mUn (attrX [16, 17] "line") (mVar 1)) (mConsL (mUn (attrX [16] "item") (mVar 1)) mNilL)))) sPass) (sRet (mIf (mBlT (mBin eqD (mVar 0) (mC (.int 15)))) (mLst (mConsL (mUn (attrX [16, 17] "line") (mVar 1)) (mConsL (mUn (attrX [17] "error") (mVar 1)) mNilL))) (mLst mNilL))))))))
noncomputable def m__law_fields : MF := cutM (runDef 2 2 b__law_fields)
noncomputable def b__law_raises : MS := (sSeq (sIf (mBlT (mBin gtD (mVar 0) (mC (.int 12)))) (sExpr (mCall m__law_last (mConsL (mVar 0) (mConsL (mVar 1) (mConsL (mVar 2) (mConsL (mVar 3) mNilL)))))) sPass) (sSeq (sIf (mTst (mVar 3)) (sExpr (mCall m__law_named (mConsL (mVar 0) (mConsL (mVar 1) mNilL)))) sPass) (sExpr (mCall m__law_first (mConsL (mVar 0) (mConsL (mVar 1) mNilL))))))
noncomputable def m__law_raises : MF := cutM (runDef 4 4 b__law_raises)
noncomputable def b__law_right : MS := (sSeq (sAsg (mC .non) (gNm 4)) (sSeq (sTryK (exqX 18 subL 0) 5 4 (sExpr (mCall m__law_raises (mConsL (mVar 0) (mConsL (mVar 1) (mConsL (mVar 2) (mConsL (mVar 3) mNilL))))))) (sSeq (sIf (mOrT (mBlT (mBin isD (mVar 4) (mC .non))) (mOrT (mNotT (mTst (mCall (isiM tabL) (mConsL (mVar 4) (mConsL (mC (.ty "ValueError")) mNilL))))) (mBlT (mBin neD (mCall m__law_kinds (mConsL (mVar 4) mNilL)) (mLst (mConsL (mVar 0) mNilL)))))) (sRet (mC (.bl false))) sPass) (sSeq (sIf (mTst (mCall (isiM tabL) (mConsL (mVar 4) (mConsL (mTup (mConsL (mC (.ty "LookupError")) (mConsL (mC (.ty "TypeError")) (mConsL (mC (.ty "ArithmeticError")) mNilL)))) mNilL)))) (sRet (mC (.bl false))) sPass) (sSeq (sAsg (mIf (mBlT (mBin eqD (mVar 0) (mC (.int 16)))) (mLst mNilL) (mIf (mBlT (mBin gtD (mVar 0) (mC (.int 12)))) (mLst (mConsL (mVar 1) (mConsL (mVar 2) mNilL))) (mLst (mConsL (mVar 1) mNilL)))) (gNm 6)) (sRet (mBin eqD (mCall (f1 reprZ) (mConsL (mCall m__law_fields (mConsL (mVar 0) (mConsL (mVar 4) mNilL))) mNilL)) (mCall (f1 reprZ) (mConsL (mVar 6) mNilL)))))))))
noncomputable def m__law_right : MF := cutM (runDef 4 7 b__law_right)
noncomputable def b_law : MS := (sSeq (sAsg (mCall m__law_nut (mConsL (mVar 0) mNilL)) (gNm 1)) (sSeq (sFor (mRange1 (mConsL (mC (.int 17)) mNilL)) (gNm 2) (sSeq (sPar 3 4 (mConsL (mCall m__law_value (mConsL (mVar 1) mNilL)) (mConsL (mCall m__law_value (mConsL (mVar 1) mNilL)) mNilL))) (sIf (mOrT (mNotT (mTst (mCall m__law_right (mConsL (mVar 2) (mConsL (mVar 3) (mConsL (mVar 4) (mConsL (mC (.bl false)) mNilL))))))) (mNotT (mTst (mCall m__law_right (mConsL (mVar 2) (mConsL (mVar 3) (mConsL (mVar 4) (mConsL (mC (.bl true)) mNilL)))))))) (sRet (mC (.bl false))) sPass))) (sRet (mC (.bl true)))))
noncomputable def m_law : MF := cutM (runDef 1 5 b_law)
end Z

set_option Elab.async false
set_option linter.all false
set_option maxRecDepth 100000
set_option maxHeartbeats 4000000
set_option autoImplicit false
namespace Z
open PySem PySem.Spec L2
def topS (i : Nat) : Stmt := PySem.Challenge.pw_lanecross_k00_errors_and_their_fields.main.body.getD i (.Pass ⟨0, 0, 0, 0⟩)
structure Bl (G : Gm) : Prop where
  b_ArithmeticError : G.mg "ArithmeticError" = none
  b_LookupError : G.mg "LookupError" = none
  b_TypeError : G.mg "TypeError" = none
  b_ValueError : G.mg "ValueError" = none
  b_abs : G.mg "abs" = none
  b_enumerate : G.mg "enumerate" = none
  b_int : G.mg "int" = none
  b_isinstance : G.mg "isinstance" = none
  b_len : G.mg "len" = none
  b_range : G.mg "range" = none
  b_repr : G.mg "repr" = none
abbrev s_BadNumber : Stmt := (clsB (topS 2)).getD 0 (.Pass ⟨0, 0, 0, 0⟩)
theorem xs_BadNumber : XsC "BadNumber.__init__" s_BadNumber ["part"] := ⟨⟨rfl, rfl, rfl, by decide +kernel, by decide +kernel, rfl, rfl, free_of (by decide +kernel), by decide +kernel⟩, rfl, ⟨_, _, _, _, _, _, _, _, _, fun L f cd cc => ⟨_, rfl⟩, rfl, ⟨_, _, _, _, rfl⟩⟩, by decide +kernel⟩
abbrev s_BadSpot : Stmt := (clsB (topS 3)).getD 0 (.Pass ⟨0, 0, 0, 0⟩)
theorem xs_BadSpot : XsC "BadSpot.__init__" s_BadSpot ["part"] := ⟨⟨rfl, rfl, rfl, by decide +kernel, by decide +kernel, rfl, rfl, free_of (by decide +kernel), by decide +kernel⟩, rfl, ⟨_, _, _, _, _, _, _, _, _, fun L f cd cc => ⟨_, rfl⟩, rfl, ⟨_, _, _, _, rfl⟩⟩, by decide +kernel⟩
abbrev s_BadPiece : Stmt := (clsB (topS 4)).getD 0 (.Pass ⟨0, 0, 0, 0⟩)
theorem xs_BadPiece : XsC "BadPiece.__init__" s_BadPiece ["part"] := ⟨⟨rfl, rfl, rfl, by decide +kernel, by decide +kernel, rfl, rfl, free_of (by decide +kernel), by decide +kernel⟩, rfl, ⟨_, _, _, _, _, _, _, _, _, fun L f cd cc => ⟨_, rfl⟩, rfl, ⟨_, _, _, _, rfl⟩⟩, by decide +kernel⟩
abbrev s_BadFront : Stmt := (clsB (topS 5)).getD 0 (.Pass ⟨0, 0, 0, 0⟩)
theorem xs_BadFront : XsC "BadFront.__init__" s_BadFront ["part"] := ⟨⟨rfl, rfl, rfl, by decide +kernel, by decide +kernel, rfl, rfl, free_of (by decide +kernel), by decide +kernel⟩, rfl, ⟨_, _, _, _, _, _, _, _, _, fun L f cd cc => ⟨_, rfl⟩, rfl, ⟨_, _, _, _, rfl⟩⟩, by decide +kernel⟩
abbrev s_BadWorld : Stmt := (clsB (topS 6)).getD 0 (.Pass ⟨0, 0, 0, 0⟩)
theorem xs_BadWorld : XsC "BadWorld.__init__" s_BadWorld ["part"] := ⟨⟨rfl, rfl, rfl, by decide +kernel, by decide +kernel, rfl, rfl, free_of (by decide +kernel), by decide +kernel⟩, rfl, ⟨_, _, _, _, _, _, _, _, _, fun L f cd cc => ⟨_, rfl⟩, rfl, ⟨_, _, _, _, rfl⟩⟩, by decide +kernel⟩
abbrev s_BadLevel : Stmt := (clsB (topS 7)).getD 0 (.Pass ⟨0, 0, 0, 0⟩)
theorem xs_BadLevel : XsC "BadLevel.__init__" s_BadLevel ["part"] := ⟨⟨rfl, rfl, rfl, by decide +kernel, by decide +kernel, rfl, rfl, free_of (by decide +kernel), by decide +kernel⟩, rfl, ⟨_, _, _, _, _, _, _, _, _, fun L f cd cc => ⟨_, rfl⟩, rfl, ⟨_, _, _, _, rfl⟩⟩, by decide +kernel⟩
abbrev s_BadPlay : Stmt := (clsB (topS 8)).getD 0 (.Pass ⟨0, 0, 0, 0⟩)
theorem xs_BadPlay : XsC "BadPlay.__init__" s_BadPlay ["part"] := ⟨⟨rfl, rfl, rfl, by decide +kernel, by decide +kernel, rfl, rfl, free_of (by decide +kernel), by decide +kernel⟩, rfl, ⟨_, _, _, _, _, _, _, _, _, fun L f cd cc => ⟨_, rfl⟩, rfl, ⟨_, _, _, _, rfl⟩⟩, by decide +kernel⟩
abbrev s_BadPaper : Stmt := (clsB (topS 9)).getD 0 (.Pass ⟨0, 0, 0, 0⟩)
theorem xs_BadPaper : XsC "BadPaper.__init__" s_BadPaper ["part"] := ⟨⟨rfl, rfl, rfl, by decide +kernel, by decide +kernel, rfl, rfl, free_of (by decide +kernel), by decide +kernel⟩, rfl, ⟨_, _, _, _, _, _, _, _, _, fun L f cd cc => ⟨_, rfl⟩, rfl, ⟨_, _, _, _, rfl⟩⟩, by decide +kernel⟩
abbrev s_Misfit : Stmt := (clsB (topS 10)).getD 0 (.Pass ⟨0, 0, 0, 0⟩)
theorem xs_Misfit : XsC "Misfit.__init__" s_Misfit ["part"] := ⟨⟨rfl, rfl, rfl, by decide +kernel, by decide +kernel, rfl, rfl, free_of (by decide +kernel), by decide +kernel⟩, rfl, ⟨_, _, _, _, _, _, _, _, _, fun L f cd cc => ⟨_, rfl⟩, rfl, ⟨_, _, _, _, rfl⟩⟩, by decide +kernel⟩
abbrev s_NoName : Stmt := (clsB (topS 11)).getD 0 (.Pass ⟨0, 0, 0, 0⟩)
theorem xs_NoName : XsC "NoName.__init__" s_NoName ["value"] := ⟨⟨rfl, rfl, rfl, by decide +kernel, by decide +kernel, rfl, rfl, free_of (by decide +kernel), by decide +kernel⟩, rfl, ⟨_, _, _, _, _, _, _, _, _, fun L f cd cc => ⟨_, rfl⟩, rfl, ⟨_, _, _, _, rfl⟩⟩, by decide +kernel⟩
abbrev s_NoPiece : Stmt := (clsB (topS 12)).getD 0 (.Pass ⟨0, 0, 0, 0⟩)
theorem xs_NoPiece : XsC "NoPiece.__init__" s_NoPiece ["value"] := ⟨⟨rfl, rfl, rfl, by decide +kernel, by decide +kernel, rfl, rfl, free_of (by decide +kernel), by decide +kernel⟩, rfl, ⟨_, _, _, _, _, _, _, _, _, fun L f cd cc => ⟨_, rfl⟩, rfl, ⟨_, _, _, _, rfl⟩⟩, by decide +kernel⟩
abbrev s_Twice : Stmt := (clsB (topS 13)).getD 0 (.Pass ⟨0, 0, 0, 0⟩)
theorem xs_Twice : XsC "Twice.__init__" s_Twice ["value"] := ⟨⟨rfl, rfl, rfl, by decide +kernel, by decide +kernel, rfl, rfl, free_of (by decide +kernel), by decide +kernel⟩, rfl, ⟨_, _, _, _, _, _, _, _, _, fun L f cd cc => ⟨_, rfl⟩, rfl, ⟨_, _, _, _, rfl⟩⟩, by decide +kernel⟩
abbrev s_Refused : Stmt := (clsB (topS 15)).getD 0 (.Pass ⟨0, 0, 0, 0⟩)
theorem xs_Refused : XsC "Refused.__init__" s_Refused ["why"] := ⟨⟨rfl, rfl, rfl, by decide +kernel, by decide +kernel, rfl, rfl, free_of (by decide +kernel), by decide +kernel⟩, rfl, ⟨_, _, _, _, _, _, _, _, _, fun L f cd cc => ⟨_, rfl⟩, rfl, ⟨_, _, _, _, rfl⟩⟩, by decide +kernel⟩
abbrev s_TooMany : Stmt := (clsB (topS 14)).getD 0 (.Pass ⟨0, 0, 0, 0⟩)
theorem xs_TooMany : XsC "TooMany.__init__" s_TooMany ["what", "most"] := ⟨⟨rfl, rfl, rfl, by decide +kernel, by decide +kernel, rfl, rfl, free_of (by decide +kernel), by decide +kernel⟩, rfl, ⟨_, _, _, _, _, _, _, _, _, fun L f cd cc => ⟨_, rfl⟩, rfl, ⟨_, _, _, _, _, _, _, _, rfl⟩⟩, by decide +kernel⟩
abbrev s_BadText : Stmt := (clsB (topS 17)).getD 0 (.Pass ⟨0, 0, 0, 0⟩)
theorem xs_BadText : XsC "BadText.__init__" s_BadText ["line", "item"] := ⟨⟨rfl, rfl, rfl, by decide +kernel, by decide +kernel, rfl, rfl, free_of (by decide +kernel), by decide +kernel⟩, rfl, ⟨_, _, _, _, _, _, _, _, _, fun L f cd cc => ⟨_, rfl⟩, rfl, ⟨_, _, _, _, _, _, _, _, rfl⟩⟩, by decide +kernel⟩
abbrev s_BadLine : Stmt := (clsB (topS 18)).getD 0 (.Pass ⟨0, 0, 0, 0⟩)
theorem xs_BadLine : XsC "BadLine.__init__" s_BadLine ["line", "error"] := ⟨⟨rfl, rfl, rfl, by decide +kernel, by decide +kernel, rfl, rfl, free_of (by decide +kernel), by decide +kernel⟩, rfl, ⟨_, _, _, _, _, _, _, _, _, fun L f cd cc => ⟨_, rfl⟩, rfl, ⟨_, _, _, _, _, _, _, _, rfl⟩⟩, by decide +kernel⟩
abbrev s_Nothing : Stmt := (clsB (topS 16)).getD 0 (.Pass ⟨0, 0, 0, 0⟩)
theorem xs_Nothing : XsC "Nothing.__init__" s_Nothing [] := ⟨⟨rfl, rfl, rfl, by decide +kernel, by decide +kernel, rfl, rfl, free_of (by decide +kernel), by decide +kernel⟩, rfl, ⟨_, _, _, _, _, _, _, _, _, fun L f cd cc => ⟨_, rfl⟩, rfl, rfl⟩, by decide +kernel⟩
structure Cl (G : Gm) (P : Program) (fi : Nat → Addr) (fdd : Nat → FuncData) : Prop where
  mg_BadNumber : G.mg "BadNumber" = some (.ref (G.cls 1))
  mg_BadSpot : G.mg "BadSpot" = some (.ref (G.cls 2))
  mg_BadPiece : G.mg "BadPiece" = some (.ref (G.cls 3))
  mg_BadFront : G.mg "BadFront" = some (.ref (G.cls 4))
  mg_BadWorld : G.mg "BadWorld" = some (.ref (G.cls 5))
  mg_BadLevel : G.mg "BadLevel" = some (.ref (G.cls 6))
  mg_BadPlay : G.mg "BadPlay" = some (.ref (G.cls 7))
  mg_BadPaper : G.mg "BadPaper" = some (.ref (G.cls 8))
  mg_Misfit : G.mg "Misfit" = some (.ref (G.cls 9))
  mg_NoName : G.mg "NoName" = some (.ref (G.cls 10))
  mg_NoPiece : G.mg "NoPiece" = some (.ref (G.cls 11))
  mg_Twice : G.mg "Twice" = some (.ref (G.cls 12))
  mg_Refused : G.mg "Refused" = some (.ref (G.cls 14))
  mg_TooMany : G.mg "TooMany" = some (.ref (G.cls 13))
  mg_BadText : G.mg "BadText" = some (.ref (G.cls 16))
  mg_BadLine : G.mg "BadLine" = some (.ref (G.cls 17))
  mg_Nothing : G.mg "Nothing" = some (.ref (G.cls 15))
  mg_LaneError : G.mg "LaneError" = some (.ref (G.cls 0))
  x_BadNumber : XcF G P 1 "BadNumber" "BadNumber.__init__" s_BadNumber ["part"] (fi 1) (fdd 1)
  bx_BadNumber_1_ : BdX G.K (fdd 1) ["part"] 1 [] [.ps 0]
  bx_BadNumber_0_part : BdX G.K (fdd 1) ["part"] 0 ["part"] [.kw 0]
  x_BadSpot : XcF G P 2 "BadSpot" "BadSpot.__init__" s_BadSpot ["part"] (fi 2) (fdd 2)
  bx_BadSpot_1_ : BdX G.K (fdd 2) ["part"] 1 [] [.ps 0]
  bx_BadSpot_0_part : BdX G.K (fdd 2) ["part"] 0 ["part"] [.kw 0]
  x_BadPiece : XcF G P 3 "BadPiece" "BadPiece.__init__" s_BadPiece ["part"] (fi 3) (fdd 3)
  bx_BadPiece_1_ : BdX G.K (fdd 3) ["part"] 1 [] [.ps 0]
  bx_BadPiece_0_part : BdX G.K (fdd 3) ["part"] 0 ["part"] [.kw 0]
  x_BadFront : XcF G P 4 "BadFront" "BadFront.__init__" s_BadFront ["part"] (fi 4) (fdd 4)
  bx_BadFront_1_ : BdX G.K (fdd 4) ["part"] 1 [] [.ps 0]
  bx_BadFront_0_part : BdX G.K (fdd 4) ["part"] 0 ["part"] [.kw 0]
  x_BadWorld : XcF G P 5 "BadWorld" "BadWorld.__init__" s_BadWorld ["part"] (fi 5) (fdd 5)
  bx_BadWorld_1_ : BdX G.K (fdd 5) ["part"] 1 [] [.ps 0]
  bx_BadWorld_0_part : BdX G.K (fdd 5) ["part"] 0 ["part"] [.kw 0]
  x_BadLevel : XcF G P 6 "BadLevel" "BadLevel.__init__" s_BadLevel ["part"] (fi 6) (fdd 6)
  bx_BadLevel_1_ : BdX G.K (fdd 6) ["part"] 1 [] [.ps 0]
  bx_BadLevel_0_part : BdX G.K (fdd 6) ["part"] 0 ["part"] [.kw 0]
  x_BadPlay : XcF G P 7 "BadPlay" "BadPlay.__init__" s_BadPlay ["part"] (fi 7) (fdd 7)
  bx_BadPlay_1_ : BdX G.K (fdd 7) ["part"] 1 [] [.ps 0]
  bx_BadPlay_0_part : BdX G.K (fdd 7) ["part"] 0 ["part"] [.kw 0]
  x_BadPaper : XcF G P 8 "BadPaper" "BadPaper.__init__" s_BadPaper ["part"] (fi 8) (fdd 8)
  bx_BadPaper_1_ : BdX G.K (fdd 8) ["part"] 1 [] [.ps 0]
  bx_BadPaper_0_part : BdX G.K (fdd 8) ["part"] 0 ["part"] [.kw 0]
  x_Misfit : XcF G P 9 "Misfit" "Misfit.__init__" s_Misfit ["part"] (fi 9) (fdd 9)
  bx_Misfit_1_ : BdX G.K (fdd 9) ["part"] 1 [] [.ps 0]
  bx_Misfit_0_part : BdX G.K (fdd 9) ["part"] 0 ["part"] [.kw 0]
  x_NoName : XcF G P 10 "NoName" "NoName.__init__" s_NoName ["value"] (fi 10) (fdd 10)
  bx_NoName_1_ : BdX G.K (fdd 10) ["value"] 1 [] [.ps 0]
  bx_NoName_0_value : BdX G.K (fdd 10) ["value"] 0 ["value"] [.kw 0]
  x_NoPiece : XcF G P 11 "NoPiece" "NoPiece.__init__" s_NoPiece ["value"] (fi 11) (fdd 11)
  bx_NoPiece_1_ : BdX G.K (fdd 11) ["value"] 1 [] [.ps 0]
  bx_NoPiece_0_value : BdX G.K (fdd 11) ["value"] 0 ["value"] [.kw 0]
  x_Twice : XcF G P 12 "Twice" "Twice.__init__" s_Twice ["value"] (fi 12) (fdd 12)
  bx_Twice_1_ : BdX G.K (fdd 12) ["value"] 1 [] [.ps 0]
  bx_Twice_0_value : BdX G.K (fdd 12) ["value"] 0 ["value"] [.kw 0]
  x_Refused : XcF G P 14 "Refused" "Refused.__init__" s_Refused ["why"] (fi 14) (fdd 14)
  bx_Refused_1_ : BdX G.K (fdd 14) ["why"] 1 [] [.ps 0]
  bx_Refused_0_why : BdX G.K (fdd 14) ["why"] 0 ["why"] [.kw 0]
  x_TooMany : XcF G P 13 "TooMany" "TooMany.__init__" s_TooMany ["what", "most"] (fi 13) (fdd 13)
  bx_TooMany_0_most_what : BdX G.K (fdd 13) ["what", "most"] 0 ["most", "what"] [.kw 1, .kw 0]
  bx_TooMany_2_ : BdX G.K (fdd 13) ["what", "most"] 2 [] [.ps 0, .ps 1]
  x_BadText : XcF G P 16 "BadText" "BadText.__init__" s_BadText ["line", "item"] (fi 16) (fdd 16)
  bx_BadText_0_item_line : BdX G.K (fdd 16) ["line", "item"] 0 ["item", "line"] [.kw 1, .kw 0]
  bx_BadText_2_ : BdX G.K (fdd 16) ["line", "item"] 2 [] [.ps 0, .ps 1]
  x_BadLine : XcF G P 17 "BadLine" "BadLine.__init__" s_BadLine ["line", "error"] (fi 17) (fdd 17)
  bx_BadLine_0_error_line : BdX G.K (fdd 17) ["line", "error"] 0 ["error", "line"] [.kw 1, .kw 0]
  bx_BadLine_2_ : BdX G.K (fdd 17) ["line", "error"] 2 [] [.ps 0, .ps 1]
  x_Nothing : XcF G P 15 "Nothing" "Nothing.__init__" s_Nothing [] (fi 15) (fdd 15)
  bx_Nothing_0_ : BdX G.K (fdd 15) [] 0 [] []
  ex_LaneError : ∀ c b, exqX 18 subL 0 c = some b → PySem.W.exmOne G.K (.ref (G.cls c)) (.ref (G.cls 0)) = some b
  xa_part : XaT G [1, 2, 3, 4, 5, 6, 7, 8, 9] "part"
  xa_value : XaT G [10, 11, 12] "value"
  xa_why : XaT G [14] "why"
  xa_what : XaT G [13] "what"
  xa_most : XaT G [13] "most"
  xa_line : XaT G [16, 17] "line"
  xa_item : XaT G [16] "item"
  xa_error : XaT G [17] "error"
abbrev s__law_nut : Stmt := topS 20
theorem sc__law_nut : FnScope ["script", "cell"] ["script"] (defScope s__law_nut) := ⟨rfl, rfl, rfl, by decide +kernel, rfl, by decide +kernel, by decide +kernel⟩
theorem gf__law_nut {G : Gm} {P : Program} {w : World} {base : Heap} {f : Addr} {fd : FuncData} (T : Bl G) (TB : TabOk G tabL) {fi : Nat → Addr} {fdd : Nat → FuncData} (CL : Cl G P fi fdd) (D__law_nut : Df G "_law_nut" s__law_nut ["script"] f fd) : GFn G P w base 1 f fd ["script"] m__law_nut :=
  (GFn.of_body (k := 0) D__law_nut.fg sc__law_nut fun cdv A outer s H E ok => (ss_one (ss_ret (se_loc (sa_cons (se_cut (se_frz (se_lc (own := [("cell", 1)]) ok (si_seq ok.K (se_slice ok.K (se_var (i := 0)) sop_none (sop_some se_int))) (fun _ _ _ _ _ => (so_name (i := 1) (ok.blk _ _ _ _ _).nd)) (fun _ _ _ _ _ okB => sq_nil) (fun _ _ _ _ _ okB => (cx_int okB T.b_int (sa_cons (se_var (i := 1)) sa_nil))) (bk := blkOk_by (N := ["script", "cell"]) (sc := defScope s__law_nut) (own := [("cell", 1)]) (by decide +kernel))))) (sa_cons se_int (sa_cons se_int sa_nil))))))).cut
abbrev s__law_crack : Stmt := topS 21
theorem sc__law_crack : FnScope ["nut", "many", "left", "turn", "cell", "mixed"] ["nut", "many"] (defScope s__law_crack) := ⟨rfl, rfl, rfl, by decide +kernel, rfl, by decide +kernel, by decide +kernel⟩
theorem gf__law_crack {G : Gm} {P : Program} {w : World} {base : Heap} {f : Addr} {fd : FuncData} (T : Bl G) (TB : TabOk G tabL) {fi : Nat → Addr} {fdd : Nat → FuncData} (CL : Cl G P fi fdd) (D__law_crack : Df G "_law_crack" s__law_crack ["nut", "many"] f fd) : GFn G P w base 1 f fd ["nut", "many"] m__law_crack :=
  (GFn.of_body (k := 0) D__law_crack.fg sc__law_crack fun cdv A outer s H E ok => (ss_cons (ss_if (ct_gt ok (se_ix ok.K (se_var (i := 0)) se_int) se_int) (ss_cons (ss_set (i := 2) ok.nd (cx_int ok T.b_int (sa_cons (se_ix ok.K (se_var (i := 0)) se_int) sa_nil))) (ss_cons (ss_asg (cx_fdiv ok (se_var (i := 2)) (se_var (i := 1))) (sg_set ok (se_var (i := 0)) se_int)) (ss_one (ss_ret (cx_mod ok (cx_int ok T.b_int (sa_cons (se_var (i := 2)) sa_nil)) (se_var (i := 1))))))) ss_nil) (ss_cons (ss_set (i := 3) ok.nd (se_ix ok.K (se_var (i := 0)) se_int)) (ss_cons (ss_asg (cx_add ok (se_var (i := 3)) se_int) (sg_set ok (se_var (i := 0)) se_int)) (ss_cons (ss_set (i := 4) ok.nd (cx_add ok (cx_mul ok se_int (se_var (i := 3))) se_int)) (ss_cons (ss_if (ct_ne ok (se_ix ok.K (se_var (i := 0)) se_int) (se_lst sa_nil)) (ss_one (ss_set (i := 4) ok.nd (se_ix ok.K (se_ix ok.K (se_var (i := 0)) se_int) (cx_mod ok (cx_int ok T.b_int (sa_cons (se_var (i := 3)) sa_nil)) (cx_len ok T.b_len (sa_cons (se_ix ok.K (se_var (i := 0)) se_int) sa_nil)))))) ss_nil) (ss_cons (ss_if (SW.pt (sw_and (ct_lt ok (se_var (i := 3)) (cx_len ok T.b_len (sa_cons (se_ix ok.K (se_var (i := 0)) se_int) sa_nil))) (sw_and1 (ct_ge ok (cx_abs ok T.b_abs (sa_cons (se_var (i := 4)) sa_nil)) (cx_pow ok se_int se_int))))) (ss_cons (ss_set (i := 2) ok.nd (cx_add ok (cx_mul ok se_int (cx_sub ok (cx_abs ok T.b_abs (sa_cons (cx_int ok T.b_int (sa_cons (se_var (i := 4)) sa_nil)) sa_nil)) (cx_pow ok se_int se_int))) (cx_int ok T.b_int (sa_cons (cx_lt ok (se_var (i := 4)) se_int) sa_nil)))) (ss_cons (ss_asg (cx_fdiv ok (se_var (i := 2)) (se_var (i := 1))) (sg_set ok (se_var (i := 0)) se_int)) (ss_one (ss_ret (cx_mod ok (cx_int ok T.b_int (sa_cons (se_var (i := 2)) sa_nil)) (se_var (i := 1))))))) ss_nil) (ss_cons (ss_set (i := 5) ok.nd (cx_mod ok (cx_int ok T.b_int (sa_cons (cx_pow ok (cx_add ok (cx_add ok (cx_mod ok (cx_int ok T.b_int (sa_cons (se_var (i := 4)) sa_nil)) se_int) (cx_mul ok se_int (se_var (i := 3)))) se_int) se_int) sa_nil)) se_int)) (ss_cons (ss_set (i := 5) ok.nd (cx_mod ok (cx_int ok T.b_int (sa_cons (cx_pow ok (cx_add ok (cx_add ok (cx_mul ok (se_var (i := 5)) (cx_add ok (cx_mul ok se_int (se_var (i := 3))) se_int)) (cx_mul ok (cx_mul ok se_int (se_var (i := 3))) (se_var (i := 3)))) se_int) se_int) sa_nil)) se_int)) (ss_one (ss_ret (cx_mod ok (cx_int ok T.b_int (sa_cons (cx_fdiv ok (se_var (i := 5)) se_int) sa_nil)) (se_var (i := 1)))))))))))))).cut
abbrev s__law_pick : Stmt := topS 22
theorem sc__law_pick : FnScope ["nut", "some"] ["nut", "some"] (defScope s__law_pick) := ⟨rfl, rfl, rfl, by decide +kernel, rfl, by decide +kernel, by decide +kernel⟩
theorem gf__law_pick {G : Gm} {P : Program} {w : World} {base : Heap} {f : Addr} {fd : FuncData} (T : Bl G) (TB : TabOk G tabL) {fi : Nat → Addr} {fdd : Nat → FuncData} (CL : Cl G P fi fdd) (D__law_pick : Df G "_law_pick" s__law_pick ["nut", "some"] f fd) {f__law_crack : Addr} {fd__law_crack : FuncData} (D__law_crack : Df G "_law_crack" s__law_crack ["nut", "many"] f__law_crack fd__law_crack) (G__law_crack : GFn G P w base 1 f__law_crack fd__law_crack ["nut", "many"] m__law_crack) : GFn G P w base 2 f fd ["nut", "some"] m__law_pick :=
  (GFn.of_body (k := 1) D__law_pick.fg sc__law_pick fun cdv A outer s H E ok => (ss_one (ss_ret (se_ix ok.K (se_var (i := 1)) (cx_call ok D__law_crack G__law_crack runL (sa_cons (se_var (i := 0)) (sa_cons (cx_len ok T.b_len (sa_cons (se_var (i := 1)) sa_nil)) sa_nil))))))).cut
abbrev s__law_value : Stmt := topS 23
theorem sc__law_value : FnScope ["nut"] ["nut"] (defScope s__law_value) := ⟨rfl, rfl, rfl, by decide +kernel, rfl, by decide +kernel, by decide +kernel⟩
theorem gf__law_value {G : Gm} {P : Program} {w : World} {base : Heap} {f : Addr} {fd : FuncData} (T : Bl G) (TB : TabOk G tabL) {fi : Nat → Addr} {fdd : Nat → FuncData} (CL : Cl G P fi fdd) (D__law_value : Df G "_law_value" s__law_value ["nut"] f fd) {f__law_pick : Addr} {fd__law_pick : FuncData} (D__law_pick : Df G "_law_pick" s__law_pick ["nut", "some"] f__law_pick fd__law_pick) (G__law_pick : GFn G P w base 2 f__law_pick fd__law_pick ["nut", "some"] m__law_pick) : GFn G P w base 3 f fd ["nut"] m__law_value :=
  (GFn.of_body (k := 2) D__law_value.fg sc__law_value fun cdv A outer s H E ok => (ss_one (ss_ret (cx_call ok D__law_pick G__law_pick runL (sa_cons (se_var (i := 0)) (sa_cons (se_lst (sa_cons se_non (sa_cons se_bl (sa_cons se_int (sa_cons (cx_neg ok se_int) (sa_cons (se_tup (sa_cons se_int (sa_cons se_int sa_nil))) (sa_cons se_str (sa_cons (se_lst (sa_cons se_int (sa_cons (se_lst (sa_cons se_int sa_nil)) sa_nil))) (sa_cons (se_cut (se_frz (se_dict (ks := [(Sum.inr ("a" : Str) : Key)]) (sd_cons pe_str se_int sd_nil)))) (sa_cons (se_tup sa_nil) (sa_cons se_str (sa_cons (cx_pow ok se_int se_int) sa_nil)))))))))))) sa_nil)))))).cut
abbrev s__law_first : Stmt := topS 24
theorem sc__law_first : FnScope ["at", "one"] ["at", "one"] (defScope s__law_first) := ⟨rfl, rfl, rfl, by decide +kernel, rfl, by decide +kernel, by decide +kernel⟩
theorem gf__law_first {G : Gm} {P : Program} {w : World} {base : Heap} {f : Addr} {fd : FuncData} (T : Bl G) (TB : TabOk G tabL) {fi : Nat → Addr} {fdd : Nat → FuncData} (CL : Cl G P fi fdd) (D__law_first : Df G "_law_first" s__law_first ["at", "one"] f fd) : GFn G P w base 2 f fd ["at", "one"] m__law_first :=
  (GFn.of_body (k := 1) D__law_first.fg sc__law_first fun cdv A outer s H E ok => (ss_cons (ss_if (ct_eq ok (se_var (i := 0)) se_int) (ss_one (ss_raiseP ok (by first | decide | omega) CL.x_BadNumber CL.bx_BadNumber_1_ (sa_cons (se_var (i := 1)) sa_nil))) ss_nil) (ss_cons (ss_if (ct_eq ok (se_var (i := 0)) se_int) (ss_one (ss_raiseP ok (by first | decide | omega) CL.x_BadSpot CL.bx_BadSpot_1_ (sa_cons (se_var (i := 1)) sa_nil))) ss_nil) (ss_cons (ss_if (ct_eq ok (se_var (i := 0)) se_int) (ss_one (ss_raiseP ok (by first | decide | omega) CL.x_BadPiece CL.bx_BadPiece_1_ (sa_cons (se_var (i := 1)) sa_nil))) ss_nil) (ss_cons (ss_if (ct_eq ok (se_var (i := 0)) se_int) (ss_one (ss_raiseP ok (by first | decide | omega) CL.x_BadFront CL.bx_BadFront_1_ (sa_cons (se_var (i := 1)) sa_nil))) ss_nil) (ss_cons (ss_if (ct_eq ok (se_var (i := 0)) se_int) (ss_one (ss_raiseP ok (by first | decide | omega) CL.x_BadWorld CL.bx_BadWorld_1_ (sa_cons (se_var (i := 1)) sa_nil))) ss_nil) (ss_cons (ss_if (ct_eq ok (se_var (i := 0)) se_int) (ss_one (ss_raiseP ok (by first | decide | omega) CL.x_BadLevel CL.bx_BadLevel_1_ (sa_cons (se_var (i := 1)) sa_nil))) ss_nil) (ss_cons (ss_if (ct_eq ok (se_var (i := 0)) se_int) (ss_one (ss_raiseP ok (by first | decide | omega) CL.x_BadPlay CL.bx_BadPlay_1_ (sa_cons (se_var (i := 1)) sa_nil))) ss_nil) (ss_cons (ss_if (ct_eq ok (se_var (i := 0)) se_int) (ss_one (ss_raiseP ok (by first | decide | omega) CL.x_BadPaper CL.bx_BadPaper_1_ (sa_cons (se_var (i := 1)) sa_nil))) ss_nil) (ss_cons (ss_if (ct_eq ok (se_var (i := 0)) se_int) (ss_one (ss_raiseP ok (by first | decide | omega) CL.x_Misfit CL.bx_Misfit_1_ (sa_cons (se_var (i := 1)) sa_nil))) ss_nil) (ss_cons (ss_if (ct_eq ok (se_var (i := 0)) se_int) (ss_one (ss_raiseP ok (by first | decide | omega) CL.x_NoName CL.bx_NoName_1_ (sa_cons (se_var (i := 1)) sa_nil))) ss_nil) (ss_cons (ss_if (ct_eq ok (se_var (i := 0)) se_int) (ss_one (ss_raiseP ok (by first | decide | omega) CL.x_NoPiece CL.bx_NoPiece_1_ (sa_cons (se_var (i := 1)) sa_nil))) ss_nil) (ss_cons (ss_if (ct_eq ok (se_var (i := 0)) se_int) (ss_one (ss_raiseP ok (by first | decide | omega) CL.x_Twice CL.bx_Twice_1_ (sa_cons (se_var (i := 1)) sa_nil))) ss_nil) (ss_one (ss_raiseP ok (by first | decide | omega) CL.x_Refused CL.bx_Refused_1_ (sa_cons (se_var (i := 1)) sa_nil)))))))))))))))).cut
abbrev s__law_named : Stmt := topS 25
theorem sc__law_named : FnScope ["at", "one"] ["at", "one"] (defScope s__law_named) := ⟨rfl, rfl, rfl, by decide +kernel, rfl, by decide +kernel, by decide +kernel⟩
theorem gf__law_named {G : Gm} {P : Program} {w : World} {base : Heap} {f : Addr} {fd : FuncData} (T : Bl G) (TB : TabOk G tabL) {fi : Nat → Addr} {fdd : Nat → FuncData} (CL : Cl G P fi fdd) (D__law_named : Df G "_law_named" s__law_named ["at", "one"] f fd) : GFn G P w base 2 f fd ["at", "one"] m__law_named :=
  (GFn.of_body (k := 1) D__law_named.fg sc__law_named fun cdv A outer s H E ok => (ss_cons (ss_if (ct_eq ok (se_var (i := 0)) se_int) (ss_one (ss_raiseK ok (by first | decide | omega) CL.x_BadNumber CL.bx_BadNumber_0_part (sk_cons (se_var (i := 1)) sk_nil))) ss_nil) (ss_cons (ss_if (ct_eq ok (se_var (i := 0)) se_int) (ss_one (ss_raiseK ok (by first | decide | omega) CL.x_BadSpot CL.bx_BadSpot_0_part (sk_cons (se_var (i := 1)) sk_nil))) ss_nil) (ss_cons (ss_if (ct_eq ok (se_var (i := 0)) se_int) (ss_one (ss_raiseK ok (by first | decide | omega) CL.x_BadPiece CL.bx_BadPiece_0_part (sk_cons (se_var (i := 1)) sk_nil))) ss_nil) (ss_cons (ss_if (ct_eq ok (se_var (i := 0)) se_int) (ss_one (ss_raiseK ok (by first | decide | omega) CL.x_BadFront CL.bx_BadFront_0_part (sk_cons (se_var (i := 1)) sk_nil))) ss_nil) (ss_cons (ss_if (ct_eq ok (se_var (i := 0)) se_int) (ss_one (ss_raiseK ok (by first | decide | omega) CL.x_BadWorld CL.bx_BadWorld_0_part (sk_cons (se_var (i := 1)) sk_nil))) ss_nil) (ss_cons (ss_if (ct_eq ok (se_var (i := 0)) se_int) (ss_one (ss_raiseK ok (by first | decide | omega) CL.x_BadLevel CL.bx_BadLevel_0_part (sk_cons (se_var (i := 1)) sk_nil))) ss_nil) (ss_cons (ss_if (ct_eq ok (se_var (i := 0)) se_int) (ss_one (ss_raiseK ok (by first | decide | omega) CL.x_BadPlay CL.bx_BadPlay_0_part (sk_cons (se_var (i := 1)) sk_nil))) ss_nil) (ss_cons (ss_if (ct_eq ok (se_var (i := 0)) se_int) (ss_one (ss_raiseK ok (by first | decide | omega) CL.x_BadPaper CL.bx_BadPaper_0_part (sk_cons (se_var (i := 1)) sk_nil))) ss_nil) (ss_cons (ss_if (ct_eq ok (se_var (i := 0)) se_int) (ss_one (ss_raiseK ok (by first | decide | omega) CL.x_Misfit CL.bx_Misfit_0_part (sk_cons (se_var (i := 1)) sk_nil))) ss_nil) (ss_cons (ss_if (ct_eq ok (se_var (i := 0)) se_int) (ss_one (ss_raiseK ok (by first | decide | omega) CL.x_NoName CL.bx_NoName_0_value (sk_cons (se_var (i := 1)) sk_nil))) ss_nil) (ss_cons (ss_if (ct_eq ok (se_var (i := 0)) se_int) (ss_one (ss_raiseK ok (by first | decide | omega) CL.x_NoPiece CL.bx_NoPiece_0_value (sk_cons (se_var (i := 1)) sk_nil))) ss_nil) (ss_cons (ss_if (ct_eq ok (se_var (i := 0)) se_int) (ss_one (ss_raiseK ok (by first | decide | omega) CL.x_Twice CL.bx_Twice_0_value (sk_cons (se_var (i := 1)) sk_nil))) ss_nil) (ss_one (ss_raiseK ok (by first | decide | omega) CL.x_Refused CL.bx_Refused_0_why (sk_cons (se_var (i := 1)) sk_nil)))))))))))))))).cut
abbrev s__law_last : Stmt := topS 26
theorem sc__law_last : FnScope ["at", "one", "other", "by_name"] ["at", "one", "other", "by_name"] (defScope s__law_last) := ⟨rfl, rfl, rfl, by decide +kernel, rfl, by decide +kernel, by decide +kernel⟩
theorem gf__law_last {G : Gm} {P : Program} {w : World} {base : Heap} {f : Addr} {fd : FuncData} (T : Bl G) (TB : TabOk G tabL) {fi : Nat → Addr} {fdd : Nat → FuncData} (CL : Cl G P fi fdd) (D__law_last : Df G "_law_last" s__law_last ["at", "one", "other", "by_name"] f fd) : GFn G P w base 2 f fd ["at", "one", "other", "by_name"] m__law_last :=
  (GFn.of_body (k := 1) D__law_last.fg sc__law_last fun cdv A outer s H E ok => (ss_cons (ss_if (SW.pt (sw_and (ct_eq ok (se_var (i := 0)) se_int) (sw_and1 (st_truth ok.K (se_var (i := 3)))))) (ss_one (ss_raiseK ok (by first | decide | omega) CL.x_TooMany CL.bx_TooMany_0_most_what (sk_cons (se_var (i := 2)) (sk_cons (se_var (i := 1)) sk_nil)))) ss_nil) (ss_cons (ss_if (ct_eq ok (se_var (i := 0)) se_int) (ss_one (ss_raiseP ok (by first | decide | omega) CL.x_TooMany CL.bx_TooMany_2_ (sa_cons (se_var (i := 1)) (sa_cons (se_var (i := 2)) sa_nil)))) ss_nil) (ss_cons (ss_if (SW.pt (sw_and (ct_eq ok (se_var (i := 0)) se_int) (sw_and1 (st_truth ok.K (se_var (i := 3)))))) (ss_one (ss_raiseK ok (by first | decide | omega) CL.x_BadText CL.bx_BadText_0_item_line (sk_cons (se_var (i := 2)) (sk_cons (se_var (i := 1)) sk_nil)))) ss_nil) (ss_cons (ss_if (ct_eq ok (se_var (i := 0)) se_int) (ss_one (ss_raiseP ok (by first | decide | omega) CL.x_BadText CL.bx_BadText_2_ (sa_cons (se_var (i := 1)) (sa_cons (se_var (i := 2)) sa_nil)))) ss_nil) (ss_cons (ss_if (SW.pt (sw_and (ct_eq ok (se_var (i := 0)) se_int) (sw_and1 (st_truth ok.K (se_var (i := 3)))))) (ss_one (ss_raiseK ok (by first | decide | omega) CL.x_BadLine CL.bx_BadLine_0_error_line (sk_cons (se_var (i := 2)) (sk_cons (se_var (i := 1)) sk_nil)))) ss_nil) (ss_cons (ss_if (ct_eq ok (se_var (i := 0)) se_int) (ss_one (ss_raiseP ok (by first | decide | omega) CL.x_BadLine CL.bx_BadLine_2_ (sa_cons (se_var (i := 1)) (sa_cons (se_var (i := 2)) sa_nil)))) ss_nil) (ss_one (ss_raise0 ok (by first | decide | omega) CL.x_Nothing CL.bx_Nothing_0_))))))))).cut
abbrev s__law_kinds : Stmt := topS 27
theorem sc__law_kinds : FnScope ["error", "first", "at", "is_kind"] ["error"] (defScope s__law_kinds) := ⟨rfl, rfl, rfl, by decide +kernel, rfl, by decide +kernel, by decide +kernel⟩
theorem gf__law_kinds {G : Gm} {P : Program} {w : World} {base : Heap} {f : Addr} {fd : FuncData} (T : Bl G) (TB : TabOk G tabL) {fi : Nat → Addr} {fdd : Nat → FuncData} (CL : Cl G P fi fdd) (D__law_kinds : Df G "_law_kinds" s__law_kinds ["error"] f fd) : GFn G P w base 1 f fd ["error"] m__law_kinds :=
  (GFn.of_body (k := 0) D__law_kinds.fg sc__law_kinds fun cdv A outer s H E ok => (ss_cons (ss_set (i := 1) ok.nd (se_lst (sa_cons (cx_isi ok TB T.b_isinstance (sa_cons (se_var (i := 0)) (sa_cons (cx_cls ok CL.mg_BadNumber) sa_nil))) (sa_cons (cx_isi ok TB T.b_isinstance (sa_cons (se_var (i := 0)) (sa_cons (cx_cls ok CL.mg_BadSpot) sa_nil))) (sa_cons (cx_isi ok TB T.b_isinstance (sa_cons (se_var (i := 0)) (sa_cons (cx_cls ok CL.mg_BadPiece) sa_nil))) (sa_cons (cx_isi ok TB T.b_isinstance (sa_cons (se_var (i := 0)) (sa_cons (cx_cls ok CL.mg_BadFront) sa_nil))) sa_nil)))))) (ss_cons (ss_set (i := 1) ok.nd (cx_add ok (se_var (i := 1)) (se_lst (sa_cons (cx_isi ok TB T.b_isinstance (sa_cons (se_var (i := 0)) (sa_cons (cx_cls ok CL.mg_BadWorld) sa_nil))) (sa_cons (cx_isi ok TB T.b_isinstance (sa_cons (se_var (i := 0)) (sa_cons (cx_cls ok CL.mg_BadLevel) sa_nil))) (sa_cons (cx_isi ok TB T.b_isinstance (sa_cons (se_var (i := 0)) (sa_cons (cx_cls ok CL.mg_BadPlay) sa_nil))) (sa_cons (cx_isi ok TB T.b_isinstance (sa_cons (se_var (i := 0)) (sa_cons (cx_cls ok CL.mg_BadPaper) sa_nil))) sa_nil))))))) (ss_cons (ss_set (i := 1) ok.nd (cx_add ok (se_var (i := 1)) (se_lst (sa_cons (cx_isi ok TB T.b_isinstance (sa_cons (se_var (i := 0)) (sa_cons (cx_cls ok CL.mg_Misfit) sa_nil))) (sa_cons (cx_isi ok TB T.b_isinstance (sa_cons (se_var (i := 0)) (sa_cons (cx_cls ok CL.mg_NoName) sa_nil))) (sa_cons (cx_isi ok TB T.b_isinstance (sa_cons (se_var (i := 0)) (sa_cons (cx_cls ok CL.mg_NoPiece) sa_nil))) (sa_cons (cx_isi ok TB T.b_isinstance (sa_cons (se_var (i := 0)) (sa_cons (cx_cls ok CL.mg_Twice) sa_nil))) sa_nil))))))) (ss_cons (ss_set (i := 1) ok.nd (cx_add ok (se_var (i := 1)) (se_lst (sa_cons (cx_isi ok TB T.b_isinstance (sa_cons (se_var (i := 0)) (sa_cons (cx_cls ok CL.mg_Refused) sa_nil))) (sa_cons (cx_isi ok TB T.b_isinstance (sa_cons (se_var (i := 0)) (sa_cons (cx_cls ok CL.mg_TooMany) sa_nil))) (sa_cons (cx_isi ok TB T.b_isinstance (sa_cons (se_var (i := 0)) (sa_cons (cx_cls ok CL.mg_BadText) sa_nil))) (sa_cons (cx_isi ok TB T.b_isinstance (sa_cons (se_var (i := 0)) (sa_cons (cx_cls ok CL.mg_BadLine) sa_nil))) (sa_cons (cx_isi ok TB T.b_isinstance (sa_cons (se_var (i := 0)) (sa_cons (cx_cls ok CL.mg_Nothing) sa_nil))) sa_nil)))))))) (ss_one (ss_ret (se_cut (se_frz (se_lc (own := [("at", 2), ("is_kind", 3)]) ok (si_enum ok T.b_enumerate (sa_cons (se_var (i := 1)) sa_nil)) (fun _ _ _ _ _ => (so_many (ok.blk _ _ _ _ _).K (ok.blk _ _ _ _ _).calm (sos_cons (so_name (i := 2) (ok.blk _ _ _ _ _).nd) (sos_cons (so_name (i := 3) (ok.blk _ _ _ _ _).nd) sos_nil)))) (fun _ _ _ _ _ okB => (sq_one (st_truth okB.K (se_var (i := 3))))) (fun _ _ _ _ _ okB => (se_var (i := 2))) (bk := blkOk_by (N := ["error", "first", "at", "is_kind"]) (sc := defScope s__law_kinds) (own := [("at", 2), ("is_kind", 3)]) (by decide +kernel)))))))))))).cut
abbrev s__law_fields : Stmt := topS 28
theorem sc__law_fields : FnScope ["at", "error"] ["at", "error"] (defScope s__law_fields) := ⟨rfl, rfl, rfl, by decide +kernel, rfl, by decide +kernel, by decide +kernel⟩
theorem gf__law_fields {G : Gm} {P : Program} {w : World} {base : Heap} {f : Addr} {fd : FuncData} (T : Bl G) (TB : TabOk G tabL) {fi : Nat → Addr} {fdd : Nat → FuncData} (CL : Cl G P fi fdd) (D__law_fields : Df G "_law_fields" s__law_fields ["at", "error"] f fd) : GFn G P w base 1 f fd ["at", "error"] m__law_fields :=
  (GFn.of_body (k := 0) D__law_fields.fg sc__law_fields fun cdv A outer s H E ok => (ss_cons (ss_if (ct_lt ok (se_var (i := 0)) se_int) (ss_one (ss_ret (se_lst (sa_cons (cx_xattr ok CL.xa_part (se_var (i := 1))) sa_nil)))) ss_nil) (ss_cons (ss_if (ct_lt ok (se_var (i := 0)) se_int) (ss_one (ss_ret (se_lst (sa_cons (cx_xattr ok CL.xa_value (se_var (i := 1))) sa_nil)))) ss_nil) (ss_cons (ss_if (ct_eq ok (se_var (i := 0)) se_int) (ss_one (ss_ret (se_lst (sa_cons (cx_xattr ok CL.xa_why (se_var (i := 1))) sa_nil)))) ss_nil) (ss_cons (ss_if (ct_eq ok (se_var (i := 0)) se_int) (ss_one (ss_ret (se_lst (sa_cons (cx_xattr ok CL.xa_what (se_var (i := 1))) (sa_cons (cx_xattr ok CL.xa_most (se_var (i := 1))) sa_nil))))) ss_nil) (ss_cons (ss_if (ct_eq ok (se_var (i := 0)) se_int) (ss_one (ss_ret (se_lst (sa_cons (cx_xattr ok CL.xa_line (se_var (i := 1))) (sa_cons (cx_xattr ok CL.xa_item (se_var (i := 1))) sa_nil))))) ss_nil) (ss_one (ss_ret (se_ifExp (ct_eq ok (se_var (i := 0)) se_int) (se_lst (sa_cons (cx_xattr ok CL.xa_line (se_var (i := 1))) (sa_cons (cx_xattr ok CL.xa_error (se_var (i := 1))) sa_nil))) (se_lst sa_nil)))))))))).cut
abbrev s__law_raises : Stmt := topS 29
theorem sc__law_raises : FnScope ["at", "one", "other", "by_name"] ["at", "one", "other", "by_name"] (defScope s__law_raises) := ⟨rfl, rfl, rfl, by decide +kernel, rfl, by decide +kernel, by decide +kernel⟩
theorem gf__law_raises {G : Gm} {P : Program} {w : World} {base : Heap} {f : Addr} {fd : FuncData} (T : Bl G) (TB : TabOk G tabL) {fi : Nat → Addr} {fdd : Nat → FuncData} (CL : Cl G P fi fdd) (D__law_raises : Df G "_law_raises" s__law_raises ["at", "one", "other", "by_name"] f fd) {f__law_last : Addr} {fd__law_last : FuncData} (D__law_last : Df G "_law_last" s__law_last ["at", "one", "other", "by_name"] f__law_last fd__law_last) (G__law_last : GFn G P w base 2 f__law_last fd__law_last ["at", "one", "other", "by_name"] m__law_last) {f__law_named : Addr} {fd__law_named : FuncData} (D__law_named : Df G "_law_named" s__law_named ["at", "one"] f__law_named fd__law_named) (G__law_named : GFn G P w base 2 f__law_named fd__law_named ["at", "one"] m__law_named) {f__law_first : Addr} {fd__law_first : FuncData} (D__law_first : Df G "_law_first" s__law_first ["at", "one"] f__law_first fd__law_first) (G__law_first : GFn G P w base 2 f__law_first fd__law_first ["at", "one"] m__law_first) : GFn G P w base 3 f fd ["at", "one", "other", "by_name"] m__law_raises :=
  (GFn.of_body (k := 2) D__law_raises.fg sc__law_raises fun cdv A outer s H E ok => (ss_cons (ss_if (ct_gt ok (se_var (i := 0)) se_int) (ss_one (ss_expr (cx_call ok D__law_last G__law_last runL (sa_cons (se_var (i := 0)) (sa_cons (se_var (i := 1)) (sa_cons (se_var (i := 2)) (sa_cons (se_var (i := 3)) sa_nil))))))) ss_nil) (ss_cons (ss_if (st_truth ok.K (se_var (i := 3))) (ss_one (ss_expr (cx_call ok D__law_named G__law_named runL (sa_cons (se_var (i := 0)) (sa_cons (se_var (i := 1)) sa_nil))))) ss_nil) (ss_one (ss_expr (cx_call ok D__law_first G__law_first runL (sa_cons (se_var (i := 0)) (sa_cons (se_var (i := 1)) sa_nil)))))))).cut
abbrev s__law_right : Stmt := topS 30
theorem sc__law_right : FnScope ["at", "one", "other", "by_name", "caught", "error", "due"] ["at", "one", "other", "by_name"] (defScope s__law_right) := ⟨rfl, rfl, rfl, by decide +kernel, rfl, by decide +kernel, by decide +kernel⟩
theorem gf__law_right {G : Gm} {P : Program} {w : World} {base : Heap} {f : Addr} {fd : FuncData} (T : Bl G) (TB : TabOk G tabL) {fi : Nat → Addr} {fdd : Nat → FuncData} (CL : Cl G P fi fdd) (D__law_right : Df G "_law_right" s__law_right ["at", "one", "other", "by_name"] f fd) {f__law_raises : Addr} {fd__law_raises : FuncData} (D__law_raises : Df G "_law_raises" s__law_raises ["at", "one", "other", "by_name"] f__law_raises fd__law_raises) (G__law_raises : GFn G P w base 3 f__law_raises fd__law_raises ["at", "one", "other", "by_name"] m__law_raises) {f__law_kinds : Addr} {fd__law_kinds : FuncData} (D__law_kinds : Df G "_law_kinds" s__law_kinds ["error"] f__law_kinds fd__law_kinds) (G__law_kinds : GFn G P w base 1 f__law_kinds fd__law_kinds ["error"] m__law_kinds) {f__law_fields : Addr} {fd__law_fields : FuncData} (D__law_fields : Df G "_law_fields" s__law_fields ["at", "error"] f__law_fields fd__law_fields) (G__law_fields : GFn G P w base 1 f__law_fields fd__law_fields ["at", "error"] m__law_fields) : GFn G P w base 4 f fd ["at", "one", "other", "by_name"] m__law_right :=
  (GFn.of_body (k := 3) D__law_right.fg sc__law_right fun cdv A outer s H E ok => (ss_cons (ss_set (i := 4) ok.nd se_non) (ss_cons (ss_try_keep (i := 5) (j := 4) ok (nms ok CL.mg_LaneError) CL.ex_LaneError (fun _ _ _ ok => (ss_one (ss_expr (cx_call ok D__law_raises G__law_raises runL (sa_cons (se_var (i := 0)) (sa_cons (se_var (i := 1)) (sa_cons (se_var (i := 2)) (sa_cons (se_var (i := 3)) sa_nil))))))))) (ss_cons (ss_if (SW.pt (sw_or (ct_is ok (se_var (i := 4)) se_non) (sw_or (st_not (st_truth ok.K (cx_isi ok TB T.b_isinstance (sa_cons (se_var (i := 4)) (sa_cons (cx_ty ok T.b_ValueError) sa_nil))))) (sw_or1 (ct_ne ok (cx_call ok D__law_kinds G__law_kinds runL (sa_cons (se_var (i := 4)) sa_nil)) (se_lst (sa_cons (se_var (i := 0)) sa_nil))))))) (ss_one (ss_ret se_bl)) ss_nil) (ss_cons (ss_if (st_truth ok.K (cx_isi ok TB T.b_isinstance (sa_cons (se_var (i := 4)) (sa_cons (se_tup (sa_cons (cx_ty ok T.b_LookupError) (sa_cons (cx_ty ok T.b_TypeError) (sa_cons (cx_ty ok T.b_ArithmeticError) sa_nil)))) sa_nil)))) (ss_one (ss_ret se_bl)) ss_nil) (ss_cons (ss_set (i := 6) ok.nd (se_ifExp (ct_eq ok (se_var (i := 0)) se_int) (se_lst sa_nil) (se_ifExp (ct_gt ok (se_var (i := 0)) se_int) (se_lst (sa_cons (se_var (i := 1)) (sa_cons (se_var (i := 2)) sa_nil))) (se_lst (sa_cons (se_var (i := 1)) sa_nil))))) (ss_one (ss_ret (cx_eq ok (cx_reprZ ok T.b_repr (sa_cons (cx_call ok D__law_fields G__law_fields runL (sa_cons (se_var (i := 0)) (sa_cons (se_var (i := 4)) sa_nil))) sa_nil)) (cx_reprZ ok T.b_repr (sa_cons (se_var (i := 6)) sa_nil))))))))))).cut
abbrev s_law : Stmt := topS 31
theorem sc_law : FnScope ["script", "nut", "at", "one", "other"] ["script"] (defScope s_law) := ⟨rfl, rfl, rfl, by decide +kernel, rfl, by decide +kernel, by decide +kernel⟩
theorem gf_law {G : Gm} {P : Program} {w : World} {base : Heap} {f : Addr} {fd : FuncData} (T : Bl G) (TB : TabOk G tabL) {fi : Nat → Addr} {fdd : Nat → FuncData} (CL : Cl G P fi fdd) (D_law : Df G "law" s_law ["script"] f fd) {f__law_nut : Addr} {fd__law_nut : FuncData} (D__law_nut : Df G "_law_nut" s__law_nut ["script"] f__law_nut fd__law_nut) (G__law_nut : GFn G P w base 1 f__law_nut fd__law_nut ["script"] m__law_nut) {f__law_value : Addr} {fd__law_value : FuncData} (D__law_value : Df G "_law_value" s__law_value ["nut"] f__law_value fd__law_value) (G__law_value : GFn G P w base 3 f__law_value fd__law_value ["nut"] m__law_value) {f__law_right : Addr} {fd__law_right : FuncData} (D__law_right : Df G "_law_right" s__law_right ["at", "one", "other", "by_name"] f__law_right fd__law_right) (G__law_right : GFn G P w base 4 f__law_right fd__law_right ["at", "one", "other", "by_name"] m__law_right) : GFn G P w base 5 f fd ["script"] m_law :=
  (GFn.of_body (k := 4) D_law.fg sc_law fun cdv A outer s H E ok => (ss_cons (ss_set (i := 1) ok.nd (cx_call ok D__law_nut G__law_nut runL (sa_cons (se_var (i := 0)) sa_nil))) (ss_cons (ss_for ok.po ok.calm (si_range1 ok.mg T.b_range (sa_cons se_int sa_nil)) (sg_name (i := 2) ok.nd) (ss_cons (ss_par (i := 3) (j := 4) ok.calm ok.nd (by decide) (sa_cons (cx_call ok D__law_value G__law_value runL (sa_cons (se_var (i := 1)) sa_nil)) (sa_cons (cx_call ok D__law_value G__law_value runL (sa_cons (se_var (i := 1)) sa_nil)) sa_nil))) (ss_one (ss_if (SW.pt (sw_or (st_not (st_truth ok.K (cx_call ok D__law_right G__law_right runL (sa_cons (se_var (i := 2)) (sa_cons (se_var (i := 3)) (sa_cons (se_var (i := 4)) (sa_cons se_bl sa_nil))))))) (sw_or1 (st_not (st_truth ok.K (cx_call ok D__law_right G__law_right runL (sa_cons (se_var (i := 2)) (sa_cons (se_var (i := 3)) (sa_cons (se_var (i := 4)) (sa_cons se_bl sa_nil)))))))))) (ss_one (ss_ret se_bl)) ss_nil)))) (ss_one (ss_ret se_bl))))).cut
end Z

set_option Elab.async false
set_option maxRecDepth 100000
set_option maxHeartbeats 4000000
namespace Z
open PySem PySem.Spec L2
theorem all_mk {l : PySem.W.OpenLaw} {w : World} {K : PySem.W.Frag} {h : Heap} {mg : Str → Option Value} {fa : Addr} (X : K.In h) (N : h.Ns mainGlobals mg) (hfa : mg "law" = some (.ref fa))
    {f__law_nut f__law_crack f__law_pick f__law_value f__law_first f__law_named f__law_last f__law_kinds f__law_fields f__law_raises f__law_right f_law : Addr} {od__law_nut an__law_nut od__law_crack an__law_crack od__law_pick an__law_pick od__law_value an__law_value od__law_first an__law_first od__law_named an__law_named od__law_last an__law_last od__law_kinds an__law_kinds od__law_fields an__law_fields od__law_raises an__law_raises od__law_right an__law_right od_law an_law : Option Addr} {sl__law_nut sl__law_crack sl__law_pick sl__law_value sl__law_first sl__law_named sl__law_last sl__law_kinds sl__law_fields sl__law_raises sl__law_right sl_law : Array (Option Value)} {oc__law_nut kV__law_nut dc__law_nut pm__law_nut cd__law_nut ct__law_nut oc__law_crack kV__law_crack dc__law_crack pm__law_crack cd__law_crack ct__law_crack oc__law_pick kV__law_pick dc__law_pick pm__law_pick cd__law_pick ct__law_pick oc__law_value kV__law_value dc__law_value pm__law_value cd__law_value ct__law_value oc__law_first kV__law_first dc__law_first pm__law_first cd__law_first ct__law_first oc__law_named kV__law_named dc__law_named pm__law_named cd__law_named ct__law_named oc__law_last kV__law_last dc__law_last pm__law_last cd__law_last ct__law_last oc__law_kinds kV__law_kinds dc__law_kinds pm__law_kinds cd__law_kinds ct__law_kinds oc__law_fields kV__law_fields dc__law_fields pm__law_fields cd__law_fields ct__law_fields oc__law_raises kV__law_raises dc__law_raises pm__law_raises cd__law_raises ct__law_raises oc__law_right kV__law_right dc__law_right pm__law_right cd__law_right ct__law_right oc_law kV_law dc_law pm_law cd_law ct_law : Value}
    (a__law_nut : PySem.W.nsIn K mainGlobals "_law_nut" = some (some (.ref f__law_nut))) (l__law_nut : K.lookup f__law_nut = some ⟨oc__law_nut, od__law_nut, .func (PySem.W.fnOf "_law_nut" "_law_nut" (defArgs s__law_nut) (defBody s__law_nut) (defScope s__law_nut) .none kV__law_nut dc__law_nut pm__law_nut an__law_nut cd__law_nut ct__law_nut), sl__law_nut⟩) (c__law_nut : PySem.W.codeIn K cd__law_nut "_law_nut" = true) (k__law_nut : PySem.W.keepIn K (.ref f__law_nut) = true)
    (a__law_crack : PySem.W.nsIn K mainGlobals "_law_crack" = some (some (.ref f__law_crack))) (l__law_crack : K.lookup f__law_crack = some ⟨oc__law_crack, od__law_crack, .func (PySem.W.fnOf "_law_crack" "_law_crack" (defArgs s__law_crack) (defBody s__law_crack) (defScope s__law_crack) .none kV__law_crack dc__law_crack pm__law_crack an__law_crack cd__law_crack ct__law_crack), sl__law_crack⟩) (c__law_crack : PySem.W.codeIn K cd__law_crack "_law_crack" = true) (k__law_crack : PySem.W.keepIn K (.ref f__law_crack) = true)
    (a__law_pick : PySem.W.nsIn K mainGlobals "_law_pick" = some (some (.ref f__law_pick))) (l__law_pick : K.lookup f__law_pick = some ⟨oc__law_pick, od__law_pick, .func (PySem.W.fnOf "_law_pick" "_law_pick" (defArgs s__law_pick) (defBody s__law_pick) (defScope s__law_pick) .none kV__law_pick dc__law_pick pm__law_pick an__law_pick cd__law_pick ct__law_pick), sl__law_pick⟩) (c__law_pick : PySem.W.codeIn K cd__law_pick "_law_pick" = true) (k__law_pick : PySem.W.keepIn K (.ref f__law_pick) = true)
    (a__law_value : PySem.W.nsIn K mainGlobals "_law_value" = some (some (.ref f__law_value))) (l__law_value : K.lookup f__law_value = some ⟨oc__law_value, od__law_value, .func (PySem.W.fnOf "_law_value" "_law_value" (defArgs s__law_value) (defBody s__law_value) (defScope s__law_value) .none kV__law_value dc__law_value pm__law_value an__law_value cd__law_value ct__law_value), sl__law_value⟩) (c__law_value : PySem.W.codeIn K cd__law_value "_law_value" = true) (k__law_value : PySem.W.keepIn K (.ref f__law_value) = true)
    (a__law_first : PySem.W.nsIn K mainGlobals "_law_first" = some (some (.ref f__law_first))) (l__law_first : K.lookup f__law_first = some ⟨oc__law_first, od__law_first, .func (PySem.W.fnOf "_law_first" "_law_first" (defArgs s__law_first) (defBody s__law_first) (defScope s__law_first) .none kV__law_first dc__law_first pm__law_first an__law_first cd__law_first ct__law_first), sl__law_first⟩) (c__law_first : PySem.W.codeIn K cd__law_first "_law_first" = true) (k__law_first : PySem.W.keepIn K (.ref f__law_first) = true)
    (a__law_named : PySem.W.nsIn K mainGlobals "_law_named" = some (some (.ref f__law_named))) (l__law_named : K.lookup f__law_named = some ⟨oc__law_named, od__law_named, .func (PySem.W.fnOf "_law_named" "_law_named" (defArgs s__law_named) (defBody s__law_named) (defScope s__law_named) .none kV__law_named dc__law_named pm__law_named an__law_named cd__law_named ct__law_named), sl__law_named⟩) (c__law_named : PySem.W.codeIn K cd__law_named "_law_named" = true) (k__law_named : PySem.W.keepIn K (.ref f__law_named) = true)
    (a__law_last : PySem.W.nsIn K mainGlobals "_law_last" = some (some (.ref f__law_last))) (l__law_last : K.lookup f__law_last = some ⟨oc__law_last, od__law_last, .func (PySem.W.fnOf "_law_last" "_law_last" (defArgs s__law_last) (defBody s__law_last) (defScope s__law_last) .none kV__law_last dc__law_last pm__law_last an__law_last cd__law_last ct__law_last), sl__law_last⟩) (c__law_last : PySem.W.codeIn K cd__law_last "_law_last" = true) (k__law_last : PySem.W.keepIn K (.ref f__law_last) = true)
    (a__law_kinds : PySem.W.nsIn K mainGlobals "_law_kinds" = some (some (.ref f__law_kinds))) (l__law_kinds : K.lookup f__law_kinds = some ⟨oc__law_kinds, od__law_kinds, .func (PySem.W.fnOf "_law_kinds" "_law_kinds" (defArgs s__law_kinds) (defBody s__law_kinds) (defScope s__law_kinds) .none kV__law_kinds dc__law_kinds pm__law_kinds an__law_kinds cd__law_kinds ct__law_kinds), sl__law_kinds⟩) (c__law_kinds : PySem.W.codeIn K cd__law_kinds "_law_kinds" = true) (k__law_kinds : PySem.W.keepIn K (.ref f__law_kinds) = true)
    (a__law_fields : PySem.W.nsIn K mainGlobals "_law_fields" = some (some (.ref f__law_fields))) (l__law_fields : K.lookup f__law_fields = some ⟨oc__law_fields, od__law_fields, .func (PySem.W.fnOf "_law_fields" "_law_fields" (defArgs s__law_fields) (defBody s__law_fields) (defScope s__law_fields) .none kV__law_fields dc__law_fields pm__law_fields an__law_fields cd__law_fields ct__law_fields), sl__law_fields⟩) (c__law_fields : PySem.W.codeIn K cd__law_fields "_law_fields" = true) (k__law_fields : PySem.W.keepIn K (.ref f__law_fields) = true)
    (a__law_raises : PySem.W.nsIn K mainGlobals "_law_raises" = some (some (.ref f__law_raises))) (l__law_raises : K.lookup f__law_raises = some ⟨oc__law_raises, od__law_raises, .func (PySem.W.fnOf "_law_raises" "_law_raises" (defArgs s__law_raises) (defBody s__law_raises) (defScope s__law_raises) .none kV__law_raises dc__law_raises pm__law_raises an__law_raises cd__law_raises ct__law_raises), sl__law_raises⟩) (c__law_raises : PySem.W.codeIn K cd__law_raises "_law_raises" = true) (k__law_raises : PySem.W.keepIn K (.ref f__law_raises) = true)
    (a__law_right : PySem.W.nsIn K mainGlobals "_law_right" = some (some (.ref f__law_right))) (l__law_right : K.lookup f__law_right = some ⟨oc__law_right, od__law_right, .func (PySem.W.fnOf "_law_right" "_law_right" (defArgs s__law_right) (defBody s__law_right) (defScope s__law_right) .none kV__law_right dc__law_right pm__law_right an__law_right cd__law_right ct__law_right), sl__law_right⟩) (c__law_right : PySem.W.codeIn K cd__law_right "_law_right" = true) (k__law_right : PySem.W.keepIn K (.ref f__law_right) = true)
    (a_law : PySem.W.nsIn K mainGlobals "law" = some (some (.ref f_law))) (l_law : K.lookup f_law = some ⟨oc_law, od_law, .func (PySem.W.fnOf "law" "law" (defArgs s_law) (defBody s_law) (defScope s_law) .none kV_law dc_law pm_law an_law cd_law ct_law), sl_law⟩) (c_law : PySem.W.codeIn K cd_law "law" = true) (k_law : PySem.W.keepIn K (.ref f_law) = true)
    (z_ArithmeticError : PySem.W.nsIn K mainGlobals "ArithmeticError" = some none)
    (z_LookupError : PySem.W.nsIn K mainGlobals "LookupError" = some none)
    (z_TypeError : PySem.W.nsIn K mainGlobals "TypeError" = some none)
    (z_ValueError : PySem.W.nsIn K mainGlobals "ValueError" = some none)
    (z_abs : PySem.W.nsIn K mainGlobals "abs" = some none)
    (z_enumerate : PySem.W.nsIn K mainGlobals "enumerate" = some none)
    (z_int : PySem.W.nsIn K mainGlobals "int" = some none)
    (z_isinstance : PySem.W.nsIn K mainGlobals "isinstance" = some none)
    (z_len : PySem.W.nsIn K mainGlobals "len" = some none)
    (z_range : PySem.W.nsIn K mainGlobals "range" = some none)
    (z_repr : PySem.W.nsIn K mainGlobals "repr" = some none)
    {C_LaneError C_BadNumber C_BadSpot C_BadPiece C_BadFront C_BadWorld C_BadLevel C_BadPlay C_BadPaper C_Misfit C_NoName C_NoPiece C_Twice C_TooMany C_Refused C_Nothing C_BadText C_BadLine : Addr}
    (aC_LaneError : PySem.W.nsIn K mainGlobals "LaneError" = some (some (.ref C_LaneError)))
    (aC_BadNumber : PySem.W.nsIn K mainGlobals "BadNumber" = some (some (.ref C_BadNumber)))
    (aC_BadSpot : PySem.W.nsIn K mainGlobals "BadSpot" = some (some (.ref C_BadSpot)))
    (aC_BadPiece : PySem.W.nsIn K mainGlobals "BadPiece" = some (some (.ref C_BadPiece)))
    (aC_BadFront : PySem.W.nsIn K mainGlobals "BadFront" = some (some (.ref C_BadFront)))
    (aC_BadWorld : PySem.W.nsIn K mainGlobals "BadWorld" = some (some (.ref C_BadWorld)))
    (aC_BadLevel : PySem.W.nsIn K mainGlobals "BadLevel" = some (some (.ref C_BadLevel)))
    (aC_BadPlay : PySem.W.nsIn K mainGlobals "BadPlay" = some (some (.ref C_BadPlay)))
    (aC_BadPaper : PySem.W.nsIn K mainGlobals "BadPaper" = some (some (.ref C_BadPaper)))
    (aC_Misfit : PySem.W.nsIn K mainGlobals "Misfit" = some (some (.ref C_Misfit)))
    (aC_NoName : PySem.W.nsIn K mainGlobals "NoName" = some (some (.ref C_NoName)))
    (aC_NoPiece : PySem.W.nsIn K mainGlobals "NoPiece" = some (some (.ref C_NoPiece)))
    (aC_Twice : PySem.W.nsIn K mainGlobals "Twice" = some (some (.ref C_Twice)))
    (aC_TooMany : PySem.W.nsIn K mainGlobals "TooMany" = some (some (.ref C_TooMany)))
    (aC_Refused : PySem.W.nsIn K mainGlobals "Refused" = some (some (.ref C_Refused)))
    (aC_Nothing : PySem.W.nsIn K mainGlobals "Nothing" = some (some (.ref C_Nothing)))
    (aC_BadText : PySem.W.nsIn K mainGlobals "BadText" = some (some (.ref C_BadText)))
    (aC_BadLine : PySem.W.nsIn K mainGlobals "BadLine" = some (some (.ref C_BadLine)))
    {fi_BadNumber cda_BadNumber cc_BadNumber N_BadNumber : Addr} {nm_BadNumber q_BadNumber file_BadNumber : Str} {bs_BadNumber bm_BadNumber sub_BadNumber : List Value} {sn_BadNumber : List Str} {ab_BadNumber : Bool} {col_BadNumber : Option Bool} {dd_BadNumber od_BadNumber an_BadNumber cdd_BadNumber cld_BadNumber : Option Addr} {k0_BadNumber k1_BadNumber k2_BadNumber k3_BadNumber k5_BadNumber : Option Value} {oc_BadNumber kV_BadNumber dc_BadNumber pm_BadNumber ct_BadNumber ccl_BadNumber cl_BadNumber : Value} {osl_BadNumber ccs_BadNumber csl_BadNumber : Array (Option Value)} {vs_BadNumber : Array Value} {tf_BadNumber : Tok}
    (lC_BadNumber : K.lookup C_BadNumber = some (excClassObj nm_BadNumber q_BadNumber C_BadNumber N_BadNumber bs_BadNumber bm_BadNumber true sn_BadNumber sub_BadNumber ab_BadNumber col_BadNumber dd_BadNumber k0_BadNumber k1_BadNumber k2_BadNumber k3_BadNumber k5_BadNumber "ValueError.__new__")) (rv_BadNumber : PySem.HandSPX.refsVE bm_BadNumber = true) (fi_is_BadNumber : PySem.W.findIn K (.ref C_BadNumber) "__init__" = some (some (.ref fi_BadNumber))) (xb_BadNumber : xcB K C_BadNumber fi_BadNumber ["part"] = true)
    (lI_BadNumber : K.lookup fi_BadNumber = some ⟨oc_BadNumber, od_BadNumber, .func (PySem.W.ksFn "__init__" "BadNumber.__init__" (defArgs s_BadNumber) (defBody s_BadNumber) (defScope s_BadNumber) .none kV_BadNumber dc_BadNumber pm_BadNumber an_BadNumber (.ref cda_BadNumber) ct_BadNumber cc_BadNumber), osl_BadNumber⟩) (cI_BadNumber : PySem.W.codeIn K (.ref cda_BadNumber) "BadNumber.__init__" = true)
    (lcd_BadNumber : K.lookup cda_BadNumber = some ⟨ccl_BadNumber, cdd_BadNumber, .fields vs_BadNumber, ccs_BadNumber⟩) (v2_BadNumber : vs_BadNumber[2]? = some (.str file_BadNumber tf_BadNumber)) (pf_BadNumber : ((l.prog.main.file : Str) == file_BadNumber) = true) (lcc_BadNumber : K.lookup cc_BadNumber = some ⟨cl_BadNumber, cld_BadNumber, .cell (some (.ref C_BadNumber)), csl_BadNumber⟩)
    {fi_BadSpot cda_BadSpot cc_BadSpot N_BadSpot : Addr} {nm_BadSpot q_BadSpot file_BadSpot : Str} {bs_BadSpot bm_BadSpot sub_BadSpot : List Value} {sn_BadSpot : List Str} {ab_BadSpot : Bool} {col_BadSpot : Option Bool} {dd_BadSpot od_BadSpot an_BadSpot cdd_BadSpot cld_BadSpot : Option Addr} {k0_BadSpot k1_BadSpot k2_BadSpot k3_BadSpot k5_BadSpot : Option Value} {oc_BadSpot kV_BadSpot dc_BadSpot pm_BadSpot ct_BadSpot ccl_BadSpot cl_BadSpot : Value} {osl_BadSpot ccs_BadSpot csl_BadSpot : Array (Option Value)} {vs_BadSpot : Array Value} {tf_BadSpot : Tok}
    (lC_BadSpot : K.lookup C_BadSpot = some (excClassObj nm_BadSpot q_BadSpot C_BadSpot N_BadSpot bs_BadSpot bm_BadSpot true sn_BadSpot sub_BadSpot ab_BadSpot col_BadSpot dd_BadSpot k0_BadSpot k1_BadSpot k2_BadSpot k3_BadSpot k5_BadSpot "ValueError.__new__")) (rv_BadSpot : PySem.HandSPX.refsVE bm_BadSpot = true) (fi_is_BadSpot : PySem.W.findIn K (.ref C_BadSpot) "__init__" = some (some (.ref fi_BadSpot))) (xb_BadSpot : xcB K C_BadSpot fi_BadSpot ["part"] = true)
    (lI_BadSpot : K.lookup fi_BadSpot = some ⟨oc_BadSpot, od_BadSpot, .func (PySem.W.ksFn "__init__" "BadSpot.__init__" (defArgs s_BadSpot) (defBody s_BadSpot) (defScope s_BadSpot) .none kV_BadSpot dc_BadSpot pm_BadSpot an_BadSpot (.ref cda_BadSpot) ct_BadSpot cc_BadSpot), osl_BadSpot⟩) (cI_BadSpot : PySem.W.codeIn K (.ref cda_BadSpot) "BadSpot.__init__" = true)
    (lcd_BadSpot : K.lookup cda_BadSpot = some ⟨ccl_BadSpot, cdd_BadSpot, .fields vs_BadSpot, ccs_BadSpot⟩) (v2_BadSpot : vs_BadSpot[2]? = some (.str file_BadSpot tf_BadSpot)) (pf_BadSpot : ((l.prog.main.file : Str) == file_BadSpot) = true) (lcc_BadSpot : K.lookup cc_BadSpot = some ⟨cl_BadSpot, cld_BadSpot, .cell (some (.ref C_BadSpot)), csl_BadSpot⟩)
    {fi_BadPiece cda_BadPiece cc_BadPiece N_BadPiece : Addr} {nm_BadPiece q_BadPiece file_BadPiece : Str} {bs_BadPiece bm_BadPiece sub_BadPiece : List Value} {sn_BadPiece : List Str} {ab_BadPiece : Bool} {col_BadPiece : Option Bool} {dd_BadPiece od_BadPiece an_BadPiece cdd_BadPiece cld_BadPiece : Option Addr} {k0_BadPiece k1_BadPiece k2_BadPiece k3_BadPiece k5_BadPiece : Option Value} {oc_BadPiece kV_BadPiece dc_BadPiece pm_BadPiece ct_BadPiece ccl_BadPiece cl_BadPiece : Value} {osl_BadPiece ccs_BadPiece csl_BadPiece : Array (Option Value)} {vs_BadPiece : Array Value} {tf_BadPiece : Tok}
    (lC_BadPiece : K.lookup C_BadPiece = some (excClassObj nm_BadPiece q_BadPiece C_BadPiece N_BadPiece bs_BadPiece bm_BadPiece true sn_BadPiece sub_BadPiece ab_BadPiece col_BadPiece dd_BadPiece k0_BadPiece k1_BadPiece k2_BadPiece k3_BadPiece k5_BadPiece "ValueError.__new__")) (rv_BadPiece : PySem.HandSPX.refsVE bm_BadPiece = true) (fi_is_BadPiece : PySem.W.findIn K (.ref C_BadPiece) "__init__" = some (some (.ref fi_BadPiece))) (xb_BadPiece : xcB K C_BadPiece fi_BadPiece ["part"] = true)
    (lI_BadPiece : K.lookup fi_BadPiece = some ⟨oc_BadPiece, od_BadPiece, .func (PySem.W.ksFn "__init__" "BadPiece.__init__" (defArgs s_BadPiece) (defBody s_BadPiece) (defScope s_BadPiece) .none kV_BadPiece dc_BadPiece pm_BadPiece an_BadPiece (.ref cda_BadPiece) ct_BadPiece cc_BadPiece), osl_BadPiece⟩) (cI_BadPiece : PySem.W.codeIn K (.ref cda_BadPiece) "BadPiece.__init__" = true)
    (lcd_BadPiece : K.lookup cda_BadPiece = some ⟨ccl_BadPiece, cdd_BadPiece, .fields vs_BadPiece, ccs_BadPiece⟩) (v2_BadPiece : vs_BadPiece[2]? = some (.str file_BadPiece tf_BadPiece)) (pf_BadPiece : ((l.prog.main.file : Str) == file_BadPiece) = true) (lcc_BadPiece : K.lookup cc_BadPiece = some ⟨cl_BadPiece, cld_BadPiece, .cell (some (.ref C_BadPiece)), csl_BadPiece⟩)
    {fi_BadFront cda_BadFront cc_BadFront N_BadFront : Addr} {nm_BadFront q_BadFront file_BadFront : Str} {bs_BadFront bm_BadFront sub_BadFront : List Value} {sn_BadFront : List Str} {ab_BadFront : Bool} {col_BadFront : Option Bool} {dd_BadFront od_BadFront an_BadFront cdd_BadFront cld_BadFront : Option Addr} {k0_BadFront k1_BadFront k2_BadFront k3_BadFront k5_BadFront : Option Value} {oc_BadFront kV_BadFront dc_BadFront pm_BadFront ct_BadFront ccl_BadFront cl_BadFront : Value} {osl_BadFront ccs_BadFront csl_BadFront : Array (Option Value)} {vs_BadFront : Array Value} {tf_BadFront : Tok}
    (lC_BadFront : K.lookup C_BadFront = some (excClassObj nm_BadFront q_BadFront C_BadFront N_BadFront bs_BadFront bm_BadFront true sn_BadFront sub_BadFront ab_BadFront col_BadFront dd_BadFront k0_BadFront k1_BadFront k2_BadFront k3_BadFront k5_BadFront "ValueError.__new__")) (rv_BadFront : PySem.HandSPX.refsVE bm_BadFront = true) (fi_is_BadFront : PySem.W.findIn K (.ref C_BadFront) "__init__" = some (some (.ref fi_BadFront))) (xb_BadFront : xcB K C_BadFront fi_BadFront ["part"] = true)
    (lI_BadFront : K.lookup fi_BadFront = some ⟨oc_BadFront, od_BadFront, .func (PySem.W.ksFn "__init__" "BadFront.__init__" (defArgs s_BadFront) (defBody s_BadFront) (defScope s_BadFront) .none kV_BadFront dc_BadFront pm_BadFront an_BadFront (.ref cda_BadFront) ct_BadFront cc_BadFront), osl_BadFront⟩) (cI_BadFront : PySem.W.codeIn K (.ref cda_BadFront) "BadFront.__init__" = true)
    (lcd_BadFront : K.lookup cda_BadFront = some ⟨ccl_BadFront, cdd_BadFront, .fields vs_BadFront, ccs_BadFront⟩) (v2_BadFront : vs_BadFront[2]? = some (.str file_BadFront tf_BadFront)) (pf_BadFront : ((l.prog.main.file : Str) == file_BadFront) = true) (lcc_BadFront : K.lookup cc_BadFront = some ⟨cl_BadFront, cld_BadFront, .cell (some (.ref C_BadFront)), csl_BadFront⟩)
    {fi_BadWorld cda_BadWorld cc_BadWorld N_BadWorld : Addr} {nm_BadWorld q_BadWorld file_BadWorld : Str} {bs_BadWorld bm_BadWorld sub_BadWorld : List Value} {sn_BadWorld : List Str} {ab_BadWorld : Bool} {col_BadWorld : Option Bool} {dd_BadWorld od_BadWorld an_BadWorld cdd_BadWorld cld_BadWorld : Option Addr} {k0_BadWorld k1_BadWorld k2_BadWorld k3_BadWorld k5_BadWorld : Option Value} {oc_BadWorld kV_BadWorld dc_BadWorld pm_BadWorld ct_BadWorld ccl_BadWorld cl_BadWorld : Value} {osl_BadWorld ccs_BadWorld csl_BadWorld : Array (Option Value)} {vs_BadWorld : Array Value} {tf_BadWorld : Tok}
    (lC_BadWorld : K.lookup C_BadWorld = some (excClassObj nm_BadWorld q_BadWorld C_BadWorld N_BadWorld bs_BadWorld bm_BadWorld true sn_BadWorld sub_BadWorld ab_BadWorld col_BadWorld dd_BadWorld k0_BadWorld k1_BadWorld k2_BadWorld k3_BadWorld k5_BadWorld "ValueError.__new__")) (rv_BadWorld : PySem.HandSPX.refsVE bm_BadWorld = true) (fi_is_BadWorld : PySem.W.findIn K (.ref C_BadWorld) "__init__" = some (some (.ref fi_BadWorld))) (xb_BadWorld : xcB K C_BadWorld fi_BadWorld ["part"] = true)
    (lI_BadWorld : K.lookup fi_BadWorld = some ⟨oc_BadWorld, od_BadWorld, .func (PySem.W.ksFn "__init__" "BadWorld.__init__" (defArgs s_BadWorld) (defBody s_BadWorld) (defScope s_BadWorld) .none kV_BadWorld dc_BadWorld pm_BadWorld an_BadWorld (.ref cda_BadWorld) ct_BadWorld cc_BadWorld), osl_BadWorld⟩) (cI_BadWorld : PySem.W.codeIn K (.ref cda_BadWorld) "BadWorld.__init__" = true)
    (lcd_BadWorld : K.lookup cda_BadWorld = some ⟨ccl_BadWorld, cdd_BadWorld, .fields vs_BadWorld, ccs_BadWorld⟩) (v2_BadWorld : vs_BadWorld[2]? = some (.str file_BadWorld tf_BadWorld)) (pf_BadWorld : ((l.prog.main.file : Str) == file_BadWorld) = true) (lcc_BadWorld : K.lookup cc_BadWorld = some ⟨cl_BadWorld, cld_BadWorld, .cell (some (.ref C_BadWorld)), csl_BadWorld⟩)
    {fi_BadLevel cda_BadLevel cc_BadLevel N_BadLevel : Addr} {nm_BadLevel q_BadLevel file_BadLevel : Str} {bs_BadLevel bm_BadLevel sub_BadLevel : List Value} {sn_BadLevel : List Str} {ab_BadLevel : Bool} {col_BadLevel : Option Bool} {dd_BadLevel od_BadLevel an_BadLevel cdd_BadLevel cld_BadLevel : Option Addr} {k0_BadLevel k1_BadLevel k2_BadLevel k3_BadLevel k5_BadLevel : Option Value} {oc_BadLevel kV_BadLevel dc_BadLevel pm_BadLevel ct_BadLevel ccl_BadLevel cl_BadLevel : Value} {osl_BadLevel ccs_BadLevel csl_BadLevel : Array (Option Value)} {vs_BadLevel : Array Value} {tf_BadLevel : Tok}
    (lC_BadLevel : K.lookup C_BadLevel = some (excClassObj nm_BadLevel q_BadLevel C_BadLevel N_BadLevel bs_BadLevel bm_BadLevel true sn_BadLevel sub_BadLevel ab_BadLevel col_BadLevel dd_BadLevel k0_BadLevel k1_BadLevel k2_BadLevel k3_BadLevel k5_BadLevel "ValueError.__new__")) (rv_BadLevel : PySem.HandSPX.refsVE bm_BadLevel = true) (fi_is_BadLevel : PySem.W.findIn K (.ref C_BadLevel) "__init__" = some (some (.ref fi_BadLevel))) (xb_BadLevel : xcB K C_BadLevel fi_BadLevel ["part"] = true)
    (lI_BadLevel : K.lookup fi_BadLevel = some ⟨oc_BadLevel, od_BadLevel, .func (PySem.W.ksFn "__init__" "BadLevel.__init__" (defArgs s_BadLevel) (defBody s_BadLevel) (defScope s_BadLevel) .none kV_BadLevel dc_BadLevel pm_BadLevel an_BadLevel (.ref cda_BadLevel) ct_BadLevel cc_BadLevel), osl_BadLevel⟩) (cI_BadLevel : PySem.W.codeIn K (.ref cda_BadLevel) "BadLevel.__init__" = true)
    (lcd_BadLevel : K.lookup cda_BadLevel = some ⟨ccl_BadLevel, cdd_BadLevel, .fields vs_BadLevel, ccs_BadLevel⟩) (v2_BadLevel : vs_BadLevel[2]? = some (.str file_BadLevel tf_BadLevel)) (pf_BadLevel : ((l.prog.main.file : Str) == file_BadLevel) = true) (lcc_BadLevel : K.lookup cc_BadLevel = some ⟨cl_BadLevel, cld_BadLevel, .cell (some (.ref C_BadLevel)), csl_BadLevel⟩)
    {fi_BadPlay cda_BadPlay cc_BadPlay N_BadPlay : Addr} {nm_BadPlay q_BadPlay file_BadPlay : Str} {bs_BadPlay bm_BadPlay sub_BadPlay : List Value} {sn_BadPlay : List Str} {ab_BadPlay : Bool} {col_BadPlay : Option Bool} {dd_BadPlay od_BadPlay an_BadPlay cdd_BadPlay cld_BadPlay : Option Addr} {k0_BadPlay k1_BadPlay k2_BadPlay k3_BadPlay k5_BadPlay : Option Value} {oc_BadPlay kV_BadPlay dc_BadPlay pm_BadPlay ct_BadPlay ccl_BadPlay cl_BadPlay : Value} {osl_BadPlay ccs_BadPlay csl_BadPlay : Array (Option Value)} {vs_BadPlay : Array Value} {tf_BadPlay : Tok}
    (lC_BadPlay : K.lookup C_BadPlay = some (excClassObj nm_BadPlay q_BadPlay C_BadPlay N_BadPlay bs_BadPlay bm_BadPlay true sn_BadPlay sub_BadPlay ab_BadPlay col_BadPlay dd_BadPlay k0_BadPlay k1_BadPlay k2_BadPlay k3_BadPlay k5_BadPlay "ValueError.__new__")) (rv_BadPlay : PySem.HandSPX.refsVE bm_BadPlay = true) (fi_is_BadPlay : PySem.W.findIn K (.ref C_BadPlay) "__init__" = some (some (.ref fi_BadPlay))) (xb_BadPlay : xcB K C_BadPlay fi_BadPlay ["part"] = true)
    (lI_BadPlay : K.lookup fi_BadPlay = some ⟨oc_BadPlay, od_BadPlay, .func (PySem.W.ksFn "__init__" "BadPlay.__init__" (defArgs s_BadPlay) (defBody s_BadPlay) (defScope s_BadPlay) .none kV_BadPlay dc_BadPlay pm_BadPlay an_BadPlay (.ref cda_BadPlay) ct_BadPlay cc_BadPlay), osl_BadPlay⟩) (cI_BadPlay : PySem.W.codeIn K (.ref cda_BadPlay) "BadPlay.__init__" = true)
    (lcd_BadPlay : K.lookup cda_BadPlay = some ⟨ccl_BadPlay, cdd_BadPlay, .fields vs_BadPlay, ccs_BadPlay⟩) (v2_BadPlay : vs_BadPlay[2]? = some (.str file_BadPlay tf_BadPlay)) (pf_BadPlay : ((l.prog.main.file : Str) == file_BadPlay) = true) (lcc_BadPlay : K.lookup cc_BadPlay = some ⟨cl_BadPlay, cld_BadPlay, .cell (some (.ref C_BadPlay)), csl_BadPlay⟩)
    {fi_BadPaper cda_BadPaper cc_BadPaper N_BadPaper : Addr} {nm_BadPaper q_BadPaper file_BadPaper : Str} {bs_BadPaper bm_BadPaper sub_BadPaper : List Value} {sn_BadPaper : List Str} {ab_BadPaper : Bool} {col_BadPaper : Option Bool} {dd_BadPaper od_BadPaper an_BadPaper cdd_BadPaper cld_BadPaper : Option Addr} {k0_BadPaper k1_BadPaper k2_BadPaper k3_BadPaper k5_BadPaper : Option Value} {oc_BadPaper kV_BadPaper dc_BadPaper pm_BadPaper ct_BadPaper ccl_BadPaper cl_BadPaper : Value} {osl_BadPaper ccs_BadPaper csl_BadPaper : Array (Option Value)} {vs_BadPaper : Array Value} {tf_BadPaper : Tok}
    (lC_BadPaper : K.lookup C_BadPaper = some (excClassObj nm_BadPaper q_BadPaper C_BadPaper N_BadPaper bs_BadPaper bm_BadPaper true sn_BadPaper sub_BadPaper ab_BadPaper col_BadPaper dd_BadPaper k0_BadPaper k1_BadPaper k2_BadPaper k3_BadPaper k5_BadPaper "ValueError.__new__")) (rv_BadPaper : PySem.HandSPX.refsVE bm_BadPaper = true) (fi_is_BadPaper : PySem.W.findIn K (.ref C_BadPaper) "__init__" = some (some (.ref fi_BadPaper))) (xb_BadPaper : xcB K C_BadPaper fi_BadPaper ["part"] = true)
    (lI_BadPaper : K.lookup fi_BadPaper = some ⟨oc_BadPaper, od_BadPaper, .func (PySem.W.ksFn "__init__" "BadPaper.__init__" (defArgs s_BadPaper) (defBody s_BadPaper) (defScope s_BadPaper) .none kV_BadPaper dc_BadPaper pm_BadPaper an_BadPaper (.ref cda_BadPaper) ct_BadPaper cc_BadPaper), osl_BadPaper⟩) (cI_BadPaper : PySem.W.codeIn K (.ref cda_BadPaper) "BadPaper.__init__" = true)
    (lcd_BadPaper : K.lookup cda_BadPaper = some ⟨ccl_BadPaper, cdd_BadPaper, .fields vs_BadPaper, ccs_BadPaper⟩) (v2_BadPaper : vs_BadPaper[2]? = some (.str file_BadPaper tf_BadPaper)) (pf_BadPaper : ((l.prog.main.file : Str) == file_BadPaper) = true) (lcc_BadPaper : K.lookup cc_BadPaper = some ⟨cl_BadPaper, cld_BadPaper, .cell (some (.ref C_BadPaper)), csl_BadPaper⟩)
    {fi_Misfit cda_Misfit cc_Misfit N_Misfit : Addr} {nm_Misfit q_Misfit file_Misfit : Str} {bs_Misfit bm_Misfit sub_Misfit : List Value} {sn_Misfit : List Str} {ab_Misfit : Bool} {col_Misfit : Option Bool} {dd_Misfit od_Misfit an_Misfit cdd_Misfit cld_Misfit : Option Addr} {k0_Misfit k1_Misfit k2_Misfit k3_Misfit k5_Misfit : Option Value} {oc_Misfit kV_Misfit dc_Misfit pm_Misfit ct_Misfit ccl_Misfit cl_Misfit : Value} {osl_Misfit ccs_Misfit csl_Misfit : Array (Option Value)} {vs_Misfit : Array Value} {tf_Misfit : Tok}
    (lC_Misfit : K.lookup C_Misfit = some (excClassObj nm_Misfit q_Misfit C_Misfit N_Misfit bs_Misfit bm_Misfit true sn_Misfit sub_Misfit ab_Misfit col_Misfit dd_Misfit k0_Misfit k1_Misfit k2_Misfit k3_Misfit k5_Misfit "ValueError.__new__")) (rv_Misfit : PySem.HandSPX.refsVE bm_Misfit = true) (fi_is_Misfit : PySem.W.findIn K (.ref C_Misfit) "__init__" = some (some (.ref fi_Misfit))) (xb_Misfit : xcB K C_Misfit fi_Misfit ["part"] = true)
    (lI_Misfit : K.lookup fi_Misfit = some ⟨oc_Misfit, od_Misfit, .func (PySem.W.ksFn "__init__" "Misfit.__init__" (defArgs s_Misfit) (defBody s_Misfit) (defScope s_Misfit) .none kV_Misfit dc_Misfit pm_Misfit an_Misfit (.ref cda_Misfit) ct_Misfit cc_Misfit), osl_Misfit⟩) (cI_Misfit : PySem.W.codeIn K (.ref cda_Misfit) "Misfit.__init__" = true)
    (lcd_Misfit : K.lookup cda_Misfit = some ⟨ccl_Misfit, cdd_Misfit, .fields vs_Misfit, ccs_Misfit⟩) (v2_Misfit : vs_Misfit[2]? = some (.str file_Misfit tf_Misfit)) (pf_Misfit : ((l.prog.main.file : Str) == file_Misfit) = true) (lcc_Misfit : K.lookup cc_Misfit = some ⟨cl_Misfit, cld_Misfit, .cell (some (.ref C_Misfit)), csl_Misfit⟩)
    {fi_NoName cda_NoName cc_NoName N_NoName : Addr} {nm_NoName q_NoName file_NoName : Str} {bs_NoName bm_NoName sub_NoName : List Value} {sn_NoName : List Str} {ab_NoName : Bool} {col_NoName : Option Bool} {dd_NoName od_NoName an_NoName cdd_NoName cld_NoName : Option Addr} {k0_NoName k1_NoName k2_NoName k3_NoName k5_NoName : Option Value} {oc_NoName kV_NoName dc_NoName pm_NoName ct_NoName ccl_NoName cl_NoName : Value} {osl_NoName ccs_NoName csl_NoName : Array (Option Value)} {vs_NoName : Array Value} {tf_NoName : Tok}
    (lC_NoName : K.lookup C_NoName = some (excClassObj nm_NoName q_NoName C_NoName N_NoName bs_NoName bm_NoName true sn_NoName sub_NoName ab_NoName col_NoName dd_NoName k0_NoName k1_NoName k2_NoName k3_NoName k5_NoName "ValueError.__new__")) (rv_NoName : PySem.HandSPX.refsVE bm_NoName = true) (fi_is_NoName : PySem.W.findIn K (.ref C_NoName) "__init__" = some (some (.ref fi_NoName))) (xb_NoName : xcB K C_NoName fi_NoName ["value"] = true)
    (lI_NoName : K.lookup fi_NoName = some ⟨oc_NoName, od_NoName, .func (PySem.W.ksFn "__init__" "NoName.__init__" (defArgs s_NoName) (defBody s_NoName) (defScope s_NoName) .none kV_NoName dc_NoName pm_NoName an_NoName (.ref cda_NoName) ct_NoName cc_NoName), osl_NoName⟩) (cI_NoName : PySem.W.codeIn K (.ref cda_NoName) "NoName.__init__" = true)
    (lcd_NoName : K.lookup cda_NoName = some ⟨ccl_NoName, cdd_NoName, .fields vs_NoName, ccs_NoName⟩) (v2_NoName : vs_NoName[2]? = some (.str file_NoName tf_NoName)) (pf_NoName : ((l.prog.main.file : Str) == file_NoName) = true) (lcc_NoName : K.lookup cc_NoName = some ⟨cl_NoName, cld_NoName, .cell (some (.ref C_NoName)), csl_NoName⟩)
    {fi_NoPiece cda_NoPiece cc_NoPiece N_NoPiece : Addr} {nm_NoPiece q_NoPiece file_NoPiece : Str} {bs_NoPiece bm_NoPiece sub_NoPiece : List Value} {sn_NoPiece : List Str} {ab_NoPiece : Bool} {col_NoPiece : Option Bool} {dd_NoPiece od_NoPiece an_NoPiece cdd_NoPiece cld_NoPiece : Option Addr} {k0_NoPiece k1_NoPiece k2_NoPiece k3_NoPiece k5_NoPiece : Option Value} {oc_NoPiece kV_NoPiece dc_NoPiece pm_NoPiece ct_NoPiece ccl_NoPiece cl_NoPiece : Value} {osl_NoPiece ccs_NoPiece csl_NoPiece : Array (Option Value)} {vs_NoPiece : Array Value} {tf_NoPiece : Tok}
    (lC_NoPiece : K.lookup C_NoPiece = some (excClassObj nm_NoPiece q_NoPiece C_NoPiece N_NoPiece bs_NoPiece bm_NoPiece true sn_NoPiece sub_NoPiece ab_NoPiece col_NoPiece dd_NoPiece k0_NoPiece k1_NoPiece k2_NoPiece k3_NoPiece k5_NoPiece "ValueError.__new__")) (rv_NoPiece : PySem.HandSPX.refsVE bm_NoPiece = true) (fi_is_NoPiece : PySem.W.findIn K (.ref C_NoPiece) "__init__" = some (some (.ref fi_NoPiece))) (xb_NoPiece : xcB K C_NoPiece fi_NoPiece ["value"] = true)
    (lI_NoPiece : K.lookup fi_NoPiece = some ⟨oc_NoPiece, od_NoPiece, .func (PySem.W.ksFn "__init__" "NoPiece.__init__" (defArgs s_NoPiece) (defBody s_NoPiece) (defScope s_NoPiece) .none kV_NoPiece dc_NoPiece pm_NoPiece an_NoPiece (.ref cda_NoPiece) ct_NoPiece cc_NoPiece), osl_NoPiece⟩) (cI_NoPiece : PySem.W.codeIn K (.ref cda_NoPiece) "NoPiece.__init__" = true)
    (lcd_NoPiece : K.lookup cda_NoPiece = some ⟨ccl_NoPiece, cdd_NoPiece, .fields vs_NoPiece, ccs_NoPiece⟩) (v2_NoPiece : vs_NoPiece[2]? = some (.str file_NoPiece tf_NoPiece)) (pf_NoPiece : ((l.prog.main.file : Str) == file_NoPiece) = true) (lcc_NoPiece : K.lookup cc_NoPiece = some ⟨cl_NoPiece, cld_NoPiece, .cell (some (.ref C_NoPiece)), csl_NoPiece⟩)
    {fi_Twice cda_Twice cc_Twice N_Twice : Addr} {nm_Twice q_Twice file_Twice : Str} {bs_Twice bm_Twice sub_Twice : List Value} {sn_Twice : List Str} {ab_Twice : Bool} {col_Twice : Option Bool} {dd_Twice od_Twice an_Twice cdd_Twice cld_Twice : Option Addr} {k0_Twice k1_Twice k2_Twice k3_Twice k5_Twice : Option Value} {oc_Twice kV_Twice dc_Twice pm_Twice ct_Twice ccl_Twice cl_Twice : Value} {osl_Twice ccs_Twice csl_Twice : Array (Option Value)} {vs_Twice : Array Value} {tf_Twice : Tok}
    (lC_Twice : K.lookup C_Twice = some (excClassObj nm_Twice q_Twice C_Twice N_Twice bs_Twice bm_Twice true sn_Twice sub_Twice ab_Twice col_Twice dd_Twice k0_Twice k1_Twice k2_Twice k3_Twice k5_Twice "ValueError.__new__")) (rv_Twice : PySem.HandSPX.refsVE bm_Twice = true) (fi_is_Twice : PySem.W.findIn K (.ref C_Twice) "__init__" = some (some (.ref fi_Twice))) (xb_Twice : xcB K C_Twice fi_Twice ["value"] = true)
    (lI_Twice : K.lookup fi_Twice = some ⟨oc_Twice, od_Twice, .func (PySem.W.ksFn "__init__" "Twice.__init__" (defArgs s_Twice) (defBody s_Twice) (defScope s_Twice) .none kV_Twice dc_Twice pm_Twice an_Twice (.ref cda_Twice) ct_Twice cc_Twice), osl_Twice⟩) (cI_Twice : PySem.W.codeIn K (.ref cda_Twice) "Twice.__init__" = true)
    (lcd_Twice : K.lookup cda_Twice = some ⟨ccl_Twice, cdd_Twice, .fields vs_Twice, ccs_Twice⟩) (v2_Twice : vs_Twice[2]? = some (.str file_Twice tf_Twice)) (pf_Twice : ((l.prog.main.file : Str) == file_Twice) = true) (lcc_Twice : K.lookup cc_Twice = some ⟨cl_Twice, cld_Twice, .cell (some (.ref C_Twice)), csl_Twice⟩)
    {fi_Refused cda_Refused cc_Refused N_Refused : Addr} {nm_Refused q_Refused file_Refused : Str} {bs_Refused bm_Refused sub_Refused : List Value} {sn_Refused : List Str} {ab_Refused : Bool} {col_Refused : Option Bool} {dd_Refused od_Refused an_Refused cdd_Refused cld_Refused : Option Addr} {k0_Refused k1_Refused k2_Refused k3_Refused k5_Refused : Option Value} {oc_Refused kV_Refused dc_Refused pm_Refused ct_Refused ccl_Refused cl_Refused : Value} {osl_Refused ccs_Refused csl_Refused : Array (Option Value)} {vs_Refused : Array Value} {tf_Refused : Tok}
    (lC_Refused : K.lookup C_Refused = some (excClassObj nm_Refused q_Refused C_Refused N_Refused bs_Refused bm_Refused true sn_Refused sub_Refused ab_Refused col_Refused dd_Refused k0_Refused k1_Refused k2_Refused k3_Refused k5_Refused "ValueError.__new__")) (rv_Refused : PySem.HandSPX.refsVE bm_Refused = true) (fi_is_Refused : PySem.W.findIn K (.ref C_Refused) "__init__" = some (some (.ref fi_Refused))) (xb_Refused : xcB K C_Refused fi_Refused ["why"] = true)
    (lI_Refused : K.lookup fi_Refused = some ⟨oc_Refused, od_Refused, .func (PySem.W.ksFn "__init__" "Refused.__init__" (defArgs s_Refused) (defBody s_Refused) (defScope s_Refused) .none kV_Refused dc_Refused pm_Refused an_Refused (.ref cda_Refused) ct_Refused cc_Refused), osl_Refused⟩) (cI_Refused : PySem.W.codeIn K (.ref cda_Refused) "Refused.__init__" = true)
    (lcd_Refused : K.lookup cda_Refused = some ⟨ccl_Refused, cdd_Refused, .fields vs_Refused, ccs_Refused⟩) (v2_Refused : vs_Refused[2]? = some (.str file_Refused tf_Refused)) (pf_Refused : ((l.prog.main.file : Str) == file_Refused) = true) (lcc_Refused : K.lookup cc_Refused = some ⟨cl_Refused, cld_Refused, .cell (some (.ref C_Refused)), csl_Refused⟩)
    {fi_TooMany cda_TooMany cc_TooMany N_TooMany : Addr} {nm_TooMany q_TooMany file_TooMany : Str} {bs_TooMany bm_TooMany sub_TooMany : List Value} {sn_TooMany : List Str} {ab_TooMany : Bool} {col_TooMany : Option Bool} {dd_TooMany od_TooMany an_TooMany cdd_TooMany cld_TooMany : Option Addr} {k0_TooMany k1_TooMany k2_TooMany k3_TooMany k5_TooMany : Option Value} {oc_TooMany kV_TooMany dc_TooMany pm_TooMany ct_TooMany ccl_TooMany cl_TooMany : Value} {osl_TooMany ccs_TooMany csl_TooMany : Array (Option Value)} {vs_TooMany : Array Value} {tf_TooMany : Tok}
    (lC_TooMany : K.lookup C_TooMany = some (excClassObj nm_TooMany q_TooMany C_TooMany N_TooMany bs_TooMany bm_TooMany true sn_TooMany sub_TooMany ab_TooMany col_TooMany dd_TooMany k0_TooMany k1_TooMany k2_TooMany k3_TooMany k5_TooMany "ValueError.__new__")) (rv_TooMany : PySem.HandSPX.refsVE bm_TooMany = true) (fi_is_TooMany : PySem.W.findIn K (.ref C_TooMany) "__init__" = some (some (.ref fi_TooMany))) (xb_TooMany : xcB K C_TooMany fi_TooMany ["what", "most"] = true)
    (lI_TooMany : K.lookup fi_TooMany = some ⟨oc_TooMany, od_TooMany, .func (PySem.W.ksFn "__init__" "TooMany.__init__" (defArgs s_TooMany) (defBody s_TooMany) (defScope s_TooMany) .none kV_TooMany dc_TooMany pm_TooMany an_TooMany (.ref cda_TooMany) ct_TooMany cc_TooMany), osl_TooMany⟩) (cI_TooMany : PySem.W.codeIn K (.ref cda_TooMany) "TooMany.__init__" = true)
    (lcd_TooMany : K.lookup cda_TooMany = some ⟨ccl_TooMany, cdd_TooMany, .fields vs_TooMany, ccs_TooMany⟩) (v2_TooMany : vs_TooMany[2]? = some (.str file_TooMany tf_TooMany)) (pf_TooMany : ((l.prog.main.file : Str) == file_TooMany) = true) (lcc_TooMany : K.lookup cc_TooMany = some ⟨cl_TooMany, cld_TooMany, .cell (some (.ref C_TooMany)), csl_TooMany⟩)
    {fi_BadText cda_BadText cc_BadText N_BadText : Addr} {nm_BadText q_BadText file_BadText : Str} {bs_BadText bm_BadText sub_BadText : List Value} {sn_BadText : List Str} {ab_BadText : Bool} {col_BadText : Option Bool} {dd_BadText od_BadText an_BadText cdd_BadText cld_BadText : Option Addr} {k0_BadText k1_BadText k2_BadText k3_BadText k5_BadText : Option Value} {oc_BadText kV_BadText dc_BadText pm_BadText ct_BadText ccl_BadText cl_BadText : Value} {osl_BadText ccs_BadText csl_BadText : Array (Option Value)} {vs_BadText : Array Value} {tf_BadText : Tok}
    (lC_BadText : K.lookup C_BadText = some (excClassObj nm_BadText q_BadText C_BadText N_BadText bs_BadText bm_BadText true sn_BadText sub_BadText ab_BadText col_BadText dd_BadText k0_BadText k1_BadText k2_BadText k3_BadText k5_BadText "ValueError.__new__")) (rv_BadText : PySem.HandSPX.refsVE bm_BadText = true) (fi_is_BadText : PySem.W.findIn K (.ref C_BadText) "__init__" = some (some (.ref fi_BadText))) (xb_BadText : xcB K C_BadText fi_BadText ["line", "item"] = true)
    (lI_BadText : K.lookup fi_BadText = some ⟨oc_BadText, od_BadText, .func (PySem.W.ksFn "__init__" "BadText.__init__" (defArgs s_BadText) (defBody s_BadText) (defScope s_BadText) .none kV_BadText dc_BadText pm_BadText an_BadText (.ref cda_BadText) ct_BadText cc_BadText), osl_BadText⟩) (cI_BadText : PySem.W.codeIn K (.ref cda_BadText) "BadText.__init__" = true)
    (lcd_BadText : K.lookup cda_BadText = some ⟨ccl_BadText, cdd_BadText, .fields vs_BadText, ccs_BadText⟩) (v2_BadText : vs_BadText[2]? = some (.str file_BadText tf_BadText)) (pf_BadText : ((l.prog.main.file : Str) == file_BadText) = true) (lcc_BadText : K.lookup cc_BadText = some ⟨cl_BadText, cld_BadText, .cell (some (.ref C_BadText)), csl_BadText⟩)
    {fi_BadLine cda_BadLine cc_BadLine N_BadLine : Addr} {nm_BadLine q_BadLine file_BadLine : Str} {bs_BadLine bm_BadLine sub_BadLine : List Value} {sn_BadLine : List Str} {ab_BadLine : Bool} {col_BadLine : Option Bool} {dd_BadLine od_BadLine an_BadLine cdd_BadLine cld_BadLine : Option Addr} {k0_BadLine k1_BadLine k2_BadLine k3_BadLine k5_BadLine : Option Value} {oc_BadLine kV_BadLine dc_BadLine pm_BadLine ct_BadLine ccl_BadLine cl_BadLine : Value} {osl_BadLine ccs_BadLine csl_BadLine : Array (Option Value)} {vs_BadLine : Array Value} {tf_BadLine : Tok}
    (lC_BadLine : K.lookup C_BadLine = some (excClassObj nm_BadLine q_BadLine C_BadLine N_BadLine bs_BadLine bm_BadLine true sn_BadLine sub_BadLine ab_BadLine col_BadLine dd_BadLine k0_BadLine k1_BadLine k2_BadLine k3_BadLine k5_BadLine "ValueError.__new__")) (rv_BadLine : PySem.HandSPX.refsVE bm_BadLine = true) (fi_is_BadLine : PySem.W.findIn K (.ref C_BadLine) "__init__" = some (some (.ref fi_BadLine))) (xb_BadLine : xcB K C_BadLine fi_BadLine ["line", "error"] = true)
    (lI_BadLine : K.lookup fi_BadLine = some ⟨oc_BadLine, od_BadLine, .func (PySem.W.ksFn "__init__" "BadLine.__init__" (defArgs s_BadLine) (defBody s_BadLine) (defScope s_BadLine) .none kV_BadLine dc_BadLine pm_BadLine an_BadLine (.ref cda_BadLine) ct_BadLine cc_BadLine), osl_BadLine⟩) (cI_BadLine : PySem.W.codeIn K (.ref cda_BadLine) "BadLine.__init__" = true)
    (lcd_BadLine : K.lookup cda_BadLine = some ⟨ccl_BadLine, cdd_BadLine, .fields vs_BadLine, ccs_BadLine⟩) (v2_BadLine : vs_BadLine[2]? = some (.str file_BadLine tf_BadLine)) (pf_BadLine : ((l.prog.main.file : Str) == file_BadLine) = true) (lcc_BadLine : K.lookup cc_BadLine = some ⟨cl_BadLine, cld_BadLine, .cell (some (.ref C_BadLine)), csl_BadLine⟩)
    {fi_Nothing cda_Nothing cc_Nothing N_Nothing : Addr} {nm_Nothing q_Nothing file_Nothing : Str} {bs_Nothing bm_Nothing sub_Nothing : List Value} {sn_Nothing : List Str} {ab_Nothing : Bool} {col_Nothing : Option Bool} {dd_Nothing od_Nothing an_Nothing cdd_Nothing cld_Nothing : Option Addr} {k0_Nothing k1_Nothing k2_Nothing k3_Nothing k5_Nothing : Option Value} {oc_Nothing kV_Nothing dc_Nothing pm_Nothing ct_Nothing ccl_Nothing cl_Nothing : Value} {osl_Nothing ccs_Nothing csl_Nothing : Array (Option Value)} {vs_Nothing : Array Value} {tf_Nothing : Tok}
    (lC_Nothing : K.lookup C_Nothing = some (excClassObj nm_Nothing q_Nothing C_Nothing N_Nothing bs_Nothing bm_Nothing true sn_Nothing sub_Nothing ab_Nothing col_Nothing dd_Nothing k0_Nothing k1_Nothing k2_Nothing k3_Nothing k5_Nothing "ValueError.__new__")) (rv_Nothing : PySem.HandSPX.refsVE bm_Nothing = true) (fi_is_Nothing : PySem.W.findIn K (.ref C_Nothing) "__init__" = some (some (.ref fi_Nothing))) (xb_Nothing : xcB K C_Nothing fi_Nothing [] = true)
    (lI_Nothing : K.lookup fi_Nothing = some ⟨oc_Nothing, od_Nothing, .func (PySem.W.ksFn "__init__" "Nothing.__init__" (defArgs s_Nothing) (defBody s_Nothing) (defScope s_Nothing) .none kV_Nothing dc_Nothing pm_Nothing an_Nothing (.ref cda_Nothing) ct_Nothing cc_Nothing), osl_Nothing⟩) (cI_Nothing : PySem.W.codeIn K (.ref cda_Nothing) "Nothing.__init__" = true)
    (lcd_Nothing : K.lookup cda_Nothing = some ⟨ccl_Nothing, cdd_Nothing, .fields vs_Nothing, ccs_Nothing⟩) (v2_Nothing : vs_Nothing[2]? = some (.str file_Nothing tf_Nothing)) (pf_Nothing : ((l.prog.main.file : Str) == file_Nothing) = true) (lcc_Nothing : K.lookup cc_Nothing = some ⟨cl_Nothing, cld_Nothing, .cell (some (.ref C_Nothing)), csl_Nothing⟩)
    (su : PySem.W.nsIn K mainGlobals "super" = some none) (tp : (l.prog.main.scope.names.lookup ("super" : Str)).isSome = false) (oq : PySem.W.nsIn K PySem.cStatics "thirdparty.any" = some none)
    (tb : tabB K (fun c => [C_LaneError, C_BadNumber, C_BadSpot, C_BadPiece, C_BadFront, C_BadWorld, C_BadLevel, C_BadPlay, C_BadPaper, C_Misfit, C_NoName, C_NoPiece, C_Twice, C_TooMany, C_Refused, C_Nothing, C_BadText, C_BadLine].getD c 0) 18 ["ValueError", "LookupError", "TypeError", "ArithmeticError"] subL styL = true)
    (eb_LaneError : exB K (fun c => [C_LaneError, C_BadNumber, C_BadSpot, C_BadPiece, C_BadFront, C_BadWorld, C_BadLevel, C_BadPlay, C_BadPaper, C_Misfit, C_NoName, C_NoPiece, C_Twice, C_TooMany, C_Refused, C_Nothing, C_BadText, C_BadLine].getD c 0) 18 subL 0 = true)
    (ab_part : xaB K (fun c => [C_LaneError, C_BadNumber, C_BadSpot, C_BadPiece, C_BadFront, C_BadWorld, C_BadLevel, C_BadPlay, C_BadPaper, C_Misfit, C_NoName, C_NoPiece, C_Twice, C_TooMany, C_Refused, C_Nothing, C_BadText, C_BadLine].getD c 0) [1, 2, 3, 4, 5, 6, 7, 8, 9] "part" = true)
    (ab_value : xaB K (fun c => [C_LaneError, C_BadNumber, C_BadSpot, C_BadPiece, C_BadFront, C_BadWorld, C_BadLevel, C_BadPlay, C_BadPaper, C_Misfit, C_NoName, C_NoPiece, C_Twice, C_TooMany, C_Refused, C_Nothing, C_BadText, C_BadLine].getD c 0) [10, 11, 12] "value" = true)
    (ab_why : xaB K (fun c => [C_LaneError, C_BadNumber, C_BadSpot, C_BadPiece, C_BadFront, C_BadWorld, C_BadLevel, C_BadPlay, C_BadPaper, C_Misfit, C_NoName, C_NoPiece, C_Twice, C_TooMany, C_Refused, C_Nothing, C_BadText, C_BadLine].getD c 0) [14] "why" = true)
    (ab_what : xaB K (fun c => [C_LaneError, C_BadNumber, C_BadSpot, C_BadPiece, C_BadFront, C_BadWorld, C_BadLevel, C_BadPlay, C_BadPaper, C_Misfit, C_NoName, C_NoPiece, C_Twice, C_TooMany, C_Refused, C_Nothing, C_BadText, C_BadLine].getD c 0) [13] "what" = true)
    (ab_most : xaB K (fun c => [C_LaneError, C_BadNumber, C_BadSpot, C_BadPiece, C_BadFront, C_BadWorld, C_BadLevel, C_BadPlay, C_BadPaper, C_Misfit, C_NoName, C_NoPiece, C_Twice, C_TooMany, C_Refused, C_Nothing, C_BadText, C_BadLine].getD c 0) [13] "most" = true)
    (ab_line : xaB K (fun c => [C_LaneError, C_BadNumber, C_BadSpot, C_BadPiece, C_BadFront, C_BadWorld, C_BadLevel, C_BadPlay, C_BadPaper, C_Misfit, C_NoName, C_NoPiece, C_Twice, C_TooMany, C_Refused, C_Nothing, C_BadText, C_BadLine].getD c 0) [16, 17] "line" = true)
    (ab_item : xaB K (fun c => [C_LaneError, C_BadNumber, C_BadSpot, C_BadPiece, C_BadFront, C_BadWorld, C_BadLevel, C_BadPlay, C_BadPaper, C_Misfit, C_NoName, C_NoPiece, C_Twice, C_TooMany, C_Refused, C_Nothing, C_BadText, C_BadLine].getD c 0) [16] "item" = true)
    (ab_error : xaB K (fun c => [C_LaneError, C_BadNumber, C_BadSpot, C_BadPiece, C_BadFront, C_BadWorld, C_BadLevel, C_BadPlay, C_BadPaper, C_Misfit, C_NoName, C_NoPiece, C_Twice, C_TooMany, C_Refused, C_Nothing, C_BadText, C_BadLine].getD c 0) [17] "error" = true) :
    ∃ (cl : Nat → Addr) (fd : FuncData), (∀ (s : Shared) (v : Value), BindsTo s fd ⟨[v], []⟩ [("script", v)]) ∧ ∀ base : Heap, K.In base → base.Ns mainGlobals mg → GFn ⟨K, mg, cl⟩ l.prog w base 5 fa fd ["script"] m_law := by
  have e := hfa.symm.trans (PySem.W.mg_of X N a_law)
  cases e
  obtain ⟨cl, hcl⟩ : ∃ cl : Nat → Addr, cl = (fun c => [C_LaneError, C_BadNumber, C_BadSpot, C_BadPiece, C_BadFront, C_BadWorld, C_BadLevel, C_BadPlay, C_BadPaper, C_Misfit, C_NoName, C_NoPiece, C_Twice, C_TooMany, C_Refused, C_Nothing, C_BadText, C_BadLine].getD c 0) := ⟨_, rfl⟩
  obtain ⟨fi, hfi⟩ : ∃ fi : Nat → Addr, fi = fun c => [0, fi_BadNumber, fi_BadSpot, fi_BadPiece, fi_BadFront, fi_BadWorld, fi_BadLevel, fi_BadPlay, fi_BadPaper, fi_Misfit, fi_NoName, fi_NoPiece, fi_Twice, fi_TooMany, fi_Refused, fi_Nothing, fi_BadText, fi_BadLine].getD c 0 := ⟨_, rfl⟩
  have T : Bl ⟨K, mg, cl⟩ := ⟨PySem.W.mg_none_of X N z_ArithmeticError, PySem.W.mg_none_of X N z_LookupError, PySem.W.mg_none_of X N z_TypeError, PySem.W.mg_none_of X N z_ValueError, PySem.W.mg_none_of X N z_abs, PySem.W.mg_none_of X N z_enumerate, PySem.W.mg_none_of X N z_int, PySem.W.mg_none_of X N z_isinstance, PySem.W.mg_none_of X N z_len, PySem.W.mg_none_of X N z_range, PySem.W.mg_none_of X N z_repr⟩
  have F__law_nut := funG_mk (st := s__law_nut) l__law_nut c__law_nut k__law_nut
  have D__law_nut : Df ⟨K, mg, cl⟩ "_law_nut" s__law_nut ["script"] f__law_nut _ := ⟨F__law_nut, PySem.W.mg_of X N a__law_nut, bdP_mk fun us hl => match us, hl with | [_], _ => rfl⟩
  have F__law_crack := funG_mk (st := s__law_crack) l__law_crack c__law_crack k__law_crack
  have D__law_crack : Df ⟨K, mg, cl⟩ "_law_crack" s__law_crack ["nut", "many"] f__law_crack _ := ⟨F__law_crack, PySem.W.mg_of X N a__law_crack, bdP_mk fun us hl => match us, hl with | [_, _], _ => rfl⟩
  have F__law_pick := funG_mk (st := s__law_pick) l__law_pick c__law_pick k__law_pick
  have D__law_pick : Df ⟨K, mg, cl⟩ "_law_pick" s__law_pick ["nut", "some"] f__law_pick _ := ⟨F__law_pick, PySem.W.mg_of X N a__law_pick, bdP_mk fun us hl => match us, hl with | [_, _], _ => rfl⟩
  have F__law_value := funG_mk (st := s__law_value) l__law_value c__law_value k__law_value
  have D__law_value : Df ⟨K, mg, cl⟩ "_law_value" s__law_value ["nut"] f__law_value _ := ⟨F__law_value, PySem.W.mg_of X N a__law_value, bdP_mk fun us hl => match us, hl with | [_], _ => rfl⟩
  have F__law_first := funG_mk (st := s__law_first) l__law_first c__law_first k__law_first
  have D__law_first : Df ⟨K, mg, cl⟩ "_law_first" s__law_first ["at", "one"] f__law_first _ := ⟨F__law_first, PySem.W.mg_of X N a__law_first, bdP_mk fun us hl => match us, hl with | [_, _], _ => rfl⟩
  have F__law_named := funG_mk (st := s__law_named) l__law_named c__law_named k__law_named
  have D__law_named : Df ⟨K, mg, cl⟩ "_law_named" s__law_named ["at", "one"] f__law_named _ := ⟨F__law_named, PySem.W.mg_of X N a__law_named, bdP_mk fun us hl => match us, hl with | [_, _], _ => rfl⟩
  have F__law_last := funG_mk (st := s__law_last) l__law_last c__law_last k__law_last
  have D__law_last : Df ⟨K, mg, cl⟩ "_law_last" s__law_last ["at", "one", "other", "by_name"] f__law_last _ := ⟨F__law_last, PySem.W.mg_of X N a__law_last, bdP_mk fun us hl => match us, hl with | [_, _, _, _], _ => rfl⟩
  have F__law_kinds := funG_mk (st := s__law_kinds) l__law_kinds c__law_kinds k__law_kinds
  have D__law_kinds : Df ⟨K, mg, cl⟩ "_law_kinds" s__law_kinds ["error"] f__law_kinds _ := ⟨F__law_kinds, PySem.W.mg_of X N a__law_kinds, bdP_mk fun us hl => match us, hl with | [_], _ => rfl⟩
  have F__law_fields := funG_mk (st := s__law_fields) l__law_fields c__law_fields k__law_fields
  have D__law_fields : Df ⟨K, mg, cl⟩ "_law_fields" s__law_fields ["at", "error"] f__law_fields _ := ⟨F__law_fields, PySem.W.mg_of X N a__law_fields, bdP_mk fun us hl => match us, hl with | [_, _], _ => rfl⟩
  have F__law_raises := funG_mk (st := s__law_raises) l__law_raises c__law_raises k__law_raises
  have D__law_raises : Df ⟨K, mg, cl⟩ "_law_raises" s__law_raises ["at", "one", "other", "by_name"] f__law_raises _ := ⟨F__law_raises, PySem.W.mg_of X N a__law_raises, bdP_mk fun us hl => match us, hl with | [_, _, _, _], _ => rfl⟩
  have F__law_right := funG_mk (st := s__law_right) l__law_right c__law_right k__law_right
  have D__law_right : Df ⟨K, mg, cl⟩ "_law_right" s__law_right ["at", "one", "other", "by_name"] f__law_right _ := ⟨F__law_right, PySem.W.mg_of X N a__law_right, bdP_mk fun us hl => match us, hl with | [_, _, _, _], _ => rfl⟩
  have F_law := funG_mk (st := s_law) l_law c_law k_law
  have D_law : Df ⟨K, mg, cl⟩ "law" s_law ["script"] fa _ := ⟨F_law, PySem.W.mg_of X N a_law, bdP_mk fun us hl => match us, hl with | [_], _ => rfl⟩
  have hc_LaneError : cl 0 = C_LaneError := by rw [hcl]; rfl
  have hc_BadNumber : cl 1 = C_BadNumber := by rw [hcl]; rfl
  have hc_BadSpot : cl 2 = C_BadSpot := by rw [hcl]; rfl
  have hc_BadPiece : cl 3 = C_BadPiece := by rw [hcl]; rfl
  have hc_BadFront : cl 4 = C_BadFront := by rw [hcl]; rfl
  have hc_BadWorld : cl 5 = C_BadWorld := by rw [hcl]; rfl
  have hc_BadLevel : cl 6 = C_BadLevel := by rw [hcl]; rfl
  have hc_BadPlay : cl 7 = C_BadPlay := by rw [hcl]; rfl
  have hc_BadPaper : cl 8 = C_BadPaper := by rw [hcl]; rfl
  have hc_Misfit : cl 9 = C_Misfit := by rw [hcl]; rfl
  have hc_NoName : cl 10 = C_NoName := by rw [hcl]; rfl
  have hc_NoPiece : cl 11 = C_NoPiece := by rw [hcl]; rfl
  have hc_Twice : cl 12 = C_Twice := by rw [hcl]; rfl
  have hc_TooMany : cl 13 = C_TooMany := by rw [hcl]; rfl
  have hc_Refused : cl 14 = C_Refused := by rw [hcl]; rfl
  have hc_Nothing : cl 15 = C_Nothing := by rw [hcl]; rfl
  have hc_BadText : cl 16 = C_BadText := by rw [hcl]; rfl
  have hc_BadLine : cl 17 = C_BadLine := by rw [hcl]; rfl
  have TBk : TabOk ⟨K, mg, cl⟩ tabL := tabX_ok (by show tabB K cl _ _ _ _ = true; rw [hcl]; exact tb)
  have X_BadNumber := xcf_mk (G := ⟨K, mg, cl⟩) (P := l.prog) (c := 1) (x := "BadNumber") xs_BadNumber hc_BadNumber (PySem.W.mg_of X N aC_BadNumber) lC_BadNumber rv_BadNumber xb_BadNumber lI_BadNumber cI_BadNumber lcd_BadNumber v2_BadNumber pf_BadNumber lcc_BadNumber su tp oq
  have X_BadSpot := xcf_mk (G := ⟨K, mg, cl⟩) (P := l.prog) (c := 2) (x := "BadSpot") xs_BadSpot hc_BadSpot (PySem.W.mg_of X N aC_BadSpot) lC_BadSpot rv_BadSpot xb_BadSpot lI_BadSpot cI_BadSpot lcd_BadSpot v2_BadSpot pf_BadSpot lcc_BadSpot su tp oq
  have X_BadPiece := xcf_mk (G := ⟨K, mg, cl⟩) (P := l.prog) (c := 3) (x := "BadPiece") xs_BadPiece hc_BadPiece (PySem.W.mg_of X N aC_BadPiece) lC_BadPiece rv_BadPiece xb_BadPiece lI_BadPiece cI_BadPiece lcd_BadPiece v2_BadPiece pf_BadPiece lcc_BadPiece su tp oq
  have X_BadFront := xcf_mk (G := ⟨K, mg, cl⟩) (P := l.prog) (c := 4) (x := "BadFront") xs_BadFront hc_BadFront (PySem.W.mg_of X N aC_BadFront) lC_BadFront rv_BadFront xb_BadFront lI_BadFront cI_BadFront lcd_BadFront v2_BadFront pf_BadFront lcc_BadFront su tp oq
  have X_BadWorld := xcf_mk (G := ⟨K, mg, cl⟩) (P := l.prog) (c := 5) (x := "BadWorld") xs_BadWorld hc_BadWorld (PySem.W.mg_of X N aC_BadWorld) lC_BadWorld rv_BadWorld xb_BadWorld lI_BadWorld cI_BadWorld lcd_BadWorld v2_BadWorld pf_BadWorld lcc_BadWorld su tp oq
  have X_BadLevel := xcf_mk (G := ⟨K, mg, cl⟩) (P := l.prog) (c := 6) (x := "BadLevel") xs_BadLevel hc_BadLevel (PySem.W.mg_of X N aC_BadLevel) lC_BadLevel rv_BadLevel xb_BadLevel lI_BadLevel cI_BadLevel lcd_BadLevel v2_BadLevel pf_BadLevel lcc_BadLevel su tp oq
  have X_BadPlay := xcf_mk (G := ⟨K, mg, cl⟩) (P := l.prog) (c := 7) (x := "BadPlay") xs_BadPlay hc_BadPlay (PySem.W.mg_of X N aC_BadPlay) lC_BadPlay rv_BadPlay xb_BadPlay lI_BadPlay cI_BadPlay lcd_BadPlay v2_BadPlay pf_BadPlay lcc_BadPlay su tp oq
  have X_BadPaper := xcf_mk (G := ⟨K, mg, cl⟩) (P := l.prog) (c := 8) (x := "BadPaper") xs_BadPaper hc_BadPaper (PySem.W.mg_of X N aC_BadPaper) lC_BadPaper rv_BadPaper xb_BadPaper lI_BadPaper cI_BadPaper lcd_BadPaper v2_BadPaper pf_BadPaper lcc_BadPaper su tp oq
  have X_Misfit := xcf_mk (G := ⟨K, mg, cl⟩) (P := l.prog) (c := 9) (x := "Misfit") xs_Misfit hc_Misfit (PySem.W.mg_of X N aC_Misfit) lC_Misfit rv_Misfit xb_Misfit lI_Misfit cI_Misfit lcd_Misfit v2_Misfit pf_Misfit lcc_Misfit su tp oq
  have X_NoName := xcf_mk (G := ⟨K, mg, cl⟩) (P := l.prog) (c := 10) (x := "NoName") xs_NoName hc_NoName (PySem.W.mg_of X N aC_NoName) lC_NoName rv_NoName xb_NoName lI_NoName cI_NoName lcd_NoName v2_NoName pf_NoName lcc_NoName su tp oq
  have X_NoPiece := xcf_mk (G := ⟨K, mg, cl⟩) (P := l.prog) (c := 11) (x := "NoPiece") xs_NoPiece hc_NoPiece (PySem.W.mg_of X N aC_NoPiece) lC_NoPiece rv_NoPiece xb_NoPiece lI_NoPiece cI_NoPiece lcd_NoPiece v2_NoPiece pf_NoPiece lcc_NoPiece su tp oq
  have X_Twice := xcf_mk (G := ⟨K, mg, cl⟩) (P := l.prog) (c := 12) (x := "Twice") xs_Twice hc_Twice (PySem.W.mg_of X N aC_Twice) lC_Twice rv_Twice xb_Twice lI_Twice cI_Twice lcd_Twice v2_Twice pf_Twice lcc_Twice su tp oq
  have X_Refused := xcf_mk (G := ⟨K, mg, cl⟩) (P := l.prog) (c := 14) (x := "Refused") xs_Refused hc_Refused (PySem.W.mg_of X N aC_Refused) lC_Refused rv_Refused xb_Refused lI_Refused cI_Refused lcd_Refused v2_Refused pf_Refused lcc_Refused su tp oq
  have X_TooMany := xcf_mk (G := ⟨K, mg, cl⟩) (P := l.prog) (c := 13) (x := "TooMany") xs_TooMany hc_TooMany (PySem.W.mg_of X N aC_TooMany) lC_TooMany rv_TooMany xb_TooMany lI_TooMany cI_TooMany lcd_TooMany v2_TooMany pf_TooMany lcc_TooMany su tp oq
  have X_BadText := xcf_mk (G := ⟨K, mg, cl⟩) (P := l.prog) (c := 16) (x := "BadText") xs_BadText hc_BadText (PySem.W.mg_of X N aC_BadText) lC_BadText rv_BadText xb_BadText lI_BadText cI_BadText lcd_BadText v2_BadText pf_BadText lcc_BadText su tp oq
  have X_BadLine := xcf_mk (G := ⟨K, mg, cl⟩) (P := l.prog) (c := 17) (x := "BadLine") xs_BadLine hc_BadLine (PySem.W.mg_of X N aC_BadLine) lC_BadLine rv_BadLine xb_BadLine lI_BadLine cI_BadLine lcd_BadLine v2_BadLine pf_BadLine lcc_BadLine su tp oq
  have X_Nothing := xcf_mk (G := ⟨K, mg, cl⟩) (P := l.prog) (c := 15) (x := "Nothing") xs_Nothing hc_Nothing (PySem.W.mg_of X N aC_Nothing) lC_Nothing rv_Nothing xb_Nothing lI_Nothing cI_Nothing lcd_Nothing v2_Nothing pf_Nothing lcc_Nothing su tp oq
  obtain ⟨fdd, hfd⟩ : ∃ fdd : Nat → FuncData, fdd = fun c => [(PySem.W.ksFn "__init__" "BadNumber.__init__" (defArgs s_BadNumber) (defBody s_BadNumber) (defScope s_BadNumber) .none kV_BadNumber dc_BadNumber pm_BadNumber an_BadNumber (.ref cda_BadNumber) ct_BadNumber cc_BadNumber), PySem.W.ksFn "__init__" "BadNumber.__init__" (defArgs s_BadNumber) (defBody s_BadNumber) (defScope s_BadNumber) .none kV_BadNumber dc_BadNumber pm_BadNumber an_BadNumber (.ref cda_BadNumber) ct_BadNumber cc_BadNumber, PySem.W.ksFn "__init__" "BadSpot.__init__" (defArgs s_BadSpot) (defBody s_BadSpot) (defScope s_BadSpot) .none kV_BadSpot dc_BadSpot pm_BadSpot an_BadSpot (.ref cda_BadSpot) ct_BadSpot cc_BadSpot, PySem.W.ksFn "__init__" "BadPiece.__init__" (defArgs s_BadPiece) (defBody s_BadPiece) (defScope s_BadPiece) .none kV_BadPiece dc_BadPiece pm_BadPiece an_BadPiece (.ref cda_BadPiece) ct_BadPiece cc_BadPiece, PySem.W.ksFn "__init__" "BadFront.__init__" (defArgs s_BadFront) (defBody s_BadFront) (defScope s_BadFront) .none kV_BadFront dc_BadFront pm_BadFront an_BadFront (.ref cda_BadFront) ct_BadFront cc_BadFront, PySem.W.ksFn "__init__" "BadWorld.__init__" (defArgs s_BadWorld) (defBody s_BadWorld) (defScope s_BadWorld) .none kV_BadWorld dc_BadWorld pm_BadWorld an_BadWorld (.ref cda_BadWorld) ct_BadWorld cc_BadWorld, PySem.W.ksFn "__init__" "BadLevel.__init__" (defArgs s_BadLevel) (defBody s_BadLevel) (defScope s_BadLevel) .none kV_BadLevel dc_BadLevel pm_BadLevel an_BadLevel (.ref cda_BadLevel) ct_BadLevel cc_BadLevel, PySem.W.ksFn "__init__" "BadPlay.__init__" (defArgs s_BadPlay) (defBody s_BadPlay) (defScope s_BadPlay) .none kV_BadPlay dc_BadPlay pm_BadPlay an_BadPlay (.ref cda_BadPlay) ct_BadPlay cc_BadPlay, PySem.W.ksFn "__init__" "BadPaper.__init__" (defArgs s_BadPaper) (defBody s_BadPaper) (defScope s_BadPaper) .none kV_BadPaper dc_BadPaper pm_BadPaper an_BadPaper (.ref cda_BadPaper) ct_BadPaper cc_BadPaper, PySem.W.ksFn "__init__" "Misfit.__init__" (defArgs s_Misfit) (defBody s_Misfit) (defScope s_Misfit) .none kV_Misfit dc_Misfit pm_Misfit an_Misfit (.ref cda_Misfit) ct_Misfit cc_Misfit, PySem.W.ksFn "__init__" "NoName.__init__" (defArgs s_NoName) (defBody s_NoName) (defScope s_NoName) .none kV_NoName dc_NoName pm_NoName an_NoName (.ref cda_NoName) ct_NoName cc_NoName, PySem.W.ksFn "__init__" "NoPiece.__init__" (defArgs s_NoPiece) (defBody s_NoPiece) (defScope s_NoPiece) .none kV_NoPiece dc_NoPiece pm_NoPiece an_NoPiece (.ref cda_NoPiece) ct_NoPiece cc_NoPiece, PySem.W.ksFn "__init__" "Twice.__init__" (defArgs s_Twice) (defBody s_Twice) (defScope s_Twice) .none kV_Twice dc_Twice pm_Twice an_Twice (.ref cda_Twice) ct_Twice cc_Twice, PySem.W.ksFn "__init__" "TooMany.__init__" (defArgs s_TooMany) (defBody s_TooMany) (defScope s_TooMany) .none kV_TooMany dc_TooMany pm_TooMany an_TooMany (.ref cda_TooMany) ct_TooMany cc_TooMany, PySem.W.ksFn "__init__" "Refused.__init__" (defArgs s_Refused) (defBody s_Refused) (defScope s_Refused) .none kV_Refused dc_Refused pm_Refused an_Refused (.ref cda_Refused) ct_Refused cc_Refused, PySem.W.ksFn "__init__" "Nothing.__init__" (defArgs s_Nothing) (defBody s_Nothing) (defScope s_Nothing) .none kV_Nothing dc_Nothing pm_Nothing an_Nothing (.ref cda_Nothing) ct_Nothing cc_Nothing, PySem.W.ksFn "__init__" "BadText.__init__" (defArgs s_BadText) (defBody s_BadText) (defScope s_BadText) .none kV_BadText dc_BadText pm_BadText an_BadText (.ref cda_BadText) ct_BadText cc_BadText, PySem.W.ksFn "__init__" "BadLine.__init__" (defArgs s_BadLine) (defBody s_BadLine) (defScope s_BadLine) .none kV_BadLine dc_BadLine pm_BadLine an_BadLine (.ref cda_BadLine) ct_BadLine cc_BadLine].getD c (PySem.W.ksFn "__init__" "BadNumber.__init__" (defArgs s_BadNumber) (defBody s_BadNumber) (defScope s_BadNumber) .none kV_BadNumber dc_BadNumber pm_BadNumber an_BadNumber (.ref cda_BadNumber) ct_BadNumber cc_BadNumber) := ⟨_, rfl⟩
  have hi_BadNumber : fi 1 = fi_BadNumber := by rw [hfi]; rfl
  have hf_BadNumber : fdd 1 = PySem.W.ksFn "__init__" "BadNumber.__init__" (defArgs s_BadNumber) (defBody s_BadNumber) (defScope s_BadNumber) .none kV_BadNumber dc_BadNumber pm_BadNumber an_BadNumber (.ref cda_BadNumber) ct_BadNumber cc_BadNumber := by rw [hfd]; rfl
  have hi_BadSpot : fi 2 = fi_BadSpot := by rw [hfi]; rfl
  have hf_BadSpot : fdd 2 = PySem.W.ksFn "__init__" "BadSpot.__init__" (defArgs s_BadSpot) (defBody s_BadSpot) (defScope s_BadSpot) .none kV_BadSpot dc_BadSpot pm_BadSpot an_BadSpot (.ref cda_BadSpot) ct_BadSpot cc_BadSpot := by rw [hfd]; rfl
  have hi_BadPiece : fi 3 = fi_BadPiece := by rw [hfi]; rfl
  have hf_BadPiece : fdd 3 = PySem.W.ksFn "__init__" "BadPiece.__init__" (defArgs s_BadPiece) (defBody s_BadPiece) (defScope s_BadPiece) .none kV_BadPiece dc_BadPiece pm_BadPiece an_BadPiece (.ref cda_BadPiece) ct_BadPiece cc_BadPiece := by rw [hfd]; rfl
  have hi_BadFront : fi 4 = fi_BadFront := by rw [hfi]; rfl
  have hf_BadFront : fdd 4 = PySem.W.ksFn "__init__" "BadFront.__init__" (defArgs s_BadFront) (defBody s_BadFront) (defScope s_BadFront) .none kV_BadFront dc_BadFront pm_BadFront an_BadFront (.ref cda_BadFront) ct_BadFront cc_BadFront := by rw [hfd]; rfl
  have hi_BadWorld : fi 5 = fi_BadWorld := by rw [hfi]; rfl
  have hf_BadWorld : fdd 5 = PySem.W.ksFn "__init__" "BadWorld.__init__" (defArgs s_BadWorld) (defBody s_BadWorld) (defScope s_BadWorld) .none kV_BadWorld dc_BadWorld pm_BadWorld an_BadWorld (.ref cda_BadWorld) ct_BadWorld cc_BadWorld := by rw [hfd]; rfl
  have hi_BadLevel : fi 6 = fi_BadLevel := by rw [hfi]; rfl
  have hf_BadLevel : fdd 6 = PySem.W.ksFn "__init__" "BadLevel.__init__" (defArgs s_BadLevel) (defBody s_BadLevel) (defScope s_BadLevel) .none kV_BadLevel dc_BadLevel pm_BadLevel an_BadLevel (.ref cda_BadLevel) ct_BadLevel cc_BadLevel := by rw [hfd]; rfl
  have hi_BadPlay : fi 7 = fi_BadPlay := by rw [hfi]; rfl
  have hf_BadPlay : fdd 7 = PySem.W.ksFn "__init__" "BadPlay.__init__" (defArgs s_BadPlay) (defBody s_BadPlay) (defScope s_BadPlay) .none kV_BadPlay dc_BadPlay pm_BadPlay an_BadPlay (.ref cda_BadPlay) ct_BadPlay cc_BadPlay := by rw [hfd]; rfl
  have hi_BadPaper : fi 8 = fi_BadPaper := by rw [hfi]; rfl
  have hf_BadPaper : fdd 8 = PySem.W.ksFn "__init__" "BadPaper.__init__" (defArgs s_BadPaper) (defBody s_BadPaper) (defScope s_BadPaper) .none kV_BadPaper dc_BadPaper pm_BadPaper an_BadPaper (.ref cda_BadPaper) ct_BadPaper cc_BadPaper := by rw [hfd]; rfl
  have hi_Misfit : fi 9 = fi_Misfit := by rw [hfi]; rfl
  have hf_Misfit : fdd 9 = PySem.W.ksFn "__init__" "Misfit.__init__" (defArgs s_Misfit) (defBody s_Misfit) (defScope s_Misfit) .none kV_Misfit dc_Misfit pm_Misfit an_Misfit (.ref cda_Misfit) ct_Misfit cc_Misfit := by rw [hfd]; rfl
  have hi_NoName : fi 10 = fi_NoName := by rw [hfi]; rfl
  have hf_NoName : fdd 10 = PySem.W.ksFn "__init__" "NoName.__init__" (defArgs s_NoName) (defBody s_NoName) (defScope s_NoName) .none kV_NoName dc_NoName pm_NoName an_NoName (.ref cda_NoName) ct_NoName cc_NoName := by rw [hfd]; rfl
  have hi_NoPiece : fi 11 = fi_NoPiece := by rw [hfi]; rfl
  have hf_NoPiece : fdd 11 = PySem.W.ksFn "__init__" "NoPiece.__init__" (defArgs s_NoPiece) (defBody s_NoPiece) (defScope s_NoPiece) .none kV_NoPiece dc_NoPiece pm_NoPiece an_NoPiece (.ref cda_NoPiece) ct_NoPiece cc_NoPiece := by rw [hfd]; rfl
  have hi_Twice : fi 12 = fi_Twice := by rw [hfi]; rfl
  have hf_Twice : fdd 12 = PySem.W.ksFn "__init__" "Twice.__init__" (defArgs s_Twice) (defBody s_Twice) (defScope s_Twice) .none kV_Twice dc_Twice pm_Twice an_Twice (.ref cda_Twice) ct_Twice cc_Twice := by rw [hfd]; rfl
  have hi_Refused : fi 14 = fi_Refused := by rw [hfi]; rfl
  have hf_Refused : fdd 14 = PySem.W.ksFn "__init__" "Refused.__init__" (defArgs s_Refused) (defBody s_Refused) (defScope s_Refused) .none kV_Refused dc_Refused pm_Refused an_Refused (.ref cda_Refused) ct_Refused cc_Refused := by rw [hfd]; rfl
  have hi_TooMany : fi 13 = fi_TooMany := by rw [hfi]; rfl
  have hf_TooMany : fdd 13 = PySem.W.ksFn "__init__" "TooMany.__init__" (defArgs s_TooMany) (defBody s_TooMany) (defScope s_TooMany) .none kV_TooMany dc_TooMany pm_TooMany an_TooMany (.ref cda_TooMany) ct_TooMany cc_TooMany := by rw [hfd]; rfl
  have hi_BadText : fi 16 = fi_BadText := by rw [hfi]; rfl
  have hf_BadText : fdd 16 = PySem.W.ksFn "__init__" "BadText.__init__" (defArgs s_BadText) (defBody s_BadText) (defScope s_BadText) .none kV_BadText dc_BadText pm_BadText an_BadText (.ref cda_BadText) ct_BadText cc_BadText := by rw [hfd]; rfl
  have hi_BadLine : fi 17 = fi_BadLine := by rw [hfi]; rfl
  have hf_BadLine : fdd 17 = PySem.W.ksFn "__init__" "BadLine.__init__" (defArgs s_BadLine) (defBody s_BadLine) (defScope s_BadLine) .none kV_BadLine dc_BadLine pm_BadLine an_BadLine (.ref cda_BadLine) ct_BadLine cc_BadLine := by rw [hfd]; rfl
  have hi_Nothing : fi 15 = fi_Nothing := by rw [hfi]; rfl
  have hf_Nothing : fdd 15 = PySem.W.ksFn "__init__" "Nothing.__init__" (defArgs s_Nothing) (defBody s_Nothing) (defScope s_Nothing) .none kV_Nothing dc_Nothing pm_Nothing an_Nothing (.ref cda_Nothing) ct_Nothing cc_Nothing := by rw [hfd]; rfl
  clear hfd hfi
  have CL : Cl ⟨K, mg, cl⟩ l.prog fi fdd := by
    constructor
    · show mg _ = some (.ref (cl 1)); rw [hc_BadNumber]; exact PySem.W.mg_of X N aC_BadNumber
    · show mg _ = some (.ref (cl 2)); rw [hc_BadSpot]; exact PySem.W.mg_of X N aC_BadSpot
    · show mg _ = some (.ref (cl 3)); rw [hc_BadPiece]; exact PySem.W.mg_of X N aC_BadPiece
    · show mg _ = some (.ref (cl 4)); rw [hc_BadFront]; exact PySem.W.mg_of X N aC_BadFront
    · show mg _ = some (.ref (cl 5)); rw [hc_BadWorld]; exact PySem.W.mg_of X N aC_BadWorld
    · show mg _ = some (.ref (cl 6)); rw [hc_BadLevel]; exact PySem.W.mg_of X N aC_BadLevel
    · show mg _ = some (.ref (cl 7)); rw [hc_BadPlay]; exact PySem.W.mg_of X N aC_BadPlay
    · show mg _ = some (.ref (cl 8)); rw [hc_BadPaper]; exact PySem.W.mg_of X N aC_BadPaper
    · show mg _ = some (.ref (cl 9)); rw [hc_Misfit]; exact PySem.W.mg_of X N aC_Misfit
    · show mg _ = some (.ref (cl 10)); rw [hc_NoName]; exact PySem.W.mg_of X N aC_NoName
    · show mg _ = some (.ref (cl 11)); rw [hc_NoPiece]; exact PySem.W.mg_of X N aC_NoPiece
    · show mg _ = some (.ref (cl 12)); rw [hc_Twice]; exact PySem.W.mg_of X N aC_Twice
    · show mg _ = some (.ref (cl 14)); rw [hc_Refused]; exact PySem.W.mg_of X N aC_Refused
    · show mg _ = some (.ref (cl 13)); rw [hc_TooMany]; exact PySem.W.mg_of X N aC_TooMany
    · show mg _ = some (.ref (cl 16)); rw [hc_BadText]; exact PySem.W.mg_of X N aC_BadText
    · show mg _ = some (.ref (cl 17)); rw [hc_BadLine]; exact PySem.W.mg_of X N aC_BadLine
    · show mg _ = some (.ref (cl 15)); rw [hc_Nothing]; exact PySem.W.mg_of X N aC_Nothing
    · show mg _ = some (.ref (cl 0)); rw [hc_LaneError]; exact PySem.W.mg_of X N aC_LaneError
    · rw [hi_BadNumber, hf_BadNumber]; exact X_BadNumber
    · rw [hf_BadNumber]; exact bdX_mk fun self us ws r h1 h2 h3 => match us, ws, h1, h2, h3 with | [_], [], _, _, h3 => by cases h3; rfl
    · rw [hf_BadNumber]; exact bdX_mk fun self us ws r h1 h2 h3 => match us, ws, h1, h2, h3 with | [], [_], _, _, h3 => by cases h3; rfl
    · rw [hi_BadSpot, hf_BadSpot]; exact X_BadSpot
    · rw [hf_BadSpot]; exact bdX_mk fun self us ws r h1 h2 h3 => match us, ws, h1, h2, h3 with | [_], [], _, _, h3 => by cases h3; rfl
    · rw [hf_BadSpot]; exact bdX_mk fun self us ws r h1 h2 h3 => match us, ws, h1, h2, h3 with | [], [_], _, _, h3 => by cases h3; rfl
    · rw [hi_BadPiece, hf_BadPiece]; exact X_BadPiece
    · rw [hf_BadPiece]; exact bdX_mk fun self us ws r h1 h2 h3 => match us, ws, h1, h2, h3 with | [_], [], _, _, h3 => by cases h3; rfl
    · rw [hf_BadPiece]; exact bdX_mk fun self us ws r h1 h2 h3 => match us, ws, h1, h2, h3 with | [], [_], _, _, h3 => by cases h3; rfl
    · rw [hi_BadFront, hf_BadFront]; exact X_BadFront
    · rw [hf_BadFront]; exact bdX_mk fun self us ws r h1 h2 h3 => match us, ws, h1, h2, h3 with | [_], [], _, _, h3 => by cases h3; rfl
    · rw [hf_BadFront]; exact bdX_mk fun self us ws r h1 h2 h3 => match us, ws, h1, h2, h3 with | [], [_], _, _, h3 => by cases h3; rfl
    · rw [hi_BadWorld, hf_BadWorld]; exact X_BadWorld
    · rw [hf_BadWorld]; exact bdX_mk fun self us ws r h1 h2 h3 => match us, ws, h1, h2, h3 with | [_], [], _, _, h3 => by cases h3; rfl
    · rw [hf_BadWorld]; exact bdX_mk fun self us ws r h1 h2 h3 => match us, ws, h1, h2, h3 with | [], [_], _, _, h3 => by cases h3; rfl
    · rw [hi_BadLevel, hf_BadLevel]; exact X_BadLevel
    · rw [hf_BadLevel]; exact bdX_mk fun self us ws r h1 h2 h3 => match us, ws, h1, h2, h3 with | [_], [], _, _, h3 => by cases h3; rfl
    · rw [hf_BadLevel]; exact bdX_mk fun self us ws r h1 h2 h3 => match us, ws, h1, h2, h3 with | [], [_], _, _, h3 => by cases h3; rfl
    · rw [hi_BadPlay, hf_BadPlay]; exact X_BadPlay
    · rw [hf_BadPlay]; exact bdX_mk fun self us ws r h1 h2 h3 => match us, ws, h1, h2, h3 with | [_], [], _, _, h3 => by cases h3; rfl
    · rw [hf_BadPlay]; exact bdX_mk fun self us ws r h1 h2 h3 => match us, ws, h1, h2, h3 with | [], [_], _, _, h3 => by cases h3; rfl
    · rw [hi_BadPaper, hf_BadPaper]; exact X_BadPaper
    · rw [hf_BadPaper]; exact bdX_mk fun self us ws r h1 h2 h3 => match us, ws, h1, h2, h3 with | [_], [], _, _, h3 => by cases h3; rfl
    · rw [hf_BadPaper]; exact bdX_mk fun self us ws r h1 h2 h3 => match us, ws, h1, h2, h3 with | [], [_], _, _, h3 => by cases h3; rfl
    · rw [hi_Misfit, hf_Misfit]; exact X_Misfit
    · rw [hf_Misfit]; exact bdX_mk fun self us ws r h1 h2 h3 => match us, ws, h1, h2, h3 with | [_], [], _, _, h3 => by cases h3; rfl
    · rw [hf_Misfit]; exact bdX_mk fun self us ws r h1 h2 h3 => match us, ws, h1, h2, h3 with | [], [_], _, _, h3 => by cases h3; rfl
    · rw [hi_NoName, hf_NoName]; exact X_NoName
    · rw [hf_NoName]; exact bdX_mk fun self us ws r h1 h2 h3 => match us, ws, h1, h2, h3 with | [_], [], _, _, h3 => by cases h3; rfl
    · rw [hf_NoName]; exact bdX_mk fun self us ws r h1 h2 h3 => match us, ws, h1, h2, h3 with | [], [_], _, _, h3 => by cases h3; rfl
    · rw [hi_NoPiece, hf_NoPiece]; exact X_NoPiece
    · rw [hf_NoPiece]; exact bdX_mk fun self us ws r h1 h2 h3 => match us, ws, h1, h2, h3 with | [_], [], _, _, h3 => by cases h3; rfl
    · rw [hf_NoPiece]; exact bdX_mk fun self us ws r h1 h2 h3 => match us, ws, h1, h2, h3 with | [], [_], _, _, h3 => by cases h3; rfl
    · rw [hi_Twice, hf_Twice]; exact X_Twice
    · rw [hf_Twice]; exact bdX_mk fun self us ws r h1 h2 h3 => match us, ws, h1, h2, h3 with | [_], [], _, _, h3 => by cases h3; rfl
    · rw [hf_Twice]; exact bdX_mk fun self us ws r h1 h2 h3 => match us, ws, h1, h2, h3 with | [], [_], _, _, h3 => by cases h3; rfl
    · rw [hi_Refused, hf_Refused]; exact X_Refused
    · rw [hf_Refused]; exact bdX_mk fun self us ws r h1 h2 h3 => match us, ws, h1, h2, h3 with | [_], [], _, _, h3 => by cases h3; rfl
    · rw [hf_Refused]; exact bdX_mk fun self us ws r h1 h2 h3 => match us, ws, h1, h2, h3 with | [], [_], _, _, h3 => by cases h3; rfl
    · rw [hi_TooMany, hf_TooMany]; exact X_TooMany
    · rw [hf_TooMany]; exact bdX_mk fun self us ws r h1 h2 h3 => match us, ws, h1, h2, h3 with | [], [_, _], _, _, h3 => by cases h3; rfl
    · rw [hf_TooMany]; exact bdX_mk fun self us ws r h1 h2 h3 => match us, ws, h1, h2, h3 with | [_, _], [], _, _, h3 => by cases h3; rfl
    · rw [hi_BadText, hf_BadText]; exact X_BadText
    · rw [hf_BadText]; exact bdX_mk fun self us ws r h1 h2 h3 => match us, ws, h1, h2, h3 with | [], [_, _], _, _, h3 => by cases h3; rfl
    · rw [hf_BadText]; exact bdX_mk fun self us ws r h1 h2 h3 => match us, ws, h1, h2, h3 with | [_, _], [], _, _, h3 => by cases h3; rfl
    · rw [hi_BadLine, hf_BadLine]; exact X_BadLine
    · rw [hf_BadLine]; exact bdX_mk fun self us ws r h1 h2 h3 => match us, ws, h1, h2, h3 with | [], [_, _], _, _, h3 => by cases h3; rfl
    · rw [hf_BadLine]; exact bdX_mk fun self us ws r h1 h2 h3 => match us, ws, h1, h2, h3 with | [_, _], [], _, _, h3 => by cases h3; rfl
    · rw [hi_Nothing, hf_Nothing]; exact X_Nothing
    · rw [hf_Nothing]; exact bdX_mk fun self us ws r h1 h2 h3 => match us, ws, h1, h2, h3 with | [], [], _, _, h3 => by cases h3; rfl
    · exact exB_ok (by show exB K cl _ _ _ = true; rw [hcl]; exact eb_LaneError)
    · exact xaB_ok (by show xaB K cl _ _ = true; rw [hcl]; exact ab_part)
    · exact xaB_ok (by show xaB K cl _ _ = true; rw [hcl]; exact ab_value)
    · exact xaB_ok (by show xaB K cl _ _ = true; rw [hcl]; exact ab_why)
    · exact xaB_ok (by show xaB K cl _ _ = true; rw [hcl]; exact ab_what)
    · exact xaB_ok (by show xaB K cl _ _ = true; rw [hcl]; exact ab_most)
    · exact xaB_ok (by show xaB K cl _ _ = true; rw [hcl]; exact ab_line)
    · exact xaB_ok (by show xaB K cl _ _ = true; rw [hcl]; exact ab_item)
    · exact xaB_ok (by show xaB K cl _ _ = true; rw [hcl]; exact ab_error)
  refine ⟨cl, PySem.W.fnOf "law" "law" (defArgs s_law) (defBody s_law) (defScope s_law) .none kV_law dc_law pm_law an_law cd_law ct_law, fun s v => .of_eq rfl, fun base _ _ => ?_⟩
  have G__law_nut := gf__law_nut (P := l.prog) (w := w) (base := base) T TBk CL D__law_nut  
  have G__law_crack := gf__law_crack (P := l.prog) (w := w) (base := base) T TBk CL D__law_crack  
  have G__law_pick := gf__law_pick (P := l.prog) (w := w) (base := base) T TBk CL D__law_pick D__law_crack G__law_crack 
  have G__law_value := gf__law_value (P := l.prog) (w := w) (base := base) T TBk CL D__law_value D__law_pick G__law_pick 
  have G__law_first := gf__law_first (P := l.prog) (w := w) (base := base) T TBk CL D__law_first  
  have G__law_named := gf__law_named (P := l.prog) (w := w) (base := base) T TBk CL D__law_named  
  have G__law_last := gf__law_last (P := l.prog) (w := w) (base := base) T TBk CL D__law_last  
  have G__law_kinds := gf__law_kinds (P := l.prog) (w := w) (base := base) T TBk CL D__law_kinds  
  have G__law_fields := gf__law_fields (P := l.prog) (w := w) (base := base) T TBk CL D__law_fields  
  have G__law_raises := gf__law_raises (P := l.prog) (w := w) (base := base) T TBk CL D__law_raises D__law_last G__law_last D__law_named G__law_named D__law_first G__law_first 
  have G__law_right := gf__law_right (P := l.prog) (w := w) (base := base) T TBk CL D__law_right D__law_raises G__law_raises D__law_kinds G__law_kinds D__law_fields G__law_fields 
  have G_law := gf_law (P := l.prog) (w := w) (base := base) T TBk CL D_law D__law_nut G__law_nut D__law_value G__law_value D__law_right G__law_right 
  exact G_law
end Z

set_option Elab.async false
set_option linter.all false
set_option maxRecDepth 100000
set_option maxHeartbeats 4000000
set_option autoImplicit false
namespace Z
open PySem PySem.Spec L2

/-! ## k00: what is drawn -/
theorem small00 : Small 108127 8111 2147483563 85103 2147483579 2147483549 64 := ⟨by decide, by decide, by decide, by decide, by decide, by decide, by decide⟩
theorem crack_eq : m__law_crack = cutM (runDef 2 6 (bDrawA 108127 8111 2147483563 85103 2147483579 2147483549 64)) := rfl
theorem crack {n : Nat} {cells : List Int} {many : Int} (hm : 0 < many) (hm2 : many.natAbs.log2 < 9000) : Draws n cells (2 ^ 20) (fun d => ∃ r, d = .int r ∧ 0 ≤ r ∧ r < many) 1 (m__law_crack [.loc n, .int many]) := by
  intro S t l hw hn h0 hT
  rw [crack_eq]
  obtain ⟨r, t', l', e, h1, h2, h3, h4⟩ := drawA small00 hn ⟨h0, by omega⟩ hm hm2
  exact ⟨_, t', l', e, ⟨r, rfl, h1, h2⟩, h3, h4⟩
theorem log_of {many : Int} (h : many.natAbs < 2 ^ 100) : many.natAbs.log2 < 9000 := log_small h (by decide) (by decide)
theorem pick {n : Nat} {cells : List Int} {l : List D} (hne : l ≠ []) (hlen : l.length ≤ 1000) : Draws n cells (2 ^ 20) (fun d => d ∈ l) 1 (m__law_pick [.loc n, .lst l]) := by
  intro S t l0 hw hn h0 hT
  have hpos : 0 < (l.length : Int) := by
    cases l with
    | nil => exact absurd rfl hne
    | cons a b => simp
  obtain ⟨y, t', l', e, ⟨r, rfl, r0, r1⟩, h3, h4⟩ := crack (n := n) (cells := cells) hpos (log_of (by omega)) S t l0 hw hn h0 hT
  obtain ⟨v, hv, hmem⟩ := atI_of (xs := l) r0 r1
  refine ⟨v, t', l', ?_, hmem, h3, h4⟩
  simp [m__law_pick, b__law_pick, e, hv, cut_len]
theorem ev_dict {ks : List Key} {vs : List D} {l : ML} {ρ : Env'} {S : Store} (hl : ∀ S, l ρ S = .ok vs S) (hlen : ks.length = vs.length) (hnd : ks.Nodup) (h15 : ks.length ≤ 15) (hc : closedL S.length vs = true) : mCut (mFrz (mDict ks l)) ρ S = .ok (.dct ks vs) S := by
  show cut S ((mDict ks l ρ S).bind frzD) = _
  have h : (S ++ [Ent.dct [] []])[S.length]? = some (.dct [] []) := by simp
  have h1 : (S ++ [Ent.dct [] []]).set S.length (.dct ks vs) = S ++ [.dct ks vs] := by simp
  have h3 : (S ++ [Ent.dct ks vs])[S.length]? = some (.dct ks vs) := by simp
  have h2 : (S ++ [Ent.dct ks vs]).set S.length .dead = S ++ [.dead] := by simp
  unfold mDict
  rw [hl]
  simp only [bind_ok, dctNew, h]
  rw [if_pos ⟨hlen, hnd, h15⟩]
  simp only [bind_ok, h1, frzD, h3, h2]
  exact cut_app hc
def vals : List D := [.non, .bl true, .int 5, .int (-7), .tup [.int 7, .int 2], .str ("piece" : Str), .lst [.int 1, .lst [.int 2]], .dct [(Sum.inr ("a" : Str) : Key)] [.int 1], .tup [], .str ("" : Str), .int 1000000000000000000000000000000]
theorem value {n : Nat} {cells : List Int} : Draws n cells (2 ^ 20) (fun d => d ∈ vals) 1 (m__law_value [.loc n]) := by
  intro S t l0 hw hn h0 hT
  obtain ⟨v, t', l', e, hmem, h3, h4⟩ := pick (n := n) (cells := cells) (l := vals) (by simp [vals]) (by simp [vals]) S t l0 hw hn h0 hT
  refine ⟨v, t', l', ?_, hmem, h3, h4⟩
  have hd : ∀ ρ S, mCut (mFrz (mDict [(Sum.inr ("a" : Str) : Key)] (mConsL (mC (.int 1)) mNilL))) ρ S = .ok (.dct [(Sum.inr ("a" : Str) : Key)] [.int 1]) S := fun ρ S => ev_dict (fun S => by simp) rfl (by simp) (by simp) rfl
  have hp : ∀ S, powD (.int 10) (.int 30) S = .ok (.int 1000000000000000000000000000000) S := fun S => powD_ok (by decide)
  unfold vals at e
  simp [m__law_value, b__law_value, hd, hp, e, cut_len]

/-! ## which error -/
/-- the class, its fields' names and values, last first -/
def excOf (i : Nat) (one other : D) : Nat × List Str × List D :=
  if i < 9 then (i + 1, ["part"], [one])
  else if i < 12 then (i + 1, ["value"], [one])
  else if i = 12 then (14, ["why"], [one])
  else if i = 13 then (13, ["most", "what"], [other, one])
  else if i = 14 then (16, ["item", "line"], [other, one])
  else if i = 15 then (17, ["error", "line"], [other, one])
  else (15, [], [])
theorem eqi (i j : Int) (S : Store) : eqD (.int i) (.int j) S = .ok (.bl (decide (i = j))) S := by simp [eqD, eqB, eqScal]
theorem step_no {c : MB} {a rest : MS} {ρ : Env'} {S : Store} (h : c ρ S = .ok false S) : sSeq (sIf c a sPass) rest ρ S = rest ρ S := by
  simp only [es_seq, es_if, h, srRes_ok, Bool.false_eq_true, if_false, es_pass, seq_nx]
theorem step_ex {c : MB} {a rest : MS} {ρ : Env'} {S : Store} {n : Nat} {ks : List Str} {vs : List D} (h : c ρ S = .ok true S) (h2 : a ρ S = .ex ρ n ks vs S) : sSeq (sIf c a sPass) rest ρ S = .ex ρ n ks vs S := by
  simp only [es_seq, es_if, h, srRes_ok, if_true, h2, seq_ex]
theorem test_eq {i : Int} (j : Int) {ρ : Env'} (h : ρ[0]? = some (some (.int i))) (S : Store) : mBlT (mBin eqD (mVar 0) (mC (.int j))) ρ S = .ok (decide (i = j)) S := by
  simp [h, eqi]
theorem no_ {i : Int} {j : Int} {ρ : Env'} {a rest : MS} {S : Store} (h : ρ[0]? = some (some (.int i))) (hn : decide (i = j) = false) : sSeq (sIf (mBlT (mBin eqD (mVar 0) (mC (.int j)))) a sPass) rest ρ S = rest ρ S :=
  step_no (by rw [test_eq j h, hn])
theorem yes_ {i : Int} {j : Int} {ρ : Env'} {a rest : MS} {S : Store} {n : Nat} {ks : List Str} {vs : List D} (h : ρ[0]? = some (some (.int i))) (hy : decide (i = j) = true) (h2 : a ρ S = .ex ρ n ks vs S) : sSeq (sIf (mBlT (mBin eqD (mVar 0) (mC (.int j)))) a sPass) rest ρ S = .ex ρ n ks vs S :=
  step_ex (by rw [test_eq j h, hy]) h2
theorem raiseP1 {c : Nat} {f : Str} {one : D} {ρ : Env'} (h : ρ[1]? = some (some one)) (S : Store) : sRaise c [f] 1 0 [.ps 0] (mConsL (mVar 1) mNilL) mNilL ρ S = .ex ρ c [f] [one] S := by
  simp [h, fill]
theorem raiseK1 {c : Nat} {f : Str} {one : D} {ρ : Env'} (h : ρ[1]? = some (some one)) (S : Store) : sRaise c [f] 0 1 [.kw 0] mNilL (mConsL (mVar 1) mNilL) ρ S = .ex ρ c [f] [one] S := by
  simp [h, fill]
theorem run_ex2 {b : MS} {x y : D} {S : Store} {n : Nat} {ks : List Str} {vs : List D} (h : b [some x, some y] S = .ex [some x, some y] n ks vs S) : cutM (runDef 2 2 b) [x, y] S = .ex n ks vs S := by
  show cut S (runDef 2 2 b [x, y] S) = _
  unfold runDef
  rw [if_pos (show [x, y].length = 2 from rfl)]
  show cut S (match b [some x, some y] S with
    | .nx _ S' => Res.ok D.non S'
    | .rt d S' => .ok d S'
    | .ex _ c ks vs S' => .ex c ks vs S'
    | _ => .bad) = _
  rw [h]
  exact cut_exS S n ks vs
theorem first_ok {i : Nat} (hi : i < 13) (one other : D) (S : Store) : m__law_first [.int i, one] S = .ex (excOf i one other).1 (excOf i one other).2.1 (excOf i one other).2.2 S := by
  refine run_ex2 ?_
  unfold b__law_first
  have h : i = 0 ∨ i = 1 ∨ i = 2 ∨ i = 3 ∨ i = 4 ∨ i = 5 ∨ i = 6 ∨ i = 7 ∨ i = 8 ∨ i = 9 ∨ i = 10 ∨ i = 11 ∨ i = 12 := by omega
  rcases h with rfl | rfl | rfl | rfl | rfl | rfl | rfl | rfl | rfl | rfl | rfl | rfl | rfl <;>
    (repeat (refine (no_ rfl (by decide)).trans ?_)) <;> first | exact yes_ rfl (by decide) (raiseP1 rfl S) | exact raiseP1 rfl S
theorem named_ok {i : Nat} (hi : i < 13) (one other : D) (S : Store) : m__law_named [.int i, one] S = .ex (excOf i one other).1 (excOf i one other).2.1 (excOf i one other).2.2 S := by
  refine run_ex2 ?_
  unfold b__law_named
  have h : i = 0 ∨ i = 1 ∨ i = 2 ∨ i = 3 ∨ i = 4 ∨ i = 5 ∨ i = 6 ∨ i = 7 ∨ i = 8 ∨ i = 9 ∨ i = 10 ∨ i = 11 ∨ i = 12 := by omega
  rcases h with rfl | rfl | rfl | rfl | rfl | rfl | rfl | rfl | rfl | rfl | rfl | rfl | rfl <;>
    (repeat (refine (no_ rfl (by decide)).trans ?_)) <;> first | exact yes_ rfl (by decide) (raiseK1 rfl S) | exact raiseK1 rfl S
theorem last_ok {i : Nat} (hi : 13 ≤ i) (hj : i < 17) (one other : D) (b : Bool) (S : Store) : m__law_last [.int i, one, other, .bl b] S = .ex (excOf i one other).1 (excOf i one other).2.1 (excOf i one other).2.2 S := by
  have h : i = 13 ∨ i = 14 ∨ i = 15 ∨ i = 16 := by omega
  rcases h with rfl | rfl | rfl | rfl <;> cases b <;> simp [m__law_last, b__law_last, excOf, eqi, truthD, fill, cut_exS]
theorem raises_ok {i : Nat} (hi : i < 17) (one other : D) (b : Bool) (S : Store) : m__law_raises [.int i, one, other, .bl b] S = .ex (excOf i one other).1 (excOf i one other).2.1 (excOf i one other).2.2 S := by
  by_cases h : i < 13
  · have h12 : ¬ (12 : Int) < (i : Int) := by omega
    cases b <;> simp [m__law_raises, b__law_raises, h12, truthD, first_ok h one other, named_ok h one other, cut_exS]
  · have h12 : (12 : Int) < (i : Int) := by omega
    simp [m__law_raises, b__law_raises, h12, last_ok (by omega) hi one other b, cut_exS]

/-! ## its kinds -/
def kl : List Nat := [1, 2, 3, 4, 5, 6, 7, 8, 9, 10, 11, 12, 14, 13, 16, 17, 15]
def kb : D → Bool
  | .tup [_, .bl x] => x
  | _ => false
def kf : D → D
  | .tup [.int i, _] => .int i
  | _ => .non
theorem kf_closed (d : D) (k : Nat) : closed k (kf d) = true := by
  unfold kf
  split <;> rfl
def ki (d : Nat) : ME := mCall (isiM tabL) (mConsL (mVar 0) (mConsL (mC (.cls d)) mNilL))
theorem ki_ok {c d : Nat} (hc : c < 18) (hd : d < 18) {ks : List Str} {vs : List D} {ρ : Env'} (h : ρ[0]? = some (some (.exn c ks vs))) (S : Store) : ki d ρ S = .ok (.bl (subL c d)) S := by
  have h2 : tabL (.exc c) (.cls d) = some (subL c d) := if_pos ⟨hc, hd⟩
  simp [ki, h, h2]
theorem kinds_eq : b__law_kinds = (sSeq (sAsg (mLst (mConsL (ki 1) (mConsL (ki 2) (mConsL (ki 3) (mConsL (ki 4) mNilL))))) (gNm 1)) (sSeq (sAsg (mBin addD (mVar 1) (mLst (mConsL (ki 5) (mConsL (ki 6) (mConsL (ki 7) (mConsL (ki 8) mNilL)))))) (gNm 1)) (sSeq (sAsg (mBin addD (mVar 1) (mLst (mConsL (ki 9) (mConsL (ki 10) (mConsL (ki 11) (mConsL (ki 12) mNilL)))))) (gNm 1)) (sSeq (sAsg (mBin addD (mVar 1) (mLst (mConsL (ki 14) (mConsL (ki 13) (mConsL (ki 16) (mConsL (ki 17) (mConsL (ki 15) mNilL))))))) (gNm 1)) (sRet (mCut (mFrz (mComp (mEnum (mConsL (mVar 1) mNilL)) [2, 3] (gMany 2 (gsCons (gNm 2) (gsCons (gNm 3) gsNil))) (mTst (mVar 3)) (mVar 2))))))))) := rfl
theorem kinds_c {c : Nat} (hc : c < 18) (ks : List Str) (vs : List D) (S : Store) : m__law_kinds [.exn c ks vs] S = .ok (.lst (((enumL (kl.map fun d => D.bl (subL c d))).filter kb).map kf)) S := by
  obtain ⟨L, hL⟩ : ∃ L, L = kl.map fun d => D.bl (subL c d) := ⟨_, rfl⟩
  have hcomp : ∀ S, mCut (mFrz (mComp (mEnum (mConsL (mVar 1) mNilL)) [2, 3] (gMany 2 (gsCons (gNm 2) (gsCons (gNm 3) gsNil))) (mTst (mVar 3)) (mVar 2))) [some (.exn c ks vs), some (.lst L), none, none] S = .ok (.lst (((enumL L).filter kb).map kf)) S := fun S => by
    refine comp_filter (by simp) (by rw [enumL_len, hL]; simp [kl]) (fun d _ _ => kf_closed d _) fun d hd => ?_
    obtain ⟨i, hi⟩ := List.getElem?_of_mem hd
    obtain ⟨x, hx, rfl⟩ := enumL_get hi
    have hx' := List.mem_of_getElem? hx
    rw [hL] at hx'
    obtain ⟨k, _, rfl⟩ := List.mem_map.mp hx'
    exact ⟨[some (.exn c ks vs), some (.lst L), some (.int (i : Int)), some (.bl (subL c k))], fun S => ⟨by simp [itemsD, wipeR], by simp [truthD, kb], fun _ => by simp [kf]⟩⟩
  have hb : b__law_kinds [some (.exn c ks vs), none, none, none] S = .rt (.lst (((enumL L).filter kb).map kf)) S := by
    rw [kinds_eq]
    have hk : ∀ d, d < 18 → ∀ (x y z : Option D) S, ki d [some (.exn c ks vs), x, y, z] S = .ok (.bl (subL c d)) S := fun d hd x y z S => ki_ok hc hd rfl S
    have hL2 : L = [.bl (subL c 1), .bl (subL c 2), .bl (subL c 3), .bl (subL c 4), .bl (subL c 5), .bl (subL c 6), .bl (subL c 7), .bl (subL c 8), .bl (subL c 9), .bl (subL c 10), .bl (subL c 11), .bl (subL c 12), .bl (subL c 14), .bl (subL c 13), .bl (subL c 16), .bl (subL c 17), .bl (subL c 15)] := hL
    rw [hL2] at hcomp ⊢
    simp [hk, addD, lstD, hcomp]
  rw [← hL]
  show cut S (runDef 1 4 b__law_kinds [.exn c ks vs] S) = _
  unfold runDef
  rw [if_pos (show [D.exn c ks vs].length = 1 from rfl)]
  show cut S (match b__law_kinds [some (.exn c ks vs), none, none, none] S with
    | .nx _ S' => Res.ok D.non S'
    | .rt d S' => .ok d S'
    | .ex _ c ks vs S' => .ex c ks vs S'
    | _ => .bad) = _
  rw [hb]
  exact cut_same S _
theorem kinds_ok {i : Nat} (hi : i < 17) (one other : D) (S : Store) : m__law_kinds [.exn (excOf i one other).1 (excOf i one other).2.1 (excOf i one other).2.2] S = .ok (.lst [.int i]) S := by
  have h : i = 0 ∨ i = 1 ∨ i = 2 ∨ i = 3 ∨ i = 4 ∨ i = 5 ∨ i = 6 ∨ i = 7 ∨ i = 8 ∨ i = 9 ∨ i = 10 ∨ i = 11 ∨ i = 12 ∨ i = 13 ∨ i = 14 ∨ i = 15 ∨ i = 16 := by omega
  rcases h with rfl | rfl | rfl | rfl | rfl | rfl | rfl | rfl | rfl | rfl | rfl | rfl | rfl | rfl | rfl | rfl | rfl <;> exact kinds_c (by simp [excOf]) _ _ S
/-! ## texts -/
def rzOk (l : List D) : Option Str :=
  match toPs l with
  | some ps => if SeqAt.shaped (.list ps) = true ∧ (PyData.list ps).showable = true ∧ (PyData.list ps).shown.length ≤ sizeLine then some (PyData.list ps).shown else none
  | none => match itPs l with
    | some ps => if (PyData.list ps).showable = true ∧ (PyData.list ps).shown.length ≤ sizeLine ∧ (PyData.list ps).depth ≤ 64 then some (PyData.list ps).shown else none
    | none => none
theorem rz_eq {l : List D} {z : Str} (h : rzOk l = some z) (S : Store) : reprZ (.lst l) S = .ok (.str z) S := by
  unfold rzOk at h
  unfold reprZ
  have e : toPS S (.lst l) = (toPs l).map .list := rfl
  rw [e]
  cases e1 : toPs l with
  | some ps =>
    rw [e1] at h
    simp only [Option.map_some] at h ⊢
    split at h
    · rename_i hc
      cases h
      exact if_pos hc
    · cases h
  | none =>
    rw [e1] at h
    simp only [Option.map_none] at h ⊢
    cases e2 : itPs l with
    | none => rw [e2] at h; cases h
    | some ps =>
      rw [e2] at h
      simp only at h ⊢
      split at h
      · rename_i hc
        cases h
        exact if_pos hc
      · cases h
theorem rz0 : (rzOk []).isSome = true := by decide +kernel
theorem rz1 : ∀ v ∈ vals, (rzOk [v]).isSome = true := by decide +kernel
theorem rz2 : ∀ v ∈ vals, ∀ w ∈ vals, (rzOk [v, w]).isSome = true := by decide +kernel

/-! ## the law -/
def due (i : Nat) (one other : D) : List D := if i = 16 then [] else if 12 < i then [one, other] else [one]
theorem fields_ok {i : Nat} (hi : i < 17) (one other : D) (S : Store) : m__law_fields [.int i, .exn (excOf i one other).1 (excOf i one other).2.1 (excOf i one other).2.2] S = .ok (.lst (due i one other)) S := by
  have b1 : (("what" : Str) == ("most" : Str)) = false := by decide
  have b2 : (("line" : Str) == ("item" : Str)) = false := by decide
  have b3 : (("line" : Str) == ("error" : Str)) = false := by decide
  have h : i = 0 ∨ i = 1 ∨ i = 2 ∨ i = 3 ∨ i = 4 ∨ i = 5 ∨ i = 6 ∨ i = 7 ∨ i = 8 ∨ i = 9 ∨ i = 10 ∨ i = 11 ∨ i = 12 ∨ i = 13 ∨ i = 14 ∨ i = 15 ∨ i = 16 := by omega
  rcases h with rfl | rfl | rfl | rfl | rfl | rfl | rfl | rfl | rfl | rfl | rfl | rfl | rfl | rfl | rfl | rfl | rfl <;>
    simp [m__law_fields, b__law_fields, excOf, due, eqi, List.lookup, b1, b2, b3, cut_same]
theorem exc_facts {i : Nat} (hi : i < 17) (one other : D) : exqX 18 subL 0 (excOf i one other).1 = some true ∧ tabL (.exc (excOf i one other).1) (.ty "ValueError") = some true ∧ anyTab tabL (.exc (excOf i one other).1) [.ty "LookupError", .ty "TypeError", .ty "ArithmeticError"] = some false := by
  have h : i = 0 ∨ i = 1 ∨ i = 2 ∨ i = 3 ∨ i = 4 ∨ i = 5 ∨ i = 6 ∨ i = 7 ∨ i = 8 ∨ i = 9 ∨ i = 10 ∨ i = 11 ∨ i = 12 ∨ i = 13 ∨ i = 14 ∨ i = 15 ∨ i = 16 := by omega
  rcases h with rfl | rfl | rfl | rfl | rfl | rfl | rfl | rfl | rfl | rfl | rfl | rfl | rfl | rfl | rfl | rfl | rfl <;> exact ⟨rfl, rfl, rfl⟩
theorem ne_same {i : Nat} (hi : i < 17) (S : Store) : neD (.lst [.int i]) (.lst [.int i]) S = .ok (.bl false) S := by
  have h : i = 0 ∨ i = 1 ∨ i = 2 ∨ i = 3 ∨ i = 4 ∨ i = 5 ∨ i = 6 ∨ i = 7 ∨ i = 8 ∨ i = 9 ∨ i = 10 ∨ i = 11 ∨ i = 12 ∨ i = 13 ∨ i = 14 ∨ i = 15 ∨ i = 16 := by omega
  have key : ∀ z : Int, (SeqAt.shaped (.list [.int z]) && SeqAt.shaped (.list [.int z])) = true → PyData.eqv (.list [.int z]) (.list [.int z]) = true → neD (.lst [.int z]) (.lst [.int z]) S = .ok (.bl false) S := fun z h1 h2 => by
    have e : eqB S (.lst [.int z]) (.lst [.int z]) = some true := by
      unfold eqB
      have e0 : toPS S (.lst [.int z]) = some (.list [.int z]) := rfl
      simp only [eqScal, e0]
      rw [if_pos h1, h2]
    unfold neD
    rw [e]
    rfl
  rcases h with rfl | rfl | rfl | rfl | rfl | rfl | rfl | rfl | rfl | rfl | rfl | rfl | rfl | rfl | rfl | rfl | rfl <;> exact key _ (by decide +kernel) (by decide +kernel)
theorem rz_due (i : Nat) {one other : D} (h1 : one ∈ vals) (h2 : other ∈ vals) : ∃ z, rzOk (due i one other) = some z := by
  unfold due
  split
  · exact Option.isSome_iff_exists.mp rz0
  · split
    · exact Option.isSome_iff_exists.mp (rz2 one h1 other h2)
    · exact Option.isSome_iff_exists.mp (rz1 one h1)
theorem strne (z : Str) (S : Store) : eqD (.str z) (.str z) S = .ok (.bl true) S := by simp [eqD, eqB, eqScal]
theorem right_ok {i : Nat} (hi : i < 17) {one other : D} (h1 : one ∈ vals) (h2 : other ∈ vals) (b : Bool) (S : Store) : m__law_right [.int i, one, other, .bl b] S = .ok (.bl true) S := by
  have hr := raises_ok hi one other b S
  have hk := kinds_ok hi one other S
  have hf := fields_ok hi one other S
  obtain ⟨x1, x2, x3⟩ := exc_facts hi one other
  obtain ⟨z, hz⟩ := rz_due i h1 h2
  have hz' := fun S => rz_eq hz S
  have hn := ne_same hi S
  obtain ⟨c, hc⟩ : ∃ c, c = (excOf i one other).1 := ⟨_, rfl⟩
  obtain ⟨ks, hks⟩ : ∃ ks, ks = (excOf i one other).2.1 := ⟨_, rfl⟩
  obtain ⟨vs, hvs⟩ : ∃ vs, vs = (excOf i one other).2.2 := ⟨_, rfl⟩
  rw [← hc, ← hks, ← hvs] at hr hk hf
  rw [← hc] at x1 x2 x3
  have hdue : ∀ (r4 r5 r6 : Option D), mIf (mBlT (mBin eqD (mVar 0) (mC (.int 16)))) (mLst mNilL) (mIf (mBlT (mBin gtD (mVar 0) (mC (.int 12)))) (mLst (mConsL (mVar 1) (mConsL (mVar 2) mNilL))) (mLst (mConsL (mVar 1) mNilL))) [some (.int i), some one, some other, some (.bl b), r4, r5, r6] S = .ok (.lst (due i one other)) S := fun r4 r5 r6 => by
    by_cases h16 : i = 16
    · subst h16
      simp [eqi, due]
    · have h16' : ¬ (i : Int) = 16 := by omega
      by_cases h12 : 12 < i
      · have h12' : (12 : Int) < (i : Int) := by omega
        simp [eqi, due, h16, h16', h12, h12']
      · have h12' : ¬ (12 : Int) < (i : Int) := by omega
        simp [eqi, due, h16, h16', h12, h12']
  obtain ⟨eD, hD⟩ : ∃ eD : ME, eD = mIf (mBlT (mBin eqD (mVar 0) (mC (.int 16)))) (mLst mNilL) (mIf (mBlT (mBin gtD (mVar 0) (mC (.int 12)))) (mLst (mConsL (mVar 1) (mConsL (mVar 2) mNilL))) (mLst (mConsL (mVar 1) mNilL))) := ⟨_, rfl⟩
  rw [← hD] at hdue
  have hb : b__law_right [some (.int i), some one, some other, some (.bl b), none, none, none] S = .rt (.bl true) S := by
    unfold b__law_right
    rw [← hD]
    have hx : isiM tabL [.exn c ks vs, .tup [.ty "LookupError", .ty "TypeError", .ty "ArithmeticError"]] S = .ok (.bl false) S := by
      rw [isi_xs]
      simp [tgsOf, tgOf, x3]
    have hx0 : isiM tabL [.exn c ks vs, .ty "ValueError"] S = .ok (.bl true) S := by
      rw [isi_xt, x2]
      rfl
    simp only [es_seq, es_asg, ev_c, srRes_ok, eg_nm, srGo_some, seq_nx, es_tryK, es_expr, ev_call, ev_consL, ev_var, ev_nilL, List.set_cons_zero, List.set_cons_succ, List.getElem?_cons_zero, List.getElem?_cons_succ, Option.join_some, resO_some, bind_ok, hr, srRes_ex, x1]
    simp [-isi_mk, -isi_xt, hx0, hk, hn, isD, isNon, truthD, hx, hdue, hf, hz', strne]
  show cut S (runDef 4 7 b__law_right [.int i, one, other, .bl b] S) = _
  unfold runDef
  rw [if_pos (show [D.int i, one, other, .bl b].length = 4 from rfl)]
  show cut S (match b__law_right [some (.int i), some one, some other, some (.bl b), none, none, none] S with
    | .nx _ S' => Res.ok D.non S'
    | .rt d S' => .ok d S'
    | .ex _ c ks vs S' => .ex c ks vs S'
    | _ => .bad) = _
  rw [hb]
  exact cut_same S _
noncomputable def bBody : MS := (sSeq (sPar 3 4 (mConsL (mCall m__law_value (mConsL (mVar 1) mNilL)) (mConsL (mCall m__law_value (mConsL (mVar 1) mNilL)) mNilL))) (sIf (mOrT (mNotT (mTst (mCall m__law_right (mConsL (mVar 2) (mConsL (mVar 3) (mConsL (mVar 4) (mConsL (mC (.bl false)) mNilL))))))) (mNotT (mTst (mCall m__law_right (mConsL (mVar 2) (mConsL (mVar 3) (mConsL (mVar 4) (mConsL (mC (.bl true)) mNilL)))))))) (sRet (mC (.bl false))) sPass))
theorem law_eq : b_law = (sSeq (sAsg (mCall m__law_nut (mConsL (mVar 0) mNilL)) (gNm 1)) (sSeq (sFor (mRange1 (mConsL (mC (.int 17)) mNilL)) (gNm 2) bBody) (sRet (mC (.bl true))))) := rfl
theorem body_ok {cells : List Int} {t l : Int} {c x3 x4 : Option D} {i : Nat} (hi : i < 17) (h0 : 0 ≤ t) (hT : t + 10 ≤ 2 ^ 20) :
    ∃ y3 y4 t' l', bBody [c, some (.loc 0), some (.int i), x3, x4] [nutE cells t l] = .nx [c, some (.loc 0), some (.int i), y3, y4] [nutE cells t' l'] ∧ t ≤ t' ∧ t' ≤ t + 10 := by
  have wf : ∀ t l, WfS [nutE cells t l] := fun t l e he => by rw [List.mem_singleton.mp he]; exact nut_closed _ _ _ _
  obtain ⟨v, t1, l1, e1, hv, a1, a2⟩ := value (n := 0) (cells := cells) [nutE cells t l] t l (wf t l) rfl h0 (by omega)
  have e1' : m__law_value [.loc 0] [nutE cells t l] = .ok v [nutE cells t1 l1] := e1
  obtain ⟨w, t2, l2, e2, hw, b1, b2⟩ := value (n := 0) (cells := cells) [nutE cells t1 l1] t1 l1 (wf t1 l1) rfl (by omega) (by omega)
  have e2' : m__law_value [.loc 0] [nutE cells t1 l1] = .ok w [nutE cells t2 l2] := e2
  refine ⟨some v, some w, t2, l2, ?_, by omega, by omega⟩
  simp [bBody, e1', e2', right_ok hi hv hw, truthD]
theorem loop_ok {cells : List Int} {c : Option D} : ∀ (ds : List D) (t l : Int) (x2 x3 x4 : Option D), (∀ d ∈ ds, ∃ i : Nat, i < 17 ∧ d = .int i) → 0 ≤ t → t + 10 * ds.length ≤ 2 ^ 20 →
    ∃ ρ' S', forL (gNm 2) bBody ds [c, some (.loc 0), x2, x3, x4] [nutE cells t l] = .nx ρ' S'
  | [], t, l, x2, x3, x4, _, h0, hT => ⟨_, _, rfl⟩
  | d :: ds, t, l, x2, x3, x4, hd, h0, hT => by
    have hlen : ((d :: ds).length : Int) = ds.length + 1 := by simp
    rw [hlen] at hT
    obtain ⟨i, hi, rfl⟩ := hd d List.mem_cons_self
    obtain ⟨y3, y4, t', l', e, a, b⟩ := body_ok (cells := cells) (t := t) (l := l) (c := c) (x3 := x3) (x4 := x4) hi h0 (by omega)
    obtain ⟨ρ', S', e2⟩ := loop_ok (cells := cells) (c := c) ds t' l' (some (.int i)) y3 y4 (fun d hd' => hd d (List.mem_cons_of_mem _ hd')) (by omega) (by omega)
    refine ⟨ρ', S', ?_⟩
    simp only [forL, eg_nm, List.set_cons_zero, List.set_cons_succ, srGo_some, seq_nx, e, turn_nx, e2]
theorem nut_eq : m__law_nut = cutM (runDef 1 2 (bMake 60)) := rfl
theorem law_holds : LawHolds 63 m_law := by
  intro ns hns
  have hg : m__law_nut [.kst (ns.map D.int)] [] = .ok (.loc 0) [nutE (ns.take 60) 0 0] := by
    rw [nut_eq]
    exact make_ok (k := 60) hns
  have hr : ∀ ρ S, mRange1 (mConsL (mC (.int 17)) mNilL) ρ S = .ok (rangeL 0 17) S := fun ρ S => range1_ok (m := 17) rfl (by decide)
  obtain ⟨ρ', S', e⟩ := loop_ok (cells := ns.take 60) (c := some (.kst (ns.map D.int))) (rangeL 0 17) 0 0 none none none (fun d hd => by
    unfold rangeL at hd
    obtain ⟨i, hi, rfl⟩ := List.mem_map.mp hd
    exact ⟨i, List.mem_range.mp hi, by simp⟩) (by decide) (by decide)
  have hb : b_law [some (.kst (ns.map D.int)), none, none, none, none] [] = .rt (.bl true) S' := by
    rw [law_eq]
    simp only [es_seq, es_asg, ev_call, ev_consL, ev_var, ev_c, ev_nilL, List.getElem?_cons_zero, Option.join_some, resO_some, bind_ok, hg, srRes_ok, eg_nm, srGo_some, seq_nx, List.set_cons_zero, List.set_cons_succ, es_for, hr, e, es_ret]
  have hc : m_law [.kst (ns.map D.int)] [] = cut [] (.ok (.bl true) S') := by
    show cut [] (runDef 1 5 b_law [.kst (ns.map D.int)] []) = _
    have : runDef 1 5 b_law [.kst (ns.map D.int)] [] = .ok (.bl true) S' := by
      unfold runDef
      rw [if_pos (show [D.kst (ns.map D.int)].length = 1 from rfl)]
      show (match b_law [some (.kst (ns.map D.int)), none, none, none, none] [] with
        | .nx _ S' => Res.ok D.non S'
        | .rt d S' => .ok d S'
        | .ex _ c ks vs S' => .ex c ks vs S'
        | _ => .bad) = _
      rw [hb]
    rw [this]
  have hz := cut_app (S := []) (g := S') (d := .bl true) rfl
  rw [List.nil_append] at hz
  rw [hc, hz]
  exact ⟨_, rfl⟩
end Z

set_option Elab.async false
set_option maxRecDepth 100000
set_option maxHeartbeats 4000000
open PySem PySem.W PyProof.Rows
set_option maxRecDepth 100000 in
set_option maxHeartbeats 0 in
theorem PySem.Challenge.cw_lanecross_k00_errors_and_their_fields_holds : PySem.Challenge.rw_lanecross_k00_errors_and_their_fields.Holds := by
  w_on; o_law; k_head; (case hw => w_witness2)
  k_fill
  refine Z.walk_G (l := PySem.Challenge.rw_lanecross_k00_errors_and_their_fields) (n := 63) (k := 5) (x := "script") (mf := Z.m_law) rfl (by decide) rfl ⟨rfl, by decide, by decide⟩ (fun w h Y => PySem.W.kIn_of Y) ?F Z.law_holds
  case F =>
    intro w mg fa h KX G hmg
    refine' Z.all_mk (l := PySem.Challenge.rw_lanecross_k00_errors_and_their_fields) KX G hmg ?a__law_nut ?l__law_nut ?c__law_nut ?k__law_nut ?a__law_crack ?l__law_crack ?c__law_crack ?k__law_crack ?a__law_pick ?l__law_pick ?c__law_pick ?k__law_pick ?a__law_value ?l__law_value ?c__law_value ?k__law_value ?a__law_first ?l__law_first ?c__law_first ?k__law_first ?a__law_named ?l__law_named ?c__law_named ?k__law_named ?a__law_last ?l__law_last ?c__law_last ?k__law_last ?a__law_kinds ?l__law_kinds ?c__law_kinds ?k__law_kinds ?a__law_fields ?l__law_fields ?c__law_fields ?k__law_fields ?a__law_raises ?l__law_raises ?c__law_raises ?k__law_raises ?a__law_right ?l__law_right ?c__law_right ?k__law_right ?a_law ?l_law ?c_law ?k_law ?z_ArithmeticError ?z_LookupError ?z_TypeError ?z_ValueError ?z_abs ?z_enumerate ?z_int ?z_isinstance ?z_len ?z_range ?z_repr ?aC_LaneError ?aC_BadNumber ?aC_BadSpot ?aC_BadPiece ?aC_BadFront ?aC_BadWorld ?aC_BadLevel ?aC_BadPlay ?aC_BadPaper ?aC_Misfit ?aC_NoName ?aC_NoPiece ?aC_Twice ?aC_TooMany ?aC_Refused ?aC_Nothing ?aC_BadText ?aC_BadLine ?lC_BadNumber ?rv_BadNumber ?fi_is_BadNumber ?xb_BadNumber ?lI_BadNumber ?cI_BadNumber ?lcd_BadNumber ?v2_BadNumber ?pf_BadNumber ?lcc_BadNumber ?lC_BadSpot ?rv_BadSpot ?fi_is_BadSpot ?xb_BadSpot ?lI_BadSpot ?cI_BadSpot ?lcd_BadSpot ?v2_BadSpot ?pf_BadSpot ?lcc_BadSpot ?lC_BadPiece ?rv_BadPiece ?fi_is_BadPiece ?xb_BadPiece ?lI_BadPiece ?cI_BadPiece ?lcd_BadPiece ?v2_BadPiece ?pf_BadPiece ?lcc_BadPiece ?lC_BadFront ?rv_BadFront ?fi_is_BadFront ?xb_BadFront ?lI_BadFront ?cI_BadFront ?lcd_BadFront ?v2_BadFront ?pf_BadFront ?lcc_BadFront ?lC_BadWorld ?rv_BadWorld ?fi_is_BadWorld ?xb_BadWorld ?lI_BadWorld ?cI_BadWorld ?lcd_BadWorld ?v2_BadWorld ?pf_BadWorld ?lcc_BadWorld ?lC_BadLevel ?rv_BadLevel ?fi_is_BadLevel ?xb_BadLevel ?lI_BadLevel ?cI_BadLevel ?lcd_BadLevel ?v2_BadLevel ?pf_BadLevel ?lcc_BadLevel ?lC_BadPlay ?rv_BadPlay ?fi_is_BadPlay ?xb_BadPlay ?lI_BadPlay ?cI_BadPlay ?lcd_BadPlay ?v2_BadPlay ?pf_BadPlay ?lcc_BadPlay ?lC_BadPaper ?rv_BadPaper ?fi_is_BadPaper ?xb_BadPaper ?lI_BadPaper ?cI_BadPaper ?lcd_BadPaper ?v2_BadPaper ?pf_BadPaper ?lcc_BadPaper ?lC_Misfit ?rv_Misfit ?fi_is_Misfit ?xb_Misfit ?lI_Misfit ?cI_Misfit ?lcd_Misfit ?v2_Misfit ?pf_Misfit ?lcc_Misfit ?lC_NoName ?rv_NoName ?fi_is_NoName ?xb_NoName ?lI_NoName ?cI_NoName ?lcd_NoName ?v2_NoName ?pf_NoName ?lcc_NoName ?lC_NoPiece ?rv_NoPiece ?fi_is_NoPiece ?xb_NoPiece ?lI_NoPiece ?cI_NoPiece ?lcd_NoPiece ?v2_NoPiece ?pf_NoPiece ?lcc_NoPiece ?lC_Twice ?rv_Twice ?fi_is_Twice ?xb_Twice ?lI_Twice ?cI_Twice ?lcd_Twice ?v2_Twice ?pf_Twice ?lcc_Twice ?lC_Refused ?rv_Refused ?fi_is_Refused ?xb_Refused ?lI_Refused ?cI_Refused ?lcd_Refused ?v2_Refused ?pf_Refused ?lcc_Refused ?lC_TooMany ?rv_TooMany ?fi_is_TooMany ?xb_TooMany ?lI_TooMany ?cI_TooMany ?lcd_TooMany ?v2_TooMany ?pf_TooMany ?lcc_TooMany ?lC_BadText ?rv_BadText ?fi_is_BadText ?xb_BadText ?lI_BadText ?cI_BadText ?lcd_BadText ?v2_BadText ?pf_BadText ?lcc_BadText ?lC_BadLine ?rv_BadLine ?fi_is_BadLine ?xb_BadLine ?lI_BadLine ?cI_BadLine ?lcd_BadLine ?v2_BadLine ?pf_BadLine ?lcc_BadLine ?lC_Nothing ?rv_Nothing ?fi_is_Nothing ?xb_Nothing ?lI_Nothing ?cI_Nothing ?lcd_Nothing ?v2_Nothing ?pf_Nothing ?lcc_Nothing ?su ?tp ?oq ?tb ?eb_LaneError ?ab_part ?ab_value ?ab_why ?ab_what ?ab_most ?ab_line ?ab_item ?ab_error
    (case a__law_nut => k_is)
    (case l__law_nut => k_is)
    (case c__law_nut => k_is)
    (case k__law_nut => k_is)
    (case a__law_crack => k_is)
    (case l__law_crack => k_is)
    (case c__law_crack => k_is)
    (case k__law_crack => k_is)
    (case a__law_pick => k_is)
    (case l__law_pick => k_is)
    (case c__law_pick => k_is)
    (case k__law_pick => k_is)
    (case a__law_value => k_is)
    (case l__law_value => k_is)
    (case c__law_value => k_is)
    (case k__law_value => k_is)
    (case a__law_first => k_is)
    (case l__law_first => k_is)
    (case c__law_first => k_is)
    (case k__law_first => k_is)
    (case a__law_named => k_is)
    (case l__law_named => k_is)
    (case c__law_named => k_is)
    (case k__law_named => k_is)
    (case a__law_last => k_is)
    (case l__law_last => k_is)
    (case c__law_last => k_is)
    (case k__law_last => k_is)
    (case a__law_kinds => k_is)
    (case l__law_kinds => k_is)
    (case c__law_kinds => k_is)
    (case k__law_kinds => k_is)
    (case a__law_fields => k_is)
    (case l__law_fields => k_is)
    (case c__law_fields => k_is)
    (case k__law_fields => k_is)
    (case a__law_raises => k_is)
    (case l__law_raises => k_is)
    (case c__law_raises => k_is)
    (case k__law_raises => k_is)
    (case a__law_right => k_is)
    (case l__law_right => k_is)
    (case c__law_right => k_is)
    (case k__law_right => k_is)
    (case a_law => k_is)
    (case l_law => k_is)
    (case c_law => k_is)
    (case k_law => k_is)
    (case z_ArithmeticError => k_is)
    (case z_LookupError => k_is)
    (case z_TypeError => k_is)
    (case z_ValueError => k_is)
    (case z_abs => k_is)
    (case z_enumerate => k_is)
    (case z_int => k_is)
    (case z_isinstance => k_is)
    (case z_len => k_is)
    (case z_range => k_is)
    (case z_repr => k_is)
    (case aC_LaneError => k_is)
    (case aC_BadNumber => k_is)
    (case aC_BadSpot => k_is)
    (case aC_BadPiece => k_is)
    (case aC_BadFront => k_is)
    (case aC_BadWorld => k_is)
    (case aC_BadLevel => k_is)
    (case aC_BadPlay => k_is)
    (case aC_BadPaper => k_is)
    (case aC_Misfit => k_is)
    (case aC_NoName => k_is)
    (case aC_NoPiece => k_is)
    (case aC_Twice => k_is)
    (case aC_TooMany => k_is)
    (case aC_Refused => k_is)
    (case aC_Nothing => k_is)
    (case aC_BadText => k_is)
    (case aC_BadLine => k_is)
    (case lC_BadNumber => k_is)
    (case rv_BadNumber => kernel_rfl)
    (case fi_is_BadNumber => k_is)
    (case xb_BadNumber => kernel_rfl)
    (case lI_BadNumber => k_is)
    (case cI_BadNumber => k_is)
    (case lcd_BadNumber => k_is)
    (case v2_BadNumber => exact rfl)
    (case pf_BadNumber => kernel_rfl)
    (case lcc_BadNumber => k_is)
    (case lC_BadSpot => k_is)
    (case rv_BadSpot => kernel_rfl)
    (case fi_is_BadSpot => k_is)
    (case xb_BadSpot => kernel_rfl)
    (case lI_BadSpot => k_is)
    (case cI_BadSpot => k_is)
    (case lcd_BadSpot => k_is)
    (case v2_BadSpot => exact rfl)
    (case pf_BadSpot => kernel_rfl)
    (case lcc_BadSpot => k_is)
    (case lC_BadPiece => k_is)
    (case rv_BadPiece => kernel_rfl)
    (case fi_is_BadPiece => k_is)
    (case xb_BadPiece => kernel_rfl)
    (case lI_BadPiece => k_is)
    (case cI_BadPiece => k_is)
    (case lcd_BadPiece => k_is)
    (case v2_BadPiece => exact rfl)
    (case pf_BadPiece => kernel_rfl)
    (case lcc_BadPiece => k_is)
    (case lC_BadFront => k_is)
    (case rv_BadFront => kernel_rfl)
    (case fi_is_BadFront => k_is)
    (case xb_BadFront => kernel_rfl)
    (case lI_BadFront => k_is)
    (case cI_BadFront => k_is)
    (case lcd_BadFront => k_is)
    (case v2_BadFront => exact rfl)
    (case pf_BadFront => kernel_rfl)
    (case lcc_BadFront => k_is)
    (case lC_BadWorld => k_is)
    (case rv_BadWorld => kernel_rfl)
    (case fi_is_BadWorld => k_is)
    (case xb_BadWorld => kernel_rfl)
    (case lI_BadWorld => k_is)
    (case cI_BadWorld => k_is)
    (case lcd_BadWorld => k_is)
    (case v2_BadWorld => exact rfl)
    (case pf_BadWorld => kernel_rfl)
    (case lcc_BadWorld => k_is)
    (case lC_BadLevel => k_is)
    (case rv_BadLevel => kernel_rfl)
    (case fi_is_BadLevel => k_is)
    (case xb_BadLevel => kernel_rfl)
    (case lI_BadLevel => k_is)
    (case cI_BadLevel => k_is)
    (case lcd_BadLevel => k_is)
    (case v2_BadLevel => exact rfl)
    (case pf_BadLevel => kernel_rfl)
    (case lcc_BadLevel => k_is)
    (case lC_BadPlay => k_is)
    (case rv_BadPlay => kernel_rfl)
    (case fi_is_BadPlay => k_is)
    (case xb_BadPlay => kernel_rfl)
    (case lI_BadPlay => k_is)
    (case cI_BadPlay => k_is)
    (case lcd_BadPlay => k_is)
    (case v2_BadPlay => exact rfl)
    (case pf_BadPlay => kernel_rfl)
    (case lcc_BadPlay => k_is)
    (case lC_BadPaper => k_is)
    (case rv_BadPaper => kernel_rfl)
    (case fi_is_BadPaper => k_is)
    (case xb_BadPaper => kernel_rfl)
    (case lI_BadPaper => k_is)
    (case cI_BadPaper => k_is)
    (case lcd_BadPaper => k_is)
    (case v2_BadPaper => exact rfl)
    (case pf_BadPaper => kernel_rfl)
    (case lcc_BadPaper => k_is)
    (case lC_Misfit => k_is)
    (case rv_Misfit => kernel_rfl)
    (case fi_is_Misfit => k_is)
    (case xb_Misfit => kernel_rfl)
    (case lI_Misfit => k_is)
    (case cI_Misfit => k_is)
    (case lcd_Misfit => k_is)
    (case v2_Misfit => exact rfl)
    (case pf_Misfit => kernel_rfl)
    (case lcc_Misfit => k_is)
    (case lC_NoName => k_is)
    (case rv_NoName => kernel_rfl)
    (case fi_is_NoName => k_is)
    (case xb_NoName => kernel_rfl)
    (case lI_NoName => k_is)
    (case cI_NoName => k_is)
    (case lcd_NoName => k_is)
    (case v2_NoName => exact rfl)
    (case pf_NoName => kernel_rfl)
    (case lcc_NoName => k_is)
    (case lC_NoPiece => k_is)
    (case rv_NoPiece => kernel_rfl)
    (case fi_is_NoPiece => k_is)
    (case xb_NoPiece => kernel_rfl)
    (case lI_NoPiece => k_is)
    (case cI_NoPiece => k_is)
    (case lcd_NoPiece => k_is)
    (case v2_NoPiece => exact rfl)
    (case pf_NoPiece => kernel_rfl)
    (case lcc_NoPiece => k_is)
    (case lC_Twice => k_is)
    (case rv_Twice => kernel_rfl)
    (case fi_is_Twice => k_is)
    (case xb_Twice => kernel_rfl)
    (case lI_Twice => k_is)
    (case cI_Twice => k_is)
    (case lcd_Twice => k_is)
    (case v2_Twice => exact rfl)
    (case pf_Twice => kernel_rfl)
    (case lcc_Twice => k_is)
    (case lC_Refused => k_is)
    (case rv_Refused => kernel_rfl)
    (case fi_is_Refused => k_is)
    (case xb_Refused => kernel_rfl)
    (case lI_Refused => k_is)
    (case cI_Refused => k_is)
    (case lcd_Refused => k_is)
    (case v2_Refused => exact rfl)
    (case pf_Refused => kernel_rfl)
    (case lcc_Refused => k_is)
    (case lC_TooMany => k_is)
    (case rv_TooMany => kernel_rfl)
    (case fi_is_TooMany => k_is)
    (case xb_TooMany => kernel_rfl)
    (case lI_TooMany => k_is)
    (case cI_TooMany => k_is)
    (case lcd_TooMany => k_is)
    (case v2_TooMany => exact rfl)
    (case pf_TooMany => kernel_rfl)
    (case lcc_TooMany => k_is)
    (case lC_BadText => k_is)
    (case rv_BadText => kernel_rfl)
    (case fi_is_BadText => k_is)
    (case xb_BadText => kernel_rfl)
    (case lI_BadText => k_is)
    (case cI_BadText => k_is)
    (case lcd_BadText => k_is)
    (case v2_BadText => exact rfl)
    (case pf_BadText => kernel_rfl)
    (case lcc_BadText => k_is)
    (case lC_BadLine => k_is)
    (case rv_BadLine => kernel_rfl)
    (case fi_is_BadLine => k_is)
    (case xb_BadLine => kernel_rfl)
    (case lI_BadLine => k_is)
    (case cI_BadLine => k_is)
    (case lcd_BadLine => k_is)
    (case v2_BadLine => exact rfl)
    (case pf_BadLine => kernel_rfl)
    (case lcc_BadLine => k_is)
    (case lC_Nothing => k_is)
    (case rv_Nothing => kernel_rfl)
    (case fi_is_Nothing => k_is)
    (case xb_Nothing => kernel_rfl)
    (case lI_Nothing => k_is)
    (case cI_Nothing => k_is)
    (case lcd_Nothing => k_is)
    (case v2_Nothing => exact rfl)
    (case pf_Nothing => kernel_rfl)
    (case lcc_Nothing => k_is)
    (case su => k_is)
    (case tp => kernel_rfl)
    (case oq => k_is)
    (case tb => kernel_rfl)
    (case eb_LaneError => kernel_rfl)
    (case ab_part => kernel_rfl)
    (case ab_value => kernel_rfl)
    (case ab_why => kernel_rfl)
    (case ab_what => kernel_rfl)
    (case ab_most => kernel_rfl)
    (case ab_line => kernel_rfl)
    (case ab_item => kernel_rfl)
    (case ab_error => kernel_rfl)

