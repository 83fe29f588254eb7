import PyProof.Rows.All
import Wide.All
import OpenK.AllK
import Wide.FinOn
import HandS.ForMost
import HandS.ForExc
import HandS.IsInst
import HandS.Wide
import HandS.Flow
import HandS.Lambda
import HandS.Style
import HandS.TupAny
import HandS.Comp
import HandS.Text
import PyProof.ReprRoads
import HandS.ExcIs
import KE.KExcIs
import HandS.EndTab
import KE.KExcSuper
import HandS.ExcInit
import HandS.ExcSuper
import HandS.Nested
import HandS.ExcField
import KE.KDflt
import HandS.FStr
import HandS.RaiseMore
import HandS.Iter
import HandS.Zip
import KE.KxIndex
import HandS.Deep
import HandS.Star
import KE.IntTextLaws
import PyProof.StrLawsRepr
import PySem.Challenge.RW_lanecross_k04_numbers_written_and_read
set_option Elab.async false
set_option linter.all false
set_option maxRecDepth 100000
set_option maxHeartbeats 2000000
set_option autoImplicit false
namespace Z
open PySem PySem.Spec L2

/-! ## data, store, results -/
inductive D where
  | non
  | bl (b : Bool)
  | int (i : Int)
  | str (x : Str)
  | ty (n : String)
  | cls (c : Nat)
  | tup (l : List D)
  | lst (l : List D)
  | kst (l : List D)
  | dct (ks : List Key) (vs : List D)
  | ins (c : Nat) (ks : List Str) (vs : List D)
  | loc (n : Nat)
  | exn (c : Nat) (ks : List Str) (vs : List D)
  | fn (j : Nat)
  | lam (f c : Addr) (q : Str) (ds : List D) (xs : List V)

inductive Ent where
  | lst (l : List D)
  | dct (ks : List Key) (vs : List D)
  | ins (c : Nat) (ks : List Str) (vs : List D)
  | dead

abbrev Store := List Ent

inductive Res (α : Type) where
  | ok (a : α) (S : Store)
  | ex (c : Nat) (ks : List Str) (vs : List D) (S : Store)
  | bad

def Res.bind {α β : Type} (r : Res α) (f : α → Store → Res β) : Res β :=
  match r with
  | .ok a S => f a S
  | .ex c ks vs S => .ex c ks vs S
  | .bad => .bad
@[simp] theorem bind_ok {α β : Type} (a : α) (S : Store) (f : α → Store → Res β) : (Res.ok a S).bind f = f a S := rfl
@[simp] theorem bind_ex {α β : Type} (c : Nat) (ks : List Str) (vs : List D) (S : Store) (f : α → Store → Res β) : (Res.ex (α := α) c ks vs S).bind f = .ex c ks vs S := rfl
@[simp] theorem bind_bad {α β : Type} (f : α → Store → Res β) : (Res.bad (α := α)).bind f = .bad := rfl

/-- a def's locals -/
abbrev Env' := List (Option D)
/-- a statement's result -/
inductive SR where
  | nx (ρ : Env') (S : Store)
  | rt (d : D) (S : Store)
  | bk (ρ : Env') (S : Store)
  | ct (ρ : Env') (S : Store)
  | ex (ρ : Env') (c : Nat) (ks : List Str) (vs : List D) (S : Store)
  | bad

/-! ## what they stand for -/
structure Gm where
  K : PySem.W.Frag
  mg : Str → Option Value
  cls : Nat → Addr
  /-- the code tables of the defs that hold lambdas, and the lambdas' names -/
  tabs : List (Addr × Str)
  /-- the module's defs that are values -/
  fn : Nat → Addr

/-- a tuple: tracked, or of the module -/
def TupF (K : PySem.W.Frag) (F : Hp) (a : Addr) (xs : List V) : Prop := F a = some (.tup xs) ∨
  ∃ (o : Obj) (its : Array Value) (n : Nat), K.lookup a = some o ∧ o.cls = .type "tuple" ∧ o.data = .seq its n ∧ its.size ≤ sizeLine ∧ Vals xs its.toList
/-- an exception that was caught, its dict at od -/
def xO (C : Addr) (od : Option Addr) (a : Addr) : HO := .ext fun h => ∃ (oe : Obj) (vs : Array Value), h.get? a = some oe ∧ Zc (.ref C) od oe ∧ oe.data = .fields vs
/-- its fields -/
def XdR (F : Hp) (od : Option Addr) (ks : List Str) (xs : List V) : Prop := match od with
  | some dx => F dx = some (.xd (ks.zip xs))
  | none => ks = []
theorem XdR.same {F F' : Hp} {od : Option Addr} {ks : List Str} {xs : List V} (e : Same F F') (h : XdR F od ks xs) : XdR F' od ks xs := by
  cases od with
  | none => exact h
  | some dx => exact e _ _ h
theorem TupF.of {K : PySem.W.Frag} {F : Hp} {a : Addr} {xs : List V} (h : F a = some (.tup xs)) : TupF K F a xs := .inl h
mutual
inductive Rep (G : Gm) (F : Hp) (μ : List Addr) : D → V → Prop
  | non : Rep G F μ .non .non
  | bl (b : Bool) : Rep G F μ (.bl b) (.bl b)
  | int (i : Int) : Rep G F μ (.int i) (.int i)
  | str (x : Str) : Rep G F μ (.str x) (.str x)
  | ty (n : String) : Rep G F μ (.ty n) (.ty n)
  | cls (c : Nat) : Rep G F μ (.cls c) (.ref (G.cls c))
  | tup {a : Addr} {l : List D} {xs : List V} : TupF G.K F a xs → Reps G F μ l xs → Rep G F μ (.tup l) (.ref a)
  | lst {a : Addr} {l : List D} {xs : List V} : F a = some (.lst xs) → Reps G F μ l xs → Rep G F μ (.lst l) (.ref a)
  | kst {a : Addr} {l : List D} {xs : List V} : SqL G.K F a xs → Reps G F μ l xs → Rep G F μ (.kst l) (.ref a)
  | dct {a : Addr} {ks : List Key} {vs : List D} {xs : List V} : F a = some (.dK (ks.zip xs)) → ks.length = vs.length → Reps G F μ vs xs → Rep G F μ (.dct ks vs) (.ref a)
  | ins {a dx : Addr} {c : Nat} {ks : List Str} {vs : List D} {xs : List V} : F a = some (.ins (G.cls c) dx (ks.zip xs)) → ks.length = vs.length → Reps G F μ vs xs → Rep G F μ (.ins c ks vs) (.ref a)
  | loc {n : Nat} {a : Addr} : μ[n]? = some a → Rep G F μ (.loc n) (.ref a)
  | exn {a : Addr} {od : Option Addr} {c : Nat} {ks : List Str} {vs : List D} {xs : List V} : F a = some (xO (G.cls c) od a) → XdR F od ks xs → ks.length = vs.length → Reps G F μ vs xs → Rep G F μ (.exn c ks vs) (.ref a)
  | fn (j : Nat) : Rep G F μ (.fn j) (.ref (G.fn j))
  | lam {f c : Addr} {q : Str} {l : List D} {xs : List V} : F c = some (LamX.CodeO c q) → Reps G F μ l xs → Rep G F μ (.lam f c q l xs) (.ref f)
inductive Reps (G : Gm) (F : Hp) (μ : List Addr) : List D → List V → Prop
  | nil : Reps G F μ [] []
  | cons {d : D} {v : V} {ds : List D} {vs : List V} : Rep G F μ d v → Reps G F μ ds vs → Reps G F μ (d :: ds) (v :: vs)
end

theorem same_sqL {K : PySem.W.Frag} {H H' : Hp} {a : Addr} {xs : List V} (e : Same H H') (h : SqL K H a xs) : SqL K H' a xs := e.seq h
theorem same_tupF {K : PySem.W.Frag} {H H' : Hp} {a : Addr} {xs : List V} (e : Same H H') (h : TupF K H a xs) : TupF K H' a xs := by
  rcases h with h | h
  · exact .inl (e _ _ h)
  · exact .inr h
theorem same_sqT {K : PySem.W.Frag} {H H' : Hp} {a : Addr} {xs : List V} (e : Same H H') (h : TupF K H a xs) : SqT K H' a xs := by
  rcases h with h | h
  · exact .inl (.inl (e _ _ h))
  · exact .inr h

structure Ext (F : Hp) (μ : List Addr) (F' : Hp) (μ' : List Addr) : Prop where
  fz : Same F F'
  mu : ∀ (i : Nat) (a : Addr), μ[i]? = some a → μ'[i]? = some a
theorem Ext.refl (F : Hp) (μ : List Addr) : Ext F μ F μ := ⟨fun _ _ h => h, fun (_ : Nat) (_ : Addr) h => h⟩
theorem Ext.trans {F1 F2 F3 : Hp} {m1 m2 m3 : List Addr} (a : Ext F1 m1 F2 m2) (b : Ext F2 m2 F3 m3) : Ext F1 m1 F3 m3 :=
  ⟨fun c o h => b.fz c o (a.fz c o h), fun i c h => b.mu i c (a.mu i c h)⟩

mutual
theorem Rep.mono {G : Gm} {F F' : Hp} {μ μ' : List Addr} (x : Ext F μ F' μ') {d : D} {v : V} : Rep G F μ d v → Rep G F' μ' d v
  | .non => .non
  | .bl b => .bl b
  | .int i => .int i
  | .str s => .str s
  | .ty n => .ty n
  | .cls c => .cls c
  | .tup h r => .tup (same_tupF x.fz h) (Reps.mono x r)
  | .lst h r => .lst (x.fz _ _ h) (Reps.mono x r)
  | .kst h r => .kst (same_sqL x.fz h) (Reps.mono x r)
  | .dct h l r => .dct (x.fz _ _ h) l (Reps.mono x r)
  | .ins h l r => .ins (x.fz _ _ h) l (Reps.mono x r)
  | .loc h => .loc (x.mu _ _ h)
  | .exn h y l r => .exn (x.fz _ _ h) (y.same x.fz) l (Reps.mono x r)
  | .fn j => .fn j
  | .lam h r => .lam (x.fz _ _ h) (Reps.mono x r)
theorem Reps.mono {G : Gm} {F F' : Hp} {μ μ' : List Addr} (x : Ext F μ F' μ') {ds : List D} {vs : List V} : Reps G F μ ds vs → Reps G F' μ' ds vs
  | .nil => .nil
  | .cons a b => .cons (Rep.mono x a) (Reps.mono x b)
end

theorem Reps.length {G : Gm} {F : Hp} {μ : List Addr} : ∀ {ds : List D} {vs : List V}, Reps G F μ ds vs → ds.length = vs.length
  | _, _, .nil => rfl
  | _, _, .cons _ b => congrArg (· + 1) b.length
theorem Reps.get {G : Gm} {F : Hp} {μ : List Addr} : ∀ {ds : List D} {vs : List V} {i : Nat} {d : D}, Reps G F μ ds vs → ds[i]? = some d → ∃ v, vs[i]? = some v ∧ Rep G F μ d v
  | _, _, 0, _, .cons a _, h => ⟨_, rfl, by simp at h; subst h; exact a⟩
  | _, _, i + 1, _, .cons _ b, h => by
    obtain ⟨v, h1, h2⟩ := Reps.get (i := i) b (by simpa using h)
    exact ⟨v, by simpa using h1, h2⟩
theorem Reps.getV {G : Gm} {F : Hp} {μ : List Addr} : ∀ {ds : List D} {vs : List V} {i : Nat} {v : V}, Reps G F μ ds vs → vs[i]? = some v → ∃ d, ds[i]? = some d ∧ Rep G F μ d v
  | _, _, 0, _, .cons a _, h => ⟨_, rfl, by simp at h; subst h; exact a⟩
  | _, _, i + 1, _, .cons _ b, h => by
    obtain ⟨v, h1, h2⟩ := Reps.getV (i := i) b (by simpa using h)
    exact ⟨v, by simpa using h1, h2⟩
theorem Reps.app {G : Gm} {F : Hp} {μ : List Addr} : ∀ {ds es : List D} {vs ws : List V}, Reps G F μ ds vs → Reps G F μ es ws → Reps G F μ (ds ++ es) (vs ++ ws)
  | _, _, _, _, .nil, b => b
  | _, _, _, _, .cons a c, b => .cons a (c.app b)
theorem Reps.set {G : Gm} {F : Hp} {μ : List Addr} {d : D} {v : V} (r : Rep G F μ d v) : ∀ {ds : List D} {vs : List V} (i : Nat), Reps G F μ ds vs → Reps G F μ (ds.set i d) (vs.set i v)
  | _, _, _, .nil => .nil
  | _, _, 0, .cons _ b => .cons r b
  | _, _, i + 1, .cons a b => .cons a (Reps.set r i b)
theorem Reps.take {G : Gm} {F : Hp} {μ : List Addr} : ∀ {ds : List D} {vs : List V} (n : Nat), Reps G F μ ds vs → Reps G F μ (ds.take n) (vs.take n)
  | _, _, 0, _ => .nil
  | _, _, _ + 1, .nil => .nil
  | _, _, n + 1, .cons a b => .cons a (Reps.take n b)
theorem Reps.drop {G : Gm} {F : Hp} {μ : List Addr} : ∀ {ds : List D} {vs : List V} (n : Nat), Reps G F μ ds vs → Reps G F μ (ds.drop n) (vs.drop n)
  | _, _, 0, r => r
  | _, _, _ + 1, .nil => .nil
  | _, _, n + 1, .cons _ b => Reps.drop n b
theorem Reps.rev {G : Gm} {F : Hp} {μ : List Addr} : ∀ {ds : List D} {vs : List V}, Reps G F μ ds vs → Reps G F μ ds.reverse vs.reverse
  | _, _, .nil => .nil
  | _, _, .cons a b => by
    rw [List.reverse_cons, List.reverse_cons]
    exact (b.rev).app (.cons a .nil)
theorem Reps.eraseIdx {G : Gm} {F : Hp} {μ : List Addr} : ∀ {ds : List D} {vs : List V} (n : Nat), Reps G F μ ds vs → Reps G F μ (ds.eraseIdx n) (vs.eraseIdx n)
  | _, _, _, .nil => .nil
  | _, _, 0, .cons _ b => b
  | _, _, n + 1, .cons a b => .cons a (Reps.eraseIdx n b)

/-- what stands at a live place -/
inductive EntOk (G : Gm) (F : Hp) (μ : List Addr) (H : Hp) (a : Addr) : Ent → Prop
  | dead : EntOk G F μ H a .dead
  | lst {l : List D} {xs : List V} : F a = none → H a = some (.lst xs) → Reps G F μ l xs → EntOk G F μ H a (.lst l)
  | dct {ks : List Key} {vs : List D} {xs : List V} : F a = none → H a = some (.dK (ks.zip xs)) → ks.length = vs.length → Reps G F μ vs xs → EntOk G F μ H a (.dct ks vs)
  | ins {c : Nat} {ks : List Str} {vs : List D} {dx : Addr} {xs : List V} : F a = none → H a = some (.ins (G.cls c) dx (ks.zip xs)) → ks.length = vs.length → Reps G F μ vs xs → EntOk G F μ H a (.ins c ks vs)

/-- no table of code objects -/
def NoTbl : HO → Prop
  | .tbl _ => False
  | _ => True
structure Rel (G : Gm) (F : Hp) (μ : List Addr) (S : Store) (H : Hp) : Prop where
  sub : Same F H
  len : μ.length = S.length
  inj : ∀ (i j : Nat) (a : Addr), μ[i]? = some a → μ[j]? = some a → i = j
  ent : ∀ (i : Nat) (a : Addr) (e : Ent), μ[i]? = some a → S[i]? = some e → EntOk G F μ H a e
  trk : ∀ (i : Nat) (a : Addr), μ[i]? = some a → ∃ o, H a = some o ∧ NoTbl o
  tab : LamX.Tabs G.tabs H
  nt : ∀ (b : Addr) (o : HO), F b = some o → NoTbl o

structure EnvR (G : Gm) (F : Hp) (μ : List Addr) (ρ : Env') (σ : St) : Prop where
  len : ρ.length = σ.length
  get : ∀ (i : Nat) (d : D), ρ[i]? = some (some d) → ∃ v, σ[i]? = some (some v) ∧ Rep G F μ d v

theorem EnvR.mono {G : Gm} {F F' : Hp} {μ μ' : List Addr} {ρ : Env'} {σ : St} (h : EnvR G F μ ρ σ) (x : Ext F μ F' μ') : EnvR G F' μ' ρ σ :=
  ⟨h.len, fun i d e => let ⟨v, a, b⟩ := h.get i d e; ⟨v, a, b.mono x⟩⟩
theorem EnvR.set {G : Gm} {F : Hp} {μ : List Addr} {ρ : Env'} {σ : St} (h : EnvR G F μ ρ σ) {d : D} {v : V} (i : Nat) (r : Rep G F μ d v) : EnvR G F μ (ρ.set i (some d)) (σ.set i (some v)) := by
  refine ⟨by simp [h.len], fun j e hj => ?_⟩
  by_cases hij : i = j
  · subst hij
    by_cases hl : i < ρ.length
    · rw [List.getElem?_set_self hl] at hj
      cases hj
      exact ⟨v, List.getElem?_set_self (by rw [← h.len]; exact hl), r⟩
    · rw [List.getElem?_eq_none (by simp; omega)] at hj
      cases hj
  · rw [List.getElem?_set_ne hij] at hj
    rw [List.getElem?_set_ne hij]
    exact h.get j e hj
/-- a slot told otherwise, of the same value -/
theorem EnvR.tell {G : Gm} {F : Hp} {μ : List Addr} {ρ : Env'} {σ : St} (h : EnvR G F μ ρ σ) {d : D} {v : V} (i : Nat) (hs : σ[i]? = some (some v)) (r : Rep G F μ d v) : EnvR G F μ (ρ.set i (some d)) σ := by
  refine ⟨by simp [h.len], fun j e hj => ?_⟩
  by_cases hij : i = j
  · subst hij
    by_cases hl : i < ρ.length
    · rw [List.getElem?_set_self hl] at hj
      cases hj
      exact ⟨v, hs, r⟩
    · rw [List.getElem?_eq_none (by simp; omega)] at hj
      cases hj
  · rw [List.getElem?_set_ne hij] at hj
    exact h.get j e hj

/-! ## what is wanted behind -/
abbrev RR (α β : Type) := Hp → List Addr → α → β → Prop
def rB : RR Bool Bool := fun _ _ a b => a = b
def Post {α β : Type} (G : Gm) (W : WX) (R : RR α β) (F : Hp) (μ : List Addr) (σ : St) (Q : β → Hp → Prop) : Res α → Prop
  | .ok d S => ∀ F' μ' v H', Ext F μ F' μ' → Rel G F' μ' S H' → R F' μ' d v → Q v H'
  | .ex c ks vs S => ∀ F' μ' dx xs H', Ext F μ F' μ' → Rel G F' μ' S H' → XdR F' dx ks xs → ks.length = vs.length → Reps G F' μ' vs xs → W (.ref (G.cls c)) dx σ H'
  | .bad => False
theorem Post.mono {α β : Type} {G : Gm} {W : WX} {R : RR α β} {F F1 : Hp} {μ μ1 : List Addr} {σ : St} {Q : β → Hp → Prop} {r : Res α} (h : Post G W R F μ σ Q r) (x : Ext F μ F1 μ1) : Post G W R F1 μ1 σ Q r := by
  cases r with
  | ok d S => exact fun F' μ' v H' e a b => h F' μ' v H' (x.trans e) a b
  | ex c ks vs S => exact fun F' μ' dx xs H' e a b l r => h F' μ' dx xs H' (x.trans e) a b l r
  | bad => exact h
/-- one after another -/
theorem Post.bind {α β α' β' : Type} {G : Gm} {W : WX} {R : RR α β} {R' : RR α' β'} {F : Hp} {μ : List Addr} {σ : St} {Q : β' → Hp → Prop} {Q1 : β → Hp → Prop} {r : Res α} {f : α → Store → Res α'}
    (h : Post G W R' F μ σ Q (r.bind f))
    (k : ∀ d S F' μ' v H', Ext F μ F' μ' → Rel G F' μ' S H' → R F' μ' d v → Post G W R' F' μ' σ Q (f d S) → Q1 v H') : Post G W R F μ σ Q1 r := by
  cases r with
  | ok d S => exact fun F' μ' v H' e a b => k d S F' μ' v H' e a b (Post.mono (show Post G W R' F μ σ Q (f d S) from h) e)
  | ex c ks vs S => exact h
  | bad => exact h

/-! ## expressions -/
def ImpE {α β : Type} (G : Gm) (W : WX) (R : RR α β) (t : St → Hp → (β → Hp → Prop) → Prop) (m : Env' → Store → Res α) : Prop :=
  ∀ ρ S σ H F μ Q, EnvR G F μ ρ σ → Rel G F μ S H → Post G W R F μ σ Q (m ρ S) → t σ H Q
abbrev ME := Env' → Store → Res D
abbrev MB := Env' → Store → Res Bool
abbrev ML := Env' → Store → Res (List D)
structure SE (G : Gm) (X : Cx) (W : WX) (e : Expr) (m : ME) : Prop where
  ex : ∃ t, PE X e t ∧ ImpE G W (Rep G) t m
structure ST (G : Gm) (X : Cx) (W : WX) (e : Expr) (m : MB) : Prop where
  ex : ∃ t, PT X e t ∧ ImpE G W rB t m
structure SW (G : Gm) (X : Cx) (W : WX) (e : Expr) (m : MB) : Prop where
  ex : ∃ t, PW X e t ∧ ImpE G W rB t m
structure SA (G : Gm) (X : Cx) (W : WX) (es : List Expr) (m : ML) : Prop where
  ex : ∃ t, PA X es t ∧ ImpE G W (Reps G) t m
/-- what every place within a def knows -/
structure Ok (G : Gm) (X : Cx) (k : Nat) (W : WX) : Prop where
  K : X.K = G.K
  mg : X.mg = G.mg
  calm : X.calm = true
  nd : X.N.Nodup
  room : Room k X.A
  gd : X.A.guards = some []
  tk : Takes X W
  po : PassesOwn (model X.prog X.w) X.A X.env X.xe

/-! ## how the heap goes on -/
section
variable {G : Gm} {F : Hp} {μ : List Addr} {S : Store} {H : Hp}
theorem Rel.fnone (r : Rel G F μ S H) {p : Addr} (h : H p = none) : F p = none := by
  cases e : F p with
  | none => rfl
  | some o =>
    have := r.sub p o e
    rw [h] at this
    cases this
theorem Rel.mune (r : Rel G F μ S H) {p a : Addr} {i : Nat} (h : H p = none) (e : μ[i]? = some a) : a ≠ p := fun z => by
  obtain ⟨o, q, _⟩ := r.trk i a e
  rw [z, h] at q
  cases q
theorem EntOk.stay {F' H' : Hp} {μ' : List Addr} {a : Addr} {e : Ent} (x : Ext F μ F' μ') (hf : F a = none → F' a = none) (hh : ∀ o, H a = some o → H' a = some o) : EntOk G F μ H a e → EntOk G F' μ' H' a e
  | .dead => .dead
  | .lst h1 h2 r => .lst (hf h1) (hh _ h2) (r.mono x)
  | .dct h1 h2 l r => .dct (hf h1) (hh _ h2) l (r.mono x)
  | .ins h1 h2 l r => .ins (hf h1) (hh _ h2) l (r.mono x)
theorem same_upd {F : Hp} {p : Addr} {o : HO} (h : F p = none) : Same F (upd F p o) := fun b u e => by
  rw [upd_ne (ne_of_none e h)]
  exact e
/-- a new object that will never change -/
theorem tabs_new {T : List (Addr × Str)} {p : Addr} {o : HO} (h : H p = none) (t : LamX.Tabs T H) : LamX.Tabs T (upd H p o) := t.ext fun b u e => by
  rw [upd_ne (ne_of_none e h)]
  exact e
/-- what may be written -/
def PlainO : HO → Prop
  | .lst _ => True
  | .dK _ => True
  | .ins _ _ _ => True
  | _ => False
theorem tabs_write {T : List (Addr × Str)} {a : Addr} {o0 o : HO} (hh : H a = some o0) (hp : PlainO o0) (t : LamX.Tabs T H) : LamX.Tabs T (upd H a o) := fun p q => by
  obtain ⟨ps, h1, h2, h3⟩ := t p q
  have ne : ∀ {b : Addr} {u : HO}, H b = some u → ¬ PlainO u → b ≠ a := fun {b u} e n z => by
    rw [z, hh] at e
    cases e
    exact n hp
  refine ⟨ps, by rw [upd_ne (ne h1 (fun z => z))]; exact h1, h2, fun pos cv hc => ?_⟩
  obtain ⟨c, e1, e2⟩ := h3 pos cv hc
  exact ⟨c, e1, by rw [upd_ne (ne e2 (fun z => z))]; exact e2⟩
theorem nt_upd {F : Hp} {p : Addr} {o : HO} (h : ∀ (b : Addr) (o : HO), F b = some o → NoTbl o) (no : NoTbl o) : ∀ (b : Addr) (u : HO), upd F p o b = some u → NoTbl u := fun b u e => by
  by_cases hb : b = p
  · subst hb
    rw [upd_same] at e
    cases e
    exact no
  · rw [upd_ne hb] at e
    exact h b u e
theorem Rel.newF (r : Rel G F μ S H) {p : Addr} (o : HO) (h : H p = none) (no : NoTbl o := by trivial) : Ext F μ (upd F p o) μ ∧ Rel G (upd F p o) μ S (upd H p o) := by
  have hF := r.fnone h
  have x : Ext F μ (upd F p o) μ := ⟨same_upd hF, fun i a z => z⟩
  refine ⟨x, fun b u e => ?_, r.len, r.inj, fun i a e h1 h2 => ?_, fun i a h1 => ?_, tabs_new h r.tab, nt_upd r.nt no⟩
  · by_cases hb : b = p
    · subst hb
      rw [upd_same] at e ⊢
      exact e
    · rw [upd_ne hb] at e ⊢
      exact r.sub b u e
  · have na := r.mune h h1
    exact (r.ent i a e h1 h2).stay x (fun z => by rw [upd_ne na]; exact z) fun o z => by rw [upd_ne na]; exact z
  · have na := r.mune h h1
    obtain ⟨u, q, nq⟩ := r.trk i a h1
    exact ⟨u, by rw [upd_ne na]; exact q, nq⟩
/-- something beside that nobody looks at -/
theorem Rel.beside (r : Rel G F μ S H) {p : Addr} (o : HO) (h : H p = none) : Rel G F μ S (upd H p o) := by
  refine ⟨fun b u e => ?_, r.len, r.inj, fun i a e h1 h2 => ?_, fun i a h1 => ?_, tabs_new h r.tab, r.nt⟩
  · rw [upd_ne (fun z => by rw [z, r.fnone h] at e; cases e)]
    exact r.sub b u e
  · have na := r.mune h h1
    exact (r.ent i a e h1 h2).stay (Ext.refl F μ) (fun z => z) fun o z => by rw [upd_ne na]; exact z
  · have na := r.mune h h1
    obtain ⟨u, q, nq⟩ := r.trk i a h1
    exact ⟨u, by rw [upd_ne na]; exact q, nq⟩
theorem ext_app (F : Hp) (μ : List Addr) (p : Addr) : Ext F μ F (μ ++ [p]) :=
  ⟨fun _ _ h => h, fun i a h => by rw [List.getElem?_append_left (List.getElem?_eq_some_iff.mp h).1]; exact h⟩
/-- a new object that may change -/
theorem Rel.newL (r : Rel G F μ S H) {p : Addr} {o : HO} {e : Ent} (h : H p = none) (he : EntOk G F (μ ++ [p]) (upd H p o) p e) (no : NoTbl o := by trivial) : Rel G F (μ ++ [p]) (S ++ [e]) (upd H p o) := by
  have x := ext_app F μ p
  refine ⟨fun b u q => ?_, by simp [r.len], fun i j a h1 h2 => ?_, fun i a e' h1 h2 => ?_, fun i a h1 => ?_, tabs_new h r.tab, r.nt⟩
  · rw [upd_ne (fun z => by rw [z, r.fnone h] at q; cases q)]
    exact r.sub b u q
  · rw [List.getElem?_append] at h1 h2
    split at h1 <;> split at h2
    · exact r.inj i j a h1 h2
    · rename_i hi hj
      have : a = p := by
        obtain ⟨hl, q⟩ := List.getElem?_eq_some_iff.mp h2
        simpa using q.symm
      exact absurd this (r.mune h h1)
    · rename_i hi hj
      have : a = p := by
        obtain ⟨hl, q⟩ := List.getElem?_eq_some_iff.mp h1
        simpa using q.symm
      exact absurd this (r.mune h h2)
    · obtain ⟨hl, _⟩ := List.getElem?_eq_some_iff.mp h1
      obtain ⟨hl', _⟩ := List.getElem?_eq_some_iff.mp h2
      simp at hl hl'
      omega
  · by_cases hi : i < μ.length
    · rw [List.getElem?_append_left hi] at h1
      rw [List.getElem?_append_left (by rw [← r.len]; exact hi)] at h2
      have na := r.mune h h1
      exact (r.ent i a e' h1 h2).stay x (fun z => z) fun o z => by rw [upd_ne na]; exact z
    · rw [List.getElem?_append_right (by omega)] at h1
      rw [List.getElem?_append_right (by rw [← r.len]; omega)] at h2
      obtain ⟨hl, q⟩ := List.getElem?_eq_some_iff.mp h1
      obtain ⟨hl', q'⟩ := List.getElem?_eq_some_iff.mp h2
      have e1 : p = a := by simpa using q
      have e2 : e = e' := by simpa using q'
      subst e1
      subst e2
      exact he
  · by_cases hi : i < μ.length
    · rw [List.getElem?_append_left hi] at h1
      have na := r.mune h h1
      obtain ⟨u, q, nq⟩ := r.trk i a h1
      exact ⟨u, by rw [upd_ne na]; exact q, nq⟩
    · rw [List.getElem?_append_right (by omega)] at h1
      obtain ⟨hl, q⟩ := List.getElem?_eq_some_iff.mp h1
      have e1 : p = a := by simpa using q
      subst e1
      exact ⟨o, upd_same, no⟩
/-- a live object is written -/
theorem Rel.write (r : Rel G F μ S H) {n : Nat} {a : Addr} {o0 o : HO} {e : Ent} (hh : H a = some o0) (hpl : PlainO o0) (hm : μ[n]? = some a) (hf : F a = none) (he : EntOk G F μ (upd H a o) a e) (no : NoTbl o := by trivial) : Rel G F μ (S.set n e) (upd H a o) := by
  refine ⟨fun b u q => ?_, by simp [r.len], r.inj, fun i b e' h1 h2 => ?_, fun i b h1 => ?_, tabs_write hh hpl r.tab, r.nt⟩
  · rw [upd_ne (fun z => by rw [z, hf] at q; cases q)]
    exact r.sub b u q
  · by_cases hi : n = i
    · subst hi
      rw [hm] at h1
      cases h1
      rw [List.getElem?_set_self (by rw [← r.len]; exact (List.getElem?_eq_some_iff.mp hm).1)] at h2
      cases h2
      exact he
    · rw [List.getElem?_set_ne hi] at h2
      have nb : b ≠ a := fun z => hi (r.inj n i a hm (z ▸ h1))
      exact (r.ent i b e' h1 h2).stay (Ext.refl F μ) (fun z => z) fun o z => by rw [upd_ne nb]; exact z
  · by_cases nb : b = a
    · subst nb
      exact ⟨o, upd_same, no⟩
    · obtain ⟨u, q, nq⟩ := r.trk i b h1
      exact ⟨u, by rw [upd_ne nb]; exact q, nq⟩
/-- a live object is told to change no more -/
theorem Rel.freeze (r : Rel G F μ S H) {n : Nat} {a : Addr} {o : HO} (hm : μ[n]? = some a) (hf : F a = none) (ho : H a = some o) (no : NoTbl o := by trivial) : Ext F μ (upd F a o) μ ∧ Rel G (upd F a o) μ (S.set n .dead) H := by
  have x : Ext F μ (upd F a o) μ := ⟨same_upd hf, fun i a z => z⟩
  refine ⟨x, fun b u q => ?_, by simp [r.len], r.inj, fun i b e' h1 h2 => ?_, r.trk, r.tab, nt_upd r.nt no⟩
  · by_cases hb : b = a
    · subst hb
      rw [upd_same] at q
      rw [← q]
      exact ho
    · rw [upd_ne hb] at q
      exact r.sub b u q
  · by_cases hi : n = i
    · subst hi
      rw [List.getElem?_set_self (by rw [← r.len]; exact (List.getElem?_eq_some_iff.mp hm).1)] at h2
      cases h2
      exact .dead
    · rw [List.getElem?_set_ne hi] at h2
      have nb : b ≠ a := fun z => hi (r.inj n i a hm (z ▸ h1))
      exact (r.ent i b e' h1 h2).stay x (fun z => by rw [upd_ne nb]; exact z) fun o z => z
theorem Rel.lstAt (r : Rel G F μ S H) {n : Nat} {a : Addr} {l : List D} (hm : μ[n]? = some a) (hs : S[n]? = some (.lst l)) : ∃ xs, F a = none ∧ H a = some (.lst xs) ∧ Reps G F μ l xs := by
  cases r.ent n a _ hm hs with
  | lst h1 h2 h3 => exact ⟨_, h1, h2, h3⟩
theorem Rel.dctAt (r : Rel G F μ S H) {n : Nat} {a : Addr} {ks : List Key} {vs : List D} (hm : μ[n]? = some a) (hs : S[n]? = some (.dct ks vs)) : ∃ xs, F a = none ∧ H a = some (.dK (ks.zip xs)) ∧ ks.length = vs.length ∧ Reps G F μ vs xs := by
  cases r.ent n a _ hm hs with
  | dct h1 h2 h3 h4 => exact ⟨_, h1, h2, h3, h4⟩
theorem Rel.insAt (r : Rel G F μ S H) {n : Nat} {a : Addr} {c : Nat} {ks : List Str} {vs : List D} (hm : μ[n]? = some a) (hs : S[n]? = some (.ins c ks vs)) : ∃ dx xs, F a = none ∧ H a = some (.ins (G.cls c) dx (ks.zip xs)) ∧ ks.length = vs.length ∧ Reps G F μ vs xs := by
  cases r.ent n a _ hm hs with
  | ins h1 h2 h3 h4 => exact ⟨_, _, h1, h2, h3, h4⟩
end
end Z

set_option Elab.async false
set_option linter.all false
set_option maxRecDepth 100000
set_option maxHeartbeats 2000000
set_option autoImplicit false
namespace Z
open PySem PySem.Spec L2

/-! ## expressions: what they mean -/
def truthD (S : Store) : D → Option Bool
  | .non => some false
  | .bl b => some b
  | .int i => some (i != 0)
  | .str x => if x.length ≤ sizeLine then some ((x.length : Int) != 0) else none
  | .tup l => some (!l.isEmpty)
  | .lst l => some (!l.isEmpty)
  | .kst l => some (!l.isEmpty)
  | .dct ks _ => some (!ks.isEmpty)
  | .loc n =>
    match S[n]? with
    | some (.lst l) => some (!l.isEmpty)
    | some (.dct ks _) => some (!ks.isEmpty)
    | _ => none
  | _ => none
def resO {α : Type} (o : Option α) (S : Store) : Res α :=
  match o with
  | some a => .ok a S
  | none => .bad
@[simp] theorem resO_some {α : Type} (a : α) (S : Store) : resO (some a) S = .ok a S := rfl
@[simp] theorem resO_none {α : Type} (S : Store) : resO (none : Option α) S = .bad := rfl

def mVar (i : Nat) : ME := fun ρ S => resO (ρ[i]?.join) S
def mC (d : D) : ME := fun _ S => .ok d S
def mBin (f : D → D → Store → Res D) (a b : ME) : ME := fun ρ S => (a ρ S).bind fun x S1 => (b ρ S1).bind fun y S2 => f x y S2
def mUn (f : D → Store → Res D) (a : ME) : ME := fun ρ S => (a ρ S).bind f
def mTst (a : ME) : MB := fun ρ S => (a ρ S).bind fun x S1 => resO (truthD S1 x) S1
def asBl : D → Option Bool
  | .bl b => some b
  | _ => none
def mBlT (a : ME) : MB := fun ρ S => (a ρ S).bind fun x S1 => resO (asBl x) S1
def mAndT (a b : MB) : MB := fun ρ S => (a ρ S).bind fun c S1 => if c = true then b ρ S1 else .ok false S1
def mOrT (a b : MB) : MB := fun ρ S => (a ρ S).bind fun c S1 => if c = true then .ok true S1 else b ρ S1
def mNotT (a : MB) : MB := fun ρ S => (a ρ S).bind fun c S1 => .ok (!c) S1
def mIf (c : MB) (a b : ME) : ME := fun ρ S => (c ρ S).bind fun k S1 => if k = true then a ρ S1 else b ρ S1
def mAndV (a b : ME) : ME := fun ρ S => (a ρ S).bind fun x S1 => (resO (truthD S1 x) S1).bind fun c S2 => if c = true then b ρ S2 else .ok x S2
def mOrV (a b : ME) : ME := fun ρ S => (a ρ S).bind fun x S1 => (resO (truthD S1 x) S1).bind fun c S2 => if c = true then .ok x S2 else b ρ S2
def mNotV (a : ME) : ME := fun ρ S => (a ρ S).bind fun x S1 => (resO (truthD S1 x) S1).bind fun c S2 => .ok (.bl (!c)) S2
def mNilL : ML := fun _ S => .ok [] S
def mConsL (a : ME) (l : ML) : ML := fun ρ S => (a ρ S).bind fun x S1 => (l ρ S1).bind fun xs S2 => .ok (x :: xs) S2
def mTup (l : ML) : ME := fun ρ S => (l ρ S).bind fun xs S1 => if xs.length ≤ sizeLine then .ok (.tup xs) S1 else .bad
/-- a list that will not change -/
def mLst (l : ML) : ME := fun ρ S => (l ρ S).bind fun xs S1 => if xs.length ≤ sizeLine then .ok (.lst xs) S1 else .bad
/-- a list that may change -/
def mLoc (l : ML) : ME := fun ρ S => (l ρ S).bind fun xs S1 => if xs.length ≤ sizeLine then .ok (.loc S1.length) (S1 ++ [.lst xs]) else .bad
def mCall (f : List D → Store → Res D) (l : ML) : ME := fun ρ S => (l ρ S).bind f
/-- a list (or an object) is told to change no more -/
def frzD : D → Store → Res D
  | .loc n, S =>
    match S[n]? with
    | some (.lst l) => .ok (.lst l) (S.set n .dead)
    | some (.dct ks vs) => .ok (.dct ks vs) (S.set n .dead)
    | some (.ins c ks vs) => .ok (.ins c ks vs) (S.set n .dead)
    | _ => .bad
  | d, S => .ok d S
def mFrz (a : ME) : ME := mUn frzD a

/-! ## .. and that it is so -/
section
variable {G : Gm} {X : Cx} {W : WX} {k : Nat}
theorem zip_isEmpty {α β : Type} : ∀ {ks : List α} {xs : List β}, ks.length = xs.length → (ks.zip xs).isEmpty = ks.isEmpty
  | [], _, _ => rfl
  | _ :: _, _ :: _, _ => rfl
  | _ :: _, [], h => by cases h
theorem reps_empty {F : Hp} {μ : List Addr} {l : List D} {xs : List V} (r : Reps G F μ l xs) : xs.isEmpty = l.isEmpty := by
  cases r <;> rfl
theorem truth_ok {F : Hp} {μ : List Addr} {S : Store} {H : Hp} {d : D} {v : V} {c : Bool} (r : Rel G F μ S H) (p : Rep G F μ d v) (h : truthD S d = some c) : TruV G.K v H c := by
  cases p with
  | non => exact (Option.some.inj h).symm
  | bl b => exact (Option.some.inj h).symm
  | int i => exact (Option.some.inj h).symm
  | str x =>
    simp only [truthD] at h
    split at h
    · rename_i hl
      exact ⟨hl, (Option.some.inj h).symm⟩
    · cases h
  | ty n => cases h
  | cls n => cases h
  | tup hs hr => exact .inr (.inl ⟨_, same_sqT r.sub hs, by rw [reps_empty hr]; exact (Option.some.inj h).symm⟩)
  | lst hs hr => exact .inl ⟨_, SqL.of (r.sub _ _ hs), by rw [reps_empty hr]; exact (Option.some.inj h).symm⟩
  | kst hs hr => exact .inl ⟨_, same_sqL r.sub hs, by rw [reps_empty hr]; exact (Option.some.inj h).symm⟩
  | dct hs hl hr => exact .inr (.inr ⟨_, r.sub _ _ hs, by rw [zip_isEmpty (by rw [hl, hr.length])]; exact (Option.some.inj h).symm⟩)
  | ins => cases h
  | exn => cases h
  | fn => cases h
  | lam => cases h
  | @loc n a hm =>
    simp only [truthD] at h
    split at h
    · rename_i l hs
      obtain ⟨xs, _, h2, h3⟩ := r.lstAt hm hs
      exact .inl ⟨xs, SqL.of h2, by rw [reps_empty h3]; exact (Option.some.inj h).symm⟩
    · rename_i ks vs hs
      obtain ⟨xs, _, h2, hl, h3⟩ := r.dctAt hm hs
      exact .inr (.inr ⟨_, h2, by rw [zip_isEmpty (by rw [hl, h3.length])]; exact (Option.some.inj h).symm⟩)
    · cases h
theorem post_resO {α α' β' : Type} {W : WX} {R : RR α' β'} {F : Hp} {μ : List Addr} {σ : L2.St} {Q : β' → Hp → Prop} {o : Option α} {S : Store} {f : α → Store → Res α'} (h : Post G W R F μ σ Q ((resO o S).bind f)) : ∃ a, o = some a ∧ Post G W R F μ σ Q (f a S) := by
  cases o with
  | none => exact h.elim
  | some a => exact ⟨a, rfl, h⟩
theorem post_resO1 {α' β' : Type} {W : WX} {R : RR α' β'} {F : Hp} {μ : List Addr} {σ : L2.St} {Q : β' → Hp → Prop} {o : Option α'} {S : Store} (h : Post G W R F μ σ Q (resO o S)) : ∃ a, o = some a ∧ Post G W R F μ σ Q (.ok a S) := by
  cases o with
  | none => exact h.elim
  | some a => exact ⟨a, rfl, h⟩

theorem se_var {i : Nat} {x : Str} {pos : Pos} (hN : X.N[i]? = some x := by rfl) (hv : Vis X.env.scope x := by first | exact Or.inl rfl | exact Or.inr (Or.inl rfl) | exact Or.inr (Or.inr rfl)) (hd : (x == ("__debug__" : Str)) = false := by decide)
    (hcd : (x == ("__classdict__" : Str)) = false := by decide) : SE G X W (.Name x pos) (mVar i) := by
  refine ⟨_, pe_var hN hv hd hcd, fun ρ S σ H F μ Q he hr hp => ?_⟩
  obtain ⟨d, e, hp⟩ := post_resO1 hp
  have e' : ρ[i]? = some (some d) := by
    cases q : ρ[i]? with
    | none => rw [q] at e; cases e
    | some o => rw [q] at e; cases o with
      | none => cases e
      | some d' => cases e; rfl
  obtain ⟨v, h1, h2⟩ := he.get i d e'
  exact ⟨v, h1, hp F μ v H (Ext.refl _ _) hr h2⟩
theorem se_c {e : Expr} {d : D} {v : V} (h : PE X e (tC v)) (r : ∀ F μ, Rep G F μ d v) : SE G X W e (mC d) :=
  ⟨_, h, fun ρ S σ H F μ Q he hr hp => hp F μ v H (Ext.refl _ _) hr (r F μ)⟩
theorem se_int {i : Int} {j : Nat} {pos : Pos} : SE G X W (.Constant (.int i) j pos) (mC (.int i)) := se_c pe_int fun _ _ => .int i
theorem se_bl {b : Bool} {j : Nat} {pos : Pos} : SE G X W (.Constant (.bool b) j pos) (mC (.bl b)) := se_c pe_bl fun _ _ => .bl b
theorem se_non {j : Nat} {pos : Pos} : SE G X W (.Constant .none j pos) (mC .non) := se_c pe_non fun _ _ => .non
theorem se_str {x : Str} {j : Nat} {pos : Pos} : SE G X W (.Constant (.str x) j pos) (mC (.str x)) := se_c pe_str fun _ _ => .str x

/-- what an operation by values does -/
def OpI (G : Gm) (f : D → D → Store → Res D) (r : R2) : Prop :=
  ∀ (W : WX) (F : Hp) (μ : List Addr) (σ : L2.St) (S : Store) (H : Hp) (x y : D) (u v : V) (Q : VK), Rel G F μ S H → Rep G F μ x u → Rep G F μ y v → Post G W (Rep G) F μ σ Q (f x y S) → r u v H Q
def UnI (G : Gm) (f : D → Store → Res D) (r : V → Hp → VK → Prop) : Prop :=
  ∀ (W : WX) (F : Hp) (μ : List Addr) (σ : L2.St) (S : Store) (H : Hp) (x : D) (u : V) (Q : VK), Rel G F μ S H → Rep G F μ x u → Post G W (Rep G) F μ σ Q (f x S) → r u H Q
def CallI (G : Gm) (f : List D → Store → Res D) (r : List V → Hp → VK → Prop) : Prop :=
  ∀ (W : WX) (F : Hp) (μ : List Addr) (σ : L2.St) (S : Store) (H : Hp) (ds : List D) (us : List V) (Q : VK), Rel G F μ S H → Reps G F μ ds us → Post G W (Rep G) F μ σ Q (f ds S) → r us H Q
theorem imp_bin {ta tb : TE} {a b : ME} {f : D → D → Store → Res D} {r : R2} (ha : ImpE G W (Rep G) ta a) (hb : ImpE G W (Rep G) tb b) (hf : OpI G f r) : ImpE G W (Rep G) (tOp r ta tb) (mBin f a b) := by
  intro ρ S σ H F μ Q he hr hp
  refine ha ρ S σ H F μ _ he hr (Post.bind hp fun x S1 F1 μ1 u H1 x1 r1 p1 q1 => ?_)
  refine hb ρ S1 σ H1 F1 μ1 _ (he.mono x1) r1 (Post.bind q1 fun y S2 F2 μ2 v H2 x2 r2 p2 q2 => ?_)
  exact hf W F2 μ2 σ S2 H2 x y u v Q r2 (p1.mono x2) p2 q2
theorem imp_un {ta : TE} {a : ME} {f : D → Store → Res D} {r : V → Hp → VK → Prop} (ha : ImpE G W (Rep G) ta a) (hf : UnI G f r) : ImpE G W (Rep G) (tUn r ta) (mUn f a) := by
  intro ρ S σ H F μ Q he hr hp
  refine ha ρ S σ H F μ _ he hr (Post.bind hp fun x S1 F1 μ1 u H1 x1 r1 p1 q1 => ?_)
  exact hf W F1 μ1 σ S1 H1 x u Q r1 p1 q1
theorem se_op {a b : Expr} {op : Operator} {pos : Pos} {f : D → D → Store → Res D} {r : R2} {ma mb : ME} (hf : OpI G f r) (ho : OpR X (binaryOp op) r) (ha : SE G X W a ma) (hb : SE G X W b mb) : SE G X W (.BinOp a op b pos) (mBin f ma mb) := by
  obtain ⟨ta, pa, ia⟩ := ha
  obtain ⟨tb, pb, ib⟩ := hb
  exact ⟨_, pe_op ho pa pb, imp_bin ia ib hf⟩
theorem se_un {a : Expr} {op : UnaryOp} {pos : Pos} {f : D → Store → Res D} {r : V → Hp → VK → Prop} {ma : ME} (hf : UnI G f r) (ho : UnR X (unaryOp op) r) (ha : SE G X W a ma) : SE G X W (.UnaryOp op a pos) (mUn f ma) := by
  obtain ⟨ta, pa, ia⟩ := ha
  exact ⟨_, pe_un ho pa, imp_un ia hf⟩
theorem se_cmp {a b : Expr} {op : CmpOp} {pos : Pos} {f : D → D → Store → Res D} {r : R2} {ma mb : ME} (hf : OpI G f r) (ho : OpR X (compareOp op) r) (ha : SE G X W a ma) (hb : SE G X W b mb) (hm : behindInMarks op b = false) : SE G X W (.Compare a [op] [b] pos) (mBin f ma mb) := by
  obtain ⟨ta, pa, ia⟩ := ha
  obtain ⟨tb, pb, ib⟩ := hb
  exact ⟨_, pe_cmpR ho pa pb hm, imp_bin ia ib hf⟩
theorem imp_bl {ta : TE} {a : ME} (ha : ImpE G W (Rep G) ta a) : ImpE G W rB (tTest ta) (mBlT a) := by
  intro ρ S σ H F μ Q he hr hp
  refine ha ρ S σ H F μ _ he hr (Post.bind hp fun x S1 F1 μ1 u H1 x1 r1 p1 q1 => ?_)
  obtain ⟨c, e, q⟩ := post_resO1 q1
  cases x with
  | bl b =>
    cases p1
    exact ⟨_, rfl, q F1 μ1 _ H1 (Ext.refl _ _) r1 (Option.some.inj e).symm⟩
  | _ => cases e
theorem st_cmp {a b : Expr} {op : CmpOp} {pos : Pos} {f : D → D → Store → Res D} {r : R2} {ma mb : ME} (hf : OpI G f r) (ho : OpR X (compareOp op) r) (ha : SE G X W a ma) (hb : SE G X W b mb) (hm : behindInMarks op b = false) : ST G X W (.Compare a [op] [b] pos) (mBlT (mBin f ma mb)) := by
  obtain ⟨ta, pa, ia⟩ := ha
  obtain ⟨tb, pb, ib⟩ := hb
  exact ⟨_, pt_cmpR ho pa pb hm, imp_bl (imp_bin ia ib hf)⟩
theorem st_truth {a : Expr} {ma : ME} (hK : X.K = G.K) (ha : SE G X W a ma) (he : ∀ whole, isTrue a X.env whole = (do let v ← whole; standAt a.pos; holding [v] (truthy v)) := by intro _; rfl) : ST G X W a (mTst ma) := by
  obtain ⟨ta, pa, ia⟩ := ha
  refine ⟨_, pt_truth pa he, fun ρ S σ H F μ Q en hr hp => ?_⟩
  refine ia ρ S σ H F μ _ en hr (Post.bind hp fun x S1 F1 μ1 u H1 x1 r1 p1 q1 => ?_)
  obtain ⟨c, e, q⟩ := post_resO1 q1
  refine ⟨c, ?_, q F1 μ1 c H1 (Ext.refl _ _) r1 rfl⟩
  rw [hK]
  exact truth_ok r1 p1 e
theorem SW.pt {e : Expr} {m : MB} (h : SW G X W e m) : ST G X W e m := by
  obtain ⟨t, p, i⟩ := h
  exact ⟨t, p.pt, i⟩
theorem imp_and {ta tb : TT} {a b : MB} (ha : ImpE G W rB ta a) (hb : ImpE G W rB tb b) : ImpE G W rB (tAnd ta tb) (mAndT a b) := by
  intro ρ S σ H F μ Q he hr hp
  refine ha ρ S σ H F μ _ he hr (Post.bind hp fun c S1 F1 μ1 c' H1 x1 r1 p1 q1 => ?_)
  cases (show c = c' from p1)
  cases c with
  | true => exact iteT (hb ρ S1 σ H1 F1 μ1 Q (he.mono x1) r1 q1)
  | false => exact iteF (q1 F1 μ1 false H1 (Ext.refl _ _) r1 rfl)
theorem imp_or {ta tb : TT} {a b : MB} (ha : ImpE G W rB ta a) (hb : ImpE G W rB tb b) : ImpE G W rB (tOr ta tb) (mOrT a b) := by
  intro ρ S σ H F μ Q he hr hp
  refine ha ρ S σ H F μ _ he hr (Post.bind hp fun c S1 F1 μ1 c' H1 x1 r1 p1 q1 => ?_)
  cases (show c = c' from p1)
  cases c with
  | false => exact iteF (hb ρ S1 σ H1 F1 μ1 Q (he.mono x1) r1 q1)
  | true => exact iteT (q1 F1 μ1 true H1 (Ext.refl _ _) r1 rfl)
theorem sw_and1 {a : Expr} {pos : Pos} {m : MB} (ha : ST G X W a m) : SW G X W (.BoolOp .And [a] pos) m := by
  obtain ⟨t, p, i⟩ := ha
  exact ⟨t, pw_and1 p, i⟩
theorem sw_or1 {a : Expr} {pos : Pos} {m : MB} (ha : ST G X W a m) : SW G X W (.BoolOp .Or [a] pos) m := by
  obtain ⟨t, p, i⟩ := ha
  exact ⟨t, pw_or1 p, i⟩
theorem sw_and {a b : Expr} {rest : List Expr} {pos : Pos} {m n : MB} (ha : ST G X W a m) (hb : SW G X W (.BoolOp .And (b :: rest) pos) n) : SW G X W (.BoolOp .And (a :: b :: rest) pos) (mAndT m n) := by
  obtain ⟨t, p, i⟩ := ha
  obtain ⟨u, q, j⟩ := hb
  exact ⟨_, pw_and p q, imp_and i j⟩
theorem sw_or {a b : Expr} {rest : List Expr} {pos : Pos} {m n : MB} (ha : ST G X W a m) (hb : SW G X W (.BoolOp .Or (b :: rest) pos) n) : SW G X W (.BoolOp .Or (a :: b :: rest) pos) (mOrT m n) := by
  obtain ⟨t, p, i⟩ := ha
  obtain ⟨u, q, j⟩ := hb
  exact ⟨_, pw_or p q, imp_or i j⟩
theorem st_not {a : Expr} {pos : Pos} {m : MB} (ha : ST G X W a m) : ST G X W (.UnaryOp .Not a pos) (mNotT m) := by
  obtain ⟨t, p, i⟩ := ha
  refine ⟨_, pt_not p, fun ρ S σ H F μ Q he hr hp => ?_⟩
  refine i ρ S σ H F μ _ he hr (Post.bind hp fun c S1 F1 μ1 c' H1 x1 r1 p1 q1 => ?_)
  cases (show c = c' from p1)
  exact q1 F1 μ1 (!c) H1 (Ext.refl _ _) r1 rfl
theorem se_ifExp {c a b : Expr} {pos : Pos} {mc : MB} {ma mb : ME} (hc : ST G X W c mc) (ha : SE G X W a ma) (hb : SE G X W b mb) : SE G X W (.IfExp c a b pos) (mIf mc ma mb) := by
  obtain ⟨tc, pc, ic⟩ := hc
  obtain ⟨ta, pa, ia⟩ := ha
  obtain ⟨tb, pb, ib⟩ := hb
  refine ⟨_, pe_ifExp pc pa pb, fun ρ S σ H F μ Q he hr hp => ?_⟩
  refine ic ρ S σ H F μ _ he hr (Post.bind hp fun c S1 F1 μ1 c' H1 x1 r1 p1 q1 => ?_)
  cases (show c = c' from p1)
  cases c with
  | true => exact iteT (ia ρ S1 σ H1 F1 μ1 Q (he.mono x1) r1 q1)
  | false => exact iteF (ib ρ S1 σ H1 F1 μ1 Q (he.mono x1) r1 q1)
theorem se_one {op : BoolOp} {a : Expr} {pos : Pos} {m : ME} (ha : SE G X W a m) : SE G X W (.BoolOp op [a] pos) m := by
  obtain ⟨t, p, i⟩ := ha
  exact ⟨t, pe_one p, i⟩
theorem se_and {a b : Expr} {rest : List Expr} {pos : Pos} {m n : ME} (hK : X.K = G.K) (ha : SE G X W a m) (hb : SE G X W (.BoolOp .And (b :: rest) pos) n) : SE G X W (.BoolOp .And (a :: b :: rest) pos) (mAndV m n) := by
  obtain ⟨ta, pa, ia⟩ := ha
  obtain ⟨tb, pb, ib⟩ := hb
  refine ⟨_, pe_andT pa pb, fun ρ S σ H F μ Q he hr hp => ?_⟩
  refine ia ρ S σ H F μ _ he hr (Post.bind hp fun x S1 F1 μ1 u H1 x1 r1 p1 q1 => ?_)
  obtain ⟨c, e, q⟩ := post_resO q1
  refine ⟨c, by rw [hK]; exact truth_ok r1 p1 e, ?_⟩
  cases c with
  | true => exact iteT (ib ρ S1 σ H1 F1 μ1 Q (he.mono x1) r1 q)
  | false => exact iteF (q F1 μ1 u H1 (Ext.refl _ _) r1 p1)
theorem se_or {a b : Expr} {rest : List Expr} {pos : Pos} {m n : ME} (hK : X.K = G.K) (ha : SE G X W a m) (hb : SE G X W (.BoolOp .Or (b :: rest) pos) n) : SE G X W (.BoolOp .Or (a :: b :: rest) pos) (mOrV m n) := by
  obtain ⟨ta, pa, ia⟩ := ha
  obtain ⟨tb, pb, ib⟩ := hb
  refine ⟨_, pe_orT pa pb, fun ρ S σ H F μ Q he hr hp => ?_⟩
  refine ia ρ S σ H F μ _ he hr (Post.bind hp fun x S1 F1 μ1 u H1 x1 r1 p1 q1 => ?_)
  obtain ⟨c, e, q⟩ := post_resO q1
  refine ⟨c, by rw [hK]; exact truth_ok r1 p1 e, ?_⟩
  cases c with
  | false => exact iteF (ib ρ S1 σ H1 F1 μ1 Q (he.mono x1) r1 q)
  | true => exact iteT (q F1 μ1 u H1 (Ext.refl _ _) r1 p1)
theorem se_not {a : Expr} {pos : Pos} {m : ME} (hK : X.K = G.K) (ha : SE G X W a m) : SE G X W (.UnaryOp .Not a pos) (mNotV m) := by
  obtain ⟨ta, pa, ia⟩ := ha
  refine ⟨_, pe_notT pa, fun ρ S σ H F μ Q he hr hp => ?_⟩
  refine ia ρ S σ H F μ _ he hr (Post.bind hp fun x S1 F1 μ1 u H1 x1 r1 p1 q1 => ?_)
  obtain ⟨c, e, q⟩ := post_resO q1
  exact ⟨c, by rw [hK]; exact truth_ok r1 p1 e, q F1 μ1 _ H1 (Ext.refl _ _) r1 (.bl _)⟩

/-! ### lists of expressions, displays -/
theorem sa_nil : SA G X W [] mNilL := ⟨_, pa_nil, fun ρ S σ H F μ Q he hr hp => hp F μ [] H (Ext.refl _ _) hr .nil⟩
theorem sa_cons {e : Expr} {es : List Expr} {m : ME} {n : ML} (ha : SE G X W e m) (hb : SA G X W es n) (hs : starEach (e :: es) X.env = (false, eval e X.env) :: starEach es X.env := by rfl) : SA G X W (e :: es) (mConsL m n) := by
  obtain ⟨ta, pa, ia⟩ := ha
  obtain ⟨tb, pb, ib⟩ := hb
  refine ⟨_, pa_cons pa pb hs, fun ρ S σ H F μ Q he hr hp => ?_⟩
  refine ia ρ S σ H F μ _ he hr (Post.bind hp fun x S1 F1 μ1 u H1 x1 r1 p1 q1 => ?_)
  refine ib ρ S1 σ H1 F1 μ1 _ (he.mono x1) r1 (Post.bind q1 fun xs S2 F2 μ2 us H2 x2 r2 p2 q2 => ?_)
  exact q2 F2 μ2 _ H2 (Ext.refl _ _) r2 (.cons (p1.mono x2) p2)
theorem post_if {α β : Type} {R : RR α β} {F : Hp} {μ : List Addr} {σ : L2.St} {Q : β → Hp → Prop} {c : Prop} [Decidable c] {r : Res α} (h : Post G W R F μ σ Q (if c then r else .bad)) : c ∧ Post G W R F μ σ Q r := by
  by_cases hc : c
  · rw [if_pos hc] at h
    exact ⟨hc, h⟩
  · rw [if_neg hc] at h
    exact h.elim
theorem se_tup {es : List Expr} {cx : Nat} {pos : Pos} {m : ML} (h : SA G X W es m) : SE G X W (.Tuple es cx pos) (mTup m) := by
  obtain ⟨t, p, i⟩ := h
  refine ⟨_, pe_tup p, fun ρ S σ H F μ Q he hr hp => ?_⟩
  refine i ρ S σ H F μ _ he hr (Post.bind hp fun xs S1 F1 μ1 us H1 x1 r1 p1 q1 => ?_)
  obtain ⟨hl, q⟩ := post_if q1
  refine ⟨by rw [← p1.length]; exact hl, fun p hp => ?_⟩
  obtain ⟨xx, rr⟩ := r1.newF (.tup us) hp
  exact q _ _ _ _ xx rr (.tup (TupF.of upd_same) (p1.mono xx))
theorem se_lst {es : List Expr} {pos : Pos} {m : ML} (h : SA G X W es m) : SE G X W (.List es pos) (mLst m) := by
  obtain ⟨t, p, i⟩ := h
  refine ⟨_, pe_lst p, fun ρ S σ H F μ Q he hr hp => ?_⟩
  refine i ρ S σ H F μ _ he hr (Post.bind hp fun xs S1 F1 μ1 us H1 x1 r1 p1 q1 => ?_)
  obtain ⟨hl, q⟩ := post_if q1
  refine ⟨by rw [← p1.length]; exact hl, fun p hp => ?_⟩
  obtain ⟨xx, rr⟩ := r1.newF (.lst us) hp
  exact q _ _ _ _ xx rr (.lst upd_same (p1.mono xx))
theorem mu_new {F : Hp} {μ : List Addr} {S : Store} {H : Hp} (r : Rel G F μ S H) (p : Addr) : (μ ++ [p])[S.length]? = some p := by
  rw [← r.len]
  simp
theorem se_loc {es : List Expr} {pos : Pos} {m : ML} (h : SA G X W es m) : SE G X W (.List es pos) (mLoc m) := by
  obtain ⟨t, p, i⟩ := h
  refine ⟨_, pe_lst p, fun ρ S σ H F μ Q he hr hp => ?_⟩
  refine i ρ S σ H F μ _ he hr (Post.bind hp fun xs S1 F1 μ1 us H1 x1 r1 p1 q1 => ?_)
  obtain ⟨hl, q⟩ := post_if q1
  refine ⟨by rw [← p1.length]; exact hl, fun p hp => ?_⟩
  have rr := r1.newL (e := .lst xs) hp (.lst (r1.fnone hp) upd_same (p1.mono (ext_app F1 μ1 p)))
  exact q _ _ _ _ (ext_app F1 μ1 p) rr (.loc (mu_new r1 p))
/-- told to change no more -/
theorem se_frz {e : Expr} {m : ME} (h : SE G X W e m) : SE G X W e (mFrz m) := by
  obtain ⟨t, p, i⟩ := h
  refine ⟨t, p, fun ρ S σ H F μ Q he hr hp => ?_⟩
  refine i ρ S σ H F μ _ he hr (Post.bind hp fun d S1 F1 μ1 v H1 x1 r1 p1 q1 => ?_)
  cases p1 with
  | @loc n a hm =>
    simp only [frzD] at q1
    split at q1
    · rename_i l hs
      obtain ⟨xs, hf, ho, hr'⟩ := r1.lstAt hm hs
      obtain ⟨xx, rr⟩ := r1.freeze hm hf ho
      exact q1 _ _ _ _ xx rr (.lst upd_same (hr'.mono xx))
    · rename_i ks vs hs
      obtain ⟨xs, hf, ho, hl, hr'⟩ := r1.dctAt hm hs
      obtain ⟨xx, rr⟩ := r1.freeze hm hf ho
      exact q1 _ _ _ _ xx rr (.dct upd_same hl (hr'.mono xx))
    · rename_i c ks vs hs
      obtain ⟨dx, xs, hf, ho, hl, hr'⟩ := r1.insAt hm hs
      obtain ⟨xx, rr⟩ := r1.freeze hm hf ho
      exact q1 _ _ _ _ xx rr (.ins upd_same hl (hr'.mono xx))
    · exact q1.elim
  | non => exact q1 _ _ _ _ (Ext.refl _ _) r1 .non
  | bl b => exact q1 _ _ _ _ (Ext.refl _ _) r1 (.bl b)
  | int b => exact q1 _ _ _ _ (Ext.refl _ _) r1 (.int b)
  | str b => exact q1 _ _ _ _ (Ext.refl _ _) r1 (.str b)
  | ty b => exact q1 _ _ _ _ (Ext.refl _ _) r1 (.ty b)
  | cls b => exact q1 _ _ _ _ (Ext.refl _ _) r1 (.cls b)
  | tup a b => exact q1 _ _ _ _ (Ext.refl _ _) r1 (.tup a b)
  | lst a b => exact q1 _ _ _ _ (Ext.refl _ _) r1 (.lst a b)
  | kst a b => exact q1 _ _ _ _ (Ext.refl _ _) r1 (.kst a b)
  | dct a b c => exact q1 _ _ _ _ (Ext.refl _ _) r1 (.dct a b c)
  | ins a b c => exact q1 _ _ _ _ (Ext.refl _ _) r1 (.ins a b c)
  | exn a b c e => exact q1 _ _ _ _ (Ext.refl _ _) r1 (.exn a b c e)
  | fn a => exact q1 _ _ _ _ (Ext.refl _ _) r1 (.fn a)
  | lam a b => exact q1 _ _ _ _ (Ext.refl _ _) r1 (.lam a b)
end
end Z

set_option Elab.async false
set_option linter.all false
set_option maxRecDepth 100000
set_option maxHeartbeats 2000000
set_option autoImplicit false
namespace Z
open PySem PySem.Spec L2

/-! ## statements -/
abbrev MS := Env' → Store → SR
def srRes {α : Type} (ρ : Env') (r : Res α) (f : α → Store → SR) : SR :=
  match r with
  | .ok a S => f a S
  | .ex c ks vs S => .ex ρ c ks vs S
  | .bad => .bad
@[simp] theorem srRes_ok {α : Type} (ρ : Env') (a : α) (S : Store) (f : α → Store → SR) : srRes ρ (.ok a S) f = f a S := rfl
@[simp] theorem srRes_ex {α : Type} (ρ : Env') (c : Nat) (ks : List Str) (vs : List D) (S : Store) (f : α → Store → SR) : srRes ρ (.ex c ks vs S) f = .ex ρ c ks vs S := rfl
@[simp] theorem srRes_bad {α : Type} (ρ : Env') (f : α → Store → SR) : srRes ρ (.bad) f = .bad := rfl
def SR.seq (r : SR) (f : Env' → Store → SR) : SR :=
  match r with
  | .nx ρ S => f ρ S
  | r => r
@[simp] theorem seq_nx (ρ : Env') (S : Store) (f : Env' → Store → SR) : (SR.nx ρ S).seq f = f ρ S := rfl
@[simp] theorem seq_rt (d : D) (S : Store) (f : Env' → Store → SR) : (SR.rt d S).seq f = .rt d S := rfl
@[simp] theorem seq_bk (ρ : Env') (S : Store) (f : Env' → Store → SR) : (SR.bk ρ S).seq f = .bk ρ S := rfl
@[simp] theorem seq_ct (ρ : Env') (S : Store) (f : Env' → Store → SR) : (SR.ct ρ S).seq f = .ct ρ S := rfl
@[simp] theorem seq_ex (ρ : Env') (c : Nat) (ks : List Str) (vs : List D) (S : Store) (f : Env' → Store → SR) : (SR.ex ρ c ks vs S).seq f = .ex ρ c ks vs S := rfl
@[simp] theorem seq_bad (f : Env' → Store → SR) : (SR.bad).seq f = .bad := rfl

def sExpr (a : ME) : MS := fun ρ S => srRes ρ (a ρ S) fun _ S1 => .nx ρ S1
def sRet (a : ME) : MS := fun ρ S => srRes ρ (a ρ S) fun d S1 => .rt d S1
def sRetN : MS := fun _ S => .rt .non S
def sPass : MS := fun ρ S => .nx ρ S
def sBreak : MS := fun ρ S => .bk ρ S
def sCont : MS := fun ρ S => .ct ρ S
def sIf (c : MB) (t e : MS) : MS := fun ρ S => srRes ρ (c ρ S) fun b S1 => if b = true then t ρ S1 else e ρ S1
def sSeq (a b : MS) : MS := fun ρ S => (a ρ S).seq b
/-- a place's value told to change no more (nothing is done) -/
def frzAt (i : Nat) (ρ : Env') (S : Store) : SR :=
  match ρ[i]?.join with
  | some d => srRes ρ (frzD d S) fun d' S' => .nx (ρ.set i (some d')) S'
  | none => .bad
def sFrzB (i : Nat) (a : MS) : MS := fun ρ S => (frzAt i ρ S).seq a
def sFrzA (i : Nat) (a : MS) : MS := fun ρ S => (a ρ S).seq (frzAt i)
/-- targets -/
abbrev MG := D → Env' → Store → Option (Env' × Store)
abbrev MGs := List D → Env' → Store → Option (Env' × Store)
def gNm (i : Nat) : MG := fun d ρ S => some (ρ.set i (some d), S)
def gsNil : MGs := fun ds ρ S => match ds with | [] => some (ρ, S) | _ => none
def gsCons (g : MG) (gs : MGs) : MGs := fun ds ρ S => match ds with | d :: r => (g d ρ S).bind fun p => gs r p.1 p.2 | [] => none
def itemsD (S : Store) : D → Option (List D)
  | .tup l => some l
  | .lst l => some l
  | .kst l => some l
  | .loc n =>
    match S[n]? with
    | some (.lst l) => some l
    | _ => none
  | _ => none
def gMany (n : Nat) (gs : MGs) : MG := fun d ρ S =>
  match itemsD S d with
  | some l => if l.length = n then gs l ρ S else none
  | none => none
def srGo (o : Option (Env' × Store)) : SR :=
  match o with
  | some p => .nx p.1 p.2
  | none => .bad
@[simp] theorem srGo_some (p : Env' × Store) : srGo (some p) = .nx p.1 p.2 := rfl
@[simp] theorem srGo_none : srGo none = .bad := rfl
def sAsg (a : ME) (g : MG) : MS := fun ρ S => srRes ρ (a ρ S) fun d S1 => srGo (g d ρ S1)
def sPar (i j : Nat) (l : ML) : MS := fun ρ S => srRes ρ (l ρ S) fun ds S1 => match ds with | [d, e] => .nx ((ρ.set i (some d)).set j (some e)) S1 | _ => .bad

def PostS (G : Gm) (W : WX) (F : Hp) (μ : List Addr) (Ds : Ends) : SR → Prop
  | .nx ρ S => ∀ F' μ' σ' H', Ext F μ F' μ' → Rel G F' μ' S H' → EnvR G F' μ' ρ σ' → Ds.nx σ' H'
  | .rt d S => ∀ F' μ' v H', Ext F μ F' μ' → Rel G F' μ' S H' → Rep G F' μ' d v → Ds.rt v H'
  | .bk ρ S => ∀ F' μ' σ' H', Ext F μ F' μ' → Rel G F' μ' S H' → EnvR G F' μ' ρ σ' → Ds.bk σ' H'
  | .ct ρ S => ∀ F' μ' σ' H', Ext F μ F' μ' → Rel G F' μ' S H' → EnvR G F' μ' ρ σ' → Ds.ct σ' H'
  | .ex ρ c ks vs S => ∀ F' μ' σ' dx xs H', Ext F μ F' μ' → Rel G F' μ' S H' → EnvR G F' μ' ρ σ' → XdR F' dx ks xs → ks.length = vs.length → Reps G F' μ' vs xs → W (.ref (G.cls c)) dx σ' H'
  | .bad => False
section
variable {G : Gm} {X : Cx} {W : WX} {k : Nat} {F F1 : Hp} {μ μ1 : List Addr} {Ds : Ends}
theorem PostS.mono {r : SR} (h : PostS G W F μ Ds r) (x : Ext F μ F1 μ1) : PostS G W F1 μ1 Ds r := by
  cases r with
  | nx ρ S => exact fun F' μ' v H' e a b => h F' μ' v H' (x.trans e) a b
  | rt d S => exact fun F' μ' v H' e a b => h F' μ' v H' (x.trans e) a b
  | bk ρ S => exact fun F' μ' v H' e a b => h F' μ' v H' (x.trans e) a b
  | ct ρ S => exact fun F' μ' v H' e a b => h F' μ' v H' (x.trans e) a b
  | ex ρ c ks vs S => exact fun F' μ' σ' dx xs H' e a b => h F' μ' σ' dx xs H' (x.trans e) a b
  | bad => exact h
/-- an expression ahead -/
theorem PostS.res {α β : Type} {R : RR α β} {ρ : Env'} {σ : L2.St} {r : Res α} {f : α → Store → SR} {Q : β → Hp → Prop} (h : PostS G W F μ Ds (srRes ρ r f)) (he : EnvR G F μ ρ σ)
    (kk : ∀ d S F' μ' v H', Ext F μ F' μ' → Rel G F' μ' S H' → R F' μ' d v → PostS G W F' μ' Ds (f d S) → Q v H') : Post G W R F μ σ Q r := by
  cases r with
  | ok d S => exact fun F' μ' v H' e a b => kk d S F' μ' v H' e a b (PostS.mono (show PostS G W F μ Ds (f d S) from h) e)
  | ex c ks vs S => exact fun F' μ' dx xs H' e a b l r => h F' μ' σ dx xs H' e a (he.mono e) b l r
  | bad => exact h.elim
/-- a statement ahead -/
theorem PostS.seq {r : SR} {f : Env' → Store → SR} {N : L2.St → Hp → Prop} (h : PostS G W F μ Ds (r.seq f))
    (kk : ∀ ρ S F' μ' σ' H', Ext F μ F' μ' → Rel G F' μ' S H' → EnvR G F' μ' ρ σ' → PostS G W F' μ' Ds (f ρ S) → N σ' H') : PostS G W F μ { Ds with nx := N } r := by
  cases r with
  | nx ρ S => exact fun F' μ' v H' e a b => kk ρ S F' μ' v H' e a b (PostS.mono (show PostS G W F μ Ds (f ρ S) from h) e)
  | rt d S => exact h
  | bk ρ S => exact h
  | ct ρ S => exact h
  | ex ρ c ks vs S => exact h
  | bad => exact h

def ImpS (G : Gm) (W : WX) (t : TS) (m : MS) : Prop :=
  ∀ ρ S σ H F μ Ds, EnvR G F μ ρ σ → Rel G F μ S H → PostS G W F μ Ds (m ρ S) → t Ds σ H
structure SS (G : Gm) (X : Cx) (W : WX) (st : Stmt) (m : MS) : Prop where
  ex : ∃ t, PS X st t ∧ ImpS G W t m
structure SSs (G : Gm) (X : Cx) (W : WX) (st : List Stmt) (m : MS) : Prop where
  ex : ∃ t, PSs X st t ∧ ImpS G W t m
structure SG (G : Gm) (X : Cx) (tg : Expr) (m : MG) : Prop where
  ex : ∃ t, PG X tg t ∧ ∀ d v ρ S σ H F μ Q ρ' S', EnvR G F μ ρ σ → Rel G F μ S H → Rep G F μ d v → m d ρ S = some (ρ', S') →
    (∀ F' μ' σ' H', Ext F μ F' μ' → Rel G F' μ' S' H' → EnvR G F' μ' ρ' σ' → Q σ' H') → t v σ H Q
structure SGs (G : Gm) (X : Cx) (tg : List Expr) (m : MGs) : Prop where
  ex : ∃ t, PGs X tg t ∧ ∀ ds vs ρ S σ H F μ Q ρ' S', EnvR G F μ ρ σ → Rel G F μ S H → Reps G F μ ds vs → m ds ρ S = some (ρ', S') →
    (∀ F' μ' σ' H', Ext F μ F' μ' → Rel G F' μ' S' H' → EnvR G F' μ' ρ' σ' → Q σ' H') → t vs σ H Q

theorem ss_nil : SSs G X W [] sPass := ⟨_, pss_nil, fun ρ S σ H F μ Ds he hr hp => hp F μ σ H (Ext.refl _ _) hr he⟩
theorem ss_one {st : Stmt} {m : MS} (h : SS G X W st m) : SSs G X W [st] m := by
  obtain ⟨t, p, i⟩ := h
  exact ⟨t, pss_one p, i⟩
theorem ss_cons {st : Stmt} {rest : List Stmt} {m n : MS} (h : SS G X W st m) (h2 : SSs G X W rest n) : SSs G X W (st :: rest) (sSeq m n) := by
  obtain ⟨t, p, i⟩ := h
  obtain ⟨u, q, j⟩ := h2
  refine ⟨_, pss_cons p q, fun ρ S σ H F μ Ds he hr hp => ?_⟩
  exact i ρ S σ H F μ _ he hr (PostS.seq hp fun ρ1 S1 F1 μ1 σ1 H1 x1 r1 e1 q1 => j ρ1 S1 σ1 H1 F1 μ1 Ds e1 r1 q1)
theorem ss_pass {pos : Pos} : SS G X W (.Pass pos) sPass := ⟨_, ps_pass, fun ρ S σ H F μ Ds he hr hp => hp F μ σ H (Ext.refl _ _) hr he⟩
theorem ss_break {pos : Pos} : SS G X W (.Break pos) sBreak := ⟨_, ps_break, fun ρ S σ H F μ Ds he hr hp => hp F μ σ H (Ext.refl _ _) hr he⟩
theorem ss_cont {pos : Pos} : SS G X W (.Continue pos) sCont := ⟨_, ps_continue, fun ρ S σ H F μ Ds he hr hp => hp F μ σ H (Ext.refl _ _) hr he⟩
theorem ss_expr {e : Expr} {pos : Pos} {m : ME} (h : SE G X W e m) (hs : swapsWith e none pos.line X.env = pure false := by rfl) : SS G X W (.Expr e pos) (sExpr m) := by
  obtain ⟨t, p, i⟩ := h
  refine ⟨_, ps_expr p hs, fun ρ S σ H F μ Ds he hr hp => ?_⟩
  exact i ρ S σ H F μ _ he hr (PostS.res hp he fun d S1 F1 μ1 v H1 x1 r1 p1 q1 => q1 F1 μ1 σ H1 (Ext.refl _ _) r1 (he.mono x1))
theorem ss_ret {e : Expr} {pos : Pos} {m : ME} (h : SE G X W e m) : SS G X W (.Return (some e) pos) (sRet m) := by
  obtain ⟨t, p, i⟩ := h
  refine ⟨_, ps_ret p, fun ρ S σ H F μ Ds he hr hp => ?_⟩
  exact i ρ S σ H F μ _ he hr (PostS.res hp he fun d S1 F1 μ1 v H1 x1 r1 p1 q1 => q1 F1 μ1 v H1 (Ext.refl _ _) r1 p1)
theorem ss_retN {pos : Pos} : SS G X W (.Return none pos) sRetN := ⟨_, ps_retN, fun ρ S σ H F μ Ds he hr hp => hp F μ .non H (Ext.refl _ _) hr .non⟩
theorem ss_if {c : Expr} {a b : List Stmt} {pos : Pos} {mc : MB} {ma mb : MS} (hc : ST G X W c mc) (ha : SSs G X W a ma) (hb : SSs G X W b mb) : SS G X W (.If c a b pos) (sIf mc ma mb) := by
  obtain ⟨tc, pc, ic⟩ := hc
  obtain ⟨ta, pa, ia⟩ := ha
  obtain ⟨tb, pb, ib⟩ := hb
  refine ⟨_, ps_if pc pa pb, fun ρ S σ H F μ Ds he hr hp => ?_⟩
  refine ic ρ S σ H F μ _ he hr (PostS.res hp he fun c S1 F1 μ1 c' H1 x1 r1 p1 q1 => ?_)
  cases (show c = c' from p1)
  cases c with
  | true => exact iteT (ia ρ S1 σ H1 F1 μ1 Ds (he.mono x1) r1 q1)
  | false => exact iteF (ib ρ S1 σ H1 F1 μ1 Ds (he.mono x1) r1 q1)
theorem frz_ok {W : WX} {d : D} {v : V} {S : Store} {H : Hp} {ρ : Env'} {f : D → Store → SR} (r : Rel G F μ S H) (p : Rep G F μ d v) (h : PostS G W F μ Ds (srRes ρ (frzD d S) f)) :
    ∃ d' S' F', Ext F μ F' μ ∧ Rel G F' μ S' H ∧ Rep G F' μ d' v ∧ PostS G W F' μ Ds (f d' S') := by
  cases p with
  | @loc n a hm =>
    simp only [frzD] at h
    split at h
    · rename_i l hs
      obtain ⟨xs, hf, ho, hr'⟩ := r.lstAt hm hs
      obtain ⟨xx, rr⟩ := r.freeze hm hf ho
      exact ⟨_, _, _, xx, rr, .lst upd_same (hr'.mono xx), h.mono xx⟩
    · rename_i ks vs hs
      obtain ⟨xs, hf, ho, hl, hr'⟩ := r.dctAt hm hs
      obtain ⟨xx, rr⟩ := r.freeze hm hf ho
      exact ⟨_, _, _, xx, rr, .dct upd_same hl (hr'.mono xx), h.mono xx⟩
    · rename_i c ks vs hs
      obtain ⟨dx, xs, hf, ho, hl, hr'⟩ := r.insAt hm hs
      obtain ⟨xx, rr⟩ := r.freeze hm hf ho
      exact ⟨_, _, _, xx, rr, .ins upd_same hl (hr'.mono xx), h.mono xx⟩
    · exact h.elim
  | non => exact ⟨_, _, _, Ext.refl _ _, r, .non, h⟩
  | bl b => exact ⟨_, _, _, Ext.refl _ _, r, .bl b, h⟩
  | int b => exact ⟨_, _, _, Ext.refl _ _, r, .int b, h⟩
  | str b => exact ⟨_, _, _, Ext.refl _ _, r, .str b, h⟩
  | ty b => exact ⟨_, _, _, Ext.refl _ _, r, .ty b, h⟩
  | cls b => exact ⟨_, _, _, Ext.refl _ _, r, .cls b, h⟩
  | tup a b => exact ⟨_, _, _, Ext.refl _ _, r, .tup a b, h⟩
  | lst a b => exact ⟨_, _, _, Ext.refl _ _, r, .lst a b, h⟩
  | kst a b => exact ⟨_, _, _, Ext.refl _ _, r, .kst a b, h⟩
  | dct a b c => exact ⟨_, _, _, Ext.refl _ _, r, .dct a b c, h⟩
  | ins a b c => exact ⟨_, _, _, Ext.refl _ _, r, .ins a b c, h⟩
  | exn a b c e => exact ⟨_, _, _, Ext.refl _ _, r, .exn a b c e, h⟩
  | fn a => exact ⟨_, _, _, Ext.refl _ _, r, .fn a, h⟩
  | lam a b => exact ⟨_, _, _, Ext.refl _ _, r, .lam a b, h⟩
theorem join_some {α : Type} {o : Option (Option α)} {a : α} (h : o.join = some a) : o = some (some a) := by
  cases o with
  | none => cases h
  | some o => cases o with
    | none => cases h
    | some b => cases h; rfl
theorem frzAt_ok {W : WX} {i : Nat} {ρ : Env'} {S : Store} {σ : L2.St} {H : Hp} {f : Env' → Store → SR} (he : EnvR G F μ ρ σ) (r : Rel G F μ S H) (h : PostS G W F μ Ds ((frzAt i ρ S).seq f)) :
    ∃ ρ' S' F', Ext F μ F' μ ∧ Rel G F' μ S' H ∧ EnvR G F' μ ρ' σ ∧ PostS G W F' μ Ds (f ρ' S') := by
  unfold frzAt at h
  split at h
  · rename_i d e
    have e' := join_some e
    obtain ⟨v, hv, p⟩ := he.get i d e'
    have h' : PostS G W F μ Ds (srRes ρ (frzD d S) fun d' S' => f (ρ.set i (some d')) S') := by
      cases q : frzD d S with
      | ok a S' => rw [q] at h; exact h
      | ex c ks vs S' => rw [q] at h; exact h
      | bad => rw [q] at h; exact h
    obtain ⟨d', S', F', x, rr, pp, hh⟩ := frz_ok r p h'
    exact ⟨_, _, _, x, rr, (he.mono x).tell i hv pp, hh⟩
  · exact h.elim
theorem ss_frzB {st : Stmt} {m : MS} (i : Nat) (h : SS G X W st m) : SS G X W st (sFrzB i m) := by
  obtain ⟨t, p, im⟩ := h
  refine ⟨t, p, fun ρ S σ H F μ Ds he hr hp => ?_⟩
  obtain ⟨ρ', S', F', x, rr, ee, hh⟩ := frzAt_ok he hr hp
  exact im ρ' S' σ H F' μ Ds ee rr hh
theorem ss_frzA {st : Stmt} {m : MS} (i : Nat) (h : SS G X W st m) : SS G X W st (sFrzA i m) := by
  obtain ⟨t, p, im⟩ := h
  refine ⟨t, p, fun ρ S σ H F μ Ds he hr hp => ?_⟩
  refine im ρ S σ H F μ Ds he hr ?_
  have q := PostS.seq hp (N := Ds.nx) fun ρ1 S1 F1 μ1 σ1 H1 x1 r1 e1 q1 => by
    have q1' : PostS G W F1 μ1 Ds ((frzAt i ρ1 S1).seq fun ρ S => .nx ρ S) := by
      cases hq : frzAt i ρ1 S1 <;> (rw [hq] at q1; exact q1)
    obtain ⟨ρ', S', F', x, rr, ee, hh⟩ := frzAt_ok e1 r1 q1'
    exact hh F' μ1 σ1 H1 (Ext.refl _ _) rr ee
  exact q

/-! ### targets, assignments -/
theorem sg_name {i : Nat} {x : Str} {pos : Pos} (hN : X.N.Nodup) (hi : X.N[i]? = some x := by rfl) (hx : Loc X.env.scope x := by first | exact Or.inl rfl | exact Or.inr rfl) (hf : X.fn x = true ∨ X.env.scope.names.lookup x = some .local := by first | exact .inl rfl | exact .inr rfl) : SG G X (.Name x pos) (gNm i) :=
  ⟨_, pg_name hN hi hx hf, fun d v ρ S σ H F μ Q ρ' S' he hr p e hq => by
    cases e
    exact hq F μ _ H (Ext.refl _ _) hr (he.set i p)⟩
theorem sgs_nil : SGs G X [] gsNil := by
  refine ⟨_, pgs_nil, fun ds vs ρ S σ H F μ Q ρ' S' he hr p e hq => ?_⟩
  cases p with
  | nil =>
    cases e
    exact ⟨rfl, hq F μ σ H (Ext.refl _ _) hr he⟩
  | cons a b => cases e
theorem sgs_cons {e : Expr} {es : List Expr} {g : MG} {gs : MGs} (h1 : SG G X e g) (h2 : SGs G X es gs) (hs : (assignEach (e :: es) X.env).map (·.2) = assign e X.env :: (assignEach es X.env).map (·.2) := by rfl) : SGs G X (e :: es) (gsCons g gs) := by
  obtain ⟨t, p, i⟩ := h1
  obtain ⟨u, q, j⟩ := h2
  refine ⟨_, pgs_cons p q hs, fun ds vs ρ S σ H F μ Q ρ' S' he hr r e hq => ?_⟩
  cases r with
  | nil => cases e
  | @cons d v ds vs r1 r2 =>
    simp only [gsCons] at e
    cases hg : g d ρ S with
    | none => rw [hg] at e; cases e
    | some w =>
      rw [hg] at e
      refine ⟨v, vs, rfl, i d v ρ S σ H F μ _ w.1 w.2 he hr r1 hg fun F1 μ1 σ1 H1 x1 rr e1 => ?_⟩
      exact j ds vs w.1 w.2 σ1 H1 F1 μ1 Q ρ' S' e1 rr (r2.mono x1) e fun F2 μ2 σ2 H2 x2 r2 e2 => hq F2 μ2 σ2 H2 (x1.trans x2) r2 e2
theorem PG.or {tg : Expr} {t u : TG} (h : PG X tg t) (h2 : PG X tg u) : PG X tg (fun v σ H Q => t v σ H Q ∨ u v σ H Q) := by
  refine ⟨fun pins s σ H v w Q I r hw => ?_⟩
  rcases hw with hw | hw
  · exact h.run pins s σ H v w Q I r hw
  · exact h2.run pins s σ H v w Q I r hw
/-- what may be read as a row of items -/
theorem items_ok {d : D} {v : V} {S : Store} {H : Hp} {l : List D} (hr : Rel G F μ S H) (r : Rep G F μ d v) (h : itemsD S d = some l) :
    ∃ a xs, v = .ref a ∧ Reps G F μ l xs ∧ ((SqT G.K H a xs) ∨ (SqL G.K H a xs)) := by
  cases r with
  | tup hs hr' =>
    cases h
    exact ⟨_, _, rfl, hr', .inl (same_sqT hr.sub hs)⟩
  | lst hs hr' =>
    cases h
    exact ⟨_, _, rfl, hr', .inr (SqL.of (hr.sub _ _ hs))⟩
  | kst hs hr' =>
    cases h
    exact ⟨_, _, rfl, hr', .inr (same_sqL hr.sub hs)⟩
  | @loc m a hm =>
    simp only [itemsD] at h
    split at h
    · rename_i l' hs
      cases h
      obtain ⟨xs, hf, ho, hr'⟩ := hr.lstAt hm hs
      exact ⟨_, _, rfl, hr', .inr (SqL.of ho)⟩
    · cases h
  | _ => cases h
theorem sg_many {es : List Expr} {cx : Nat} {pos : Pos} {gs : MGs} {n : Nat} (hK : X.K = G.K) (hc : X.calm = true) (h : SGs G X es gs) (hn : (assignEach es X.env).length = n := by rfl) (hst : (assignEach es X.env).findIdx? (·.1) = none := by rfl) : SG G X (.Tuple es cx pos) (gMany n gs) := by
  obtain ⟨t, p, i⟩ := h
  refine ⟨_, PG.or (pg_tup hc p hn hst) (pg_lst hc p hn hst), fun d v ρ S σ H F μ Q ρ' S' he hr r e hq => ?_⟩
  unfold gMany at e
  split at e
  · rename_i l hl
    by_cases hlen : l.length = n
    · rw [if_pos hlen] at e
      obtain ⟨a, xs, rfl, rs, hs⟩ := items_ok hr r hl
      have hx : xs.length = n := by rw [← rs.length]; exact hlen
      rcases hs with hs | hs
      · exact .inl ⟨a, xs, rfl, by rw [hK]; exact hs, hx, i _ _ ρ S σ H F μ Q ρ' S' he hr rs e hq⟩
      · exact .inr ⟨a, xs, rfl, by rw [hK]; exact hs, hx, i _ _ ρ S σ H F μ Q ρ' S' he hr rs e hq⟩
    · rw [if_neg hlen] at e
      cases e
  · cases e
theorem srGo_ok {o : Option (Env' × Store)} (h : PostS G W F μ Ds (srGo o)) : ∃ ρ S, o = some (ρ, S) ∧ PostS G W F μ Ds (.nx ρ S) := by
  cases o with
  | none => exact h.elim
  | some p => exact ⟨p.1, p.2, rfl, h⟩
theorem ss_asg {tg e : Expr} {pos : Pos} {m : ME} {g : MG} (h : SE G X W e m) (hg : SG G X tg g) (hs : swapsWithSole [tg] e pos.line X.env = pure false := by rfl) (hw : swappedStores [tg] e X.env = pure none := by rfl)
    (h1 : (assignEach [tg] X.env).map (·.2) = [assign tg X.env] := by rfl) : SS G X W (.Assign [tg] e pos) (sAsg m g) := by
  obtain ⟨t, p, i⟩ := h
  obtain ⟨u, q, j⟩ := hg
  refine ⟨_, ps_asg p q hs hw h1, fun ρ S σ H F μ Ds he hr hp => ?_⟩
  refine i ρ S σ H F μ _ he hr (PostS.res hp he fun d S1 F1 μ1 v H1 x1 r1 p1 q1 => ?_)
  obtain ⟨ρ2, S2, e2, q2⟩ := srGo_ok q1
  exact j d v ρ S1 σ H1 F1 μ1 Ds.nx ρ2 S2 (he.mono x1) r1 p1 e2 q2
theorem ss_set {i : Nat} {x : Str} {e : Expr} {m : ME} {pos pos' : Pos} (hN : X.N.Nodup) (h : SE G X W e m) (hi : X.N[i]? = some x := by rfl) (hx : Loc X.env.scope x := by first | exact Or.inl rfl | exact Or.inr rfl) (hs : swapsWith e (some (.Name x pos')) pos.line X.env = pure false := by rfl) (hf : X.fn x = true ∨ X.env.scope.names.lookup x = some .local := by first | exact .inl rfl | exact .inr rfl) :
    SS G X W (.Assign [.Name x pos'] e pos) (sAsg m (gNm i)) := by
  obtain ⟨t, p, im⟩ := h
  refine ⟨_, ps_set hN hi hx p hs hf, fun ρ S σ H F μ Ds he hr hp => ?_⟩
  refine im ρ S σ H F μ _ he hr (PostS.res hp he fun d S1 F1 μ1 v H1 x1 r1 p1 q1 => ?_)
  exact q1 F1 μ1 _ H1 (Ext.refl _ _) r1 ((he.mono x1).set i p1)
theorem ss_par {i j : Nat} {x y : Str} {a b : Expr} {m : ML} {px py pt pos : Pos} {kt k2 : Nat} {pt2 : Pos} (hc : X.calm = true) (hN : X.N.Nodup) (hij : i ≠ j) (ha : SA G X W [a, b] m) (hi : X.N[i]? = some x := by rfl) (hj : X.N[j]? = some y := by rfl)
    (hx : X.env.scope.names.lookup x = some .local := by rfl) (hy : X.env.scope.names.lookup y = some .local := by rfl)
    (hw : swappedStores [.Tuple [.Name x px, .Name y py] kt pt] (.Tuple [a, b] k2 pt2) X.env = pure (some [x, y]) := by rfl)
    (hs : swapsWithSole [.Tuple [.Name x px, .Name y py] kt pt] (.Tuple [a, b] k2 pt2) pos.line X.env = pure false := by rfl) :
    SS G X W (.Assign [.Tuple [.Name x px, .Name y py] kt pt] (.Tuple [a, b] k2 pt2) pos) (sPar i j m) := by
  obtain ⟨t, p, im⟩ := ha
  refine ⟨_, ps_par hc hN hi hj hij hx hy p hw hs, fun ρ S σ H F μ Ds he hr hp => ?_⟩
  refine im ρ S σ H F μ _ he hr (PostS.res hp he fun ds S1 F1 μ1 vs H1 x1 r1 p1 q1 => ?_)
  cases p1 with
  | nil => exact q1.elim
  | cons a1 b1 =>
    cases b1 with
    | nil => exact q1.elim
    | cons a2 b2 =>
      cases b2 with
      | nil => exact ⟨_, _, rfl, q1 F1 μ1 _ H1 (Ext.refl _ _) r1 (((he.mono x1).set i a1).set j a2)⟩
      | cons _ _ => exact q1.elim
end

/-! ## loops -/
def SR.turn (r : SR) (f : Env' → Store → SR) : SR :=
  match r with
  | .nx ρ S => f ρ S
  | .ct ρ S => f ρ S
  | .bk ρ S => .nx ρ S
  | r => r
@[simp] theorem turn_nx (ρ : Env') (S : Store) (f : Env' → Store → SR) : (SR.nx ρ S).turn f = f ρ S := rfl
@[simp] theorem turn_rt (d : D) (S : Store) (f : Env' → Store → SR) : (SR.rt d S).turn f = .rt d S := rfl
@[simp] theorem turn_bk (ρ : Env') (S : Store) (f : Env' → Store → SR) : (SR.bk ρ S).turn f = .nx ρ S := rfl
@[simp] theorem turn_ct (ρ : Env') (S : Store) (f : Env' → Store → SR) : (SR.ct ρ S).turn f = f ρ S := rfl
@[simp] theorem turn_ex (ρ : Env') (c : Nat) (ks : List Str) (vs : List D) (S : Store) (f : Env' → Store → SR) : (SR.ex ρ c ks vs S).turn f = .ex ρ c ks vs S := rfl
@[simp] theorem turn_bad (f : Env' → Store → SR) : (SR.bad).turn f = .bad := rfl
def forL (g : MG) (b : MS) : List D → Env' → Store → SR
  | [], ρ, S => .nx ρ S
  | d :: ds, ρ, S => (srGo (g d ρ S)).seq fun ρ1 S1 => (b ρ1 S1).turn fun ρ2 S2 => forL g b ds ρ2 S2
def sFor (l : ML) (g : MG) (b : MS) : MS := fun ρ S => srRes ρ (l ρ S) fun ds S1 => forL g b ds ρ S1
def whileN (c : MB) (b : MS) : Nat → Env' → Store → SR
  | 0, _, _ => .bad
  | n + 1, ρ, S => srRes ρ (c ρ S) fun k S1 => if k = true then (b ρ S1).turn fun ρ2 S2 => whileN c b n ρ2 S2 else .nx ρ S1
open Classical in
noncomputable def sWhile (c : MB) (b : MS) : MS := fun ρ S =>
  if h : ∃ n, whileN c b n ρ S ≠ .bad then whileN c b (Classical.choose h) ρ S else .bad
section
variable {G : Gm} {X : Cx} {W : WX} {k : Nat} {F F1 : Hp} {μ μ1 : List Addr} {Ds : Ends}
theorem PostS.turn {r : SR} {f : Env' → Store → SR} {N : L2.St → Hp → Prop} (h : PostS G W F μ Ds (r.turn f))
    (kk : ∀ ρ S F' μ' σ' H', Ext F μ F' μ' → Rel G F' μ' S H' → EnvR G F' μ' ρ σ' → PostS G W F' μ' Ds (f ρ S) → N σ' H') : PostS G W F μ { Ds with nx := N, ct := N, bk := Ds.nx } r := by
  cases r with
  | nx ρ S => exact fun F' μ' v H' e a b => kk ρ S F' μ' v H' e a b (PostS.mono (show PostS G W F μ Ds (f ρ S) from h) e)
  | ct ρ S => exact fun F' μ' v H' e a b => kk ρ S F' μ' v H' e a b (PostS.mono (show PostS G W F μ Ds (f ρ S) from h) e)
  | rt d S => exact h
  | bk ρ S => exact h
  | ex ρ c ks vs S => exact h
  | bad => exact h
/-- the items come, in whatever world that goes on -/
structure Yields (G : Gm) (F : Hp) (μ : List Addr) (ds : List D) (J : It) : Prop where
  go : ∀ (i : Nat) (F1 : Hp) (μ1 : List Addr) (S : Store) (H : Hp), Ext F μ F1 μ1 → Rel G F1 μ1 S H → i < ds.length → J.go i H
  stop : ∀ (i : Nat) (F1 : Hp) (μ1 : List Addr) (S : Store) (H : Hp), Ext F μ F1 μ1 → Rel G F1 μ1 S H → ds.length ≤ i → J.stop i H
  yld : ∀ (i : Nat) (F1 : Hp) (μ1 : List Addr) (S : Store) (H : Hp) (x : V) (H' : Hp) (d : D), Ext F μ F1 μ1 → Rel G F1 μ1 S H → ds[i]? = some d → J.yld i H x H' →
    ∃ F2 μ2, Ext F1 μ1 F2 μ2 ∧ Rel G F2 μ2 S H' ∧ Rep G F2 μ2 d x
def ImpI (G : Gm) (W : WX) (t : TI) (m : ML) : Prop := ImpE G W (Yields G) (fun σ H (R : It → Hp → Prop) => t σ H R) m
structure SI (G : Gm) (X : Cx) (W : WX) (tg it : Expr) (m : ML) : Prop where
  ex : ∃ t, PI X tg it t ∧ ImpI G W t m
theorem ss_for {tg it : Expr} {body : List Stmt} {pos : Pos} {l : ML} {g : MG} {b : MS} (hp : PassesOwn (model X.prog X.w) X.A X.env X.xe) (hc : X.calm = true) (hi : SI G X W tg it l) (hg : SG G X tg g) (hb : SSs G X W body b)
    (hs : ∀ x, foldedSetIterable it X.env x = pure x := by intro _; rfl) : SS G X W (.For tg it body [] pos) (sFor l g b) := by
  obtain ⟨ti, pi, ii⟩ := hi
  obtain ⟨t, pg, ig⟩ := hg
  obtain ⟨tb, pb, ib⟩ := hb
  refine ⟨_, ps_for hp hc pi pg pb hs, fun ρ S σ H F μ Ds he hr hpo => ?_⟩
  refine ii ρ S σ H F μ _ he hr (PostS.res hpo he fun ds S1 F1 μ1 J H1 x1 r1 y1 q1 => ?_)
  refine ⟨fun i m σ H => m = ds.length - i ∧ i ≤ ds.length ∧ ∃ F' μ' ρ S, Ext F1 μ1 F' μ' ∧ Rel G F' μ' S H ∧ EnvR G F' μ' ρ σ ∧ PostS G W F' μ' Ds (forL g b (ds.drop i) ρ S), ⟨ds.length, by simp, Nat.zero_le _, F1, μ1, ρ, S1, Ext.refl _ _, r1, he.mono x1, q1⟩, ?_⟩
  rintro i m σ2 H2 ⟨rfl, hi, F2, μ2, ρ2, S2, x2, r2, e2, q2⟩
  by_cases hlt : i < ds.length
  · refine .inr ⟨y1.go i F2 μ2 S2 H2 x2 r2 hlt, fun σ' H' => ∃ F' μ' ρ S, Ext F1 μ1 F' μ' ∧ Rel G F' μ' S H' ∧ EnvR G F' μ' ρ σ' ∧ PostS G W F' μ' Ds (forL g b (ds.drop (i + 1)) ρ S), fun σ' H' h => ⟨ds.length - (i + 1), by omega, rfl, hlt, h⟩, fun x H' hy => ?_⟩
    have hd : ds[i]? = some ds[i] := List.getElem?_eq_getElem hlt
    obtain ⟨F3, μ3, x3, r3, p3⟩ := y1.yld i F2 μ2 S2 H2 x H' _ x2 r2 hd hy
    have hdrop : ds.drop i = ds[i] :: ds.drop (i + 1) := (List.drop_eq_getElem_cons hlt)
    rw [hdrop] at q2
    simp only [forL] at q2
    cases hgd : g ds[i] ρ2 S2 with
    | none => rw [hgd] at q2; exact q2.elim
    | some w =>
      rw [hgd] at q2
      refine ig _ x ρ2 S2 σ2 H' F3 μ3 _ w.1 w.2 (e2.mono x3) r3 p3 hgd fun F4 μ4 σ4 H4 x4 r4 e4 => ?_
      refine ib w.1 w.2 σ4 H4 F4 μ4 _ e4 r4 ?_
      have xx := x2.trans (x3.trans x4)
      exact PostS.turn (PostS.mono q2 (x3.trans x4)) fun ρ5 S5 F5 μ5 σ5 H5 x5 r5 e5 q5 => ⟨F5, μ5, ρ5, S5, xx.trans x5, r5, e5, q5⟩
  · refine .inl ⟨y1.stop i F2 μ2 S2 H2 x2 r2 (by omega), ?_⟩
    rw [List.drop_eq_nil_of_le (by omega)] at q2
    exact q2 F2 μ2 σ2 H2 (Ext.refl _ _) r2 e2
theorem ss_while {c : Expr} {body : List Stmt} {pos : Pos} {mc : MB} {b : MS} (hp : PassesOwn (model X.prog X.w) X.A X.env X.xe) (hc : ST G X W c mc) (hb : SSs G X W body b) : SS G X W (.While c body [] pos) (sWhile mc b) := by
  obtain ⟨tc, pc, ic⟩ := hc
  obtain ⟨tb, pb, ib⟩ := hb
  refine ⟨_, ps_while hp pc pb, fun ρ S σ H F μ Ds he hr hpo => ?_⟩
  unfold sWhile at hpo
  split at hpo
  · rename_i hn
    obtain ⟨n, hn⟩ : ∃ n, n = Classical.choose hn := ⟨_, rfl⟩
    rw [← hn] at hpo
    refine ⟨fun m σ H => ∃ F' μ' ρ S, Rel G F' μ' S H ∧ EnvR G F' μ' ρ σ ∧ PostS G W F' μ' Ds (whileN mc b m ρ S), ⟨n, F, μ, ρ, S, hr, he, hpo⟩, ?_⟩
    rintro m σ1 H1 ⟨F1, μ1, ρ1, S1, r1, e1, q1⟩
    cases m with
    | zero => exact q1.elim
    | succ m =>
      refine ic ρ1 S1 σ1 H1 F1 μ1 _ e1 r1 (PostS.res (show PostS G W F1 μ1 Ds (srRes ρ1 (mc ρ1 S1) _) from q1) e1 fun c S2 F2 μ2 c' H2 x2 r2 p2 q2 => ?_)
      cases (show c = c' from p2)
      cases c with
      | false => exact iteF (q2 F2 μ2 σ1 H2 (Ext.refl _ _) r2 (e1.mono x2))
      | true =>
        refine iteT ⟨fun σ' H' => ∃ F' μ' ρ S, Rel G F' μ' S H' ∧ EnvR G F' μ' ρ σ' ∧ PostS G W F' μ' Ds (whileN mc b m ρ S), fun σ' H' h => ⟨m, Nat.lt_succ_self m, h⟩, ?_⟩
        rw [if_pos rfl] at q2
        refine ib ρ1 S2 σ1 H2 F2 μ2 _ (e1.mono x2) r2 ?_
        exact PostS.turn q2 fun ρ5 S5 F5 μ5 σ5 H5 x5 r5 e5 q5 => ⟨F5, μ5, ρ5, S5, r5, e5, q5⟩
  · exact hpo.elim
/-- a loop that comes to its end has this value -/
theorem whileN_mono (c : MB) (b : MS) : ∀ (n m : Nat) (ρ : Env') (S : Store), whileN c b n ρ S ≠ .bad → n ≤ m → whileN c b m ρ S = whileN c b n ρ S
  | 0, _, _, _, h, _ => absurd rfl h
  | n + 1, 0, _, _, _, hm => absurd hm (by omega)
  | n + 1, m + 1, ρ, S, h, hm => by
    simp only [whileN] at h ⊢
    cases hc : c ρ S with
    | bad => rfl
    | ex _ _ _ _ => rfl
    | ok kk S1 =>
      rw [hc] at h
      simp only [srRes_ok] at h ⊢
      by_cases hk : kk = true
      · rw [if_pos hk] at h ⊢
        rw [if_pos hk]
        cases hb : b ρ S1 with
        | nx ρ2 S2 =>
          rw [hb] at h
          exact whileN_mono c b n m ρ2 S2 h (by omega)
        | ct ρ2 S2 =>
          rw [hb] at h
          exact whileN_mono c b n m ρ2 S2 h (by omega)
        | _ => rfl
      · rw [if_neg hk, if_neg hk]
theorem sWhile_eq {c : MB} {b : MS} {ρ : Env'} {S : Store} {n : Nat} {r : SR} (h : whileN c b n ρ S = r) (hr : r ≠ .bad) : sWhile c b ρ S = r := by
  have hn : ∃ n, whileN c b n ρ S ≠ .bad := ⟨n, by rw [h]; exact hr⟩
  unfold sWhile
  rw [dif_pos hn]
  have hz := Classical.choose_spec hn
  obtain ⟨z, ez⟩ : ∃ z, z = Classical.choose hn := ⟨_, rfl⟩
  rw [← ez] at hz ⊢
  rcases Nat.le_total z n with q | q
  · rw [← whileN_mono c b z n ρ S hz q, h]
  · rw [whileN_mono c b n z ρ S (by rw [h]; exact hr) q, h]
end
end Z

set_option Elab.async false
set_option linter.all false
set_option maxRecDepth 100000
set_option maxHeartbeats 2000000
set_option autoImplicit false
namespace Z
open PySem PySem.Spec L2

/-! ## defs and their calls -/
abbrev MF := List D → Store → Res D
def wE (E : XK) : WX := fun c d _ H => E c d H
def spM (G : Gm) (n : Nat) (mf : MF) : Sp := fun vs H Q E => vs.length = n ∧ ∃ F μ S ds, Rel G F μ S H ∧ Reps G F μ ds vs ∧ Post G (wE E) (Rep G) F μ [] Q (mf ds S)
/-- the def at f does what mf says -/
structure GFn (G : Gm) (P : Program) (w : World) (base : Heap) (k : Nat) (f : Addr) (fd : FuncData) (ps : List Str) (mf : MF) : Prop where
  run : ∀ (A : Around) (outer : List Env) (s : Shared) (H : Hp) (args : Args) (us : List Value) (vs : List V) (Q : VK) (E : XK), Room k A → A.guards = some [] → Env0 P w G.K G.mg base A outer s H →
    BindsTo s fd args (ps.zip us) → Vals vs us → spM G ps.length mf vs H Q E → codeAny (model P w) A (.call (.ref f) args) (CR (L2.CX P w) outer P w H s Q E) s
theorem GFn.mono {G : Gm} {P : Program} {w : World} {base : Heap} {j k : Nat} {f : Addr} {fd : FuncData} {ps : List Str} {mf : MF} (h : GFn G P w base j f fd ps mf) (hjk : j ≤ k) : GFn G P w base k f fd ps mf :=
  ⟨fun A outer s H args us vs Q E hr => h.run A outer s H args us vs Q E (hr.mono hjk)⟩
def runDef (n m : Nat) (b : MS) : MF := fun args S =>
  if args.length = n then
    match b (args.map some ++ List.replicate (m - n) none) S with
    | .nx _ S' => .ok .non S'
    | .rt d S' => .ok d S'
    | .ex _ c ks vs S' => .ex c ks vs S'
    | _ => .bad
  else .bad
/-- a def of the text as it stands behind the top (with or without defaults) -/
structure FunG (K : PySem.W.Frag) (x qual : Str) (st : Stmt) (f : Addr) (fd : FuncData) : Prop where
  ex : ∃ (oc : Value) (od : Option Addr) (dV kV doc pm : Value) (an : Option Addr) (cdv ct : Value) (osl : Array (Option Value)),
    fd = PySem.W.fnOf x qual (defArgs st) (defBody st) (defScope st) dV kV doc pm an cdv ct ∧ K.lookup f = some ⟨oc, od, .func fd, osl⟩ ∧ PySem.W.codeIn K cdv qual = true
  kp : PySem.W.keepIn K (.ref f) = true
theorem funG_mk {K : PySem.W.Frag} {x qual : Str} {st : Stmt} {f : Addr} {oc : Value} {od an : Option Addr} {osl : Array (Option Value)} {dV kV doc pm cdv ct : Value}
    (l : K.lookup f = some ⟨oc, od, .func (PySem.W.fnOf x qual (defArgs st) (defBody st) (defScope st) dV kV doc pm an cdv ct), osl⟩) (c : PySem.W.codeIn K cdv qual = true) (k : PySem.W.keepIn K (.ref f) = true) :
    FunG K x qual st f (PySem.W.fnOf x qual (defArgs st) (defBody st) (defScope st) dV kV doc pm an cdv ct) := ⟨⟨oc, od, dV, kV, doc, pm, an, cdv, ct, osl, rfl, l, c⟩, k⟩
section
variable {G : Gm} {P : Program} {w : World} {base : Heap}
theorem env_start {F : Hp} {μ : List Addr} {N : List Str} {ds : List D} {vs : List V} {n : Nat} (r : Reps G F μ ds vs) (hn : ds.length = n) : EnvR G F μ (ds.map some ++ List.replicate (N.length - n) none) (L2.start N vs) := by
  have hl := r.length
  refine ⟨by unfold L2.start; simp [hl]; omega, fun i d h => ?_⟩
  unfold L2.start
  by_cases hi : i < ds.length
  · rw [List.getElem?_append_left (by simpa using hi), List.getElem?_map] at h
    cases e : ds[i]? with
    | none => rw [e] at h; cases h
    | some d' =>
      rw [e] at h
      cases h
      obtain ⟨v, h1, h2⟩ := r.get e
      exact ⟨v, by rw [List.getElem?_append_left (by rw [List.length_map, ← hl]; exact hi), List.getElem?_map, h1]; rfl, h2⟩
  · rw [List.getElem?_append_right (by simp; omega)] at h
    obtain ⟨_, e⟩ := List.getElem?_eq_some_iff.mp h
    simp at e
theorem GFn.of_body {x qual : Str} {st : Stmt} {f : Addr} {fd : FuncData} {N ps : List Str} {k : Nat} {b : MS} (FF : FunG G.K x qual st f fd) (S : FnScope N ps (defScope st))
    (hbody : ∀ (cdv : Value) (A : Around) (outer : List Env) (s : Shared) (H : Hp) (E : XK), Ok G (cxOf (L2.CX P w) P w G.K G.mg base N qual (defScope st) f cdv A outer s H E) k (wE E) →
      SSs G (cxOf (L2.CX P w) P w G.K G.mg base N qual (defScope st) f cdv A outer s H E) (wE E) (defBody st) b) : GFn G P w base (k + 1) f fd ps (runDef ps.length N.length b) := by
  obtain ⟨oc, od, dV, kV, doc, pm, an, cdv, ct, osl, rfl, lk, hcd⟩ := FF.ex
  refine ⟨fun A outer s H args us vs Q E hr hgd e0 hb r hsp => ?_⟩
  obtain ⟨hl, F, μ, S0, ds, hrel, hreps, hpost⟩ := hsp
  have KX : G.K.In s.heap := e0.mod.kin.keeps (fun b o e =>
    (e0.bs b o e).1)
  have lim : s.heap.NoLimit := e0.mod.nolimit.keeps (fun b o e =>
    (e0.bs b o e).1)
  have hkind : ∀ y ∈ ps.zip us, (defScope st).names.lookup y.1 = some .local ∨
      ((defScope st).names.lookup y.1 = some .cell ∧ ((cellsFrom (s.heap.objs.size + 1) (defScope st).names []).lookup y.1).isSome = true) := by
    intro y hy
    have hm := (List.of_mem_zip (show (y.1, y.2) ∈ ps.zip us from hy)).1
    rcases S.par y.1 hm with q | q
    · exact .inl q
    · exact .inr ⟨q, PySem.W.cellsFrom_some _ _ _ (.inl q)⟩
  refine codeAny_call_function hr.depth (KX _ _ lk) rfl S.co S.gen rfl (PySem.W.codeRec_of KX hcd) (hb _ _ _ _ ?_)
  refine wpAny_newFunctionEnv_cells S.kind hkind (fun env he s1 x1 => ?_)
  subst he
  refine ⟨lim.keeps x1.toInCall.keep, codeAny_func ?_⟩
  have hk : Ok G (cxOf (L2.CX P w) P w G.K G.mg base N qual (defScope st) f cdv A outer s H E) k (wE E) :=
    ⟨rfl, rfl, rfl, S.nd, hr.deeper _, hgd, takes_of rfl rfl rfl rfl, passes_of rfl⟩
  obtain ⟨t, ht, hi⟩ := hbody cdv A outer s H E hk
  have I : Inv (cxOf (L2.CX P w) P w G.K G.mg base N qual (defScope st) f cdv A outer s H E) [] (L2.start N vs) H s1 :=
    inv_start S hr.hd e0 hl r x1
  have hds : ds.length = ps.length := by rw [hreps.length, hl]
  have hq : t { nx := fun _ H' => Q .non H', rt := Q } (L2.start N vs) H := by
    refine hi _ S0 _ H F μ _ (env_start (N := N) hreps hds) hrel ?_
    unfold runDef at hpost
    rw [if_pos hds] at hpost
    revert hpost
    cases b (ds.map some ++ List.replicate (N.length - ps.length) none) S0 with
    | nx ρ S' => exact fun h F' μ' σ' H' x r e => h F' μ' .non H' x r .non
    | rt d S' => exact fun h => h
    | ex ρ c ks vs S' => exact fun h F' μ' σ' dx xs H' x r e a l q => h F' μ' dx xs H' x r a l q
    | _ => exact fun h => h.elim
  refine wpAny_mono (ht.run [] s1 (L2.start N vs) H _ I hq) (fun fl s' hs => ?_) (fun e s' hs => hs)
  have fin : ∀ {σ' : L2.St} {H' : Hp} {v : V} {u : Value}, Inv (cxOf (L2.CX P w) P w G.K G.mg base N qual (defScope st) f cdv A outer s H E) [] σ' H' s' → RelV v u → Q v H' → CE outer P w H s Q u s' :=
    fun {σ' H' v u} J rv q =>
      ⟨v, H', J.os, J.bare, J.base, J.hok, rv, q⟩
  cases fl with
  | ret u =>
    obtain ⟨v, σ', H', J, rv, q⟩ := hs
    exact fin J rv q
  | next =>
    obtain ⟨σ', H', J, q⟩ := hs
    exact fin (v := V.non) (u := Value.none) J rfl q
  | brk => exact hs.elim fun _ h => h.elim fun _ h => h.2.elim
  | cont => exact hs.elim fun _ h => h.elim fun _ h => h.2.elim
end

section
variable {G : Gm} {X : Cx} {W : WX} {k j : Nat}
/-- the callee runs, from an expression -/
theorem run_G {f : Addr} {fd : FuncData} {ps : List Str} {mf : MF} {pins : List (Addr × Obj)} {σ : L2.St} {H : Hp} {s : Shared} {Q : VK} {args : Args} {us : List Value} {vs : List V}
    (ok : Ok G X k W) (g : GFn G X.prog X.w X.base j f fd ps mf) (hj : j ≤ k) (I : Inv X pins σ H s) (hb : BindsTo s fd args (ps.zip us)) (r : Vals vs us) (h : spM G ps.length mf vs H Q (WE W σ)) :
    codeAny (model X.prog X.w) X.A (.call (.ref f) args) (fun r s' => match r with | .ok (.ret u) => EP X pins σ Q u s' | .ok _ => False | .error e => X.xe e s') s := by
  have e0 : Env0 X.prog X.w G.K G.mg X.base X.A X.stack s H := by
    have e := I.env0
    rw [ok.K, ok.mg] at e
    exact e
  refine codeAny_mono (g.run X.A X.stack s H args us vs Q (WE W σ) (ok.room.mono hj) ok.gd e0 hb r h) fun r s' hq => ?_
  cases r with
  | error e => exact passAt ok.tk σ pins H s e s' I hq
  | ok fl => cases fl with
    | ret u => exact I.after hq
    | _ => exact hq.elim
/-- how positional arguments are bound -/
def BdP (K : PySem.W.Frag) (fd : FuncData) (ps : List Str) : Prop := ∀ (s : Shared) (us : List Value), K.In s.heap → us.length = ps.length → BindsTo s fd ⟨us, []⟩ (ps.zip us)
theorem bdP_mk {K : PySem.W.Frag} {fd : FuncData} {ps : List Str} (h : ∀ us : List Value, us.length = ps.length → bindArgs fd ⟨us, []⟩ = pure (ps.zip us)) : BdP K fd ps := fun s us _ hl => .of_eq (h us hl)
def tSp (sp : Sp) (E : L2.St → XK) (t : TA) : TE := fun σ H Q => t σ H fun vs H1 => sp vs H1 Q (E σ)
theorem imp_call {n : Nat} {mf : MF} {t : TA} {m : ML} (hl : ∀ ds S, mf ds S ≠ .bad → ds.length = n) (h : ImpE G W (Reps G) t m) : ImpE G W (Rep G) (tSp (spM G n mf) (WE W) t) (mCall mf m) := by
  intro ρ S σ H F μ Q he hr hp
  refine h ρ S σ H F μ _ he hr (Post.bind hp fun ds S1 F1 μ1 vs H1 x1 r1 p1 q1 => ?_)
  refine ⟨?_, F1, μ1, S1, ds, r1, p1, ?_⟩
  · rw [← p1.length]
    refine hl ds S1 fun z => ?_
    rw [z] at q1
    exact q1.elim
  · cases hm : mf ds S1 with
    | ok d S2 => rw [hm] at q1; exact q1
    | ex c ks vs S2 => rw [hm] at q1; exact q1
    | bad => rw [hm] at q1; exact q1
theorem runDef_len {n m : Nat} {b : MS} {ds : List D} {S : Store} (h : runDef n m b ds S ≠ .bad) : ds.length = n := by
  unfold runDef at h
  split at h
  · assumption
  · exact absurd rfl h
theorem se_call {f : Addr} {fd : FuncData} {ps : List Str} {mf : MF} {x : Str} {p pos : Pos} {e : Expr} {es : List Expr} {m : ML} (ok : Ok G X k W) (g : GFn G X.prog X.w X.base j f fd ps mf) (hj : j ≤ k) (hl : ∀ ds S, mf ds S ≠ .bad → ds.length = ps.length)
    (hm : G.mg x = some (.ref f)) (hk : PySem.W.keepIn G.K (.ref f) = true) (hb : BdP G.K fd ps) (ha : SA G X W (e :: es) m) (hg : Gl X x := by rfl)
    (hdb : (x == ("__debug__" : Str)) = false := by decide) (he : starEach (e :: es) X.env = (false, eval e X.env) :: starEach es X.env := by rfl) (hpl : (backTo pos (starEach es X.env)).any (·.1) = false := by rfl) :
    SE G X W (.Call (.Name x p) (e :: es) [] pos) (mCall mf m) := by
  obtain ⟨t, pa, i⟩ := ha
  refine ⟨_, ?_, imp_call hl i⟩
  refine ⟨fun pins s σ H Q I h => wpAny_Call_Name_kw (ld_glob I hg (by rw [ok.mg]; exact hm) ?_ hdb)⟩
  refine PySem.W.callWith_K (h₀ := X.base) I.ok.mod.kin (by rw [ok.K]; exact hk) (thn (pa.run pos pins s σ H _ I h) fun us s1 hv => ?_) he hpl
  obtain ⟨vs, H1, I1, r, q⟩ := hv
  refine ⟨I1.kIn, wpAny_call (codeAny_mono (run_G ok g hj I1 (hb s1 us (by have z := I1.kIn; rw [ok.K] at z; exact z) (by rw [← r.length]; exact q.1)) r q) fun r' s' hq => ?_)⟩
  cases r' with
  | error e => exact hq
  | ok fl => cases fl with
    | ret u => exact hq
    | _ => exact hq.elim
theorem se_call0 {f : Addr} {fd : FuncData} {ps : List Str} {mf : MF} {x : Str} {p pos : Pos} (ok : Ok G X k W) (g : GFn G X.prog X.w X.base j f fd ps mf) (hj : j ≤ k) (hl : ∀ ds S, mf ds S ≠ .bad → ds.length = ps.length)
    (hm : G.mg x = some (.ref f)) (hk : PySem.W.keepIn G.K (.ref f) = true) (hb : BdP G.K fd ps) (hg : Gl X x := by rfl)
    (hdb : (x == ("__debug__" : Str)) = false := by decide) : SE G X W (.Call (.Name x p) [] [] pos) (mCall mf mNilL) := by
  obtain ⟨t, pa, i⟩ := (sa_nil : SA G X W [] mNilL)
  refine ⟨_, ?_, imp_call (t := tNil) hl (fun ρ S σ H F μ Q he hr hp => hp F μ [] H (Ext.refl _ _) hr .nil)⟩
  refine ⟨fun pins s σ H Q I h => wpAny_Call_Name_kw (ld_glob I hg (by rw [ok.mg]; exact hm) ?_ hdb)⟩
  refine PySem.W.callWith_K0 I.kIn (by rw [ok.K]; exact hk) ?_
  refine wpAny_call (codeAny_mono (run_G (us := []) (vs := []) ok g hj I (hb s [] (by have z := I.kIn; rw [ok.K] at z; exact z) h.1) .nil h) fun r' s' hq => ?_)
  cases r' with
  | error e => exact hq
  | ok fl => cases fl with
    | ret u => exact hq
    | _ => exact hq.elim

/-! ### calls with keywords -/
inductive Src where
  | ps (j : Nat)
  | kw (j : Nat)
  | df (j : Nat)
def fill {α : Type} (us ws ds : List α) : List Src → Option (List α)
  | [] => some []
  | .ps j :: r => (us[j]?).bind fun a => (fill us ws ds r).map (a :: ·)
  | .kw j :: r => (ws[j]?).bind fun a => (fill us ws ds r).map (a :: ·)
  | .df j :: r => (ds[j]?).bind fun a => (fill us ws ds r).map (a :: ·)
/-- how positional and keywords' arguments are bound, defaults filling up -/
def BdK (K : PySem.W.Frag) (fd : FuncData) (ps : List Str) (n : Nat) (ks : List Str) (src : List Src) (dv : List Value) : Prop :=
  ∀ (s : Shared) (us ws r : List Value), K.In s.heap → us.length = n → ws.length = ks.length → fill us ws dv src = some r → BindsTo s fd ⟨us, ks.zip ws⟩ (ps.zip r)
theorem fill_rep {F : Hp} {μ : List Addr} {d1 d2 d3 : List D} {v1 v2 v3 : List V} (a : Reps G F μ d1 v1) (b : Reps G F μ d2 v2) (c : Reps G F μ d3 v3) : ∀ {src : List Src} {r : List D}, fill d1 d2 d3 src = some r → ∃ r', fill v1 v2 v3 src = some r' ∧ Reps G F μ r r'
  | [], _, h => by
    cases h
    exact ⟨[], rfl, .nil⟩
  | .ps j :: src, r, h => by
    simp only [fill] at h ⊢
    cases e : d1[j]? with
    | none => rw [e] at h; cases h
    | some d =>
      cases e2 : fill d1 d2 d3 src with
      | none => rw [e, e2] at h; cases h
      | some r2 =>
        rw [e, e2] at h
        cases h
        obtain ⟨v, h1, h2⟩ := a.get e
        obtain ⟨r', h3, h4⟩ := fill_rep a b c e2
        exact ⟨v :: r', by rw [h1, h3]; rfl, .cons h2 h4⟩
  | .kw j :: src, r, h => by
    simp only [fill] at h ⊢
    cases e : d2[j]? with
    | none => rw [e] at h; cases h
    | some d =>
      cases e2 : fill d1 d2 d3 src with
      | none => rw [e, e2] at h; cases h
      | some r2 =>
        rw [e, e2] at h
        cases h
        obtain ⟨v, h1, h2⟩ := b.get e
        obtain ⟨r', h3, h4⟩ := fill_rep a b c e2
        exact ⟨v :: r', by rw [h1, h3]; rfl, .cons h2 h4⟩
  | .df j :: src, r, h => by
    simp only [fill] at h ⊢
    cases e : d3[j]? with
    | none => rw [e] at h; cases h
    | some d =>
      cases e2 : fill d1 d2 d3 src with
      | none => rw [e, e2] at h; cases h
      | some r2 =>
        rw [e, e2] at h
        cases h
        obtain ⟨v, h1, h2⟩ := c.get e
        obtain ⟨r', h3, h4⟩ := fill_rep a b c e2
        exact ⟨v :: r', by rw [h1, h3]; rfl, .cons h2 h4⟩
theorem fill_val {v1 v2 v3 : List V} {u1 u2 u3 : List Value} (a : Vals v1 u1) (b : Vals v2 u2) (c : Vals v3 u3) : ∀ {src : List Src} {r : List V}, fill v1 v2 v3 src = some r → ∃ r', fill u1 u2 u3 src = some r' ∧ Vals r r'
  | [], _, h => by
    cases h
    exact ⟨[], rfl, .nil⟩
  | .ps j :: src, r, h => by
    simp only [fill] at h ⊢
    cases e : v1[j]? with
    | none => rw [e] at h; cases h
    | some d =>
      cases e2 : fill v1 v2 v3 src with
      | none => rw [e, e2] at h; cases h
      | some r2 =>
        rw [e, e2] at h
        cases h
        obtain ⟨v, h1, h2⟩ := a.get e
        obtain ⟨r', h3, h4⟩ := fill_val a b c e2
        exact ⟨v :: r', by rw [h1, h3]; rfl, .cons h2 h4⟩
  | .kw j :: src, r, h => by
    simp only [fill] at h ⊢
    cases e : v2[j]? with
    | none => rw [e] at h; cases h
    | some d =>
      cases e2 : fill v1 v2 v3 src with
      | none => rw [e, e2] at h; cases h
      | some r2 =>
        rw [e, e2] at h
        cases h
        obtain ⟨v, h1, h2⟩ := b.get e
        obtain ⟨r', h3, h4⟩ := fill_val a b c e2
        exact ⟨v :: r', by rw [h1, h3]; rfl, .cons h2 h4⟩
  | .df j :: src, r, h => by
    simp only [fill] at h ⊢
    cases e : v3[j]? with
    | none => rw [e] at h; cases h
    | some d =>
      cases e2 : fill v1 v2 v3 src with
      | none => rw [e, e2] at h; cases h
      | some r2 =>
        rw [e, e2] at h
        cases h
        obtain ⟨v, h1, h2⟩ := c.get e
        obtain ⟨r', h3, h4⟩ := fill_val a b c e2
        exact ⟨v :: r', by rw [h1, h3]; rfl, .cons h2 h4⟩
/-- the keywords' values -/
structure SK (G : Gm) (X : Cx) (W : WX) (kws : List Keyword) (m : ML) : Prop where
  ex : ∃ t, PK X kws t ∧ ImpE G W (Reps G) t m
theorem sk_nil : SK G X W [] mNilL := ⟨_, pk_nil, fun ρ S σ H F μ Q he hr hp => hp F μ [] H (Ext.refl _ _) hr .nil⟩
theorem sk_cons {nm : Option Str} {e : Expr} {kpos : Pos} {kws : List Keyword} {m : ME} {n : ML} (ha : SE G X W e m) (hb : SK G X W kws n) : SK G X W (⟨nm, e, kpos⟩ :: kws) (mConsL m n) := by
  obtain ⟨ta, pa, ia⟩ := ha
  obtain ⟨tb, pb, ib⟩ := hb
  refine ⟨_, pk_cons pa pb, fun ρ S σ H F μ Q he hr hp => ?_⟩
  refine ia ρ S σ H F μ _ he hr (Post.bind hp fun x S1 F1 μ1 u H1 x1 r1 p1 q1 => ?_)
  refine ib ρ S1 σ H1 F1 μ1 _ (he.mono x1) r1 (Post.bind q1 fun xs S2 F2 μ2 us H2 x2 r2 p2 q2 => ?_)
  exact q2 F2 μ2 _ H2 (Ext.refl _ _) r2 (.cons (p1.mono x2) p2)
def mCallK (mf : MF) (n m : Nat) (src : List Src) (df : List D) (a b : ML) : ME := fun ρ S => (a ρ S).bind fun us S1 => (b ρ S1).bind fun ws S2 =>
  if us.length = n ∧ ws.length = m then
    match fill us ws df src with
    | some r => mf r S2
    | none => .bad
  else .bad
/-- the defaults' values: known ahead -/
def Dfl (G : Gm) (df : List D) (dv : List Value) : Prop := ∃ vs, Vals vs dv ∧ ∀ F μ, Reps G F μ df vs
theorem dfl_nil : Dfl G [] [] := ⟨[], .nil, fun _ _ => .nil⟩
def tSpK (G : Gm) (n m pn : Nat) (src : List Src) (mf : MF) (dvs : List V) (E : L2.St → XK) (t tk : TA) : TE := fun σ H Q => t σ H fun vs H1 => tk σ H1 fun zs H2 => vs.length = n ∧ zs.length = m ∧ ∃ r, fill vs zs dvs src = some r ∧ spM G pn mf r H2 Q (E σ)
theorem se_callK {f : Addr} {fd : FuncData} {ps ks : List Str} {n : Nat} {src : List Src} {df : List D} {dv : List Value} {mf : MF} {x : Str} {p pos : Pos} {e : Expr} {es : List Expr} {kws : List Keyword} {a b : ML}
    (ok : Ok G X k W) (g : GFn G X.prog X.w X.base j f fd ps mf) (hj : j ≤ k) (hl : ∀ ds S, mf ds S ≠ .bad → ds.length = ps.length)
    (hm : G.mg x = some (.ref f)) (hk : PySem.W.keepIn G.K (.ref f) = true) (hd : Dfl G df dv) (hb : BdK G.K fd ps n ks src dv) (ha : SA G X W (e :: es) a) (hkw : SK G X W kws b) (hg : Gl X x := by rfl)
    (hall : (backToKw pos (keywordEach kws X.env)).all (·.1.isSome) = true := by rfl) (hks : (backToKw pos (keywordEach kws X.env)).filterMap (·.1) = ks := by rfl)
    (hdb : (x == ("__debug__" : Str)) = false := by decide) (he : starEach (e :: es) X.env = (false, eval e X.env) :: starEach es X.env := by rfl)
    (hpl : ((backTo pos (starEach (e :: es) X.env)).any (·.1) || (backToKw pos (keywordEach kws X.env)).any (·.1.isNone)) = false := by rfl) :
    SE G X W (.Call (.Name x p) (e :: es) kws pos) (mCallK mf n ks.length src df a b) := by
  obtain ⟨t, pa, i⟩ := ha
  obtain ⟨tk, pk, ik⟩ := hkw
  obtain ⟨dvs, rd, hdf⟩ := hd
  refine ⟨tSpK G n ks.length ps.length src mf dvs (WE W) t tk, ⟨fun pins s σ H Q I h => wpAny_Call_Name_kw (ld_glob I hg (by rw [ok.mg]; exact hm) ?_ hdb)⟩, fun ρ S σ H F μ Q hen hr hp => ?_⟩
  · refine PySem.W.callWith_KW (h₀ := X.base) I.ok.mod.kin (by rw [ok.K]; exact hk) hall (thn (pa.run pos pins s σ H _ I h) fun us s1 hv => ?_) hpl he
    obtain ⟨vs, H1, I1, r, q⟩ := hv
    refine thn (pk.run pos pins s1 σ H1 _ I1 q) fun ws s2 hv2 => ?_
    obtain ⟨zs, H2, I2, rz, hn1, hn2, r', hfill, hsp⟩ := hv2
    obtain ⟨u', hfu, ru⟩ := fill_val r rz rd hfill
    refine ⟨I2.kIn, ?_⟩
    rw [hks]
    refine wpAny_call (codeAny_mono (run_G ok g hj I2 (hb s2 us ws u' (by have z := I2.kIn; rw [ok.K] at z; exact z) (by rw [← r.length]; exact hn1) (by rw [← rz.length]; exact hn2) hfu) ru hsp) fun r' s' hq => ?_)
    cases r' with
    | error e => exact hq
    | ok fl => cases fl with
      | ret u => exact hq
      | _ => exact hq.elim
  · refine i ρ S σ H F μ _ hen hr (Post.bind hp fun us S1 F1 μ1 vs H1 x1 r1 p1 q1 => ?_)
    refine ik ρ S1 σ H1 F1 μ1 _ (hen.mono x1) r1 (Post.bind q1 fun ws S2 F2 μ2 zs H2 x2 r2 p2 q2 => ?_)
    obtain ⟨⟨hn1, hn2⟩, q3⟩ := post_if q2
    cases hf : fill us ws df src with
    | none => rw [hf] at q3; exact q3.elim
    | some rr =>
      rw [hf] at q3
      have q3 : Post G W (Rep G) F2 μ2 σ Q (mf rr S2) := q3
      obtain ⟨r', hf', hr'⟩ := fill_rep (p1.mono x2) p2 (hdf F2 μ2) hf
      refine ⟨by rw [← p1.length]; exact hn1, by rw [← p2.length]; exact hn2, r', hf', ?_, F2, μ2, S2, rr, r2, hr', ?_⟩
      · rw [← hr'.length]
        refine hl rr S2 fun z => ?_
        rw [z] at q3
        exact q3.elim
      · cases hmm : mf rr S2 with
        | ok d S2 => rw [hmm] at q3; exact q3
        | ex c ks vs S2 => rw [hmm] at q3; exact q3
        | bad => rw [hmm] at q3; exact q3
theorem se_callK0 {f : Addr} {fd : FuncData} {ps ks : List Str} {src : List Src} {df : List D} {dv : List Value} {mf : MF} {x : Str} {p pos : Pos} {kws : List Keyword} {b : ML}
    (ok : Ok G X k W) (g : GFn G X.prog X.w X.base j f fd ps mf) (hj : j ≤ k) (hl : ∀ ds S, mf ds S ≠ .bad → ds.length = ps.length)
    (hm : G.mg x = some (.ref f)) (hk : PySem.W.keepIn G.K (.ref f) = true) (hd : Dfl G df dv) (hb : BdK G.K fd ps 0 ks src dv) (hkw : SK G X W kws b) (hg : Gl X x := by rfl)
    (hall : (backToKw pos (keywordEach kws X.env)).all (·.1.isSome) = true := by rfl) (hks : (backToKw pos (keywordEach kws X.env)).filterMap (·.1) = ks := by rfl)
    (hdb : (x == ("__debug__" : Str)) = false := by decide)
    (hpl : ((backTo pos (starEach [] X.env)).any (·.1) || (backToKw pos (keywordEach kws X.env)).any (·.1.isNone)) = false := by rfl) :
    SE G X W (.Call (.Name x p) [] kws pos) (mCallK mf 0 ks.length src df mNilL b) := by
  obtain ⟨tk, pk, ik⟩ := hkw
  obtain ⟨dvs, rd, hdf⟩ := hd
  refine ⟨tSpK G 0 ks.length ps.length src mf dvs (WE W) tNil tk, ⟨fun pins s σ H Q I h => wpAny_Call_Name_kw (ld_glob I hg (by rw [ok.mg]; exact hm) ?_ hdb)⟩, fun ρ S σ H F μ Q hen hr hp => ?_⟩
  · refine PySem.W.callWith_KW0 (h₀ := X.base) I.ok.mod.kin (by rw [ok.K]; exact hk) hall (thn (pk.run pos pins s σ H _ I h) fun ws s2 hv2 => ?_) hpl
    obtain ⟨zs, H2, I2, rz, hn1, hn2, r', hfill, hsp⟩ := hv2
    obtain ⟨u', hfu, ru⟩ := fill_val (u1 := []) .nil rz rd hfill
    refine ⟨I2.kIn, ?_⟩
    rw [hks]
    refine wpAny_call (codeAny_mono (run_G ok g hj I2 (hb s2 [] ws u' (by have z := I2.kIn; rw [ok.K] at z; exact z) rfl (by rw [← rz.length]; exact hn2) hfu) ru hsp) fun r' s' hq => ?_)
    cases r' with
    | error e => exact hq
    | ok fl => cases fl with
      | ret u => exact hq
      | _ => exact hq.elim
  · show tk σ H _
    refine ik ρ S σ H F μ _ hen hr (Post.bind (show Post G W (Rep G) F μ σ Q ((b ρ S).bind _) from hp) fun ws S2 F2 μ2 zs H2 x2 r2 p2 q2 => ?_)
    obtain ⟨⟨hn1, hn2⟩, q3⟩ := post_if q2
    cases hf : fill [] ws df src with
    | none => rw [hf] at q3; exact q3.elim
    | some rr =>
      rw [hf] at q3
      have q3 : Post G W (Rep G) F2 μ2 σ Q (mf rr S2) := q3
      obtain ⟨r', hf', hr'⟩ := fill_rep (v1 := []) .nil p2 (hdf F2 μ2) hf
      refine ⟨rfl, by rw [← p2.length]; exact hn2, r', hf', ?_, F2, μ2, S2, rr, r2, hr', ?_⟩
      · rw [← hr'.length]
        refine hl rr S2 fun z => ?_
        rw [z] at q3
        exact q3.elim
      · cases hmm : mf rr S2 with
        | ok d S2 => rw [hmm] at q3; exact q3
        | ex c ks vs S2 => rw [hmm] at q3; exact q3
        | bad => rw [hmm] at q3; exact q3
end
end Z

set_option Elab.async false
set_option linter.all false
set_option maxRecDepth 100000
set_option maxHeartbeats 2000000
set_option autoImplicit false
namespace Z
open PySem PySem.Spec L2

/-! ## operations by value -/
def b2n (b : Bool) : Int := if b = true then 1 else 0
def lstD (S : Store) : D → Option (List D)
  | .lst l => some l
  | .loc n =>
    match S[n]? with
    | some (.lst l) => some l
    | _ => none
  | _ => none
def addD (x y : D) (S : Store) : Res D :=
  match x, y with
  | .int i, .int j => .ok (.int (i + j)) S
  | .int i, .bl b => .ok (.int (i + b2n b)) S
  | .str a, .str b => if a.length + b.length ≤ sizeLine then .ok (.str (a ++ b)) S else .bad
  | .tup a, .tup b => if a.length + b.length ≤ sizeLine then .ok (.tup (a ++ b)) S else .bad
  | x, y =>
    match lstD S x, lstD S y with
    | some a, some b => if a.length + b.length ≤ sizeLine then .ok (.lst (a ++ b)) S else .bad
    | _, _ => .bad
def subD (x y : D) (S : Store) : Res D :=
  match x, y with
  | .int i, .int j => .ok (.int (i - j)) S
  | .bl a, .bl b => .ok (.int (b2n a - b2n b)) S
  | _, _ => .bad
def MulOk (i j : Int) : Prop := i.natAbs.log2 + j.natAbs.log2 < 1000000 ∨ ((-(2 ^ 64) < i ∧ i < 2 ^ 64) ∨ (-(2 ^ 64) < j ∧ j < 2 ^ 64))
instance (i j : Int) : Decidable (MulOk i j) := by unfold MulOk; infer_instance
def mulD (x y : D) (S : Store) : Res D :=
  match x, y with
  | .int i, .int j => if MulOk i j then .ok (.int (i * j)) S else .bad
  | x, .int j =>
    match lstD S x with
    | some l => if (-(2 ^ 63) ≤ j ∧ j < 2 ^ 63) ∧ l.length * j.toNat ≤ sizeLine then .ok (.lst (List.replicate j.toNat l).flatten) S else .bad
    | none => .bad
  | _, _ => .bad
def fdivD (x y : D) (S : Store) : Res D :=
  match x, y with
  | .int i, .int j => if 0 < j ∧ j.natAbs.log2 < 9000 then .ok (.int (i / j)) S else .bad
  | _, _ => .bad
def modD (x y : D) (S : Store) : Res D :=
  match x, y with
  | .int i, .int j => if 0 < j then .ok (.int (i % j)) S else .bad
  | _, _ => .bad
def powD (x y : D) (S : Store) : Res D :=
  match x, y with
  | .int i, .int j => if 0 ≤ j ∧ j ≤ 1000000 ∧ i.natAbs < 2 ^ 64 then .ok (.int (i ^ j.toNat)) S else .bad
  | _, _ => .bad
def negD (x : D) (S : Store) : Res D :=
  match x with
  | .int i => .ok (.int (-i)) S
  | _ => .bad
def ltD (x y : D) (S : Store) : Res D :=
  match x, y with
  | .int i, .int j => .ok (.bl (decide (i < j))) S
  | .str i, .str j => .ok (.bl (decide (i.cps.toList < j.cps.toList))) S
  | _, _ => .bad
def leD (x y : D) (S : Store) : Res D :=
  match x, y with
  | .int i, .int j => .ok (.bl (decide (i ≤ j))) S
  | _, _ => .bad
def gtD (x y : D) (S : Store) : Res D :=
  match x, y with
  | .int i, .int j => .ok (.bl (decide (j < i))) S
  | _, _ => .bad
def geD (x y : D) (S : Store) : Res D :=
  match x, y with
  | .int i, .int j => .ok (.bl (decide (j ≤ i))) S
  | _, _ => .bad
def isNon : D → Bool
  | .non => true
  | _ => false
def isD (x y : D) (S : Store) : Res D :=
  match x, y with
  | x, .non => .ok (.bl (isNon x)) S
  | .bl a, .bl b => .ok (.bl (decide (a = b))) S
  | _, _ => .bad
def isNotD (x y : D) (S : Store) : Res D :=
  match x, y with
  | x, .non => .ok (.bl (!isNon x)) S
  | .bl a, .bl b => .ok (.bl (!decide (a = b))) S
  | _, _ => .bad
mutual
/-- plain data -/
def toP : D → Option PyData
  | .non => some .none
  | .bl b => some (.bool b)
  | .int i => some (.int i)
  | .str x => some (.str x)
  | .tup l => (toPs l).map .tuple
  | .lst l => (toPs l).map .list
  | .kst l => (toPs l).map .list
  | _ => none
def toPs : List D → Option (List PyData)
  | [] => some []
  | d :: ds =>
    match toP d, toPs ds with
    | some p, some ps => some (p :: ps)
    | _, _ => none
end
def toPS (S : Store) (d : D) : Option PyData :=
  match lstD S d with
  | some l => (toPs l).map .list
  | none => toP d
def eqScal : D → D → Option Bool
  | .int i, .int j => some (decide (i = j))
  | .str a, .str b => some (decide (a = b))
  | .bl a, .bl b => some (decide (a = b))
  | _, _ => none
def eqB (S : Store) (x y : D) : Option Bool :=
  match eqScal x y with
  | some b => some b
  | none =>
    match toPS S x, toPS S y with
    | some p, some q => if SeqAt.shaped p && SeqAt.shaped q then some (PyData.eqv p q) else none
    | _, _ => none
def eqD (x y : D) (S : Store) : Res D := (resO (eqB S x y) S).bind fun b S => .ok (.bl b) S
def neD (x y : D) (S : Store) : Res D := (resO (eqB S x y) S).bind fun b S => .ok (.bl (!b)) S
def ixD (o i : D) (S : Store) : Res D :=
  match i with
  | .int k =>
    match o with
    | .str x => if x.length ≤ sizeLine then resO ((atI x.cps.toList k).map fun c => .str ⟨#[c]⟩) S else .bad
    | o =>
      match itemsD S o with
      | some l => resO (atI l k) S
      | none => .bad
  | _ => .bad
def lenD (x : D) (S : Store) : Res D :=
  match x with
  | .str x => if x.length ≤ sizeLine then .ok (.int x.length) S else .bad
  | x =>
    match itemsD S x with
    | some l => .ok (.int l.length) S
    | none => .bad
/-- o[i] = v of a live list -/
def setD (v o i : D) (S : Store) : Option Store :=
  match o, i with
  | .loc n, .int k =>
    match S[n]? with
    | some (.lst l) => (ixN l.length k).map fun j => S.set n (.lst (l.set j v))
    | _ => none
  | _, _ => none

section
variable {G : Gm} {X : Cx} {W : WX} {k : Nat}
theorem post_ok {α β : Type} {R : RR α β} {F : Hp} {μ : List Addr} {S : Store} {H : Hp} {σ : L2.St} {Q : β → Hp → Prop} {a : α} {b : β} (r : Rel G F μ S H) (hr : R F μ a b) (h : Post G W R F μ σ Q (.ok a S)) : Q b H := h F μ b H (Ext.refl _ _) r hr
theorem lst_ok {d : D} {v : V} {F : Hp} {μ : List Addr} {S : Store} {H : Hp} {l : List D} (hr : Rel G F μ S H) (r : Rep G F μ d v) (h : lstD S d = some l) : ∃ a xs, v = .ref a ∧ Reps G F μ l xs ∧ H a = some (.lst xs) := by
  cases r with
  | lst hs hr' =>
    cases h
    exact ⟨_, _, rfl, hr', hr.sub _ _ hs⟩
  | @loc m a hm =>
    simp only [lstD] at h
    split at h
    · rename_i l' hs
      cases h
      obtain ⟨xs, hf, ho, hr'⟩ := hr.lstAt hm hs
      exact ⟨_, _, rfl, hr', ho⟩
    · cases h
  | _ => cases h
/-- either way -/
theorem OpI.or {f : D → D → Store → Res D} {r r' : R2} (h : ∀ (W : WX) (F : Hp) (μ : List Addr) (σ : L2.St) (S : Store) (H : Hp) (x y : D) (u v : V) (Q : VK), Rel G F μ S H → Rep G F μ x u → Rep G F μ y v → Post G W (Rep G) F μ σ Q (f x y S) → r u v H Q ∨ r' u v H Q) : OpI G f (fun x y H Q => r x y H Q ∨ r' x y H Q) := h
theorem rep_emp {F : Hp} {μ : List Addr} {l : List D} {xs : List V} (r : Reps G F μ l xs) : xs = [] ↔ l = [] := by cases r <;> simp
theorem oi_add (hK : X.K = G.K) : OpI G addD (fun x y H Q => (rI0 fun i j => .int (i + j)) x y H Q ∨ (∃ i k, x = .int i ∧ y = .bl k ∧ Q (.int (i + PyProof.Rows.b2i k)) H) ∨ (∃ i j, x = .str i ∧ y = .str j ∧ i.length + j.length ≤ sizeLine ∧ Q (.str (i ++ j)) H) ∨ rCatA X.K x y H Q ∨ rCat x y H Q) := by
  intro W F μ σ S H x y u v Q r rx ry h
  unfold addD at h
  split at h
  · cases rx; cases ry
    exact .inl ⟨_, _, rfl, rfl, post_ok r (.int _) h⟩
  · cases rx; cases ry
    exact .inr (.inl ⟨_, _, rfl, rfl, post_ok r (.int _) h⟩)
  · cases rx; cases ry
    obtain ⟨hl, h⟩ := post_if h
    exact .inr (.inr (.inl ⟨_, _, rfl, rfl, hl, post_ok r (.str _) h⟩))
  · rename_i a b
    cases rx with
    | tup h1 r1 =>
      cases ry with
      | tup h2 r2 =>
        obtain ⟨hl, h⟩ := post_if h
        refine .inr (.inr (.inr (.inl ⟨_, _, _, _, rfl, rfl, by rw [hK]; exact same_sqT r.sub h1, by rw [hK]; exact same_sqT r.sub h2, by rw [← r1.length, ← r2.length]; exact hl, fun e => ?_, fun e1 e2 => ?_, fun e1 e2 p hp => ?_⟩)))
        · rw [rep_emp r1] at e
          subst e
          exact post_ok r (.tup h2 r2) h
        · rw [rep_emp r2] at e2
          subst e2
          rw [List.append_nil] at h
          exact post_ok r (.tup h1 r1) h
        · obtain ⟨x, rr⟩ := r.newF (.tup _) hp
          exact h _ _ _ _ x rr (.tup (TupF.of upd_same) ((r1.app r2).mono x))
  · split at h
    · rename_i a b ha hb
      obtain ⟨hl, h⟩ := post_if h
      obtain ⟨p1, xs, rfl, r1, h1⟩ := lst_ok r rx ha
      obtain ⟨p2, ys, rfl, r2, h2⟩ := lst_ok r ry hb
      refine .inr (.inr (.inr (.inr ⟨_, _, _, _, rfl, rfl, h1, h2, by rw [← r1.length, ← r2.length]; exact hl, fun p hp => ?_⟩)))
      obtain ⟨x, rr⟩ := r.newF (.lst _) hp
      exact h _ _ _ _ x rr (.lst upd_same ((r1.app r2).mono x))
    · exact h.elim
theorem or_add : OpR X (binaryOp .Add) (fun x y H Q => (rI0 fun i j => .int (i + j)) x y H Q ∨ (∃ i k, x = .int i ∧ y = .bl k ∧ Q (.int (i + PyProof.Rows.b2i k)) H) ∨ (∃ i j, x = .str i ∧ y = .str j ∧ i.length + j.length ≤ sizeLine ∧ Q (.str (i ++ j)) H) ∨ rCatA X.K x y H Q ∨ rCat x y H Q) :=
  op_add.or (op_add_ib.or (op_add_str.or (op_catA.or op_cat)))
theorem oi_int {f : D → D → Store → Res D} {C : Int → Int → Prop} {g : Int → Int → Int} (h : ∀ x y S, f x y S ≠ .bad → ∃ i j, x = .int i ∧ y = .int j ∧ C i j ∧ f x y S = .ok (.int (g i j)) S) : OpI G f (rI C fun i j => .int (g i j)) := by
  intro W F μ σ S H x y u v Q r rx ry hp
  have hb : f x y S ≠ .bad := fun z => by rw [z] at hp; exact hp
  obtain ⟨i, j, rfl, rfl, hc, e⟩ := h x y S hb
  rw [e] at hp
  cases rx; cases ry
  exact ⟨i, j, rfl, rfl, hc, post_ok r (.int _) hp⟩
def rSubB : R2 := fun x y H Q => ∃ a b, x = .bl a ∧ y = .bl b ∧ Q (.int (b2n a - b2n b)) H
theorem op_subB : OpR X (binaryOp .Sub) rSubB := by
  intro pins s σ H x y v u Q I rx ry h
  obtain ⟨a, b, rfl, rfl, q⟩ := h
  cases rx
  cases ry
  exact PyProof.Rows.sub_bool ⟨.int (b2n a - b2n b), H, I.tok _, ⟨_, rfl⟩, q⟩
theorem oi_sub : OpI G subD (fun x y H Q => (rI0 fun i j => .int (i - j)) x y H Q ∨ rSubB x y H Q) := by
  intro W F μ σ S H x y u v Q r rx ry h
  unfold subD at h
  split at h
  · cases rx; cases ry
    exact .inl ⟨_, _, rfl, rfl, post_ok r (.int _) h⟩
  · cases rx; cases ry
    exact .inr ⟨_, _, rfl, rfl, post_ok r (.int _) h⟩
  · exact h.elim
theorem or_sub : OpR X (binaryOp .Sub) (fun x y H Q => (rI0 fun i j => .int (i - j)) x y H Q ∨ rSubB x y H Q) := op_sub.or op_subB
theorem reps_flat {F : Hp} {μ : List Addr} {l : List D} {xs : List V} (r : Reps G F μ l xs) : ∀ n : Nat, Reps G F μ (List.replicate n l).flatten (List.replicate n xs).flatten
  | 0 => .nil
  | n + 1 => by
    rw [List.replicate_succ, List.replicate_succ, List.flatten_cons, List.flatten_cons]
    exact r.app (reps_flat r n)
theorem oi_mul : OpI G mulD (fun x y H Q => (rI CMulW (fun i j => .int (i * j)) x y H Q ∨ rI CMul (fun i j => .int (i * j)) x y H Q) ∨ rRep x y H Q) := by
  intro W F μ σ S H x y u v Q r rx ry h
  unfold mulD at h
  split at h
  · cases rx; cases ry
    obtain ⟨hc, h⟩ := post_if h
    rcases hc with hc | hc
    · exact .inl (.inl ⟨_, _, rfl, rfl, hc, post_ok r (.int _) h⟩)
    · exact .inl (.inr ⟨_, _, rfl, rfl, hc, post_ok r (.int _) h⟩)
  · split at h
    · rename_i l hl
      obtain ⟨hc, h⟩ := post_if h
      obtain ⟨a, xs, rfl, rs, ha⟩ := lst_ok r rx hl
      cases ry
      refine .inr ⟨a, _, xs, rfl, rfl, ha, hc.1.1, hc.1.2, by rw [← rs.length]; exact hc.2, fun p hp => ?_⟩
      obtain ⟨x, rr⟩ := r.newF (.lst _) hp
      exact h _ _ _ _ x rr (.lst upd_same ((reps_flat rs _).mono x))
    · exact h.elim
  · exact h.elim
theorem or_mul : OpR X (binaryOp .Mult) (fun x y H Q => (rI CMulW (fun i j => .int (i * j)) x y H Q ∨ rI CMul (fun i j => .int (i * j)) x y H Q) ∨ rRep x y H Q) := (op_mulW.or op_mul).or op_rep
theorem oi_fdiv : OpI G fdivD (rI CDivW fun i j => .int (i / j)) := oi_int fun x y S h => by
  unfold fdivD at h ⊢
  split at h
  · split at h
    · rename_i i j hc
      exact ⟨i, j, rfl, rfl, hc, by rw [if_pos hc]⟩
    · exact absurd rfl h
  · exact absurd rfl h
theorem oi_mod : OpI G modD (rI (fun _ j => 0 < j) fun i j => .int (i % j)) := oi_int fun x y S h => by
  unfold modD at h ⊢
  split at h
  · split at h
    · rename_i i j hc
      exact ⟨i, j, rfl, rfl, hc, by rw [if_pos hc]⟩
    · exact absurd rfl h
  · exact absurd rfl h
theorem oi_pow : OpI G powD (rI CPow fun i j => .int (i ^ j.toNat)) := oi_int fun x y S h => by
  unfold powD at h ⊢
  split at h
  · split at h
    · rename_i i j hc
      exact ⟨i, j, rfl, rfl, hc, by rw [if_pos hc]⟩
    · exact absurd rfl h
  · exact absurd rfl h
theorem ui_neg : UnI G negD (rU fun i => .int (-i)) := by
  intro W F μ σ S H x u Q r rx h
  unfold negD at h
  split at h
  · cases rx
    exact ⟨_, rfl, post_ok r (.int _) h⟩
  · exact h.elim
theorem oi_lt : OpI G ltD (fun x y H Q => (rI0 fun i j => .bl (decide (i < j))) x y H Q ∨ ∃ i j, x = .str i ∧ y = .str j ∧ Q (.bl (decide (i.cps.toList < j.cps.toList))) H) := by
  intro W F μ σ S H x y u v Q r rx ry h
  unfold ltD at h
  split at h
  · cases rx; cases ry
    exact .inl ⟨_, _, rfl, rfl, post_ok r (.bl _) h⟩
  · cases rx; cases ry
    exact .inr ⟨_, _, rfl, rfl, post_ok r (.bl _) h⟩
  · exact h.elim
theorem or_lt : OpR X (compareOp .Lt) (fun x y H Q => (rI0 fun i j => .bl (decide (i < j))) x y H Q ∨ ∃ i j, x = .str i ∧ y = .str j ∧ Q (.bl (decide (i.cps.toList < j.cps.toList))) H) := op_lt.or op_lt_str
theorem oi_le : OpI G leD (rI0 fun i j => .bl (decide (i ≤ j))) := by
  intro W F μ σ S H x y u v Q r rx ry h
  unfold leD at h
  split at h
  · cases rx; cases ry
    exact ⟨_, _, rfl, rfl, post_ok r (.bl _) h⟩
  · exact h.elim
theorem oi_gt : OpI G gtD (rI0 fun i j => .bl (decide (j < i))) := by
  intro W F μ σ S H x y u v Q r rx ry h
  unfold gtD at h
  split at h
  · cases rx; cases ry
    exact ⟨_, _, rfl, rfl, post_ok r (.bl _) h⟩
  · exact h.elim
theorem oi_ge : OpI G geD (rI0 fun i j => .bl (decide (j ≤ i))) := by
  intro W F μ σ S H x y u v Q r rx ry h
  unfold geD at h
  split at h
  · cases rx; cases ry
    exact ⟨_, _, rfl, rfl, post_ok r (.bl _) h⟩
  · exact h.elim
theorem non_iff {F : Hp} {μ : List Addr} {d : D} {v : V} (r : Rep G F μ d v) : decide (v = .non) = isNon d := by cases r <;> rfl
theorem oi_is : OpI G isD (fun x y H Q => (y = .non ∧ Q (.bl (decide (x = .non))) H) ∨ rIsB x y H Q) := by
  intro W F μ σ S H x y u v Q r rx ry h
  unfold isD at h
  split at h
  · cases ry
    exact .inl ⟨rfl, by rw [non_iff rx]; exact post_ok r (.bl _) h⟩
  · cases rx; cases ry
    exact .inr ⟨_, _, rfl, rfl, post_ok r (.bl _) h⟩
  · exact h.elim
theorem or_is : OpR X (compareOp .Is) (fun x y H Q => (y = .non ∧ Q (.bl (decide (x = .non))) H) ∨ rIsB x y H Q) := op_isN.or op_isBl
theorem oi_isNot : OpI G isNotD (fun x y H Q => (y = .non ∧ Q (.bl (!decide (x = .non))) H) ∨ rNotB x y H Q) := by
  intro W F μ σ S H x y u v Q r rx ry h
  unfold isNotD at h
  split at h
  · cases ry
    exact .inl ⟨rfl, by rw [non_iff rx]; exact post_ok r (.bl _) h⟩
  · cases rx; cases ry
    exact .inr ⟨_, _, rfl, rfl, post_ok r (.bl _) h⟩
  · exact h.elim
theorem or_isNot : OpR X (compareOp .IsNot) (fun x y H Q => (y = .non ∧ Q (.bl (!decide (x = .non))) H) ∨ rNotB x y H Q) := op_notN.or op_notBl

mutual
theorem dp_of {F : Hp} {μ : List Addr} {H : Hp} (hs : Same F H) : ∀ (d : D) (v : V) (p : PyData), Rep G F μ d v → toP d = some p → Dp G.K H v p
  | .non, _, _, r, h => by cases r; cases h; exact .non
  | .bl _, _, _, r, h => by cases r; cases h; exact .bl _
  | .int _, _, _, r, h => by cases r; cases h; exact .int _
  | .str _, _, _, r, h => by cases r; cases h; exact .str _
  | .tup l, _, _, r, h => by
    cases r with
    | tup h1 h2 =>
      simp only [toP] at h
      cases e : toPs l with
      | none => rw [e] at h; cases h
      | some ps => rw [e] at h; cases h; exact .tup (same_sqT hs h1) (dp_all hs l _ ps h2 e)
  | .lst l, _, _, r, h => by
    cases r with
    | lst h1 h2 =>
      simp only [toP] at h
      cases e : toPs l with
      | none => rw [e] at h; cases h
      | some ps => rw [e] at h; cases h; exact .lst (SqL.of (hs _ _ h1)) (dp_all hs l _ ps h2 e)
  | .kst l, _, _, r, h => by
    cases r with
    | kst h1 h2 =>
      simp only [toP] at h
      cases e : toPs l with
      | none => rw [e] at h; cases h
      | some ps => rw [e] at h; cases h; exact .lst (same_sqL hs h1) (dp_all hs l _ ps h2 e)
  | .ty _, _, _, _, h => by simp [toP] at h
  | .cls _, _, _, _, h => by simp [toP] at h
  | .dct _ _, _, _, _, h => by simp [toP] at h
  | .ins _ _ _, _, _, _, h => by simp [toP] at h
  | .loc _, _, _, _, h => by simp [toP] at h
  | .exn _ _ _, _, _, _, h => by simp [toP] at h
  | .fn _, _, _, _, h => by simp [toP] at h
  | .lam _ _ _ _ _, _, _, _, h => by simp [toP] at h
theorem dp_all {F : Hp} {μ : List Addr} {H : Hp} (hs : Same F H) : ∀ (ds : List D) (vs : List V) (ps : List PyData), Reps G F μ ds vs → toPs ds = some ps → DpAll G.K H vs ps
  | [], _, _, r, h => by cases r; cases h; exact .nil
  | d :: ds, _, _, r, h => by
    cases r with
    | cons r1 r2 =>
      simp only [toPs] at h
      cases e1 : toP d with
      | none => rw [e1] at h; cases h
      | some p =>
        cases e2 : toPs ds with
        | none => rw [e1, e2] at h; cases h
        | some ps => rw [e1, e2] at h; cases h; exact .cons (dp_of hs d _ p r1 e1) (dp_all hs ds _ ps r2 e2)
end
theorem dp_ok {F : Hp} {μ : List Addr} {S : Store} {H : Hp} {d : D} {v : V} {p : PyData} (r : Rel G F μ S H) (rd : Rep G F μ d v) (h : toPS S d = some p) : Dp G.K H v p := by
  unfold toPS at h
  split at h
  · rename_i l hl
    obtain ⟨a, xs, rfl, h1, h2⟩ := lst_ok r rd hl
    cases e : toPs l with
    | none => rw [e] at h; cases h
    | some ps => rw [e] at h; cases h; exact .lst (SqL.of h2) (dp_all r.sub l _ ps h1 e)
  · exact dp_of r.sub d v p rd h
theorem post_bindO {α : Type} {α' β' : Type} {R : RR α' β'} {F : Hp} {μ : List Addr} {σ : L2.St} {Q : β' → Hp → Prop} {o : Option α} {S : Store} {f : α → Store → Res α'} (h : Post G W R F μ σ Q ((resO o S).bind f)) : ∃ a, o = some a ∧ Post G W R F μ σ Q (f a S) := post_resO h
theorem oi_eq (hK : X.K = G.K) : OpI G eqD (fun x y H Q => rEq x y H Q ∨ rEqD X.K x y H Q) := by
  intro W F μ σ S H x y u v Q r rx ry h
  obtain ⟨b, e, h⟩ := post_bindO h
  have hq := post_ok r (.bl b) h
  unfold eqB at e
  split at e
  · rename_i b' he
    cases e
    unfold eqScal at he
    split at he
    · cases he; cases rx; cases ry
      exact .inl ⟨rfl, by rw [dec_int, Bool.beq_eq_decide_eq]; exact hq⟩
    · cases he; cases rx; cases ry
      exact .inl ⟨rfl, by rw [dec_str, Bool.beq_eq_decide_eq]; exact hq⟩
    · cases he; cases rx; cases ry
      exact .inl ⟨rfl, by rw [dec_bl, Bool.beq_eq_decide_eq]; exact hq⟩
    · cases he
  · split at e
    · rename_i p q hp' hq'
      split at e
      · rename_i hsh
        cases e
        rw [Bool.and_eq_true] at hsh
        exact .inr ⟨p, q, by rw [hK]; exact dp_ok r rx hp', by rw [hK]; exact dp_ok r ry hq', hsh.1, hsh.2, hq⟩
      · cases e
    · cases e
theorem or_eq (hr : Room k X.A) : OpR X (compareOp .Eq) (fun x y H Q => rEq x y H Q ∨ rEqD X.K x y H Q) := op_eq.or (op_eqD hr.units)
theorem oi_ne (hK : X.K = G.K) : OpI G neD (fun x y H Q => rNe x y H Q ∨ rNeD X.K x y H Q) := by
  intro W F μ σ S H x y u v Q r rx ry h
  obtain ⟨b, e, h⟩ := post_bindO h
  have hq := post_ok r (.bl (!b)) h
  unfold eqB at e
  split at e
  · rename_i b' he
    cases e
    unfold eqScal at he
    split at he
    · cases he; cases rx; cases ry
      exact .inl ⟨rfl, by rw [dec_int, Bool.beq_eq_decide_eq]; exact hq⟩
    · cases he; cases rx; cases ry
      exact .inl ⟨rfl, by rw [dec_str, Bool.beq_eq_decide_eq]; exact hq⟩
    · cases he; cases rx; cases ry
      exact .inl ⟨rfl, by rw [dec_bl, Bool.beq_eq_decide_eq]; exact hq⟩
    · cases he
  · split at e
    · rename_i p q hp' hq'
      split at e
      · rename_i hsh
        cases e
        rw [Bool.and_eq_true] at hsh
        exact .inr ⟨p, q, by rw [hK]; exact dp_ok r rx hp', by rw [hK]; exact dp_ok r ry hq', hsh.1, hsh.2, hq⟩
      · cases e
    · cases e
theorem or_ne (hr : Room k X.A) : OpR X (compareOp .NotEq) (fun x y H Q => rNe x y H Q ∨ rNeD X.K x y H Q) := op_ne.or (op_neD hr.units)

/-! ### subscripts, stores -/
theorem atI_rep {F : Hp} {μ : List Addr} {l : List D} {xs : List V} {i : Int} {d : D} (r : Reps G F μ l xs) (h : atI l i = some d) : ∃ v, atI xs i = some v ∧ Rep G F μ d v := by
  unfold atI at h ⊢
  rw [← r.length]
  cases e : ixN l.length i with
  | none => rw [e] at h; cases h
  | some j =>
    rw [e] at h
    exact r.get h
theorem oi_ix (hK : X.K = G.K) : OpI G ixD (rIx X.K) := by
  intro W F μ σ S H x y u v Q r rx ry h
  unfold ixD at h
  split at h
  · cases ry
    split at h
    · cases rx
      obtain ⟨hl, h⟩ := post_if h
      obtain ⟨d, e, h⟩ := post_resO1 h
      cases e' : atI _ _ with
      | none => rw [e'] at e; cases e
      | some c =>
        rw [e'] at e
        cases e
        exact .inr (.inr ⟨_, _, c, rfl, rfl, hl, e', post_ok r (.str _) h⟩)
    · split at h
      · rename_i l hl
        obtain ⟨d, e, h⟩ := post_resO1 h
        obtain ⟨a, xs, rfl, rs, hs⟩ := items_ok r rx hl
        obtain ⟨w, e1, rw1⟩ := atI_rep rs e
        rcases hs with hs | hs
        · exact .inr (.inl ⟨a, xs, _, w, rfl, rfl, by rw [hK]; exact hs, e1, post_ok r rw1 h⟩)
        · exact .inl ⟨a, xs, _, w, rfl, rfl, by rw [hK]; exact hs, e1, post_ok r rw1 h⟩
      · exact h.elim
  · exact h.elim
theorem se_ix {a b : Expr} {pos : Pos} {ma mb : ME} (hK : X.K = G.K) (ha : SE G X W a ma) (hb : SE G X W b mb) (hs : PlainIx b := by intro _ _; rfl) : SE G X W (.Subscript a b pos) (mBin ixD ma mb) := by
  obtain ⟨ta, pa, ia⟩ := ha
  obtain ⟨tb, pb, ib⟩ := hb
  exact ⟨_, pe_ix ix_seq pa pb hs, imp_bin ia ib (oi_ix hK)⟩
def gSet (o i : ME) : MG := fun v ρ S =>
  match o ρ S with
  | .ok od S1 =>
    match i ρ S1 with
    | .ok id S2 => (setD v od id S2).map fun S3 => (ρ, S3)
    | _ => none
  | _ => none
theorem sg_set {o i : Expr} {pos : Pos} {mo mi : ME} (ok : Ok G X k W) (ho : SE G X W o mo) (hi : SE G X W i mi) (ha : ∀ v, assign (.Subscript o i pos) X.env v = (do
      let ov ← holding [v] (eval o X.env)
      let iv ← holding [v, ov] (eval i X.env)
      standAt pos
      holding [v, ov, iv] (setItem ov iv v)
      release [v, ov, iv] []) := by intro _; rfl) : SG G X (.Subscript o i pos) (gSet mo mi) := by
  obtain ⟨ta, pa, ia⟩ := ho
  obtain ⟨tb, pb, ib⟩ := hi
  refine ⟨_, pg_sub pa pb set_list ha, fun d v ρ S σ H F μ Q ρ' S' he hr rd e hq => ?_⟩
  unfold gSet at e
  cases h1 : mo ρ S with
  | ok od S1 =>
    rw [h1] at e
    simp only at e
    cases h2 : mi ρ S1 with
    | ok id S2 =>
      rw [h2] at e
      simp only at e
      refine ia ρ S σ H F μ _ he hr ?_
      rw [h1]
      intro F1 μ1 vo H1 x1 r1 ro
      refine ib ρ S1 σ H1 F1 μ1 _ (he.mono x1) r1 ?_
      rw [h2]
      intro F2 μ2 vi H2 x2 r2 ri
      unfold setD at e
      split at e
      · rename_i n kk
        split at e
        · rename_i l hs
          have ro' := ro.mono x2
          cases ro' with
          | @loc _ a hm =>
            cases ri
            obtain ⟨xs, hf, hh, rs⟩ := r2.lstAt hm hs
            cases hj : ixN l.length kk with
            | none => rw [hj] at e; cases e
            | some j =>
              rw [hj] at e
              cases e
              refine ⟨a, xs, kk, j, rfl, rfl, hh, by rw [← rs.length]; exact hj, ?_⟩
              have rd' := rd.mono (x1.trans x2)
              have rr := r2.write (o := .lst (xs.set j v)) (e := .lst (l.set j d)) hh trivial hm hf (.lst hf upd_same (rs.set rd' j))
              exact hq F2 μ2 σ _ (x1.trans x2) rr (he.mono (x1.trans x2))
        · cases e
      · cases e
    | _ => rw [h2] at e; cases e
  | _ => rw [h1] at e; cases e

/-! ### built-in functions -/
theorem imp_cb {r : List V → Hp → VK → Prop} {f : MF} {t : TA} {m : ML} (hi : CallI G f r) (h : ImpE G W (Reps G) t m) : ImpE G W (Rep G) (tCB r t) (mCall f m) := by
  intro ρ S σ H F μ Q he hr hp
  exact h ρ S σ H F μ _ he hr (Post.bind hp fun ds S1 F1 μ1 vs H1 x1 r1 p1 q1 => hi W F1 μ1 σ S1 H1 ds vs Q r1 p1 q1)
theorem se_callB {x : Str} {p pos : Pos} {id : String} {e : Expr} {es : List Expr} {r : List V → Hp → VK → Prop} {f : MF} {m : ML} (hi : CallI G f r) (hc : CallR X (.builtin id) r) (hmg : X.mg = G.mg) (hm : G.mg x = none) (hv : bootBuiltins x = some (.builtin id)) (ha : SA G X W (e :: es) m) (hg : Gl X x := by rfl)
    (hn : x ≠ "__name__" := by decide) (hdb : (x == ("__debug__" : Str)) = false := by decide) (he : starEach (e :: es) X.env = (false, eval e X.env) :: starEach es X.env := by rfl) (hpl : (backTo pos (starEach es X.env)).any (·.1) = false := by rfl) : SE G X W (.Call (.Name x p) (e :: es) [] pos) (mCall f m) := by
  obtain ⟨t, pa, i⟩ := ha
  exact ⟨_, pe_callB hc hg (by rw [hmg]; exact hm) hv pa hn hdb he hpl, imp_cb hi i⟩
theorem se_callTy {x : Str} {p pos : Pos} {T : String} {e : Expr} {es : List Expr} {r : List V → Hp → VK → Prop} {f : MF} {m : ML} (hi : CallI G f r) (hc : CallR X (.type T) r) (hmg : X.mg = G.mg) (hm : G.mg x = none) (hv : bootBuiltins x = some (.type T)) (ha : SA G X W (e :: es) m) (hg : Gl X x := by rfl)
    (hn : x ≠ "__name__" := by decide) (hdb : (x == ("__debug__" : Str)) = false := by decide) (he : starEach (e :: es) X.env = (false, eval e X.env) :: starEach es X.env := by rfl) (hpl : (backTo pos (starEach es X.env)).any (·.1) = false := by rfl) : SE G X W (.Call (.Name x p) (e :: es) [] pos) (mCall f m) := by
  obtain ⟨t, pa, i⟩ := ha
  exact ⟨_, pe_callTy hc hg (by rw [hmg]; exact hm) hv pa hn hdb he hpl, imp_cb hi i⟩
def f1 (f : D → Store → Res D) : MF := fun ds S => match ds with | [d] => f d S | _ => .bad
theorem ci_1 {f : D → Store → Res D} {r : List V → Hp → VK → Prop} (h : ∀ (W : WX) (F : Hp) (μ : List Addr) (σ : L2.St) (S : Store) (H : Hp) (d : D) (v : V) (Q : VK), Rel G F μ S H → Rep G F μ d v → Post G W (Rep G) F μ σ Q (f d S) → r [v] H Q) : CallI G (f1 f) r := by
  intro W F μ σ S H ds us Q hr hs hp
  unfold f1 at hp
  split at hp
  · cases hs with
    | cons a b => cases b with | nil => exact h W F μ σ S H _ _ Q hr a hp
  · exact hp.elim
def absD (x : D) (S : Store) : Res D :=
  match x with
  | .int i => .ok (.int (if i < 0 then -i else i)) S
  | _ => .bad
theorem ci_abs : CallI G (f1 absD) (fun xs H Q => ∃ i, xs = [.int i] ∧ Q (.int (if i < 0 then -i else i)) H) := ci_1 fun W F μ σ S H d v Q hr rd hp => by
  unfold absD at hp
  split at hp
  · cases rd
    exact ⟨_, rfl, post_ok hr (.int _) hp⟩
  · exact hp.elim
def intD (x : D) (S : Store) : Res D :=
  match x with
  | .int i => .ok (.int i) S
  | .bl b => .ok (.int (if b then 1 else 0)) S
  | _ => .bad
theorem ci_int : CallI G (f1 intD) (fun xs H Q => (∃ i, xs = [.int i] ∧ Q (.int i) H) ∨ ∃ k, xs = [.bl k] ∧ Q (.int (if k then 1 else 0)) H) := ci_1 fun W F μ σ S H d v Q hr rd hp => by
  unfold intD at hp
  split at hp
  · cases rd
    exact .inl ⟨_, rfl, post_ok hr (.int _) hp⟩
  · cases rd
    exact .inr ⟨_, rfl, post_ok hr (.int _) hp⟩
  · exact hp.elim
theorem ci_len (hK : X.K = G.K) : CallI G (f1 lenD) (fun xs H Q => ∃ x n, xs = [x] ∧ LenV X.K x H n ∧ Q (.int n) H) := ci_1 fun W F μ σ S H d v Q hr rd hp => by
  unfold lenD at hp
  split at hp
  · cases rd
    obtain ⟨hl, hp⟩ := post_if hp
    exact ⟨_, _, rfl, ⟨hl, rfl⟩, post_ok hr (.int _) hp⟩
  · split at hp
    · rename_i l hl
      obtain ⟨a, xs, rfl, rs, hs⟩ := items_ok hr rd hl
      have hq := post_ok hr (.int _) hp
      rw [rs.length] at hq
      rcases hs with hs | hs
      · exact ⟨_, xs.length, rfl, .inr ⟨xs, by rw [hK]; exact hs, rfl⟩, hq⟩
      · exact ⟨_, xs.length, rfl, .inl ⟨xs, by rw [hK]; exact hs, rfl⟩, hq⟩
    · exact hp.elim
def tupD (x : D) (S : Store) : Res D :=
  match itemsD S x with
  | some l => .ok (.tup l) S
  | none => .bad
theorem ci_tup (hK : X.K = G.K) : CallI G (f1 tupD) (fun xs H Q => ∃ p ys, xs = [.ref p] ∧ ((SqL X.K H p ys ∧ ∀ l, H l = none → Q (.ref l) (upd H l (.tup ys))) ∨ (SqT X.K H p ys ∧ Q (.ref p) H))) := ci_1 fun W F μ σ S H d v Q hr rd hp => by
  unfold tupD at hp
  split at hp
  · rename_i l hl
    cases rd with
    | tup h1 h2 =>
      cases hl
      exact ⟨_, _, rfl, .inr ⟨by rw [hK]; exact same_sqT hr.sub h1, post_ok hr (.tup h1 h2) hp⟩⟩
    | lst h1 h2 =>
      cases hl
      refine ⟨_, _, rfl, .inl ⟨SqL.of (hr.sub _ _ h1), fun p hn => ?_⟩⟩
      obtain ⟨x, rr⟩ := hr.newF (.tup _) hn
      exact hp _ _ _ _ x rr (.tup (TupF.of upd_same) (h2.mono x))
    | kst h1 h2 =>
      cases hl
      refine ⟨_, _, rfl, .inl ⟨by rw [hK]; exact same_sqL hr.sub h1, fun p hn => ?_⟩⟩
      obtain ⟨x, rr⟩ := hr.newF (.tup _) hn
      exact hp _ _ _ _ x rr (.tup (TupF.of upd_same) (h2.mono x))
    | @loc m a hm =>
      simp only [itemsD] at hl
      split at hl
      · rename_i l' hs
        cases hl
        obtain ⟨xs, hf, ho, h2⟩ := hr.lstAt hm hs
        refine ⟨_, _, rfl, .inl ⟨SqL.of ho, fun p hn => ?_⟩⟩
        obtain ⟨x, rr⟩ := hr.newF (.tup _) hn
        exact hp _ _ _ _ x rr (.tup (TupF.of upd_same) (h2.mono x))
      · cases hl
    | _ => cases hl
  · exact hp.elim
/-- list(x), never changed behind; list(x), that may change -/
def listD (x : D) (S : Store) : Res D :=
  match itemsD S x with
  | some l => .ok (.lst l) S
  | none => .bad
def listLD (x : D) (S : Store) : Res D :=
  match itemsD S x with
  | some l => .ok (.loc S.length) (S ++ [.lst l])
  | none => .bad
theorem ci_list (hK : X.K = G.K) : CallI G (f1 listD) (fun xs H Q => ∃ p ys, xs = [.ref p] ∧ (SqL X.K H p ys ∨ SqT X.K H p ys) ∧ ∀ l, H l = none → Q (.ref l) (upd H l (.lst ys))) := ci_1 fun W F μ σ S H d v Q hr rd hp => by
  unfold listD at hp
  split at hp
  · rename_i l hl
    obtain ⟨a, xs, rfl, rs, hs⟩ := items_ok hr rd hl
    refine ⟨a, xs, rfl, by rw [hK]; exact hs.symm, fun p hn => ?_⟩
    obtain ⟨x, rr⟩ := hr.newF (.lst _) hn
    exact hp _ _ _ _ x rr (.lst upd_same (rs.mono x))
  · exact hp.elim
theorem ci_listL (hK : X.K = G.K) : CallI G (f1 listLD) (fun xs H Q => ∃ p ys, xs = [.ref p] ∧ (SqL X.K H p ys ∨ SqT X.K H p ys) ∧ ∀ l, H l = none → Q (.ref l) (upd H l (.lst ys))) := ci_1 fun W F μ σ S H d v Q hr rd hp => by
  unfold listLD at hp
  split at hp
  · rename_i l hl
    obtain ⟨a, xs, rfl, rs, hs⟩ := items_ok hr rd hl
    refine ⟨a, xs, rfl, by rw [hK]; exact hs.symm, fun p hn => ?_⟩
    have rr := hr.newL (e := .lst l) hn (.lst (hr.fnone hn) upd_same (rs.mono (ext_app F μ p)))
    exact hp _ _ _ _ (ext_app F μ p) rr (.loc (mu_new hr p))
  · exact hp.elim
def blsD : List D → Option (List Bool)
  | [] => some []
  | .bl b :: r => (blsD r).map (b :: ·)
  | _ => none
theorem bls_rep {F : Hp} {μ : List Addr} : ∀ {l : List D} {xs : List V} {bs : List Bool}, Reps G F μ l xs → blsD l = some bs → xs = bs.map V.bl
  | [], _, _, r, h => by cases r; cases h; rfl
  | .bl b :: l, _, bs, r, h => by
    simp only [blsD] at h
    cases e : blsD l with
    | none => rw [e] at h; cases h
    | some bs' =>
      rw [e] at h
      cases h
      cases r with
      | cons r1 r2 =>
        cases r1
        rw [bls_rep r2 e]
        rfl
def allD (x : D) (S : Store) : Res D := (resO ((lstD S x).bind blsD) S).bind fun bs S => .ok (.bl (bs.all id)) S
def anyD (x : D) (S : Store) : Res D := (resO ((lstD S x).bind blsD) S).bind fun bs S => .ok (.bl (bs.any id)) S
theorem ci_all : CallI G (f1 allD) (rAll X.K) := ci_1 fun W F μ σ S H d v Q hr rd hp => by
  obtain ⟨bs, e, hp⟩ := post_bindO hp
  cases e1 : lstD S d with
  | none => rw [e1] at e; cases e
  | some l =>
    rw [e1] at e
    obtain ⟨a, xs, rfl, rs, hs⟩ := lst_ok hr rd e1
    exact ⟨a, bs, rfl, by rw [← bls_rep rs e]; exact SqL.of hs, post_ok hr (.bl _) hp⟩
theorem ci_any : CallI G (f1 anyD) (rAny X.K) := ci_1 fun W F μ σ S H d v Q hr rd hp => by
  obtain ⟨bs, e, hp⟩ := post_bindO hp
  cases e1 : lstD S d with
  | none => rw [e1] at e; cases e
  | some l =>
    rw [e1] at e
    obtain ⟨a, xs, rfl, rs, hs⟩ := lst_ok hr rd e1
    exact ⟨a, bs, rfl, by rw [← bls_rep rs e]; exact SqL.of hs, post_ok hr (.bl _) hp⟩
end
end Z

set_option Elab.async false
set_option linter.all false
set_option maxRecDepth 100000
set_option maxHeartbeats 2000000
set_option autoImplicit false
namespace Z
open PySem PySem.Spec L2

/-! ## the store cut back -/
mutual
def closed (n : Nat) : D → Bool
  | .loc k => decide (k < n)
  | .tup l => closedL n l
  | .lst l => closedL n l
  | .kst l => closedL n l
  | .dct _ vs => closedL n vs
  | .ins _ _ vs => closedL n vs
  | .exn _ _ vs => closedL n vs
  | .lam _ _ _ vs _ => closedL n vs
  | _ => true
def closedL (n : Nat) : List D → Bool
  | [] => true
  | d :: ds => closed n d && closedL n ds
end
def closedE (n : Nat) : Ent → Bool
  | .lst l => closedL n l
  | .dct _ vs => closedL n vs
  | .ins _ _ vs => closedL n vs
  | .dead => true
def CutOk (S S' : Store) : Prop := (∃ g, S' = S ++ g) ∨ (S.length ≤ S'.length ∧ ∀ e ∈ S'.take S.length, closedE S.length e = true)
open Classical in
noncomputable def cut (S : Store) : Res D → Res D
  | .ok d S' => if closed S.length d = true ∧ CutOk S S' then .ok d (S'.take S.length) else .ok d S'
  | .ex c ks vs S' => if closedL S.length vs = true ∧ CutOk S S' then .ex c ks vs (S'.take S.length) else .ex c ks vs S'
  | .bad => .bad
noncomputable def mCut (m : ME) : ME := fun ρ S => cut S (m ρ S)
theorem cut_same (S : Store) (d : D) : cut S (.ok d S) = .ok d S := by
  simp only [cut]
  split
  · rw [List.take_length]
  · rfl
theorem cut_app {S g : Store} {d : D} (h : closed S.length d = true) : cut S (.ok d (S ++ g)) = .ok d S := by
  have hc : closed S.length d = true ∧ CutOk S (S ++ g) := ⟨h, .inl ⟨g, rfl⟩⟩
  simp only [cut, if_pos hc, List.take_left]
theorem cut_ex {S g : Store} {c : Nat} {ks : List Str} {vs : List D} (h : closedL S.length vs = true) : cut S (.ex c ks vs (S ++ g)) = .ex c ks vs S := by
  have hc : closedL S.length vs = true ∧ CutOk S (S ++ g) := ⟨h, .inl ⟨g, rfl⟩⟩
  simp only [cut, if_pos hc, List.take_left]
theorem cut_take {S S1 g : Store} {d : D} (h : closed S.length d = true) (hl : S1.length = S.length) (hc : ∀ e ∈ S1, closedE S.length e = true) : cut S (.ok d (S1 ++ g)) = .ok d S1 := by
  have e : (S1 ++ g).take S.length = S1 := by rw [← hl, List.take_left]
  have hc : closed S.length d = true ∧ CutOk S (S1 ++ g) := ⟨h, .inr ⟨by simp; omega, by rw [e]; exact hc⟩⟩
  simp only [cut, if_pos hc, e]
@[simp] theorem cut_bad (S : Store) : cut S .bad = .bad := rfl
section
variable {G : Gm} {X : Cx} {W : WX} {k : Nat}
theorem take_get {α : Type} {l : List α} {n i : Nat} {a : α} (h : (l.take n)[i]? = some a) : l[i]? = some a ∧ i < n := by
  rw [List.getElem?_take] at h
  split at h
  · exact ⟨h, by assumption⟩
  · cases h
mutual
theorem Rep.shut {F : Hp} {μ : List Addr} {n : Nat} : ∀ {d : D} {v : V}, Rep G F μ d v → closed n d = true → Rep G F (μ.take n) d v
  | _, _, .non, _ => .non
  | _, _, .bl b, _ => .bl b
  | _, _, .int i, _ => .int i
  | _, _, .str s, _ => .str s
  | _, _, .ty s, _ => .ty s
  | _, _, .cls c, _ => .cls c
  | _, _, .tup h r, hc => .tup h (Reps.shut r (by simpa [closed] using hc))
  | _, _, .lst h r, hc => .lst h (Reps.shut r (by simpa [closed] using hc))
  | _, _, .kst h r, hc => .kst h (Reps.shut r (by simpa [closed] using hc))
  | _, _, .dct h l r, hc => .dct h l (Reps.shut r (by simpa [closed] using hc))
  | _, _, .ins h l r, hc => .ins h l (Reps.shut r (by simpa [closed] using hc))
  | _, _, .exn h y l r, hc => .exn h y l (Reps.shut r (by simpa [closed] using hc))
  | _, _, .fn j, _ => .fn j
  | _, _, .lam h r, hc => .lam h (Reps.shut r (by simpa [closed] using hc))
  | _, _, .loc h, hc => .loc (by rw [List.getElem?_take, if_pos (by simpa [closed] using hc)]; exact h)
theorem Reps.shut {F : Hp} {μ : List Addr} {n : Nat} : ∀ {ds : List D} {vs : List V}, Reps G F μ ds vs → closedL n ds = true → Reps G F (μ.take n) ds vs
  | _, _, .nil, _ => .nil
  | _, _, .cons a b, hc => by
    simp only [closedL, Bool.and_eq_true] at hc
    exact .cons (Rep.shut a hc.1) (Reps.shut b hc.2)
end
mutual
theorem Rep.cl {F : Hp} {μ : List Addr} {n : Nat} (hn : μ.length ≤ n) : ∀ {d : D} {v : V}, Rep G F μ d v → closed n d = true
  | _, _, .non => rfl
  | _, _, .bl b => rfl
  | _, _, .int i => rfl
  | _, _, .str s => rfl
  | _, _, .ty s => rfl
  | _, _, .cls c => rfl
  | _, _, .tup h r => by simpa [closed] using Reps.cl hn r
  | _, _, .lst h r => by simpa [closed] using Reps.cl hn r
  | _, _, .kst h r => by simpa [closed] using Reps.cl hn r
  | _, _, .dct h l r => by simpa [closed] using Reps.cl hn r
  | _, _, .ins h l r => by simpa [closed] using Reps.cl hn r
  | _, _, .exn h y l r => by simpa [closed] using Reps.cl hn r
  | _, _, .fn j => rfl
  | _, _, .lam h r => by simpa [closed] using Reps.cl hn r
  | _, _, .loc h => by
    have := (List.getElem?_eq_some_iff.mp h).1
    simp only [closed, decide_eq_true_eq]
    omega
theorem Reps.cl {F : Hp} {μ : List Addr} {n : Nat} (hn : μ.length ≤ n) : ∀ {ds : List D} {vs : List V}, Reps G F μ ds vs → closedL n ds = true
  | _, _, .nil => rfl
  | _, _, .cons a b => by
    simp only [closedL, Bool.and_eq_true]
    exact ⟨Rep.cl hn a, Reps.cl hn b⟩
end
theorem EntOk.shut {F : Hp} {μ : List Addr} {H : Hp} {a : Addr} {n : Nat} {e : Ent} (h : EntOk G F μ H a e) (hc : closedE n e = true) : EntOk G F (μ.take n) H a e := by
  cases h with
  | dead => exact .dead
  | lst h1 h2 r => exact .lst h1 h2 (r.shut hc)
  | dct h1 h2 l r => exact .dct h1 h2 l (r.shut hc)
  | ins h1 h2 l r => exact .ins h1 h2 l (r.shut hc)
theorem EntOk.cl {F : Hp} {μ : List Addr} {H : Hp} {a : Addr} {n : Nat} {e : Ent} (hn : μ.length ≤ n) (h : EntOk G F μ H a e) : closedE n e = true := by
  cases h with
  | dead => rfl
  | lst h1 h2 r => exact r.cl hn
  | dct h1 h2 l r => exact r.cl hn
  | ins h1 h2 l r => exact r.cl hn
theorem Rel.shut {F : Hp} {μ : List Addr} {S : Store} {H : Hp} {n : Nat} (r : Rel G F μ S H) (hc : ∀ e ∈ S.take n, closedE n e = true) : Rel G F (μ.take n) (S.take n) H :=
  ⟨r.sub, by rw [List.length_take, List.length_take, r.len], fun i j a h1 h2 => r.inj i j a (take_get h1).1 (take_get h2).1,
    fun i a e h1 h2 => (r.ent i a e (take_get h1).1 (take_get h2).1).shut (hc e (List.mem_of_getElem? h2)), fun i a h1 => r.trk i a (take_get h1).1, r.tab, r.nt⟩
theorem Ext.shut {F F' : Hp} {μ μ' : List Addr} (x : Ext F μ F' μ') : Ext F μ F' (μ'.take μ.length) :=
  ⟨x.fz, fun i a h => by rw [List.getElem?_take, if_pos (List.getElem?_eq_some_iff.mp h).1]; exact x.mu i a h⟩
theorem cut_all {F F' : Hp} {μ μ' : List Addr} {S S' : Store} {H H' : Hp} (r : Rel G F μ S H) (x : Ext F μ F' μ') (r' : Rel G F' μ' S' H') (hc : CutOk S S') : ∀ e ∈ S'.take S.length, closedE S.length e = true := by
  rcases hc with ⟨g, rfl⟩ | ⟨_, h⟩
  · intro e he
    rw [List.take_left] at he
    obtain ⟨i, hi⟩ := List.getElem?_of_mem he
    have hlt : i < μ.length := by rw [r.len]; exact (List.getElem?_eq_some_iff.mp hi).1
    exact (r.ent i μ[i] e (List.getElem?_eq_getElem hlt) hi).cl (by rw [r.len]; exact Nat.le_refl _)
  · exact h
theorem post_cut {F : Hp} {μ : List Addr} {S : Store} {H : Hp} {σ : L2.St} {Q : VK} {r : Res D} (hr : Rel G F μ S H) (h : Post G W (Rep G) F μ σ Q (cut S r)) : Post G W (Rep G) F μ σ Q r := by
  unfold cut at h
  cases r with
  | ok d S' =>
    simp only at h
    split at h
    · rename_i hc
      intro F' μ' v H' x rr p
      have hl : S.length = μ.length := hr.len.symm
      have hall := cut_all hr x rr hc.2
      have h' := h F' (μ'.take μ.length) v H' x.shut (by rw [← hl]; exact rr.shut hall) (by rw [← hl]; exact p.shut hc.1)
      exact h'
    · exact h
  | ex c ks vs S' =>
    simp only at h
    split at h
    · rename_i hc
      intro F' μ' dx xs H' x rr e l p
      have hl : S.length = μ.length := hr.len.symm
      have hall := cut_all hr x rr hc.2
      exact h F' (μ'.take μ.length) dx xs H' x.shut (by rw [← hl]; exact rr.shut hall) e l (by rw [← hl]; exact p.shut hc.1)
    · exact h
  | bad => exact h
theorem imp_cut {t : TE} {m : ME} (h : ImpE G W (Rep G) t m) : ImpE G W (Rep G) t (mCut m) := fun ρ S σ H F μ Q he hr hp => h ρ S σ H F μ Q he hr (post_cut hr hp)
theorem se_cut {e : Expr} {m : ME} (h : SE G X W e m) : SE G X W e (mCut m) := by
  obtain ⟨t, p, i⟩ := h
  exact ⟨t, p, imp_cut i⟩
theorem imp_frz {t : TE} {m : ME} (i : ImpE G W (Rep G) t m) : ImpE G W (Rep G) t (mFrz m) := by
  intro ρ S σ H F μ Q he hr hp
  refine i ρ S σ H F μ _ he hr (Post.bind hp fun d S1 F1 μ1 v H1 x1 r1 p1 q1 => ?_)
  have q2 : PostS G W F1 μ1 { nx := fun _ _ => False, rt := Q } (srRes [] (frzD d S1) fun d' S' => .rt d' S') := by
    cases e : frzD d S1 with
    | ok a S' => rw [e] at q1; exact q1
    | ex c ks vs S' => cases d <;> simp [frzD] at e; split at e <;> cases e
    | bad => rw [e] at q1; exact q1
  obtain ⟨d', S', F', x, rr, pp, hh⟩ := frz_ok r1 p1 q2
  exact hh F' μ1 v H1 (Ext.refl _ _) rr pp
/-- a def whose store is cut back -/
noncomputable def cutM (mf : MF) : MF := fun ds S => cut S (mf ds S)
theorem GFn.cut {P : Program} {w : World} {base : Heap} {f : Addr} {fd : FuncData} {ps : List Str} {mf : MF} (h : GFn G P w base k f fd ps mf) : GFn G P w base k f fd ps (cutM mf) := by
  refine ⟨fun A outer s H args us vs Q E hr hg e0 hb r hs => h.run A outer s H args us vs Q E hr hg e0 hb r ?_⟩
  obtain ⟨hl, F, μ, S, ds, hrel, hrs, hp⟩ := hs
  exact ⟨hl, F, μ, S, ds, hrel, hrs, post_cut hrel hp⟩
theorem cutM_len {mf : MF} {n : Nat} (h : ∀ ds S, mf ds S ≠ .bad → ds.length = n) : ∀ ds S, cutM mf ds S ≠ .bad → ds.length = n := fun ds S hb => h ds S fun z => by
  unfold cutM at hb
  rw [z] at hb
  exact hb rfl

/-! ## what is walked -/
theorem PI.or {tg it : Expr} {t u : TI} (h : PI X tg it t) (h2 : PI X tg it u) : PI X tg it (fun σ H R => t σ H R ∨ u σ H R) := by
  refine ⟨fun pins s σ H R I hw => ?_⟩
  rcases hw with hw | hw
  · exact h.run pins s σ H R I hw
  · exact h2.run pins s σ H R I hw
/-- items that stay -/
def stillD : D → Option (List D)
  | .tup l => some l
  | .lst l => some l
  | .kst l => some l
  | _ => none
def mIter (m : ME) : ML := fun ρ S => (m ρ S).bind fun d S1 => resO (stillD d) S1
theorem yields_list {K : PySem.W.Frag} (hK : K = G.K) {F : Hp} {μ : List Addr} {a : Addr} {l : List D} {xs : List V} (hs : SqL K F a xs) (hr : Reps G F μ l xs) : Yields G F μ l (Itl K a) where
  go := fun i F1 μ1 S H x r hi => by
    obtain ⟨v, hv⟩ : ∃ v, xs[i]? = some v := ⟨_, List.getElem?_eq_getElem (by rw [← hr.length]; exact hi)⟩
    exact ⟨xs, v, same_sqL (x.fz.trans r.sub) hs, hv⟩
  stop := fun i F1 μ1 S H x r hi => ⟨xs, same_sqL (x.fz.trans r.sub) hs, by rw [← hr.length]; exact hi⟩
  yld := fun i F1 μ1 S H v H' d x r hd hy => by
    obtain ⟨rfl, h⟩ := hy
    have hv := h xs (same_sqL (x.fz.trans r.sub) hs)
    obtain ⟨w, h1, h2⟩ := hr.get hd
    rw [hv] at h1
    cases h1
    exact ⟨F1, μ1, Ext.refl _ _, r, h2.mono x⟩
theorem yields_tup {K : PySem.W.Frag} (hK : K = G.K) {F : Hp} {μ : List Addr} {a : Addr} {l : List D} {xs : List V} (hs : TupF K F a xs) (hr : Reps G F μ l xs) : Yields G F μ l (Itt K a) where
  go := fun i F1 μ1 S H x r hi => by
    obtain ⟨v, hv⟩ : ∃ v, xs[i]? = some v := ⟨_, List.getElem?_eq_getElem (by rw [← hr.length]; exact hi)⟩
    exact ⟨xs, v, same_sqT (x.fz.trans r.sub) hs, hv⟩
  stop := fun i F1 μ1 S H x r hi => ⟨xs, same_sqT (x.fz.trans r.sub) hs, by rw [← hr.length]; exact hi⟩
  yld := fun i F1 μ1 S H v H' d x r hd hy => by
    obtain ⟨rfl, h⟩ := hy
    have hv := h xs (same_sqT (x.fz.trans r.sub) hs)
    obtain ⟨w, h1, h2⟩ := hr.get hd
    rw [hv] at h1
    cases h1
    exact ⟨F1, μ1, Ext.refl _ _, r, h2.mono x⟩
theorem si_seq {tg e : Expr} {m : ME} (hK : X.K = G.K) (h : SE G X W e m) : SI G X W tg e (mIter m) := by
  obtain ⟨t, p, i⟩ := h
  refine ⟨_, PI.or (pi_list p) (pi_tup p), fun ρ S σ H F μ R he hr hp => ?_⟩
  unfold mIter at hp
  cases hm : m ρ S with
  | bad => rw [hm] at hp; exact hp.elim
  | ex c ks vs S1 =>
    rw [hm] at hp
    exact .inl (i ρ S σ H F μ _ he hr (by rw [hm]; exact hp))
  | ok d S1 =>
    rw [hm] at hp
    obtain ⟨l, e, hp⟩ := post_resO1 (show Post G W (Yields G) F μ σ (fun J H' => R J H') (resO (stillD d) S1) from hp)
    cases d with
    | tup l' =>
      cases e
      refine .inr (i ρ S σ H F μ _ he hr ?_)
      rw [hm]
      intro F1 μ1 v H1 x1 r1 p1
      cases p1 with
      | tup hs hrs =>
        refine ⟨_, rfl, ⟨_, by rw [hK]; exact same_sqT r1.sub hs⟩, ?_⟩
        exact hp F1 μ1 _ H1 x1 r1 (yields_tup hK (by rw [hK]; exact hs) hrs)
    | lst l' =>
      cases e
      refine .inl (i ρ S σ H F μ _ he hr ?_)
      rw [hm]
      intro F1 μ1 v H1 x1 r1 p1
      cases p1 with
      | lst hs hrs =>
        refine ⟨_, rfl, ⟨_, SqL.of (r1.sub _ _ hs)⟩, ?_⟩
        exact hp F1 μ1 _ H1 x1 r1 (yields_list hK (SqL.of hs) hrs)
    | kst l' =>
      cases e
      refine .inl (i ρ S σ H F μ _ he hr ?_)
      rw [hm]
      intro F1 μ1 v H1 x1 r1 p1
      cases p1 with
      | kst hs hrs =>
        refine ⟨_, rfl, ⟨_, by rw [hK]; exact same_sqL r1.sub hs⟩, ?_⟩
        exact hp F1 μ1 _ H1 x1 r1 (yields_list hK (by rw [hK]; exact hs) hrs)
    | _ => cases e
def rangeL (lo : Int) (n : Nat) : List D := (List.range n).map fun (i : Nat) => .int (lo + (i : Int))
theorem yields_range {F : Hp} {μ : List Addr} {lo : Int} {n : Nat} : Yields G F μ (rangeL lo n) (Itr lo n) where
  go := fun i F1 μ1 S H x r hi => by
    simp [rangeL] at hi
    exact hi
  stop := fun i F1 μ1 S H x r hi => by
    simp [rangeL] at hi
    exact hi
  yld := fun i F1 μ1 S H v H' d x r hd hy => by
    obtain ⟨rfl, rfl⟩ := hy
    unfold rangeL at hd
    rw [List.getElem?_map] at hd
    cases e : (List.range n)[i]? with
    | none => rw [e] at hd; cases hd
    | some j =>
      rw [e] at hd
      have := List.getElem?_eq_some_iff.mp e
      obtain ⟨hl, hj⟩ := this
      simp at hj
      subst hj
      cases hd
      exact ⟨F1, μ1, Ext.refl _ _, r, .int _⟩
def rgOk (j : Int) : Bool := decide (-2 ^ 62 ≤ j) && decide (j < 2 ^ 62)
theorem rgOk_b {j : Int} (h : rgOk j = true) : -2 ^ 62 ≤ j ∧ j < 2 ^ 62 := by
  unfold rgOk at h
  rw [Bool.and_eq_true] at h
  exact ⟨of_decide_eq_true h.1, of_decide_eq_true h.2⟩
theorem rgOk_of {j : Int} (h : -1000000000 ≤ j ∧ j ≤ 1000000000) : rgOk j = true := by
  unfold rgOk
  rw [Bool.and_eq_true]
  exact ⟨decide_eq_true (by omega), decide_eq_true (by omega)⟩
def mRange1 (l : ML) : ML := fun ρ S => (l ρ S).bind fun ds S1 =>
  match ds with
  | [.int j] => if rgOk j = true then .ok (rangeL 0 j.toNat) S1 else .bad
  | _ => .bad
theorem si_range1 {tg a : Expr} {p pos : Pos} {m : ML} (hmg : X.mg = G.mg) (hm : G.mg "range" = none) (ha : SA G X W [a] m) (hg : Gl X "range" := by rfl) (hs : starEach [a] X.env = [(false, eval a X.env)] := by rfl) : SI G X W tg (.Call (.Name "range" p) [a] [] pos) (mRange1 m) := by
  obtain ⟨t, pa, i⟩ := ha
  refine ⟨_, pi_range1 hg (by rw [hmg]; exact hm) pa hs, fun ρ S σ H F μ R he hr hp => ?_⟩
  refine i ρ S σ H F μ _ he hr (Post.bind hp fun ds S1 F1 μ1 vs H1 x1 r1 p1 q1 => ?_)
  split at q1
  · obtain ⟨hb, q⟩ := post_if q1
    cases p1 with
    | cons a1 b1 =>
      cases b1
      cases a1
      exact ⟨_, rfl, (rgOk_b hb).1, (rgOk_b hb).2, q F1 μ1 _ H1 (Ext.refl _ _) r1 yields_range⟩
  · exact q1.elim
def mRange2 (l : ML) : ML := fun ρ S => (l ρ S).bind fun ds S1 =>
  match ds with
  | [.int i, .int j] => if rgOk i = true ∧ rgOk j = true then .ok (rangeL i (j - i).toNat) S1 else .bad
  | _ => .bad

theorem si_range2 {tg a b : Expr} {p pos : Pos} {m : ML} (hmg : X.mg = G.mg) (hm : G.mg "range" = none) (ha : SA G X W [a, b] m) (hg : Gl X "range" := by rfl) (hs : starEach [a, b] X.env = [(false, eval a X.env), (false, eval b X.env)] := by rfl) (hs2 : starEach [b] X.env = [(false, eval b X.env)] := by rfl) : SI G X W tg (.Call (.Name "range" p) [a, b] [] pos) (mRange2 m) := by
  obtain ⟨t, pa, i⟩ := ha
  refine ⟨_, pi_range2 hg (by rw [hmg]; exact hm) pa hs hs2, fun ρ S σ H F μ R he hr hp => ?_⟩
  refine i ρ S σ H F μ _ he hr (Post.bind hp fun ds S1 F1 μ1 vs H1 x1 r1 p1 q1 => ?_)
  split at q1
  · obtain ⟨hb, q⟩ := post_if q1
    cases p1 with
    | cons a1 b1 =>
      cases b1 with
      | cons a2 b2 =>
        cases b2
        cases a1
        cases a2
        exact ⟨_, _, rfl, ⟨(rgOk_b hb.1).1, (rgOk_b hb.1).2, (rgOk_b hb.2).1, (rgOk_b hb.2).2⟩, q F1 μ1 _ H1 (Ext.refl _ _) r1 yields_range⟩
  · exact q1.elim

/-! ## list comprehensions -/
def tOf (G : Gm) (W : WX) (m : ME) : TE := fun σ H Q => ∃ F μ ρ S, EnvR G F μ ρ σ ∧ Rel G F μ S H ∧ Post G W (Rep G) F μ σ Q (m ρ S)
theorem SE.pe {e : Expr} {m : ME} (h : SE G X W e m) : PE X e (tOf G W m) := by
  obtain ⟨t, p, i⟩ := h
  exact ⟨fun pins s σ H Q I ⟨F, μ, ρ, S, he, hr, hp⟩ => p.run pins s σ H Q I (i ρ S σ H F μ Q he hr hp)⟩
def tOfT (G : Gm) (W : WX) (m : MB) : TT := fun σ H Q => ∃ F μ ρ S, EnvR G F μ ρ σ ∧ Rel G F μ S H ∧ Post G W rB F μ σ Q (m ρ S)
theorem ST.pt {e : Expr} {m : MB} (h : ST G X W e m) : PT X e (tOfT G W m) := by
  obtain ⟨t, p, i⟩ := h
  exact ⟨fun pins s σ H Q I ⟨F, μ, ρ, S, he, hr, hp⟩ => p.run pins s σ H Q I (i ρ S σ H F μ Q he hr hp)⟩
/-- a target that stores at the places vs alone -/
def tOfG (G : Gm) (vs : List Nat) (m : MG) : TG := fun v σ H Q => ∃ F μ ρ S d ρ' S', EnvR G F μ ρ σ ∧ Rel G F μ S H ∧ Rep G F μ d v ∧ m d ρ S = some (ρ', S') ∧
  ∀ F' μ' σ' H', Ext F μ F' μ' → Rel G F' μ' S' H' → EnvR G F' μ' ρ' σ' → wipe σ' vs = wipe σ vs → Q σ' H'
def tOfGs (G : Gm) (vs : List Nat) (m : MGs) : TGs := fun us σ H Q => ∃ F μ ρ S ds ρ' S', EnvR G F μ ρ σ ∧ Rel G F μ S H ∧ Reps G F μ ds us ∧ m ds ρ S = some (ρ', S') ∧
  ∀ F' μ' σ' H', Ext F μ F' μ' → Rel G F' μ' S' H' → EnvR G F' μ' ρ' σ' → wipe σ' vs = wipe σ vs → Q σ' H'
structure SO (G : Gm) (X : Cx) (vs : List Nat) (tg : Expr) (m : MG) : Prop where
  pg : PG X tg (tOfG G vs m)
structure SOs (G : Gm) (X : Cx) (vs : List Nat) (tg : List Expr) (m : MGs) : Prop where
  pg : PGs X tg (tOfGs G vs m)
theorem wipe_set {σ : L2.St} {i : Nat} {x : Option V} : ∀ {vs : List Nat}, i ∈ vs → wipe (σ.set i x) vs = wipe σ vs
  | [], h => by simp at h
  | v :: vs, h => by
    unfold wipe
    by_cases hm : i ∈ vs
    · rw [wipe_set hm]
    · have e : i = v := by
        rcases List.mem_cons.mp h with e | e
        · exact e
        · exact absurd e hm
      subst e
      apply List.ext_getElem?
      intro j
      by_cases hj : i = j
      · subst hj
        by_cases hl : i < σ.length
        · rw [List.getElem?_set_self (by rw [wipe_length, List.length_set]; exact hl), List.getElem?_set_self (by rw [wipe_length]; exact hl)]
        · rw [List.getElem?_eq_none (by rw [List.length_set, wipe_length, List.length_set]; omega), List.getElem?_eq_none (by rw [List.length_set, wipe_length]; omega)]
      · rw [List.getElem?_set_ne hj, List.getElem?_set_ne hj]
        clear h hm
        induction vs with
        | nil => unfold wipe; rw [List.getElem?_set_ne hj]
        | cons w ws ih =>
          unfold wipe
          by_cases hw : w = j
          · subst hw
            by_cases hl : w < σ.length
            · rw [List.getElem?_set_self (by rw [wipe_length, List.length_set]; exact hl), List.getElem?_set_self (by rw [wipe_length]; exact hl)]
            · rw [List.getElem?_eq_none (by rw [List.length_set, wipe_length, List.length_set]; omega), List.getElem?_eq_none (by rw [List.length_set, wipe_length]; omega)]
          · rw [List.getElem?_set_ne hw, List.getElem?_set_ne hw]
            exact ih
theorem wipe_sub {σ : L2.St} {vs : List Nat} : ∀ {ws : List Nat}, (∀ i ∈ ws, i ∈ vs) → wipe (wipe σ ws) vs = wipe σ vs
  | [], _ => rfl
  | w :: ws, h => by
    show wipe ((wipe σ ws).set w none) vs = wipe σ vs
    rw [wipe_set (h w List.mem_cons_self)]
    exact wipe_sub fun i hi => h i (List.mem_cons_of_mem _ hi)
theorem so_name {vs : List Nat} {i : Nat} {x : Str} {pos : Pos} (hN : X.N.Nodup) (hv : i ∈ vs := by decide) (hi : X.N[i]? = some x := by rfl) (hx : Loc X.env.scope x := by first | exact Or.inl rfl | exact Or.inr rfl) (hf : X.fn x = true ∨ X.env.scope.names.lookup x = some .local := by first | exact .inl rfl | exact .inr rfl) : SO G X vs (.Name x pos) (gNm i) :=
  ⟨⟨fun pins s σ H v u Q I r hw => by
    obtain ⟨F, μ, ρ, S, d, ρ', S', he, hr, rd, e, hq⟩ := hw
    cases e
    exact (pg_name hN hi hx hf).run pins s σ H v u Q I r (hq F μ _ H (Ext.refl _ _) hr (he.set i rd) (wipe_set hv))⟩⟩
theorem sos_nil {vs : List Nat} : SOs G X vs [] gsNil :=
  ⟨⟨fun pins s σ H us ws Q I r hw => by
    obtain ⟨F, μ, ρ, S, ds, ρ', S', he, hr, rd, e, hq⟩ := hw
    cases rd with
    | nil =>
      cases e
      exact pgs_nil.run pins s σ H [] ws Q I r ⟨rfl, hq F μ σ H (Ext.refl _ _) hr he rfl⟩
    | cons a b => cases e⟩⟩
theorem sos_cons {vs : List Nat} {e : Expr} {es : List Expr} {g : MG} {gs : MGs} (h1 : SO G X vs e g) (h2 : SOs G X vs es gs) (hs : (assignEach (e :: es) X.env).map (·.2) = assign e X.env :: (assignEach es X.env).map (·.2) := by rfl) : SOs G X vs (e :: es) (gsCons g gs) :=
  ⟨⟨fun pins s σ H us ws Q I r hw => by
    obtain ⟨F, μ, ρ, S, ds, ρ', S', he, hr, rd, e', hq⟩ := hw
    refine (pgs_cons h1.pg h2.pg hs).run pins s σ H us ws Q I r ?_
    cases rd with
    | nil => cases e'
    | @cons d v ds vs' r1 r2 =>
      simp only [gsCons] at e'
      cases hg : g d ρ S with
      | none => rw [hg] at e'; cases e'
      | some w =>
        rw [hg] at e'
        refine ⟨v, vs', rfl, F, μ, ρ, S, d, w.1, w.2, he, hr, r1, hg, fun F1 μ1 σ1 H1 x1 rr e1 w1 => ?_⟩
        exact ⟨F1, μ1, w.1, w.2, ds, ρ', S', e1, rr, r2.mono x1, e', fun F2 μ2 σ2 H2 x2 r2 e2 w2 => hq F2 μ2 σ2 H2 (x1.trans x2) r2 e2 (w2.trans w1)⟩⟩⟩
theorem so_many {vs : List Nat} {es : List Expr} {cx : Nat} {pos : Pos} {gs : MGs} {n : Nat} (hK : X.K = G.K) (hc : X.calm = true) (h : SOs G X vs es gs) (hn : (assignEach es X.env).length = n := by rfl) (hst : (assignEach es X.env).findIdx? (·.1) = none := by rfl) : SO G X vs (.Tuple es cx pos) (gMany n gs) :=
  ⟨⟨fun pins s σ H v u Q I r hw => by
    obtain ⟨F, μ, ρ, S, d, ρ', S', he, hr, rd, e, hq⟩ := hw
    refine (PG.or (pg_tup hc h.pg hn hst) (pg_lst hc h.pg hn hst)).run pins s σ H v u Q I r ?_
    unfold gMany at e
    split at e
    · rename_i l hl
      by_cases hlen : l.length = n
      · rw [if_pos hlen] at e
        obtain ⟨a, xs, rfl, rs, hs⟩ := items_ok hr rd hl
        have hx : xs.length = n := by rw [← rs.length]; exact hlen
        rcases hs with hs | hs
        · exact .inl ⟨a, xs, rfl, by rw [hK]; exact hs, hx, F, μ, ρ, S, l, ρ', S', he, hr, rs, e, hq⟩
        · exact .inr ⟨a, xs, rfl, by rw [hK]; exact hs, hx, F, μ, ρ, S, l, ρ', S', he, hr, rs, e, hq⟩
      · rw [if_neg hlen] at e
        cases e
    · cases e⟩⟩
def wipeR (ρ : Env') : List Nat → Env'
  | [] => ρ
  | v :: vs => (wipeR ρ vs).set v none
theorem wipeR_ok {F : Hp} {μ : List Addr} {ρ : Env'} {σ : L2.St} (h : EnvR G F μ ρ σ) : ∀ vs : List Nat, EnvR G F μ (wipeR ρ vs) (wipe σ vs)
  | [] => h
  | v :: vs => by
    have ih := wipeR_ok h vs
    refine ⟨by unfold wipeR wipe; rw [List.length_set, List.length_set]; exact ih.len, fun i d e => ?_⟩
    unfold wipeR at e
    unfold wipe
    by_cases hi : v = i
    · subst hi
      by_cases hl : v < (wipeR ρ vs).length
      · rw [List.getElem?_set_self hl] at e; cases e
      · rw [List.getElem?_eq_none (by rw [List.length_set]; omega)] at e; cases e
    · rw [List.getElem?_set_ne hi] at e
      rw [List.getElem?_set_ne hi]
      exact ih.get i d e
def noEx {α : Type} : Res α → Res α
  | .ok a S => .ok a S
  | _ => .bad
@[simp] theorem noEx_ok {α : Type} (a : α) (S : Store) : noEx (.ok a S) = .ok a S := rfl
def pushAt (n : Nat) (y : D) (S : Store) : Option Store :=
  match S[n]? with
  | some (.lst acc) => if acc.length < sizeLine then some (S.set n (.lst (acc ++ [y]))) else none
  | _ => none
def compL (n : Nat) (g : MG) (t : MB) (e : ME) (ρ : Env') : List D → Store → Res Unit
  | [], S => .ok () S
  | d :: ds, S =>
    match g d ρ S with
    | some p => (noEx (t p.1 p.2)).bind fun b S2 =>
      if b = true then (noEx (e p.1 S2)).bind fun y S3 => (resO (pushAt n y S3) S3).bind fun S4 _ => compL n g t e ρ ds S4
      else compL n g t e ρ ds S2
    | none => .bad
def mComp (l : ML) (vs : List Nat) (g : MG) (t : MB) (e : ME) : ME := fun ρ S => (l ρ S).bind fun ds S1 => (compL S1.length g t e (wipeR ρ vs) ds (S1 ++ [.lst []])).bind fun _ S2 => .ok (.loc S1.length) S2
def mYes : MB := fun _ S => .ok true S
abbrev WN : WX := fun _ _ _ _ => False
theorem noEx_ne {α : Type} {r : Res α} {β : Type} {f : α → Store → Res β} {R : β → Prop} (h : ∃ u S, (noEx r).bind f = .ok u S) : ∃ a S, r = .ok a S := by
  cases r with
  | ok a S => exact ⟨a, S, rfl⟩
  | _ => obtain ⟨u, S, h⟩ := h; cases h
theorem imp_lc {ti : TI} {l : ML} {vs : List Nat} {g : MG} {t : MB} {e : ME} (ii : ImpI G W ti l) : ImpE G W (Rep G) (tLc ti (tOfG G vs g) (tOfT G WN t) (tOf G WN e) vs) (mComp l vs g t e) := by
  intro ρ S σ H F μ Q he hr hp
  refine ii ρ S σ H F μ _ he hr (Post.bind hp fun ds S1 F1 μ1 J H1 x1 r1 y1 q1 => ?_)
  intro p hpn
  cases hres : compL S1.length g t e (wipeR ρ vs) ds (S1 ++ [.lst []]) with
  | bad => rw [hres] at q1; exact q1.elim
  | ex c ks vs' S' =>
    exfalso
    have noex : ∀ (ds : List D) (S : Store), compL S1.length g t e (wipeR ρ vs) ds S ≠ .ex c ks vs' S' := by
      intro ds
      induction ds with
      | nil => intro S z; cases z
      | cons d ds ih =>
        intro S z
        simp only [compL] at z
        cases hg : g d (wipeR ρ vs) S with
        | none => rw [hg] at z; cases z
        | some w =>
          rw [hg] at z
          simp only at z
          cases ht : t w.1 w.2 with
          | ok b S2 =>
            rw [ht] at z
            simp only [noEx_ok, bind_ok] at z
            by_cases hb : b = true
            · rw [if_pos hb] at z
              cases hee : e w.1 S2 with
              | ok y S3 =>
                rw [hee] at z
                simp only [noEx_ok, bind_ok] at z
                cases hpp : pushAt S1.length y S3 with
                | none => rw [hpp] at z; cases z
                | some S4 => rw [hpp] at z; exact ih S4 z
              | ex _ _ _ _ => rw [hee] at z; cases z
              | bad => rw [hee] at z; cases z
            · rw [if_neg hb] at z
              exact ih S2 z
          | ex _ _ _ _ => rw [ht] at z; cases z
          | bad => rw [ht] at z; cases z
    exact noex ds _ hres
  | ok u S9 =>
    rw [hres] at q1
    have q9 : Post G W (Rep G) F1 μ1 σ Q (.ok (.loc S1.length) S9) := q1
    have r2 : Rel G F1 (μ1 ++ [p]) (S1 ++ [.lst []]) (upd H1 p (.lst [])) := r1.newL hpn (.lst (r1.fnone hpn) upd_same .nil)
    have hpl : (μ1 ++ [p])[S1.length]? = some p := mu_new r1 p
    refine ⟨fun i m H => m = ds.length - i ∧ i ≤ ds.length ∧ ∃ F' μ' S, Ext F1 (μ1 ++ [p]) F' μ' ∧ Rel G F' μ' S H ∧ compL S1.length g t e (wipeR ρ vs) (ds.drop i) S = .ok u S9, ⟨ds.length, by simp, Nat.zero_le _, F1, μ1 ++ [p], _, Ext.refl _ _, r2, hres⟩, ?_⟩
    rintro i m H2 ⟨rfl, hi, F2, μ2, S2, x2, r2, c2⟩
    have xa := ext_app F1 μ1 p
    by_cases hlt : i < ds.length
    · refine .inr ⟨y1.go i F2 μ2 S2 H2 (xa.trans x2) r2 hlt, fun H' => ∃ F' μ' S, Ext F1 (μ1 ++ [p]) F' μ' ∧ Rel G F' μ' S H' ∧ compL S1.length g t e (wipeR ρ vs) (ds.drop (i + 1)) S = .ok u S9, fun H' h => ⟨ds.length - (i + 1), by omega, rfl, hlt, h⟩, fun x H' hy => ?_⟩
      have hd : ds[i]? = some ds[i] := List.getElem?_eq_getElem hlt
      obtain ⟨F3, μ3, x3, r3, p3⟩ := y1.yld i F2 μ2 S2 H2 x H' _ (xa.trans x2) r2 hd hy
      rw [List.drop_eq_getElem_cons hlt] at c2
      simp only [compL] at c2
      cases hg : g ds[i] (wipeR ρ vs) S2 with
      | none => rw [hg] at c2; cases c2
      | some w =>
        rw [hg] at c2
        simp only at c2
        have e3 : EnvR G F3 μ3 (wipeR ρ vs) (wipe σ vs) := wipeR_ok ((he.mono x1).mono ((xa.trans x2).trans x3)) vs
        refine ⟨F3, μ3, wipeR ρ vs, S2, ds[i], w.1, w.2, e3, r3, p3, hg, fun F4 μ4 σ4 H4 x4 r4 e4 w4 => ⟨?_, F4, μ4, w.1, w.2, e4, r4, ?_⟩⟩
        · rw [w4]
          exact wipe_sub fun i hi => hi
        · cases ht : t w.1 w.2 with
          | bad => rw [ht] at c2; cases c2
          | ex _ _ _ _ => rw [ht] at c2; cases c2
          | ok b S5 =>
            rw [ht] at c2
            simp only [noEx_ok, bind_ok] at c2
            intro F5 μ5 b' H5 x5 r5 hb'
            cases (show b = b' from hb')
            cases b with
            | false =>
              refine iteF ?_
              rw [if_neg Bool.false_ne_true] at c2
              exact ⟨F5, μ5, S5, ((x2.trans x3).trans x4).trans x5, r5, c2⟩
            | true =>
              refine iteT ?_
              rw [if_pos rfl] at c2
              refine ⟨F5, μ5, w.1, S5, e4.mono x5, r5, ?_⟩
              cases hee : e w.1 S5 with
              | bad => rw [hee] at c2; cases c2
              | ex _ _ _ _ => rw [hee] at c2; cases c2
              | ok y S6 =>
                rw [hee] at c2
                simp only [noEx_ok, bind_ok] at c2
                intro F6 μ6 v6 H6 x6 r6 p6
                have xx := (((x2.trans x3).trans x4).trans x5).trans x6
                have hp6 := xx.mu _ _ hpl
                unfold pushAt at c2
                split at c2
                · rename_i acc hacc
                  obtain ⟨as, hf, hh, rs⟩ := r6.lstAt hp6 hacc
                  by_cases hsz : acc.length < sizeLine
                  · rw [if_pos hsz] at c2
                    refine ⟨as, hh, by rw [← rs.length]; exact hsz, F6, μ6, _, xx, r6.write (o := .lst (as ++ [v6])) (e := .lst (acc ++ [y])) hh trivial hp6 hf (.lst hf upd_same (rs.app (.cons p6 .nil))), c2⟩
                  · rw [if_neg hsz] at c2
                    cases c2
                · cases c2
    · refine .inl ⟨y1.stop i F2 μ2 S2 H2 (xa.trans x2) r2 (by omega), ?_⟩
      rw [List.drop_eq_nil_of_le (by omega)] at c2
      cases c2
      exact q9 F2 μ2 _ H2 (xa.trans x2) r2 (.loc (x2.mu _ _ hpl))
structure SQ (G : Gm) (X : Cx) (W : WX) (ifs : List Expr) (m : MB) : Prop where
  ex : PTs X ifs (tOfT G W m)
theorem sq_nil : SQ G X W [] mYes := ⟨⟨fun pins s σ H Q I hw => pts_nil.run pins s σ H Q I (by
  obtain ⟨F, μ, ρ, S, he, hr, hp⟩ := hw
  exact hp F μ true H (Ext.refl _ _) hr rfl)⟩⟩
theorem sq_one {c : Expr} {m : MB} (h : ST G X W c m) : SQ G X W [c] m := ⟨pts_one h.pt⟩
theorem Ok.blk (ok : Ok G X k W) (s : Shared) (H : Hp) (scope : Scope) (cenv : Env) (fp : List Addr) : Ok G (X.blk s H scope cenv fp) k WN :=
  ⟨ok.K, ok.mg, ok.calm, ok.nd, ok.room, ok.gd, takes0, PassesOwn.never⟩
theorem se_lc {elt tg iter : Expr} {ifs : List Expr} {scope : Scope} {own : List (Str × Nat)} {pos : Pos} {l : ML} {g : MG} {t : MB} {e : ME} (ok : Ok G X k W) (hi : SI G X W tg iter l)
    (hg : ∀ (s : Shared) (H : Hp) (C : Addr) (cl : List (Str × Addr)) (fp : List Addr), SO G (X.blk s H scope (compEnvC scope cl C X.env) fp) (own.map (·.2)) tg g)
    (ht : ∀ (s : Shared) (H : Hp) (C : Addr) (cl : List (Str × Addr)) (fp : List Addr), Ok G (X.blk s H scope (compEnvC scope cl C X.env) fp) k WN → SQ G (X.blk s H scope (compEnvC scope cl C X.env) fp) WN ifs t)
    (he : ∀ (s : Shared) (H : Hp) (C : Addr) (cl : List (Str × Addr)) (fp : List Addr), Ok G (X.blk s H scope (compEnvC scope cl C X.env) fp) k WN → SE G (X.blk s H scope (compEnvC scope cl C X.env) fp) WN elt e)
    (bk : BlkOk X.N X.env.scope scope own := by exact blkOk_by (by decide +kernel)) (hs : ∀ x, foldedSetIterable iter X.env x = pure x := by intro _; rfl) :
    SE G X W (.ListComp elt [⟨tg, iter, ifs, 0⟩] scope pos) (mComp l (own.map (·.2)) g t e) := by
  obtain ⟨ti, pi, ii⟩ := hi
  exact ⟨_, pe_lc ok.calm ok.nd pi bk (fun s H C cl fp => (hg s H C cl fp).pg) (fun s H C cl fp => (ht s H C cl fp (ok.blk _ _ _ _ _)).ex) (fun s H C cl fp => (he s H C cl fp (ok.blk _ _ _ _ _)).pe) hs, imp_lc ii⟩
/-- the value is told in one way or another -/
def mId (m : ME) : ME := m
theorem ss_setLc {i : Nat} {y : Str} {py : Pos} {elt tg iter : Expr} {ifs : List Expr} {scope : Scope} {own : List (Str × Nat)} {pos spos : Pos} {l : ML} {g : MG} {t : MB} {e : ME} (wr : ME → ME) (hwr : ∀ (t : TE) (m : ME), ImpE G W (Rep G) t m → ImpE G W (Rep G) t (wr m)) (ok : Ok G X k W) (hi : SI G X W tg iter l)
    (hg : ∀ (s : Shared) (H : Hp) (C : Addr) (cl : List (Str × Addr)) (fp : List Addr), SO G (X.blk s H scope (compEnvC scope cl C X.env) fp) (own.map (·.2)) tg g)
    (ht : ∀ (s : Shared) (H : Hp) (C : Addr) (cl : List (Str × Addr)) (fp : List Addr), Ok G (X.blk s H scope (compEnvC scope cl C X.env) fp) k WN → SQ G (X.blk s H scope (compEnvC scope cl C X.env) fp) WN ifs t)
    (he : ∀ (s : Shared) (H : Hp) (C : Addr) (cl : List (Str × Addr)) (fp : List Addr), Ok G (X.blk s H scope (compEnvC scope cl C X.env) fp) k WN → SE G (X.blk s H scope (compEnvC scope cl C X.env) fp) WN elt e)
    (hy : X.N[i]? = some y := by rfl) (hyl : X.env.scope.names.lookup y = some .local := by rfl)
    (hsw : swapsWith (.ListComp elt [⟨tg, iter, ifs, 0⟩] scope pos) (some (.Name y py)) spos.line X.env = pure true := by exact sw_true rfl rfl rfl (by decide +kernel))
    (bk : BlkOk X.N X.env.scope scope own := by exact blkOk_by (by decide +kernel)) (hs : ∀ x, foldedSetIterable iter X.env x = pure x := by intro _; rfl) :
    SS G X W (.Assign [.Name y py] (.ListComp elt [⟨tg, iter, ifs, 0⟩] scope pos) spos) (sAsg (wr (mComp l (own.map (·.2)) g t e)) (gNm i)) := by
  obtain ⟨ti, pi, ii⟩ := hi
  refine ⟨_, ps_setLc ok.calm ok.nd hy hyl hsw pi bk (fun s H C cl fp => (hg s H C cl fp).pg) (fun s H C cl fp => (ht s H C cl fp (ok.blk _ _ _ _ _)).ex) (fun s H C cl fp => (he s H C cl fp (ok.blk _ _ _ _ _)).pe) hs, fun ρ S σ H F μ Ds he hr hp => ?_⟩
  refine hwr _ _ (imp_lc ii) ρ S σ H F μ _ he hr (PostS.res hp he fun d S1 F1 μ1 v H1 x1 r1 p1 q1 => ?_)
  exact q1 F1 μ1 _ H1 (Ext.refl _ _) r1 ((he.mono x1).set i p1)
theorem wr_frz : ∀ (t : TE) (m : ME), ImpE G W (Rep G) t m → ImpE G W (Rep G) t (mCut (mFrz m)) := fun _ _ h => imp_cut (imp_frz h)
theorem wr_id : ∀ (t : TE) (m : ME), ImpE G W (Rep G) t m → ImpE G W (Rep G) t (mId m) := fun _ _ h => h
end
end Z

set_option Elab.async false
set_option linter.all false
set_option maxRecDepth 100000
set_option maxHeartbeats 2000000
set_option autoImplicit false
namespace Z
open PySem PySem.Spec L2

/-! ## isinstance -/
inductive Tg where
  | ty (n : String)
  | cls (c : Nat)
  | exc (c : Nat)
  deriving DecidableEq
def tgV (G : Gm) : Tg → Value
  | .ty n => .type n
  | .cls c => .ref (G.cls c)
  | .exc c => .ref (G.cls c)
def tagD (S : Store) : D → Option Tg
  | .non => some (.ty "NoneType")
  | .bl _ => some (.ty "bool")
  | .int _ => some (.ty "int")
  | .str _ => some (.ty "str")
  | .tup _ => some (.ty "tuple")
  | .lst _ => some (.ty "list")
  | .dct _ _ => some (.ty "dict")
  | .ins c _ _ => some (.cls c)
  | .exn c _ _ => some (.exc c)
  | .loc n =>
    match S[n]? with
    | some (.lst _) => some (.ty "list")
    | some (.dct _ _) => some (.ty "dict")
    | some (.ins c _ _) => some (.cls c)
    | _ => none
  | _ => none
def tgOf : D → Option Tg
  | .ty n => some (.ty n)
  | .cls c => some (.cls c)
  | _ => none
def tgsOf : List D → Option (List Tg)
  | [] => some []
  | d :: r => match tgOf d, tgsOf r with
    | some t, some ts => some (t :: ts)
    | _, _ => none
abbrev Tab := Tg → Tg → Option Bool
def anyTab (tab : Tab) (t : Tg) : List Tg → Option Bool
  | [] => some false
  | c :: r => match tab t c with
    | some true => some true
    | some false => anyTab tab t r
    | none => none
def isiD (tab : Tab) : MF := fun ds S =>
  match ds with
  | [x, .tup ts] => resO ((tagD S x).bind fun a => (tgsOf ts).bind fun cs => (anyTab tab a cs).map D.bl) S
  | [x, t] => resO ((tagD S x).bind fun a => (tgOf t).bind fun c => (tab a c).map D.bl) S
  | _ => .bad
/-- what is told of a class of one's own -/
structure ClsT (K : PySem.W.Frag) (C : Addr) : Prop where
  cl : Cls K C
  ha : PySem.W.findIn K (.ref C) "__class__" = some (some (.builtin "object.__class__"))
  hn : PySem.W.specialIn K (.builtin "object.__class__") "__get__" = some (some (.builtin "getset_descriptor.__get__"))
  htk : PySem.W.takesIn K (.builtin "object.__class__") = some true
  hm : PySem.W.mroIn K C (.type "object") = some true
/-- what is told of an own error class -/
structure ExcT (K : PySem.W.Frag) (C : Addr) : Prop where
  cl : (PySem.W.clsIn K C).isSome = true
  ga : PySem.W.findIn K (.ref C) "__getattribute__" = some (some (.builtin "BaseException.__getattribute__"))
  gt : PySem.W.findIn K (.ref C) "__getattr__" = some none
  sB : PySem.W.subIn K (.ref C) (.type "BaseException") = some true
  ha : PySem.W.findIn K (.ref C) "__class__" = some (some (.builtin "object.__class__"))
  hn : PySem.W.specialIn K (.builtin "object.__class__") "__get__" = some (some (.builtin "getset_descriptor.__get__"))
  tk : PySem.W.takesIn K (.builtin "object.__class__") = some true
  hm : PySem.W.mroIn K C (.type "object") = some true
  hd : PySem.W.hasDictIn K C = true
/-- a value's type, errors that were caught among them -/
inductive TyZ (K : PySem.W.Frag) (H : Hp) : V → Value → Prop where
  | base {x : V} {t : Value} (h : TyX K H x t) : TyZ K H x t
  | exn {a C : Addr} {od : Option Addr} (h : H a = some (xO C od a)) (hd : ∀ dx, od = some dx → ∃ fs, H dx = some (.xd fs)) (T : ExcT K C) : TyZ K H (.ref a) (.ref C)
structure TabOk (G : Gm) (tab : Tab) : Prop where
  exc : ∀ c b r, tab (.exc c) b = some r → ExcT G.K (G.cls c)
  kit : ∀ a b r, tab a b = some r → PySem.W.kitOne G.K (tgV G a) (tgV G b) = some r
  cls : ∀ c b r, tab (.cls c) b = some r → ClsT G.K (G.cls c)
section
variable {G : Gm} {X : Cx} {W : WX} {k : Nat}
theorem tag_ok {F : Hp} {μ : List Addr} {S : Store} {H : Hp} {d : D} {v : V} {a : Tg} (hr : Rel G F μ S H) (r : Rep G F μ d v) (h : tagD S d = some a) (hc : ∀ c, a = .cls c → ClsT G.K (G.cls c)) (hx : ∀ c, a = .exc c → ExcT G.K (G.cls c)) : TyZ G.K H v (tgV G a) := by
  cases r with
  | exn h1 h2 _ _ =>
    cases h
    refine .exn (hr.sub _ _ h1) (fun dx e => ?_) (hx _ rfl)
    subst e
    exact ⟨_, hr.sub _ _ h2⟩
  | non => cases h; exact .base (.base .non)
  | bl b => cases h; exact .base (.base (.bl b))
  | int b => cases h; exact .base (.base (.int b))
  | str b => cases h; exact .base (.base (.str b))
  | tup hs _ =>
    cases h
    rcases same_sqT hr.sub hs with (q | ⟨o, q⟩) | ⟨o, its, n, q, q1, _⟩
    · exact .base (.base (.tup q))
    · exact .base (.fTuple q)
    · exact .base (.kTuple q q1)
  | lst hs _ => cases h; exact .base (.base (.lst (hr.sub _ _ hs)))
  | dct hs _ _ => cases h; exact .base (.base (.dK (hr.sub _ _ hs)))
  | ins hs _ _ =>
    cases h
    have T := hc _ rfl
    exact .base (.base (.ins (hr.sub _ _ hs) T.cl T.ha T.hn T.htk T.hm))
  | @loc n p hm =>
    simp only [tagD] at h
    split at h
    · rename_i l hs
      cases h
      obtain ⟨xs, _, q, _⟩ := hr.lstAt hm hs
      exact .base (.base (.lst q))
    · rename_i l hs
      cases h
      obtain ⟨xs, _, q, _⟩ := hr.dctAt hm hs
      exact .base (.base (.dK q))
    · rename_i l hs
      cases h
      obtain ⟨dx, xs, _, q, _⟩ := hr.insAt hm hs
      have T := hc _ rfl
      exact .base (.base (.ins q T.cl T.ha T.hn T.htk T.hm))
    · cases h
  | _ => cases h
theorem tg_ok {F : Hp} {μ : List Addr} {d : D} {v : V} {a : Tg} (r : Rep G F μ d v) (h : tgOf d = some a) : ClsV v (tgV G a) := by
  cases r with
  | ty n => cases h; exact .ty n
  | cls c => cases h; exact .own _
  | _ => cases h
theorem tgs_ok {F : Hp} {μ : List Addr} : ∀ {ds : List D} {vs : List V} {ts : List Tg}, Reps G F μ ds vs → tgsOf ds = some ts → PySem.Paired ClsV vs (ts.map (tgV G))
  | [], _, _, r, h => by cases r; cases h; exact .nil
  | d :: ds, _, _, r, h => by
    cases r with
    | cons r1 r2 =>
      simp only [tgsOf] at h
      cases e1 : tgOf d with
      | none => rw [e1] at h; cases h
      | some t =>
        cases e2 : tgsOf ds with
        | none => rw [e1, e2] at h; cases h
        | some ts =>
          rw [e1, e2] at h
          cases h
          exact .cons (tg_ok r1 e1) (tgs_ok r2 e2)
theorem anyTab_ok {tab : Tab} (T : TabOk G tab) {a : Tg} : ∀ {cs : List Tg} {r : Bool}, anyTab tab a cs = some r → PySem.W.kitAny G.K (tgV G a) (cs.map (tgV G)) = some r
  | [], _, h => by cases h; rfl
  | c :: cs, r, h => by
    simp only [anyTab] at h
    cases e : tab a c with
    | none => rw [e] at h; cases h
    | some b =>
      rw [e] at h
      refine kitAny_cons (T.kit a c b e) (fun hb => ?_) fun hb => ?_
      · subst hb
        exact anyTab_ok T h
      · subst hb
        cases h
        rfl
theorem anyTab_exc {tab : Tab} (T : TabOk G tab) {a : Tg} {cs : List Tg} {r : Bool} (hne : cs ≠ []) (h : anyTab tab a cs = some r) : ∀ c, a = .exc c → ExcT G.K (G.cls c) := by
  intro c e
  subst e
  cases cs with
  | nil => exact absurd rfl hne
  | cons b cs =>
    simp only [anyTab] at h
    cases e : tab (.exc c) b with
    | none => rw [e] at h; cases h
    | some q => exact T.exc c b q e
theorem anyTab_cls {tab : Tab} (T : TabOk G tab) {a : Tg} {cs : List Tg} {r : Bool} (hne : cs ≠ []) (h : anyTab tab a cs = some r) : ∀ c, a = .cls c → ClsT G.K (G.cls c) := by
  intro c e
  subst e
  cases cs with
  | nil => exact absurd rfl hne
  | cons b cs =>
    simp only [anyTab] at h
    cases e : tab (.cls c) b with
    | none => rw [e] at h; cases h
    | some q => exact T.cls c b q e
def isiM (tab : Tab) : MF := fun ds S =>
  match ds with
  | [x, t] =>
    match t with
    | .tup ts => if ts.isEmpty = false then resO ((tagD S x).bind fun a => (tgsOf ts).bind fun cs => (anyTab tab a cs).map D.bl) S else .bad
    | t => resO ((tagD S x).bind fun a => (tgOf t).bind fun c => (tab a c).map D.bl) S
  | _ => .bad
def rZ1 (K : PySem.W.Frag) : List V → Hp → VK → Prop := fun xs H Q => ∃ (x c : V) (t u : Value) (b : Bool), xs = [x, c] ∧ ClsV c u ∧ TyZ K H x t ∧ PySem.W.kitOne K t u = some b ∧ Q (.bl b) H
def rZ2 (K : PySem.W.Frag) : List V → Hp → VK → Prop := fun xs H Q => ∃ (x : V) (tp : Addr) (cs : List V) (t : Value) (us : List Value) (b : Bool), xs = [x, .ref tp] ∧ H tp = some (.tup cs) ∧ PySem.Paired ClsV cs us ∧ TyZ K H x t ∧ PySem.W.kitAny K t us = some b ∧ Q (.bl b) H
def rZ3 (K : PySem.W.Frag) : List V → Hp → VK → Prop := fun xs H Q => ∃ (x : V) (tp : Addr) (dd : Option Addr) (us : List Value) (n : Nat) (sl : Array (Option Value)) (t : Value) (b : Bool), xs = [x, .ref tp] ∧
  K.lookup tp = some ⟨.type "tuple", dd, .seq us.toArray n, sl⟩ ∧ TyZ K H x t ∧ PySem.W.kitAny K t us = some b ∧ Q (.bl b) H
theorem kitZ {pins : List (Addr × Obj)} {σ : L2.St} {H : Hp} {s : Shared} {x : V} {u t : Value} (I : Inv X pins σ H s) (rx : RelV x u) (ty : TyZ X.K H x t) : ∃ P : Heap → Prop, PySem.W.KitX X.K u t P ∧ P s.heap ∧ u ≠ .builtin "__main__.__loader__#opaque" := by
  cases ty with
  | base h => exact kit_of I rx h
  | @exn a C od h hd T =>
    obtain rfl : u = Value.ref a := rx
    have hx : ObjOk X.prog X.w H s.heap a (.ext fun h => ∃ (oe : Obj) (vs : Array Value), h.get? a = some oe ∧ Zc (.ref C) od oe ∧ oe.data = .fields vs) := I.hok a _ h
    obtain ⟨oe, vs, h1, h2, h3⟩ := hx.1
    cases od with
    | none =>
      have J : PySem.W.InstAt s.heap a oe C none := ⟨h1, h2.1, by unfold PySem.W.notCls; rw [h3] <;> rfl, by rw [h2.2]; exact True.intro⟩
      exact ⟨_, PySem.W.kitx_exc T.cl T.ga T.gt T.sB T.ha T.hn T.tk T.hm, J, fun z => nomatch z⟩
    | some dx =>
      obtain ⟨fs, hf⟩ := hd dx rfl
      have hy : ObjOk X.prog X.w H s.heap dx (.xd fs) := I.hok dx _ hf
      obtain ⟨mA, hns, _⟩ := hy
      obtain ⟨od, ho, _⟩ := lookIn_ns hns
      have J : PySem.W.InstAt s.heap a oe C (some od) := ⟨h1, h2.1, by unfold PySem.W.notCls; rw [h3] <;> rfl, by rw [h2.2]; exact ho⟩
      exact ⟨_, PySem.W.kitx_exc T.cl T.ga T.gt T.sB T.ha T.hn T.tk T.hm, J, fun z => nomatch z⟩
theorem cr_z1 : CallR X (.builtin "isinstance") (rZ1 X.K) := by
  intro pins s σ H xs us Q I r h
  obtain ⟨x, c, t, u, b, rfl, k, ty, e, q⟩ := h
  obtain ⟨u1, u2, rfl, r1, r2⟩ := vals2 r
  have e2 := k.eq r2
  subst e2
  obtain ⟨P, Z, p, hx⟩ := kitZ I r1 ty
  exact PySem.W.kia_one Z I.kIn p e hx (fun tk => ⟨.bl b, H, I.tok tk, rfl, q⟩)
theorem cr_z2 : CallR X (.builtin "isinstance") (rZ2 X.K) := by
  intro pins s σ H xs us Q I r h
  obtain ⟨x, tp, cs, t, ws, b, rfl, hT, k, ty, e, q⟩ := h
  obtain ⟨u1, u2, rfl, r1, r2⟩ := vals2 r
  cases (show u2 = Value.ref tp from r2)
  obtain ⟨P, Z, p, hx⟩ := kitZ I r1 ty
  have hT' : ObjOk X.prog X.w H s.heap tp (.tup cs) := I.hok tp _ hT
  obtain ⟨_, its, rv, o, h1, h2, n, h3⟩ := hT'
  have e3 := ClsV.all k rv
  subst e3
  obtain ⟨oc, od, dt, sl⟩ := o
  simp only at h2 h3
  subst h2 h3
  exact PySem.W.kia_tup Z I.kIn p h1 e hx (fun tk => ⟨.bl b, H, I.tok tk, rfl, q⟩)
theorem cr_z3 : CallR X (.builtin "isinstance") (rZ3 X.K) := by
  intro pins s σ H xs us Q I r h
  obtain ⟨x, tp, dd, ws, n, sl, t, b, rfl, hk, ty, e, q⟩ := h
  obtain ⟨u1, u2, rfl, r1, r2⟩ := vals2 r
  cases (show u2 = Value.ref tp from r2)
  obtain ⟨P, Z, p, hx⟩ := kitZ I r1 ty
  exact PySem.W.kia_tup Z I.kIn p (I.kIn _ _ hk) e hx (fun tk => ⟨.bl b, H, I.tok tk, rfl, q⟩)
theorem ci_isi {tab : Tab} (T : TabOk G tab) : CallI G (isiM tab) (fun xs H Q => rZ1 G.K xs H Q ∨ rZ2 G.K xs H Q ∨ rZ3 G.K xs H Q) := by
  intro W F μ σ S H ds us Q hr hs hp
  unfold isiM at hp
  split at hp
  · rename_i x t
    cases hs with
    | cons r1 r2 =>
      cases r2 with
      | cons r2 r3 =>
        cases r3
        split at hp
        · rename_i ts
          obtain ⟨hne, hp⟩ := post_if hp
          obtain ⟨d, e, hp⟩ := post_resO1 hp
          cases e1 : tagD S x with
          | none => rw [e1] at e; cases e
          | some a =>
            cases e2 : tgsOf ts with
            | none => rw [e1, e2] at e; cases e
            | some cs =>
              cases e3 : anyTab tab a cs with
              | none => rw [e1, e2] at e; simp [e3] at e
              | some b =>
                rw [e1, e2] at e
                simp [e3] at e
                subst e
                cases r2 with
                | tup hs2 hr2 =>
                  have hcs : cs ≠ [] := fun z => by
                    subst z
                    cases ts with
                    | nil => cases hne
                    | cons t r =>
                      simp only [tgsOf] at e2
                      split at e2 <;> cases e2
                  have ty := tag_ok hr r1 e1 (anyTab_cls T hcs e3) (anyTab_exc T hcs e3)
                  have pr := tgs_ok hr2 e2
                  rcases hs2 with q | ⟨o, its, n, q, q1, q2, q3, q4⟩
                  · exact .inr (.inl ⟨_, _, _, _, _, b, rfl, hr.sub _ _ q, pr, ty, anyTab_ok T e3, post_ok hr (.bl _) hp⟩)
                  · obtain ⟨oc, od, dt, sl⟩ := o
                    simp only at q1 q2
                    subst q1
                    subst q2
                    have e4 := ClsV.all pr q4
                    refine .inr (.inr ⟨_, _, od, cs.map (tgV G), n, sl, _, b, rfl, ?_, ty, anyTab_ok T e3, post_ok hr (.bl _) hp⟩)
                    rw [q, ← e4]
        · obtain ⟨d, e, hp⟩ := post_resO1 hp
          cases e1 : tagD S x with
          | none => rw [e1] at e; cases e
          | some a =>
            cases e2 : tgOf t with
            | none => rw [e1, e2] at e; cases e
            | some c =>
              cases e3 : tab a c with
              | none => rw [e1, e2] at e; simp [e3] at e
              | some b =>
                rw [e1, e2] at e
                simp [e3] at e
                subst e
                exact .inl ⟨_, _, _, _, b, rfl, tg_ok r2 e2, tag_ok hr r1 e1 (fun c' hc' => by subst hc'; exact T.cls c' c b e3) (fun c' hc' => by subst hc'; exact T.exc c' c b e3), T.kit a c b e3, post_ok hr (.bl _) hp⟩
  · exact hp.elim
theorem cr_isi (hK : X.K = G.K) : CallR X (.builtin "isinstance") (fun xs H Q => rZ1 G.K xs H Q ∨ rZ2 G.K xs H Q ∨ rZ3 G.K xs H Q) := by
  rw [← hK]
  exact cr_z1.or (cr_z2.or cr_z3)
/-- built-in types alone -/
def tab0 : Tab := fun a b =>
  match a, b with
  | .ty m, .ty n => if m ∈ ["NoneType", "bool", "int", "str", "tuple", "list", "dict"] ∧ n ∈ ["int", "bool", "str", "list", "tuple", "dict"] then some (decide (m = n) || (decide (m = "bool") && decide (n = "int"))) else none
  | _, _ => none
theorem kit0 : ∀ m ∈ ["NoneType", "bool", "int", "str", "tuple", "list", "dict"], ∀ n ∈ ["int", "bool", "str", "list", "tuple", "dict"], kitB m n = some (decide (m = n) || (decide (m = "bool") && decide (n = "int"))) := by decide +kernel
theorem tab0_ok : TabOk G tab0 where
  kit := fun a b r h => by
    unfold tab0 at h
    split at h
    · split at h
      · rename_i m n hm
        cases h
        exact kit_ty (kit0 m hm.1 n hm.2)
      · cases h
    · cases h
  cls := fun c b r h => by cases h
  exc := fun c b r h => by cases h

/-! ## repr -/
def rRepr (K : PySem.W.Frag) : List V → Hp → VK → Prop := fun xs H Q => ∃ x p, xs = [x] ∧ Dp K H x p ∧ SeqAt.shaped p = true ∧ p.showable = true ∧ p.shown.length ≤ sizeLine ∧ Q (.str p.shown) H
theorem cr_repr (hgd : X.A.guards = some []) (hr : Room k X.A) : CallR X (.builtin "repr") (rRepr X.K) := by
  intro pins s σ H xs us Q I rv h
  obtain ⟨x, p, rfl, hd, hsh, hs, hz, q⟩ := h
  obtain ⟨u, rfl, ru⟩ := vals1 rv
  have hu := hr.un
  have hsh' : p.canLay0 = true ∧ p.depth ≤ 64 := by
    unfold SeqAt.shaped at hsh
    rw [Bool.and_eq_true, decide_eq_true_eq] at hsh
    exact hsh
  have fin : ∀ (h' : Heap) (t : Tok) (tk : Nat), (∀ b o, s.heap.get? b = some o → h'.get? b = some o) → EP X pins σ Q (.str p.shown t) { s with heap := h', toks := tk } := fun h' t tk hk => ⟨.str p.shown, H, I.kept hk, ⟨t, rfl⟩, q⟩
  have fin0 : ∀ (t : Tok) (tk : Nat), EP X pins σ Q (.str p.shown t) { s with toks := tk } := fun t tk => ⟨.str p.shown, H, I.tok tk, ⟨t, rfl⟩, q⟩
  cases hd with
  | non => cases ru; exact P.repr_of_none (fin0 _ _)
  | bl b => cases ru; exact P.repr_of_bool (fin0 _ _)
  | int i =>
    obtain ⟨t, rfl⟩ := ru
    exact P.repr_of_int (by simpa [PyData.showable] using hs) (fin0 _ _)
  | str z =>
    obtain ⟨t, rfl⟩ := ru
    exact P.repr_of_str (fin0 _ _) (by simpa [PyData.shown] using hz)
  | lst h1 h2 =>
    obtain ⟨as, r⟩ := Dp.reads I _ _ _ (Dp.lst h1 h2) ru
    cases ru
    exact repr_of_reads' r hs (PyData.noDict_hsm (PyData.hasDict_of_canLay _ hsh'.1)) hgd (by have := hsh'.2; omega) (fun _ _ h => h) (fun h' t tk hk => fin h' t tk hk) hz
  | tup h1 h2 =>
    obtain ⟨as, r⟩ := Dp.reads I _ _ _ (Dp.tup h1 h2) ru
    cases ru
    exact repr_of_reads' r hs (PyData.noDict_hsm (PyData.hasDict_of_canLay _ hsh'.1)) hgd (by have := hsh'.2; omega) (fun _ _ h => h) (fun h' t tk hk => fin h' t tk hk) hz
def reprD (x : D) (S : Store) : Res D :=
  match toPS S x with
  | some p => if SeqAt.shaped p = true ∧ p.showable = true ∧ p.shown.length ≤ sizeLine then .ok (.str p.shown) S else .bad
  | none => .bad
theorem ci_repr (hK : X.K = G.K) : CallI G (f1 reprD) (rRepr X.K) := ci_1 fun W F μ σ S H d v Q hr rd hp => by
  unfold reprD at hp
  split at hp
  · rename_i p hpp
    obtain ⟨⟨h1, h2, h3⟩, hp⟩ := post_if hp
    exact ⟨v, p, rfl, by rw [hK]; exact dp_ok hr rd hpp, h1, h2, h3, post_ok hr (.str _) hp⟩
  · exact hp.elim

/-! ## slices -/
abbrev MO := Env' → Store → Res (Option Int)
def rOI : RR (Option Int) (Option Int) := fun _ _ a b => a = b
structure SOp (G : Gm) (X : Cx) (W : WX) (e : Option Expr) (m : MO) : Prop where
  ex : ∃ t, PO X e t ∧ ImpE G W rOI t m
def mNoP : MO := fun _ S => .ok none S
def asInt : D → Option Int
  | .int i => some i
  | _ => none
def mPart (a : ME) : MO := fun ρ S => (a ρ S).bind fun d S1 => (resO (asInt d) S1).bind fun i S2 => .ok (some i) S2
theorem sop_none : SOp G X W none mNoP := ⟨_, po_none, fun ρ S σ H F μ Q he hr hp => hp F μ none H (Ext.refl _ _) hr rfl⟩
theorem sop_some {e : Expr} {m : ME} (h : SE G X W e m) : SOp G X W (some e) (mPart m) := by
  obtain ⟨t, p, i⟩ := h
  refine ⟨_, po_some p, fun ρ S σ H F μ Q he hr hp => ?_⟩
  refine i ρ S σ H F μ _ he hr (Post.bind hp fun d S1 F1 μ1 v H1 x1 r1 p1 q1 => ?_)
  obtain ⟨n, e, q⟩ := post_bindO q1
  cases d with
  | int j =>
    cases e
    cases p1
    exact ⟨_, rfl, q F1 μ1 _ H1 (Ext.refl _ _) r1 rfl⟩
  | _ => cases e
def cutL {α : Type} (xs : List α) (lo hi : Option Int) : List α := (xs.drop (HT.sIx xs.length 0 lo)).take (HT.sIx xs.length xs.length hi - HT.sIx xs.length 0 lo)
/-- a slice; a list's slice is a new list (never changed behind) -/
def sliceD (d : D) (lo hi : Option Int) (S : Store) : Res D :=
  match d with
  | .str x => if x.length ≤ sizeLine then .ok (.str (cutS x lo hi)) S else .bad
  | .tup l => .ok (.tup (cutL l lo hi)) S
  | d =>
    match itemsD S d with
    | some l => .ok (.lst (cutL l lo hi)) S
    | none => .bad
def mSlice (a : ME) (lo hi : MO) : ME := fun ρ S => (a ρ S).bind fun d S1 => (lo ρ S1).bind fun l S2 => (hi ρ S2).bind fun h S3 => sliceD d l h S3
theorem cutL_rep {F : Hp} {μ : List Addr} {l : List D} {xs : List V} (r : Reps G F μ l xs) (lo hi : Option Int) : Reps G F μ (cutL l lo hi) (cutV xs lo hi) := by
  unfold cutL cutV
  rw [r.length]
  exact (r.drop _).take _
theorem cutL_all {α : Type} {l : List α} {lo hi : Option Int} (h : HT.sIx l.length 0 lo = 0 ∧ HT.sIx l.length l.length hi = l.length) : cutL l lo hi = l := by
  unfold cutL
  rw [h.1, h.2]
  simp
theorem se_slice {e : Expr} {lo hi : Option Expr} {p2 pos : Pos} {m : ME} {a b : MO} (hK : X.K = G.K) (he : SE G X W e m) (hl : SOp G X W lo a) (hh : SOp G X W hi b) : SE G X W (.Subscript e (.Slice lo hi none p2) pos) (mSlice m a b) := by
  obtain ⟨t, p, i⟩ := he
  obtain ⟨tl, pl, il⟩ := hl
  obtain ⟨th, ph, ih⟩ := hh
  refine ⟨_, pe_slice (sl_str.or (sl_tupA.or sl_list)) p pl ph, fun ρ S σ H F μ Q he hr hp => ?_⟩
  refine i ρ S σ H F μ _ he hr (Post.bind hp fun d S1 F1 μ1 v H1 x1 r1 p1 q1 => ?_)
  refine il ρ S1 σ H1 F1 μ1 _ (he.mono x1) r1 (Post.bind q1 fun l S2 F2 μ2 l' H2 x2 r2 e2 q2 => ?_)
  refine ih ρ S2 σ H2 F2 μ2 _ ((he.mono x1).mono x2) r2 (Post.bind q2 fun h S3 F3 μ3 h' H3 x3 r3 e3 q3 => ?_)
  cases (show l = l' from e2)
  cases (show h = h' from e3)
  have p3 := (p1.mono x2).mono x3
  unfold sliceD at q3
  split at q3
  · cases p3
    obtain ⟨hz, q⟩ := post_if q3
    exact .inl ⟨_, rfl, hz, post_ok r3 (.str _) q⟩
  · cases p3 with
    | tup hs hrs =>
      refine .inr (.inl ⟨_, _, rfl, by rw [hK]; exact same_sqT r3.sub hs, fun hw => ?_, fun hw p hpn => ?_⟩)
      · rw [← hrs.length] at hw
        rw [cutL_all hw] at q3
        exact post_ok r3 (.tup hs hrs) q3
      · obtain ⟨x, rr⟩ := r3.newF (.tup _) hpn
        exact q3 _ _ _ _ x rr (.tup (TupF.of upd_same) ((cutL_rep hrs _ _).mono x))
  · rename_i hns hnt
    split at q3
    · rename_i l hl
      have hlist : ∃ a xs, v = .ref a ∧ Reps G F3 μ3 l xs ∧ SqL G.K H3 a xs := by
        cases p3 with
        | tup hs hrs => exact absurd rfl (hnt _)
        | lst hs hrs =>
          cases hl
          exact ⟨_, _, rfl, hrs, SqL.of (r3.sub _ _ hs)⟩
        | kst hs hrs =>
          cases hl
          exact ⟨_, _, rfl, hrs, same_sqL r3.sub hs⟩
        | @loc m a hm =>
          simp only [itemsD] at hl
          split at hl
          · rename_i l' hs
            cases hl
            obtain ⟨xs, hf, ho, h2⟩ := r3.lstAt hm hs
            exact ⟨_, _, rfl, h2, SqL.of ho⟩
          · cases hl
        | _ => cases hl
      obtain ⟨a, xs, rfl, hrs, hs⟩ := hlist
      refine .inr (.inr ⟨a, xs, rfl, by rw [hK]; exact hs, fun p hpn => ?_⟩)
      obtain ⟨x, rr⟩ := r3.newF (.lst _) hpn
      exact q3 _ _ _ _ x rr (.lst upd_same ((cutL_rep hrs _ _).mono x))
    · exact q3.elim

/-! ## dicts, written -/
def mDict0 : ME := fun _ S => .ok (.loc S.length) (S ++ [.dct [] []])
theorem se_dict0 {pos : Pos} : SE G X W (.Dict [] [] pos) mDict0 := by
  refine ⟨_, pe_dnewK, fun ρ S σ H F μ Q he hr hp => fun p hpn => ?_⟩
  have rr := hr.newL (e := .dct [] []) (o := .dK []) hpn (.dct (xs := []) (hr.fnone hpn) upd_same rfl .nil)
  exact hp _ _ _ _ (ext_app F μ p) rr (.loc (mu_new hr p))
def dctNew (n : Nat) (ks : List Key) (vs : List D) (S : Store) : Res D :=
  match S[n]? with
  | some (.dct [] []) => if ks.length = vs.length ∧ ks.Nodup ∧ ks.length ≤ 15 then .ok (.loc n) (S.set n (.dct ks vs)) else .bad
  | _ => .bad
def mDict (ks : List Key) (l : ML) : ME := fun ρ S => (l ρ (S ++ [.dct [] []])).bind fun vs S1 => dctNew S.length ks vs S1
/-- written keys, values -/
structure SD (G : Gm) (X : Cx) (W : WX) (pos : Pos) (keys : List (Option Expr)) (vals : List Expr) (ks : List Key) (m : ML) : Prop where
  ex : ∃ trs, PPs X pos keys vals trs ∧ ∀ ρ S σ H F μ (Q : List (V × V) → Hp → Prop), EnvR G F μ ρ σ → Rel G F μ S H → Post G W (fun F μ ds ps => ks.length = ds.length ∧ ∃ xs, ps = (ks.zip xs).map (fun kv => (kV kv.1, kv.2)) ∧ Reps G F μ ds xs) F μ σ Q (m ρ S) → tPairs trs σ H Q
theorem sd_nil {pos : Pos} : SD G X W pos [] [] [] mNilL := ⟨_, pps_nil, fun ρ S σ H F μ Q he hr hp => hp F μ [] H (Ext.refl _ _) hr ⟨rfl, [], rfl, .nil⟩⟩
theorem sd_cons {pos : Pos} {ke v : Expr} {keys : List (Option Expr)} {vals : List Expr} {kk : Key} {ks : List Key} {m : ME} {l : ML} (hk : PE X ke (tC (kV kk))) (hv : SE G X W v m) (hr : SD G X W pos keys vals ks l) : SD G X W pos (some ke :: keys) (v :: vals) (kk :: ks) (mConsL m l) := by
  obtain ⟨t, p, i⟩ := hv
  obtain ⟨trs, q, j⟩ := hr
  refine ⟨_, pps_cons hk p q, fun ρ S σ H F μ Q he hr hp => ?_⟩
  refine i ρ S σ H F μ _ he hr (Post.bind hp fun d S1 F1 μ1 w H1 x1 r1 p1 q1 => ?_)
  cases hl : l ρ S1 with
  | bad => rw [hl] at q1; exact q1.elim
  | ex c ks' vs' S2 =>
    rw [hl] at q1
    exact j ρ S1 σ H1 F1 μ1 _ (he.mono x1) r1 (by rw [hl]; exact q1)
  | ok ds S2 =>
    rw [hl] at q1
    refine j ρ S1 σ H1 F1 μ1 _ (he.mono x1) r1 ?_
    rw [hl]
    intro F2 μ2 ps H2 x2 r2 hps
    obtain ⟨hlen, xs, rfl, rxs⟩ := hps
    exact (show Post G W _ F1 μ1 σ Q (.ok (d :: ds) S2) from q1) F2 μ2 _ H2 x2 r2 ⟨by simp [hlen], w :: xs, rfl, .cons (p1.mono x2) rxs⟩
theorem putK_app {κ : Type} [DecidableEq κ] : ∀ (acc : List (κ × V)) (k : κ) (x : V), (∀ p ∈ acc, p.1 ≠ k) → putK acc k x = acc ++ [(k, x)] := fun acc k x h => by
  refine putK_new x ?_
  unfold valV
  have : acc.find? (fun p => decide (p.1 = k)) = none := List.find?_eq_none.mpr fun p hp => by simpa using h p hp
  rw [this]
  rfl
theorem merge_nodup : ∀ (more acc : List (Key × V)), ((acc ++ more).map (·.1)).Nodup → mergeK acc more = acc ++ more
  | [], acc, _ => by simp [mergeK]
  | p :: more, acc, h => by
    have h1 : ∀ q ∈ acc, q.1 ≠ p.1 := by
      intro q hq e
      rw [List.map_append, List.nodup_append] at h
      exact h.2.2 q.1 (List.mem_map_of_mem hq) p.1 (by simp) e
    show mergeK (putK acc p.1 p.2) more = _
    rw [putK_app acc p.1 p.2 h1, merge_nodup more (acc ++ [(p.1, p.2)]) (by rw [List.append_assoc]; exact h), List.append_assoc]
    rfl
theorem map_zip_fst {α β : Type} : ∀ {ks : List α} {xs : List β}, ks.length = xs.length → (ks.zip xs).map (·.1) = ks
  | [], _, _ => rfl
  | k :: ks, x :: xs, h => by
    simp only [List.zip_cons_cons, List.map_cons]
    rw [map_zip_fst (by simpa using h)]
  | _ :: _, [], h => by cases h
theorem se_dict {pos : Pos} {keys : List (Option Expr)} {vals : List Expr} {ks : List Key} {l : ML} (h : SD G X W pos keys vals ks l) (hall : keys.all (·.isSome) = true := by rfl) (hlen : keys.length = vals.length := by rfl) (h0 : keys ≠ [] := by (intro z; cases z)) (h15 : keys.length ≤ 15 := by decide) : SE G X W (.Dict keys vals pos) (mDict ks l) := by
  obtain ⟨trs, p, i⟩ := h
  refine ⟨_, pe_disp p hall hlen h0 h15, fun ρ S σ H F μ Q he hr hp => fun p hpn => ?_⟩
  have rr := hr.newL (e := .dct [] []) (o := .dK []) hpn (.dct (xs := []) (hr.fnone hpn) upd_same rfl .nil)
  have xa := ext_app F μ p
  refine i ρ (S ++ [.dct [] []]) σ _ F (μ ++ [p]) _ (he.mono xa) rr ?_
  have hp' := Post.mono hp xa
  show Post G W _ F (μ ++ [p]) σ _ (l ρ (S ++ [.dct [] []]))
  refine Post.bind (show Post G W (Rep G) F (μ ++ [p]) σ Q ((l ρ (S ++ [.dct [] []])).bind fun vs S1 => dctNew S.length ks vs S1) from hp') fun ds S1 F1 μ1 ps H1 x1 r1 hps q1 => ?_
  obtain ⟨hlen, xs, rfl, rxs⟩ := hps
  have hm := x1.mu _ _ (mu_new hr p)
  unfold dctNew at q1
  split at q1
  · rename_i hs
    obtain ⟨⟨hl2, hnd, hl15⟩, q⟩ := post_if q1
    obtain ⟨ys, hf, hh, _, hy⟩ := r1.dctAt hm hs
    cases hy
    have hz : (ks.zip xs).length = ks.length := by rw [List.length_zip, ← rxs.length]; omega
    have hlx : ks.length = xs.length := by rw [hlen, rxs.length]
    refine ⟨hh, ks.zip xs, rfl, by rw [hz]; exact hl15, ?_⟩
    have em : mergeK [] (ks.zip xs) = ks.zip xs := by
      have := merge_nodup (ks.zip xs) [] (by rw [List.nil_append, map_zip_fst hlx]; exact hnd)
      simpa using this
    rw [em]
    exact q _ _ _ _ (Ext.refl _ _) (r1.write (e := .dct ks ds) hh trivial hm hf (.dct hf upd_same hl2 rxs)) (.loc hm)
  · exact q1.elim
end
end Z

set_option Elab.async false
set_option linter.all false
set_option maxRecDepth 100000
set_option maxHeartbeats 2000000
set_option autoImplicit false
namespace Z
open PySem PySem.Spec PyProof.Rows L2

/-! ## the law's own call -/
/-- what is to be shown of a law's meaning -/
def LawHolds (n : Nat) (mf : MF) : Prop := ∀ ns : List Int, ns.length ≤ n → ∃ S, mf [.kst (ns.map D.int)] [] = .ok (.bl true) S
theorem ints_rep {G : Gm} {F : Hp} {μ : List Addr} : ∀ ns : List Int, Reps G F μ (ns.map D.int) (ns.map V.int)
  | [] => .nil
  | n :: ns => .cons (.int n) (ints_rep ns)
section
variable {P : Program} {w : World} {G : Gm} {k : Nat} {fa a : Addr} {fd : FuncData} {x : Str} {mf : MF} {s1 : Shared} {vs : List Value} {ns : List Int} {mb : Str → Option Value} {cs : List (Addr × Addr)}
/-- what the law's end knows of the code tables -/
structure TbAt (G : Gm) (h : Heap) (cs : List (Addr × Addr)) : Prop where
  emp : ∀ p ∈ cs, h.get? p.2 = some (PySem.W.tabObj #[])
  out : ∀ p ∈ cs, G.K.lookup p.2 = none
  cod : ∀ p ∈ cs, PySem.W.CodeHd h p.1 p.2
  all : ∀ q ∈ G.tabs, ∃ p ∈ cs, q.1 = p.2
/-- the module of the built-ins -/
def BmAt (G : Gm) (h : Heap) : Prop := ∃ (bm : Addr) (ob : Obj), G.mg "__builtins__" = some (.ref bm) ∧ bm ≠ builtinsNs ∧ h.get? bm = some ob ∧ ob.cls = .type "module" ∧ ob.dict = some builtinsNs ∧ ob.data = .plain
/-- over a tracked heap in which at most the script and the tables stand -/
theorem law_core (hk : G.K.In s1.heap) (hn : s1.heap.Ns mainGlobals G.mg) (hb : s1.heap.Ns builtinsNs mb) (hv : ∀ y : Str, y ≠ "__name__" → mb y = bootBuiltins y) (hl : s1.heap.NoLimit) (hg : s1.gens = #[])
    (ha : s1.heap.get? a = some { cls := .type "list", data := .seq vs.toArray }) (hr : Room k callerA) (TA : TbAt G s1.heap cs) (BA : BmAt G s1.heap)
    (F : ∀ base : Heap, G.K.In base → base.Ns mainGlobals G.mg → (∀ p ∈ cs, LamX.TabB base G.mg p.1 p.2) → GFn G P w base k fa fd [x] mf) (hbind : ∀ (s : Shared) (u : Value), BindsTo s fd ⟨[u], []⟩ [(x, u)]) (hm : ∃ S, mf [.kst (ns.map D.int)] [] = .ok (.bl true) S)
    (H F0 : Hp) (hsub : Same F0 H) (hnt : ∀ (b : Addr) (o : HO), F0 b = some o → NoTbl o) (hS : SqL G.K F0 a (ns.map V.int)) (hok : HOk P w H s1.heap) (htb : ∀ p ∈ cs, H p.2 = some (.tbl #[]))
    (only : ∀ b, H b ≠ none → (b = a ∧ G.K.lookup a = none ∧ ∃ o xs, H b = some (.frz o (.lst xs))) ∨ b ∈ cs.map (·.2)) :
    codeAny (model P w) callerA (.call (.ref fa) ⟨[.ref a], []⟩) (fun r s' => r = .ok (.ret (.bool true)) ∧ OldK s1.heap s'.heap ∧ s'.os = s1.os ∧ AllBare s'.gens) s1 := by
  have atT : ∀ b, b ∈ cs.map (·.2) → s1.heap.get? b = some (PySem.W.tabObj #[]) := by
    intro b hb
    obtain ⟨p, hp, rfl⟩ := List.mem_map.mp hb
    exact TA.emp p hp
  have off : ∀ (b : Addr) (o : Obj), s1.heap.get? b = some o → o.data ≠ .seq vs.toArray → o ≠ PySem.W.tabObj #[] → H b = none := by
    intro b o e n1 n2
    by_cases hz : H b = none
    · exact hz
    · rcases only b hz with ⟨rfl, _⟩ | ht
      · rw [ha] at e
        exact absurd (congrArg Obj.data (Option.some.inj e)).symm n1
      · rw [atT b ht] at e
        exact absurd (Option.some.inj e).symm n2
  have offD : ∀ (b : Addr) (o : Obj) (es : Array DictEntry) (ep : Nat), s1.heap.get? b = some o → o.data = .dict es ep → H b = none := by
    intro b o es ep e d
    refine off b o e ?_ ?_
    · rw [d]
      exact fun z => nomatch z
    · intro z
      rw [z] at d
      cases d
  have nss : ∀ (b : Addr) (m : Str → Option Value), s1.heap.Ns b m → (hidT s1.heap H).Ns b m := by
    rintro b m ⟨o, es, ep, e, d, r⟩
    exact ⟨o, es, ep, hidT_get e (offD b o es ep e d), d, r⟩
  have kin : G.K.In (hidT s1.heap H) := by
    intro b o e
    refine hidT_get (hk b o e) ?_
    by_cases hz : H b = none
    · exact hz
    · rcases only b hz with ⟨rfl, h2, _⟩ | ht
      · rw [h2] at e
        cases e
      · obtain ⟨p, hp, rfl⟩ := List.mem_map.mp ht
        rw [TA.out p hp] at e
        cases e
  have md : Mod G.K G.mg (hidT s1.heap H) := by
    obtain ⟨mc, q1, q2⟩ := hl
    exact ⟨kin, nss _ _ hn, ⟨mb, nss _ _ hb, hv⟩, ⟨mc, nss _ _ q1, q2⟩⟩
  have no : ∀ (b : Addr), b ∈ frs ([] : List Env) → False := by
    intro b hb
    simp [frs] at hb
  have e0 : Env0 P w G.K G.mg (hidT s1.heap H) callerA [] s1 H := by
    refine ⟨rfl, md, ?_, Nat.le_of_eq (hidT_size _ _), trivial, fun b hb => (no b hb).elim, hok, .of_eq hg⟩
    intro b o e
    exact of_hidT e
  have glT : ∀ p ∈ cs, mainGlobals ≠ p.2 := by
    intro p hp z
    obtain ⟨o, es, ep, e, d, _⟩ := hn
    rw [z, TA.emp p hp] at e
    cases e
    cases d
  have tb : ∀ p ∈ cs, LamX.TabB (hidT s1.heap H) G.mg p.1 p.2 := by
    intro p hp
    refine ⟨?_, ?_, glT p hp⟩
    · obtain ⟨o, us, fi, t1, fl, t2, b1, tx, t3, q1, q2, q3, q4⟩ := TA.cod p hp
      refine ⟨o, us, fi, t1, fl, t2, b1, tx, t3, hidT_get q1 (off _ o q1 ?_ ?_), q2, q3, q4⟩
      · rw [q3]
        exact fun z => nomatch z
      · intro z
        rw [z] at q2
        cases q2
    · obtain ⟨bm, ob, q1, q2, q3, q4, q5, q6⟩ := BA
      have n1 : bm ≠ mainGlobals := by
        intro z
        obtain ⟨o, es, ep, e, d, _⟩ := hn
        rw [z, e] at q3
        cases q3
        rw [d] at q6
        cases q6
      have n2 : bm ≠ p.2 := by
        intro z
        rw [z, TA.emp p hp] at q3
        cases q3
        cases q6
      refine ⟨bm, ob, q1, q2, n1, n2, hidT_get q3 (off _ ob q3 ?_ ?_), q4, q5, q6⟩
      · rw [q6]
        exact fun z => nomatch z
      · intro z
        rw [z] at q4
        cases q4
  have run := (F _ kin (nss _ _ hn) tb).run callerA [] s1 H ⟨[.ref a], []⟩ [.ref a] [.ref a] (fun v _ => v = .bl true) (fun _ _ _ => False) hr rfl e0 (hbind s1 (.ref a)) (.cons rfl .nil)
  refine codeAny_mono (run ?_) ?_
  · obtain ⟨S, hm⟩ := hm
    have htab : LamX.Tabs G.tabs H := by
      intro q hq
      obtain ⟨p, hp, e⟩ := TA.all q hq
      rw [show q = (q.1, q.2) from rfl, e]
      exact LamX.TabS.nil (htb p hp)
    refine ⟨rfl, F0, [], [], [.kst (ns.map D.int)], ⟨hsub, rfl, fun i j a h => by simp at h, fun i a e h => by simp at h, fun i a h => by simp at h, htab, hnt⟩, .cons (.kst hS (ints_rep ns)) .nil, ?_⟩
    rw [hm]
    intro F' μ' v H' _ _ r
    cases r
    rfl
  · intro r s' h
    cases r with
    | error e =>
      obtain ⟨_, _, _, _, _, _, _, _, _, _, _, _, z⟩ := h
      exact z.elim
    | ok fl =>
      cases fl with
      | ret u =>
        obtain ⟨v, H', os, bare, un, hok', r', q⟩ := h
        have q' : v = .bl true := q
        subst q'
        cases (show u = Value.bool true from r')
        have key : ∀ b o, b ∉ cs.map (·.2) → s1.heap.get? b = some o → s'.heap.get? b = some o := by
          intro b o hnb e
          by_cases hz : H b = none
          · exact un.keep b o e hz (no b) (by simp)
          · rcases only b hz with ⟨rfl, _, ob, xs, z⟩ | ht
            · have z2 := un.frzs b ob _ z
              have e1 := (hok b _ z).1
              have e2 := (hok' b _ z2).1
              rw [e] at e1
              cases e1
              exact e2
            · exact absurd ht hnb
        have gr : ∀ p ∈ cs, ∃ more : Array Value, s'.heap.get? p.2 = some (PySem.W.tabObj more) := by
          intro p hp
          obtain ⟨more, z⟩ := un.tbls p.2 #[] (htb p hp)
          exact ⟨_, hok' p.2 _ z⟩
        refine ⟨rfl, ⟨?_, ?_⟩, os, bare⟩
        · intro b o e
          by_cases hb : b ∈ cs.map (·.2)
          · obtain ⟨p, hp, rfl⟩ := List.mem_map.mp hb
            obtain ⟨more, hm⟩ := gr p hp
            rw [TA.emp p hp] at e
            cases e
            refine .inr (.inl ⟨((TA.cod p hp).tab (TA.emp p hp)).isCodeTable, rfl, #[], more, rfl, ?_⟩)
            rw [Array.empty_append]
            exact hm
          · exact .inl (key b o hb e)
        · intro b o e
          by_cases hb : b ∈ cs.map (·.2)
          · obtain ⟨p, hp, rfl⟩ := List.mem_map.mp hb
            obtain ⟨more, hm⟩ := gr p hp
            exact ⟨_, hm⟩
          · exact ⟨o, key b o hb e⟩
      | _ => exact h.elim
open Classical in
theorem law_G (hk : G.K.In s1.heap) (hn : s1.heap.Ns mainGlobals G.mg) (hb : s1.heap.Ns builtinsNs mb) (hv : ∀ y : Str, y ≠ "__name__" → mb y = bootBuiltins y) (hl : s1.heap.NoLimit) (hg : s1.gens = #[])
    (ha : s1.heap.get? a = some { cls := .type "list", data := .seq vs.toArray }) (hi : IntsAre vs ns) (hz : ns.length ≤ sizeLine) (hr : Room k callerA) (TA : TbAt G s1.heap cs) (BA : BmAt G s1.heap)
    (F : ∀ base : Heap, G.K.In base → base.Ns mainGlobals G.mg → (∀ p ∈ cs, LamX.TabB base G.mg p.1 p.2) → GFn G P w base k fa fd [x] mf) (hbind : ∀ (s : Shared) (u : Value), BindsTo s fd ⟨[u], []⟩ [(x, u)]) (hm : ∃ S, mf [.kst (ns.map D.int)] [] = .ok (.bl true) S) :
    codeAny (model P w) callerA (.call (.ref fa) ⟨[.ref a], []⟩) (fun r s' => r = .ok (.ret (.bool true)) ∧ OldK s1.heap s'.heap ∧ s'.os = s1.os ∧ AllBare s'.gens) s1 := by
  have rv := vals_ints hi
  have aT : a ∉ cs.map (·.2) := by
    intro z
    obtain ⟨p, hp, e⟩ := List.mem_map.mp z
    have q := TA.emp p hp
    have e' : p.2 = a := e
    rw [e', ha] at q
    have z' := congrArg Obj.data (Option.some.inj q)
    cases z'
  obtain ⟨FT, hFT⟩ : ∃ FT : Hp, FT = fun b => if b ∈ cs.map (·.2) then some (.tbl #[]) else none := ⟨_, rfl⟩
  have fT : ∀ p ∈ cs, FT p.2 = some (.tbl #[]) := fun p hp => by
    rw [hFT]
    exact if_pos (List.mem_map.mpr ⟨p, hp, rfl⟩)
  have fN : ∀ b, b ∉ cs.map (·.2) → FT b = none := fun b h => by
    rw [hFT]
    exact if_neg h
  have fOk : ∀ b u, FT b = some u → b ∈ cs.map (·.2) ∧ u = .tbl #[] ∧ s1.heap.get? b = some (PySem.W.tabObj #[]) := fun b u e => by
    by_cases h : b ∈ cs.map (·.2)
    · obtain ⟨p, hp, rfl⟩ := List.mem_map.mp h
      rw [fT p hp] at e
      cases e
      exact ⟨h, rfl, TA.emp p hp⟩
    · rw [fN b h] at e
      cases e
  by_cases hlk : G.K.lookup a = none
  · obtain ⟨F0, hF0⟩ : ∃ F0 : Hp, F0 = fun b => if b = a then some (.frz { cls := .type "list", data := .seq vs.toArray } (.lst (ns.map V.int))) else none := ⟨_, rfl⟩
    obtain ⟨H, hH⟩ : ∃ H : Hp, H = upd FT a (.frz { cls := .type "list", data := .seq vs.toArray } (.lst (ns.map V.int))) := ⟨_, rfl⟩
    have ha0 : F0 a = some (.frz { cls := .type "list", data := .seq vs.toArray } (.lst (ns.map V.int))) := by rw [hF0]; exact if_pos rfl
    have ha' : H a = some (.frz { cls := .type "list", data := .seq vs.toArray } (.lst (ns.map V.int))) := by rw [hH]; exact upd_same
    have hx : ∀ b, b ≠ a → H b = FT b := fun b hb => by rw [hH]; exact upd_ne hb
    have f0 : ∀ b u, F0 b = some u → b = a ∧ u = .frz { cls := .type "list", data := .seq vs.toArray } (.lst (ns.map V.int)) := fun b u e => by
      by_cases hb : b = a
      · subst hb
        rw [ha0] at e
        cases e
        exact ⟨rfl, rfl⟩
      · simp only [hF0, if_neg hb] at e
        cases e
    refine law_core hk hn hb hv hl hg ha hr TA BA F hbind hm H F0 (fun b u e => ?_) (fun b u e => ?_) (.inl (.inr ⟨_, ha0⟩)) ?_ (fun p hp => ?_) ?_
    · obtain ⟨rfl, rfl⟩ := f0 b u e
      exact ha'
    · obtain ⟨_, rfl⟩ := f0 b u e
      trivial
    · intro b u z
      by_cases hba : b = a
      · subst hba
        rw [ha'] at z
        cases z
        exact ⟨ha, by simpa using hz, vs, _, rv, ha⟩
      · rw [hx b hba] at z
        obtain ⟨_, rfl, q⟩ := fOk b u z
        exact q
    · rw [hx _ (fun z => aT (List.mem_map.mpr ⟨p, hp, z⟩))]
      exact fT p hp
    · intro b z
      by_cases hba : b = a
      · subst hba
        exact .inl ⟨rfl, hlk, _, _, ha'⟩
      · rw [hx b hba] at z
        by_cases hc : b ∈ cs.map (·.2)
        · exact .inr hc
        · exact absurd (fN b hc) z
  · obtain ⟨o, ho⟩ := Option.ne_none_iff_exists'.mp hlk
    have e := hk a o ho
    rw [ha] at e
    cases e
    refine law_core hk hn hb hv hl hg ha hr TA BA F hbind hm FT (fun _ => none) (fun b u z => by cases z) (fun b u z => by cases z) (.inr ⟨_, vs.toArray, _, ho, rfl, rfl, rfl, ?_, by simpa using rv⟩) (fun b u z => ?_) fT (fun b z => ?_)
    · have hlen := hi.length
      rw [List.size_toArray, hlen]
      exact hz
    · obtain ⟨_, rfl, q⟩ := fOk b u z
      exact q
    · by_cases hc : b ∈ cs.map (·.2)
      · exact .inr hc
      · exact absurd (fN b hc) z
end

/-! ## the code tables of defs that hold lambdas -/
def lamN (x : Str) : Str := (x ++ ".<locals>.") ++ "<lambda>"
/-- a def's code object and its table -/
def tcOf (K : PySem.W.Frag) (x : Str) : Addr × Addr := (PySem.W.tabIn K x).getD (0, 0)
def tabsL (K : PySem.W.Frag) (xs : List Str) : List (Addr × Str) := xs.map fun x => ((tcOf K x).2, lamN x)
def tabsB (K : PySem.W.Frag) (q : Program) (xs : List Str) : Bool :=
  (xs.all fun x => (PySem.W.tabIn K x).isSome && ((K.lookup (tcOf K x).2).isNone && ((recsOf q).find? fun e => e.name == x).isSome)) && decide ((xs.map fun x => (tcOf K x).2).Nodup)
theorem tabsB_at {K : PySem.W.Frag} {q : Program} {xs : List Str} (h : tabsB K q xs = true) {x : Str} (hx : x ∈ xs) : PySem.W.tabIn K x = some (tcOf K x) ∧ K.lookup (tcOf K x).2 = none ∧ ∃ d, (recsOf q).find? (fun e => e.name == x) = some d := by
  unfold tabsB at h
  rw [Bool.and_eq_true, List.all_eq_true] at h
  have h1 := h.1 x hx
  rw [Bool.and_eq_true, Bool.and_eq_true] at h1
  obtain ⟨p, hp⟩ := Option.isSome_iff_exists.mp h1.1
  refine ⟨?_, Option.isNone_iff_eq_none.mp h1.2.1, Option.isSome_iff_exists.mp h1.2.2⟩
  unfold tcOf
  rw [hp]
  rfl
theorem tabsB_inj {K : PySem.W.Frag} {q : Program} {xs : List Str} (h : tabsB K q xs = true) {x : Str} (hx : x ∈ xs) : ∀ p ∈ tabsL K xs, p.1 = (tcOf K x).2 → p.2 = lamN x := by
  unfold tabsB at h
  rw [Bool.and_eq_true] at h
  have nd := of_decide_eq_true h.2
  clear h
  intro p hp e
  obtain ⟨y, hy, rfl⟩ := List.mem_map.mp hp
  have e' : (tcOf K y).2 = (tcOf K x).2 := e
  have : ∀ (l : List Str), (l.map fun x => (tcOf K x).2).Nodup → x ∈ l → y ∈ l → y = x := by
    intro l
    induction l with
    | nil => intro _ h; cases h
    | cons z l ih =>
      intro nd h1 h2
      rw [List.map_cons, List.nodup_cons] at nd
      rcases List.mem_cons.mp h1 with g1 | g1
      · rcases List.mem_cons.mp h2 with g2 | g2
        · rw [g1, g2]
        · exact (nd.1 (List.mem_map.mpr ⟨y, g2, by rw [← g1]; exact e'⟩)).elim
      · rcases List.mem_cons.mp h2 with g2 | g2
        · exact (nd.1 (List.mem_map.mpr ⟨x, g1, by rw [← g2]; exact e'.symm⟩)).elim
        · exact ih nd.2 g1 g2
  rw [this xs nd hx hy]
/-- what a def that holds lambdas knows of its table -/
structure TabL (G : Gm) (base : Heap) (fd : FuncData) (x : Str) : Prop where
  ex : ∃ c P, fd.code = .ref c ∧ LamX.TabB base G.mg c P ∧ (P, lamN x) ∈ G.tabs ∧ ∀ p ∈ G.tabs, p.1 = P → p.2 = lamN x
theorem tab_code {K : PySem.W.Frag} {x : Str} {f : Addr} {oc : Value} {od : Option Addr} {fd : FuncData} {sl : Array (Option Value)} {p : Addr × Addr} (a : PySem.W.nsIn K mainGlobals x = some (some (.ref f))) (l : K.lookup f = some ⟨oc, od, .func fd, sl⟩) (h : PySem.W.tabIn K x = some p) : fd.code = .ref p.1 := by
  unfold PySem.W.tabIn at h
  rw [a] at h
  simp only at h
  rw [l] at h
  simp only at h
  split at h
  · rename_i c hc
    split at h
    · split at h
      · cases h
        exact hc
      · cases h
    · cases h
  · cases h
theorem tabL_mk {G : Gm} {base : Heap} {x : Str} {q : Program} {xs : List Str} {f : Addr} {oc : Value} {od : Option Addr} {fd : FuncData} {sl : Array (Option Value)} (hT : G.tabs = tabsL G.K xs) (hb : tabsB G.K q xs = true) (hx : x ∈ xs) (a : PySem.W.nsIn G.K mainGlobals x = some (some (.ref f))) (l : G.K.lookup f = some ⟨oc, od, .func fd, sl⟩)
    (tb : ∀ y ∈ xs, LamX.TabB base G.mg (tcOf G.K y).1 (tcOf G.K y).2) : TabL G base fd x := by
  refine ⟨_, _, tab_code a l (tabsB_at hb hx).1, tb x hx, ?_, ?_⟩
  · rw [hT]
    exact List.mem_map.mpr ⟨x, hx, rfl⟩
  · rw [hT]
    exact tabsB_inj hb hx
/-- the goal that k_head leaves -/
theorem walk_G {l : PySem.W.OpenLaw} {n k : Nat} {q : Program} {loose : List Str} {XP : (Str → Option Value) → Heap → Prop} {YP : World → Heap → Prop} {d : DefRec} {K : Params → PySem.W.Frag} {x : Str} {mf : MF} (xs : List Str)
    (hn : l.most = some n) (hn2 : n ≤ sizeLine) (hdf : d.params.defaults = []) (hr : Room k callerA) (hY : ∀ (w : World) (h : Heap), YP w h → (K w.params).In h) (hx : ∀ w : World, tabsB (K w.params) q xs = true)
    (F : ∀ (w : World) (mg : Str → Option Value) (fa : Addr) (h : Heap), (K w.params).In h → h.Ns mainGlobals mg → mg d.name = some (.ref fa) → tabsB (K w.params) q xs = true →
      ∃ (cl fn : Nat → Addr) (fd : FuncData), (∀ (s : Shared) (u : Value), BindsTo s fd ⟨[u], []⟩ [(x, u)]) ∧
        ∀ base : Heap, (K w.params).In base → base.Ns mainGlobals mg → (∀ y ∈ xs, LamX.TabB base mg (tcOf (K w.params) y).1 (tcOf (K w.params) y).2) → GFn ⟨K w.params, mg, cl, tabsL (K w.params) xs, fn⟩ l.prog w base k fa fd [x] mf)
    (hlaw : LawHolds n mf) : PySem.W.WalkO q loose XP YP l.row.toRowW d [] (fun f vs => PySem.call f vs) := by
  refine Att.attach_call hn hdf ?_
  intro w s0 s1 mg mb fa o pm cd doc a vs ns G Y ho hd hcd hmg hobj hints hlen hg
  have KX := hY w _ Y
  have hxw := hx w
  obtain ⟨cl, fn, fd, hb, hF⟩ := F w mg fa _ KX G.T.g hmg hxw
  refine law_G (G := ⟨K w.params, mg, cl, tabsL (K w.params) xs, fn⟩) (cs := xs.map (tcOf (K w.params))) KX G.T.g G.T.b G.T.builtins G.T.nolimit hg hobj hints (Nat.le_trans hlen hn2) hr ⟨?_, ?_, ?_, ?_⟩ G.T.bmain
    (fun base h1 h2 h3 => hF base h1 h2 fun y hy => h3 _ (List.mem_map.mpr ⟨y, hy, rfl⟩)) hb (hlaw ns hlen)
  · intro p hp
    obtain ⟨y, hy, rfl⟩ := List.mem_map.mp hp
    obtain ⟨h1, h2, d', h3⟩ := tabsB_at hxw hy
    exact (PySem.W.tab_of G.T KX h3 h1).2
  · intro p hp
    obtain ⟨y, hy, rfl⟩ := List.mem_map.mp hp
    exact (tabsB_at hxw hy).2.1
  · intro p hp
    obtain ⟨y, hy, rfl⟩ := List.mem_map.mp hp
    obtain ⟨h1, h2, d', h3⟩ := tabsB_at hxw hy
    exact (PySem.W.tab_of G.T KX h3 h1).1
  · intro p hp
    obtain ⟨y, hy, rfl⟩ := List.mem_map.mp hp
    exact ⟨_, List.mem_map.mpr ⟨y, hy, rfl⟩, rfl⟩
end Z

set_option Elab.async false
set_option linter.all false
set_option maxRecDepth 100000
set_option maxHeartbeats 2000000
set_option autoImplicit false
namespace Z
open PySem PySem.Spec L2

/-! ## short words for printed proofs -/
/-- a def of the module -/
structure Df (G : Gm) (x : Str) (st : Stmt) (ps : List Str) (f : Addr) (fd : FuncData) : Prop where
  fg : FunG G.K x x st f fd
  mg : G.mg x = some (.ref f)
  bd : BdP G.K fd ps
section
variable {G : Gm} {X : Cx} {W : WX} {k j : Nat}
theorem cx_call {f : Addr} {fd : FuncData} {ps : List Str} {mf : MF} {x : Str} {st : Stmt} {p pos : Pos} {e : Expr} {es : List Expr} {m : ML} (ok : Ok G X k W) (d : Df G x st ps f fd) (g : GFn G X.prog X.w X.base j f fd ps mf) (hl : ∀ ds S, mf ds S ≠ .bad → ds.length = ps.length) (ha : SA G X W (e :: es) m)
    (hj : j ≤ k := by first | decide | omega) (hg : Gl X x := by rfl) (hdb : (x == ("__debug__" : Str)) = false := by decide) (he : starEach (e :: es) X.env = (false, eval e X.env) :: starEach es X.env := by rfl) (hpl : (backTo pos (starEach es X.env)).any (·.1) = false := by rfl) :
    SE G X W (.Call (.Name x p) (e :: es) [] pos) (mCall mf m) := se_call ok g hj hl d.mg d.fg.kp d.bd ha hg hdb he hpl
theorem cx_call0 {f : Addr} {fd : FuncData} {ps : List Str} {mf : MF} {x : Str} {st : Stmt} {p pos : Pos} (ok : Ok G X k W) (d : Df G x st ps f fd) (g : GFn G X.prog X.w X.base j f fd ps mf) (hl : ∀ ds S, mf ds S ≠ .bad → ds.length = ps.length)
    (hj : j ≤ k := by first | decide | omega) (hg : Gl X x := by rfl) (hdb : (x == ("__debug__" : Str)) = false := by decide) :
    SE G X W (.Call (.Name x p) [] [] pos) (mCall mf mNilL) := se_call0 ok g hj hl d.mg d.fg.kp d.bd hg hdb
theorem cx_ty {x : Str} {n : String} {pos : Pos} (ok : Ok G X k W) (hm : G.mg x = none) (hv : bootBuiltins x = some (.type n) := by decide +kernel) (hg : Gl X x := by rfl) (hn : x ≠ "__name__" := by decide) (hdb : (x == ("__debug__" : Str)) = false := by decide) : SE G X W (.Name x pos) (mC (.ty n)) :=
  se_c (pe_bltn hg (by rw [ok.mg]; exact hm) hv (show RelV (.ty n) (.type n) from rfl) hn hdb) fun _ _ => .ty n
theorem cx_abs {p pos : Pos} {e : Expr} {es : List Expr} {m : ML} (ok : Ok G X k W) (hm : G.mg "abs" = none) (ha : SA G X W (e :: es) m) (hg : Gl X "abs" := by rfl) (he : starEach (e :: es) X.env = (false, eval e X.env) :: starEach es X.env := by rfl) (hpl : (backTo pos (starEach es X.env)).any (·.1) = false := by rfl) : SE G X W (.Call (.Name "abs" p) (e :: es) [] pos) (mCall (f1 absD) m) :=
  se_callB ci_abs call_abs ok.mg hm (by decide +kernel) ha hg (by decide) (by decide) he hpl
theorem cx_len {p pos : Pos} {e : Expr} {es : List Expr} {m : ML} (ok : Ok G X k W) (hm : G.mg "len" = none) (ha : SA G X W (e :: es) m) (hg : Gl X "len" := by rfl) (he : starEach (e :: es) X.env = (false, eval e X.env) :: starEach es X.env := by rfl) (hpl : (backTo pos (starEach es X.env)).any (·.1) = false := by rfl) : SE G X W (.Call (.Name "len" p) (e :: es) [] pos) (mCall (f1 lenD) m) :=
  se_callB (ci_len ok.K) call_len ok.mg hm (by decide +kernel) ha hg (by decide) (by decide) he hpl
theorem cx_all {p pos : Pos} {e : Expr} {es : List Expr} {m : ML} (ok : Ok G X k W) (hm : G.mg "all" = none) (ha : SA G X W (e :: es) m) (hg : Gl X "all" := by rfl) (he : starEach (e :: es) X.env = (false, eval e X.env) :: starEach es X.env := by rfl) (hpl : (backTo pos (starEach es X.env)).any (·.1) = false := by rfl) : SE G X W (.Call (.Name "all" p) (e :: es) [] pos) (mCall (f1 allD) m) :=
  se_callB ci_all (cr_all ok.calm) ok.mg hm (by decide +kernel) ha hg (by decide) (by decide) he hpl
theorem cx_any {p pos : Pos} {e : Expr} {es : List Expr} {m : ML} (ok : Ok G X k W) (hm : G.mg "any" = none) (ha : SA G X W (e :: es) m) (hg : Gl X "any" := by rfl) (he : starEach (e :: es) X.env = (false, eval e X.env) :: starEach es X.env := by rfl) (hpl : (backTo pos (starEach es X.env)).any (·.1) = false := by rfl) : SE G X W (.Call (.Name "any" p) (e :: es) [] pos) (mCall (f1 anyD) m) :=
  se_callB ci_any (cr_any ok.calm) ok.mg hm (by decide +kernel) ha hg (by decide) (by decide) he hpl
theorem cx_repr {p pos : Pos} {e : Expr} {es : List Expr} {m : ML} (ok : Ok G X k W) (hm : G.mg "repr" = none) (ha : SA G X W (e :: es) m) (hg : Gl X "repr" := by rfl) (he : starEach (e :: es) X.env = (false, eval e X.env) :: starEach es X.env := by rfl) (hpl : (backTo pos (starEach es X.env)).any (·.1) = false := by rfl) : SE G X W (.Call (.Name "repr" p) (e :: es) [] pos) (mCall (f1 reprD) m) :=
  se_callB (ci_repr ok.K) (cr_repr ok.gd ok.room) ok.mg hm (by decide +kernel) ha hg (by decide) (by decide) he hpl
theorem cx_isi {tab : Tab} {p pos : Pos} {e : Expr} {es : List Expr} {m : ML} (ok : Ok G X k W) (T : TabOk G tab) (hm : G.mg "isinstance" = none) (ha : SA G X W (e :: es) m) (hg : Gl X "isinstance" := by rfl) (he : starEach (e :: es) X.env = (false, eval e X.env) :: starEach es X.env := by rfl) (hpl : (backTo pos (starEach es X.env)).any (·.1) = false := by rfl) : SE G X W (.Call (.Name "isinstance" p) (e :: es) [] pos) (mCall (isiM tab) m) :=
  se_callB (ci_isi T) (cr_isi ok.K) ok.mg hm (by decide +kernel) ha hg (by decide) (by decide) he hpl
theorem cx_int {p pos : Pos} {e : Expr} {es : List Expr} {m : ML} (ok : Ok G X k W) (hm : G.mg "int" = none) (ha : SA G X W (e :: es) m) (hg : Gl X "int" := by rfl) (he : starEach (e :: es) X.env = (false, eval e X.env) :: starEach es X.env := by rfl) (hpl : (backTo pos (starEach es X.env)).any (·.1) = false := by rfl) : SE G X W (.Call (.Name "int" p) (e :: es) [] pos) (mCall (f1 intD) m) :=
  se_callTy ci_int call_int1 ok.mg hm (by decide +kernel) ha hg (by decide) (by decide) he hpl
theorem cx_tuple {p pos : Pos} {e : Expr} {es : List Expr} {m : ML} (ok : Ok G X k W) (hm : G.mg "tuple" = none) (ha : SA G X W (e :: es) m) (hg : Gl X "tuple" := by rfl) (he : starEach (e :: es) X.env = (false, eval e X.env) :: starEach es X.env := by rfl) (hpl : (backTo pos (starEach es X.env)).any (·.1) = false := by rfl) : SE G X W (.Call (.Name "tuple" p) (e :: es) [] pos) (mCall (f1 tupD) m) :=
  se_callTy (ci_tup ok.K) call_tuple_of ok.mg hm (by decide +kernel) ha hg (by decide) (by decide) he hpl
theorem cx_list {p pos : Pos} {e : Expr} {es : List Expr} {m : ML} (ok : Ok G X k W) (hm : G.mg "list" = none) (ha : SA G X W (e :: es) m) (hg : Gl X "list" := by rfl) (he : starEach (e :: es) X.env = (false, eval e X.env) :: starEach es X.env := by rfl) (hpl : (backTo pos (starEach es X.env)).any (·.1) = false := by rfl) : SE G X W (.Call (.Name "list" p) (e :: es) [] pos) (mCall (f1 listD) m) :=
  se_callTy (ci_list ok.K) call_list_of ok.mg hm (by decide +kernel) ha hg (by decide) (by decide) he hpl
theorem cx_listL {p pos : Pos} {e : Expr} {es : List Expr} {m : ML} (ok : Ok G X k W) (hm : G.mg "list" = none) (ha : SA G X W (e :: es) m) (hg : Gl X "list" := by rfl) (he : starEach (e :: es) X.env = (false, eval e X.env) :: starEach es X.env := by rfl) (hpl : (backTo pos (starEach es X.env)).any (·.1) = false := by rfl) : SE G X W (.Call (.Name "list" p) (e :: es) [] pos) (mCall (f1 listLD) m) :=
  se_callTy (ci_listL ok.K) call_list_of ok.mg hm (by decide +kernel) ha hg (by decide) (by decide) he hpl
theorem cx_add {a b : Expr} {pos : Pos} {ma mb : ME} (ok : Ok G X k W) (ha : SE G X W a ma) (hb : SE G X W b mb) : SE G X W (.BinOp a .Add b pos) (mBin addD ma mb) := se_op (oi_add ok.K) or_add ha hb
theorem cx_sub {a b : Expr} {pos : Pos} {ma mb : ME} (ok : Ok G X k W) (ha : SE G X W a ma) (hb : SE G X W b mb) : SE G X W (.BinOp a .Sub b pos) (mBin subD ma mb) := se_op oi_sub or_sub ha hb
theorem cx_mul {a b : Expr} {pos : Pos} {ma mb : ME} (ok : Ok G X k W) (ha : SE G X W a ma) (hb : SE G X W b mb) : SE G X W (.BinOp a .Mult b pos) (mBin mulD ma mb) := se_op oi_mul or_mul ha hb
theorem cx_fdiv {a b : Expr} {pos : Pos} {ma mb : ME} (ok : Ok G X k W) (ha : SE G X W a ma) (hb : SE G X W b mb) : SE G X W (.BinOp a .FloorDiv b pos) (mBin fdivD ma mb) := se_op oi_fdiv op_fdivW ha hb
theorem cx_mod {a b : Expr} {pos : Pos} {ma mb : ME} (ok : Ok G X k W) (ha : SE G X W a ma) (hb : SE G X W b mb) : SE G X W (.BinOp a .Mod b pos) (mBin modD ma mb) := se_op oi_mod op_mod ha hb
theorem cx_pow {a b : Expr} {pos : Pos} {ma mb : ME} (ok : Ok G X k W) (ha : SE G X W a ma) (hb : SE G X W b mb) : SE G X W (.BinOp a .Pow b pos) (mBin powD ma mb) := se_op oi_pow op_pow ha hb
theorem cx_neg {a : Expr} {pos : Pos} {ma : ME} (ok : Ok G X k W) (ha : SE G X W a ma) : SE G X W (.UnaryOp .USub a pos) (mUn negD ma) := se_un ui_neg un_neg ha
theorem cx_lt {a b : Expr} {pos : Pos} {ma mb : ME} (ok : Ok G X k W) (ha : SE G X W a ma) (hb : SE G X W b mb) : SE G X W (.Compare a [.Lt] [b] pos) (mBin ltD ma mb) := se_cmp oi_lt or_lt ha hb (nomark _)
theorem cx_le {a b : Expr} {pos : Pos} {ma mb : ME} (ok : Ok G X k W) (ha : SE G X W a ma) (hb : SE G X W b mb) : SE G X W (.Compare a [.LtE] [b] pos) (mBin leD ma mb) := se_cmp oi_le op_le ha hb (nomark _)
theorem cx_gt {a b : Expr} {pos : Pos} {ma mb : ME} (ok : Ok G X k W) (ha : SE G X W a ma) (hb : SE G X W b mb) : SE G X W (.Compare a [.Gt] [b] pos) (mBin gtD ma mb) := se_cmp oi_gt op_gt ha hb (nomark _)
theorem cx_ge {a b : Expr} {pos : Pos} {ma mb : ME} (ok : Ok G X k W) (ha : SE G X W a ma) (hb : SE G X W b mb) : SE G X W (.Compare a [.GtE] [b] pos) (mBin geD ma mb) := se_cmp oi_ge op_ge ha hb (nomark _)
theorem cx_eq {a b : Expr} {pos : Pos} {ma mb : ME} (ok : Ok G X k W) (ha : SE G X W a ma) (hb : SE G X W b mb) : SE G X W (.Compare a [.Eq] [b] pos) (mBin eqD ma mb) := se_cmp (oi_eq ok.K) (or_eq ok.room) ha hb (nomark _)
theorem cx_ne {a b : Expr} {pos : Pos} {ma mb : ME} (ok : Ok G X k W) (ha : SE G X W a ma) (hb : SE G X W b mb) : SE G X W (.Compare a [.NotEq] [b] pos) (mBin neD ma mb) := se_cmp (oi_ne ok.K) (or_ne ok.room) ha hb (nomark _)
theorem cx_is {a b : Expr} {pos : Pos} {ma mb : ME} (ok : Ok G X k W) (ha : SE G X W a ma) (hb : SE G X W b mb) : SE G X W (.Compare a [.Is] [b] pos) (mBin isD ma mb) := se_cmp oi_is or_is ha hb (nomark _)
theorem cx_isNot {a b : Expr} {pos : Pos} {ma mb : ME} (ok : Ok G X k W) (ha : SE G X W a ma) (hb : SE G X W b mb) : SE G X W (.Compare a [.IsNot] [b] pos) (mBin isNotD ma mb) := se_cmp oi_isNot or_isNot ha hb (nomark _)
theorem ct_lt {a b : Expr} {pos : Pos} {ma mb : ME} (ok : Ok G X k W) (ha : SE G X W a ma) (hb : SE G X W b mb) : ST G X W (.Compare a [.Lt] [b] pos) (mBlT (mBin ltD ma mb)) := st_cmp oi_lt or_lt ha hb (nomark _)
theorem ct_le {a b : Expr} {pos : Pos} {ma mb : ME} (ok : Ok G X k W) (ha : SE G X W a ma) (hb : SE G X W b mb) : ST G X W (.Compare a [.LtE] [b] pos) (mBlT (mBin leD ma mb)) := st_cmp oi_le op_le ha hb (nomark _)
theorem ct_gt {a b : Expr} {pos : Pos} {ma mb : ME} (ok : Ok G X k W) (ha : SE G X W a ma) (hb : SE G X W b mb) : ST G X W (.Compare a [.Gt] [b] pos) (mBlT (mBin gtD ma mb)) := st_cmp oi_gt op_gt ha hb (nomark _)
theorem ct_ge {a b : Expr} {pos : Pos} {ma mb : ME} (ok : Ok G X k W) (ha : SE G X W a ma) (hb : SE G X W b mb) : ST G X W (.Compare a [.GtE] [b] pos) (mBlT (mBin geD ma mb)) := st_cmp oi_ge op_ge ha hb (nomark _)
theorem ct_eq {a b : Expr} {pos : Pos} {ma mb : ME} (ok : Ok G X k W) (ha : SE G X W a ma) (hb : SE G X W b mb) : ST G X W (.Compare a [.Eq] [b] pos) (mBlT (mBin eqD ma mb)) := st_cmp (oi_eq ok.K) (or_eq ok.room) ha hb (nomark _)
theorem ct_ne {a b : Expr} {pos : Pos} {ma mb : ME} (ok : Ok G X k W) (ha : SE G X W a ma) (hb : SE G X W b mb) : ST G X W (.Compare a [.NotEq] [b] pos) (mBlT (mBin neD ma mb)) := st_cmp (oi_ne ok.K) (or_ne ok.room) ha hb (nomark _)
theorem ct_is {a b : Expr} {pos : Pos} {ma mb : ME} (ok : Ok G X k W) (ha : SE G X W a ma) (hb : SE G X W b mb) : ST G X W (.Compare a [.Is] [b] pos) (mBlT (mBin isD ma mb)) := st_cmp oi_is or_is ha hb (nomark _)
theorem ct_isNot {a b : Expr} {pos : Pos} {ma mb : ME} (ok : Ok G X k W) (ha : SE G X W a ma) (hb : SE G X W b mb) : ST G X W (.Compare a [.IsNot] [b] pos) (mBlT (mBin isNotD ma mb)) := st_cmp oi_isNot or_isNot ha hb (nomark _)
theorem bdK_mk {K : PySem.W.Frag} {x q : Str} {st : Stmt} {f : Addr} {fd : FuncData} (_ : FunG K x q st f fd) {ps : List Str} {n : Nat} {ks : List Str} {src : List Src}
    (h : ∀ us ws r : List Value, us.length = n → ws.length = ks.length → fill us ws [] src = some r → bindArgs fd ⟨us, ks.zip ws⟩ = pure (ps.zip r)) : BdK K fd ps n ks src [] := fun s us ws r _ h1 h2 h3 => .of_eq (h us ws r h1 h2 h3)
theorem runL {n m : Nat} {b : MS} : ∀ ds S, cutM (runDef n m b) ds S ≠ .bad → ds.length = n := cutM_len fun _ _ h => runDef_len h
end
end Z

set_option Elab.async false
set_option linter.all false
set_option maxRecDepth 100000
set_option maxHeartbeats 4000000
set_option autoImplicit false
namespace PySem
namespace ZX
open PySem.HandSPX PySem.Calls PyProof.Rows

/-! ## an own exception class called, keywords too -/
section
variable {M : Model} {A : Around} {E : Value → Shared → Prop} {h : Heap} {g : Array GenState} {d : Drawn} {t : Nat} {os : OsState}
variable {nm q : Str} {C N : Addr} {bs bm bmB : List Value} {hdct : Bool} {sn : List Str} {sub : List Value} {ab : Bool} {col : Option Bool} {dd : Option Addr} {k0 k1 k2 k3 k5 : Option Value} {B newId initId : String}
theorem kcheck_new (F : ExcBaseFacts B newId initId bmB) (hT : ∀ X : String, bm.contains (.type X) = bmB.contains (.type X)) {rest : List Value} {kw : List (Str × Value)} {Q : Unit → Shared → Prop}
    (hC : h.get? C = some (excClassObj nm q C N bs bm hdct sn sub ab col dd k0 k1 k2 k3 k5 newId)) (hq : Q () ⟨h, g, d, t, os⟩) : wpAny M A (checkBuiltinCall newId ⟨.ref C :: rest, kw⟩) Q E ⟨h, g, d, t, os⟩ := by
  have hcont : (Value.ref C :: bm).contains (.type B) = true := by rw [List.contains_cons, hT, F.hasB, Bool.or_true]
  have hstar := F.noStar
  simp only [checkBuiltinCall, F.newKind, F.newSplit, F.newRow]
  repeat (first | refine wpAny_loadPart_at hC ?_ | (refine wpAny_isSubtype_exc hC ?_; rw [hcont]) | refine wpAny_staticBase_exc hC ?_ | refine wpAny_madeBy_exc hC ?_ | simp only [bne_self_eq_false, Bool.false_eq_true, if_false] | wp_step)
  exact hq
theorem kcheck_type {rest : List Value} {kw : List (Str × Value)} {Q : Unit → Shared → Prop} (hC : h.get? C = some (excClassObj nm q C N bs bm hdct sn sub ab col dd k0 k1 k2 k3 k5 newId))
    (hq : Q () ⟨h, g, d, t, os⟩) : wpAny M A (checkBuiltinCall "type.__call__" ⟨.ref C :: rest, kw⟩) Q E ⟨h, g, d, t, os⟩ := by
  have f3 := tc_sub
  have hT : (⟨h, g, d, t, os⟩ : Shared).TypeIs (.ref C) "type" := ⟨_, hC, rfl⟩
  simp only [checkBuiltinCall, tc_kind, tc_split]
  repeat (any_goals (first | assumption | with_reducible refine wpAny_loadPart_at hC ?_ | with_reducible refine wpAny_onRaise ?_ | with_reducible refine wpAny_map ?_ | wp_step))
end
section
variable {prog : Program} {w : World} {A : Around} {E : Value → Shared → Prop} {R : Result → Shared → Prop} {h : Heap} {g : Array GenState} {d : Drawn} {t : Nat} {os : OsState}
variable {nm q : Str} {C N : Addr} {bs bm bmB : List Value} {hdct : Bool} {sn : List Str} {sub : List Value} {ab : Bool} {col : Option Bool} {dd : Option Addr} {k0 k1 k2 k3 k5 : Option Value} {B newId initId : String}
theorem knew_own (F : ExcBaseFacts B newId initId bmB) (hT : ∀ X : String, bm.contains (.type X) = bmB.contains (.type X)) {rest : List Value} {kw : List (Str × Value)}
    (hC : h.get? C = some (excClassObj nm q C N bs bm hdct sn sub ab col dd k0 k1 k2 k3 k5 newId))
    (hq : R (.ok (.ret (.ref (h.objs.size + 1)))) ⟨(h.push { cls := .type "tuple", data := .seq rest.toArray }).push
      { cls := .ref C, data := .fields #[.ref h.objs.size, .none, .none, .none, .bool false, .none] }, g, d, t, os⟩) (hrest : rest.length ≤ sizeLine) :
    codeAny (model prog w) A (.builtin newId ⟨.ref C :: rest, kw⟩) R ⟨h, g, d, t, os⟩ := by
  have hends := F.ends
  have hcB : (Value.ref C :: bm).contains (.type B) = true := by rw [List.contains_cons, hT, F.hasB, Bool.or_true]
  have hcA : (Value.ref C :: bm).contains (.type "AttributeError") = false := by rw [List.contains_cons, hT, F.noAttr]; rfl
  have hcN : (Value.ref C :: bm).contains (.type "NameError") = false := by rw [List.contains_cons, hT, F.noName]; rfl
  refine codeAny_builtinAt F.entry ?_
  unfold Builtin.«BaseException.__new__»
  refine wpAt_bind ?_
  show wpAt _ _ _ (stack >>= _) _ _ _
  refine wpAt_bind (wpAt_stack fun p below => wpAt_of_wpAny ?_)
  wp_walk
  refine wpAt_of_wpAny ?_
  rw [F.owner]
  repeat (first | with_reducible refine wpAny_madeHere_exc F.canon hC ?_ | with_reducible refine wpAny_loadPart_at hC ?_ | (with_reducible refine wpAny_isSubtype_exc hC ?_; first | rw [hcB] | rw [hcA] | rw [hcN]) | wp_step)
  show R _ _
  rw [Heap.size_push]
  exact hq
theorem ktype_call (F : ExcBaseFacts B newId initId bmB) (hT : ∀ X : String, bm.contains (.type X) = bmB.contains (.type X)) {rest : List Value} {kw : List (Str × Value)} {fI : Addr} {Q : Fin → Shared → Prop}
    (hC : h.get? C = some (excClassObj nm q C N bs bm hdct sn sub ab col dd k0 k1 k2 k3 k5 newId))
    (hi : W.Looks (model prog w) h (typeLookup (.ref C) "__init__") (some (.ref fI))) (hb : ∀ self, W.Looks (model prog w) h (bindSpecial (.ref fI) self) (.ref fI, [self])) (hrest : rest.length ≤ sizeLine)
    (hq : codeAny (model prog w) A (.call (.ref fI) ⟨.ref (h.objs.size + 1) :: rest, kw⟩)
      (fun r s' => match r with | .ok (.ret v) => v = .none ∧ Q (.done (.ret (.ref (h.objs.size + 1)))) s' | .ok _ => False | .error e => E e s')
      ⟨(h.push (W.kdv_tup rest)).push (excO C h.objs.size), g, d, t, os⟩) :
    wpAny (model prog w) A (Builtin.«type.__call__» ⟨.ref C :: rest, kw⟩) Q E ⟨h, g, d, t, os⟩ := by
  repeat (first | with_reducible refine wpAny_loadPart_at hC ?_ | with_reducible refine wpAny_madeBy_exc hC ?_ | wp_step)
  refine codeAny_call_builtin_code (Code.quiet_builtin _ F.quiet) (kcheck_new F hT hC ?_)
  refine knew_own F hT hC ?_ hrest
  show wpAny _ _ _ _ _ _
  have k : ∀ b o, h.get? b = some o → ((h.push (W.kdv_tup rest)).push (excO C h.objs.size)).get? b = some o := fun b o e => Heap.get?_push_of_some _ (Heap.get?_push_of_some _ e)
  have hC₁ := k _ _ hC
  have hget : ((h.push (W.kdv_tup rest)).push (excO C h.objs.size)).get? (h.objs.size + 1) = some (excO C h.objs.size) := by heap_get
  have hcC : (Value.ref C :: bm).contains (.ref C) = true := by simp
  have i1 := hi.keeps k
  have b1 := (hb (.ref (h.objs.size + 1))).keeps k
  unfold isInstance
  repeat (first | with_reducible refine wpAny_loadPart_at hget ?_ | (with_reducible refine wpAny_isSubtype_exc hC₁ ?_; rw [hcC]) | wp_step)
  show wpAny _ _ (typeLookup (.ref C) _) _ _ _
  refine i1.at ?_
  refine wpAny_holding (wpAny_bind (b1.at ?_))
  refine wpAny_bind (wpAny_call (codeAny_mono hq fun r s' z => ?_))
  rcases r with e | (v | _ | _ | _) <;> first | exact z | exact z.elim | skip
  obtain ⟨rfl, z⟩ := z
  first
    | exact wpAny_pure (wpAny_pure z)
    | (wp_walk; exact z)
theorem kcall_own (F : ExcBaseFacts B newId initId bmB) (hT : ∀ X : String, bm.contains (.type X) = bmB.contains (.type X)) {rest : List Value} {kw : List (Str × Value)} {fI : Addr}
    (hC : h.get? C = some (excClassObj nm q C N bs bm hdct sn sub ab col dd k0 k1 k2 k3 k5 newId))
    (hi : W.Looks (model prog w) h (typeLookup (.ref C) "__init__") (some (.ref fI))) (hb : ∀ self, W.Looks (model prog w) h (bindSpecial (.ref fI) self) (.ref fI, [self])) (hrest : rest.length ≤ sizeLine)
    (hq : codeAny (model prog w) (A.under (.builtin "type.__call__" ⟨.ref C :: rest, kw⟩)) (.call (.ref fI) ⟨.ref (h.objs.size + 1) :: rest, kw⟩) (W.InitBack (h.objs.size + 1) R)
      ⟨(h.push (W.kdv_tup rest)).push (excO C h.objs.size), g, d, t, os⟩) :
    codeAny (model prog w) A (.call (.ref C) ⟨rest, kw⟩) R ⟨h, g, d, t, os⟩ := by
  have f1 := tc_lookup
  have f2 := tc_bind (.ref C)
  have hTy : (⟨h, g, d, t, os⟩ : Shared).TypeIs (.ref C) "type" := ⟨_, hC, rfl⟩
  refine codeAny_of_tree ?_
  show wpAny _ _ (callAny (.ref C) _) _ _ _
  repeat (any_goals (first | assumption | with_reducible refine wpAny_loadPart_at hC ?_ | wp_step))
  refine ⟨rfl, ?_⟩
  refine codeAny_call_builtin_at (Code.quiet_builtin _ (by decide +kernel)) entry_typeCall (kcheck_type hC (ktype_call F hT hC hi hb hrest ?_))
  refine codeAny_mono hq fun r s' z => ?_
  rcases r with e | (v | _ | _ | _) <;> exact z
end
end ZX
end PySem

set_option Elab.async false
set_option linter.all false
set_option maxRecDepth 100000
set_option maxHeartbeats 4000000
set_option autoImplicit false
namespace PySem
namespace ZX
open PySem.HandSPX PySem.Calls PySem.W

/-- the bound ValueError.__init__ called: the args are laid anew -/
theorem mw_run {prog : Program} {w : World} {A : Around} {E : Value → Shared → Prop} {h : Heap} {g : Array GenState} {d : Drawn} {t : Nat} {os : OsState}
    {nm q : Str} {C N : Addr} {bs bm : List Value} {hdct : Bool} {sn : List Str} {sub : List Value} {ab : Bool} {col : Option Bool} {dd : Option Addr} {k0 k1 k2 k3 k5 : Option Value} {u e t0 : Addr} {us : List Value} {Q : Value → Shared → Prop}
    (hC : h.get? C = some (excClassObj nm q C N bs bm hdct sn sub ab col dd k0 k1 k2 k3 k5 "ValueError.__new__")) (he : h.get? e = some (excO C t0)) (hu : h.get? u = some (kxs_mw "ValueError.__init__" e)) (hl : us.length ≤ sizeLine)
    (go : ∀ h' t1, (∀ b o, b ≠ e → h.get? b = some o → h'.get? b = some o) → h'.get? e = some (excO C t1) → Q .none ⟨h', g, d, t, os⟩) :
    wpAny (model prog w) A (call (.ref u) us) Q E ⟨h, g, d, t, os⟩ := by
  refine wpAny_call (codeAny_of_tree ?_)
  show wpAny _ A.in1 (callAny (.ref u) ⟨us, []⟩) _ _ _
  simp only [callAny]
  refine wpAny_bind (wpAny_load hu ?_)
  simp only [kxs_mw, show (Value.type "method-wrapper" == Value.type "method" || Value.type "method-wrapper" == Value.type "builtin_function_or_method" || Value.type "method-wrapper" == Value.type "method-wrapper") = true by decide, if_true]
  refine W.KFB.if_so (by decide) ?_
  refine wpAny_bind (ESX.check_bound F.excBase_ValueError hC he rfl ?_)
  refine wpAny_bind (wpAny_pure (wpAny_pure ?_))
  refine ⟨Code.quiet_builtin _ (by decide +kernel), codeAny_builtin F.excBase_ValueError.initEntry ?_⟩
  rw [Around.under_plainId F.excBase_ValueError.init.plain _]
  wp_walk
  refine go _ h.objs.size (fun b o hb ho => ?_) ?_
  · rw [Heap.get?_update_other _ _ (Ne.symm hb)]
    exact Heap.get?_push_of_some _ ho
  · rw [Heap.get?_update_self _ (Heap.get?_push_of_some _ he) rfl]
    rfl
end ZX
end PySem

namespace Z
open PySem PySem.Spec PyProof.Rows L2 PySem.W

abbrev sf (fs : List Str) : List Str := ("self" : Str) :: fs
/-- super().__init__('..') -/
def supS (t : Str) (n : Nat) (p0 p1 p2 p3 p4 p5 : Pos) : Stmt := .Expr (.Call (.Attribute (.Call (.Name "super" p0) [] [] p1) "__init__" p2) [.Constant (.str t) n p3] [] p4) p5
/-- what an own error class and its __init__ must be -/
structure InK (K : Frag) (P : Program) (C fI : Addr) (qual : Str) (st : Stmt) (fs : List Str) (fd : FuncData) : Prop where
  oex : OexC K C
  iC : findIn K (.ref C) "__init__" = some (some (.ref fI))
  tI : typeIn K (.ref fI) = some (.type "function")
  fn : ∃ (oc : Value) (od : Option Addr) (doc pm kV dV : Value) (an : Option Addr) (cda cc : Addr) (ct : Value) (osl : Array (Option Value)),
    fd = ksFn "__init__" qual (defArgs st) (defBody st) (defScope st) dV kV doc pm an (.ref cda) ct cc ∧ K.lookup fI = some ⟨oc, od, .func fd, osl⟩ ∧ codeIn K (.ref cda) qual = true ∧
    (∃ (ccl : Value) (cdd : Option Addr) (vs : Array Value) (ccs : Array (Option Value)) (file : Str) (tf : Tok), K.lookup cda = some ⟨ccl, cdd, .fields vs, ccs⟩ ∧ vs[2]? = some (.str file tf) ∧ ((P.main.file : Str) == file) = true) ∧
    ∃ (cl : Value) (cld : Option Addr) (csl : Array (Option Value)), K.lookup cc = some ⟨cl, cld, .cell (some (.ref C)), csl⟩
  sup : nsIn K mainGlobals "super" = some none
  top : (P.main.scope.names.lookup ("super" : Str)).isSome = false
  sin : ks_superIn K C C "__init__" = some (some (.builtin "ValueError.__init__"))
  opq : nsIn K cStatics "thirdparty.any" = some none
  msf : mroIn K C (.ref C) = some true
  sVE : subIn K (.ref C) (.type "ValueError") = some true
  noF : ∀ f ∈ fs, findIn K (.ref C) f = some none
/-- the def's scope -/
structure InS (fs : List Str) (sc : Scope) : Prop where
  kind : sc.kind = .function
  co : sc.isCoroutine = false
  gen : sc.isGenerator = false
  nocell : ∀ x ∈ sc.names, x.2 ≠ .cell
  par : ∀ x ∈ sf fs, sc.names.lookup x = some .local
  sup : sc.names.lookup ("super" : Str) = some .globalImplicit
  cls : sc.names.lookup ("__class__" : Str) = some .free
  free : ∀ x, sc.names.lookup x = some .free → x = "__class__"
  nd : (sf fs).Nodup

def cxI (P : Program) (w : World) (K : Frag) (mg : Str → Option Value) (base : Heap) (N : List Str) (qual : Str) (sc : Scope) (f : Addr) (cd : Value) (cc : Addr) (A : Around) (outer : List Env) (s : Shared) (H : Hp) (R : Result → Shared → Prop) : L2.Cx where
  prog := P
  w := w
  K := K
  mg := mg
  base := base
  A := A.deeper (ksEnv qual sc s.heap.objs.size f cd cc)
  N := N
  s_0 := s
  H_0 := H
  env := ksEnv qual sc s.heap.objs.size f cd cc
  outer := outer
  stack := ksEnv qual sc s.heap.objs.size f cd cc :: outer
  ex := []
  fn := fun _ => false
  calm := true
  pn := []
  xe := fun e s' => wpAny (model P w) (A.deeper (ksEnv qual sc s.heap.objs.size f cd cc)) (leaving (ksEnv qual sc s.heap.objs.size f cd cc) e) (fun _ s'' => R (.error e) s'') (fun e' s'' => R (.error e') s'') s'
section
variable {P : Program} {w : World} {K : Frag} {mg : Str → Option Value} {base : Heap} {fs : List Str} {qual : Str} {sc : Scope} {f cc C : Addr} {cd : Value} {A : Around} {outer : List Env} {s : Shared} {H : Hp} {R : Result → Shared → Prop}
theorem invI {us : List Value} {vs : List V} {h1 : Heap} {tk : Nat} (S : InS fs sc) (hd : A.handled = none) (e0 : Env0 P w K mg base A outer s H) (hl : vs.length = (sf fs).length) (r : Vals vs us)
    (hns : h1.Ns s.heap.objs.size (fun x => ((sf fs).zip us).reverse.lookup x)) (hk : ∀ b o, s.heap.get? b = some o → h1.get? b = some o)
    (hcc : ∃ o v, K.lookup cc = some o ∧ o.data = .cell v) :
    Inv (cxI P w K mg base (sf fs) qual sc f cd cc A outer s H R) [] (vs.map some) H { s with heap := h1, toks := tk } := by
  have noA : ∀ b : Addr, b ∉ (cxI P w K mg base (sf fs) qual sc f cd cc A outer s H R).ex := by
    intro b z
    exact absurd (show b ∈ ([] : List Addr) from z) (by simp)
  have hcell : ∀ x c, (cxI P w K mg base (sf fs) qual sc f cd cc A outer s H R).env.cells.lookup x = some c → x = "__class__" ∧ c = cc := by
    intro x c h
    have h' : ([(("__class__" : Str), cc)] : List (Str × Addr)).lookup x = some c := h
    by_cases hx : x = "__class__"
    · subst hx
      simp [List.lookup] at h'
      exact ⟨rfl, h'.symm⟩
    · have : (x == ("__class__" : Str)) = false := by simpa using hx
      simp [List.lookup, this] at h'
  obtain ⟨oc, ov, lcc, dcc⟩ := hcc
  have bcc := e0.mod.kin _ _ lcc
  refine ⟨⟨e0.mod, S.kind, rfl, rfl, Nat.le_refl _, ?_, ?_, ?_, fun _ => hd, Around.frames_deeper e0.frames, .inr ⟨rfl, rfl⟩, fun b z => absurd z (noA b), e0.bs, e0.bsz, fun b _ _ => noA b, fun b z => absurd z (noA b), e0.funs, e0.frf⟩,
    rfl, e0.bare, Un.kept hk, ⟨_, hns, ?_⟩, ?_, e0.hok.fresh (Nat.le_refl _), ?_, fun p hp => absurd (show p ∈ ([] : List (Addr × Obj)) from hp) (by simp), e0.hok.kept hk, ?_⟩
  · intro x y c h1 h2
    rw [(hcell x c h1).1, (hcell y c h2).1]
  · intro x hx
    have hx' : sc.names.lookup x = some .cell ∨ sc.names.lookup x = some .free := hx
    rcases hx' with hx' | hx'
    · exact absurd rfl (S.nocell _ (PySem.mem_of_lookup hx'))
    · rw [S.free x hx']
      exact ⟨cc, by show ([(("__class__" : Str), cc)] : List (Str × Addr)).lookup ("__class__" : Str) = some cc; simp [List.lookup]⟩
  · intro x c h _
    exact absurd (show false = true from h) Bool.false_ne_true
  · intro i y v h1' h2 h3
    rw [List.getElem?_map] at h2
    cases e : vs[i]? with
    | none => rw [e] at h2; cases h2
    | some v' =>
      rw [e] at h2
      cases h2
      obtain ⟨u, hu, rv⟩ := r.get e
      have hy : (sf fs)[i]? = some y := h1'
      have hu' : us.length = (sf fs).length := by rw [← hl]; exact (Paired.length r).symm
      refine ⟨u, rv, .inl ⟨S.par y (List.mem_of_getElem? hy), ?_⟩⟩
      exact NdefX.zip_look S.nd hy hu
  · intro x c h
    obtain ⟨_, rfl⟩ := hcell x c h
    exact ⟨ov, oc, hk _ _ (e0.bs _ _ bcc).1, dcc⟩
  · intro x c h
    obtain ⟨_, rfl⟩ := hcell x c h
    exact (e0.bs _ _ bcc).2
  · show (vs.map some).length = (sf fs).length
    rw [List.length_map, hl]

/-- how its first statement is read -/
def SupEq (qual : Str) (sc : Scope) (t : Str) (n : Nat) (p0 p1 p2 p3 p4 : Pos) : Prop := ∀ (L f : Addr) (cd : Value) (cc : Addr), ∃ pl : Sem Bool,
  eval (.Call (.Attribute (.Call (.Name "super" p0) [] [] p1) "__init__" p2) [.Constant (.str t) n p3] [] p4) (ksEnv qual sc L f cd cc) = (do
      let ov ← attributeBase (.Call (.Name "super" p0) [] [] p1) "__init__" (ksEnv qual sc L f cd cc) (eval (.Call (.Name "super" p0) [] [] p1) (ksEnv qual sc L f cd cc))
      standAt p2.atName
      let (g, first) ← holding [ov] (getMethod ov "__init__" pl)
      callWith p4 g first (backTo p4 (starEach [.Constant (.str t) n p3] (ksEnv qual sc L f cd cc))) [])
/-- super().__init__('..') runs, the exception is as it was -/
theorem sup_run {st : Stmt} {fd : FuncData} {cda : Addr} {a : Addr} {t : Str} {n : Nat} {p0 p1 p2 p3 p4 p5 : Pos} {σ : L2.St} {s1 : Shared} {Q : Flow → Shared → Prop} {body : List Stmt}
    (T : InK K P C f qual st fs fd) (S : InS fs sc) (hev : SupEq qual sc t n p0 p1 p2 p3 p4) (har : ((defArgs st).posonlyargs ++ (defArgs st).args).head?.map (·.arg) = some ("self" : Str))
    (lf : ∃ oc od osl, K.lookup f = some ⟨oc, od, .func fd, osl⟩) (hfd : fd.params = defArgs st)
    (lc : ∃ ccl cdd vs ccs file tf, K.lookup cda = some ⟨ccl, cdd, .fields vs, ccs⟩ ∧ vs[2]? = some (.str file tf) ∧ ((P.main.file : Str) == file) = true)
    (lcc : ∃ cl cld csl, K.lookup cc = some ⟨cl, cld, .cell (some (.ref C)), csl⟩)
    (I : Inv (cxI P w K mg base (sf fs) qual sc f (.ref cda) cc A outer s H R) [] σ H s1) (h0 : σ[0]? = some (some (.ref a))) (ha : H a = some (exo a C none))
    (go : ∀ s2, Inv (cxI P w K mg base (sf fs) qual sc f (.ref cda) cc A outer s H R) [] σ H s2 → Q .next s2) :
    PySem.wpAt (model P w) (A.deeper (ksEnv qual sc s.heap.objs.size f (.ref cda) cc)) (.func body (ksEnv qual sc s.heap.objs.size f (.ref cda) cc)) (exec (supS t n p0 p1 p2 p3 p4 p5) (ksEnv qual sc s.heap.objs.size f (.ref cda) cc)) Q
      (cxI P w K mg base (sf fs) qual sc f (.ref cda) cc A outer s H R).xe s1 := by
  have hKI := I.kIn
  have hKI' : K.In s1.heap := hKI
  obtain ⟨oc, od, osl, lf⟩ := lf
  obtain ⟨ccl, cdd, vs', ccs, file, tf, lcd, hv2, hfile⟩ := lc
  obtain ⟨cl, cld, csl, lcc⟩ := lcc
  obtain ⟨nm, q, N, bs, bm, sn, sub, ab, col, dd, k0, k1, k2, k3, k5, hC, hbm⟩ := T.oex.cls
  have hcl : clsIn K C = some { name := nm, bases := bs, mro := .ref C :: bm, ns := N, qualname := q, hasDict := true, slotNames := sn, subclasses := sub, abstract := ab, collection := col, hasDel := false } := by unfold clsIn; rw [hC] <;> rfl
  obtain ⟨ar, har1, har2⟩ : ∃ ar : Arg, ((defArgs st).posonlyargs ++ (defArgs st).args).head? = some ar ∧ ar.arg = ("self" : Str) := by
    cases e : ((defArgs st).posonlyargs ++ (defArgs st).args).head? with
    | none => rw [e] at har; cases har
    | some ar => rw [e] at har; exact ⟨ar, rfl, Option.some.inj har⟩
  obtain ⟨t1, hoe⟩ := exo_at I.hok ha
  obtain ⟨m, hns, hlk⟩ := I.loc
  have hself : ∃ u, RelV (.ref a) u ∧ m ("self" : Str) = some u := by
    obtain ⟨u, r, q⟩ := hlk 0 ("self" : Str) (.ref a) rfl h0 (.inl (S.par _ List.mem_cons_self))
    rcases q with ⟨_, q⟩ | ⟨q, _⟩
    · exact ⟨u, r, q⟩
    · have z : sc.names.lookup ("self" : Str) = some .cell ∨ sc.names.lookup ("self" : Str) = some .free := q
      rw [S.par _ List.mem_cons_self] at z
      rcases z with z | z <;> cases z
  obtain ⟨u, ru, hm⟩ := hself
  obtain rfl : u = Value.ref a := ru
  have hmg : mg ("super" : Str) = none := PySem.W.mg_none_of I.mod.kin I.mod.glob T.sup
  obtain ⟨mb, hb1, hb2⟩ := I.mod.blt
  obtain ⟨pl, hev⟩ := hev s.heap.objs.size f (.ref cda) cc
  have hqt := I.quiet
  obtain ⟨hh, g, d, tk, os⟩ := s1
  refine ks_wpAt_Expr_any ?_ hqt
  refine ks_wpAt_MethodCall (pl := pl) ?_ hev
  refine ks_wpAt_super_base (f := f) (cc := cda) (ar := ar) (vs := vs') (file := file) (tf := tf) S.sup S.cls (by decide) rfl (hKI' _ _ lf) rfl (by rw [hfd]; exact har1) rfl (hKI' _ _ lcd) rfl hv2 hfile T.top ?_
  refine ks_loadName_global S.kind S.sup (Calls.loadGlobal_builtin (env := ksEnv qual sc s.heap.objs.size f (.ref cda) cc) (I.mod.glob.keeps I.bk) hmg (hb1.keeps I.bk) ((hb2 _ (by decide)).trans (by first | boot_by_name | rfl | kernel_rfl)) ⟨rfl, ?_⟩)
  refine wpAny_loadName_free S.kind S.cls rfl ⟨_, hKI' _ _ lcc, rfl⟩ ?_
  refine wpAny_loadName_local S.kind (by rw [har2]; exact S.par _ List.mem_cons_self) hns (by rw [har2]; exact hm) ?_
  refine ks_wpAny_isType_cls (hKI' _ _ hC) rfl ⟨rfl, ?_⟩
  have hsubC : Looks (model P w) hh (isSubtype (.ref C) (.ref C)) true := looks_mroIn hKI' T.msf
  refine ks_wpAny_call_super (hKI' _ _ hC) rfl hoe rfl (fun c z => by cases z) hsubC fun h2 e2 k2 => ?_
  have I2 : Inv (cxI P w K mg base (sf fs) qual sc f (.ref cda) cc A outer s H R) [] σ H ⟨h2, g, d, tk, os⟩ := I.kept (t' := tk) k2
  have hK2 : K.In h2 := I2.kIn
  have KF := kxs_ValueError
  have hI2 : Looks (model P w) h2 (isInstance (.ref a) (.type "ValueError")) true := (InstAt.type (od := none) ⟨k2 _ _ hoe, rfl, rfl, trivial⟩).andThen (looks_subIn hK2 T.sVE)
  have hsin := T.sin
  unfold ks_superIn at hsin
  rw [hcl, Option.bind_some] at hsin
  have haC : a ≠ C := fun z => by
    rw [z] at hoe
    have := hKI' _ _ hC
    rw [this] at hoe
    cases hoe
  refine kxs_getMethod KF (l₀ := .ref C :: bm) e2 (looks_opaque hK2 T.opq) ?_ rfl hK2 hsin hI2 haC (by decide) ?_
  · exact fun A Q E s k q => wpAny_bind ((looks_clsIn hK2 hcl) A _ E s k (wpAny_pure q))
  have hm2 : (h2.push (kxs_mw "ValueError.__init__" a)).get? h2.objs.size = some (kxs_mw "ValueError.__init__" a) := Heap.get?_push_at rfl rfl
  have k3 : ∀ b o, h2.get? b = some o → (h2.push (kxs_mw "ValueError.__init__" a)).get? b = some o := fun b o e => Heap.get?_push_of_some _ e
  have I3 : Inv (cxI P w K mg base (sf fs) qual sc f (.ref cda) cc A outer s H R) [] σ H ⟨h2.push (kxs_mw "ValueError.__init__" a), g, d, tk + 1, os⟩ := I2.kept (t' := tk + 1) k3
  have he : starEach [.Constant (.str t) n p3] (ksEnv qual sc s.heap.objs.size f (.ref cda) cc) = (false, eval (.Constant (.str t) n p3) (ksEnv qual sc s.heap.objs.size f (.ref cda) cc)) :: starEach [] (ksEnv qual sc s.heap.objs.size f (.ref cda) cc) := by rfl
  refine kxs_callWith (i := "ValueError.__init__") (x := a) (by rw [he]; rfl) ?_
  rw [he]
  refine Calls.evalArgs_plain (Calls.spliced_cons (Calls.Constant_str (k := n) (pos := p3) (Calls.spliced_nil ⟨hm2, ?_⟩)))
  have I4 : Inv (cxI P w K mg base (sf fs) qual sc f (.ref cda) cc A outer s H R) [] σ H ⟨h2.push (kxs_mw "ValueError.__init__" a), g, d, tk + 1 + 1, os⟩ := I3.tok _
  have hoe3 := k3 _ _ (k2 _ _ hoe)
  have hC3 := k3 _ _ (k2 _ _ (hKI' _ _ hC))
  refine ZX.mw_run hC3 hoe3 hm2 (by rw [sizeLine_eq]; exact (by decide : 1 ≤ 16777216)) fun h' t2 k4 hx4 => ?_
  have J := I4.write (t' := tk + 1 + 1) (x := a) (e := a) (o := exo a C none) (by rw [ha]; exact True.intro) (.inl rfl) k4 ⟨_, hx4⟩ (exo_ok hx4)
  have eu : upd H a (exo a C none) = H := by
    funext b
    by_cases hb : b = a
    · rw [hb, upd_same, ha]
    · rw [upd_ne hb]
  rw [eu] at J
  exact go _ J
/-- the whole __init__ -/
theorem init_of {st : Stmt} {fd : FuncData} {fI : Addr} {us : List Value} {vs : List V} {a : Addr} {t : Str} {n : Nat} {p0 p1 p2 p3 p4 p5 : Pos} {Q : VK} {E : XK} {rest : List Stmt} {tr : TS} {args : Args} {CXX : CXT}
    (T : InK K P C fI qual st fs fd) (S : InS fs (defScope st)) (hev : SupEq qual (defScope st) t n p0 p1 p2 p3 p4) (har : ((defArgs st).posonlyargs ++ (defArgs st).args).head?.map (·.arg) = some ("self" : Str))
    (hbd : defBody st = supS t n p0 p1 p2 p3 p4 p5 :: rest) (hd : A.handled = none) (hdp : A.depth < recursionLimit) (e0 : Env0 P w K mg base A outer s H) (hb : BindsTo s fd args ((sf fs).zip us)) (r : Vals vs us) (hl : vs.length = (sf fs).length)
    (h0 : vs[0]? = some (.ref a)) (ha : H a = some (exo a C none))
    (hrest : ∀ (cd : Value) (cc : Addr) (R : Result → Shared → Prop), PSs (cxI P w K mg base (sf fs) qual (defScope st) fI cd cc A outer s H R) rest tr)
    (hq : tr { nx := fun _ H' => Q .non H', rt := fun _ _ => False } (vs.map some) H) : codeAny (model P w) A (.call (.ref fI) args) (CR CXX outer P w H s Q E) s := by
  obtain ⟨oc, od, doc, pm, kV, dV, an, cda, cc, ct, osl, rfl, lf, hcd, lc, lcc⟩ := T.fn
  have KX : K.In s.heap := e0.mod.kin.keeps fun b o e => (e0.bs b o e).1
  have lim : s.heap.NoLimit := e0.mod.nolimit.keeps fun b o e => (e0.bs b o e).1
  have hlen : us.length = (sf fs).length := by
    rw [← hl]
    exact (Paired.length r).symm
  refine ks_codeAny_call_defAt (fd := ksFn "__init__" qual (defArgs st) (defBody st) (defScope st) dV kV doc pm an (.ref cda) ct cc) (body := defBody st) (binds := (sf fs).zip us) hdp (KX _ _ lf) rfl lim (codeRec_of KX hcd) rfl hb S.nocell
    (fun y hy => S.par y.1 (List.of_mem_zip (show (y.1, y.2) ∈ (sf fs).zip us from hy)).1) (fun h1 hns hk => ?_) S.co S.gen S.kind
  have I : Inv (cxI P w K mg base (sf fs) qual (defScope st) fI (.ref cda) cc A outer s H (CR CXX outer P w H s Q E)) [] (vs.map some) H { s with heap := h1, toks := s.toks + ((sf fs).zip us).length } :=
    invI S hd e0 hl r hns hk (by obtain ⟨cl, cld, csl, z⟩ := lcc; exact ⟨_, _, z, rfl⟩)
  show PySem.wpAt (model P w) (A.deeper (ksEnv qual (defScope st) s.heap.objs.size fI (.ref cda) cc)) (.func (defBody st) (ksEnv qual (defScope st) s.heap.objs.size fI (.ref cda) cc)) (execs (defBody st) (ksEnv qual (defScope st) s.heap.objs.size fI (.ref cda) cc)) _ _ _
  rw [hbd]
  refine ks_wpAt_execs_cons ?_
  rw [← hbd]
  refine sup_run (R := CR CXX outer P w H s Q E) T S hev har ⟨_, _, _, lf⟩ rfl lc lcc I (by rw [List.getElem?_map, h0]; rfl) ha fun s2 J => ?_
  refine PySem.wpAt_of_wpAny ?_
  refine wpAny_mono ((hrest (.ref cda) cc (CR CXX outer P w H s Q E)).run [] s2 (vs.map some) H _ J hq) (fun fl s' hs => ?_) (fun e s' hs => hs)
  cases fl with
  | ret u =>
    obtain ⟨_, _, _, _, _, z⟩ := hs
    exact z.elim
  | next =>
    obtain ⟨σ', H', J', q⟩ := hs
    exact ⟨V.non, H', J'.os, J'.bare, J'.base, J'.hok, rfl, q⟩
  | brk => exact hs.elim fun _ h => h.elim fun _ h => h.2.elim
  | cont => exact hs.elim fun _ h => h.elim fun _ h => h.2.elim
end
end Z

set_option Elab.async false
set_option linter.all false
set_option maxRecDepth 100000
set_option maxHeartbeats 4000000
set_option autoImplicit false
namespace Z
open PySem PySem.Spec PyProof.Rows L2

/-! ## own errors: made and raised -/
/-- how the values are bound -/
def BdX (K : PySem.W.Frag) (fd : FuncData) (fs : List Str) (n : Nat) (ks : List Str) (src : List Src) : Prop :=
  ∀ (s : Shared) (self : Value) (us ws r : List Value), K.In s.heap → us.length = n → ws.length = ks.length → fill us ws [] src = some r → BindsTo s fd ⟨self :: us, ks.zip ws⟩ ((sf fs).zip (self :: r))
/-- its fields are set -/
def FldB (fs : List Str) (rest : List Stmt) : Prop := match fs with
    | [] => rest = []
    | [f] => ∃ q1 q2 q3 q4 : Pos, rest = [.Assign [.Attribute (.Name "self" q1) f q2] (.Name f q3) q4]
    | [f, g] => ∃ q1 q2 q3 q4 r1 r2 r3 r4 : Pos, rest = [.Assign [.Attribute (.Name "self" q1) f q2] (.Name f q3) q4, .Assign [.Attribute (.Name "self" r1) g r2] (.Name g r3) r4]
    | _ => False
/-- class number c, called x, its fields fs -/
structure XcF (G : Gm) (P : Program) (c : Nat) (x qual : Str) (st : Stmt) (fs : List Str) (fI : Addr) (fd : FuncData) : Prop where
  mg : G.mg x = some (.ref (G.cls c))
  ink : InK G.K P (G.cls c) fI qual st fs fd
  ins : InS fs (defScope st)
  har : ((defArgs st).posonlyargs ++ (defArgs st).args).head?.map (·.arg) = some ("self" : Str)
  sup : ∃ (t : Str) (n : Nat) (p0 p1 p2 p3 p4 p5 : Pos) (rest : List Stmt), SupEq qual (defScope st) t n p0 p1 p2 p3 p4 ∧ defBody st = supS t n p0 p1 p2 p3 p4 p5 :: rest ∧ FldB fs rest
  ndb : ∀ f ∈ fs, (f == ("__debug__" : Str)) = false ∧ (f == ("__classdict__" : Str)) = false
/-- what the call leaves -/
def XQ (C : Addr) (fs : List Str) (r : List V) (H : Hp) (Q : XK) : Prop := (fs = [] → Q (.ref C) none H) ∧ (fs ≠ [] → ∀ d, H d = none → Q (.ref C) (some d) (upd H d (.xd (fs.zip r).reverse)))
section
variable {X : Cx} {pins : List (Addr × Obj)} {σ : L2.St}
theorem mk_endN {H1 : Hp} {Q : XK} {hp hp2 h2 : Heap} {g1 g2 : Array GenState} {d1 d2 : Drawn} {t1 t2 : Nat} {os1 os2 : OsState} {a C : Addr} (T : Raises X (.ref C)) (I1 : Inv X pins σ H1 ⟨hp, g1, d1, t1, os1⟩)
    (ha : hp.objs.size ≤ a) (k : ∀ b o, hp.get? b = some o → hp2.get? b = some o) (un : Un (frs X.stack) [] (upd H1 a (exo a C none)) (upd H1 a (exo a C none)) hp2 h2) (hok : HOk X.prog X.w (upd H1 a (exo a C none)) h2) (ho : os2 = os1) (hb : AllBare g2)
    (q : Q (.ref C) none H1) : MkP X pins σ Q (.ref a) ⟨h2, g2, d2, t2, os2⟩ := by
  obtain ⟨t0, hoe⟩ := exo_at hok (upd_same (H := H1) (a := a) (o := exo a C none))
  have hn : H1 a = none := I1.hok.fresh ha
  obtain ⟨G, g1', g2'⟩ := restrict h2 fun b => decide (b ≠ a)
  have gk : ∀ b, b ≠ a → G.get? b = h2.get? b := fun b hb => g1' b (decide_eq_true hb)
  have ge : G.get? a = none := g2' a (by simp)
  have nha : ∀ {b : Addr} {o : Obj}, hp.get? b = some o → b ≠ a := fun {b o} z => Nat.ne_of_lt (Nat.lt_of_lt_of_le (Heap.lt_size z) ha)
  have up : ∀ {b : Addr}, b ≠ a → H1 b = none → upd H1 a (exo a C none) b = none := fun {b} hb n => by rw [upd_ne hb]; exact n
  have U : Un (frs X.stack) [] H1 H1 hp G := by
    refine ⟨fun b o z n hf hx => ?_, fun b o z n hf hx => ?_, fun b o z n hx => n, fun b o z hx => ?_, fun b xs z => z, fun b o v z => z, fun b ps z => ⟨#[], by rw [z]; simp⟩⟩
    · rw [gk b (nha z)]
      exact un.keep b o (k b o z) (up (nha z) n) hf hx
    · rw [gk b (nha z)]
      exact un.slot b o (k b o z) (up (nha z) n) hf hx
    · rw [gk b (nha z)]
      exact un.there b o (k b o z) hx
  have hok3 : HOk X.prog X.w H1 G := fun b o z => by
    have hba : b ≠ a := fun e => by
      rw [e, hn] at z
      cases z
    refine (hok b o (by rw [upd_ne hba]; exact z)).stay (fun c v hc y => ?_) (fun c hc => ?_) fun c xs hc => ?_
    · have hca : c ≠ a := by
        rcases hc with hc | hc
        · rw [hc]
          exact hba
        · intro e
          rw [e, upd_same] at hc
          exact exo_own (Option.some.inj hc)
      rw [gk c hca]
      exact y
    · have hca : c ≠ a := fun e => by
        rw [e, upd_same] at hc
        exact exo_own (Option.some.inj hc)
      rw [upd_ne hca] at hc
      exact hc
    · have hca : c ≠ a := fun e => by
        rw [e, upd_same] at hc
        exact exo_tup (Option.some.inj hc)
      rw [upd_ne hca] at hc
      exact hc
  have J : Inv X pins σ H1 ⟨G, g2, d2, t2, os2⟩ := I1.call' (ch := []) ho U hok3 hb (fun b z => absurd z (by simp))
  refine ⟨a, _, _, ⟨G, g2, d2, t2, os2⟩, _, .ref C, none, rfl, J, fun b o z => ?_, ge, hoe, ⟨rfl, rfl⟩, rfl, rfl, hn, rfl, hb, T, q⟩
  by_cases hba : b = a
  · rw [hba, ge] at z
    cases z
  · exact (gk b hba).symm.trans z
theorem upd_del {H : Hp} {a d : Addr} {e f f2 g : HO} (hn : H a = none) : upd (L2.del (upd (upd (upd H a e) d f) a g) a) d f2 = upd H d f2 := by
  funext b
  by_cases hd : b = d
  · rw [hd, upd_same, upd_same]
  · rw [upd_ne hd, upd_ne hd]
    by_cases ha : b = a
    · rw [ha, del_same, hn]
    · rw [del_ne ha, upd_ne ha, upd_ne hd, upd_ne ha]
theorem upd_del2 {H : Hp} {a d : Addr} {e f f2 f3 g : HO} (hn : H a = none) : upd (L2.del (upd (upd (upd (upd H a e) d f) a g) d f2) a) d f3 = upd H d f3 := by
  funext b
  by_cases hd : b = d
  · rw [hd, upd_same, upd_same]
  · rw [upd_ne hd, upd_ne hd]
    by_cases ha : b = a
    · rw [ha, del_same, hn]
    · rw [del_ne ha, upd_ne hd, upd_ne ha, upd_ne hd, upd_ne ha]
/-- the class is called -/
theorem mk_core {G : Gm} {c k n : Nat} {x qual : Str} {st : Stmt} {fs ks : List Str} {fI : Addr} {fd : FuncData} {src : List Src} {H : Hp} {s : Shared} {us ws : List Value} {ru : List Value} {r : List V} {Q : XK} (T : XcF G X.prog c x qual st fs fI fd) (B : BdX G.K fd fs n ks src)
    (hK : X.K = G.K) (hr : Room (k + 1) X.A) (I : Inv X pins σ H s) (h1 : us.length = n) (h2 : ws.length = ks.length) (hf : fill us ws [] src = some ru) (rv : Vals r ru) (hl : r.length = fs.length) (hul : us.length ≤ 1000) (hq : XQ (G.cls c) fs r H Q) :
    wpAny (model X.prog X.w) X.A (call (.ref (G.cls c)) us (ks.zip ws)) (MkP X pins σ Q) X.xe s := by
  have TI := T.ink
  rw [← hK] at TI B
  obtain ⟨nm, q, N, bs, bm, sn, sub, ab, col, dd, k0, k1, k2, k3, k5, hC, hbm⟩ := TI.oex.cls
  obtain ⟨hp, g, dr, tk, os⟩ := s
  have hsz : hp.objs.size ≤ hp.objs.size + 1 := Nat.le_succ _
  have hn : H (hp.objs.size + 1) = none := I.hok.fresh hsz
  have kk : ∀ b o, hp.get? b = some o → ((hp.push (PySem.W.kdv_tup us)).push (PySem.HandSPX.excO (G.cls c) hp.objs.size)).get? b = some o := fun b o e => Heap.get?_push_of_some _ (Heap.get?_push_of_some _ e)
  have hget : ((hp.push (PySem.W.kdv_tup us)).push (PySem.HandSPX.excO (G.cls c) hp.objs.size)).get? (hp.objs.size + 1) = some (PySem.HandSPX.excO (G.cls c) hp.objs.size) := by heap_get
  have I2 : Inv X pins σ (upd H (hp.objs.size + 1) (exo (hp.objs.size + 1) (G.cls c) none)) ⟨(hp.push (PySem.W.kdv_tup us)).push (PySem.HandSPX.excO (G.cls c) hp.objs.size), g, dr, tk, os⟩ :=
    I.laid (t' := tk) (a := hp.objs.size + 1) (o := exo (hp.objs.size + 1) (G.cls c) none) (h' := (hp.push (PySem.W.kdv_tup us)).push (PySem.HandSPX.excO (G.cls c) hp.objs.size)) kk hsz (exo_ok hget)
  have hus : us.length ≤ sizeLine := by
    rw [sizeLine_eq]
    omega
  have R : Raises X (.ref (G.cls c)) := raises_own TI.oex.exC TI.oex.tyC
  have r2 : Vals (V.ref (hp.objs.size + 1) :: r) (Value.ref (hp.objs.size + 1) :: ru) := .cons rfl rv
  obtain ⟨t, nn, p0, p1, p2, p3, p4, p5, rest, hev, hbd, hrest⟩ := T.sup
  -- the end
  have fin : ∀ (Q2 : VK), (∀ (v : V) (H2 : Hp) (u : Value) (s' : Shared), CE X.stack X.prog X.w (upd H (hp.objs.size + 1) (exo (hp.objs.size + 1) (G.cls c) none)) ⟨(hp.push (PySem.W.kdv_tup us)).push (PySem.HandSPX.excO (G.cls c) hp.objs.size), g, dr, tk, os⟩ Q2 u s' → u = .none ∧ MkP X pins σ Q (.ref (hp.objs.size + 1)) s') →
      codeAny (model X.prog X.w) (X.A.under (.builtin "type.__call__" ⟨.ref (G.cls c) :: us, ks.zip ws⟩)) (.call (.ref fI) ⟨.ref (hp.objs.size + 1) :: us, ks.zip ws⟩)
        (CR (fun _ _ _ _ _ _ => False) X.stack X.prog X.w (upd H (hp.objs.size + 1) (exo (hp.objs.size + 1) (G.cls c) none)) ⟨(hp.push (PySem.W.kdv_tup us)).push (PySem.HandSPX.excO (G.cls c) hp.objs.size), g, dr, tk, os⟩ Q2 (fun _ _ _ => False)) ⟨(hp.push (PySem.W.kdv_tup us)).push (PySem.HandSPX.excO (G.cls c) hp.objs.size), g, dr, tk, os⟩ →
      wpAny (model X.prog X.w) X.A (call (.ref (G.cls c)) us (ks.zip ws)) (MkP X pins σ Q) X.xe ⟨hp, g, dr, tk, os⟩ := by
    intro Q2 h2 hrun
    refine wpAny_call (ZX.kcall_own F.excBase_ValueError (fun Y => PySem.HandSPX.refsVE_contains Y bm hbm) (I.kIn _ _ hC) (PySem.W.looks_findIn I.kIn TI.iC) (fun self => PySem.W.bind_fn I.kIn self TI.tI) hus
      (codeAny_mono hrun fun r s' hq' => ?_))
    cases r with
    | error er => exact False.elim hq'
    | ok fl =>
      cases fl with
      | ret u =>
        have z := h2 .non H u s' hq'
        exact z
      | next => exact False.elim hq'
      | brk => exact False.elim hq'
      | cont => exact False.elim hq'
  have hrm := hr.make (G.cls c) us (ks.zip ws)
  have e2 := I2.env0.make (G.cls c) us (ks.zip ws)
  have hb := B ⟨(hp.push (PySem.W.kdv_tup us)).push (PySem.HandSPX.excO (G.cls c) hp.objs.size), g, dr, tk, os⟩ (.ref (hp.objs.size + 1)) us ws ru I2.kIn h1 h2 hf
  have hl2 : (V.ref (hp.objs.size + 1) :: r).length = (sf fs).length := by simp [hl]
  rcases fs with _ | ⟨f, _ | ⟨f', _ | ⟨f'', fs⟩⟩⟩
  · obtain rfl : r = [] := List.length_eq_zero_iff.mp hl
    refine fin (fun v H2 => v = .non ∧ H2 = upd H (hp.objs.size + 1) (exo (hp.objs.size + 1) (G.cls c) none)) (fun v H2 u s' hce => ?_) ?_
    · obtain ⟨v', H', os2, bare2, un2, hok2, rv', rfl, rfl⟩ := hce
      obtain ⟨h2, g2, d2, t2, os'⟩ := s'
      exact ⟨rv', mk_endN R I hsz kk un2 hok2 os2 bare2 (hq.1 rfl)⟩
    · refine init_of (tr := tNext) TI T.ins hev T.har hbd hrm.hd hrm.depth e2 hb r2 hl2 rfl upd_same (fun cd cc RR => ?_) ⟨rfl, rfl⟩
      rw [show rest = [] from hrest]
      exact pss_nil
  · obtain ⟨y, rfl⟩ : ∃ y, r = [y] := List.length_eq_one_iff.mp hl
    obtain ⟨q1, q2, q3, q4, hrest⟩ := hrest
    refine fin (fun v H2 => v = .non ∧ ∃ d, H d = none ∧ d ≠ hp.objs.size + 1 ∧ H2 = upd (upd (upd H (hp.objs.size + 1) (exo (hp.objs.size + 1) (G.cls c) none)) d (exd d [(f, y)])) (hp.objs.size + 1) (exo (hp.objs.size + 1) (G.cls c) (some d))) (fun v H2 u s' hce => ?_) ?_
    · obtain ⟨v', H', os2, bare2, un2, hok2, rv', rfl, d, hd, hda, rfl⟩ := hce
      obtain ⟨h2, g2, d2, t2, os'⟩ := s'
      refine ⟨rv', mk_end R I hsz kk un2 hok2 os2 bare2 upd_same (by rw [upd_ne hda, upd_same]) hd ?_⟩
      rw [upd_del hn]
      exact hq.2 (by simp) d hd
    · refine init_of (tr := tOst X.K f (tVar 0) (tVar 1)) TI T.ins hev T.har hbd hrm.hd hrm.depth e2 hb r2 hl2 rfl upd_same (fun cd cc RR => ?_) ?_
      · rw [hrest]
        exact pss_one (ps_ost (pv 0 rfl (.inl (T.ins.par _ (by simp))) (by decide) (by decide)) (pv 1 rfl (.inl (T.ins.par _ (by simp))) (T.ndb _ (by simp)).1 (T.ndb _ (by simp)).2))
      · refine ⟨y, rfl, .ref (hp.objs.size + 1), rfl, hp.objs.size + 1, G.cls c, rfl, TI.oex, TI.noF _ (by simp), .inl ⟨upd_same, fun dx hd hne => ⟨rfl, dx, ?_, hne, rfl⟩⟩⟩
        rw [upd_ne hne] at hd
        exact hd
  · obtain ⟨y, z, rfl⟩ : ∃ y z, r = [y, z] := by
      match r, hl with
      | [y, z], _ => exact ⟨y, z, rfl⟩
    obtain ⟨q1, q2, q3, q4, q5, q6, q7, q8, hrest⟩ := hrest
    refine fin (fun v H2 => v = .non ∧ ∃ d, H d = none ∧ d ≠ hp.objs.size + 1 ∧ H2 = upd (upd (upd (upd H (hp.objs.size + 1) (exo (hp.objs.size + 1) (G.cls c) none)) d (exd d [(f, y)])) (hp.objs.size + 1) (exo (hp.objs.size + 1) (G.cls c) (some d))) d (exd d [(f', z), (f, y)])) (fun v H2 u s' hce => ?_) ?_
    · obtain ⟨v', H', os2, bare2, un2, hok2, rv', rfl, d, hd, hda, rfl⟩ := hce
      obtain ⟨h2, g2, d2, t2, os'⟩ := s'
      refine ⟨rv', mk_end R I hsz kk un2 hok2 os2 bare2 (by rw [upd_ne (Ne.symm hda), upd_same]) upd_same hd ?_⟩
      rw [upd_del2 hn]
      exact hq.2 (by simp) d hd
    · refine init_of (tr := tSeq (tOst X.K f (tVar 0) (tVar 1)) (tOst X.K f' (tVar 0) (tVar 2))) TI T.ins hev T.har hbd hrm.hd hrm.depth e2 hb r2 hl2 rfl upd_same (fun cd cc RR => ?_) ?_
      · rw [hrest]
        exact pss_cons (ps_ost (pv 0 rfl (.inl (T.ins.par _ (by simp))) (by decide) (by decide)) (pv 1 rfl (.inl (T.ins.par _ (by simp))) (T.ndb _ (by simp)).1 (T.ndb _ (by simp)).2))
          (pss_one (ps_ost (pv 0 rfl (.inl (T.ins.par _ (by simp))) (by decide) (by decide)) (pv 2 rfl (.inl (T.ins.par _ (by simp))) (T.ndb _ (by simp)).1 (T.ndb _ (by simp)).2)))
      · refine ⟨y, rfl, .ref (hp.objs.size + 1), rfl, hp.objs.size + 1, G.cls c, rfl, TI.oex, TI.noF _ (by simp), .inl ⟨upd_same, fun dx hd hne => ?_⟩⟩
        rw [upd_ne hne] at hd
        refine ⟨z, rfl, .ref (hp.objs.size + 1), rfl, hp.objs.size + 1, G.cls c, rfl, TI.oex, TI.noF _ (by simp), .inr ⟨dx, [(f, y)], upd_same, by rw [upd_ne hne, upd_same], by simp, ⟨rfl, dx, hd, hne, rfl⟩⟩⟩
  · exact (show False from hrest).elim
end
def sRaise (c : Nat) (fs : List Str) (n m : Nat) (src : List Src) (a b : ML) : MS := fun ρ S => srRes ρ (a ρ S) fun us S1 => srRes ρ (b ρ S1) fun ws S2 =>
  if us.length = n ∧ ws.length = m ∧ n ≤ 1000 then
    match fill us ws [] src with
    | some ds => if ds.length = fs.length then .ex ρ c fs.reverse ds.reverse S2 else .bad
    | none => .bad
  else .bad
def tRs (C : Addr) (fs : List Str) (n m : Nat) (src : List Src) (t tk : TA) : L2.St → Hp → XK → Prop := fun σ H Q => t σ H fun vs H1 => tk σ H1 fun zs H2 => vs.length = n ∧ zs.length = m ∧ n ≤ 1000 ∧ ∃ r, fill vs zs [] src = some r ∧ r.length = fs.length ∧ XQ C fs r H2 Q
section
variable {G : Gm} {X : Cx} {W : WX} {k : Nat} {c n : Nat} {x qual : Str} {st : Stmt} {fs ks : List Str} {fI : Addr} {fd : FuncData} {src : List Src} {p pos pos' : Pos} {a b : ML}
theorem imp_raise {t tk : TA} (ia : ImpE G W (Reps G) t a) (ib : ImpE G W (Reps G) tk b) : ImpS G W (fun _ σ H => tRs (G.cls c) fs n ks.length src t tk σ H fun cls d H' => W cls d σ H') (sRaise c fs n ks.length src a b) := by
  intro ρ S σ H F μ Ds he hr hp
  refine ia ρ S σ H F μ _ he hr (PostS.res hp he fun us S1 F1 μ1 vs H1 x1 r1 p1 q1 => ?_)
  refine ib ρ S1 σ H1 F1 μ1 _ (he.mono x1) r1 (PostS.res q1 (he.mono x1) fun ws S2 F2 μ2 zs H2 x2 r2 p2 q2 => ?_)
  by_cases hc : us.length = n ∧ ws.length = ks.length ∧ n ≤ 1000
  · rw [if_pos hc] at q2
    cases hf : fill us ws [] src with
    | none => rw [hf] at q2; exact q2.elim
    | some ds =>
      rw [hf] at q2
      by_cases hl : ds.length = fs.length
      · simp only [if_pos hl] at q2
        obtain ⟨r, hfr, rr⟩ := fill_rep (p1.mono x2) p2 (.nil : Reps G F2 μ2 [] []) hf
        refine ⟨by rw [← p1.length]; exact hc.1, by rw [← p2.length]; exact hc.2.1, hc.2.2, r, hfr, by rw [← rr.length]; exact hl, fun h0 => ?_, fun h0 d hd => ?_⟩
        · subst h0
          obtain rfl : ds = [] := List.length_eq_zero_iff.mp hl
          cases rr
          exact q2 F2 μ2 σ none [] H2 (Ext.refl _ _) r2 ((he.mono x1).mono x2) rfl rfl .nil
        · obtain ⟨xx, r3⟩ := r2.newF (.xd (fs.zip r).reverse) hd
          refine q2 _ μ2 σ (some d) r.reverse _ xx r3 (((he.mono x1).mono x2).mono xx) ?_ (by simp [hl]) (rr.mono xx).rev
          show upd F2 d _ d = _
          rw [upd_same, List.zip_eq_zipWith, List.reverse_zipWith (by rw [← rr.length]; exact hl.symm)]
          rfl
      · simp only [if_neg hl] at q2
        exact q2.elim
  · rw [if_neg hc] at q2
    exact q2.elim
theorem ss_raiseP {e : Expr} {es : List Expr} (ok : Ok G X k W) (hk : 1 ≤ k) (T : XcF G X.prog c x qual st fs fI fd) (B : BdX G.K fd fs n [] src) (ha : SA G X W (e :: es) a) (hg : Gl X x := by rfl)
    (hdb : (x == ("__debug__" : Str)) = false := by decide) (he : starEach (e :: es) X.env = (false, eval e X.env) :: starEach es X.env := by rfl) (hpl : (backTo pos (starEach es X.env)).any (·.1) = false := by rfl) :
    SS G X W (.Raise (some (.Call (.Name x p) (e :: es) [] pos)) none pos') (sRaise c fs n 0 src a mNilL) := by
  obtain ⟨t, pa, ia⟩ := ha
  refine ⟨_, ps_raise ok.calm ok.tk (t := tRs (G.cls c) fs n 0 src t tNil) ?_, imp_raise (ks := []) ia fun ρ S σ H F μ Q he hr hp => hp F μ [] H (Ext.refl _ _) hr .nil⟩
  intro pins s σ H Q I h
  refine wpAny_Call_Name_kw (ld_glob I hg (by rw [ok.mg]; exact T.mg) ?_ hdb)
  refine PySem.W.callWith_K (h₀ := X.base) I.ok.mod.kin (by rw [ok.K]; exact T.ink.oex.kC) (thn (pa.run pos pins s σ H _ I h) fun us s1 hv => ?_) he hpl
  obtain ⟨vs, H1, I1, r1, h1, h2, h3, r, hf, hl, hq⟩ := hv
  obtain ⟨ru, hfu, rv⟩ := fill_val r1 (.nil : Vals [] []) (.nil : Vals [] []) hf
  have hus : us.length = n := by rw [← h1]; exact (Paired.length r1).symm
  refine ⟨I1.kIn, ?_⟩
  rw [List.nil_append]
  exact mk_core (ks := []) (ws := []) T B ok.K (ok.room.mono hk) I1 hus rfl hfu rv hl (by omega) hq
theorem ss_raiseK {kws : List Keyword} (ok : Ok G X k W) (hk : 1 ≤ k) (T : XcF G X.prog c x qual st fs fI fd) (B : BdX G.K fd fs 0 ks src) (hb : SK G X W kws b) (hg : Gl X x := by rfl)
    (hall : (backToKw pos (keywordEach kws X.env)).all (·.1.isSome) = true := by rfl) (hks : (backToKw pos (keywordEach kws X.env)).filterMap (·.1) = ks := by rfl)
    (hdb : (x == ("__debug__" : Str)) = false := by decide) (hpl : ((backTo pos (starEach [] X.env)).any (·.1) || (backToKw pos (keywordEach kws X.env)).any (·.1.isNone)) = false := by rfl) :
    SS G X W (.Raise (some (.Call (.Name x p) [] kws pos)) none pos') (sRaise c fs 0 ks.length src mNilL b) := by
  obtain ⟨tk, pk, ik⟩ := hb
  refine ⟨_, ps_raise ok.calm ok.tk (t := tRs (G.cls c) fs 0 ks.length src tNil tk) ?_, imp_raise (fun ρ S σ H F μ Q he hr hp => hp F μ [] H (Ext.refl _ _) hr .nil) ik⟩
  intro pins s σ H Q I h
  refine wpAny_Call_Name_kw (ld_glob I hg (by rw [ok.mg]; exact T.mg) ?_ hdb)
  refine PySem.W.callWith_KW0 (h₀ := X.base) I.ok.mod.kin (by rw [ok.K]; exact T.ink.oex.kC) hall (thn (pk.run pos pins s σ H _ I h) fun ws s1 hv => ?_) hpl
  obtain ⟨zs, H1, I1, r1, h1, h2, h3, r, hf, hl, hq⟩ := hv
  obtain ⟨ru, hfu, rv⟩ := fill_val (.nil : Vals [] []) r1 (.nil : Vals [] []) hf
  have hws : ws.length = ks.length := by rw [← h2]; exact (Paired.length r1).symm
  rw [hks]
  exact ⟨I1.kIn, mk_core (us := []) T B ok.K (ok.room.mono hk) I1 rfl hws hfu rv hl (by simp) hq⟩
theorem ss_raise0 (ok : Ok G X k W) (hk : 1 ≤ k) (T : XcF G X.prog c x qual st fs fI fd) (B : BdX G.K fd fs 0 [] src) (hg : Gl X x := by rfl) (hdb : (x == ("__debug__" : Str)) = false := by decide) :
    SS G X W (.Raise (some (.Call (.Name x p) [] [] pos)) none pos') (sRaise c fs 0 0 src mNilL mNilL) := by
  refine ⟨_, ps_raise ok.calm ok.tk (t := tRs (G.cls c) fs 0 0 src tNil tNil) ?_, imp_raise (ks := []) (fun ρ S σ H F μ Q he hr hp => hp F μ [] H (Ext.refl _ _) hr .nil) (fun ρ S σ H F μ Q he hr hp => hp F μ [] H (Ext.refl _ _) hr .nil)⟩
  intro pins s σ H Q I h
  refine wpAny_Call_Name_kw (ld_glob I hg (by rw [ok.mg]; exact T.mg) ?_ hdb)
  refine PySem.W.callWith_K0 I.kIn (by rw [ok.K]; exact T.ink.oex.kC) ?_
  obtain ⟨h1, h2, h3, r, hf, hl, hq⟩ := h
  obtain ⟨ru, hfu, rv⟩ := fill_val (.nil : Vals [] []) (.nil : Vals [] []) (.nil : Vals [] []) hf
  exact mk_core (ks := []) (ws := []) (us := []) T B ok.K (ok.room.mono hk) I rfl rfl hfu rv hl (by simp) hq
end
end Z

set_option Elab.async false
set_option linter.all false
set_option maxRecDepth 100000
set_option maxHeartbeats 4000000
set_option autoImplicit false
namespace Z
open PySem PySem.Spec PyProof.Rows L2

/-! ## an error is caught and kept -/
section
variable {X : Cx} {pins : List (Addr × Obj)} {σ : L2.St} {H : Hp} {s : Shared}
theorem inv_track {a C : Addr} {oe : Obj} {vs : Array Value} {d : Option Addr} (J : Inv X ((a, oe) :: pins) σ H s) (hz : Zc (.ref C) d oe) (hd : oe.data = .fields vs) (n0 : X.s_0.heap.get? a = none) (np : ∀ p ∈ X.pn ++ pins, p.1 ≠ a) :
    Inv X pins σ (upd H a (xO C d a)) s := by
  have P := J.pin (a, oe) (List.mem_append_right _ List.mem_cons_self)
  obtain ⟨ha, hn, hL, hF, hc⟩ := P
  have ha' : s.heap.get? a = some oe := ha
  have hn' : H a = none := hn
  have ne0 : ∀ {b : Addr} {o : Obj}, X.s_0.heap.get? b = some o → b ≠ a := fun {b o} e z => by
    rw [z, n0] at e
    cases e
  have neH : ∀ {b : Addr} {o : HO}, H b = some o → b ≠ a := fun {b o} e z => by
    rw [z, hn'] at e
    cases e
  refine ⟨J.ok, J.os, J.bare, ⟨J.base.keep, J.base.slot, fun b o e n hx => ?_, J.base.there, fun b xs e => ?_, fun b o u e => ?_, fun b ps e => ?_⟩, J.loc, J.cell, ?_, fun x c e => ?_, fun p hp => ?_, fun b o e => ?_, J.len⟩
  · rw [upd_ne (ne0 e)]
    exact J.base.free b o e n hx
  · have q := J.base.tups b xs e
    rw [upd_ne (neH q)]
    exact q
  · have q := J.base.frzs b o u e
    rw [upd_ne (neH q)]
    exact q
  · obtain ⟨more, q⟩ := J.base.tbls b ps e
    exact ⟨more, by rw [upd_ne (neH q)]; exact q⟩
  · rw [upd_ne (Ne.symm hL)]
    exact J.free
  · obtain ⟨v, o, ho, hdc⟩ := J.cell x c e
    have : c ≠ a := fun z => by
      rw [z, ha'] at ho
      cases ho
      exact hc _ hdc
    rw [upd_ne this]
    exact J.freeC x c e
  · have hp' : p ∈ X.pn ++ (a, oe) :: pins := by
      rcases List.mem_append.mp hp with q | q
      · exact List.mem_append_left _ q
      · exact List.mem_append_right _ (List.mem_cons_of_mem _ q)
    obtain ⟨e, n, ne, nf, dd⟩ := J.pin p hp'
    exact ⟨e, by rw [upd_ne (np p hp)]; exact n, ne, nf, dd⟩
  · by_cases hb : b = a
    · subst hb
      rw [upd_same] at e
      cases e
      refine ⟨⟨oe, vs, ha', hz, hd⟩, ⟨oe, ha'⟩, fun h1 h2 z kk => ?_⟩
      obtain ⟨o1, v1, q1, q2⟩ := z
      exact ⟨o1, v1, kk _ q1, q2⟩
    · rw [upd_ne hb] at e
      exact (J.hok b o e).stay (fun c v _ q => q) (fun c q => by rw [upd_ne (neH q)]; exact q) fun c xs q => by rw [upd_ne (neH q)]; exact q
end
/-- what the clause wishes -/
def wKeep (K : PySem.W.Frag) (c : Value) (i j : Nat) (Wout : WX) (D : Ends) : WX := fun cls d σ H =>
  ∃ b, PySem.W.exmOne K cls c = some b ∧ (b = true → ∀ a, H a = none → ∃ C, cls = .ref C ∧ D.nx ((σ.set j (some (.ref a))).set i none) (upd H a (xO C d a))) ∧ (b = false → Wout cls d σ H)
section
variable {X : Cx} {x n m : Str} {cv : Value} {i j : Nat} {body : List Stmt} {np pm pn' pa pos pos' : Pos} {tb : WX → TS} {Wout : WX}
theorem ps_try_keep (hs : X.stack = X.env :: X.outer) (hf : X.env.frame = some X.env.locals) (hex : X.ex = []) (hN : X.N.Nodup) (hi : X.N[i]? = some n) (hj : X.N[j]? = some m) (hln : X.env.kindOf n = some .local) (hlm : X.env.kindOf m = some .local) (hc : Names X x cv) (tk : Takes X Wout)
    (hb : ∀ (W : WX) (pn : List (Addr × Obj)) (xe : Value → Shared → Prop), Takes (X.tr pn xe) W → PassesOwn (model X.prog X.w) X.A X.env xe → PSs (X.tr pn xe) body (tb W))
    (hd1 : (n == ("__debug__" : Str)) = false) (hd2 : (n == ("__classdict__" : Str)) = false)
    (hsw : swapsWithSole [.Name m pm] (.Name n pn') pa.line X.env = pure false) (hss : swappedStores [.Name m pm] (.Name n pn') X.env = pure none) (has : (assignEach [.Name m pm] X.env).map (·.2) = [assign (.Name m pm) X.env]) :
    PS X (.Try body [.ExceptHandler (some (.Name x np)) (some n) [.Assign [.Name m pm] (.Name n pn') pa] pos'] [] [] pos) (fun D σ H => tb (wKeep X.K cv i j Wout D) D σ H) := by
  refine ⟨fun pins s σ H D I h => ?_⟩
  have ok := I.ok
  have hfr : X.A.frames = some (X.env :: X.outer) := by rw [ok.frames, hs]
  have hloc : Loc X.env.scope n := .inl hln
  refine wpAny_Try_except ?_
  refine wpAny_mono ((hb (wKeep X.K cv i j Wout D) (X.pn ++ pins) (fun e s₁ => wpAny (model X.prog X.w) X.A (noteFrame e X.env) (fun _ s₂ => wpAny (model X.prog X.w) X.A (setFlight e none) (fun _ s₃ =>
    wpAny (model X.prog X.w) X.A (handleBy e X.env [.ExceptHandler (some (.Name x np)) (some n) [.Assign [.Name m pm] (.Name n pn') pa] pos']) (SP X pins D) X.xe s₃) X.xe s₂) X.xe s₁) (fun u s' xx => ?_) PassesOwn.looking).run [] s σ H D (I.toTry _) h) (fun f s1 hsp => ?_) (fun e s1 he => he)
  · obtain ⟨a, B, sI, pins', σ', H', cls, d, rfl, J', nb, up, sky, na, os, ag, b, hb1, hyes, hno⟩ := xx
    have J : Inv X pins σ' H' sI := J'.ofTry ok
    have sky' : Sky B (X.env :: X.outer) a (Zc cls d) X.env.locals s'.heap := by rw [← hs]; exact sky
    have hBa : B.get? a = none := by
      rcases sky' with q | q | q
      · exact q.2.1
      · exact q.2.1
      · exact q.2.1
    show wpAny (model X.prog X.w) X.A (noteFrame (.ref a) X.env) _ _ _
    refine Sky.land Zc.steady hfr hf sky' fun h3 fl3 up3 => ?_
    have J3 : Inv X pins σ' H' { s' with heap := h3 } := J.landed nb fl3.1 (up.trans up3) os ag
    obtain ⟨oe3, vs3, he3, hz3, hd3⟩ := fl3.there
    have nfr : a ∉ frs (X.env :: X.outer) := fun hm => by
      obtain ⟨_, o', e', hnf⟩ := fl3.2.2.1.mem hm
      rw [he3] at e'
      cases e'
      exact hnf _ hd3
    have nL : a ≠ X.env.locals := fun z => nfr (List.mem_filterMap.mpr ⟨X.env, List.mem_cons_self, by rw [hf, z]⟩)
    have nF : a ∉ X.fs := fun hm => by
      obtain ⟨e, he, q⟩ := List.mem_filterMap.mp hm
      exact nfr (List.mem_filterMap.mpr ⟨e, List.mem_cons_of_mem _ he, q⟩)
    have nS : a ∉ frs X.stack := by
      rw [hs]
      exact nfr
    -- the error was not there at the entry
    have n0 : X.s_0.heap.get? a = none := by
      cases e : X.s_0.heap.get? a with
      | none => rfl
      | some o =>
        obtain ⟨o', q⟩ := J.base.there a o e (by rw [hex]; exact fun z => nomatch z)
        have z := nb a o' q nS
        rw [hBa] at z
        cases z
    have npn : ∀ p ∈ X.pn ++ pins, p.1 ≠ a := fun p hp z => by
      obtain ⟨e, _, _, _, _⟩ := J.pin p hp
      rw [z] at e
      have q := nb a _ e nS
      rw [hBa] at q
      cases q
    have S3 := J3.suite he3 hd3 na nL nF
    refine wpAny_handleBy_cons (codeAny_handlers_test ?_) (by intro q; cases q)
    have LT : PySem.W.Looks (model X.prog X.w) h3 (typeOf (.ref a)) cls := fun A Q E s k q => wpAny_typeOf_ref (k _ _ he3) (by rw [hz3.1]; exact q)
    have LM := PySem.W.exm_one (M := model X.prog X.w) (J3.kIn) LT hb1
    have test : ∀ {Q : Value → Shared → Prop} {E : Value → Shared → Prop}, Q cv { s' with heap := h3 } → wpAny (model X.prog X.w) (X.A.mark (some (.ref a))) (eval (.Name x np) X.env) Q E { s' with heap := h3 } := fun {Q E} q => by
      obtain ⟨hg, hdbg, hm | ⟨hm, hv, hnn⟩⟩ := hc
      · exact ld_glob (X := X.suite a ((a, oe3) :: (X.pn ++ pins))) S3 hg hm q hdbg
      · exact ld_blt (X := X.suite a ((a, oe3) :: (X.pn ++ pins))) S3 hg hm hv q hnn hdbg
    refine test (LM.here ?_)
    cases b with
    | true =>
      refine codeAny_handlers_suite_as ?_
      refine HandSPX.lands_againZ fl3 fun h4 fl4 up4 => ?_
      have J4 : Inv X pins σ' H' { s' with heap := h4 } := J.landed nb fl4.1 ((up.trans up3).trans up4) os ag
      obtain ⟨oe4, vs4, he4, hz4, hd4⟩ := fl4.there
      have S4 := J4.suite he4 hd4 na nL nF
      have hil : i < X.N.length := (List.getElem?_eq_some_iff.mp hi).1
      obtain ⟨C, hC, hnx⟩ := hyes rfl a na
      refine store_ok (X := X.suite a ((a, oe4) :: (X.pn ++ pins))) (v := .ref a) S4 hN hi hloc rfl (fun s5 S5 => ?_) (.inr hln)
      have hps : PSs (X.suite a ((a, oe4) :: (X.pn ++ pins))) [.Assign [.Name m pm] (.Name n pn') pa] (tAsg (tVar i) (gName j)) :=
        pss_one (ps_asg (X := X.suite a ((a, oe4) :: (X.pn ++ pins))) (pe_var (X := X.suite a ((a, oe4) :: (X.pn ++ pins))) hi (.inl hln) hd1 hd2) (pg_name (X := X.suite a ((a, oe4) :: (X.pn ++ pins))) hN hj (.inl hlm) (.inr hlm)) hsw hss has)
      have hsl : σ'.length = X.N.length := J.len
      have hrd : tAsg (tVar i) (gName j) { nx := fun σ6 H6 => σ6 = (σ'.set i (some (.ref a))).set j (some (.ref a)) ∧ H6 = H', rt := fun _ _ => False } (σ'.set i (some (.ref a))) H' :=
        ⟨.ref a, List.getElem?_set_self (by omega), rfl, rfl⟩
      refine wpAny_mono (hps.run [] s5 _ H' _ S5 hrd) (fun f s6 hsp => ?_) (fun _ _ z => False.elim z)
      cases f with
      | next =>
        obtain ⟨σ6, H6, S6, e6, e7⟩ := hsp
        subst e6 e7
        have J6 : Inv X ((a, oe4) :: pins) ((σ'.set i (some (.ref a))).set j (some (.ref a))) H6 s6 :=
          ⟨ok, S6.os, S6.bare, S6.base, S6.loc, S6.cell, S6.free, S6.freeC, fun p hp => S6.pin p (by
            rcases List.mem_append.mp hp with q | q
            · exact List.mem_append_left _ (List.mem_cons_of_mem _ (List.mem_append_left _ q))
            · rcases List.mem_cons.mp q with q | q
              · rw [q]
                exact List.mem_append_left _ List.mem_cons_self
              · exact List.mem_append_left _ (List.mem_cons_of_mem _ (List.mem_append_right _ q))), S6.hok, S6.len⟩
        have hz5 : Zc (.ref C) d oe4 := by rw [← hC]; exact hz4
        have done : ∀ {Q : Shared → Prop}, (∀ s7, Inv X pins (((σ'.set i (some (.ref a))).set j (some (.ref a))).set i none) (upd H6 a (xO C d a)) s7 → Q s7) →
            wpAny (model X.prog X.w) X.A (do bindName X.env n .none; unbindBehindTheSuite X.env n pos') (fun _ s7 => Q s7) X.xe s6 :=
          fun {Q} hq => gone_ok J6 hN hi hln fun s7 J7 => hq s7 (inv_track J7 hz5 hd4 n0 npn)
        refine done fun s7 J7 => ⟨_, _, J7, ?_⟩
        have e8 : ((σ'.set i (some (V.ref a))).set j (some (.ref a))).set i none = (σ'.set j (some (.ref a))).set i none := by
          by_cases hij : i = j
          · subst hij
            simp
          · rw [List.set_comm _ _ (hij), List.set_set]
        rw [e8]
        exact hnx
      | brk => exact hsp.elim fun _ h => h.elim fun _ h => h.2.elim
      | cont => exact hsp.elim fun _ h => h.elim fun _ h => h.2.elim
      | ret u => exact hsp.elim fun _ h => h.elim fun _ h => h.elim fun _ h => h.2.2.elim
    | false =>
      show wpAny _ X.A (handleBy (.ref a) X.env []) _ _ _
      refine wpAny_handleBy_nil ?_
      obtain ⟨k1, k2, k3, oe, vs, T, oT, ts', he, hz, hd, h1, hr⟩ := id fl3
      unfold PySem.passOn
      refine wpAny_bind (wpAny_field he hd h1 ?_)
      rw [if_neg (show ¬ ((Value.ref T == Value.none) = true) from by simp)]
      have fin : wpAny (model X.prog X.w) X.A (setFlight (.ref a) X.env.frame) (fun _ s4 => wpAny (model X.prog X.w) X.A (throw (.ref a) : Sem Flow) (SP X pins D) X.xe s4) X.xe { s' with heap := h3 } := by
        rw [hf]
        refine HandSPX.setFlight_upZ fl3 fun h4 hh4 up4 => wpAny_throw (tk _ _ ?_)
        exact ⟨a, B, sI, pins, σ', H', cls, d, rfl, J, nb, (up.trans up3).trans up4, .inr (.inr (by rw [hs]; exact hh4)), na, os, ag, hno rfl⟩
      first
        | exact wpAny_bind (wpAny_pure (wpAny_bind fin))
        | exact wpAny_bind fin
  · cases f with
    | next =>
      obtain ⟨σ', H', J', q⟩ := hsp
      exact wpAny_execs_nil ⟨σ', H', J'.ofTry ok, q⟩
    | brk =>
      obtain ⟨σ', H', J', q⟩ := hsp
      exact ⟨σ', H', J'.ofTry ok, q⟩
    | cont =>
      obtain ⟨σ', H', J', q⟩ := hsp
      exact ⟨σ', H', J'.ofTry ok, q⟩
    | ret u =>
      obtain ⟨v, σ', H', J', r, q⟩ := hsp
      exact ⟨v, σ', H', J'.ofTry ok, r, q⟩
end

/-! ### .. in the layer -/
def tU (G : Gm) (m : MS) (W : WX) : TS := fun D σ H => ∃ ρ S F μ, EnvR G F μ ρ σ ∧ Rel G F μ S H ∧ PostS G W F μ D (m ρ S)
theorem pss_U {G : Gm} {X : Cx} {W : WX} {st : List Stmt} {m : MS} (h : SSs G X W st m) : PSs X st (tU G m W) := by
  obtain ⟨t, p, i⟩ := h
  exact ⟨fun pins s σ H D I hh => by
    obtain ⟨ρ, S, F, μ, he, hr, hp⟩ := hh
    exact p.run pins s σ H D I (i ρ S σ H F μ D he hr hp)⟩
def sTryK (ex : Nat → Option Bool) (i j : Nat) (mb : MS) : MS := fun ρ S =>
  match mb ρ S with
  | .ex ρ' c ks vs S' => (match ex c with
    | some true => .nx ((ρ'.set j (some (.exn c ks vs))).set i none) S'
    | some false => .ex ρ' c ks vs S'
    | none => .bad)
  | r => r
theorem EnvR.setN {G : Gm} {F : Hp} {μ : List Addr} {ρ : Env'} {σ : L2.St} (h : EnvR G F μ ρ σ) (i : Nat) : EnvR G F μ (ρ.set i none) (σ.set i none) := by
  refine ⟨by simp [h.len], fun j e hj => ?_⟩
  by_cases hij : i = j
  · subst hij
    by_cases hl : i < ρ.length
    · rw [List.getElem?_set_self hl] at hj
      cases hj
    · rw [List.getElem?_eq_none (by simp; omega)] at hj
      cases hj
  · rw [List.getElem?_set_ne hij] at hj
    rw [List.getElem?_set_ne hij]
    exact h.get j e hj
theorem Ok.tr {G : Gm} {X : Cx} {k : Nat} {W W' : WX} {pn : List (Addr × Obj)} {xe : Value → Shared → Prop} (ok : Ok G X k W) (h1 : Takes (X.tr pn xe) W') (h2 : PassesOwn (model X.prog X.w) X.A X.env xe) : Ok G (X.tr pn xe) k W' :=
  ⟨ok.K, ok.mg, ok.calm, ok.nd, ok.room, ok.gd, h1, h2⟩
section
variable {G : Gm} {X : Cx} {W : WX} {k : Nat} {x n m : Str} {cv : Value} {i j : Nat} {body : List Stmt} {np pm pn' pa pos pos' : Pos} {mb : MS} {exn : Nat → Option Bool}
theorem ss_try_keep (ok : Ok G X k W) (hc : Names X x cv) (hx : ∀ c b, exn c = some b → PySem.W.exmOne G.K (.ref (G.cls c)) cv = some b)
    (hbody : ∀ (pn : List (Addr × Obj)) (xe : Value → Shared → Prop) (W' : WX), Ok G (X.tr pn xe) k W' → SSs G (X.tr pn xe) W' body mb)
    (hi : X.N[i]? = some n := by rfl) (hj : X.N[j]? = some m := by rfl) (hs : X.stack = X.env :: X.outer := by rfl) (hf : X.env.frame = some X.env.locals := by rfl) (hex : X.ex = [] := by rfl) (hln : X.env.kindOf n = some .local := by rfl) (hlm : X.env.kindOf m = some .local := by rfl)
    (hd1 : (n == ("__debug__" : Str)) = false := by decide) (hd2 : (n == ("__classdict__" : Str)) = false := by decide)
    (hsw : swapsWithSole [.Name m pm] (.Name n pn') pa.line X.env = pure false := by rfl) (hss : swappedStores [.Name m pm] (.Name n pn') X.env = pure none := by rfl) (has : (assignEach [.Name m pm] X.env).map (·.2) = [assign (.Name m pm) X.env] := by rfl) :
    SS G X W (.Try body [.ExceptHandler (some (.Name x np)) (some n) [.Assign [.Name m pm] (.Name n pn') pa] pos'] [] [] pos) (sTryK exn i j mb) := by
  refine ⟨_, ps_try_keep (tb := tU G mb) hs hf hex ok.nd hi hj hln hlm hc ok.tk (fun W' pn xe h1 h2 => pss_U (hbody pn xe W' (ok.tr h1 h2))) hd1 hd2 hsw hss has, fun ρ S σ H F μ Ds he hr hp => ?_⟩
  refine ⟨ρ, S, F, μ, he, hr, ?_⟩
  unfold sTryK at hp
  cases hm : mb ρ S with
  | ex ρ' c ks vs S' =>
    rw [hm] at hp
    simp only at hp
    intro F' μ' σ' dx xs H' x1 r1 e1 a1 l1 p1
    cases hq : exn c with
    | none => rw [hq] at hp; exact hp.elim
    | some b =>
      rw [hq] at hp
      refine ⟨b, by rw [ok.K]; exact hx c b hq, fun hb a ha => ?_, fun hb => ?_⟩
      · subst hb
        obtain ⟨xx, r2⟩ := r1.newF (xO (G.cls c) dx a) ha
        exact ⟨G.cls c, rfl, hp _ μ' _ _ (x1.trans xx) r2 (((e1.mono xx).set j (.exn upd_same (a1.same xx.fz) l1 (p1.mono xx))).setN i)⟩
      · subst hb
        exact hp F' μ' σ' dx xs H' x1 r1 e1 a1 l1 p1
  | nx ρ' S' => rw [hm] at hp; exact hp
  | rt d S' => rw [hm] at hp; exact hp
  | bk ρ' S' => rw [hm] at hp; exact hp
  | ct ρ' S' => rw [hm] at hp; exact hp
  | bad => rw [hm] at hp; exact hp
end

/-! ### its fields -/
def tXa (K : PySem.W.Frag) (n : Str) (te : TE) : TE := fun σ H Q => te σ H fun x H1 => ∃ (a C dx : Addr) (fs : List (Str × V)) (v : V), x = .ref a ∧ H1 a = some (xO C (some dx) a) ∧ XfC K C ∧ PySem.W.findIn K (.ref C) n = some none ∧ H1 dx = some (.xd fs) ∧ fs.lookup n = some v ∧ Q v H1
theorem pe_xa {X : Cx} {e : Expr} {te : TE} {pos : Pos} {n : Str} (he : PE X e te) (hb : attributeBase e n X.env (eval e X.env) = eval e X.env := by rfl) : PE X (.Attribute e n pos) (tXa X.K n te) := by
  refine ⟨fun pins s σ H Q I h => ?_⟩
  refine attr_of hb (thn (he.run pins s σ H _ I h) fun u s1 hh => ?_)
  obtain ⟨x, H1, I1, rx, a, C, dx, fs, v, ex, ea, T, hno, ed, l, q⟩ := hh
  subst ex
  obtain rfl : u = Value.ref a := rx
  have hy : ObjOk X.prog X.w H1 s1.heap a (.ext fun h => ∃ (oe : Obj) (vs : Array Value), h.get? a = some oe ∧ Zc (.ref C) (some dx) oe ∧ oe.data = .fields vs) := I1.hok a _ ea
  obtain ⟨oe, vs, ho, hz, hd⟩ := hy.1
  have hx : ObjOk X.prog X.w H1 s1.heap dx (.xd fs) := I1.hok dx _ ed
  obtain ⟨mA, hns, hr⟩ := hx
  obtain ⟨od, hod, hl⟩ := lookIn_ns hns
  obtain ⟨u, hu, ru⟩ := RelO.some_of (v := v) (o := mA n) (by rw [← l]; exact hr n)
  have J : PySem.W.InstAt s1.heap a oe C (some od) := by
    refine ⟨ho, hz.1, ?_, ?_⟩
    · unfold PySem.W.notCls
      rw [hd] <;> rfl
    · rw [hz.2]
      exact hod
  exact HandSPX.exc_get I1.kIn J T.ga T.gg T.exC (PySem.W.findObj_own T.hdC hno rfl (by rw [hl, hu])) (handed_of ru) ⟨v, H1, I1.tok _, ru, q⟩
def attrX (cs : List Nat) (n : Str) : D → Store → Res D
  | .exn c ks vs, S => if c ∈ cs then resO ((ks.zip vs).lookup n) S else .bad
  | _, _ => .bad
theorem zip_lookup {G : Gm} {F : Hp} {μ : List Addr} {n : Str} : ∀ {ks : List Str} {vs : List D} {xs : List V} {d : D}, Reps G F μ vs xs → (ks.zip vs).lookup n = some d → ∃ v, (ks.zip xs).lookup n = some v ∧ Rep G F μ d v
  | [], _, _, _, _, h => by simp at h
  | _ :: _, _, _, _, .nil, h => by simp at h
  | k :: ks, _, _, d, .cons (d := d') (v := v') r rs, h => by
    simp only [List.zip_cons_cons, List.lookup_cons] at h ⊢
    cases e : (n == k) with
    | true =>
      rw [e] at h
      cases h
      exact ⟨v', rfl, r⟩
    | false =>
      rw [e] at h
      exact zip_lookup rs h
structure XaT (G : Gm) (cs : List Nat) (n : Str) : Prop where
  ok : ∀ c ∈ cs, XfC G.K (G.cls c) ∧ PySem.W.findIn G.K (.ref (G.cls c)) n = some none
theorem cx_xattr {G : Gm} {X : Cx} {W : WX} {k : Nat} {e : Expr} {pos : Pos} {n : Str} {m : ME} {cs : List Nat} (ok : Ok G X k W) (T : XaT G cs n) (h : SE G X W e m) (hb : attributeBase e n X.env (eval e X.env) = eval e X.env := by rfl) :
    SE G X W (.Attribute e n pos) (mUn (attrX cs n) m) := by
  obtain ⟨t, p, i⟩ := h
  refine ⟨_, pe_xa p hb, fun ρ S σ H F μ Q he hr hp => ?_⟩
  refine i ρ S σ H F μ _ he hr (Post.bind hp fun d S1 F1 μ1 v H1 x1 r1 p1 q1 => ?_)
  cases p1 with
  | @exn a od c ks vs xs h1 h2 h3 h4 =>
    simp only [attrX] at q1
    obtain ⟨hc, q1⟩ := post_if q1
    obtain ⟨d', e', q2⟩ := post_resO1 q1
    obtain ⟨v', hv, rv⟩ := zip_lookup h4 e'
    cases od with
    | none =>
      have : ks = [] := h2
      subst this
      simp at e'
    | some dx =>
      have h2' : F1 dx = some (.xd (ks.zip xs)) := h2
      rw [ok.K]
      exact ⟨a, G.cls c, dx, _, v', rfl, r1.sub _ _ h1, (T.ok c hc).1, (T.ok c hc).2, r1.sub _ _ h2', hv, q2 F1 μ1 v' H1 (Ext.refl _ _) r1 rv⟩
  | _ => exact q1.elim
end Z

set_option Elab.async false
set_option linter.all false
set_option maxRecDepth 100000
set_option maxHeartbeats 4000000
set_option autoImplicit false
namespace Z
open PySem PySem.Spec PyProof.Rows L2

/-! ## enumerate -/
def enumL (l : List D) : List D := l.zipIdx.map fun p => .tup [.int (p.2 : Int), p.1]
theorem enumL_len (l : List D) : (enumL l).length = l.length := by simp [enumL]
theorem enumL_get {l : List D} {i : Nat} {d : D} (h : (enumL l)[i]? = some d) : ∃ x, l[i]? = some x ∧ d = .tup [.int (i : Int), x] := by
  unfold enumL at h
  rw [List.getElem?_map, List.getElem?_zipIdx] at h
  cases e : l[i]? with
  | none => rw [e] at h; cases h
  | some x =>
    rw [e] at h
    cases h
    exact ⟨x, rfl, by simp⟩
section
variable {G : Gm} {X : Cx} {W : WX} {k : Nat}
theorem yields_enum {K : PySem.W.Frag} {F : Hp} {μ : List Addr} {a : Addr} {l : List D} {xs : List V} (hs : SqL K F a xs) (hr : Reps G F μ l xs) : Yields G F μ (enumL l) (Ite K a) where
  go := fun i F1 μ1 S H x r hi => by
    rw [enumL_len] at hi
    obtain ⟨v, hv⟩ : ∃ v, xs[i]? = some v := ⟨_, List.getElem?_eq_getElem (by rw [← hr.length]; exact hi)⟩
    exact ⟨xs, v, same_sqL (x.fz.trans r.sub) hs, hv⟩
  stop := fun i F1 μ1 S H x r hi => by
    rw [enumL_len] at hi
    exact ⟨xs, same_sqL (x.fz.trans r.sub) hs, by rw [← hr.length]; exact hi⟩
  yld := fun i F1 μ1 S H v H' d x r hd hy => by
    obtain ⟨T, y, rfl, hn, rfl, h⟩ := hy
    have hv := h xs (same_sqL (x.fz.trans r.sub) hs)
    obtain ⟨e, he, rfl⟩ := enumL_get hd
    obtain ⟨w, h1, h2⟩ := hr.get he
    rw [hv] at h1
    cases h1
    obtain ⟨xx, rr⟩ := r.newF (.tup [.int (i : Int), y]) hn
    exact ⟨_, μ1, xx, rr, .tup (.inl upd_same) (.cons (.int _) (.cons ((h2.mono x).mono xx) .nil))⟩
def mEnum (l : ML) : ML := fun ρ S => (l ρ S).bind fun ds S1 =>
  match ds with
  | [.lst l] => .ok (enumL l) S1
  | [.kst l] => .ok (enumL l) S1
  | _ => .bad
theorem si_enum {elts : List Expr} {kk : Nat} {tpos p pos : Pos} {a : Expr} {m : ML} (ok : Ok G X k W) (hm : G.mg "enumerate" = none) (ha : SA G X W [a] m) (hg : Gl X "enumerate" := by rfl) (hs : starEach [a] X.env = [(false, eval a X.env)] := by rfl) :
    SI G X W (.Tuple elts kk tpos) (.Call (.Name "enumerate" p) [a] [] pos) (mEnum m) := by
  obtain ⟨t, pa, i⟩ := ha
  refine ⟨_, pi_enum hg (by rw [ok.mg]; exact hm) pa hs, fun ρ S σ H F μ R he hr hp => ?_⟩
  refine i ρ S σ H F μ _ he hr (Post.bind hp fun ds S1 F1 μ1 vs H1 x1 r1 p1 q1 => ?_)
  split at q1
  · cases p1 with
    | cons a1 b1 =>
      cases b1
      cases a1 with
      | lst h1 h2 => exact ⟨_, _, rfl, by rw [ok.K]; exact SqL.of (r1.sub _ _ h1), q1 F1 μ1 _ H1 (Ext.refl _ _) r1 (yields_enum (by rw [ok.K]; exact SqL.of h1) h2)⟩
  · cases p1 with
    | cons a1 b1 =>
      cases b1
      cases a1 with
      | kst h1 h2 => exact ⟨_, _, rfl, by rw [ok.K]; exact same_sqL r1.sub h1, q1 F1 μ1 _ H1 (Ext.refl _ _) r1 (yields_enum (by rw [ok.K]; exact h1) h2)⟩
  · exact q1.elim
end

/-! ## what is checked of the classes, all at once -/
section
open PySem.W
def excTB (K : Frag) (C : Addr) : Bool :=
  (clsIn K C).isSome && (decide (findIn K (.ref C) "__getattribute__" = some (some (.builtin "BaseException.__getattribute__"))) && (decide (findIn K (.ref C) "__getattr__" = some none) && (decide (subIn K (.ref C) (.type "BaseException") = some true) &&
  (decide (findIn K (.ref C) "__class__" = some (some (.builtin "object.__class__"))) && (decide (specialIn K (.builtin "object.__class__") "__get__" = some (some (.builtin "getset_descriptor.__get__"))) && (decide (takesIn K (.builtin "object.__class__") = some true) &&
  (decide (mroIn K C (.type "object") = some true) && hasDictIn K C)))))))
theorem excTB_ok {K : Frag} {C : Addr} (h : excTB K C = true) : ExcT K C := by
  unfold excTB at h
  simp only [Bool.and_eq_true, decide_eq_true_eq] at h
  obtain ⟨h1, h2, h3, h4, h5, h6, h7, h8, h9⟩ := h
  exact ⟨h1, h2, h3, h4, h5, h6, h7, h8, h9⟩
/-- the built-in kinds that values have -/
def bknd : List String := ["NoneType", "bool", "int", "str", "tuple", "list", "dict"]
def tabB (K : Frag) (C : Nat → Addr) (n : Nat) (tys : List String) (sub : Nat → Nat → Bool) (sty : Nat → String → Bool) : Bool :=
  ((List.range n).all fun c => bknd.all fun m => decide (kitOne K (.type m) (.ref (C c)) = some false)) && (List.range n).all fun c => excTB K (C c) && ((List.range n).all (fun d => decide (kitOne K (.ref (C c)) (.ref (C d)) = some (sub c d))) && tys.all fun t => decide (kitOne K (.ref (C c)) (.type t) = some (sty c t)))
def tabX (n : Nat) (tys : List String) (sub : Nat → Nat → Bool) (sty : Nat → String → Bool) : Tab := fun a b =>
  match a, b with
  | .exc c, .cls d => if c < n ∧ d < n then some (sub c d) else none
  | .exc c, .ty t => if c < n ∧ t ∈ tys then some (sty c t) else none
  | .exc _, .exc _ => none
  | .ty m, .cls d => if m ∈ bknd ∧ d < n then some false else none
  | a, b => tab0 a b
theorem kitN : ∀ m ∈ ["NoneType", "bool", "int", "str", "tuple", "list", "dict"], True := fun _ _ => trivial
theorem tab0_cls {a : Tg} {d : Nat} : tab0 a (.cls d) = none := by cases a <;> rfl
theorem tabX_ok {G : Gm} {n : Nat} {tys : List String} {sub : Nat → Nat → Bool} {sty : Nat → String → Bool} (h : tabB G.K G.cls n tys sub sty = true) : TabOk G (tabX n tys sub sty) := by
  unfold tabB at h
  rw [Bool.and_eq_true] at h
  have hty : ∀ m d, m ∈ bknd → d < n → kitOne G.K (.type m) (.ref (G.cls d)) = some false := fun m d hm hd => by
    have q := List.all_eq_true.mp (List.all_eq_true.mp h.1 d (List.mem_range.mpr hd)) m hm
    exact of_decide_eq_true q
  replace h := h.2
  rw [List.all_eq_true] at h
  have hx : ∀ c, c < n → ExcT G.K (G.cls c) ∧ (∀ d, d < n → kitOne G.K (.ref (G.cls c)) (.ref (G.cls d)) = some (sub c d)) ∧ ∀ t ∈ tys, kitOne G.K (.ref (G.cls c)) (.type t) = some (sty c t) := fun c hc => by
    have q := h c (List.mem_range.mpr hc)
    simp only [Bool.and_eq_true, List.all_eq_true, decide_eq_true_eq] at q
    exact ⟨excTB_ok q.1, fun d hd => q.2.1 d (List.mem_range.mpr hd), q.2.2⟩
  refine ⟨fun c b r hr => ?_, fun a b r hr => ?_, fun c b r hr => ?_⟩
  · unfold tabX at hr
    cases b with
    | cls d =>
      simp only at hr
      split at hr
      · rename_i hc
        exact (hx c hc.1).1
      · cases hr
    | ty t =>
      simp only at hr
      split at hr
      · rename_i hc
        exact (hx c hc.1).1
      · cases hr
    | exc d => cases hr
  · unfold tabX at hr
    cases a with
    | exc c =>
      cases b with
      | cls d =>
        simp only at hr
        split at hr
        · rename_i hc
          cases hr
          exact (hx c hc.1).2.1 d hc.2
        · cases hr
      | ty t =>
        simp only at hr
        split at hr
        · rename_i hc
          cases hr
          exact (hx c hc.1).2.2 t hc.2
        · cases hr
      | exc d => cases hr
    | ty t =>
      cases b with
      | cls d =>
        simp only at hr
        split at hr
        · rename_i hc
          cases hr
          exact hty t d hc.1 hc.2
        · cases hr
      | ty u => exact tab0_ok.kit _ _ _ hr
      | exc d => exact tab0_ok.kit _ _ _ hr
    | cls c => exact tab0_ok.kit _ _ _ hr
  · exact tab0_ok.cls c b r hr
/-- what the text says of a class's __init__ -/
structure XsC (qual : Str) (st : Stmt) (fs : List Str) : Prop where
  ins : InS fs (defScope st)
  har : ((defArgs st).posonlyargs ++ (defArgs st).args).head?.map (·.arg) = some ("self" : Str)
  sup : ∃ (t : Str) (n : Nat) (p0 p1 p2 p3 p4 p5 : Pos) (rest : List Stmt), SupEq qual (defScope st) t n p0 p1 p2 p3 p4 ∧ defBody st = supS t n p0 p1 p2 p3 p4 p5 :: rest ∧ FldB fs rest
  ndb : ∀ f ∈ fs, (f == ("__debug__" : Str)) = false ∧ (f == ("__classdict__" : Str)) = false
theorem free_of {l : List (Str × NameKind)} (h : ∀ y ∈ l, y.2 = .free → y.1 = ("__class__" : Str)) : ∀ x, l.lookup x = some .free → x = "__class__" := fun x hx => h (x, .free) (PySem.mem_of_lookup hx) rfl
def clsB (s : Stmt) : List Stmt := match s with
  | .ClassDef _ _ _ b _ _ _ _ _ _ _ => b
  | _ => []
/-- .. and the written part -/
def xcB (K : Frag) (C fI : Addr) (fs : List Str) : Bool :=
  decide (findIn K (.ref C) "__setattr__" = some (some (.builtin "object.__setattr__"))) && (decide (subIn K (.ref C) (.type "BaseException") = some true) && (decide (typeIn K (.ref C) = some (.type "type")) && (keepIn K (.ref C) &&
  (decide (findIn K (.ref C) "__init__" = some (some (.ref fI))) && (decide (typeIn K (.ref fI) = some (.type "function")) && (decide (ks_superIn K C C "__init__" = some (some (.builtin "ValueError.__init__"))) && (decide (mroIn K C (.ref C) = some true) &&
  (decide (subIn K (.ref C) (.type "ValueError") = some true) && fs.all fun f => decide (findIn K (.ref C) f = some none)))))))))
theorem xcf_mk {G : Gm} {P : Program} {c : Nat} {x qual : Str} {st : Stmt} {fs : List Str} {fI C cda cc : Addr} {nm q : Str} {N : Addr} {bs bm : List Value} {sn : List Str} {sub : List Value} {ab : Bool} {col : Option Bool} {dd od an cdd cld : Option Addr} {k0 k1 k2 k3 k5 : Option Value}
    {oc dV kV doc pm ct ccl cl : Value} {osl ccs csl : Array (Option Value)} {vs : Array Value} {file : Str} {tf : Tok} (xs : XsC qual st fs) (hC : G.cls c = C) (hm : G.mg x = some (.ref C))
    (lC : G.K.lookup C = some (excClassObj nm q C N bs bm true sn sub ab col dd k0 k1 k2 k3 k5 "ValueError.__new__")) (rv : PySem.HandSPX.refsVE bm = true) (xb : xcB G.K C fI fs = true)
    (lI : G.K.lookup fI = some ⟨oc, od, .func (ksFn "__init__" qual (defArgs st) (defBody st) (defScope st) dV kV doc pm an (.ref cda) ct cc), osl⟩) (cI : codeIn G.K (.ref cda) qual = true)
    (lcd : G.K.lookup cda = some ⟨ccl, cdd, .fields vs, ccs⟩) (v2 : vs[2]? = some (.str file tf)) (pf : ((P.main.file : Str) == file) = true) (lcc : G.K.lookup cc = some ⟨cl, cld, .cell (some (.ref C)), csl⟩)
    (su : nsIn G.K mainGlobals "super" = some none) (tp : (P.main.scope.names.lookup ("super" : Str)).isSome = false) (oq : nsIn G.K cStatics "thirdparty.any" = some none) :
    XcF G P c x qual st fs fI (ksFn "__init__" qual (defArgs st) (defBody st) (defScope st) dV kV doc pm an (.ref cda) ct cc) := by
  subst hC
  unfold xcB at xb
  simp only [Bool.and_eq_true, decide_eq_true_eq, List.all_eq_true] at xb
  obtain ⟨b1, b2, b3, b4, b5, b6, b7, b8, b9, b10⟩ := xb
  exact ⟨hm, ⟨⟨⟨nm, q, N, bs, bm, sn, sub, ab, col, dd, k0, k1, k2, k3, k5, lC, rv⟩, b1, b2, b3, b4⟩, b5, b6, ⟨oc, od, doc, pm, kV, dV, an, cda, cc, ct, osl, rfl, lI, cI, ⟨ccl, cdd, vs, ccs, file, tf, lcd, v2, pf⟩, ⟨cl, cld, csl, lcc⟩⟩, su, tp, b7, oq, b8, b9, b10⟩, xs.ins, xs.har, xs.sup, xs.ndb⟩
theorem bdX_mk {K : Frag} {fd : FuncData} {fs : List Str} {n : Nat} {ks : List Str} {src : List Src}
    (h : ∀ (self : Value) (us ws r : List Value), us.length = n → ws.length = ks.length → fill us ws [] src = some r → bindArgs fd ⟨self :: us, ks.zip ws⟩ = pure ((sf fs).zip (self :: r))) : BdX K fd fs n ks src := fun s self us ws r _ h1 h2 h3 => .of_eq (h self us ws r h1 h2 h3)
def xaB (K : Frag) (C : Nat → Addr) (cs : List Nat) (n : Str) : Bool := cs.all fun c => xfB K (C c) && decide (findIn K (.ref (C c)) n = some none)
theorem xaB_ok {G : Gm} {cs : List Nat} {n : Str} (h : xaB G.K G.cls cs n = true) : XaT G cs n := ⟨fun c hc => by
  have q := (List.all_eq_true.mp h) c hc
  rw [Bool.and_eq_true] at q
  exact ⟨xfB_ok q.1, of_decide_eq_true q.2⟩⟩
def exqX (n : Nat) (sub : Nat → Nat → Bool) (d : Nat) : Nat → Option Bool := fun c => if c < n then some (sub c d) else none
def exB (K : Frag) (C : Nat → Addr) (n : Nat) (sub : Nat → Nat → Bool) (d : Nat) : Bool := (List.range n).all fun c => decide (exmOne K (.ref (C c)) (.ref (C d)) = some (sub c d))
theorem exB_ok {G : Gm} {n d : Nat} {sub : Nat → Nat → Bool} (h : exB G.K G.cls n sub d = true) : ∀ c b, exqX n sub d c = some b → exmOne G.K (.ref (G.cls c)) (.ref (G.cls d)) = some b := fun c b hq => by
  unfold exqX at hq
  split at hq
  · rename_i hc
    cases hq
    exact of_decide_eq_true ((List.all_eq_true.mp h) c (List.mem_range.mpr hc))
  · cases hq
end
theorem cx_cls {G : Gm} {X : Cx} {W : WX} {k c : Nat} {x : Str} {pos : Pos} (ok : Ok G X k W) (hm : G.mg x = some (.ref (G.cls c))) (hg : Gl X x := by rfl) (hdb : (x == ("__debug__" : Str)) = false := by decide) : SE G X W (.Name x pos) (mC (.cls c)) :=
  se_c (pe_glob hg (by rw [ok.mg]; exact hm) (show RelV (.ref (G.cls c)) (.ref (G.cls c)) from rfl) hdb) fun _ _ => .cls c
theorem nms {G : Gm} {X : Cx} {W : WX} {k c : Nat} {x : Str} (ok : Ok G X k W) (hm : G.mg x = some (.ref (G.cls c))) (hg : Gl X x := by rfl) (hdb : (x == ("__debug__" : Str)) = false := by decide) : Names X x (.ref (G.cls c)) := ⟨hg, hdb, .inl (by rw [ok.mg]; exact hm)⟩
end Z

set_option Elab.async false
set_option linter.all false
set_option maxRecDepth 100000
set_option maxHeartbeats 4000000
set_option autoImplicit false
namespace Z
open PySem PySem.Spec PyProof.Rows L2

/-! ## repr of a list in which flat dicts stand -/
/-- scalars -/
inductive Sc : V → PyData → Prop
  | non : Sc .non .none
  | bl (b : Bool) : Sc (.bl b) (.bool b)
  | int (i : Int) : Sc (.int i) (.int i)
  | str (x : Str) : Sc (.str x) (.str x)
def keyP : Key → PyData
  | .inl i => .int i
  | .inr x => .str x
/-- an item: data without dicts, or a flat dict -/
inductive Di (K : PySem.W.Frag) (H : Hp) : V → PyData → Prop
  | data {v : V} {p : PyData} : Dp K H v p → p.hasDict = false → Di K H v p
  | dct {a : Addr} {kvs : List (Key × V)} {ps : List (PyData × PyData)} : H a = some (.dK kvs) → PySem.Paired (fun (q : Key × V) (r : PyData × PyData) => r.1 = keyP q.1 ∧ Sc q.2 r.2) kvs ps → Di K H (.ref a) (.dict ps)
section
variable {X : Cx} {pins : List (Addr × Obj)} {σ : L2.St} {H : Hp} {s : Shared}
theorem sc_reads {h : Heap} {v : V} {p : PyData} {u : Value} (hh : Sc v p) (r : RelV v u) : Reads h u p [] := by
  revert hh
  intro h
  cases h with
  | non => cases r; exact .none
  | bl b => cases r; exact .bool b
  | int i => obtain ⟨t, rfl⟩ := r; exact .int i t
  | str x => obtain ⟨t, rfl⟩ := r; exact .str x t
theorem dct_all {P : Program} {w : World} {h : Heap} : ∀ {es : List DictEntry} {us : List (Key × Value)} {kvs : List (Key × V)} {ps : List (PyData × PyData)}, Pairs (mixKind P w) es us → KV kvs us →
    PySem.Paired (fun (q : Key × V) (r : PyData × PyData) => r.1 = keyP q.1 ∧ Sc q.2 r.2) kvs ps → ReadsAll h (es.map (·.key)) (ps.map (·.1)) [] ∧ ReadsAll h (es.map (·.val)) (ps.map (·.2)) []
  | _, _, _, _, .nil, a, b => by
    cases a
    cases b
    exact ⟨.nil, .nil⟩
  | _, _, _, _, .cons (e := e) h1 h2 h3, a, b => by
    cases a with
    | cons a1 a2 =>
      cases b with
      | cons b1 b2 =>
        rename_i kv _ _ q _ r _
        obtain ⟨i1, i2⟩ := dct_all (h := h) h3 a2 b2
        obtain ⟨k, v⟩ := q
        obtain ⟨k', u⟩ := kv
        obtain ⟨e1, e2⟩ := a1
        obtain ⟨f1, f2⟩ := b1
        simp only at e1 e2 f1 f2 h1 h2
        subst e1
        have hk : Reads h e.key r.1 [] := by
          rw [f1]
          rcases keyIs_shape (show keyIs k e.key = true from h1) with ⟨i, t, rfl, z⟩ | ⟨x, t, rfl, z⟩
          · rw [z]; exact .int i t
          · rw [z]; exact .str x t
        have hv : Reads h e.val r.2 [] := by
          rw [h2]
          exact sc_reads f2 e2
        exact ⟨.cons hk i1, .cons hv i2⟩
theorem di_reads (I : Inv X pins σ H s) {v : V} {p : PyData} {u : Value} (h : Di X.K H v p) (r : RelV v u) : ∃ as, Reads s.heap u p as ∧ (p.hasDict = true → sysModules ∉ as) := by
  cases h with
  | data h1 h2 =>
    obtain ⟨as, q⟩ := Dp.reads I _ _ _ h1 r
    exact ⟨as, q, fun z => by rw [h2] at z; cases z⟩
  | @dct a kvs ps h1 h2 =>
    obtain rfl : u = Value.ref a := r
    have hx : ObjOk X.prog X.w H s.heap a (.dK kvs) := I.hok a _ h1
    obtain ⟨_, hsys, vs, hkv, o, es, ep, ho, hex, hd, _, hp, _⟩ := hx
    obtain ⟨q1, q2⟩ := dct_all (h := s.heap) hp hkv h2
    refine ⟨_, Reads.dict ho hex.1 hd q1 q2, fun _ hm => ?_⟩
    have hm' : sysModules = a := by simpa using hm
    rw [← hm'] at hsys
    simp at hsys
theorem di_all (I : Inv X pins σ H s) : ∀ {vs : List V} {ps : List PyData} {us : List Value}, PySem.Paired (Di X.K H) vs ps → Vals vs us → PyData.showableAll ps = true → (∀ t ∈ PyData.shownAll ps, t.length ≤ sizeLine) →
    ∃ as bs, ReadsAll s.heap us ps as ∧ ReadAtMost s.heap (PyData.depthAll ps) bs ∧ ReprAllK X.prog X.w bs s.heap (PyData.depthAll ps) us (PyData.shownAll ps)
  | _, _, _, .nil, r, _, _ => by
    cases r
    exact ⟨[], [], .nil, (fun _ h => nomatch h), by simp only [PyData.shownAll]; exact .nil⟩
  | _, _, _, @PySem.Paired.cons _ _ _ _ d _ ds h1 h2, r, hs, hz => by
    cases r with
    | cons r1 r2 =>
      have hs' : d.showable = true ∧ PyData.showableAll ds = true := by simpa [PyData.showableAll] using hs
      obtain ⟨as1, q1, n1⟩ := di_reads I h1 r1
      obtain ⟨b1, hb1, k1⟩ := ReprK.of_reads (prog := X.prog) (w := X.w) q1 hs'.1 n1 (hz _ (by simp only [PyData.shownAll]; exact List.mem_cons_self ..))
      obtain ⟨as2, b2, q2, hb2, k2⟩ := di_all I h2 r2 hs'.2 (fun t ht => hz t (by simp only [PyData.shownAll]; exact List.mem_cons_of_mem _ ht))
      refine ⟨_, b1 ++ b2, .cons q1 q2, fun b hm => ?_, ?_⟩
      · simp only [PyData.depthAll]
        rcases List.mem_append.mp hm with hm | hm
        · obtain ⟨d', as', r', hd'⟩ := hb1 b hm
          exact ⟨d', as', r', Nat.le_trans hd' (Nat.le_max_left _ _)⟩
        · obtain ⟨d', as', r', hd'⟩ := hb2 b hm
          exact ⟨d', as', r', Nat.le_trans hd' (Nat.le_max_right _ _)⟩
      · simp only [PyData.depthAll, PyData.shownAll]
        exact .cons ((k1.more fun b hb => List.mem_append_left _ hb).level_le (Nat.le_max_left _ _)) (k2.more_le (fun b hb => List.mem_append_right _ hb) (Nat.le_max_right _ _))
end
def rReprI (K : PySem.W.Frag) : List V → Hp → VK → Prop := fun xs H Q => ∃ (a : Addr) (vs : List V) (ps : List PyData), xs = [.ref a] ∧ SqL K H a vs ∧ PySem.Paired (Di K H) vs ps ∧ (PyData.list ps).showable = true ∧ (PyData.list ps).shown.length ≤ sizeLine ∧ (PyData.list ps).depth ≤ 64 ∧ Q (.str (PyData.list ps).shown) H
theorem cr_reprI {X : Cx} {k : Nat} (hgd : X.A.guards = some []) (hr : Room k X.A) : CallR X (.builtin "repr") (rReprI X.K) := by
  intro pins s σ H xs us Q I rv h
  obtain ⟨a, vs, ps, rfl, hl, hp, hs, hz, hdp, q⟩ := h
  obtain ⟨u, rfl, ru⟩ := vals1 rv
  obtain rfl : u = Value.ref a := ru
  have hun := hr.un
  have hz' : (listText (PyData.shownAll ps)).length ≤ sizeLine := by simpa only [PyData.shown] using hz
  obtain ⟨its, rv, ⟨o, n, ho, hc, _, hd⟩, _⟩ := I.list hl
  obtain ⟨as, bs, hra, hb, hk⟩ := di_all I hp rv (by simpa [PyData.showable] using hs) (fun t ht => Nat.le_trans (listText_mem_le ht) hz')
  have R : Reads s.heap (.ref a) (.list ps) (a :: as) := .list ho hc hd hra
  have hna : a ∉ bs := not_mem_of_deeper R (by simp only [PyData.depth]; omega) hb
  have S : ShowsBy X.prog X.w s.heap a (.list ps) "list" "list.__repr__" := by
    refine ⟨F.slot_list_repr.toG, F.slot_list_str, F.slot_list_format, fun s' hk0 => ⟨o, hk0 _ _ ho, hc⟩, fun A E s' Q hg hu hk0 hQ => ?_⟩
    simp only [PyData.depth] at hu
    simp only [PyData.shown] at hQ
    cases its with
    | nil =>
      cases hra
      simp only [PyData.shownAll, listText_nil] at hQ
      exact call_list_repr_empty ⟨o, hk0 _ _ ho, hc⟩ (hk0 _ _ ho) hd (hQ s'.heap _ _ fun _ _ e => e)
    | cons x l => exact call_list_reprK ho hc hd hna (by simpa using hk.length_eq) (fun i y e => hk.item i y (by simpa using e)) hg (fun b _ => Clear.nil b) hu hk0 hQ hz'
  have hun2 : X.A.units + ((PyData.list ps).depth + 1) < cLine := by omega
  exact call_repr_slot (by omega) (S.typeIs s (fun _ _ e => e)) S.slotRepr (S.call X.A.in1 _ s _ hgd (by show X.A.units + 1 + (PyData.list ps).depth < cLine; omega) (fun _ _ e => e) fun h' u tk hk => ⟨_, _, rfl, ⟨.str (PyData.list ps).shown, H, I.kept hk, ⟨u, rfl⟩, q⟩⟩)
/-! ### .. in the layer -/
def scP : D → Option PyData
  | .non => some .none
  | .bl b => some (.bool b)
  | .int i => some (.int i)
  | .str x => some (.str x)
  | _ => none
def scPs : List D → Option (List PyData)
  | [] => some []
  | d :: ds => match scP d, scPs ds with
    | some p, some ps => some (p :: ps)
    | _, _ => none
def itP (d : D) : Option PyData :=
  match d with
  | .dct ks vs => if ks.length = vs.length then (scPs vs).map fun qs => .dict ((ks.map keyP).zip qs) else none
  | d => match toP d with
    | some p => if p.hasDict = false then some p else none
    | none => none
def itPs : List D → Option (List PyData)
  | [] => some []
  | d :: ds => match itP d, itPs ds with
    | some p, some ps => some (p :: ps)
    | _, _ => none
def reprZ (x : D) (S : Store) : Res D :=
  match toPS S x with
  | some p => if SeqAt.shaped p = true ∧ p.showable = true ∧ p.shown.length ≤ sizeLine then .ok (.str p.shown) S else .bad
  | none =>
    match x with
    | .lst l => (match itPs l with
      | some ps => if (PyData.list ps).showable = true ∧ (PyData.list ps).shown.length ≤ sizeLine ∧ (PyData.list ps).depth ≤ 64 then .ok (.str (PyData.list ps).shown) S else .bad
      | none => .bad)
    | _ => .bad
section
variable {G : Gm} {X : Cx} {W : WX} {k : Nat}
theorem sc_ok {F : Hp} {μ : List Addr} : ∀ {ds : List D} {xs : List V} {qs : List PyData}, Reps G F μ ds xs → scPs ds = some qs → PySem.Paired Sc xs qs
  | [], _, _, r, h => by cases r; cases h; exact .nil
  | d :: ds, _, _, r, h => by
    cases r with
    | cons r1 r2 =>
      simp only [scPs] at h
      cases e1 : scP d with
      | none => rw [e1] at h; cases h
      | some p =>
        cases e2 : scPs ds with
        | none => rw [e1, e2] at h; cases h
        | some ps =>
          rw [e1, e2] at h
          cases h
          refine .cons ?_ (sc_ok r2 e2)
          cases r1 with
          | non => cases e1; exact .non
          | bl b => cases e1; exact .bl b
          | int i => cases e1; exact .int i
          | str x => cases e1; exact .str x
          | _ => cases e1
theorem zip_pairs : ∀ {ks : List Key} {xs : List V} {qs : List PyData}, ks.length = xs.length → PySem.Paired Sc xs qs → PySem.Paired (fun (q : Key × V) (r : PyData × PyData) => r.1 = keyP q.1 ∧ Sc q.2 r.2) (ks.zip xs) ((ks.map keyP).zip qs)
  | [], [], _, _, h => by cases h; exact .nil
  | k :: ks, x :: xs, _, hl, h => by
    cases h with
    | cons h1 h2 => exact .cons ⟨rfl, h1⟩ (zip_pairs (by simpa using hl) h2)
  | [], _ :: _, _, hl, _ => by cases hl
  | _ :: _, [], _, hl, _ => by cases hl
theorem it_ok {F : Hp} {μ : List Addr} {H : Hp} (hs : Same F H) {d : D} {v : V} {p : PyData} (r : Rep G F μ d v) (h : itP d = some p) : Di G.K H v p := by
  unfold itP at h
  split at h
  · rename_i ks vs
    split at h
    · rename_i hl
      cases r with
      | dct h1 h2 h3 =>
        cases e : scPs vs with
        | none => rw [e] at h; cases h
        | some qs =>
          rw [e] at h
          cases h
          exact .dct (hs _ _ h1) (zip_pairs (by rw [hl, h3.length]) (sc_ok h3 e))
    · cases h
  · split at h
    · rename_i p' e
      split at h
      · rename_i hd
        cases h
        exact .data (dp_of hs _ _ _ r e) hd
      · cases h
    · cases h
theorem its_ok {F : Hp} {μ : List Addr} {H : Hp} (hs : Same F H) : ∀ {ds : List D} {vs : List V} {ps : List PyData}, Reps G F μ ds vs → itPs ds = some ps → PySem.Paired (Di G.K H) vs ps
  | [], _, _, r, h => by cases r; cases h; exact .nil
  | d :: ds, _, _, r, h => by
    cases r with
    | cons r1 r2 =>
      simp only [itPs] at h
      cases e1 : itP d with
      | none => rw [e1] at h; cases h
      | some p =>
        cases e2 : itPs ds with
        | none => rw [e1, e2] at h; cases h
        | some ps =>
          rw [e1, e2] at h
          cases h
          exact .cons (it_ok hs r1 e1) (its_ok hs r2 e2)
theorem ci_reprZ (hK : X.K = G.K) : CallI G (f1 reprZ) (fun xs H Q => rRepr X.K xs H Q ∨ rReprI X.K xs H Q) := ci_1 fun W F μ σ S H d v Q hr rd hp => by
  unfold reprZ at hp
  split at hp
  · rename_i p hpp
    obtain ⟨⟨h1, h2, h3⟩, hp⟩ := post_if hp
    exact .inl ⟨v, p, rfl, by rw [hK]; exact dp_ok hr rd hpp, h1, h2, h3, post_ok hr (.str _) hp⟩
  · split at hp
    · rename_i l
      split at hp
      · rename_i ps hps
        obtain ⟨⟨h1, h2, h3⟩, hp⟩ := post_if hp
        cases rd with
        | lst hl hrs => exact .inr ⟨_, _, ps, rfl, SqL.of (hr.sub _ _ hl), by rw [hK]; exact its_ok hr.sub hrs hps, h1, h2, h3, post_ok hr (.str _) hp⟩
      · exact hp.elim
    · exact hp.elim
theorem cx_reprZ {p pos : Pos} {e : Expr} {es : List Expr} {m : ML} (ok : Ok G X k W) (hm : G.mg "repr" = none) (ha : SA G X W (e :: es) m) (hg : Gl X "repr" := by rfl) (he : starEach (e :: es) X.env = (false, eval e X.env) :: starEach es X.env := by rfl) (hpl : (backTo pos (starEach es X.env)).any (·.1) = false := by rfl) : SE G X W (.Call (.Name "repr" p) (e :: es) [] pos) (mCall (f1 reprZ) m) :=
  se_callB (ci_reprZ ok.K) ((cr_repr ok.gd ok.room).or (cr_reprI ok.gd ok.room)) ok.mg hm (by decide +kernel) ha hg (by decide) (by decide) he hpl
end
end Z

set_option Elab.async false
set_option linter.all false
set_option maxRecDepth 100000
set_option maxHeartbeats 2000000
set_option autoImplicit false
namespace Z
open PySem PySem.Spec L2

/-! ## reckoning with meanings: plain Lean, no program -/
section
variable (ρ : Env') (S : Store)
@[simp] theorem ev_var (i : Nat) : mVar i ρ S = resO (ρ[i]?.join) S := rfl
@[simp] theorem ev_c (d : D) : mC d ρ S = .ok d S := rfl
@[simp] theorem ev_bin (f : D → D → Store → Res D) (a b : ME) : mBin f a b ρ S = (a ρ S).bind fun x S1 => (b ρ S1).bind fun y S2 => f x y S2 := rfl
@[simp] theorem ev_un (f : D → Store → Res D) (a : ME) : mUn f a ρ S = (a ρ S).bind f := rfl
@[simp] theorem ev_tst (a : ME) : mTst a ρ S = (a ρ S).bind fun x S1 => resO (truthD S1 x) S1 := rfl
@[simp] theorem ev_blT (a : ME) : mBlT a ρ S = (a ρ S).bind fun x S1 => resO (asBl x) S1 := rfl
@[simp] theorem ev_andT (a b : MB) : mAndT a b ρ S = (a ρ S).bind fun c S1 => if c = true then b ρ S1 else .ok false S1 := rfl
@[simp] theorem ev_orT (a b : MB) : mOrT a b ρ S = (a ρ S).bind fun c S1 => if c = true then .ok true S1 else b ρ S1 := rfl
@[simp] theorem ev_notT (a : MB) : mNotT a ρ S = (a ρ S).bind fun c S1 => .ok (!c) S1 := rfl
@[simp] theorem ev_if (c : MB) (a b : ME) : mIf c a b ρ S = (c ρ S).bind fun k S1 => if k = true then a ρ S1 else b ρ S1 := rfl
@[simp] theorem ev_andV (a b : ME) : mAndV a b ρ S = (a ρ S).bind fun x S1 => (resO (truthD S1 x) S1).bind fun c S2 => if c = true then b ρ S2 else .ok x S2 := rfl
@[simp] theorem ev_orV (a b : ME) : mOrV a b ρ S = (a ρ S).bind fun x S1 => (resO (truthD S1 x) S1).bind fun c S2 => if c = true then .ok x S2 else b ρ S2 := rfl
@[simp] theorem ev_notV (a : ME) : mNotV a ρ S = (a ρ S).bind fun x S1 => (resO (truthD S1 x) S1).bind fun c S2 => .ok (.bl (!c)) S2 := rfl
@[simp] theorem ev_nilL : mNilL ρ S = .ok [] S := rfl
@[simp] theorem ev_consL (a : ME) (l : ML) : mConsL a l ρ S = (a ρ S).bind fun x S1 => (l ρ S1).bind fun xs S2 => .ok (x :: xs) S2 := rfl
@[simp] theorem ev_tup (l : ML) : mTup l ρ S = (l ρ S).bind fun xs S1 => if xs.length ≤ sizeLine then .ok (.tup xs) S1 else .bad := rfl
@[simp] theorem ev_lst (l : ML) : mLst l ρ S = (l ρ S).bind fun xs S1 => if xs.length ≤ sizeLine then .ok (.lst xs) S1 else .bad := rfl
@[simp] theorem ev_loc (l : ML) : mLoc l ρ S = (l ρ S).bind fun xs S1 => if xs.length ≤ sizeLine then .ok (.loc S1.length) (S1 ++ [.lst xs]) else .bad := rfl
@[simp] theorem ev_call (f : List D → Store → Res D) (l : ML) : mCall f l ρ S = (l ρ S).bind f := rfl
@[simp] theorem ev_iter (m : ME) : mIter m ρ S = (m ρ S).bind fun d S1 => resO (stillD d) S1 := rfl
@[simp] theorem ev_yes : mYes ρ S = .ok true S := rfl
@[simp] theorem ev_noP : mNoP ρ S = .ok none S := rfl
@[simp] theorem ev_part (a : ME) : mPart a ρ S = (a ρ S).bind fun d S1 => (resO (asInt d) S1).bind fun i S2 => .ok (some i) S2 := rfl
@[simp] theorem ev_slice (a : ME) (lo hi : MO) : mSlice a lo hi ρ S = (a ρ S).bind fun d S1 => (lo ρ S1).bind fun l S2 => (hi ρ S2).bind fun h S3 => sliceD d l h S3 := rfl
@[simp] theorem ev_frz (a : ME) : mFrz a ρ S = (a ρ S).bind frzD := rfl
@[simp] theorem ev_callK (mf : MF) (n m : Nat) (src : List Src) (df : List D) (a b : ML) : mCallK mf n m src df a b ρ S = (a ρ S).bind fun us S1 => (b ρ S1).bind fun ws S2 =>
  if us.length = n ∧ ws.length = m then
    match fill us ws df src with
    | some r => mf r S2
    | none => .bad
  else .bad := rfl
@[simp] theorem es_expr (a : ME) : sExpr a ρ S = srRes ρ (a ρ S) fun _ S1 => .nx ρ S1 := rfl
@[simp] theorem es_ret (a : ME) : sRet a ρ S = srRes ρ (a ρ S) fun d S1 => .rt d S1 := rfl
@[simp] theorem es_retN : sRetN ρ S = .rt .non S := rfl
@[simp] theorem es_pass : sPass ρ S = .nx ρ S := rfl
@[simp] theorem es_break : sBreak ρ S = .bk ρ S := rfl
@[simp] theorem es_cont : sCont ρ S = .ct ρ S := rfl
@[simp] theorem es_if (c : MB) (t e : MS) : sIf c t e ρ S = srRes ρ (c ρ S) fun b S1 => if b = true then t ρ S1 else e ρ S1 := rfl
@[simp] theorem es_seq (a b : MS) : sSeq a b ρ S = (a ρ S).seq b := rfl
@[simp] theorem es_asg (a : ME) (g : MG) : sAsg a g ρ S = srRes ρ (a ρ S) fun d S1 => srGo (g d ρ S1) := rfl
@[simp] theorem es_par (i j : Nat) (l : ML) : sPar i j l ρ S = srRes ρ (l ρ S) fun ds S1 => match ds with | [d, e] => .nx ((ρ.set i (some d)).set j (some e)) S1 | _ => .bad := rfl
@[simp] theorem es_for (l : ML) (g : MG) (b : MS) : sFor l g b ρ S = srRes ρ (l ρ S) fun ds S1 => forL g b ds ρ S1 := rfl
@[simp] theorem eg_nm (i : Nat) (d : D) : gNm i d ρ S = some (ρ.set i (some d), S) := rfl
@[simp] theorem eg_nil : gsNil [] ρ S = some (ρ, S) := rfl
@[simp] theorem eg_cons (g : MG) (gs : MGs) (d : D) (r : List D) : gsCons g gs (d :: r) ρ S = (g d ρ S).bind fun p => gs r p.1 p.2 := rfl
@[simp] theorem eg_many (n : Nat) (gs : MGs) (d : D) : gMany n gs d ρ S = match itemsD S d with | some l => if l.length = n then gs l ρ S else none | none => none := rfl
@[simp] theorem eg_set (o i : ME) (v : D) : gSet o i v ρ S = match o ρ S with
  | .ok od S1 => (match i ρ S1 with
    | .ok id S2 => (setD v od id S2).map fun S3 => (ρ, S3)
    | _ => none)
  | _ => none := rfl
end
theorem range1_j {l : ML} {ρ : Env'} {S S1 : Store} {j : Int} (h : l ρ S = .ok [.int j] S1) (hb : rgOk j = true) : mRange1 l ρ S = .ok (rangeL 0 j.toNat) S1 := by
  unfold mRange1
  rw [h]
  simp only [bind_ok]
  rw [if_pos hb]
theorem rgOk_nat {m : Nat} (hm : m ≤ 1000000) : rgOk (m : Int) = true := rgOk_of ⟨by omega, by omega⟩
theorem range1_ok {l : ML} {ρ : Env'} {S S1 : Store} {m : Nat} (h : l ρ S = .ok [.int (m : Int)] S1) (hm : m ≤ 1000000) : mRange1 l ρ S = .ok (rangeL 0 m) S1 := by
  have := range1_j h (rgOk_nat hm)
  rw [Int.toNat_natCast] at this
  exact this
theorem range2_ok {l : ML} {ρ : Env'} {S S1 : Store} {a b : Int} (h : l ρ S = .ok [.int a, .int b] S1) (ha : rgOk a = true) (hb : rgOk b = true) : mRange2 l ρ S = .ok (rangeL a (b - a).toNat) S1 := by
  unfold mRange2
  rw [h]
  simp only [bind_ok]
  rw [if_pos ⟨ha, hb⟩]
@[simp] theorem e_f1 (f : D → Store → Res D) (d : D) (S : Store) : f1 f [d] S = f d S := rfl
theorem isi_mk (tab : Tab) (x : D) (n : String) (S : Store) : isiM tab [x, .ty n] S = resO ((tagD S x).bind fun a => (tab a (.ty n)).map D.bl) S := rfl
theorem isi_mk2 (tab : Tab) (x : D) (m n : String) (S : Store) : isiM tab [x, .tup [.ty m, .ty n]] S = resO ((tagD S x).bind fun a => (anyTab tab a [.ty m, .ty n]).map D.bl) S := rfl
@[simp] theorem items_tup (S : Store) (l : List D) : itemsD S (.tup l) = some l := rfl
@[simp] theorem items_lst (S : Store) (l : List D) : itemsD S (.lst l) = some l := rfl
@[simp] theorem items_kst (S : Store) (l : List D) : itemsD S (.kst l) = some l := rfl
@[simp] theorem truth_bl (S : Store) (b : Bool) : truthD S (.bl b) = some b := rfl
@[simp] theorem truth_non (S : Store) : truthD S .non = some false := rfl
@[simp] theorem truth_int (S : Store) (i : Int) : truthD S (.int i) = some (i != 0) := rfl
@[simp] theorem truth_lst (S : Store) (l : List D) : truthD S (.lst l) = some (!l.isEmpty) := rfl
@[simp] theorem truth_tup (S : Store) (l : List D) : truthD S (.tup l) = some (!l.isEmpty) := rfl
@[simp] theorem size_small (n : Nat) : (n ≤ sizeLine) = (n ≤ 16777216) := by rw [sizeLine_eq]
@[simp] theorem size_small' (n : Nat) : (n < sizeLine) = (n < 16777216) := by rw [sizeLine_eq]
@[simp] theorem run_def (n m : Nat) (b : MS) (args : List D) (S : Store) : runDef n m b args S = if args.length = n then
    match b (args.map some ++ List.replicate (m - n) none) S with
    | .nx _ S' => .ok .non S'
    | .rt d S' => .ok d S'
    | .ex _ c ks vs S' => .ex c ks vs S'
    | _ => .bad
  else .bad := rfl
@[simp] theorem cutM_eq (mf : MF) (ds : List D) (S : Store) : cutM mf ds S = cut S (mf ds S) := rfl

/-! ### the drawing of numbers -/
/-- the cells, how many were begun, what is left -/
def nutE (cells : List Int) (t l : Int) : Ent := .lst [.lst (cells.map .int), .int t, .int l]
@[simp] theorem nut_closed (n : Nat) (cells : List Int) (t l : Int) : closedE n (nutE cells t l) = true := by
  have h : ∀ cs : List Int, closedL n (cs.map D.int) = true := by
    intro cs
    induction cs with
    | nil => rfl
    | cons c cs ih => simp only [List.map_cons, closedL, ih]; rfl
  simp only [nutE, closedE, closedL, closed, h, Bool.and_self, Bool.and_true]
theorem toPs_ints : ∀ cs : List Int, toPs (cs.map D.int) = some (cs.map PyData.int)
  | [] => rfl
  | c :: cs => by
    simp only [List.map_cons, toPs, toP, toPs_ints cs]
theorem canLay_ints : ∀ cs : List Int, PyData.canLayAll0 (cs.map PyData.int) = true
  | [] => rfl
  | c :: cs => by
    simp only [List.map_cons, PyData.canLayAll0, canLay_ints cs, PyData.canLay0, Bool.and_self]
theorem depth_ints : ∀ cs : List Int, PyData.depthAll (cs.map PyData.int) ≤ 0
  | [] => Nat.le_refl _
  | c :: cs => by
    have := depth_ints cs
    simp only [List.map_cons, PyData.depthAll, PyData.depth]
    omega
theorem shaped_ints (cs : List Int) : SeqAt.shaped (.list (cs.map PyData.int)) = true := by
  have h := depth_ints cs
  have e : (PyData.list (cs.map PyData.int)).depth ≤ 64 := by
    simp only [PyData.depth]
    omega
  have c : (PyData.list (cs.map PyData.int)).canLay0 = true := by
    simp only [PyData.canLay0]
    exact canLay_ints cs
  unfold SeqAt.shaped
  rw [c, decide_eq_true e]
  rfl
theorem ne_nil_ints (S : Store) (cs : List Int) : neD (.lst (cs.map D.int)) (.lst []) S = .ok (.bl (!cs.isEmpty)) S := by
  have e : eqB S (.lst (cs.map D.int)) (.lst []) = some cs.isEmpty := by
    unfold eqB
    simp only [eqScal, toPS, lstD, toPs_ints, toPs, Option.map_some]
    have h2 : SeqAt.shaped (.list []) = true := by decide
    rw [shaped_ints, h2]
    cases cs <;> simp [PyData.eqv, PyData.eqvAll]
  unfold neD
  rw [e]
  rfl
theorem eq_nil_ints (S : Store) (cs : List Int) : eqD (.lst (cs.map D.int)) (.lst []) S = .ok (.bl cs.isEmpty) S := by
  have e : eqB S (.lst (cs.map D.int)) (.lst []) = some cs.isEmpty := by
    unfold eqB
    simp only [eqScal, toPS, lstD, toPs_ints, toPs, Option.map_some]
    have h2 : SeqAt.shaped (.list []) = true := by decide
    rw [shaped_ints, h2]
    cases cs <;> simp [PyData.eqv, PyData.eqvAll]
  unfold eqD
  rw [e]
  rfl
end Z

set_option Elab.async false
set_option linter.all false
set_option maxRecDepth 100000
set_option maxHeartbeats 4000000
set_option autoImplicit false
namespace Z
open PySem PySem.Spec L2

/-! ### drawing, as the laws do it -/
def bCellA : MS := (sIf (mBlT (mBin neD (mBin ixD (mVar 0) (mC (.int 0))) (mLst mNilL))) (sAsg (mBin ixD (mBin ixD (mVar 0) (mC (.int 0))) (mBin modD (mCall (f1 intD) (mConsL (mVar 3) mNilL)) (mCall (f1 lenD) (mConsL (mBin ixD (mVar 0) (mC (.int 0))) mNilL)))) (gNm 4)) sPass)
def bMixA (c1 c2 p1 c3 p2 p3 c4 : Int) : MS := (sSeq (sAsg (mBin modD (mCall (f1 intD) (mConsL (mBin powD (mBin addD (mBin addD (mBin modD (mCall (f1 intD) (mConsL (mVar 4) mNilL)) (mC (.int p1))) (mBin mulD (mC (.int c3)) (mVar 3))) (mC (.int c2))) (mC (.int 5))) mNilL)) (mC (.int p2))) (gNm 5)) (sSeq (sAsg (mBin modD (mCall (f1 intD) (mConsL (mBin powD (mBin addD (mBin addD (mBin mulD (mVar 5) (mBin addD (mBin mulD (mC (.int 2)) (mVar 3)) (mC (.int c2)))) (mBin mulD (mBin mulD (mC (.int c1)) (mVar 3)) (mVar 3))) (mC (.int c3))) (mC (.int 3))) mNilL)) (mC (.int p3))) (gNm 5)) (sRet (mBin modD (mCall (f1 intD) (mConsL (mBin fdivD (mVar 5) (mC (.int c4))) mNilL)) (mVar 1)))))
def bDrawA (c1 c2 p1 c3 p2 p3 c4 : Int) : MS := (sSeq (sIf (mBlT (mBin gtD (mBin ixD (mVar 0) (mC (.int 2))) (mC (.int 0)))) (sSeq (sAsg (mCall (f1 intD) (mConsL (mBin ixD (mVar 0) (mC (.int 2))) mNilL)) (gNm 2)) (sSeq (sAsg (mBin fdivD (mVar 2) (mVar 1)) (gSet (mVar 0) (mC (.int 2)))) (sRet (mBin modD (mCall (f1 intD) (mConsL (mVar 2) mNilL)) (mVar 1))))) sPass) (sSeq (sAsg (mBin ixD (mVar 0) (mC (.int 1))) (gNm 3)) (sSeq (sAsg (mBin addD (mVar 3) (mC (.int 1))) (gSet (mVar 0) (mC (.int 1)))) (sSeq (sAsg (mBin addD (mBin mulD (mC (.int c1)) (mVar 3)) (mC (.int c2))) (gNm 4)) (sSeq bCellA (sSeq (sIf (mAndT (mBlT (mBin ltD (mVar 3) (mCall (f1 lenD) (mConsL (mBin ixD (mVar 0) (mC (.int 0))) mNilL)))) (mBlT (mBin geD (mCall (f1 absD) (mConsL (mVar 4) mNilL)) (mBin powD (mC (.int 10)) (mC (.int 18)))))) (sSeq (sAsg (mBin addD (mBin mulD (mC (.int 2)) (mBin subD (mCall (f1 absD) (mConsL (mCall (f1 intD) (mConsL (mVar 4) mNilL)) mNilL)) (mBin powD (mC (.int 10)) (mC (.int 18))))) (mCall (f1 intD) (mConsL (mBin ltD (mVar 4) (mC (.int 0))) mNilL))) (gNm 2)) (sSeq (sAsg (mBin fdivD (mVar 2) (mVar 1)) (gSet (mVar 0) (mC (.int 2)))) (sRet (mBin modD (mCall (f1 intD) (mConsL (mVar 2) mNilL)) (mVar 1))))) sPass) (bMixA c1 c2 p1 c3 p2 p3 c4)))))))
/-- the constants are small, and moduli -/
structure Small (c1 c2 p1 c3 p2 p3 c4 : Int) : Prop where
  h1 : 0 ≤ c1 ∧ c1 < 2 ^ 18
  h2 : 0 ≤ c2 ∧ c2 < 2 ^ 18
  h3 : 0 ≤ c3 ∧ c3 < 2 ^ 18
  q1 : 0 < p1 ∧ p1 < 2 ^ 31
  q2 : 0 < p2 ∧ p2 < 2 ^ 31
  q3 : 0 < p3 ∧ p3 < 2 ^ 31
  q4 : 0 < c4 ∧ c4 < 2 ^ 18
theorem mul_ok {i j : Int} (h : -(2 ^ 64) < i ∧ i < 2 ^ 64) : MulOk i j := .inr (.inl h)
theorem mul_ok' {i j : Int} (h : -(2 ^ 64) < j ∧ j < 2 ^ 64) : MulOk i j := .inr (.inr h)
theorem log_small {j : Int} {b : Nat} (hb : j.natAbs < 2 ^ b) (h0 : 0 < b) (h9 : b ≤ 9000) : j.natAbs.log2 < 9000 := Nat.lt_of_lt_of_le (PySem.Flt.log2_lt_of h0 hb) h9
theorem atI_of {α : Type} {xs : List α} {i : Int} (h0 : 0 ≤ i) (h1 : i < xs.length) : ∃ v, atI xs i = some v ∧ v ∈ xs := by
  obtain ⟨j, rfl⟩ : ∃ j : Nat, i = (j : Int) := ⟨i.toNat, by omega⟩
  have hj : j < xs.length := by omega
  exact ⟨xs[j], atI_nat (List.getElem?_eq_getElem hj), List.getElem_mem hj⟩
theorem cut_len {S S' : Store} {d : D} (h : S'.length = S.length) : cut S (.ok d S') = .ok d S' := by
  simp only [cut]
  split
  · rw [← h, List.take_length]
  · rfl
section
variable {S : Store} {n : Nat} {cells : List Int} {t l : Int} (hn : S[n]? = some (nutE cells t l))
include hn
theorem nut_0 : ixD (.loc n) (.int 0) S = .ok (.lst (cells.map .int)) S := by
  simp [ixD, itemsD, hn, nutE, atI, ixN]
theorem nut_1 : ixD (.loc n) (.int 1) S = .ok (.int t) S := by
  simp [ixD, itemsD, hn, nutE, atI, ixN]
theorem nut_2 : ixD (.loc n) (.int 2) S = .ok (.int l) S := by
  simp [ixD, itemsD, hn, nutE, atI, ixN]
theorem nut_s1 (x : Int) : setD (.int x) (.loc n) (.int 1) S = some (S.set n (nutE cells x l)) := by
  simp [setD, hn, nutE, ixN]
theorem nut_s2 (x : Int) : setD (.int x) (.loc n) (.int 2) S = some (S.set n (nutE cells t x)) := by
  simp [setD, hn, nutE, ixN]
theorem nut_at (e : Ent) : (S.set n e)[n]? = some e := List.getElem?_set_self (List.getElem?_eq_some_iff.mp hn).1
end
theorem ne_nil0 (S : Store) : neD (.lst []) (.lst []) S = .ok (.bl false) S := ne_nil_ints S []
theorem mulD_ok {i j : Int} {S : Store} (h : MulOk i j) : mulD (.int i) (.int j) S = .ok (.int (i * j)) S := by
  unfold mulD
  exact if_pos h
theorem powD_ok {i j : Int} {S : Store} (h : 0 ≤ j ∧ j ≤ 1000000 ∧ i.natAbs < 2 ^ 64) : powD (.int i) (.int j) S = .ok (.int (i ^ j.toNat)) S := by
  unfold powD
  exact if_pos h
theorem fdivD_ok {i j : Int} {S : Store} (h : 0 < j ∧ j.natAbs.log2 < 9000) : fdivD (.int i) (.int j) S = .ok (.int (i / j)) S := by
  unfold fdivD
  exact if_pos h
theorem modD_ok {i j : Int} {S : Store} (h : 0 < j) : modD (.int i) (.int j) S = .ok (.int (i % j)) S := by
  unfold modD
  exact if_pos h
@[simp] theorem addD_int (i j : Int) (S : Store) : addD (.int i) (.int j) S = .ok (.int (i + j)) S := rfl
@[simp] theorem subD_int (i j : Int) (S : Store) : subD (.int i) (.int j) S = .ok (.int (i - j)) S := rfl
@[simp] theorem ltD_int (i j : Int) (S : Store) : ltD (.int i) (.int j) S = .ok (.bl (decide (i < j))) S := rfl
@[simp] theorem leD_int (i j : Int) (S : Store) : leD (.int i) (.int j) S = .ok (.bl (decide (i ≤ j))) S := rfl
@[simp] theorem gtD_int (i j : Int) (S : Store) : gtD (.int i) (.int j) S = .ok (.bl (decide (j < i))) S := rfl
@[simp] theorem geD_int (i j : Int) (S : Store) : geD (.int i) (.int j) S = .ok (.bl (decide (j ≤ i))) S := rfl
@[simp] theorem intD_int (i : Int) (S : Store) : intD (.int i) S = .ok (.int i) S := rfl
@[simp] theorem intD_bl (b : Bool) (S : Store) : intD (.bl b) S = .ok (.int (if b then 1 else 0)) S := rfl
@[simp] theorem absD_int (i : Int) (S : Store) : absD (.int i) S = .ok (.int (if i < 0 then -i else i)) S := rfl
@[simp] theorem negD_int (i : Int) (S : Store) : negD (.int i) S = .ok (.int (-i)) S := rfl
@[simp] theorem lenD_lst (l : List D) (S : Store) : lenD (.lst l) S = .ok (.int l.length) S := rfl
@[simp] theorem lenD_tup (l : List D) (S : Store) : lenD (.tup l) S = .ok (.int l.length) S := rfl
@[simp] theorem asBl_bl (b : Bool) : asBl (.bl b) = some b := rfl
@[simp] theorem ixD_lst (l : List D) (i : Int) (S : Store) : ixD (.lst l) (.int i) S = resO (atI l i) S := rfl
@[simp] theorem ixD_tup (l : List D) (i : Int) (S : Store) : ixD (.tup l) (.int i) S = resO (atI l i) S := rfl
theorem mulb {x y : Int} {B C : Nat} (hx : 0 ≤ x) (hB : x < 2 ^ B) (hy : 0 ≤ y) (hC : y < 2 ^ C) : x * y < 2 ^ (B + C) := by
  rw [Int.pow_add]
  rcases Int.lt_or_eq_of_le hy with h | h
  · exact Int.mul_lt_mul hB (Int.le_of_lt hC) h (Int.le_of_lt (Int.pow_pos (by decide)))
  · rw [← h, Int.mul_zero]
    exact Int.mul_pos (Int.pow_pos (by decide)) (Int.pow_pos (by decide))
theorem mixA {c1 c2 p1 c3 p2 p3 c4 : Int} (K : Small c1 c2 p1 c3 p2 p3 c4) {t many cell : Int} (ht : 0 ≤ t ∧ t < 2 ^ 20) (hm : 0 < many) (ρ : Env') (S : Store) (hl : ρ.length = 6) (h1 : ρ[1]? = some (some (.int many))) (h3 : ρ[3]? = some (some (.int t))) (h4 : ρ[4]? = some (some (.int cell))) :
    ∃ r, bMixA c1 c2 p1 c3 p2 p3 c4 ρ S = .rt (.int r) S ∧ 0 ≤ r ∧ r < many := by
  obtain ⟨a1, a2⟩ := K.h1
  obtain ⟨b1, b2⟩ := K.h2
  obtain ⟨d1, d2⟩ := K.h3
  obtain ⟨t0, t1⟩ := ht
  have n1 := mulb d1 d2 t0 t1
  have n1' := Int.mul_nonneg d1 t0
  have x1 := Int.emod_nonneg cell (show p1 ≠ 0 by have := K.q1.1; omega)
  have x2 := Int.emod_lt_of_pos cell K.q1.1
  have x3 := K.q1.2
  have e1 : ∀ S, modD (.int cell) (.int p1) S = .ok (.int (cell % p1)) S := fun S => modD_ok K.q1.1
  have e2 : ∀ S, mulD (.int c3) (.int t) S = .ok (.int (c3 * t)) S := fun S => mulD_ok (mul_ok ⟨by omega, by omega⟩)
  have e3 : ∀ S, powD (.int (cell % p1 + c3 * t + c2)) (.int 5) S = .ok (.int ((cell % p1 + c3 * t + c2) ^ 5)) S := fun S => powD_ok ⟨by decide, by decide, by omega⟩
  obtain ⟨y, hy⟩ : ∃ y, y = (cell % p1 + c3 * t + c2) ^ 5 := ⟨_, rfl⟩
  have y1 := Int.emod_nonneg y (show p2 ≠ 0 by have := K.q2.1; omega)
  have y2 := Int.emod_lt_of_pos y K.q2.1
  have y3 := K.q2.2
  obtain ⟨m, hm'⟩ : ∃ m, m = y % p2 := ⟨_, rfl⟩
  have e4 : ∀ S, modD (.int y) (.int p2) S = .ok (.int m) S := fun S => by rw [hm']; exact modD_ok K.q2.1
  have e5 : ∀ S, mulD (.int 2) (.int t) S = .ok (.int (2 * t)) S := fun S => mulD_ok (mul_ok (by decide))
  have m1 : 0 ≤ m := by omega
  have m2 : m < 2 ^ 31 := by omega
  have e6 : ∀ S, mulD (.int m) (.int (2 * t + c2)) S = .ok (.int (m * (2 * t + c2))) S := fun S => mulD_ok (mul_ok ⟨by omega, by omega⟩)
  have e7 : ∀ S, mulD (.int c1) (.int t) S = .ok (.int (c1 * t)) S := fun S => mulD_ok (mul_ok ⟨by omega, by omega⟩)
  have n2 := mulb a1 a2 t0 t1
  have n2' := Int.mul_nonneg a1 t0
  have e8 : ∀ S, mulD (.int (c1 * t)) (.int t) S = .ok (.int (c1 * t * t)) S := fun S => mulD_ok (mul_ok ⟨by omega, by omega⟩)
  have n3 := mulb n2' n2 t0 t1
  have n3' := Int.mul_nonneg n2' t0
  have n4 := mulb m1 m2 (show 0 ≤ 2 * t + c2 by omega) (show 2 * t + c2 < 2 ^ 22 by omega)
  have n4' := Int.mul_nonneg m1 (show 0 ≤ 2 * t + c2 by omega)
  have e9 : ∀ S, powD (.int (m * (2 * t + c2) + c1 * t * t + c3)) (.int 3) S = .ok (.int ((m * (2 * t + c2) + c1 * t * t + c3) ^ 3)) S := fun S => powD_ok ⟨by decide, by decide, by omega⟩
  obtain ⟨z, hz⟩ : ∃ z, z = (m * (2 * t + c2) + c1 * t * t + c3) ^ 3 := ⟨_, rfl⟩
  have e10 : ∀ S, modD (.int z) (.int p3) S = .ok (.int (z % p3)) S := fun S => modD_ok K.q3.1
  have e11 : ∀ S, fdivD (.int (z % p3)) (.int c4) S = .ok (.int (z % p3 / c4)) S := fun S => fdivD_ok ⟨K.q4.1, log_small (b := 18) (by have := K.q4; omega) (by decide) (by decide)⟩
  have e12 : ∀ x S, modD (.int x) (.int many) S = .ok (.int (x % many)) S := fun x S => modD_ok hm
  refine ⟨z % p3 / c4 % many, ?_, Int.emod_nonneg _ (by omega), Int.emod_lt_of_pos _ hm⟩
  have l5 : 5 < ρ.length := by omega
  simp [bMixA, h1, h3, h4, e1, e2, e3, ← hy, e4, e5, e6, e7, e8, e9, ← hz, e10, e11, e12, l5, List.getElem?_set]
theorem drawA {c1 c2 p1 c3 p2 p3 c4 : Int} (K : Small c1 c2 p1 c3 p2 p3 c4) {S : Store} {n : Nat} {cells : List Int} {t l many : Int} (hn : S[n]? = some (nutE cells t l)) (ht : 0 ≤ t ∧ t < 2 ^ 20) (hm : 0 < many) (hm2 : many.natAbs.log2 < 9000) :
    ∃ r t' l', cutM (runDef 2 6 (bDrawA c1 c2 p1 c3 p2 p3 c4)) [.loc n, .int many] S = .ok (.int r) (S.set n (nutE cells t' l')) ∧ 0 ≤ r ∧ r < many ∧ t ≤ t' ∧ t' ≤ t + 1 := by
  have hmod : ∀ x : Int, 0 ≤ x % many ∧ x % many < many := fun x => ⟨Int.emod_nonneg x (by omega), Int.emod_lt_of_pos x hm⟩
  have hfd : ∀ x : Int, ∀ S, fdivD (.int x) (.int many) S = .ok (.int (x / many)) S := fun x S => fdivD_ok ⟨hm, hm2⟩
  have hmd : ∀ x : Int, ∀ S, modD (.int x) (.int many) S = .ok (.int (x % many)) S := fun x S => modD_ok hm
  by_cases hl : 0 < l
  · refine ⟨l % many, t, l / many, ?_, (hmod l).1, (hmod l).2, Int.le_refl _, by omega⟩
    simp [bDrawA, nut_2 hn, nut_s2 hn, hl, hfd, hmd]
    exact cut_len (by simp)
  · have h1 := nut_at hn (nutE cells (t + 1) l)
    have ha : ∀ S, mulD (.int c1) (.int t) S = .ok (.int (c1 * t)) S := fun S => mulD_ok (mul_ok ⟨by have := K.h1.1; omega, by have := K.h1.2; omega⟩)
    have hten : ∀ S, powD (.int 10) (.int 18) S = .ok (.int (10 ^ 18)) S := fun S => powD_ok (by decide)
    have htwo : ∀ x : Int, ∀ S, mulD (.int 2) (.int x) S = .ok (.int (2 * x)) S := fun x S => mulD_ok (mul_ok (by decide))
    -- the cell
    obtain ⟨cell, hcell⟩ : ∃ cell : Int, ∀ (ρ : Env'), ρ.length = 6 → ρ[0]? = some (some (.loc n)) → ρ[3]? = some (some (.int t)) → ρ[4]? = some (some (.int (c1 * t + c2))) →
        bCellA ρ (S.set n (nutE cells (t + 1) l)) = .nx (ρ.set 4 (some (.int cell))) (S.set n (nutE cells (t + 1) l)) := by
      by_cases hc : cells = []
      · refine ⟨c1 * t + c2, fun ρ hρ h0 h3 h4 => ?_⟩
        have e4 : ρ.set 4 (some (.int (c1 * t + c2))) = ρ := by
          apply List.ext_getElem?
          intro j
          by_cases hj : 4 = j
          · subst hj
            rw [List.getElem?_set_self (by omega), h4]
          · rw [List.getElem?_set_ne hj]
        subst hc
        have h2 := nut_0 h1
        simp only [List.map_nil] at h2
        simp [bCellA, h0, h2, ne_nil_ints S [], ne_nil0, e4]
      · have hlen : 0 < (cells.length : Int) := by
          cases cells with
          | nil => exact absurd rfl hc
          | cons a b => simp
        obtain ⟨v, hv, hmem⟩ := atI_of (xs := cells.map D.int) (i := t % (cells.length : Int)) (Int.emod_nonneg _ (by omega)) (by rw [List.length_map]; exact Int.emod_lt_of_pos _ hlen)
        obtain ⟨cell, _, rfl⟩ := List.mem_map.mp hmem
        refine ⟨cell, fun ρ hρ h0 h3 h4 => ?_⟩
        have hmd' : ∀ S, modD (.int t) (.int (cells.length : Int)) S = .ok (.int (t % (cells.length : Int))) S := fun S => modD_ok hlen
        simp [bCellA, h0, h3, nut_0 h1, ne_nil_ints, hc, hmd', hv]
    have hnut0 := nut_0 h1
    have hs2 := fun x => nut_s2 h1 x
    have fin : ∀ x l' : Int, cut S (.ok (.int x) ((S.set n (nutE cells (t + 1) l)).set n (nutE cells (t + 1) l'))) = .ok (.int x) (S.set n (nutE cells (t + 1) l')) := fun x l' => by
      rw [List.set_set]
      exact cut_len (by simp)
    have fin0 : ∀ x : Int, cut S (.ok (.int x) (S.set n (nutE cells (t + 1) l))) = .ok (.int x) (S.set n (nutE cells (t + 1) l)) := fun x => cut_len (by simp)
    by_cases hA : t < cells.length
    · by_cases hB : 1000000000000000000 ≤ (if cell < 0 then -cell else cell)
      · refine ⟨(2 * ((if cell < 0 then -cell else cell) - 1000000000000000000) + if cell < 0 then 1 else 0) % many, t + 1, (2 * ((if cell < 0 then -cell else cell) - 1000000000000000000) + if cell < 0 then 1 else 0) / many, ?_, (hmod _).1, (hmod _).2, by omega, Int.le_refl _⟩
        simp [bDrawA, nut_2 hn, hl, nut_1 hn, nut_s1 hn, ha, hcell, hnut0, hA, hB, hten, htwo, hfd, hmd, hs2, cut_len]
      · obtain ⟨r, hr, hr1, hr2⟩ := mixA K ht hm [some (.loc n), some (.int many), none, some (.int t), some (.int cell), none] (S.set n (nutE cells (t + 1) l)) rfl rfl rfl rfl
        refine ⟨r, t + 1, l, ?_, hr1, hr2, by omega, Int.le_refl _⟩
        simp [bDrawA, nut_2 hn, hl, nut_1 hn, nut_s1 hn, ha, hcell, hnut0, hA, hB, hten, hr, fin0]
    · obtain ⟨r, hr, hr1, hr2⟩ := mixA K ht hm [some (.loc n), some (.int many), none, some (.int t), some (.int cell), none] (S.set n (nutE cells (t + 1) l)) rfl rfl rfl rfl
      refine ⟨r, t + 1, l, ?_, hr1, hr2, by omega, Int.le_refl _⟩
      simp [bDrawA, nut_2 hn, hl, nut_1 hn, nut_s1 hn, ha, hcell, hnut0, hA, hr, fin0]
end Z

set_option Elab.async false
set_option linter.all false
set_option maxRecDepth 100000
set_option maxHeartbeats 4000000
set_option autoImplicit false
namespace Z
open PySem PySem.Spec L2

/-! ### comprehensions without a test, one name -/
def WfS (S : Store) : Prop := ∀ e ∈ S, closedE S.length e = true
theorem pushAt_ok {n : Nat} {S : Store} {acc : List D} {y : D} (h : S[n]? = some (.lst acc)) (hz : acc.length < 16777216) : pushAt n y S = some (S.set n (.lst (acc ++ [y]))) := by
  unfold pushAt
  rw [h]
  simp only [size_small', if_pos hz]
theorem compL_pure {n i : Nat} {e : ME} {ρ : Env'} {f : D → D} : ∀ (ds : List D) (S : Store) (acc : List D), S[n]? = some (.lst acc) → acc.length + ds.length ≤ 16777216 →
    (∀ d ∈ ds, ∀ S, e (ρ.set i (some d)) S = .ok (f d) S) → compL n (gNm i) mYes e ρ ds S = .ok () (S.set n (.lst (acc ++ ds.map f)))
  | [], S, acc, h, _, _ => by
    have hl := (List.getElem?_eq_some_iff.mp h)
    obtain ⟨h1, h2⟩ := hl
    simp only [compL, List.map_nil, List.append_nil]
    rw [← h2, List.set_getElem_self]
  | d :: ds, S, acc, h, hz, he => by
    have h1 : n < S.length := (List.getElem?_eq_some_iff.mp h).1
    simp only [List.length_cons] at hz
    simp only [compL, eg_nm, ev_yes, noEx_ok, bind_ok, if_true, he d List.mem_cons_self S, pushAt_ok h (show acc.length < 16777216 by omega), resO_some]
    rw [compL_pure ds _ (acc ++ [f d]) (List.getElem?_set_self h1) (by simp; omega) fun d' hd' => he d' (List.mem_cons_of_mem _ hd')]
    simp
theorem closedL_app {n : Nat} : ∀ {a b : List D}, closedL n (a ++ b) = (closedL n a && closedL n b)
  | [], b => by simp [closedL]
  | d :: a, b => by simp [closedL, closedL_app (a := a), Bool.and_assoc]
theorem closedL_all {n : Nat} : ∀ {a : List D}, (∀ d ∈ a, closed n d = true) → closedL n a = true
  | [], _ => rfl
  | d :: a, h => by
    simp only [closedL, h d List.mem_cons_self, closedL_all fun d' hd' => h d' (List.mem_cons_of_mem _ hd'), Bool.and_self]
theorem comp_pure {l : ML} {i : Nat} {e : ME} {ρ : Env'} {S : Store} {ds : List D} {f : D → D} (hl : l ρ S = .ok ds S) (hz : ds.length ≤ 16777216) (hc : ∀ d ∈ ds, closed S.length (f d) = true)
    (he : ∀ d ∈ ds, ∀ S, e ((wipeR ρ [i]).set i (some d)) S = .ok (f d) S) : mCut (mFrz (mComp l [i] (gNm i) mYes e)) ρ S = .ok (.lst (ds.map f)) S := by
  have hn : (S ++ [Ent.lst []])[S.length]? = some (.lst []) := by simp
  have h := compL_pure (n := S.length) (i := i) (e := e) (ρ := wipeR ρ [i]) (f := f) ds (S ++ [.lst []]) [] hn (by simpa using hz) he
  have hset : (S ++ [Ent.lst []]).set S.length (.lst ([] ++ ds.map f)) = S ++ [.lst (ds.map f)] := by simp
  rw [hset] at h
  have hs2 : (S ++ [Ent.lst (ds.map f)])[S.length]? = some (.lst (ds.map f)) := by simp
  have hset2 : (S ++ [Ent.lst (ds.map f)]).set S.length .dead = S ++ [.dead] := by simp
  show cut S ((mComp l [i] (gNm i) mYes e ρ S).bind frzD) = _
  unfold mComp
  rw [hl]
  simp only [bind_ok, h, frzD, hs2, hset2]
  refine cut_app ?_
  simp only [closed]
  exact closedL_all fun d hd => by
    obtain ⟨d', hd', rfl⟩ := List.mem_map.mp hd
    exact hc d' hd'

/-! ### .. whose elements are drawn -/
/-- what one drawing does: something that P holds of, at most c more cells begun -/
def Draws (n : Nat) (cells : List Int) (T : Int) (P : D → Prop) (c : Int) (r : Store → Res D) : Prop :=
  ∀ (S : Store) (t l : Int), WfS S → S[n]? = some (nutE cells t l) → 0 ≤ t → t + c ≤ T → ∃ y t' l', r S = .ok y (S.set n (nutE cells t' l')) ∧ P y ∧ t ≤ t' ∧ t' ≤ t + c
theorem WfS.set {S : Store} {n : Nat} {e : Ent} (h : WfS S) (he : closedE S.length e = true) : WfS (S.set n e) := fun x hx => by
  rw [List.length_set]
  rcases List.mem_or_eq_of_mem_set hx with q | q
  · exact h x q
  · rw [q]
    exact he
mutual
theorem closed_mono {m n : Nat} (h : m ≤ n) : ∀ {d : D}, closed m d = true → closed n d = true
  | .non, _ => rfl
  | .bl _, _ => rfl
  | .int _, _ => rfl
  | .str _, _ => rfl
  | .ty _, _ => rfl
  | .cls _, _ => rfl
  | .tup l, q => by simp only [closed] at q ⊢; exact closedL_mono h q
  | .lst l, q => by simp only [closed] at q ⊢; exact closedL_mono h q
  | .kst l, q => by simp only [closed] at q ⊢; exact closedL_mono h q
  | .dct _ l, q => by simp only [closed] at q ⊢; exact closedL_mono h q
  | .ins _ _ l, q => by simp only [closed] at q ⊢; exact closedL_mono h q
  | .exn _ _ l, q => by simp only [closed] at q ⊢; exact closedL_mono h q
  | .fn _, _ => rfl
  | .lam _ _ _ l _, q => by simp only [closed] at q ⊢; exact closedL_mono h q
  | .loc k, q => by simp only [closed, decide_eq_true_eq] at q ⊢; omega
theorem closedL_mono {m n : Nat} (h : m ≤ n) : ∀ {l : List D}, closedL m l = true → closedL n l = true
  | [], _ => rfl
  | d :: l, q => by
    simp only [closedL, Bool.and_eq_true] at q ⊢
    exact ⟨closed_mono h q.1, closedL_mono h q.2⟩
end
theorem closedE_mono {m n : Nat} (h : m ≤ n) : ∀ {e : Ent}, closedE m e = true → closedE n e = true
  | .lst l, q => closedL_mono h q
  | .dct _ l, q => closedL_mono h q
  | .ins _ _ l, q => closedL_mono h q
  | .dead, _ => rfl
theorem WfS.app {S : Store} {e : Ent} (h : WfS S) (he : closedE (S.length + 1) e = true) : WfS (S ++ [e]) := fun x hx => by
  rw [List.length_append, List.length_singleton]
  rcases List.mem_append.mp hx with q | q
  · exact closedE_mono (Nat.le_succ _) (h x q)
  · rw [List.mem_singleton.mp q]
    exact he
theorem compL_draw {n m i : Nat} {cells : List Int} {T c : Int} {P : D → Prop} {e : ME} {ρ : Env'} (hc : 0 ≤ c) (hmn : m ≠ n) (hP : ∀ d, P d → ∀ k, closed k d = true) : ∀ (ds : List D) (S : Store) (acc : List D) (t l : Int), WfS S → S[m]? = some (.lst acc) → S[n]? = some (nutE cells t l) → acc.length + ds.length ≤ 16777216 → 0 ≤ t → t + c * ds.length ≤ T → (∀ d ∈ acc, P d) →
    (∀ d ∈ ds, Draws n cells T P c fun S => e (ρ.set i (some d)) S) →
    ∃ ys t' l', compL m (gNm i) mYes e ρ ds S = .ok () ((S.set n (nutE cells t' l')).set m (.lst (acc ++ ys))) ∧ ys.length = ds.length ∧ (∀ d ∈ ys, P d) ∧ t ≤ t' ∧ t' ≤ t + c * ds.length
  | [], S, acc, t, l, hw, h, hn, _, h0, hT, ha, _ => by
    refine ⟨[], t, l, ?_, rfl, by simp, Int.le_refl _, by simp⟩
    obtain ⟨h1, h2⟩ := List.getElem?_eq_some_iff.mp hn
    obtain ⟨h3, h4⟩ := List.getElem?_eq_some_iff.mp h
    simp only [compL, List.append_nil]
    rw [← h2, List.set_getElem_self, ← h4, List.set_getElem_self]
  | d :: ds, S, acc, t, l, hw, h, hn, hz, h0, hT, ha, he => by
    simp only [List.length_cons] at hz
    have hexp : c * ((d :: ds).length : Int) = c + c * (ds.length : Int) := by
      rw [List.length_cons, Int.natCast_succ, Int.mul_add, Int.mul_one, Int.add_comm]
    have hcd : 0 ≤ c * (ds.length : Int) := Int.mul_nonneg hc (by omega)
    obtain ⟨y, t1, l1, e1, p1, q1, q2⟩ := he d List.mem_cons_self S t l hw hn h0 (by rw [hexp] at hT; omega)
    obtain ⟨S1, hS1⟩ : ∃ S1, S1 = S.set n (nutE cells t1 l1) := ⟨_, rfl⟩
    have hm1 : S1[m]? = some (.lst acc) := by rw [hS1, List.getElem?_set_ne (Ne.symm hmn)]; exact h
    have hn1 : S1[n]? = some (nutE cells t1 l1) := by rw [hS1]; exact nut_at hn _
    have hw1 : WfS S1 := by rw [hS1]; exact hw.set (nut_closed _ _ _ _)
    obtain ⟨S2, hS2⟩ : ∃ S2, S2 = S1.set m (.lst (acc ++ [y])) := ⟨_, rfl⟩
    have hm2 : S2[m]? = some (.lst (acc ++ [y])) := by rw [hS2]; exact List.getElem?_set_self (List.getElem?_eq_some_iff.mp hm1).1
    have hn2 : S2[n]? = some (nutE cells t1 l1) := by rw [hS2, List.getElem?_set_ne hmn]; exact hn1
    have ha2 : ∀ d ∈ acc ++ [y], P d := fun d hd => by
      rcases List.mem_append.mp hd with q | q
      · exact ha d q
      · rw [List.mem_singleton.mp q]; exact p1
    have hw2 : WfS S2 := by
      rw [hS2]
      exact hw1.set (closedL_all fun d hd => hP d (ha2 d hd) _)
    obtain ⟨ys, t2, l2, e2, len2, p2, q3, q4⟩ := compL_draw hc hmn hP ds S2 (acc ++ [y]) t1 l1 hw2 hm2 hn2 (by simp; omega) (by omega) (by rw [hexp] at hT; omega) ha2 fun d' hd' => he d' (List.mem_cons_of_mem _ hd')
    refine ⟨y :: ys, t2, l2, ?_, by simp [len2], fun d hd => ?_, by omega, by rw [hexp]; omega⟩
    · simp only [compL, eg_nm, ev_yes, noEx_ok, bind_ok, if_true, e1, ← hS1, pushAt_ok hm1 (show acc.length < 16777216 by omega), resO_some, ← hS2, e2]
      congr 1
      apply List.ext_getElem?
      intro j
      by_cases hj : m = j
      · subst hj
        rw [List.getElem?_set_self (by rw [List.length_set, hS2, List.length_set, hS1, List.length_set]; exact (List.getElem?_eq_some_iff.mp h).1), List.getElem?_set_self (by rw [List.length_set]; exact (List.getElem?_eq_some_iff.mp h).1), List.append_assoc]
        rfl
      · rw [List.getElem?_set_ne hj, List.getElem?_set_ne hj]
        by_cases hk : n = j
        · subst hk
          rw [List.getElem?_set_self (by rw [hS2, List.length_set, hS1, List.length_set]; exact (List.getElem?_eq_some_iff.mp hn).1), List.getElem?_set_self (List.getElem?_eq_some_iff.mp hn).1]
        · rw [List.getElem?_set_ne hk, List.getElem?_set_ne hk, hS2, List.getElem?_set_ne hj, hS1, List.getElem?_set_ne hk]
    · rcases List.mem_cons.mp hd with q | q
      · rw [q]; exact p1
      · exact p2 d q
/-- [e for i in ..], e drawn: so many values that P holds of -/
theorem comp_draw {n i : Nat} {cells : List Int} {T c : Int} {P : D → Prop} {l : ML} {e : ME} {ρ : Env'} {S0 S : Store} {ds : List D} {t l0 : Int} (h0l : S0.length = S.length) (hc : 0 ≤ c) (hP : ∀ d, P d → ∀ k, closed k d = true) (hw : WfS S) (hn : S[n]? = some (nutE cells t l0)) (h0 : 0 ≤ t) (hT : t + c * ds.length ≤ T)
    (hl : l ρ S0 = .ok ds S) (hz : ds.length ≤ 16777216) (he : ∀ d ∈ ds, Draws n cells T P c fun S => e ((wipeR ρ [i]).set i (some d)) S) :
    ∃ ys t' l', mCut (mFrz (mComp l [i] (gNm i) mYes e)) ρ S0 = .ok (.lst ys) (S.set n (nutE cells t' l')) ∧ ys.length = ds.length ∧ (∀ d ∈ ys, P d) ∧ t ≤ t' ∧ t' ≤ t + c * ds.length := by
  have hlt : n < S.length := (List.getElem?_eq_some_iff.mp hn).1
  have hn' : (S ++ [Ent.lst []])[n]? = some (nutE cells t l0) := by rw [List.getElem?_append_left hlt]; exact hn
  have hm : (S ++ [Ent.lst []])[S.length]? = some (.lst []) := by simp
  obtain ⟨ys, t', l', e1, len, p, q1, q2⟩ := compL_draw hc (Nat.ne_of_gt hlt) hP ds (S ++ [.lst []]) [] t l0 (hw.app rfl) hm hn' (by simpa using hz) h0 hT (by simp) he
  refine ⟨ys, t', l', ?_, len, p, q1, q2⟩
  have hset : ((S ++ [Ent.lst []]).set n (nutE cells t' l')).set S.length (.lst ([] ++ ys)) = S.set n (nutE cells t' l') ++ [.lst ys] := by
    rw [List.set_append_left _ _ hlt, List.set_append_right _ _ (by simp)]
    simp
  rw [hset] at e1
  have hs2 : (S.set n (nutE cells t' l') ++ [Ent.lst ys])[S.length]? = some (.lst ys) := by
    rw [List.getElem?_append_right (by simp)]
    simp
  have hset2 : (S.set n (nutE cells t' l') ++ [Ent.lst ys]).set S.length .dead = S.set n (nutE cells t' l') ++ [.dead] := by
    rw [List.set_append_right _ _ (by simp)]
    simp
  show cut S0 ((mComp l [i] (gNm i) mYes e ρ S0).bind frzD) = _
  unfold mComp
  rw [hl]
  simp only [bind_ok, e1, frzD, hs2, hset2]
  refine cut_take ?_ (by rw [List.length_set, h0l]) ?_
  · simp only [closed]
    exact closedL_all fun d hd => hP d (p d hd) _
  · intro x hx
    rw [h0l]
    rcases List.mem_or_eq_of_mem_set hx with q | q
    · exact hw x q
    · rw [q]
      exact nut_closed _ _ _ _

/-! ### the maker of what draws -/
theorem cut_open {S S' : Store} {d : D} (h : closed S.length d = false) : cut S (.ok d S') = .ok d S' := by
  simp only [cut]
  exact if_neg fun z => by
    rw [h] at z
    cases z.1
noncomputable def bMake (k : Int) : MS := sRet (mLoc (mConsL (mCut (mFrz (mComp (mIter (mSlice (mVar 0) mNoP (mPart (mC (.int k))))) [1] (gNm 1) mYes (mCall (f1 intD) (mConsL (mVar 1) mNilL))))) (mConsL (mC (.int 0)) (mConsL (mC (.int 0)) mNilL))))
theorem make_ok {k : Nat} {ns : List Int} (hns : ns.length ≤ 63) : cutM (runDef 1 2 (bMake k)) [.kst (ns.map D.int)] [] = .ok (.loc 0) [nutE (ns.take k) 0 0] := by
  have hs : cutL (ns.map D.int) none (some (k : Int)) = (ns.take k).map D.int := by
    unfold cutL
    rw [HT.sIx_none, HT.sIx_nat]
    simp only [List.drop_zero, Nat.sub_zero, List.map_take, List.length_map]
    by_cases h : k ≤ ns.length
    · rw [Nat.min_eq_left h]
    · rw [Nat.min_eq_right (by omega), List.take_of_length_le (by simp), List.take_of_length_le (by simp; omega)]
  have hit : ∀ S, mIter (mSlice (mVar 0) mNoP (mPart (mC (.int (k : Int))))) [some (.kst (ns.map D.int)), none] S = .ok ((ns.take k).map D.int) S := fun S => by
    simp [asInt, sliceD, itemsD, hs, stillD]
  have hcomp : ∀ S, mCut (mFrz (mComp (mIter (mSlice (mVar 0) mNoP (mPart (mC (.int (k : Int)))))) [1] (gNm 1) mYes (mCall (f1 intD) (mConsL (mVar 1) mNilL)))) [some (.kst (ns.map D.int)), none] S = .ok (.lst (((ns.take k).map D.int).map id)) S := fun S => by
    refine comp_pure (f := id) (hit S) (by simp; omega) (fun d hd => ?_) (fun d hd S => ?_)
    · obtain ⟨z, _, rfl⟩ := List.mem_map.mp hd
      rfl
    · obtain ⟨z, _, rfl⟩ := List.mem_map.mp hd
      simp [wipeR]
  have h := hcomp []
  simp only [List.map_id] at h
  simp only [List.map_take] at h
  simp [bMake, h, nutE]
  exact cut_open rfl
end Z

set_option Elab.async false
set_option linter.all false
set_option maxRecDepth 100000
set_option maxHeartbeats 4000000
set_option autoImplicit false
namespace Z
open PySem PySem.Spec L2

/-! ### comprehensions with a test -/
theorem compL_filter {n : Nat} {g : MG} {q : MB} {e : ME} {ρ : Env'} {b : D → Bool} {f : D → D} : ∀ (ds : List D) (S : Store) (acc : List D), S[n]? = some (.lst acc) → acc.length + ds.length ≤ 16777216 →
    (∀ d ∈ ds, ∃ ρd, ∀ S, g d ρ S = some (ρd, S) ∧ q ρd S = .ok (b d) S ∧ (b d = true → e ρd S = .ok (f d) S)) → compL n g q e ρ ds S = .ok () (S.set n (.lst (acc ++ (ds.filter b).map f)))
  | [], S, acc, h, _, _ => by
    obtain ⟨h1, h2⟩ := List.getElem?_eq_some_iff.mp h
    simp only [compL, List.filter_nil, List.map_nil, List.append_nil]
    rw [← h2, List.set_getElem_self]
  | d :: ds, S, acc, h, hz, he => by
    have h1 : n < S.length := (List.getElem?_eq_some_iff.mp h).1
    simp only [List.length_cons] at hz
    obtain ⟨ρd, hd⟩ := he d List.mem_cons_self
    obtain ⟨e1, e2, e3⟩ := hd S
    cases hb : b d with
    | false =>
      rw [hb] at e2
      simp only [compL, e1, e2, noEx_ok, bind_ok, Bool.false_eq_true, if_false]
      rw [compL_filter ds S acc h (by omega) fun d' hd' => he d' (List.mem_cons_of_mem _ hd')]
      simp [List.filter_cons, hb]
    | true =>
      rw [hb] at e2
      simp only [compL, e1, e2, noEx_ok, bind_ok, if_true, e3 hb, pushAt_ok h (show acc.length < 16777216 by omega), resO_some]
      rw [compL_filter ds _ (acc ++ [f d]) (List.getElem?_set_self h1) (by simp; omega) fun d' hd' => he d' (List.mem_cons_of_mem _ hd')]
      simp [List.filter_cons, hb]
theorem comp_filter {l : ML} {vs : List Nat} {g : MG} {q : MB} {e : ME} {ρ : Env'} {S : Store} {ds : List D} {b : D → Bool} {f : D → D} (hl : l ρ S = .ok ds S) (hz : ds.length ≤ 16777216) (hc : ∀ d ∈ ds, b d = true → closed S.length (f d) = true)
    (he : ∀ d ∈ ds, ∃ ρd, ∀ S, g d (wipeR ρ vs) S = some (ρd, S) ∧ q ρd S = .ok (b d) S ∧ (b d = true → e ρd S = .ok (f d) S)) : mCut (mFrz (mComp l vs g q e)) ρ S = .ok (.lst ((ds.filter b).map f)) S := by
  have hn : (S ++ [Ent.lst []])[S.length]? = some (.lst []) := by simp
  have h := compL_filter (n := S.length) (g := g) (q := q) (e := e) (ρ := wipeR ρ vs) (b := b) (f := f) ds (S ++ [.lst []]) [] hn (by simpa using hz) he
  have hset : (S ++ [Ent.lst []]).set S.length (.lst ([] ++ (ds.filter b).map f)) = S ++ [.lst ((ds.filter b).map f)] := by simp
  rw [hset] at h
  have hs2 : (S ++ [Ent.lst ((ds.filter b).map f)])[S.length]? = some (.lst ((ds.filter b).map f)) := by simp
  have hset2 : (S ++ [Ent.lst ((ds.filter b).map f)]).set S.length .dead = S ++ [.dead] := by simp
  show cut S ((mComp l vs g q e ρ S).bind frzD) = _
  unfold mComp
  rw [hl]
  simp only [bind_ok, h, frzD, hs2, hset2]
  refine cut_app ?_
  simp only [closed]
  refine closedL_all fun d hd => ?_
  obtain ⟨d', hd', rfl⟩ := List.mem_map.mp hd
  obtain ⟨h1, h2⟩ := List.mem_filter.mp hd'
  exact hc d' h1 h2
theorem cut_exS (S : Store) (c : Nat) (ks : List Str) (vs : List D) : cut S (.ex c ks vs S) = .ex c ks vs S := by
  simp only [cut]
  split
  · rw [List.take_length]
  · rfl
@[simp] theorem es_tryK (ex : Nat → Option Bool) (i j : Nat) (mb : MS) (ρ : Env') (S : Store) : sTryK ex i j mb ρ S = match mb ρ S with
  | .ex ρ' c ks vs S' => (match ex c with
    | some true => .nx ((ρ'.set j (some (.exn c ks vs))).set i none) S'
    | some false => .ex ρ' c ks vs S'
    | none => .bad)
  | r => r := rfl
@[simp] theorem es_raise (c : Nat) (fs : List Str) (n m : Nat) (src : List Src) (a b : ML) (ρ : Env') (S : Store) : sRaise c fs n m src a b ρ S = srRes ρ (a ρ S) fun us S1 => srRes ρ (b ρ S1) fun ws S2 =>
  if us.length = n ∧ ws.length = m ∧ n ≤ 1000 then
    match fill us ws [] src with
    | some ds => if ds.length = fs.length then .ex ρ c fs.reverse ds.reverse S2 else .bad
    | none => .bad
  else .bad := rfl
theorem isi_x (tab : Tab) (c d : Nat) (ks : List Str) (vs : List D) (S : Store) : isiM tab [.exn c ks vs, .cls d] S = resO ((tab (.exc c) (.cls d)).map D.bl) S := rfl
theorem isi_xt (tab : Tab) (c : Nat) (n : String) (ks : List Str) (vs : List D) (S : Store) : isiM tab [.exn c ks vs, .ty n] S = resO ((tab (.exc c) (.ty n)).map D.bl) S := rfl
theorem isi_xs (tab : Tab) (c : Nat) (a : D) (as : List D) (ks : List Str) (vs : List D) (S : Store) : isiM tab [.exn c ks vs, .tup (a :: as)] S = resO ((tgsOf (a :: as)).bind fun cs => (anyTab tab (.exc c) cs).map D.bl) S := rfl
@[simp] theorem ev_xattr (cs : List Nat) (n : Str) (c : Nat) (ks : List Str) (vs : List D) (S : Store) : attrX cs n (.exn c ks vs) S = if c ∈ cs then resO ((ks.zip vs).lookup n) S else .bad := rfl
@[simp] theorem ev_enum (l : ML) (ρ : Env') (S : Store) : mEnum l ρ S = (l ρ S).bind fun ds S1 => match ds with
  | [.lst l] => .ok (enumL l) S1
  | [.kst l] => .ok (enumL l) S1
  | _ => .bad := rfl
end Z

set_option Elab.async false
set_option linter.all false
set_option maxRecDepth 100000
set_option maxHeartbeats 4000000
set_option autoImplicit false
namespace Z
open PySem PySem.Spec PyProof.Rows L2

/-! ## lambdas -/
/-- a lambda's parameters: none, or one with an int for its default; ys: the names that its call binds -/
structure LamPar (params : Arguments) (body : Expr) (scope : Scope) (N ys : List Str) : Prop where
  kw : params.kw_defaults = []
  dfl : (params.defaults = [] ∧ ys = [] ∧ (∀ env, defaultsOf params env = ([], [])) ∧ ∀ q cl doc pm cv ctv, bindArgs (PySem.W.kdv_fn "<lambda>" q params (.expr body) scope cl .none doc pm cv ctv) ⟨[], []⟩ = pure []) ∨
    (∃ y i j p, params.defaults = [.Constant (.int i) j p] ∧ ys = [y] ∧ ∀ q cl dV doc pm cv ctv, ∃ k, bindArgs (PySem.W.kdv_fn "<lambda>" q params (.expr body) scope cl dV doc pm cv ctv) ⟨[], []⟩ = seqItems? dV >>= k ∧ ∀ v, k (some #[v]) = pure [(y, v)])
  kind : scope.kind = .function
  co : scope.isCoroutine = false
  gen : scope.isGenerator = false
  own : ∀ z ∈ scope.names, z.2 ≠ .cell ∧ (z.2 = .local → z.1 ∉ N)
  loc : ∀ y ∈ ys, scope.names.lookup y = some .local
/-- .. and what it captures is there -/
def LamFree (sc scope : Scope) : Prop := ∀ z ∈ scope.names, z.2 = .free → sc.names.lookup z.1 = some .cell ∨ sc.names.lookup z.1 = some .free
def lamOwnB (scope : Scope) (N : List Str) : Bool := scope.names.all fun z => !decide (z.2 = .cell) && (!decide (z.2 = .local) || !decide (z.1 ∈ N))
theorem lamOwn_by {scope : Scope} {N : List Str} (h : lamOwnB scope N = true) : ∀ z ∈ scope.names, z.2 ≠ .cell ∧ (z.2 = .local → z.1 ∉ N) := by
  unfold lamOwnB at h
  simp only [List.all_eq_true, Bool.and_eq_true, Bool.or_eq_true, Bool.not_eq_true', decide_eq_false_iff_not] at h
  intro z hz
  refine ⟨(h z hz).1, fun e => ?_⟩
  rcases (h z hz).2 with q | q
  · exact absurd e q
  · exact q
def lamFreeB (sc scope : Scope) : Bool := scope.names.all fun z => !decide (z.2 = .free) || (decide (sc.names.lookup z.1 = some .cell) || decide (sc.names.lookup z.1 = some .free))
theorem lamFree_by {sc scope : Scope} (h : lamFreeB sc scope = true) : LamFree sc scope := by
  unfold lamFreeB at h
  simp only [List.all_eq_true, Bool.or_eq_true, Bool.not_eq_true', decide_eq_true_eq, decide_eq_false_iff_not] at h
  intro z hz e
  rcases h z hz with q | q
  · exact absurd e q
  · exact q
theorem lam0 {params : Arguments} {body : Expr} {scope : Scope} {N : List Str} (h0 : params.defaults = []) (h1 : params.kw_defaults = []) (h2 : ∀ env, defaultsOf params env = ([], [])) (h3 : ∀ q cl doc pm cv ctv, bindArgs (PySem.W.kdv_fn "<lambda>" q params (.expr body) scope cl .none doc pm cv ctv) ⟨[], []⟩ = pure [])
    (kind : scope.kind = .function) (co : scope.isCoroutine = false) (gen : scope.isGenerator = false) (own : lamOwnB scope N = true) : LamPar params body scope N [] :=
  ⟨h1, .inl ⟨h0, rfl, h2, h3⟩, kind, co, gen, lamOwn_by own, by simp⟩
theorem lam1 {params : Arguments} {body : Expr} {scope : Scope} {N : List Str} {y : Str} {i : Int} {j : Nat} {p : Pos} (h0 : params.defaults = [.Constant (.int i) j p]) (h1 : params.kw_defaults = []) (h3 : ∀ q cl dV doc pm cv ctv, ∃ k, bindArgs (PySem.W.kdv_fn "<lambda>" q params (.expr body) scope cl dV doc pm cv ctv) ⟨[], []⟩ = seqItems? dV >>= k ∧ ∀ v, k (some #[v]) = pure [(y, v)])
    (kind : scope.kind = .function) (co : scope.isCoroutine = false) (gen : scope.isGenerator = false) (own : lamOwnB scope N = true) (loc : scope.names.lookup y = some .local) : LamPar params body scope N [y] :=
  ⟨h1, .inr ⟨y, i, j, p, h0, rfl, h3⟩, kind, co, gen, lamOwn_by own, by simpa using loc⟩

section
variable {X : Cx} {pins : List (Addr × Obj)} {σ : L2.St} {H : Hp} {s : Shared}
theorem stays_out (I : Inv X pins σ H s) {f : Addr} (hf : s.heap.objs.size ≤ f) : f ∉ frs X.stack := by
  intro z
  rcases List.mem_cons.mp (I.stkSub _ z) with e | e
  · have h1 := I.lt
    rw [← e] at h1
    exact Nat.lt_irrefl _ (Nat.lt_of_lt_of_le h1 hf)
  · exact I.nofs hf e
/-- the function's object: its code is new, or found in the table -/
theorem lam_tail {T : List (Addr × Str)} {c P : Addr} {params : Arguments} {body : Expr} {scope : Scope} {pos : Pos} {fl : Nat} {dV : Value} {q : Str} {E : Value → Shared → Prop} {Q : Value → Shared → Prop} (I : Inv X pins σ H s) (TB : LamX.TabB X.base X.mg c P) (hcode : X.env.code = .ref c)
    (hm : (P, q) ∈ T) (hu : ∀ p ∈ T, p.1 = P → p.2 = q) (hT : LamX.Tabs T H) (hfree : ∀ y ∈ scope.names, y.2 = .free → ∃ c, X.env.cells.lookup y.1 = some c)
    (h : ∀ (f c' : Addr) (doc pm ctv : Value) (H1 : Hp) (s' : Shared), Inv X pins σ H1 s' → LamX.ExtN H H1 → LamX.Tabs T H1 →
      s'.heap.get? f = some (PySem.W.kdv_obj "<lambda>" q params (.expr body) scope (cloFrom X.env.cells scope.names []) dV doc pm c' ctv) → H1 f = none → f ∉ frs X.stack → H1 c' = some (LamX.CodeO c' q) →
      (∀ b o, s.heap.get? b = some o → H b = none → s'.heap.get? b = some o ∧ H1 b = none) → Q (.ref f) s') :
    wpAny (model X.prog X.w) X.A (makeTail "<lambda>" q params (.expr body) scope X.env dV .none none pos fl) Q E s := by
  obtain ⟨ps, hP, ht, hall⟩ := hT _ hm
  have hbm : s.heap.BuiltinsAt X.mg P := TB.bm.keeps I.bk
  have hP' : s.heap.get? P = some { cls := .none, data := .fields ps } := I.hok P _ hP
  have hglob : s.heap.Ns mainGlobals X.mg := I.mod.glob.keeps I.bk
  have hcd : PySem.W.CodeHd s.heap c P := TB.code.keeps I.bk
  cases hc : codeAmong pos ps.toList with
  | none =>
    refine PySem.W.kdv_makeTail (mg := X.mg) (c := c) (P := P) (ps := ps) (closure_ok hfree) I.ok.glob hglob hcode hcd hP' ht hc TB.gP hbm ?_
    intro c' ctv doc h' tk hx hge hlt hrec htb
    obtain ⟨c2, oc, us, t, e2, hoc, hd, hv⟩ := hrec
    cases e2
    have hsz : s.heap.objs.size ≤ h'.objs.size := by omega
    have nC : H c' = none := I.hok.fresh hge
    obtain ⟨ob, hob⟩ : ∃ ob, ob = PySem.W.kdv_obj "<lambda>" q params (.expr body) scope (cloFrom X.env.cells scope.names []) dV doc ((X.mg "__name__").getD .none) c' ctv := ⟨_, rfl⟩
    rw [← hob]
    have up : ∀ {b : Addr} {o : Obj}, h'.get? b = some o → (h'.push ob).get? b = some o := fun e => Heap.get?_push_of_some _ e
    obtain ⟨H1, hH1⟩ : ∃ H1, H1 = upd (upd H P (.tbl (ps ++ #[rawInt pos.line, rawInt pos.col, .ref c']))) c' (LamX.CodeO c' q) := ⟨_, rfl⟩
    have I1 : Inv X pins σ H1 { s with heap := h'.push ob, toks := tk } := by
      rw [hH1]
      exact LamX.inv_table I hP (fun b o hb e => up (hx b o hb e)) (up htb) hge ⟨oc, us, t, up hoc, hd, hv⟩
    have at1 : ∀ b, b ≠ c' → b ≠ P → H1 b = H b := fun b n1 n2 => by rw [hH1, upd_ne n1, upd_ne n2]
    have atC : H1 c' = some (LamX.CodeO c' q) := by rw [hH1]; exact upd_same
    have nPc : P ≠ c' := ne_of_none hP nC
    have atP : H1 P = some (.tbl (ps ++ #[rawInt pos.line, rawInt pos.col, .ref c'])) := by rw [hH1, upd_ne nPc]; exact upd_same
    have ext : LamX.ExtN H H1 := by
      intro b o e n
      rw [at1 b (ne_of_none e nC) (fun z => n ps (by rw [z, hP] at e; exact (Option.some.inj e).symm))]
      exact e
    have hl : (ps ++ #[rawInt pos.line, rawInt pos.col, .ref c']).toList = ps.toList ++ [rawInt pos.line, rawInt pos.col, .ref c'] := by simp
    have tabs : LamX.Tabs T H1 := by
      intro p hp
      by_cases hb : p.1 = P
      · rw [hu p hp hb, hb]
        refine ⟨_, atP, by rw [hl]; exact PySem.TriplesOk_snoc _ _ _ _ ht, ?_⟩
        intro p' cv hcv
        rw [hl] at hcv
        rcases LamX.among_app _ ht hcv with z | z
        · obtain ⟨c0, e1, e2⟩ := hall p' cv z
          exact ⟨c0, e1, ext _ _ e2 LamX.codeO_ne⟩
        · exact ⟨c', z, atC⟩
      · obtain ⟨ps', a1, a2, a3⟩ := hT p hp
        refine ⟨ps', by rw [at1 _ (ne_of_none a1 nC) hb]; exact a1, a2, ?_⟩
        intro p' cv hcv
        obtain ⟨c0, e1, e2⟩ := a3 p' cv hcv
        exact ⟨c0, e1, ext _ _ e2 LamX.codeO_ne⟩
    have n1 : h'.objs.size ≠ c' := by omega
    have n2 : h'.objs.size ≠ P := by
      exact Nat.ne_of_gt (Nat.lt_of_lt_of_le (Heap.lt_size hP') hsz)
    refine h h'.objs.size c' doc ((X.mg "__name__").getD .none) ctv H1 _ I1 ext tabs (by rw [← hob]; exact Heap.get?_push_size _ (by rw [hob]; rfl)) ?_ (stays_out I hsz) atC ?_
    · rw [at1 _ n1 n2]
      exact I.hok.fresh hsz
    · intro b o e n
      have nb : b ≠ P := fun z => by rw [z, hP] at n; cases n
      have nb2 : b ≠ c' := fun z => by
        rw [z] at e
        exact Nat.lt_irrefl _ (Nat.lt_of_lt_of_le (Heap.lt_size e) hge)
      exact ⟨up (hx b o nb e), by rw [at1 b nb2 nb]; exact n⟩
  | some cv =>
    obtain ⟨c', rfl, hco⟩ := hall pos cv hc
    refine PySem.W.kdv_makeTailHit (mg := X.mg) (c := c) (P := P) (ps := ps) (closure_ok hfree) I.ok.glob hglob hcode hcd hP' ht hc hbm ?_
    intro ctv doc h' tk hx hsz
    obtain ⟨ob, hob⟩ : ∃ ob, ob = PySem.W.kdv_obj "<lambda>" q params (.expr body) scope (cloFrom X.env.cells scope.names []) dV doc ((X.mg "__name__").getD .none) c' ctv := ⟨_, rfl⟩
    have I1 : Inv X pins σ H { s with heap := h'.push ob, toks := tk } := I.kept fun b o e => Heap.get?_push_of_some _ (hx b o e)
    rw [hob] at I1
    exact h h'.objs.size c' doc ((X.mg "__name__").getD .none) ctv H _ I1 (LamX.ExtN.refl H) hT (Heap.get?_push_size _ rfl) (I.hok.fresh hsz) (stays_out I hsz) hco fun b o e n => ⟨Heap.get?_push_of_some _ (hx b o e), n⟩
/-- the tuple of its defaults -/
def DvAt (X : Cx) (H : Hp) (h : Heap) (ys : List Str) (dV : Value) : Prop :=
  (ys = [] ∧ dV = .none) ∨ ∃ t v y, ys = [y] ∧ dV = .ref t ∧ h.get? t = some (PySem.W.kdv_tup [v]) ∧ H t = none ∧ t ∉ frs X.stack
theorem lam_eval {T : List (Addr × Str)} {c P : Addr} {params : Arguments} {body : Expr} {scope : Scope} {pos : Pos} {q : Str} {N ys : List Str} {E : Value → Shared → Prop} {Q : Value → Shared → Prop} (I : Inv X pins σ H s) (TB : LamX.TabB X.base X.mg c P) (hcode : X.env.code = .ref c)
    (hq : q = X.env.qual ++ "<lambda>") (hm : (P, q) ∈ T) (hu : ∀ p ∈ T, p.1 = P → p.2 = q) (hT : LamX.Tabs T H) (L : LamPar params body scope N ys) (hfree : ∀ y ∈ scope.names, y.2 = .free → ∃ c, X.env.cells.lookup y.1 = some c)
    (h : ∀ (f c' : Addr) (dV doc pm ctv : Value) (H1 : Hp) (s' : Shared), Inv X pins σ H1 s' → LamX.ExtN H H1 → LamX.Tabs T H1 →
      s'.heap.get? f = some (PySem.W.kdv_obj "<lambda>" q params (.expr body) scope (cloFrom X.env.cells scope.names []) dV doc pm c' ctv) → H1 f = none → f ∉ frs X.stack → H1 c' = some (LamX.CodeO c' q) → DvAt X H1 s'.heap ys dV → Q (.ref f) s')
    (hE : E = X.xe) : wpAny (model X.prog X.w) X.A (eval (.Lambda params body scope pos) X.env) Q E s := by
  subst hE
  rcases L.dfl with ⟨d0, rfl, d1, _⟩ | ⟨y, i, j, p, d0, rfl, _⟩
  · refine PySem.W.kla_eval (d1 _) ?_
    rw [makeFunction_eq, ← hq]
    simp only [List.zip_nil_right, List.filterMap_nil, List.isEmpty_nil, if_true, pure_bind]
    refine lam_tail I TB hcode hm hu hT hfree ?_
    intro f c' doc pm ctv H1 s' I1 eN T1 hf hfn hfr hco _
    exact h f c' .none doc pm ctv H1 s' I1 eN T1 hf hfn hfr hco (.inl ⟨rfl, rfl⟩)
  · refine PySem.W.kdv_lam (by rw [d0]; rfl) L.kw ?_
    rw [d0, ← hq]
    refine PySem.W.kdv_all1 (wpAny_mono ((pe_int (X := X)).run pins s σ H (fun v H1 => v = .int i ∧ H1 = H) I ⟨rfl, rfl⟩) ?_ (fun _ _ z => z))
    intro u s1 hv
    obtain ⟨v, H1, I1, rv, e1, e2⟩ := hv
    subst e1
    subst e2
    refine PySem.W.kdv_all0 ?_
    rw [makeFunction_eq]
    simp only [List.zip_nil_right, List.filterMap_nil, List.isEmpty_nil, if_true, pure_bind, List.isEmpty_cons, Bool.false_eq_true, if_false]
    refine wpAny_bind (wpAny_newTextTuple ?_)
    have I2 : Inv X pins σ H1 { s1 with heap := s1.heap.push (PySem.W.kdv_tup [u]) } := I1.kept fun b o e => Heap.get?_push_of_some _ e
    refine lam_tail I2 TB hcode hm hu hT hfree ?_
    intro f c' doc pm ctv H2 s' I3 eN T1 hf hfn hfr hco kp
    have nt : H1 s1.heap.objs.size = none := I1.hok.fresh (Nat.le_refl _)
    obtain ⟨k1, k2⟩ := kp s1.heap.objs.size _ (Heap.get?_push_size _ rfl) nt
    exact h f c' _ doc pm ctv H2 s' I3 eN T1 hf hfn hfr hco (.inr ⟨_, u, y, rfl, rfl, k1, k2, stays_out I1 (Nat.le_refl _)⟩)
end
end Z

set_option Elab.async false
set_option linter.all false
set_option maxRecDepth 100000
set_option maxHeartbeats 4000000
set_option autoImplicit false
namespace Z
open PySem PySem.Spec PyProof.Rows L2

/-! ## a lambda's body runs -/
section
variable {X : Cx} {pins : List (Addr × Obj)} {σ : L2.St} {H HZ : Hp} {s s1 : Shared}
theorem lam_enter {A : Around} {outer : List Env} {E : XK} {params : Arguments} {body : Expr} {scope : Scope} {ys : List Str} {f c' : Addr} {h₁ : Heap} {tk : Nat} {m : Str → Option Value} (I : Inv X pins σ H s) (L : LamPar params body scope X.N ys) (LF : LamFree X.env.scope scope)
    (e0 : Env0 X.prog X.w X.K X.mg X.base A outer s1 HZ) (hd : A.handled = none) (un : Un (frs X.stack) [] H HZ s.heap s1.heap) (hns : h₁.Ns s1.heap.objs.size m) (kp : ∀ b o, s1.heap.get? b = some o → h₁.get? b = some o) :
    Inv (LamX.lamCx X A outer s1 HZ E scope f c') [] σ HZ { s1 with heap := h₁, toks := tk } := by
  have capt : ∀ {y : Str}, scope.names.lookup y = some .free → ∃ c, (cloFrom X.env.cells scope.names []).lookup y = some c ∧ X.env.cells.lookup y = some c := by
    intro y hl
    have hy : (y, NameKind.free) ∈ scope.names := PySem.mem_of_lookup hl
    obtain ⟨c, hc⟩ := mem_lookup (cloFrom_has (cells := X.env.cells) (acc := []) hy)
    refine ⟨c, hc, ?_⟩
    rcases cloFrom_mem (PySem.mem_of_lookup hc) with hm | ⟨h1, h2⟩
    · cases hm
    · obtain ⟨c1, hc1⟩ := I.ok.has y ((LF _ h1 rfl).elim .inl .inr)
      rw [h2, hc1]
      rfl
  have back : ∀ {y : Str} {c : Addr}, (cloFrom X.env.cells scope.names []).lookup y = some c → X.env.cells.lookup y = some c := by
    intro y c e
    rcases cloFrom_mem (PySem.mem_of_lookup e) with hm | ⟨h1, h2⟩
    · cases hm
    · obtain ⟨c1, hc1⟩ := I.ok.has y ((LF _ h1 rfl).elim .inl .inr)
      rw [h2, hc1]
      rfl
  have cellStay : ∀ {c : Addr} {v : Option Value}, H c = none → s.heap.IsCell c v → h₁.IsCell c v := by
    intro c v n ⟨o, ho, hdt⟩
    obtain ⟨sl, q⟩ := un.any ho n (by simp)
    exact ⟨_, kp _ _ q, hdt⟩
  have noEx : ∀ b : Addr, b ∈ (LamX.lamCx X A outer s1 HZ E scope f c').ex → False := by
    intro b z
    exact absurd (show b ∈ ([] : List Addr) from z) (by simp)
  refine ⟨⟨e0.mod, L.kind, rfl, rfl, Nat.le_refl _, ?_, ?_, ?_, fun _ => hd, Around.frames_deeper e0.frames, .inr ⟨rfl, rfl⟩, fun b z => (noEx b z).elim, e0.bs, e0.bsz, fun b _ _ z => noEx b z, fun b z => (noEx b z).elim, e0.funs, e0.frf⟩,
    rfl, e0.bare, Un.kept kp, ⟨_, hns, ?_⟩, ?_, e0.hok.fresh (Nat.le_refl _), ?_, ?_, e0.hok.kept kp, I.len⟩
  · intro y z c e1 e2
    exact I.ok.inj y z c (back e1) (back e2)
  · intro y hy
    have hy : scope.names.lookup y = some .cell ∨ scope.names.lookup y = some .free := hy
    rcases hy with hy | hy
    · exact absurd rfl (L.own _ (PySem.mem_of_lookup hy)).1
    · obtain ⟨c, h1, _⟩ := capt hy
      exact ⟨c, h1⟩
  · intro y c z
    have z' : false = true := z
    cases z'
  · intro i y v e1 e2 e3
    have e3 : Vis scope y := e3
    rcases e3 with k | k | k
    · exact absurd (List.mem_of_getElem? (show X.N[i]? = some y from e1)) ((L.own _ (PySem.mem_of_lookup k)).2 rfl)
    · exact absurd rfl (L.own _ (PySem.mem_of_lookup k)).1
    · obtain ⟨c2, h2, h3⟩ := capt k
      obtain ⟨m', hn, hl⟩ := I.loc
      have hcf := LF _ (PySem.mem_of_lookup k) rfl
      obtain ⟨u, r, q⟩ := hl i y v e1 e2 (hcf.elim (fun z => .inr (.inl z)) (fun z => .inr (.inr z)))
      refine ⟨u, r, .inr ⟨.inr k, c2, h2, ?_⟩⟩
      rcases q with ⟨k', _⟩ | ⟨_, c3, e', z⟩
      · have k' : X.env.scope.names.lookup y = some .local := k'
        rcases hcf with z | z
        · rw [show X.env.scope.names.lookup y = _ from z] at k'
          cases k'
        · rw [show X.env.scope.names.lookup y = _ from z] at k'
          cases k'
      · rw [h3] at e'
        cases e'
        exact cellStay (I.freeC y _ h3) z
  · intro y c e
    obtain ⟨u, z⟩ := I.cell y c (back e)
    exact ⟨u, cellStay (I.freeC y c (back e)) z⟩
  · intro y c e
    obtain ⟨v, o, ho, _⟩ := I.cell y c (back e)
    exact un.free c o ho (I.freeC y c (back e)) (by simp)
  · intro p hp
    exact absurd (show p ∈ ([] : List (Addr × Obj)) ++ [] from hp) (by simp)
/-- what is known of a lambda that was made -/
structure LamAt (X : Cx) (H : Hp) (h : Heap) (params : Arguments) (body : Expr) (scope : Scope) (ys : List Str) (q : Str) (f c' : Addr) : Prop where
  ex : ∃ dV doc pm ctv, h.get? f = some (PySem.W.kdv_obj "<lambda>" q params (.expr body) scope (cloFrom X.env.cells scope.names []) dV doc pm c' ctv) ∧ DvAt X H h ys dV
  hn : H f = none
  fr : f ∉ frs X.stack
/-- the lambda at f is called, in the def at g that got it -/
theorem lam_ask {qg : Str} {sg : Scope} {Ng : List Str} {g f c' : Addr} {cdg : Value} {params : Arguments} {body : Expr} {scope : Scope} {ys : List Str} {q : Str} {k i : Nat} {a : Str} {pn : List (Addr × Obj)} {xe : Value → Shared → Prop} {W : WX} {E0 : XK} {tb : XK → TE} {p1 p2 : Pos}
    (I : Inv X pins σ H s) (L : LamPar params body scope X.N ys) (LF : LamFree X.env.scope scope) (hq : q = X.env.qual ++ "<lambda>") (LA : LamAt X H s.heap params body scope ys q f c')
    (tk : Takes ((cxOf (L2.CX X.prog X.w) X.prog X.w X.K X.mg X.base Ng qg sg g cdg X.A X.stack s H E0).tr pn xe) W) (hr : Room (k + 1) (X.A.deeper (envOfC qg sg s.heap.objs.size g cdg)))
    (hbody : ∀ (A : Around) (outer : List Env) (s1 : Shared) (H1 : Hp) (E : XK), Room k (A.deeper (LamX.lamEnv X scope s1.heap.objs.size f c')) → A.guards = (X.A.deeper (envOfC qg sg s.heap.objs.size g cdg)).guards → PE (LamX.lamCx X A outer s1 H1 E scope f c') body (tb E))
    (hN : Ng[i]? = some a) (hv : Vis sg a) (hd : (a == ("__debug__" : Str)) = false) (hcd : (a == ("__classdict__" : Str)) = false) :
    PE ((cxOf (L2.CX X.prog X.w) X.prog X.w X.K X.mg X.base Ng qg sg g cdg X.A X.stack s H E0).tr pn xe) (.Call (.Name a p1) [] [] p2)
      (fun σZ HZ Q => σZ[i]? = some (some (.ref f)) ∧ HZ c' = some (LamX.CodeO c' q) ∧ tb (fun cls d H' => W cls d σZ H') σ HZ Q) := by
  refine ⟨fun pinsZ sZ σZ HZ Q IZ h => ?_⟩
  obtain ⟨hs, hc, ht⟩ := h
  refine wpAny_Call_Name_kw (thn ((pe_var (pos := p1) (i := i) hN hv hd hcd).run pinsZ sZ σZ HZ (fun v H1 => v = .ref f ∧ H1 = HZ) IZ ⟨.ref f, hs, rfl, rfl⟩) fun u s1 hv1 => ?_)
  obtain ⟨v, H1, I1, r1, e1, e2⟩ := hv1
  subst e1
  subst e2
  obtain rfl : u = Value.ref f := r1
  obtain ⟨dV, doc, pm, ctv, hf, hdv⟩ := LA.ex
  have of1 := I1.base.keep f _ hf LA.hn LA.fr (fun z => nomatch (show f ∈ ([] : List Addr) from z))
  refine PySem.W.callWith_F0 ⟨_, _, _, _, of1⟩ ?_
  have un : Un (frs X.stack) [] H H1 s.heap s1.heap := I1.base
  obtain ⟨⟨oc, us, t, hoc, hdc, hvc⟩, _, _⟩ := I1.hok c' _ hc
  have hbind : ∃ binds : List (Str × Value), (∀ y ∈ binds, scope.names.lookup y.1 = some .local) ∧ BindsTo s1 (PySem.W.kdv_fn "<lambda>" q params (.expr body) scope (cloFrom X.env.cells scope.names []) dV doc pm (.ref c') ctv) ⟨[], []⟩ binds := by
    rcases hdv with ⟨rfl, rfl⟩ | ⟨t, v, y, rfl, rfl, h1, h2, h3⟩
    · rcases L.dfl with ⟨_, _, _, hb⟩ | ⟨_, _, _, _, _, z, _⟩
      · exact ⟨[], by simp, .of_eq (hb _ _ _ _ _ _)⟩
      · cases z
    · rcases L.dfl with ⟨_, z, _⟩ | ⟨y', i', j', p', _, z, hb⟩
      · cases z
      · cases z
        obtain ⟨kk, hb1, hb2⟩ := hb q (cloFrom X.env.cells scope.names []) (.ref t) doc pm (.ref c') ctv
        refine ⟨[(y, v)], by simpa using L.loc y (by simp), BindsTo.of_defaults rfl (I1.base.keep t _ h1 h2 h3 (fun z => nomatch (show t ∈ ([] : List Addr) from z))) rfl hb1 (hb2 v)⟩
  obtain ⟨binds, hbl, hbd⟩ := hbind
  have rc : codeAny (model X.prog X.w) (X.A.deeper (envOfC qg sg s.heap.objs.size g cdg)) (.call (.ref f) ⟨[], []⟩) (CR (L2.CX X.prog X.w) (envOfC qg sg s.heap.objs.size g cdg :: X.stack) X.prog X.w H1 s1 Q (WE W σZ)) s1 := by
    refine PySem.W.kla_callFunE hr.depth of1 rfl L.co L.gen rfl ⟨c', oc, us, t, rfl, hoc, hdc, hvc⟩ (hbd _ _ _ _ ?_)
    refine wpAny_newFunctionEnv (fun y hy => (L.own y hy).1) hbl (fun h₁ hns hsb => ⟨I1.nolimit.fresh _ hsb, ?_⟩) L.kind
    subst hq
    have kp : ∀ b o, s1.heap.get? b = some o → h₁.get? b = some o := by
      intro b o e
      exact hsb.extBut b o (Nat.ne_of_lt (Heap.lt_size e)) (Heap.get?_push_of_some _ e)
    have J : Inv (LamX.lamCx X (X.A.deeper (envOfC qg sg s.heap.objs.size g cdg)) (envOfC qg sg s.heap.objs.size g cdg :: X.stack) s1 H1 (WE W σZ) scope f c') [] σ H1 { s1 with heap := h₁, toks := s1.toks + binds.length } :=
      lam_enter I L LF I1.env0 hr.hd un hns kp
    have hb := hbody (X.A.deeper (envOfC qg sg s.heap.objs.size g cdg)) (envOfC qg sg s.heap.objs.size g cdg :: X.stack) s1 H1 (WE W σZ) (hr.deeper _) rfl
    refine PySem.W.kla_codeExpr (wpAny_mono (hb.run [] _ _ H1 Q J ht) ?_ fun e s' hq => hq)
    intro v s' hq
    obtain ⟨w', H', J', rv, q'⟩ := hq
    exact ⟨w', H', J'.os, J'.bare, J'.base, J'.hok, rv, q'⟩
  refine wpAny_call (codeAny_mono rc fun r s' hq' => ?_)
  cases r with
  | error e => exact passAt tk σZ pinsZ H1 s1 e s' I1 hq'
  | ok fl =>
    cases fl with
    | ret u => exact I1.after hq'
    | _ => exact False.elim hq'
end
end Z

set_option Elab.async false
set_option linter.all false
set_option maxRecDepth 100000
set_option maxHeartbeats 4000000
set_option autoImplicit false
namespace Z
open PySem PySem.Spec PyProof.Rows L2

/-! ## a def that is handed a lambda -/
def caps : List Nat → Env' → Option (List D)
  | [], _ => some []
  | i :: is, ρ =>
    match ρ[i]?.join, caps is ρ with
    | some d, some ds => some (d :: ds)
    | _, _ => none
def place (n : Nat) : List Nat → List D → Env'
  | i :: is, d :: ds => (place n is ds).set i (some d)
  | _, _ => List.replicate n none
def AtX (σ : L2.St) : List Nat → List V → Prop
  | i :: is, x :: xs => σ[i]? = some (some x) ∧ AtX σ is xs
  | _, _ => True
/-- the lambda is asked -/
def mAsk (i : Nat) (f c : Addr) (q : Str) (xs : List V) (act : List D → Store → Res D) : ME := fun ρ S =>
  match ρ[i]?.join with
  | some (.lam f' c' q' ds xs') => open Classical in if f' = f ∧ c' = c ∧ q' = q ∧ xs' = xs then act ds S else .bad
  | _ => .bad
def runLam (nh : Nat) (b : ME → MS) (ds : List D) (act : List D → Store → Res D) (S : Store) (f c : Addr) (q : Str) (xs : List V) : Res D :=
  runDef 1 nh (b (mAsk 0 f c q xs act)) [.lam f c q ds xs] S
noncomputable def mLam (nh : Nat) (b : ME → MS) (n : Nat) (ix : List Nat) (mb : ME) : ME := fun ρ S =>
  match caps ix ρ with
  | some ds =>
    open Classical in
    if ∀ f c q xs, runLam nh b ds (fun ds S => mb (place n ix ds) S) S f c q xs = runLam nh b ds (fun ds S => mb (place n ix ds) S) S 0 0 "" [] then
      runLam nh b ds (fun ds S => mb (place n ix ds) S) S 0 0 "" [] else .bad
  | none => .bad
theorem mLam_ok {nh : Nat} {b : ME → MS} {n : Nat} {ix : List Nat} {mb : ME} {ρ : Env'} {S : Store} {ds : List D} {r : Res D} (hc : caps ix ρ = some ds) (h : ∀ f c q xs, runLam nh b ds (fun ds S => mb (place n ix ds) S) S f c q xs = r) : mLam nh b n ix mb ρ S = r := by
  unfold mLam
  rw [hc]
  simp only
  rw [if_pos (fun f c q xs => by rw [h, h]), h]
section
variable {G : Gm} {F : Hp} {μ : List Addr}
theorem place_len {n : Nat} : ∀ {ix : List Nat} {ds : List D}, (place n ix ds).length = n
  | [], _ => by simp [place]
  | _ :: _, [] => by simp [place]
  | i :: is, d :: ds => by simp only [place, List.length_set]; exact place_len
theorem place_ok {n : Nat} {σ : L2.St} (hn : σ.length = n) : ∀ {ix : List Nat} {ds : List D} {xs : List V}, Reps G F μ ds xs → AtX σ ix xs → EnvR G F μ (place n ix ds) σ
  | [], _, _, _, _ => ⟨by simp [place, hn], fun i d h => by simp [place, List.getElem?_replicate] at h⟩
  | _ :: _, [], _, _, _ => ⟨by simp [place, hn], fun i d h => by simp [place, List.getElem?_replicate] at h⟩
  | i :: is, d :: ds, _, .cons a b, h => by
    have ih := place_ok hn b h.2
    refine ⟨by rw [place_len]; exact hn.symm, fun j e hj => ?_⟩
    simp only [place] at hj
    by_cases hij : i = j
    · subst hij
      by_cases hl : i < (place n is ds).length
      · rw [List.getElem?_set_self hl] at hj
        cases hj
        exact ⟨_, h.1, a⟩
      · rw [List.getElem?_eq_none (by rw [List.length_set]; omega)] at hj
        cases hj
    · rw [List.getElem?_set_ne hij] at hj
      exact ih.get j e hj
theorem caps_ok {ρ : Env'} {σ : L2.St} (he : EnvR G F μ ρ σ) : ∀ {ix : List Nat} {ds : List D}, caps ix ρ = some ds → ∃ xs, Reps G F μ ds xs ∧ AtX σ ix xs
  | [], ds, h => by
    cases h
    exact ⟨[], .nil, trivial⟩
  | i :: is, ds, h => by
    simp only [caps] at h
    split at h
    · rename_i d ds' h1 h2
      cases h
      obtain ⟨xs, r, a⟩ := caps_ok he h2
      obtain ⟨v, hv, rv⟩ := he.get i d (join_some h1)
      exact ⟨v :: xs, .cons rv r, hv, a⟩
    · cases h
/-- a table grown, a code object told -/
theorem Rel.lam {S : Store} {H H1 : Hp} {c' : Addr} {q : Str} (r : Rel G F μ S H) (x : LamX.ExtN H H1) (t : LamX.Tabs G.tabs H1) (hc : H1 c' = some (LamX.CodeO c' q)) : ∃ F1, Ext F μ F1 μ ∧ Rel G F1 μ S H1 ∧ F1 c' = some (LamX.CodeO c' q) := by
  have nt : ∀ {b : Addr} {o : HO}, H b = some o → NoTbl o → H1 b = some o := fun {b o} e n => x b o e fun ps z => by
    rw [z] at n
    exact n
  have sub : Same F H1 := fun b o e => nt (r.sub b o e) (r.nt b o e)
  have xx : Ext F μ (upd F c' (LamX.CodeO c' q)) μ := by
    refine ⟨fun b o e => ?_, fun _ _ z => z⟩
    by_cases hb : b = c'
    · subst hb
      have z := sub b o e
      rw [hc] at z
      rw [upd_same, ← z]
    · rw [upd_ne hb]
      exact e
  refine ⟨upd F c' (LamX.CodeO c' q), xx, ⟨fun b o e => ?_, r.len, r.inj, fun i a e h1 h2 => ?_, fun i a h => ?_, t, nt_upd r.nt trivial⟩, upd_same⟩
  · by_cases hb : b = c'
    · subst hb
      rw [upd_same] at e
      rw [← e]
      exact hc
    · rw [upd_ne hb] at e
      exact sub b o e
  · have fn : ∀ {o : HO}, H a = some o → (∀ h, o ≠ .ext h) → NoTbl o → F a = none → upd F c' (LamX.CodeO c' q) a = none := by
      intro o e ne n f
      rw [upd_ne ?_]
      · exact f
      · intro z
        have := nt e n
        rw [z, hc] at this
        exact ne _ (Option.some.inj this).symm
    cases r.ent i a e h1 h2 with
    | dead => exact .dead
    | lst a1 a2 a3 => exact .lst (fn a2 (fun _ z => nomatch z) trivial a1) (nt a2 trivial) (a3.mono xx)
    | dct a1 a2 a3 a4 => exact .dct (fn a2 (fun _ z => nomatch z) trivial a1) (nt a2 trivial) a3 (a4.mono xx)
    | ins a1 a2 a3 a4 => exact .ins (fn a2 (fun _ z => nomatch z) trivial a1) (nt a2 trivial) a3 (a4.mono xx)
  · obtain ⟨o, e, n⟩ := r.trk i a h
    exact ⟨o, nt e n, n⟩
/-- a def's body runs, from a call -/
theorem run_body {P : Program} {w : World} {base : Heap} {x qual : Str} {st : Stmt} {f : Addr} {fd : FuncData} {N ps : List Str} {k : Nat} {b : MS} {A : Around} {outer : List Env} {s : Shared} {H : Hp} {args : Args} {us : List Value} {vs : List V} {Q : VK} {E : XK} {S0 : Store} {ds : List D}
    (FF : FunG G.K x qual st f fd) (S : FnScope N ps (defScope st)) (hr : Room (k + 1) A) (hgd : A.guards = some []) (e0 : Env0 P w G.K G.mg base A outer s H) (hb : BindsTo s fd args (ps.zip us)) (r : Vals vs us)
    (hbody : ∀ cdv : Value, fd.code = cdv → Ok G (cxOf (L2.CX P w) P w G.K G.mg base N qual (defScope st) f cdv A outer s H E) k (wE E) → SSs G (cxOf (L2.CX P w) P w G.K G.mg base N qual (defScope st) f cdv A outer s H E) (wE E) (defBody st) b)
    (hrel : Rel G F μ S0 H) (hreps : Reps G F μ ds vs) (hl : ds.length = ps.length) (hpost : Post G (wE E) (Rep G) F μ [] Q (runDef ps.length N.length b ds S0)) :
    codeAny (model P w) A (.call (.ref f) args) (CR (L2.CX P w) outer P w H s Q E) s := by
  obtain ⟨oc, od, dV, kV, doc, pm, an, cdv, ct, osl, rfl, lk, hcd⟩ := FF.ex
  have hvl : vs.length = ps.length := by rw [← hreps.length]; exact hl
  have KX : G.K.In s.heap := e0.mod.kin.keeps (fun b o e => (e0.bs b o e).1)
  have lim : s.heap.NoLimit := e0.mod.nolimit.keeps (fun b o e => (e0.bs b o e).1)
  have hkind : ∀ y ∈ ps.zip us, (defScope st).names.lookup y.1 = some .local ∨ ((defScope st).names.lookup y.1 = some .cell ∧ ((cellsFrom (s.heap.objs.size + 1) (defScope st).names []).lookup y.1).isSome = true) := by
    intro y hy
    rcases S.par y.1 (List.of_mem_zip (show (y.1, y.2) ∈ ps.zip us from hy)).1 with q | q
    · exact .inl q
    · exact .inr ⟨q, PySem.W.cellsFrom_some _ _ _ (.inl q)⟩
  refine codeAny_call_function hr.depth (KX _ _ lk) rfl S.co S.gen rfl (PySem.W.codeRec_of KX hcd) (hb _ _ _ _ ?_)
  refine wpAny_newFunctionEnv_cells S.kind hkind (fun env he s1 x1 => ?_)
  subst he
  refine ⟨lim.keeps x1.toInCall.keep, codeAny_func ?_⟩
  obtain ⟨t, ht, hi⟩ := hbody cdv rfl ⟨rfl, rfl, rfl, S.nd, hr.deeper _, hgd, takes_of rfl rfl rfl rfl, passes_of rfl⟩
  have I : Inv (cxOf (L2.CX P w) P w G.K G.mg base N qual (defScope st) f cdv A outer s H E) [] (L2.start N vs) H s1 := inv_start S hr.hd e0 hvl r x1
  have hq : t { nx := fun _ H' => Q .non H', rt := Q } (L2.start N vs) H := by
    refine hi _ S0 _ H F μ _ (env_start (N := N) hreps hl) hrel ?_
    unfold runDef at hpost
    rw [if_pos hl] at hpost
    revert hpost
    cases b (ds.map some ++ List.replicate (N.length - ps.length) none) S0 with
    | nx ρ S' => exact fun h F' μ' σ' H' x r e => h F' μ' .non H' x r .non
    | rt d S' => exact fun h => h
    | ex ρ c ks vs S' => exact fun h F' μ' σ' dx xs H' x r e a l q => h F' μ' dx xs H' x r a l q
    | _ => exact fun h => h.elim
  refine wpAny_mono (ht.run [] s1 (L2.start N vs) H _ I hq) (fun fl s' hs => ?_) (fun e s' hs => hs)
  cases fl with
  | ret u =>
    obtain ⟨v, σ', H', J, rv, q⟩ := hs
    exact ⟨v, H', J.os, J.bare, J.base, J.hok, rv, q⟩
  | next =>
    obtain ⟨σ', H', J, q⟩ := hs
    exact ⟨.non, H', J.os, J.bare, J.base, J.hok, rfl, q⟩
  | brk => exact hs.elim fun _ h => h.elim fun _ h => h.2.elim
  | cont => exact hs.elim fun _ h => h.elim fun _ h => h.2.elim
end
/-- the table of a def that holds lambdas, from within -/
structure TabX (G : Gm) (X : Cx) (q : Str) : Prop where
  ex : ∃ c P, X.env.code = .ref c ∧ LamX.TabB X.base X.mg c P ∧ (P, q) ∈ G.tabs ∧ ∀ p ∈ G.tabs, p.1 = P → p.2 = q
theorem TabX.of {G : Gm} {X : Cx} {fd : FuncData} {x : Str} (h : TabL G X.base fd x) (hm : X.mg = G.mg) (hc : X.env.code = fd.code) : TabX G X (lamN x) := by
  obtain ⟨c, P, h1, h2, h3, h4⟩ := h.ex
  exact ⟨c, P, by rw [hc]; exact h1, by rw [hm]; exact h2, h3, h4⟩
section
variable {G : Gm} {X : Cx} {W : WX} {k kh kb : Nat} {x a : Str} {sth : Stmt} {g : Addr} {fdh : FuncData} {Nh ys : List Str} {bh : ME → MS} {params : Arguments} {body : Expr} {scope : Scope} {p lpos pos : Pos} {ix : List Nat} {mb : ME} {q : Str}
theorem se_lam (ok : Ok G X k W) (D : Df G x sth [a] g fdh) (Sg : FnScope Nh [a] (defScope sth)) (hk : kh + 1 ≤ k) (hkb : kb + 1 ≤ kh)
    (hh : ∀ (ma : ME) (cdv : Value) (A : Around) (outer : List Env) (s : Shared) (H : Hp) (E : XK), Ok G (cxOf (L2.CX X.prog X.w) X.prog X.w G.K G.mg X.base Nh x (defScope sth) g cdv A outer s H E) kh (wE E) →
      (∀ (pn : List (Addr × Obj)) (xe : Value → Shared → Prop) (W' : WX), Ok G ((cxOf (L2.CX X.prog X.w) X.prog X.w G.K G.mg X.base Nh x (defScope sth) g cdv A outer s H E).tr pn xe) kh W' → ∀ p1 p2, SE G ((cxOf (L2.CX X.prog X.w) X.prog X.w G.K G.mg X.base Nh x (defScope sth) g cdv A outer s H E).tr pn xe) W' (.Call (.Name a p1) [] [] p2) ma) →
      SSs G (cxOf (L2.CX X.prog X.w) X.prog X.w G.K G.mg X.base Nh x (defScope sth) g cdv A outer s H E) (wE E) (defBody sth) (bh ma))
    (TX : TabX G X q) (L : LamPar params body scope X.N ys)
    (hb : ∀ (A : Around) (outer : List Env) (s1 : Shared) (H1 : Hp) (E : XK) (f c' : Addr), Ok G (LamX.lamCx X A outer s1 H1 E scope f c') kb (wE E) → SE G (LamX.lamCx X A outer s1 H1 E scope f c') (wE E) body mb)
    (LF : LamFree X.env.scope scope := by exact lamFree_by (by decide +kernel)) (hq : q = X.env.qual ++ "<lambda>" := by rfl) (hN0 : Nh[0]? = some a := by rfl) (hva : Vis (defScope sth) a := by first | exact Or.inl rfl | exact Or.inr (Or.inl rfl))
    (hg : Gl X x := by rfl) (hdb : (x == ("__debug__" : Str)) = false := by decide) (hd : (a == ("__debug__" : Str)) = false := by decide) (hcd : (a == ("__classdict__" : Str)) = false := by decide) :
    SE G X W (.Call (.Name x p) [.Lambda params body scope lpos] [] pos) (mLam Nh.length bh X.N.length ix mb) := by
  refine ⟨tOf G W (mLam Nh.length bh X.N.length ix mb), ⟨fun pins s σ H Q I h => ?_⟩, fun ρ S σ H F μ Q he hr hp => ⟨F, μ, ρ, S, he, hr, hp⟩⟩
  obtain ⟨F, μ, ρ, S, he, hr, hp⟩ := h
  unfold mLam at hp
  cases hcp : caps ix ρ with
  | none => rw [hcp] at hp; exact hp.elim
  | some ds =>
    rw [hcp] at hp
    simp only at hp
    split at hp
    case isFalse => exact hp.elim
    rename_i hun
    obtain ⟨xs, rx, ax⟩ := caps_ok he hcp
    obtain ⟨c, P, hcode, TB, hm, hu⟩ := TX.ex
    have hfree : ∀ y ∈ scope.names, y.2 = .free → ∃ c, X.env.cells.lookup y.1 = some c := fun y hy e => I.ok.has y.1 ((LF y hy e).elim .inl .inr)
    refine wpAny_Call_Name_kw (ld_glob I hg (by rw [ok.mg]; exact D.mg) ?_ hdb)
    refine PySem.W.callWith_K (h₀ := X.base) I.ok.mod.kin (by rw [ok.K]; exact D.fg.kp) ?_ (by rfl) (by rfl)
    show wpAny _ _ (spliced ((false, eval (.Lambda params body scope lpos) X.env) :: backTo pos (starEach [] X.env))) _ _ s
    refine Calls.spliced_cons (lam_eval I TB hcode hq hm hu hr.tab L hfree (fun f c' dV doc pm ctv H1 s' I1 eN T1 hf hfn hfr hco hdv => ?_) rfl)
    refine Calls.spliced_nil ⟨I1.kIn, ?_⟩
    obtain ⟨F1, x1, r1, hF1⟩ := hr.lam eN T1 hco
    have hpost : Post G W (Rep G) F1 μ σ Q (runLam Nh.length bh ds (fun ds S => mb (place X.N.length ix ds) S) S f c' q xs) := by
      rw [hun f c' q xs]
      exact hp.mono x1
    have e0 : Env0 X.prog X.w G.K G.mg X.base X.A X.stack s' H1 := by
      have e := I1.env0
      rw [ok.K, ok.mg] at e
      exact e
    have lenσ : σ.length = X.N.length := I.len
    have rr : Room (kh + 1) X.A := ok.room.mono hk
    refine wpAny_call (codeAny_mono (run_body (G := G) (F := F1) (μ := μ) (k := kh) (N := Nh) (ps := [a]) (us := [.ref f]) (vs := [.ref f]) (b := bh (mAsk 0 f c' q xs fun ds S => mb (place X.N.length ix ds) S)) (ds := [.lam f c' q ds xs]) (S0 := S) (E := WE W σ) (Q := Q)
      D.fg Sg rr ok.gd e0 (D.bd s' [.ref f] (by have z := I1.kIn; rw [ok.K] at z; exact z) rfl) (.cons rfl .nil) (fun cdv hcdv okh => ?_) r1 (.cons (.lam hF1 (rx.mono x1)) .nil) rfl ?_) fun r' s2 hq' => ?_)
    · refine hh _ cdv X.A X.stack s' H1 (WE W σ) okh fun pn xe W' okW p1 p2 => ?_
      have ask := lam_ask (X := X) (tb := fun E => tOf G (wE E) mb) (k := kb) (i := 0) (Ng := Nh) (qg := x) (sg := defScope sth) (g := g) (cdg := cdv) (E0 := WE W σ) (pn := pn) (xe := xe) (W := W') (p1 := p1) (p2 := p2) I1 L LF hq ⟨⟨dV, doc, pm, ctv, hf, hdv⟩, hfn, hfr⟩
        (by have z := okW.tk; rw [← ok.K, ← ok.mg] at z; exact z) (okh.room.mono hkb)
        (fun A outer s1 H1 E hrm hgd => (hb A outer s1 H1 E f c' ⟨ok.K, ok.mg, rfl, ok.nd, hrm, by
          show A.guards = some []
          rw [hgd]
          exact okh.gd, takes_of rfl rfl rfl rfl, passes_of rfl⟩).pe) hN0 hva hd hcd
      rw [ok.K, ok.mg] at ask
      refine ⟨_, ask, fun ρ' S' σ' H' F' μ' Q' he' hr' hp' => ?_⟩
      unfold mAsk at hp'
      cases hρ : ρ'[0]?.join with
      | none => rw [hρ] at hp'; exact hp'.elim
      | some d =>
        rw [hρ] at hp'
        cases d with
        | lam f2 c2 q2 ds2 xs2 =>
          simp only at hp'
          split at hp'
          case isFalse => exact hp'.elim
          rename_i hcc
          obtain ⟨e1, e2, e3, e4⟩ := hcc
          subst e1 e2 e3 e4
          obtain ⟨v, hv, rv⟩ := he'.get 0 _ (join_some hρ)
          cases rv with
          | lam hc2 hrs =>
            refine ⟨hv, hr'.sub _ _ hc2, F', μ', _, S', place_ok lenσ hrs ax, hr', ?_⟩
            cases hres : mb (place X.N.length ix ds2) S' with
            | ok d S2 => rw [hres] at hp'; exact hp'
            | ex c ks vs S2 => rw [hres] at hp'; exact hp'
            | bad => rw [hres] at hp'; exact hp'.elim
        | _ => exact hp'.elim
    · unfold runLam at hpost
      cases hres : runDef 1 Nh.length (bh (mAsk 0 f c' q xs fun ds S => mb (place X.N.length ix ds) S)) [.lam f c' q ds xs] S with
      | ok d S2 => rw [hres] at hpost; exact hpost
      | ex c ks vs S2 => rw [hres] at hpost; exact hpost
      | bad => rw [hres] at hpost; exact hpost.elim
    · cases r' with
      | error e => exact passAt ok.tk σ pins H1 s' e s2 I1 hq'
      | ok fl => cases fl with
        | ret u => exact I1.after hq'
        | _ => exact hq'.elim
end
end Z

set_option Elab.async false
set_option linter.all false
set_option maxRecDepth 100000
set_option maxHeartbeats 4000000
set_option autoImplicit false
namespace Z
open PySem PySem.Spec PyProof.Rows L2

/-- a def, its code object told -/
theorem GFn.of_bodyT {G : Gm} {P : Program} {w : World} {base : Heap} {x qual : Str} {st : Stmt} {f : Addr} {fd : FuncData} {N ps : List Str} {k : Nat} {b : MS} (FF : FunG G.K x qual st f fd) (S : FnScope N ps (defScope st))
    (hbody : ∀ (cdv : Value) (A : Around) (outer : List Env) (s : Shared) (H : Hp) (E : XK), cdv = fd.code → Ok G (cxOf (L2.CX P w) P w G.K G.mg base N qual (defScope st) f cdv A outer s H E) k (wE E) →
      SSs G (cxOf (L2.CX P w) P w G.K G.mg base N qual (defScope st) f cdv A outer s H E) (wE E) (defBody st) b) : GFn G P w base (k + 1) f fd ps (runDef ps.length N.length b) := by
  refine ⟨fun A outer s H args us vs Q E hr hgd e0 hb r hsp => ?_⟩
  obtain ⟨hl, F, μ, S0, ds, hrel, hreps, hpost⟩ := hsp
  exact run_body FF S hr hgd e0 hb r (fun cdv hc ok => hbody cdv A outer s H E hc.symm ok) hrel hreps (by rw [hreps.length, hl]) hpost

/-! ## defs as values -/
structure FnT (G : Gm) (P : Program) (w : World) (base : Heap) (k : Nat) (l : List MF) : Prop where
  ok : ∀ j mf, l[j]? = some mf → ∃ fd ps, GFn G P w base k (G.fn j) fd ps mf ∧ PySem.W.keepIn G.K (.ref (G.fn j)) = true ∧ BdP G.K fd ps ∧ ∀ ds S, mf ds S ≠ .bad → ds.length = ps.length
theorem fnT_nil {G : Gm} {P : Program} {w : World} {base : Heap} {k : Nat} : FnT G P w base k [] := ⟨fun j mf h => by simp at h⟩
theorem fnT_snoc {G : Gm} {P : Program} {w : World} {base : Heap} {j k : Nat} {l : List MF} {mf : MF} {f : Addr} {fd : FuncData} {ps : List Str} {x : Str} {st : Stmt} (T : FnT G P w base k l) (D : Df G x st ps f fd) (g : GFn G P w base j f fd ps mf) (hj : j ≤ k) (hl : ∀ ds S, mf ds S ≠ .bad → ds.length = ps.length) (hf : G.fn l.length = f) : FnT G P w base k (l ++ [mf]) := by
  refine ⟨fun i m h => ?_⟩
  rw [List.getElem?_append] at h
  split at h
  · exact T.ok i m h
  · rename_i hi
    have hi' : i = l.length := by
      obtain ⟨q, _⟩ := List.getElem?_eq_some_iff.mp h
      simp at q
      omega
    subst hi'
    simp at h
    subst h
    exact ⟨fd, ps, by rw [hf]; exact g.mono hj, by rw [hf]; exact D.fg.kp, D.bd, hl⟩
theorem FnT.mono {G : Gm} {P : Program} {w : World} {base : Heap} {j k : Nat} {l : List MF} (h : FnT G P w base j l) (hj : j ≤ k) : FnT G P w base k l := ⟨fun i mf e => by
  obtain ⟨fd, ps, a, b, c, d⟩ := h.ok i mf e
  exact ⟨fd, ps, a.mono hj, b, c, d⟩⟩
def mCallV (i : Nat) (tab : List MF) (l : ML) : ME := fun ρ S =>
  match ρ[i]?.join with
  | some (.fn j) => (match tab[j]? with
    | some mf => (l ρ S).bind mf
    | none => .bad)
  | _ => .bad
section
variable {G : Gm} {X : Cx} {W : WX} {k j : Nat}
theorem cx_fn {x : Str} {j : Nat} {f : Addr} {st : Stmt} {ps : List Str} {fd : FuncData} {pos : Pos} (ok : Ok G X k W) (D : Df G x st ps f fd) (hf : G.fn j = f) (hg : Gl X x := by rfl) (hdb : (x == ("__debug__" : Str)) = false := by decide) : SE G X W (.Name x pos) (mC (.fn j)) :=
  se_c (v := .ref f) ⟨fun pins s σ H Q I h => ld_glob I hg (by rw [ok.mg]; exact D.mg) (show EP X pins σ Q (.ref f) s from ⟨.ref f, H, I, rfl, h⟩) hdb⟩ fun F μ => by rw [← hf]; exact .fn j
theorem se_callV {tab : List MF} {i : Nat} {x : Str} {p pos : Pos} {e : Expr} {es : List Expr} {m : ML} (ok : Ok G X k W) (T : FnT G X.prog X.w X.base j tab) (ha : SA G X W (e :: es) m) (hj : j ≤ k := by first | decide | omega)
    (hN : X.N[i]? = some x := by rfl) (hv : Vis X.env.scope x := by first | exact Or.inl rfl | exact Or.inr (Or.inl rfl) | exact Or.inr (Or.inr rfl)) (hd : (x == ("__debug__" : Str)) = false := by decide)
    (hcd : (x == ("__classdict__" : Str)) = false := by decide) (he : starEach (e :: es) X.env = (false, eval e X.env) :: starEach es X.env := by rfl) (hpl : (backTo pos (starEach es X.env)).any (·.1) = false := by rfl) :
    SE G X W (.Call (.Name x p) (e :: es) [] pos) (mCallV i tab m) := by
  obtain ⟨t, pa, ia⟩ := ha
  refine ⟨tOf G W (mCallV i tab m), ⟨fun pins s σ H Q I h => ?_⟩, fun ρ S σ H F μ Q he hr hp => ⟨F, μ, ρ, S, he, hr, hp⟩⟩
  obtain ⟨F, μ, ρ, S, hen, hr, hp⟩ := h
  unfold mCallV at hp
  cases hρ : ρ[i]?.join with
  | none => rw [hρ] at hp; exact hp.elim
  | some d =>
    rw [hρ] at hp
    cases d with
    | fn jj =>
      simp only at hp
      cases ht : tab[jj]? with
      | none => rw [ht] at hp; exact hp.elim
      | some mf =>
        rw [ht] at hp
        simp only at hp
        obtain ⟨fd, ps, g, hk, hb, hl⟩ := T.ok jj mf ht
        obtain ⟨v, hs, rv⟩ := hen.get i _ (join_some hρ)
        have rv' : v = .ref (G.fn jj) := by cases rv; rfl
        subst rv'
        have im := imp_call (n := ps.length) hl ia ρ S σ H F μ Q hen hr hp
        refine wpAny_Call_Name_kw (thn ((pe_var (pos := p) (i := i) hN hv hd hcd).run pins s σ H (fun v H1 => v = .ref (G.fn jj) ∧ H1 = H) I ⟨_, hs, rfl, rfl⟩) fun u s1 hv1 => ?_)
        obtain ⟨v, H1, I1, r1, e1, e2⟩ := hv1
        subst e1
        subst e2
        obtain rfl : u = Value.ref (G.fn jj) := r1
        refine PySem.W.callWith_K (h₀ := X.base) I1.ok.mod.kin (by rw [ok.K]; exact hk) (thn (pa.run pos pins s1 σ H1 _ I1 im) fun us s2 hv => ?_) he hpl
        obtain ⟨vs, H2, I2, r, q⟩ := hv
        refine ⟨I2.kIn, wpAny_call (codeAny_mono (run_G ok g hj I2 (hb s2 us (by have z := I2.kIn; rw [ok.K] at z; exact z) (by rw [← r.length]; exact q.1)) r q) fun r' s' hq => ?_)⟩
        cases r' with
        | error e => exact hq
        | ok fl => cases fl with
          | ret u => exact hq
          | _ => exact hq.elim
    | _ => exact hp.elim
end
end Z

set_option Elab.async false
set_option linter.all false
set_option maxRecDepth 100000
set_option maxHeartbeats 4000000
set_option autoImplicit false
namespace Z
open PySem PySem.Spec L2

/-! ## constants of the module -/
section
variable {G : Gm} {X : Cx} {W : WX} {k : Nat}
theorem cx_gstr {x z : Str} {pos : Pos} (ok : Ok G X k W) (h : ∃ t, G.mg x = some (.str z t)) (hg : Gl X x := by rfl) (hdb : (x == ("__debug__" : Str)) = false := by decide) : SE G X W (.Name x pos) (mC (.str z)) := by
  obtain ⟨t, ht⟩ := h
  exact se_c (v := .str z) ⟨fun pins s σ H Q I h => ld_glob I hg (by rw [ok.mg]; exact ht) (show EP X pins σ Q (.str z t) s from ⟨.str z, H, I, ⟨t, rfl⟩, h⟩) hdb⟩ fun F μ => .str z
theorem cx_gint {x : Str} {i : Int} {pos : Pos} (ok : Ok G X k W) (h : ∃ t, G.mg x = some (.int i t)) (hg : Gl X x := by rfl) (hdb : (x == ("__debug__" : Str)) = false := by decide) : SE G X W (.Name x pos) (mC (.int i)) := by
  obtain ⟨t, ht⟩ := h
  exact se_c (v := .int i) ⟨fun pins s σ H Q I h => ld_glob I hg (by rw [ok.mg]; exact ht) (show EP X pins σ Q (.int i t) s from ⟨.int i, H, I, ⟨t, rfl⟩, h⟩) hdb⟩ fun F μ => .int i

/-! ## walks over texts -/
def signs (x : Str) : List D := x.cps.toList.map fun c => .str ⟨#[c]⟩
theorem yields_str {F : Hp} {μ : List Addr} {x : Str} : Yields G F μ (signs x) (Its x) where
  go := fun i F1 μ1 S H _ _ hi => by
    simp [signs] at hi
    exact hi
  stop := fun i F1 μ1 S H _ _ hi => by
    simp [signs] at hi
    exact hi
  yld := fun i F1 μ1 S H v H' d _ r hd hy => by
    obtain ⟨rfl, c, hc, rfl⟩ := hy
    unfold signs at hd
    rw [List.getElem?_map] at hd
    have hc' : x.cps.toList[i]? = some c := by simpa using hc
    rw [hc'] at hd
    cases hd
    exact ⟨F1, μ1, Ext.refl _ _, r, .str _⟩
def mIterS (m : ME) : ML := fun ρ S => (m ρ S).bind fun d S1 => match d with | .str x => .ok (signs x) S1 | _ => .bad
theorem si_str {tg e : Expr} {m : ME} (h : SE G X W e m) : SI G X W tg e (mIterS m) := by
  obtain ⟨t, p, i⟩ := h
  refine ⟨_, pi_str p, fun ρ S σ H F μ R he hr hp => ?_⟩
  refine i ρ S σ H F μ _ he hr (Post.bind hp fun d S1 F1 μ1 v H1 x1 r1 p1 q1 => ?_)
  split at q1
  · rename_i x
    cases p1
    exact ⟨x, rfl, q1 F1 μ1 _ H1 (Ext.refl _ _) r1 yields_str⟩
  · exact q1.elim

/-! ## f-strings -/
def fmtD (d : D) (S : Store) : Res D :=
  match d with
  | .str y => if y.length ≤ sizeLine then .ok (.str y) S else .bad
  | .int i => if i.natAbs.log2 < 1920 then .ok (.str (toString i)) S else .bad
  | _ => .bad
theorem cx_fmt {e : Expr} {pos : Pos} {m : ME} (h : SE G X W e m) : SE G X W (.FormattedValue e (-1) none pos) (mUn fmtD m) := by
  obtain ⟨t, p, i⟩ := h
  refine ⟨_, pe_fmt p, fun ρ S σ H F μ Q he hr hp => ?_⟩
  refine i ρ S σ H F μ _ he hr (Post.bind hp fun d S1 F1 μ1 v H1 x1 r1 p1 q1 => ?_)
  unfold fmtD at q1
  split at q1
  · obtain ⟨hz, q⟩ := post_if q1
    cases p1
    exact .inl ⟨_, rfl, hz, post_ok r1 (.str _) q⟩
  · obtain ⟨hz, q⟩ := post_if q1
    cases p1
    exact .inr ⟨_, rfl, hz, post_ok r1 (.str _) q⟩
  · exact q1.elim
/-- the parts, one behind the other -/
def mJs : List ME → Str → Env' → Store → Res D
  | [], acc, _, S => .ok (.str acc) S
  | m :: ms, acc, ρ, S => (m ρ S).bind fun d S1 => match d with
    | .str y => if (acc ++ y).length ≤ sizeLine then mJs ms (acc ++ y) ρ S1 else .bad
    | _ => .bad
structure SJ (G : Gm) (X : Cx) (W : WX) (es : List Expr) (ms : List ME) : Prop where
  ex : ∃ ts, PJ X es ts ∧ ∀ acc ρ S σ H F μ (Q : Str → Hp → Prop), EnvR G F μ ρ σ → Rel G F μ S H → Post G W (Rep G) F μ σ (fun v H' => ∃ z, v = .str z ∧ Q z H') (mJs ms acc ρ S) → tJs ts acc σ H Q
theorem sj_nil : SJ G X W [] [] := ⟨_, .nil, fun acc ρ S σ H F μ Q he hr hp => by
  obtain ⟨z, e, q⟩ := hp F μ _ H (Ext.refl _ _) hr (.str acc)
  cases e
  exact q⟩
theorem sj_cons {e : Expr} {es : List Expr} {m : ME} {ms : List ME} (h : SE G X W e m) (h2 : SJ G X W es ms) : SJ G X W (e :: es) (m :: ms) := by
  obtain ⟨t, p, i⟩ := h
  obtain ⟨ts, ps, is⟩ := h2
  refine ⟨t :: ts, .cons p ps, fun acc ρ S σ H F μ Q he hr hp => ?_⟩
  refine i ρ S σ H F μ _ he hr (Post.bind (show Post G W (Rep G) F μ σ _ ((m ρ S).bind _) from hp) fun d S1 F1 μ1 v H1 x1 r1 p1 q1 => ?_)
  split at q1
  · rename_i y
    obtain ⟨hz, q⟩ := post_if q1
    cases p1
    exact ⟨y, rfl, hz, is _ ρ S1 σ H1 F1 μ1 Q (he.mono x1) r1 q⟩
  · exact q1.elim
def mJoined (ms : List ME) : ME := fun ρ S => mJs ms Str.empty ρ S
theorem se_joined {v1 v2 : Expr} {rest : List Expr} {pos : Pos} {ms : List ME} (h : SJ G X W (v1 :: v2 :: rest) ms) : SE G X W (.JoinedStr (v1 :: v2 :: rest) pos) (mJoined ms) := by
  obtain ⟨ts, p, i⟩ := h
  refine ⟨_, pe_joined p, fun ρ S σ H F μ Q he hr hp => ?_⟩
  refine i Str.empty ρ S σ H F μ (fun out H1 => Q (.str out) H1) he hr ?_
  unfold mJoined at hp
  have aux : ∀ (ms : List ME) (acc : Str) (ρ : Env') (S : Store) (d : D) (S' : Store), mJs ms acc ρ S = .ok d S' → ∃ z, d = .str z := by
    intro ms
    induction ms with
    | nil => intro acc ρ S d S' e; cases e; exact ⟨_, rfl⟩
    | cons m ms ih =>
      intro acc ρ S d S' e
      simp only [mJs] at e
      cases hm : m ρ S with
      | bad => rw [hm] at e; cases e
      | ex c ks vs S2 => rw [hm] at e; cases e
      | ok d2 S2 =>
        rw [hm] at e
        simp only [bind_ok] at e
        split at e
        · split at e
          · exact ih _ _ _ _ _ e
          · cases e
        · cases e
  cases hr2 : mJs ms Str.empty ρ S with
  | bad => rw [hr2] at hp; exact hp.elim
  | ex c ks vs S' => rw [hr2] at hp; exact hp
  | ok d S' =>
    obtain ⟨z, rfl⟩ := aux _ _ _ _ _ _ hr2
    rw [hr2] at hp
    intro F' μ' v H' x r rv
    cases rv
    exact ⟨z, rfl, hp F' μ' _ H' x r (.str z)⟩
theorem se_joined1 {e : Expr} {pos : Pos} {m : ME} (h : SE G X W e m) : SE G X W (.JoinedStr [e] pos) m := by
  obtain ⟨t, p, i⟩ := h
  exact ⟨t, pe_joined1 p, i⟩

/-! ## str(x), int(text), min, max -/
def strD (x : D) (S : Store) : Res D :=
  match x with
  | .int i => if i.natAbs.log2 < 1920 then .ok (.str (toString i)) S else .bad
  | .str a => .ok (.str a) S
  | _ => .bad
def rStrD : List V → Hp → VK → Prop := fun xs H Q => (∃ i, xs = [.int i] ∧ i.natAbs.log2 < 1920 ∧ Q (.str (toString i)) H) ∨ ∃ a, xs = [.str a] ∧ Q (.str a) H
theorem ci_str : CallI G (f1 strD) rStrD := ci_1 fun W F μ σ S H d v Q hr rd hp => by
  unfold strD at hp
  split at hp
  · obtain ⟨hz, hp⟩ := post_if hp
    cases rd
    exact .inl ⟨_, rfl, hz, post_ok hr (.str _) hp⟩
  · cases rd
    exact .inr ⟨_, rfl, post_ok hr (.str _) hp⟩
  · exact hp.elim
theorem cr_str : CallR X (.type "str") rStrD := call_str_int.or SkE.call_str_str
theorem cx_str {p pos : Pos} {e : Expr} {es : List Expr} {m : ML} (ok : Ok G X k W) (hm : G.mg "str" = none) (ha : SA G X W (e :: es) m) (hg : Gl X "str" := by rfl) (he : starEach (e :: es) X.env = (false, eval e X.env) :: starEach es X.env := by rfl) (hpl : (backTo pos (starEach es X.env)).any (·.1) = false := by rfl) : SE G X W (.Call (.Name "str" p) (e :: es) [] pos) (mCall (f1 strD) m) :=
  se_callTy ci_str cr_str ok.mg hm (by decide +kernel) ha hg (by decide) (by decide) he hpl
def intSD (x : D) (S : Store) : Res D :=
  match x with
  | .str a => (match PySem.intText? a with
    | some n => if a.length ≤ 640 then .ok (.int n) S else .bad
    | none => .bad)
  | x => intD x S
theorem ci_intS : CallI G (f1 intSD) (fun xs H Q => ((∃ i, xs = [.int i] ∧ Q (.int i) H) ∨ ∃ k, xs = [.bl k] ∧ Q (.int (if k then 1 else 0)) H) ∨ ∃ a n, xs = [.str a] ∧ PySem.intText? a = some n ∧ a.length ≤ 640 ∧ Q (.int n) H) := ci_1 fun W F μ σ S H d v Q hr rd hp => by
  unfold intSD at hp
  split at hp
  · split at hp
    · rename_i n hn
      obtain ⟨hz, hp⟩ := post_if hp
      cases rd
      exact .inr ⟨_, n, rfl, hn, hz, post_ok hr (.int _) hp⟩
    · exact hp.elim
  · unfold intD at hp
    split at hp
    · cases rd
      exact .inl (.inl ⟨_, rfl, post_ok hr (.int _) hp⟩)
    · cases rd
      exact .inl (.inr ⟨_, rfl, post_ok hr (.int _) hp⟩)
    · exact hp.elim
theorem cx_intS {p pos : Pos} {e : Expr} {es : List Expr} {m : ML} (ok : Ok G X k W) (hm : G.mg "int" = none) (ha : SA G X W (e :: es) m) (hg : Gl X "int" := by rfl) (he : starEach (e :: es) X.env = (false, eval e X.env) :: starEach es X.env := by rfl) (hpl : (backTo pos (starEach es X.env)).any (·.1) = false := by rfl) : SE G X W (.Call (.Name "int" p) (e :: es) [] pos) (mCall (f1 intSD) m) :=
  se_callTy ci_intS (call_int1.or call_int_str) ok.mg hm (by decide +kernel) ha hg (by decide) (by decide) he hpl
def minD : MF := fun ds S => match ds with | [.int i, .int j] => .ok (.int (if j < i then j else i)) S | _ => .bad
def maxD : MF := fun ds S => match ds with | [.int i, .int j] => .ok (.int (if j > i then j else i)) S | _ => .bad
theorem ci_min : CallI G minD (fun xs H Q => ∃ i j, xs = [.int i, .int j] ∧ Q (.int (if j < i then j else i)) H) := by
  intro W F μ σ S H ds us Q hr hs hp
  unfold minD at hp
  split at hp
  · cases hs with
    | cons a b => cases b with | cons c d => cases d; cases a; cases c; exact ⟨_, _, rfl, post_ok hr (.int _) hp⟩
  · exact hp.elim
theorem ci_max : CallI G maxD (fun xs H Q => ∃ i j, xs = [.int i, .int j] ∧ Q (.int (if j > i then j else i)) H) := by
  intro W F μ σ S H ds us Q hr hs hp
  unfold maxD at hp
  split at hp
  · cases hs with
    | cons a b => cases b with | cons c d => cases d; cases a; cases c; exact ⟨_, _, rfl, post_ok hr (.int _) hp⟩
  · exact hp.elim
theorem cx_min {p pos : Pos} {e : Expr} {es : List Expr} {m : ML} (ok : Ok G X k W) (hm : G.mg "min" = none) (ha : SA G X W (e :: es) m) (hg : Gl X "min" := by rfl) (he : starEach (e :: es) X.env = (false, eval e X.env) :: starEach es X.env := by rfl) (hpl : (backTo pos (starEach es X.env)).any (·.1) = false := by rfl) : SE G X W (.Call (.Name "min" p) (e :: es) [] pos) (mCall minD m) :=
  se_callB ci_min (call_min2 ok.calm) ok.mg hm (by decide +kernel) ha hg (by decide) (by decide) he hpl
theorem cx_max {p pos : Pos} {e : Expr} {es : List Expr} {m : ML} (ok : Ok G X k W) (hm : G.mg "max" = none) (ha : SA G X W (e :: es) m) (hg : Gl X "max" := by rfl) (he : starEach (e :: es) X.env = (false, eval e X.env) :: starEach es X.env := by rfl) (hpl : (backTo pos (starEach es X.env)).any (·.1) = false := by rfl) : SE G X W (.Call (.Name "max" p) (e :: es) [] pos) (mCall maxD m) :=
  se_callB ci_max (call_max2 ok.calm) ok.mg hm (by decide +kernel) ha hg (by decide) (by decide) he hpl

/-! ## methods of built-in kinds -/
def tyD (T : String) (S : Store) : D → Bool
  | .str _ => T == "str"
  | .lst _ => T == "list"
  | .kst _ => T == "list"
  | .dct _ _ => T == "dict"
  | .loc n =>
    match S[n]? with
    | some (.lst _) => T == "list"
    | some (.dct _ _) => T == "dict"
    | _ => false
  | _ => false
theorem tyD_ok {F : Hp} {μ : List Addr} {S : Store} {H : Hp} {d : D} {v : V} {T : String} (r : Rel G F μ S H) (p : Rep G F μ d v) (h : tyD T S d = true) : tyV G.K T v H := by
  cases p with
  | str x => exact beq_iff_eq.mp h
  | lst hs hr => exact .inl ⟨beq_iff_eq.mp h, _, SqL.of (r.sub _ _ hs)⟩
  | kst hs hr => exact .inl ⟨beq_iff_eq.mp h, _, same_sqL r.sub hs⟩
  | dct hs hl hr => exact .inr (.inr (.inl ⟨beq_iff_eq.mp h, .inl ⟨_, r.sub _ _ hs⟩⟩))
  | @loc n a hm =>
    simp only [tyD] at h
    split at h
    · rename_i l hs
      obtain ⟨xs, _, ho, _⟩ := r.lstAt hm hs
      exact .inl ⟨beq_iff_eq.mp h, _, SqL.of ho⟩
    · rename_i ks vs hs
      obtain ⟨xs, _, ho, _⟩ := r.dctAt hm hs
      exact .inr (.inr (.inl ⟨beq_iff_eq.mp h, .inl ⟨_, ho⟩⟩))
    · cases h
  | _ => cases h
/-- what a method does -/
def MtI (G : Gm) (f : D → List D → Store → Res D) (r : V → List V → Hp → VK → Prop) : Prop :=
  ∀ (W : WX) (F : Hp) (μ : List Addr) (σ : L2.St) (S : Store) (H : Hp) (x : D) (v : V) (ds : List D) (us : List V) (Q : VK), Rel G F μ S H → Rep G F μ x v → Reps G F μ ds us → Post G W (Rep G) F μ σ Q (f x ds S) → r v us H Q
def mMeth (T : String) (f : D → List D → Store → Res D) (o : ME) (l : ML) : ME := fun ρ S => (o ρ S).bind fun x S1 => if tyD T S1 x = true then (l ρ S1).bind fun ds S2 => f x ds S2 else .bad
theorem se_bm {T id : String} {name : Str} {o e : Expr} {es : List Expr} {apos cpos : Pos} {f : D → List D → Store → Res D} {r : V → List V → Hp → VK → Prop} {mo : ME} {ml : ML} (ok : Ok G X k W) (pa : PlainAttrs T) (slot : Slot T name id) (hty : typeOf (.builtin id) = pure (.type "method_descriptor")) (hm : MtR X id r) (hf : MtI G f r)
    (ho : SE G X W o mo) (ha : SA G X W (e :: es) ml)
    (hbase : attributeBase o name X.env (eval o X.env) = eval o X.env := by rfl)
    (hfew : ((backTo cpos (starEach (e :: es) X.env)).all (fun x => !x.1) && (backToKw cpos (keywordEach [] X.env)).all (fun x => x.1.isSome)
      && decide ((e :: es).length + ([] : List Keyword).length + (if ([] : List Keyword).isEmpty then 0 else 1) < 30)) = true := by rfl)
    (hline : (apos.endLine == cpos.line) = true := by rfl) (hs : starEach (e :: es) X.env = (false, eval e X.env) :: starEach es X.env := by rfl) (hplain : (backTo cpos (starEach es X.env)).any (·.1) = false := by rfl) :
    SE G X W (.Call (.Attribute o name apos) (e :: es) [] cpos) (mMeth T f mo ml) := by
  obtain ⟨to, po, io⟩ := ho
  obtain ⟨t, p, i⟩ := ha
  refine ⟨_, pe_bm pa slot hty hm po p hbase hfew hline hs hplain, fun ρ S σ H F μ Q he hr hp => ?_⟩
  refine io ρ S σ H F μ _ he hr (Post.bind hp fun x S1 F1 μ1 v H1 x1 r1 p1 q1 => ?_)
  obtain ⟨hty, q⟩ := post_if q1
  refine ⟨by rw [ok.K]; exact tyD_ok r1 p1 hty, i ρ S1 σ H1 F1 μ1 _ (he.mono x1) r1 (Post.bind q fun ds S2 F2 μ2 us H2 x2 r2 p2 q2 => ?_)⟩
  exact hf W F2 μ2 σ S2 H2 x v ds us Q r2 (p1.mono x2) p2 q2
theorem se_bm0 {T id : String} {name : Str} {o : Expr} {apos cpos : Pos} {f : D → List D → Store → Res D} {r : V → List V → Hp → VK → Prop} {mo : ME} (ok : Ok G X k W) (pa : PlainAttrs T) (slot : Slot T name id) (hty : typeOf (.builtin id) = pure (.type "method_descriptor")) (hm : MtR X id r) (hf : MtI G f r)
    (ho : SE G X W o mo) (hbase : attributeBase o name X.env (eval o X.env) = eval o X.env := by rfl) (hline : (apos.endLine == cpos.line) = true := by rfl) :
    SE G X W (.Call (.Attribute o name apos) [] [] cpos) (mMeth T f mo mNilL) := by
  obtain ⟨to, po, io⟩ := ho
  refine ⟨_, pe_bm0 pa slot hty hm po hbase hline, fun ρ S σ H F μ Q he hr hp => ?_⟩
  refine io ρ S σ H F μ _ he hr (Post.bind hp fun x S1 F1 μ1 v H1 x1 r1 p1 q1 => ?_)
  obtain ⟨hty, q⟩ := post_if q1
  exact ⟨by rw [ok.K]; exact tyD_ok r1 p1 hty, hf W F1 μ1 σ S1 H1 x v [] [] Q r1 p1 .nil q⟩
/-! ### of texts -/
theorem reps_strs {F : Hp} {μ : List Addr} : ∀ ys : List Str, Reps G F μ (ys.map D.str) (ys.map V.str)
  | [] => .nil
  | y :: ys => .cons (.str y) (reps_strs ys)
def splitD (x : D) (ds : List D) (S : Store) : Res D :=
  match x, ds with
  | .str a, [.str b] => if (b.length == 0) = false ∧ a.length + 2 ≤ sizeLine then .ok (.lst ((Txt.split a b).map D.str)) S else .bad
  | _, _ => .bad
theorem mi_split : MtI G splitD (fun x xs H Q => ∃ a b, x = .str a ∧ xs = [.str b] ∧ (b.length == 0) = false ∧ a.length + 2 ≤ sizeLine ∧ rNewStrs (Txt.split a b) H Q) := by
  intro W F μ σ S H x v ds us Q hr rx rs hp
  unfold splitD at hp
  split at hp
  · obtain ⟨hc, hp⟩ := post_if hp
    cases rx
    cases rs with
    | cons a b =>
      cases b
      cases a
      refine ⟨_, _, rfl, rfl, hc.1, hc.2, fun p hpn => ?_⟩
      obtain ⟨xx, rr⟩ := hr.newF (.lst _) hpn
      exact hp _ _ _ _ xx rr (.lst upd_same (reps_strs _))
  · exact hp.elim
theorem cx_split {o e : Expr} {apos cpos : Pos} {mo : ME} {ml : ML} (ok : Ok G X k W) (ho : SE G X W o mo) (ha : SA G X W [e] ml) (hbase : attributeBase o "split" X.env (eval o X.env) = eval o X.env := by rfl)
    (hfew : ((backTo cpos (starEach [e] X.env)).all (fun x => !x.1) && (backToKw cpos (keywordEach [] X.env)).all (fun x => x.1.isSome) && decide (([e] : List Expr).length + ([] : List Keyword).length + (if ([] : List Keyword).isEmpty then 0 else 1) < 30)) = true := by rfl)
    (hline : (apos.endLine == cpos.line) = true := by rfl) (hs : starEach [e] X.env = (false, eval e X.env) :: starEach [] X.env := by rfl) (hplain : (backTo cpos (starEach [] X.env)).any (·.1) = false := by rfl) :
    SE G X W (.Call (.Attribute o "split" apos) [e] [] cpos) (mMeth "str" splitD mo ml) := se_bm ok PySem.F.plainAttrs_str PySem.F.slot_str_split PySem.F.type_str_split mt_split mi_split ho ha hbase hfew hline hs hplain
def partitionD (x : D) (ds : List D) (S : Store) : Res D :=
  match x, ds with
  | .str a, [.str b] => if (b.length == 0) = false ∧ a.length ≤ sizeLine then .ok (.tup [.str (Txt.partition a b).1, .str (Txt.partition a b).2.1, .str (Txt.partition a b).2.2]) S else .bad
  | _, _ => .bad
theorem mi_partition : MtI G partitionD (fun x xs H Q => ∃ a b, x = .str a ∧ xs = [.str b] ∧ (b.length == 0) = false ∧ a.length ≤ sizeLine ∧
    ∀ p, H p = none → Q (.ref p) (upd H p (.tup [.str (Txt.partition a b).1, .str (Txt.partition a b).2.1, .str (Txt.partition a b).2.2]))) := by
  intro W F μ σ S H x v ds us Q hr rx rs hp
  unfold partitionD at hp
  split at hp
  · obtain ⟨hc, hp⟩ := post_if hp
    cases rx
    cases rs with
    | cons a b =>
      cases b
      cases a
      refine ⟨_, _, rfl, rfl, hc.1, hc.2, fun p hpn => ?_⟩
      obtain ⟨xx, rr⟩ := hr.newF (.tup _) hpn
      exact hp _ _ _ _ xx rr (.tup (TupF.of upd_same) (.cons (.str _) (.cons (.str _) (.cons (.str _) .nil))))
  · exact hp.elim
theorem cx_partition {o e : Expr} {apos cpos : Pos} {mo : ME} {ml : ML} (ok : Ok G X k W) (ho : SE G X W o mo) (ha : SA G X W [e] ml) (hbase : attributeBase o "partition" X.env (eval o X.env) = eval o X.env := by rfl)
    (hfew : ((backTo cpos (starEach [e] X.env)).all (fun x => !x.1) && (backToKw cpos (keywordEach [] X.env)).all (fun x => x.1.isSome) && decide (([e] : List Expr).length + ([] : List Keyword).length + (if ([] : List Keyword).isEmpty then 0 else 1) < 30)) = true := by rfl)
    (hline : (apos.endLine == cpos.line) = true := by rfl) (hs : starEach [e] X.env = (false, eval e X.env) :: starEach [] X.env := by rfl) (hplain : (backTo cpos (starEach [] X.env)).any (·.1) = false := by rfl) :
    SE G X W (.Call (.Attribute o "partition" apos) [e] [] cpos) (mMeth "str" partitionD mo ml) := se_bm ok PySem.F.plainAttrs_str PySem.F.slot_str_partition PySem.F.type_str_partition mt_partition mi_partition ho ha hbase hfew hline hs hplain
def strsD : List D → Option (List Str)
  | [] => some []
  | .str x :: r => (strsD r).map (x :: ·)
  | _ => none
theorem strsD_ok {F : Hp} {μ : List Addr} : ∀ {l : List D} {xs : List V} {ys : List Str}, Reps G F μ l xs → strsD l = some ys → xs = ys.map V.str
  | [], _, _, r, h => by cases r; cases h; rfl
  | .str x :: l, _, ys, r, h => by
    simp only [strsD] at h
    cases e : strsD l with
    | none => rw [e] at h; cases h
    | some zs =>
      rw [e] at h
      cases h
      cases r with
      | cons a b => cases a; rw [strsD_ok b e]; rfl
  | .non :: _, _, _, _, h => by cases h
  | .bl _ :: _, _, _, _, h => by cases h
  | .int _ :: _, _, _, _, h => by cases h
  | .ty _ :: _, _, _, _, h => by cases h
  | .cls _ :: _, _, _, _, h => by cases h
  | .tup _ :: _, _, _, _, h => by cases h
  | .lst _ :: _, _, _, _, h => by cases h
  | .kst _ :: _, _, _, _, h => by cases h
  | .dct _ _ :: _, _, _, _, h => by cases h
  | .ins _ _ _ :: _, _, _, _, h => by cases h
  | .loc _ :: _, _, _, _, h => by cases h
  | .exn _ _ _ :: _, _, _, _, h => by cases h
  | .fn _ :: _, _, _, _, h => by cases h
  | .lam _ _ _ _ _ :: _, _, _, _, h => by cases h
def joinD (x : D) (ds : List D) (S : Store) : Res D :=
  match x, ds with
  | .str a, [o] => (match (itemsD S o).bind strsD with
    | some ys => if (ys.map (·.length)).sum + ys.length * a.length ≤ 16777216 then .ok (.str (Txt.join a ys)) S else .bad
    | none => .bad)
  | _, _ => .bad
theorem mi_join (hK : X.K = G.K) : MtI G joinD (fun x xs H Q => ∃ a p, ∃ ys : List Str, x = .str a ∧ xs = [.ref p] ∧ (SqL X.K H p (ys.map V.str) ∨ SqT X.K H p (ys.map V.str)) ∧
    (ys.map (·.length)).sum + ys.length * a.length ≤ 16777216 ∧ Q (.str (Txt.join a ys)) H) := by
  intro W F μ σ S H x v ds us Q hr rx rs hp
  unfold joinD at hp
  split at hp
  · rename_i o
    split at hp
    · rename_i ys hys
      obtain ⟨hc, hp⟩ := post_if hp
      cases hi : itemsD S o with
      | none => rw [hi] at hys; cases hys
      | some l =>
        rw [hi] at hys
        cases rx
        cases rs with
        | cons a b =>
          cases b
          obtain ⟨p, xs, rfl, rr, hs⟩ := items_ok hr a hi
          have e := strsD_ok rr hys
          subst e
          refine ⟨_, p, ys, rfl, rfl, ?_, hc, post_ok hr (.str _) hp⟩
          rw [hK]
          exact hs.elim .inr .inl
    · exact hp.elim
  · exact hp.elim
theorem cx_join {o e : Expr} {apos cpos : Pos} {mo : ME} {ml : ML} (ok : Ok G X k W) (ho : SE G X W o mo) (ha : SA G X W [e] ml) (hbase : attributeBase o "join" X.env (eval o X.env) = eval o X.env := by rfl)
    (hfew : ((backTo cpos (starEach [e] X.env)).all (fun x => !x.1) && (backToKw cpos (keywordEach [] X.env)).all (fun x => x.1.isSome) && decide (([e] : List Expr).length + ([] : List Keyword).length + (if ([] : List Keyword).isEmpty then 0 else 1) < 30)) = true := by rfl)
    (hline : (apos.endLine == cpos.line) = true := by rfl) (hs : starEach [e] X.env = (false, eval e X.env) :: starEach [] X.env := by rfl) (hplain : (backTo cpos (starEach [] X.env)).any (·.1) = false := by rfl) :
    SE G X W (.Call (.Attribute o "join" apos) [e] [] cpos) (mMeth "str" joinD mo ml) := se_bm ok PySem.F.plainAttrs_str PySem.F.slot_str_join PySem.F.type_str_join mt_join (mi_join ok.K) ho ha hbase hfew hline hs hplain
end
end Z

set_option Elab.async false
set_option linter.all false
set_option maxRecDepth 100000
set_option maxHeartbeats 4000000
set_option autoImplicit false
namespace Z
open PySem PySem.Spec L2

section
variable {G : Gm} {X : Cx} {W : WX} {k : Nat}
/-! ## in, not in -/
def scV : D → Option V
  | .non => some .non
  | .bl b => some (.bl b)
  | .int i => some (.int i)
  | .str x => some (.str x)
  | _ => none
def scVs : List D → Option (List V)
  | [] => some []
  | d :: ds => match scV d, scVs ds with
    | some v, some vs => some (v :: vs)
    | _, _ => none
theorem scV_ok {F : Hp} {μ : List Addr} {d : D} {v w : V} (r : Rep G F μ d v) (h : scV d = some w) : v = w ∧ flatV w = true := by
  cases r with
  | non => cases h; exact ⟨rfl, rfl⟩
  | bl b => cases h; exact ⟨rfl, rfl⟩
  | int b => cases h; exact ⟨rfl, rfl⟩
  | str b => cases h; exact ⟨rfl, rfl⟩
  | _ => cases h
theorem scVs_ok {F : Hp} {μ : List Addr} : ∀ {ds : List D} {vs ws : List V}, Reps G F μ ds vs → scVs ds = some ws → vs = ws ∧ ws.all flatV = true
  | [], _, _, r, h => by cases r; cases h; exact ⟨rfl, rfl⟩
  | d :: ds, _, _, r, h => by
    cases r with
    | cons a b =>
      simp only [scVs] at h
      cases e1 : scV d with
      | none => rw [e1] at h; cases h
      | some v =>
        cases e2 : scVs ds with
        | none => rw [e1, e2] at h; cases h
        | some vs =>
          rw [e1, e2] at h
          cases h
          obtain ⟨q1, q2⟩ := scV_ok a e1
          obtain ⟨q3, q4⟩ := scVs_ok b e2
          exact ⟨by rw [q1, q3], by simp [q2, q4]⟩
/-- is x in y -/
def inB (S : Store) (x y : D) : Option Bool :=
  match x, y with
  | .str a, .str z => (match a.cps.toList with
    | [c] => some (decide (c ∈ z.cps.toList))
    | _ => some (!(Builtin.Str.occurrences z a 0 z.length 1).isEmpty))
  | x, y =>
    match itemsD S y with
    | some l =>
      (match scV x, scVs l with
      | some v, some vs => some (inV v vs)
      | _, _ =>
        match lstD S y, toPS S x, toPs l with
        | some _, some d, some ds => if SeqAt.shaped d = true ∧ SeqAt.shaped (.list ds) = true then some (ds.any fun z => PyData.eqv z d) else none
        | _, _, _ => none)
    | none => none
def inD (x y : D) (S : Store) : Res D := (resO (inB S x y) S).bind fun b S => .ok (.bl b) S
def notInD (x y : D) (S : Store) : Res D := (resO (inB S x y) S).bind fun b S => .ok (.bl (!b)) S
def rInZ (K : PySem.W.Frag) (f : Bool → Bool) : R2 := fun x y H Q =>
  (∃ (c : Nat) (z : Str), x = .str ⟨#[c]⟩ ∧ y = .str z ∧ Q (.bl (f (decide (c ∈ z.cps.toList)))) H) ∨
  (∃ i j, x = .str i ∧ y = .str j ∧ Q (.bl (f (!(Builtin.Str.occurrences j i 0 j.length 1).isEmpty))) H) ∨
  (∃ p xs, y = .ref p ∧ (SqL K H p xs ∨ SqT K H p xs) ∧ flatV x = true ∧ xs.all flatV = true ∧ Q (.bl (f (inV x xs))) H) ∨
  (∃ d ds, Dp K H x d ∧ Dp K H y (.list ds) ∧ SeqAt.shaped d = true ∧ SeqAt.shaped (.list ds) = true ∧ Q (.bl (f (ds.any fun z => PyData.eqv z d))) H)
theorem str_sing {a : Str} {c : Nat} (h : a.cps.toList = [c]) : a = ⟨#[c]⟩ := by
  cases a with
  | mk cps =>
    have : cps = [c].toArray := by rw [← h]
    rw [this]
theorem inZ_ok (hK : X.K = G.K) {f : Bool → Bool} {W : WX} {F : Hp} {μ : List Addr} {σ : L2.St} {S : Store} {H : Hp} {x y : D} {u v : V} {Q : VK} (hr : Rel G F μ S H) (rx : Rep G F μ x u) (ry : Rep G F μ y v) (hp : Post G W (Rep G) F μ σ Q ((resO (inB S x y) S).bind fun b S => .ok (.bl (f b)) S)) : rInZ X.K f u v H Q := by
  obtain ⟨b, hb, hp⟩ := post_resO hp
  have hq : Q (.bl (f b)) H := post_ok hr (.bl _) hp
  unfold inB at hb
  split at hb
  · rename_i a z
    cases rx
    cases ry
    split at hb
    · rename_i c hc
      cases hb
      have := str_sing hc
      subst this
      exact .inl ⟨c, z, rfl, rfl, hq⟩
    · cases hb
      exact .inr (.inl ⟨_, _, rfl, rfl, hq⟩)
  · split at hb
    · rename_i l hl
      obtain ⟨p, xs, rfl, rs, hs⟩ := items_ok hr ry hl
      have hs' : SqL X.K H p xs ∨ SqT X.K H p xs := by rw [hK]; exact hs.symm
      split at hb
      · rename_i w ws e1 e2
        cases hb
        obtain ⟨q1, q2⟩ := scV_ok rx e1
        obtain ⟨q3, q4⟩ := scVs_ok rs e2
        subst q1 q3
        exact .inr (.inr (.inl ⟨p, _, rfl, hs', q2, q4, hq⟩))
      · split at hb
        · rename_i l' d ds e1 e2 e3
          split at hb
          · rename_i hc
            cases hb
            refine .inr (.inr (.inr ⟨d, ds, by rw [hK]; exact dp_ok hr rx e2, ?_, hc.1, hc.2, hq⟩))
            rw [hK]
            refine dp_ok hr ry ?_
            have e4 : l' = l := by
              cases y <;> simp only [lstD, itemsD] at e1 hl <;> first | (cases e1; cases hl; rfl) | (cases e1; done) | skip
              split at e1
              · rename_i l2 h2
                rw [h2] at hl
                cases e1
                cases hl
                rfl
              · cases e1
            unfold toPS
            rw [e1, e4]
            simp only [e3, Option.map_some]
          · cases hb
        · cases hb
    · cases hb
theorem oi_in (hK : X.K = G.K) : OpI G inD (rInZ X.K id) := fun W F μ σ S H x y u v Q hr rx ry hp => inZ_ok (f := id) hK hr rx ry hp
theorem oi_notIn (hK : X.K = G.K) : OpI G notInD (rInZ X.K (!·)) := fun W F μ σ S H x y u v Q hr rx ry hp => inZ_ok (f := (!·)) hK hr rx ry hp
theorem or_in (hr : Room k X.A) : OpR X (compareOp .In) (rInZ X.K id) := by
  have hu : X.A.units + 65 < cLine := by have := hr.un; omega
  exact op_in_sign.or (op_in_str.or (op_in_seq.or (op_inD hu)))
theorem or_notIn (hr : Room k X.A) : OpR X (compareOp .NotIn) (rInZ X.K (!·)) := by
  have hu : X.A.units + 65 < cLine := by have := hr.un; omega
  exact op_notIn_sign.or (op_notIn_str.or (op_notIn_seq.or (op_notInD hu)))
theorem cx_in {a b : Expr} {pos : Pos} {ma mb : ME} (ok : Ok G X k W) (ha : SE G X W a ma) (hb : SE G X W b mb) (hm : behindInMarks .In b = false := by rfl) : SE G X W (.Compare a [.In] [b] pos) (mBin inD ma mb) := se_cmp (oi_in ok.K) (or_in ok.room) ha hb hm
theorem cx_notIn {a b : Expr} {pos : Pos} {ma mb : ME} (ok : Ok G X k W) (ha : SE G X W a ma) (hb : SE G X W b mb) (hm : behindInMarks .NotIn b = false := by rfl) : SE G X W (.Compare a [.NotIn] [b] pos) (mBin notInD ma mb) := se_cmp (oi_notIn ok.K) (or_notIn ok.room) ha hb hm
theorem ct_in {a b : Expr} {pos : Pos} {ma mb : ME} (ok : Ok G X k W) (ha : SE G X W a ma) (hb : SE G X W b mb) (hm : behindInMarks .In b = false := by rfl) : ST G X W (.Compare a [.In] [b] pos) (mBlT (mBin inD ma mb)) := st_cmp (oi_in ok.K) (or_in ok.room) ha hb hm
theorem ct_notIn {a b : Expr} {pos : Pos} {ma mb : ME} (ok : Ok G X k W) (ha : SE G X W a ma) (hb : SE G X W b mb) (hm : behindInMarks .NotIn b = false := by rfl) : ST G X W (.Compare a [.NotIn] [b] pos) (mBlT (mBin notInD ma mb)) := st_cmp (oi_notIn ok.K) (or_notIn ok.room) ha hb hm

/-! ## a text, so many times -/
def mulZ (x y : D) (S : Store) : Res D :=
  match x, y with
  | .str a, .int n => if 0 ≤ n ∧ n ≤ 1000 ∧ a.length ≤ 1000 then .ok (.str (Txt.mul a n)) S else .bad
  | x, y => mulD x y S
def rMulS : R2 := fun x y H Q => ∃ a n, x = .str a ∧ y = .int n ∧ (0 ≤ n ∧ n ≤ 1000 ∧ a.length ≤ 1000) ∧ Q (.str (Txt.mul a n)) H
theorem op_mulS : OpR X (binaryOp .Mult) rMulS := by
  intro pins s σ H x y v u Q I rx ry h
  obtain ⟨a, n, rfl, rfl, ⟨h0, h1, h2⟩, q⟩ := h
  obtain ⟨t, rfl⟩ := rx
  obtain ⟨t', rfl⟩ := ry
  exact SB.mul (PyProof.Rows.mulOk_of 1000 1000 h2 (by omega) (by omega) (by decide) (by decide)) fun t2 k2 => ⟨.str (Txt.mul a n), H, I.tok _, ⟨_, rfl⟩, q⟩
theorem oi_mulZ : OpI G mulZ (fun x y H Q => rMulS x y H Q ∨ (rI CMulW (fun i j => .int (i * j)) x y H Q ∨ rI CMul (fun i j => .int (i * j)) x y H Q) ∨ rRep x y H Q) := by
  intro W F μ σ S H x y u v Q r rx ry h
  unfold mulZ at h
  split at h
  · obtain ⟨hc, h⟩ := post_if h
    cases rx
    cases ry
    exact .inl ⟨_, _, rfl, rfl, hc, post_ok r (.str _) h⟩
  · exact .inr (oi_mul W F μ σ S H x y u v Q r rx ry h)
theorem or_mulZ : OpR X (binaryOp .Mult) (fun x y H Q => rMulS x y H Q ∨ (rI CMulW (fun i j => .int (i * j)) x y H Q ∨ rI CMul (fun i j => .int (i * j)) x y H Q) ∨ rRep x y H Q) := op_mulS.or or_mul
theorem cx_mulZ {a b : Expr} {pos : Pos} {ma mb : ME} (ok : Ok G X k W) (ha : SE G X W a ma) (hb : SE G X W b mb) : SE G X W (.BinOp a .Mult b pos) (mBin mulZ ma mb) := se_op oi_mulZ or_mulZ ha hb

/-! ## a op b op c -/
def mChain (f f' : D → D → Store → Res D) (a b c : ME) : ME := fun ρ S => (a ρ S).bind fun x S1 => (b ρ S1).bind fun y S2 => (f x y S2).bind fun z S3 => (resO (asBl z) S3).bind fun t S3 =>
  if t = true then (c ρ S3).bind fun w S4 => f' y w S4 else .ok (.bl false) S3
theorem se_chain {a b c : Expr} {op op' : CmpOp} {pos : Pos} {f f' : D → D → Store → Res D} {r r' : R2} {ma mb mc : ME} (hf : OpI G f r) (hf' : OpI G f' r') (ho : OpR X (compareOp op) r) (ho' : OpR X (compareOp op') r') (ha : SE G X W a ma) (hb : SE G X W b mb) (hc : SE G X W c mc)
    (hm : lastMarks [op, op'] [b, c] = false := by with_unfolding_all rfl) : SE G X W (.Compare a [op, op'] [b, c] pos) (mChain f f' ma mb mc) := by
  obtain ⟨ta, pa, ia⟩ := ha
  obtain ⟨tb, pb, ib⟩ := hb
  obtain ⟨tc, pc, ic⟩ := hc
  refine ⟨_, pe_chain ho ho' pa pb pc hm, fun ρ S σ H F μ Q he hr hp => ?_⟩
  refine ia ρ S σ H F μ _ he hr (Post.bind hp fun x S1 F1 μ1 u H1 x1 r1 p1 q1 => ?_)
  refine ib ρ S1 σ H1 F1 μ1 _ (he.mono x1) r1 (Post.bind q1 fun y S2 F2 μ2 v H2 x2 r2 p2 q2 => ?_)
  refine hf W F2 μ2 σ S2 H2 x y u v _ r2 (p1.mono x2) p2 (Post.bind q2 fun z S3 F3 μ3 w H3 x3 r3 p3 q3 => ?_)
  obtain ⟨t, e, q⟩ := post_resO q3
  cases z with
  | bl b =>
    cases e
    cases p3
    refine ⟨t, rfl, ?_⟩
    cases t with
    | true => exact iteT (ic ρ S3 σ H3 F3 μ3 _ (((he.mono x1).mono x2).mono x3) r3 (Post.bind q fun w' S4 F4 μ4 v4 H4 x4 r4 p4 q4 => hf' W F4 μ4 σ S4 H4 y w' v v4 Q r4 ((p2.mono x3).mono x4) p4 q4))
    | false => exact iteF (q F3 μ3 _ H3 (Ext.refl _ _) r3 (.bl false))
  | _ => cases e
theorem cx_le_le {a b c : Expr} {pos : Pos} {ma mb mc : ME} (ok : Ok G X k W) (ha : SE G X W a ma) (hb : SE G X W b mb) (hc : SE G X W c mc) (hm : lastMarks [.LtE, .LtE] [b, c] = false := by with_unfolding_all rfl) : SE G X W (.Compare a [.LtE, .LtE] [b, c] pos) (mChain leD leD ma mb mc) := se_chain oi_le oi_le op_le op_le ha hb hc hm
theorem cx_le_lt {a b c : Expr} {pos : Pos} {ma mb mc : ME} (ok : Ok G X k W) (ha : SE G X W a ma) (hb : SE G X W b mb) (hc : SE G X W c mc) (hm : lastMarks [.LtE, .Lt] [b, c] = false := by with_unfolding_all rfl) : SE G X W (.Compare a [.LtE, .Lt] [b, c] pos) (mChain leD ltD ma mb mc) := se_chain oi_le oi_lt op_le or_lt ha hb hc hm
theorem cx_lt_lt {a b c : Expr} {pos : Pos} {ma mb mc : ME} (ok : Ok G X k W) (ha : SE G X W a ma) (hb : SE G X W b mb) (hc : SE G X W c mc) (hm : lastMarks [.Lt, .Lt] [b, c] = false := by with_unfolding_all rfl) : SE G X W (.Compare a [.Lt, .Lt] [b, c] pos) (mChain ltD ltD ma mb mc) := se_chain oi_lt oi_lt or_lt or_lt ha hb hc hm
theorem cx_lt_le {a b c : Expr} {pos : Pos} {ma mb mc : ME} (ok : Ok G X k W) (ha : SE G X W a ma) (hb : SE G X W b mb) (hc : SE G X W c mc) (hm : lastMarks [.Lt, .LtE] [b, c] = false := by with_unfolding_all rfl) : SE G X W (.Compare a [.Lt, .LtE] [b, c] pos) (mChain ltD leD ma mb mc) := se_chain oi_lt oi_le or_lt op_le ha hb hc hm

/-! ## [a, *b] -/
def mStarL (a : ME) (l : ML) : ML := fun ρ S => (a ρ S).bind fun x S1 => match itemsD S1 x with
  | some xs => (l ρ S1).bind fun ys S2 => .ok (xs ++ ys) S2
  | none => .bad
theorem sa_star {e : Expr} {es : List Expr} {p : Pos} {m : ME} {n : ML} (ok : Ok G X k W) (ha : SE G X W e m) (hb : SA G X W es n) (hs : starEach (.Starred e p :: es) X.env = (true, eval e X.env) :: starEach es X.env := by rfl) : SA G X W (.Starred e p :: es) (mStarL m n) := by
  obtain ⟨ta, pa, ia⟩ := ha
  obtain ⟨tb, pb, ib⟩ := hb
  refine ⟨_, StX.pa_star pa pb hs, fun ρ S σ H F μ Q he hr hp => ?_⟩
  refine ia ρ S σ H F μ _ he hr (Post.bind hp fun x S1 F1 μ1 u H1 x1 r1 p1 q1 => ?_)
  split at q1
  · rename_i xs hxs
    obtain ⟨q, vs, rfl, rr, hs'⟩ := items_ok r1 p1 hxs
    refine ⟨q, vs, rfl, by rw [ok.K]; exact hs', ib ρ S1 σ H1 F1 μ1 _ (he.mono x1) r1 (Post.bind q1 fun ys S2 F2 μ2 us H2 x2 r2 p2 q2 => ?_)⟩
    exact q2 F2 μ2 _ H2 (Ext.refl _ _) r2 ((rr.mono x2).app p2)
  · exact q1.elim

/-! ## zip -/
def zipL : List D → List D → List D
  | x :: xs, y :: ys => .tup [x, y] :: zipL xs ys
  | _, _ => []
theorem zipL_get : ∀ {xs ys : List D} {i : Nat} {d : D}, (zipL xs ys)[i]? = some d → ∃ x y, d = .tup [x, y] ∧ xs[i]? = some x ∧ ys[i]? = some y
  | [], _, i, d, h => by simp [zipL] at h
  | _ :: _, [], i, d, h => by simp [zipL] at h
  | x :: xs, y :: ys, 0, d, h => by
    simp [zipL] at h
    exact ⟨x, y, h.symm, rfl, rfl⟩
  | x :: xs, y :: ys, i + 1, d, h => by
    simp [zipL] at h
    obtain ⟨a, b, e, h1, h2⟩ := zipL_get h
    exact ⟨a, b, e, by simpa using h1, by simpa using h2⟩
theorem zipL_len : ∀ {xs ys : List D}, (zipL xs ys).length = min xs.length ys.length
  | [], _ => by simp [zipL]
  | _ :: _, [] => by simp [zipL]
  | x :: xs, y :: ys => by simp only [zipL, List.length_cons, zipL_len]; omega
theorem yields_zip {K : PySem.W.Frag} {F : Hp} {μ : List Addr} {a b : Addr} {l m : List D} {xs ys : List V} (hs : SqL K F a xs) (hs2 : SqL K F b ys) (hr : Reps G F μ l xs) (hr2 : Reps G F μ m ys) : Yields G F μ (zipL l m) (Itz K a b) where
  go := fun i F1 μ1 S H x r hi => by
    rw [zipL_len] at hi
    obtain ⟨v, hv⟩ : ∃ v, xs[i]? = some v := ⟨_, List.getElem?_eq_getElem (by rw [← hr.length]; omega)⟩
    obtain ⟨w, hw⟩ : ∃ w, ys[i]? = some w := ⟨_, List.getElem?_eq_getElem (by rw [← hr2.length]; omega)⟩
    exact ⟨xs, ys, v, w, same_sqL (x.fz.trans r.sub) hs, same_sqL (x.fz.trans r.sub) hs2, hv, hw⟩
  stop := fun i F1 μ1 S H x r hi => by
    rw [zipL_len] at hi
    refine ⟨xs, ys, same_sqL (x.fz.trans r.sub) hs, same_sqL (x.fz.trans r.sub) hs2, ?_⟩
    rw [← hr.length, ← hr2.length]
    omega
  yld := fun i F1 μ1 S H v H' d x r hd hy => by
    obtain ⟨T, p, q, rfl, hT, rfl, h1, h2⟩ := hy
    obtain ⟨d1, d2, rfl, g1, g2⟩ := zipL_get hd
    obtain ⟨w1, a1, b1⟩ := hr.get g1
    obtain ⟨w2, a2, b2⟩ := hr2.get g2
    rw [h1 xs (same_sqL (x.fz.trans r.sub) hs)] at a1
    rw [h2 ys (same_sqL (x.fz.trans r.sub) hs2)] at a2
    cases a1
    cases a2
    obtain ⟨xx, rr⟩ := r.newF (.tup [p, q]) hT
    exact ⟨_, μ1, xx, rr, .tup (TupF.of upd_same) (.cons ((b1.mono x).mono xx) (.cons ((b2.mono x).mono xx) .nil))⟩
theorem yields_zipT {F : Hp} {μ : List Addr} {a b : Addr} {l m : List D} {xs ys : List V} (hs : TupF G.K F a xs) (hs2 : TupF G.K F b ys) (hr : Reps G F μ l xs) (hr2 : Reps G F μ m ys) : Yields G F μ (zipL l m) (RZ.ItzT G.K a b) where
  go := fun i F1 μ1 S H x r hi => by
    rw [zipL_len] at hi
    obtain ⟨v, hv⟩ : ∃ v, xs[i]? = some v := ⟨_, List.getElem?_eq_getElem (by rw [← hr.length]; omega)⟩
    obtain ⟨w, hw⟩ : ∃ w, ys[i]? = some w := ⟨_, List.getElem?_eq_getElem (by rw [← hr2.length]; omega)⟩
    exact ⟨xs, ys, v, w, same_sqT (x.fz.trans r.sub) hs, same_sqT (x.fz.trans r.sub) hs2, hv, hw⟩
  stop := fun i F1 μ1 S H x r hi => by
    rw [zipL_len] at hi
    refine ⟨xs, ys, same_sqT (x.fz.trans r.sub) hs, same_sqT (x.fz.trans r.sub) hs2, ?_⟩
    rw [← hr.length, ← hr2.length]
    omega
  yld := fun i F1 μ1 S H v H' d x r hd hy => by
    obtain ⟨T, p, q, rfl, hT, rfl, h1, h2⟩ := hy
    obtain ⟨d1, d2, rfl, g1, g2⟩ := zipL_get hd
    obtain ⟨w1, a1, b1⟩ := hr.get g1
    obtain ⟨w2, a2, b2⟩ := hr2.get g2
    rw [h1 xs (same_sqT (x.fz.trans r.sub) hs)] at a1
    rw [h2 ys (same_sqT (x.fz.trans r.sub) hs2)] at a2
    cases a1
    cases a2
    obtain ⟨xx, rr⟩ := r.newF (.tup [p, q]) hT
    exact ⟨_, μ1, xx, rr, .tup (TupF.of upd_same) (.cons ((b1.mono x).mono xx) (.cons ((b2.mono x).mono xx) .nil))⟩
def mZip (m : ML) : ML := fun ρ S => (m ρ S).bind fun ds S1 => match ds with
  | [.lst l, .lst l2] => .ok (zipL l l2) S1
  | [.tup l, .tup l2] => .ok (zipL l l2) S1
  | _ => .bad
theorem si_zip {elts : List Expr} {kk : Nat} {tpos p pos : Pos} {a b : Expr} {m : ML} (ok : Ok G X k W) (hm : G.mg "zip" = none) (ha : SA G X W [a, b] m) (hg : Gl X "zip" := by rfl) (hs : starEach [a, b] X.env = (false, eval a X.env) :: starEach [b] X.env := by rfl) (hpl : (backTo pos (starEach [b] X.env)).any (·.1) = false := by rfl) :
    SI G X W (.Tuple elts kk tpos) (.Call (.Name "zip" p) [a, b] [] pos) (mZip m) := by
  obtain ⟨t, pa, i⟩ := ha
  refine ⟨_, RZ.pi_zipA hg (by rw [ok.mg]; exact hm) pa hs hpl, fun ρ S σ H F μ R he hr hp => ?_⟩
  refine i ρ S σ H F μ _ he hr (Post.bind hp fun ds S1 F1 μ1 vs H1 x1 r1 p1 q1 => ?_)
  split at q1
  · cases p1 with
    | cons a1 b1 =>
      cases b1 with
      | cons a2 b2 =>
        cases b2
        cases a1 with
        | lst h1 h2 =>
          cases a2 with
          | lst h3 h4 =>
            refine ⟨_, _, _, _, rfl, .inl ⟨by rw [ok.K]; exact SqL.of (r1.sub _ _ h1), by rw [ok.K]; exact SqL.of (r1.sub _ _ h3), ?_⟩⟩
            rw [ok.K]
            exact q1 F1 μ1 _ H1 (Ext.refl _ _) r1 (yields_zip (SqL.of h1) (SqL.of h3) h2 h4)
  · cases p1 with
    | cons a1 b1 =>
      cases b1 with
      | cons a2 b2 =>
        cases b2
        cases a1 with
        | tup h1 h2 =>
          cases a2 with
          | tup h3 h4 =>
            refine ⟨_, _, _, _, rfl, .inr ⟨by rw [ok.K]; exact same_sqT r1.sub h1, by rw [ok.K]; exact same_sqT r1.sub h3, ?_⟩⟩
            rw [ok.K]
            exact q1 F1 μ1 _ H1 (Ext.refl _ _) r1 (yields_zipT h1 h3 h2 h4)
  · exact q1.elim

/-! ## list methods -/
theorem lst_live {n : Nat} {a : Addr} {F : Hp} {μ : List Addr} {S : Store} {H : Hp} {l : List D} (hr : Rel G F μ S H) (hm : μ[n]? = some a) (hs : S[n]? = some (.lst l)) : ∃ xs, F a = none ∧ H a = some (.lst xs) ∧ Reps G F μ l xs := hr.lstAt hm hs
def appendD (x : D) (ds : List D) (S : Store) : Res D :=
  match x, ds with
  | .loc n, [y] => (match S[n]? with
    | some (.lst l) => if l.length < sizeLine then .ok .non (S.set n (.lst (l ++ [y]))) else .bad
    | _ => .bad)
  | _, _ => .bad
theorem mi_append : MtI G appendD rAppend := by
  intro W F μ σ S H x v ds us Q hr rx rs hp
  unfold appendD at hp
  split at hp
  · rename_i n y
    split at hp
    · rename_i l hl
      obtain ⟨hz, hp⟩ := post_if hp
      cases rx with
      | loc hm =>
        obtain ⟨xs, hf, ho, hx⟩ := hr.lstAt hm hl
        cases rs with
        | cons a b =>
          cases b
          refine ⟨_, xs, _, rfl, rfl, ho, by rw [← hx.length]; exact hz, ?_⟩
          exact hp F μ _ _ (Ext.refl _ _) (hr.write (e := .lst (l ++ [y])) ho trivial hm hf (.lst hf upd_same (hx.app (.cons a .nil)))) .non
    · exact hp.elim
  · exact hp.elim
theorem mtm {id : String} {r : V → List V → Hp → VK → Prop} (h : MtM X id r) : MtR X id r := h
theorem cx_append {o e : Expr} {apos cpos : Pos} {mo : ME} {ml : ML} (ok : Ok G X k W) (ho : SE G X W o mo) (ha : SA G X W [e] ml) (hbase : attributeBase o "append" X.env (eval o X.env) = eval o X.env := by rfl)
    (hfew : ((backTo cpos (starEach [e] X.env)).all (fun x => !x.1) && (backToKw cpos (keywordEach [] X.env)).all (fun x => x.1.isSome) && decide (([e] : List Expr).length + ([] : List Keyword).length + (if ([] : List Keyword).isEmpty then 0 else 1) < 30)) = true := by rfl)
    (hline : (apos.endLine == cpos.line) = true := by rfl) (hs : starEach [e] X.env = (false, eval e X.env) :: starEach [] X.env := by rfl) (hplain : (backTo cpos (starEach [] X.env)).any (·.1) = false := by rfl) :
    SE G X W (.Call (.Attribute o "append" apos) [e] [] cpos) (mMeth "list" appendD mo ml) := se_bm ok PySem.F.plainAttrs_list PySem.F.slot_list_append PySem.F.type_list_append (mtm mt_append) mi_append ho ha hbase hfew hline hs hplain
def popD (x : D) (ds : List D) (S : Store) : Res D :=
  match x, ds with
  | .loc n, [] => (match S[n]? with
    | some (.lst l) => (match l[l.length - 1]? with
      | some y => .ok y (S.set n (.lst l.dropLast))
      | none => .bad)
    | _ => .bad)
  | _, _ => .bad
theorem Reps.dropLast {F : Hp} {μ : List Addr} {l : List D} {xs : List V} (r : Reps G F μ l xs) : Reps G F μ l.dropLast xs.dropLast := by
  rw [List.dropLast_eq_take, List.dropLast_eq_take, r.length]
  exact r.take _
theorem mi_pop : MtI G popD rPop := by
  intro W F μ σ S H x v ds us Q hr rx rs hp
  unfold popD at hp
  split at hp
  · rename_i n
    split at hp
    · rename_i l hl
      split at hp
      · rename_i y hy
        cases rx with
        | loc hm =>
          obtain ⟨xs, hf, ho, hx⟩ := hr.lstAt hm hl
          cases rs
          rw [hx.length] at hy
          obtain ⟨w, hw, rw_⟩ := hx.get hy
          refine ⟨_, xs, w, rfl, rfl, ho, hw, ?_⟩
          exact hp F μ _ _ (Ext.refl _ _) (hr.write (e := .lst l.dropLast) ho trivial hm hf (.lst hf upd_same hx.dropLast)) rw_
      · exact hp.elim
    · exact hp.elim
  · exact hp.elim
theorem cx_pop {o : Expr} {apos cpos : Pos} {mo : ME} (ok : Ok G X k W) (ho : SE G X W o mo) (hbase : attributeBase o "pop" X.env (eval o X.env) = eval o X.env := by rfl) (hline : (apos.endLine == cpos.line) = true := by rfl) :
    SE G X W (.Call (.Attribute o "pop" apos) [] [] cpos) (mMeth "list" popD mo mNilL) := se_bm0 ok PySem.F.plainAttrs_list PySem.F.slot_list_pop PySem.F.type_list_pop (mtm mt_pop) mi_pop ho hbase hline
def popAtD (x : D) (ds : List D) (S : Store) : Res D :=
  match x, ds with
  | .loc n, [.int i] => (match S[n]? with
    | some (.lst l) => (match seqIndex? i l.length with
      | some k => (match l[k]? with
        | some y => if -(2 ^ 63) ≤ i ∧ i < 2 ^ 63 then .ok y (S.set n (.lst (l.eraseIdx k))) else .bad
        | none => .bad)
      | none => .bad)
    | _ => .bad)
  | _, _ => .bad
theorem mi_popAt : MtI G popAtD rPopAt := by
  intro W F μ σ S H x v ds us Q hr rx rs hp
  unfold popAtD at hp
  split at hp
  · rename_i n i
    split at hp
    · rename_i l hl
      split at hp
      · rename_i kk hk
        split at hp
        · rename_i y hy
          obtain ⟨hc, hp⟩ := post_if hp
          cases rx with
          | loc hm =>
            obtain ⟨xs, hf, ho, hx⟩ := hr.lstAt hm hl
            cases rs with
            | cons a b =>
              cases b
              cases a
              obtain ⟨w, hw, rw_⟩ := hx.get hy
              refine ⟨_, xs, i, kk, w, rfl, rfl, ho, hc.1, hc.2, by rw [← hx.length]; exact hk, hw, ?_⟩
              exact hp F μ _ _ (Ext.refl _ _) (hr.write (e := .lst (l.eraseIdx kk)) ho trivial hm hf (.lst hf upd_same (hx.eraseIdx _))) rw_
        · exact hp.elim
      · exact hp.elim
    · exact hp.elim
  · exact hp.elim
theorem cx_popAt {o e : Expr} {apos cpos : Pos} {mo : ME} {ml : ML} (ok : Ok G X k W) (ho : SE G X W o mo) (ha : SA G X W [e] ml) (hbase : attributeBase o "pop" X.env (eval o X.env) = eval o X.env := by rfl)
    (hfew : ((backTo cpos (starEach [e] X.env)).all (fun x => !x.1) && (backToKw cpos (keywordEach [] X.env)).all (fun x => x.1.isSome) && decide (([e] : List Expr).length + ([] : List Keyword).length + (if ([] : List Keyword).isEmpty then 0 else 1) < 30)) = true := by rfl)
    (hline : (apos.endLine == cpos.line) = true := by rfl) (hs : starEach [e] X.env = (false, eval e X.env) :: starEach [] X.env := by rfl) (hplain : (backTo cpos (starEach [] X.env)).any (·.1) = false := by rfl) :
    SE G X W (.Call (.Attribute o "pop" apos) [e] [] cpos) (mMeth "list" popAtD mo ml) := se_bm ok PySem.F.plainAttrs_list PySem.F.slot_list_pop PySem.F.type_list_pop (mtm mt_popAt) mi_popAt ho ha hbase hfew hline hs hplain
def extendD (x : D) (ds : List D) (S : Store) : Res D :=
  match x, ds with
  | .loc n, [y] => (match S[n]?, lstD S y with
    | some (.lst l), some l2 => if l.length + l2.length ≤ sizeLine then .ok .non (S.set n (.lst (l ++ l2))) else .bad
    | _, _ => .bad)
  | _, _ => .bad
theorem mi_extend : MtI G extendD rExtend := by
  intro W F μ σ S H x v ds us Q hr rx rs hp
  unfold extendD at hp
  split at hp
  · rename_i n y
    split at hp
    · rename_i l l2 hl hl2
      obtain ⟨hz, hp⟩ := post_if hp
      cases rx with
      | loc hm =>
        obtain ⟨xs, hf, ho, hx⟩ := hr.lstAt hm hl
        cases rs with
        | cons a b =>
          cases b
          obtain ⟨q, zs, rfl, hz2, ho2⟩ := lst_ok hr a hl2
          refine ⟨_, q, xs, zs, rfl, rfl, ho, ho2, by rw [← hx.length, ← hz2.length]; exact hz, ?_⟩
          exact hp F μ _ _ (Ext.refl _ _) (hr.write (e := .lst (l ++ l2)) ho trivial hm hf (.lst hf upd_same (hx.app hz2))) .non
    · exact hp.elim
  · exact hp.elim
theorem cx_extend {o e : Expr} {apos cpos : Pos} {mo : ME} {ml : ML} (ok : Ok G X k W) (ho : SE G X W o mo) (ha : SA G X W [e] ml) (hbase : attributeBase o "extend" X.env (eval o X.env) = eval o X.env := by rfl)
    (hfew : ((backTo cpos (starEach [e] X.env)).all (fun x => !x.1) && (backToKw cpos (keywordEach [] X.env)).all (fun x => x.1.isSome) && decide (([e] : List Expr).length + ([] : List Keyword).length + (if ([] : List Keyword).isEmpty then 0 else 1) < 30)) = true := by rfl)
    (hline : (apos.endLine == cpos.line) = true := by rfl) (hs : starEach [e] X.env = (false, eval e X.env) :: starEach [] X.env := by rfl) (hplain : (backTo cpos (starEach [] X.env)).any (·.1) = false := by rfl) :
    SE G X W (.Call (.Attribute o "extend" apos) [e] [] cpos) (mMeth "list" extendD mo ml) := se_bm ok PySem.F.plainAttrs_list PySem.F.slot_list_extend PySem.F.type_list_extend (mtm mt_extend) mi_extend ho ha hbase hfew hline hs hplain
def insertD (x : D) (ds : List D) (S : Store) : Res D :=
  match x, ds with
  | .loc n, [.int i, y] => (match S[n]? with
    | some (.lst l) => if l.length < sizeLine ∧ 0 ≤ i ∧ i < 2 ^ 63 then .ok .non (S.set n (.lst (l.take i.toNat ++ [y] ++ l.drop i.toNat))) else .bad
    | _ => .bad)
  | _, _ => .bad
theorem mi_insert : MtI G insertD (fun x vs H Q => ∃ (l : Addr) (xs : List V) (i : Int) (y : V), x = .ref l ∧ vs = [.int i, y] ∧ H l = some (.lst xs) ∧ xs.length < sizeLine ∧ 0 ≤ i ∧ i < 2 ^ 63 ∧
    Q .non (upd H l (.lst (xs.take i.toNat ++ [y] ++ xs.drop i.toNat)))) := by
  intro W F μ σ S H x v ds us Q hr rx rs hp
  unfold insertD at hp
  split at hp
  · rename_i n i y
    split at hp
    · rename_i l hl
      obtain ⟨hz, hp⟩ := post_if hp
      cases rx with
      | loc hm =>
        obtain ⟨xs, hf, ho, hx⟩ := hr.lstAt hm hl
        cases rs with
        | cons a b =>
          cases b with
          | cons c d =>
            cases d
            cases a
            refine ⟨_, xs, i, _, rfl, rfl, ho, by rw [← hx.length]; exact hz.1, hz.2.1, hz.2.2, ?_⟩
            exact hp F μ _ _ (Ext.refl _ _) (hr.write (e := .lst (l.take i.toNat ++ [y] ++ l.drop i.toNat)) ho trivial hm hf (.lst hf upd_same (((hx.take _).app (.cons c .nil)).app (hx.drop _)))) .non
    · exact hp.elim
  · exact hp.elim
theorem cx_insert {o e e2 : Expr} {apos cpos : Pos} {mo : ME} {ml : ML} (ok : Ok G X k W) (ho : SE G X W o mo) (ha : SA G X W [e, e2] ml) (hbase : attributeBase o "insert" X.env (eval o X.env) = eval o X.env := by rfl)
    (hfew : ((backTo cpos (starEach [e, e2] X.env)).all (fun x => !x.1) && (backToKw cpos (keywordEach [] X.env)).all (fun x => x.1.isSome) && decide (([e, e2] : List Expr).length + ([] : List Keyword).length + (if ([] : List Keyword).isEmpty then 0 else 1) < 30)) = true := by rfl)
    (hline : (apos.endLine == cpos.line) = true := by rfl) (hs : starEach [e, e2] X.env = (false, eval e X.env) :: starEach [e2] X.env := by rfl) (hplain : (backTo cpos (starEach [e2] X.env)).any (·.1) = false := by rfl) :
    SE G X W (.Call (.Attribute o "insert" apos) [e, e2] [] cpos) (mMeth "list" insertD mo ml) := se_bm ok PySem.F.plainAttrs_list PySem.F.slot_list_insert PySem.F.type_list_insert mt_insert mi_insert ho ha hbase hfew hline hs hplain
end
end Z

set_option Elab.async false
set_option linter.all false
set_option maxRecDepth 100000
set_option maxHeartbeats 4000000
set_option autoImplicit false
namespace Z
open PySem PySem.Spec L2

/-! ## plain Lean: fractions, no program -/
/-- a number as the package tells it -/
def enc (x : Rat) : D := if x.den = 1 then .int x.num else .tup [.int x.num, .int x.den]
/-- .. as a pair -/
def encP (x : Rat) : D := .tup [.int x.num, .int x.den]
/-- .. its pair as a list -/
def encL (x : Rat) : D := .lst [.int x.num, .int x.den]
/-- lowest terms are unique -/
theorem rat_of {a b n : Int} {d : Nat} (hb : b ≠ 0) (hd : 0 < d) (hg : Nat.gcd n.natAbs d = 1) (h : n * b = a * d) : (Rat.divInt a b).num = n ∧ (Rat.divInt a b).den = d := by
  have e : Rat.divInt a b = ⟨n, d, by omega, hg⟩ := by
    have h2 : (⟨n, d, by omega, hg⟩ : Rat) = Rat.divInt n (d : Int) := by
      rw [Rat.mk_eq_divInt]
    rw [h2, Rat.divInt_eq_divInt_iff hb (by omega)]
    exact h.symm
  rw [e]
  exact ⟨rfl, rfl⟩
theorem gcd_parts {a b : Int} (hb : b ≠ 0) : ∃ g : Nat, g = Nat.gcd a.natAbs b.natAbs ∧ 0 < g ∧ ∃ a' b' : Int, a = a' * g ∧ b = b' * g ∧ a / g = a' ∧ b / g = b' ∧ Nat.gcd a'.natAbs b'.natAbs = 1 ∧ b' ≠ 0 := by
  refine ⟨_, rfl, Nat.gcd_pos_of_pos_right _ (by omega), ?_⟩
  have hg : 0 < Nat.gcd a.natAbs b.natAbs := Nat.gcd_pos_of_pos_right _ (by omega)
  have d1 : ((Nat.gcd a.natAbs b.natAbs : Nat) : Int) ∣ a := by
    rw [Int.ofNat_dvd_left]
    exact Nat.gcd_dvd_left _ _
  have d2 : ((Nat.gcd a.natAbs b.natAbs : Nat) : Int) ∣ b := by
    rw [Int.ofNat_dvd_left]
    exact Nat.gcd_dvd_right _ _
  refine ⟨a / (Nat.gcd a.natAbs b.natAbs : Nat), b / (Nat.gcd a.natAbs b.natAbs : Nat), (Int.ediv_mul_cancel d1).symm, (Int.ediv_mul_cancel d2).symm, rfl, rfl, ?_, ?_⟩
  · rw [Int.natAbs_ediv_of_dvd d1, Int.natAbs_ediv_of_dvd d2, Int.natAbs_natCast]
    exact Nat.gcd_div_gcd_div_gcd_of_pos_right (by omega)
  · intro z
    have := Int.ediv_mul_cancel d2
    rw [z] at this
    omega
theorem low_pos {a b a' b' : Int} {g : Nat} (hg : 0 < g) (ha : a = a' * g) (hb : b = b' * g) (hc : Nat.gcd a'.natAbs b'.natAbs = 1) (h : 0 < b') : (Rat.divInt a b).num = a' ∧ (((Rat.divInt a b).den : Nat) : Int) = b' := by
  have hbn : b ≠ 0 := by
    rw [hb]
    exact Int.mul_ne_zero (by omega) (by omega)
  have hk : ((b'.toNat : Nat) : Int) = b' := Int.toNat_of_nonneg (by omega)
  have := rat_of (a := a) (b := b) (n := a') (d := b'.toNat) hbn (by omega) (by rw [show b'.toNat = b'.natAbs by omega]; exact hc) (by rw [hk, ha, hb, Int.mul_comm b' g, ← Int.mul_assoc])
  exact ⟨this.1, by rw [this.2]; exact hk⟩
theorem low_neg {a b a' b' : Int} {g : Nat} (hg : 0 < g) (ha : a = a' * g) (hb : b = b' * g) (hc : Nat.gcd a'.natAbs b'.natAbs = 1) (h : b' < 0) : (Rat.divInt a b).num = -a' ∧ (((Rat.divInt a b).den : Nat) : Int) = -b' := by
  have := low_pos (a := -a) (b := -b) (a' := -a') (b' := -b') hg (by rw [ha, Int.neg_mul]) (by rw [hb, Int.neg_mul]) (by rw [Int.natAbs_neg, Int.natAbs_neg]; exact hc) (by omega)
  rw [Rat.neg_divInt_neg] at this
  exact this
theorem enc_int (x : Rat) (h : x.den = 1) : enc x = .int x.num := if_pos h
theorem enc_tup (x : Rat) (h : x.den ≠ 1) : enc x = .tup [.int x.num, .int x.den] := if_neg h
theorem divInt_self' (x : Rat) : Rat.divInt x.num x.den = x := Rat.num_divInt_den x
theorem add_div (x y : Rat) : Rat.divInt (x.num * y.den + y.num * x.den) (x.den * y.den) = x + y := by
  have h := Rat.divInt_add_divInt x.num y.num (d₁ := x.den) (d₂ := y.den) (by have := x.den_nz; omega) (by have := y.den_nz; omega)
  rw [Rat.num_divInt_den, Rat.num_divInt_den] at h
  exact h.symm
theorem sub_div (x y : Rat) : Rat.divInt (x.num * y.den - y.num * x.den) (x.den * y.den) = x - y := by
  have h := Rat.divInt_sub_divInt x.num y.num (d₁ := x.den) (d₂ := y.den) (by have := x.den_nz; omega) (by have := y.den_nz; omega)
  rw [Rat.num_divInt_den, Rat.num_divInt_den] at h
  exact h.symm
theorem mul_div (x y : Rat) : Rat.divInt (x.num * y.num) (x.den * y.den) = x * y := by
  have h := Rat.divInt_mul_divInt x.num y.num (d₁ := x.den) (d₂ := y.den)
  rw [Rat.num_divInt_den, Rat.num_divInt_den] at h
  exact h.symm
theorem neg_div (x : Rat) : Rat.divInt (-x.num) x.den = -x := by
  rw [← Rat.neg_divInt, Rat.num_divInt_den]
theorem div_div' (x y : Rat) (hy : y ≠ 0) : Rat.divInt (x.num * y.den) (x.den * y.num) = x / y := by
  rw [Rat.div_def, ← Rat.num_divInt_den x, ← Rat.num_divInt_den y, Rat.inv_divInt]
  rw [Rat.divInt_mul_divInt]
  simp only [Rat.num_divInt_den]
theorem lt_div (x y : Rat) : x < y ↔ x.num * y.den < y.num * x.den := Rat.lt_iff x y
theorem le_div (x y : Rat) : x ≤ y ↔ x.num * y.den ≤ y.num * x.den := Rat.le_iff x y
/-- small numbers -/
def Sz (k : Nat) (x : Rat) : Prop := x.num.natAbs < 2 ^ k ∧ x.den < 2 ^ k
theorem Sz.mono {j k : Nat} {x : Rat} (h : Sz j x) (hk : j ≤ k) : Sz k x := by
  have := Nat.pow_le_pow_right (show 0 < 2 by decide) hk
  exact ⟨Nat.lt_of_lt_of_le h.1 this, Nat.lt_of_lt_of_le h.2 this⟩
theorem sz_of {a b : Int} {k : Nat} (hb : b ≠ 0) (h1 : a.natAbs < 2 ^ k) (h2 : b.natAbs < 2 ^ k) : Sz k (Rat.divInt a b) := by
  obtain ⟨g, hg, gp, a', b', ha, hbb, _, _, hc, hn⟩ := gcd_parts (a := a) hb
  have la : a'.natAbs ≤ a.natAbs := by
    rw [ha, Int.natAbs_mul]
    exact Nat.le_mul_of_pos_right _ (by omega)
  have lb : b'.natAbs ≤ b.natAbs := by
    rw [hbb, Int.natAbs_mul]
    exact Nat.le_mul_of_pos_right _ (by omega)
  rcases Int.lt_or_gt_of_ne hn with q | q
  · obtain ⟨e1, e2⟩ := low_neg gp ha hbb hc q
    exact ⟨by rw [e1, Int.natAbs_neg]; omega, by omega⟩
  · obtain ⟨e1, e2⟩ := low_pos gp ha hbb hc q
    exact ⟨by rw [e1]; omega, by omega⟩
theorem natAbs_mul_lt {a b : Int} {j k : Nat} (h1 : a.natAbs < 2 ^ j) (h2 : b.natAbs < 2 ^ k) : (a * b).natAbs < 2 ^ (j + k) := by
  rw [Int.natAbs_mul, Nat.pow_add]
  exact Nat.mul_lt_mul_of_lt_of_le h1 (Nat.le_of_lt h2) (Nat.pow_pos (by decide))
theorem pow_dbl (k : Nat) : 2 ^ (k + 1) = 2 ^ k + 2 ^ k := by rw [Nat.pow_succ]; omega
theorem Sz.add {j k : Nat} {x y : Rat} (h1 : Sz j x) (h2 : Sz k y) : Sz (j + k + 1) (x + y) := by
  rw [← add_div]
  have nx := x.den_nz
  have ny := y.den_nz
  have m1 := natAbs_mul_lt (a := x.num) (b := (y.den : Int)) h1.1 (by simpa using h2.2)
  have m2 := natAbs_mul_lt (a := y.num) (b := (x.den : Int)) h2.1 (by simpa using h1.2)
  have m3 := natAbs_mul_lt (a := (x.den : Int)) (b := (y.den : Int)) (by simpa using h1.2) (by simpa using h2.2)
  rw [Nat.add_comm k j] at m2
  have := pow_dbl (j + k)
  refine sz_of (Int.mul_ne_zero (by omega) (by omega)) ?_ ?_ <;> omega
theorem Sz.neg {k : Nat} {x : Rat} (h : Sz k x) : Sz k (-x) := by
  refine ⟨?_, ?_⟩
  · rw [Rat.neg_num, Int.natAbs_neg]; exact h.1
  · rw [Rat.neg_den]; exact h.2
theorem Sz.sub {j k : Nat} {x y : Rat} (h1 : Sz j x) (h2 : Sz k y) : Sz (j + k + 1) (x - y) := by
  rw [Rat.sub_eq_add_neg]
  exact h1.add h2.neg
theorem Sz.mul {j k : Nat} {x y : Rat} (h1 : Sz j x) (h2 : Sz k y) : Sz (j + k) (x * y) := by
  rw [← mul_div]
  have nx := x.den_nz
  have ny := y.den_nz
  exact sz_of (Int.mul_ne_zero (by omega) (by omega)) (natAbs_mul_lt h1.1 h2.1) (natAbs_mul_lt (by simpa using h1.2) (by simpa using h2.2))
theorem Sz.div {j k : Nat} {x y : Rat} (h1 : Sz j x) (h2 : Sz k y) (hy : y ≠ 0) : Sz (j + k) (x / y) := by
  rw [← div_div' _ _ hy]
  have nx := x.den_nz
  have ny : y.num ≠ 0 := by
    intro z
    exact hy (by rw [← Rat.num_divInt_den y, z, Rat.zero_divInt])
  exact sz_of (Int.mul_ne_zero (by omega) (by omega)) (natAbs_mul_lt h1.1 (by simpa using h2.2)) (natAbs_mul_lt (by simpa using h1.2) h2.1)
theorem log_lt {n k : Nat} (h : n < 2 ^ k) (hk : 0 < k) : n.log2 < k := PySem.Flt.log2_lt_of hk h
theorem log_le {n k : Nat} (h : n < 2 ^ k) : n.log2 ≤ k := by
  rcases Nat.eq_zero_or_pos k with z | z
  · subst z
    have : n = 0 := by simpa using h
    subst this
    decide
  · exact Nat.le_of_lt (log_lt h z)
theorem mul_sz {a b : Int} {j k : Nat} (h1 : a.natAbs < 2 ^ j) (h2 : b.natAbs < 2 ^ k) (hk : j + k < 1000000) : MulOk a b := by
  refine .inl ?_
  have := log_le h1
  have := log_le h2
  omega
end Z

set_option Elab.async false
set_option linter.all false
set_option maxRecDepth 100000
set_option maxHeartbeats 4000000
set_option autoImplicit false
namespace Z
open PySem PySem.Spec L2

/-! ## how long a repr is -/
mutual
/-- a bound -/
def wt : PyData → Nat
  | .none => 4
  | .bool _ => 5
  | .int _ => 2000
  | .str x => (reprText x).length
  | .list xs => 2 + wts xs
  | .tuple xs => 3 + wts xs
  | .dict _ => 0
def wts : List PyData → Nat
  | [] => 0
  | x :: xs => wt x + 2 + wts xs
end
theorem listText_le (ts : List Str) : (listText ts).length ≤ 2 + piled ts := by
  unfold listText
  rw [strLen_append]
  have h : (textFrom 0 "[" ts).length ≤ 1 + piled ts := by
    cases ts with
    | nil => exact Nat.le_of_eq rfl
    | cons t r =>
      simp only [textFrom]
      rw [textFrom_length_pos r 1 _ (by omega), piled_cons, strLen_append, strLen_append]
      have e1 : (("[" : String) : Str).length = 1 := rfl
      have e2 : ((if 0 > 0 then ", " else "" : String) : Str).length = 0 := rfl
      rw [e1, e2]
      omega
  have e3 : (("]" : String) : Str).length = 1 := rfl
  rw [e3]
  omega
theorem tupleText_le (ts : List Str) : (tupleText ts).length ≤ 3 + piled ts := by
  unfold tupleText
  rw [strLen_append, strLen_append]
  have e1 : ("(" : Str).length = 1 := rfl
  have e3 : ((if ts.length == 1 then ",)" else ")" : String) : Str).length ≤ 2 := by split <;> decide
  have h : (Str.join ", " ts).length ≤ piled ts := by
    cases ts with
    | nil => exact Nat.le_of_eq rfl
    | cons t r =>
      have := join_length_add (t :: r) (by simp)
      omega
  rw [e1]
  omega
mutual
theorem shown_le : ∀ p : PyData, p.showable = true → p.hasDict = false → p.shown.length ≤ wt p
  | .none, _, _ => by simp only [PyData.shown, wt]; decide
  | .bool b, _, _ => by cases b <;> simp only [PyData.shown, wt] <;> decide
  | .int i, h, _ => by
    simp only [PyData.showable, decide_eq_true_eq] at h
    simp only [PyData.shown, wt]
    have := int_text_length_le (a := i) (k := 1920) (by omega) h
    have e : (Str.ofString (toString i)).length = (toString i).length := ofString_length _
    rw [e]
    omega
  | .str x, _, _ => by simp only [PyData.shown, wt]; exact Nat.le_refl _
  | .list xs, h, hd => by
    simp only [PyData.shown, wt]
    have := listText_le (PyData.shownAll xs)
    have := shownAll_le xs (by simpa [PyData.showable] using h) (by simpa [PyData.hasDict] using hd)
    omega
  | .tuple xs, h, hd => by
    simp only [PyData.shown, wt]
    have := tupleText_le (PyData.shownAll xs)
    have := shownAll_le xs (by simpa [PyData.showable] using h) (by simpa [PyData.hasDict] using hd)
    omega
  | .dict _, _, hd => by simp [PyData.hasDict] at hd
theorem shownAll_le : ∀ ps : List PyData, PyData.showableAll ps = true → PyData.hasDictAll ps = false → piled (PyData.shownAll ps) ≤ wts ps
  | [], _, _ => by simp [PyData.shownAll, piled_nil]
  | p :: ps, h, hd => by
    simp only [PyData.showableAll, Bool.and_eq_true] at h
    simp only [PyData.hasDictAll, Bool.or_eq_false_iff] at hd
    have h1 := shown_le p h.1 hd.1
    have h2 := shownAll_le ps h.2 hd.2
    simp only [PyData.shownAll, wts, piled_cons]
    omega
end
/-- told by repr -/
theorem repr_ok {x : D} {S : Store} {p : PyData} (h : toPS S x = some p) (h1 : SeqAt.shaped p = true) (h2 : p.showable = true) (h3 : wt p ≤ 16777216) : reprZ x S = .ok (.str p.shown) S := by
  unfold reprZ
  rw [h]
  simp only
  have hd : p.hasDict = false := PyData.hasDict_of_canLay p (SeqAt.canLay_of_shaped h1)
  have := shown_le p h2 hd
  rw [if_pos ⟨h1, h2, by rw [sizeLine_eq]; omega⟩]
theorem str_ne (z : Str) (S : Store) : neD (.str z) (.str z) S = .ok (.bl false) S := by simp [neD, eqB, eqScal]
theorem str_eq (z : Str) (S : Store) : eqD (.str z) (.str z) S = .ok (.bl true) S := by simp [eqD, eqB, eqScal]
theorem eqB_data {x y : D} {S : Store} {p q : PyData} (h0 : eqScal x y = none) (hx : toPS S x = some p) (hy : toPS S y = some q) (h1 : SeqAt.shaped p = true) (h2 : SeqAt.shaped q = true) : eqB S x y = some (PyData.eqv p q) := by
  unfold eqB
  rw [h0]
  simp only [hx, hy, h1, h2, Bool.and_self, if_true]
theorem eqB_same {x : D} {S : Store} {p : PyData} (hx : toPS S x = some p) (h1 : SeqAt.shaped p = true) : eqB S x x = some true := by
  cases e : eqScal x x with
  | some b =>
    unfold eqB
    rw [e]
    cases x <;> simp [eqScal] at e <;> simp [e]
  | none => rw [eqB_data e hx hx h1 h1, PySem.SeqAt.eqv_refl p (SeqAt.canLay_of_shaped h1)]
theorem eqD_of {x y : D} {S : Store} {b : Bool} (h : eqB S x y = some b) : eqD x y S = .ok (.bl b) S := by
  unfold eqD
  rw [h]
  rfl
theorem neD_of {x y : D} {S : Store} {b : Bool} (h : eqB S x y = some b) : neD x y S = .ok (.bl (!b)) S := by
  unfold neD
  rw [h]
  rfl
/-- data that == and repr take -/
def shD (d : D) : Bool := match toP d with
  | some p => SeqAt.shaped p
  | none => false
theorem toPS_of {d : D} {p : PyData} (h : toP d = some p) (S : Store) : toPS S d = some p := by
  unfold toPS
  cases d <;> first | exact h | (simp [toP] at h; done)
theorem eq_same {d : D} (h : shD d = true) (S : Store) : eqD d d S = .ok (.bl true) S := by
  unfold shD at h
  cases e : toP d with
  | none => rw [e] at h; cases h
  | some p =>
    rw [e] at h
    exact eqD_of (eqB_same (toPS_of e S) h)
theorem ne_same {d : D} (h : shD d = true) (S : Store) : neD d d S = .ok (.bl false) S := by
  unfold shD at h
  cases e : toP d with
  | none => rw [e] at h; cases h
  | some p =>
    rw [e] at h
    exact neD_of (eqB_same (toPS_of e S) h)
/-! ### numbers told -/
def encD (x : Rat) : PyData := if x.den = 1 then .int x.num else .tuple [.int x.num, .int x.den]
theorem toP_enc (x : Rat) : toP (enc x) = some (encD x) := by
  unfold enc encD
  split <;> simp [toP, toPs]
theorem show_int {i : Int} {k : Nat} (h : i.natAbs < 2 ^ k) (hk : k ≤ 1900) : (PyData.int i).showable = true := by
  simp only [PyData.showable, decide_eq_true_eq]
  have := log_le h
  omega
/-- good for repr and == -/
def Good (w : Nat) (p : PyData) : Prop := p.canLay0 = true ∧ p.depth ≤ 8 ∧ p.showable = true ∧ wt p ≤ w
theorem good_encD {x : Rat} (h : Sz 1900 x) : Good 4100 (encD x) := by
  have h1 := show_int h.1 (by omega)
  have h2 := show_int (i := (x.den : Int)) (k := 1900) (by rw [Int.natAbs_natCast]; exact h.2) (by omega)
  unfold encD Good
  split
  · exact ⟨by simp [PyData.canLay0], by simp [PyData.depth], h1, by simp [wt]⟩
  · refine ⟨by simp [PyData.canLay0, PyData.canLayAll0], by simp [PyData.depth, PyData.depthAll], ?_, by simp [wt, wts]⟩
    simp only [PyData.showable] at h1 h2
    simp [PyData.showable, PyData.showableAll] at h1 h2 ⊢
    exact ⟨h1, h2⟩
theorem shaped_of {p : PyData} (h1 : p.canLay0 = true) (h2 : p.depth ≤ 64) : SeqAt.shaped p = true := by
  unfold SeqAt.shaped
  rw [h1, decide_eq_true h2]
  rfl
/-- a list of good ones -/
theorem good_list {ps : List PyData} {w : Nat} (h : ∀ p ∈ ps, Good w p) : (PyData.list ps).canLay0 = true ∧ (PyData.list ps).depth ≤ 9 ∧ (PyData.list ps).showable = true ∧ wt (.list ps) ≤ 2 + ps.length * (w + 2) := by
  induction ps with
  | nil => exact ⟨by simp [PyData.canLay0, PyData.canLayAll0], by simp [PyData.depth, PyData.depthAll], by simp [PyData.showable, PyData.showableAll], by simp [wt, wts]⟩
  | cons p ps ih =>
    obtain ⟨a1, a2, a3, a4⟩ := h p List.mem_cons_self
    obtain ⟨b1, b2, b3, b4⟩ := ih fun q hq => h q (List.mem_cons_of_mem _ hq)
    simp only [PyData.canLay0, PyData.depth, PyData.showable, wt] at b1 b2 b3 b4
    refine ⟨by simp [PyData.canLay0, PyData.canLayAll0, a1, b1], by simp only [PyData.depth, PyData.depthAll]; omega, by simp [PyData.showable, PyData.showableAll, a3, b3], ?_⟩
    simp only [wt, wts, List.length_cons, Nat.add_mul]
    omega
end Z

set_option Elab.async false
set_option linter.all false
set_option maxRecDepth 100000
set_option maxHeartbeats 4000000
set_option autoImplicit false
namespace Z
open PySem PySem.Spec L2

/-! ## what is drawn -/
def Nu (S0 : Store) (n : Nat) (cells : List Int) (t l : Int) : Store := S0.set n (nutE cells t l)
structure Gd (S0 : Store) (n : Nat) : Prop where
  w : WfS S0
  n : n < S0.length
section
variable {S0 : Store} {n : Nat} {cells : List Int} {t l t' l' : Int}
@[simp] theorem nu_len : (Nu S0 n cells t l).length = S0.length := by simp [Nu]
theorem nu_at (g : Gd S0 n) : (Nu S0 n cells t l)[n]? = some (nutE cells t l) := by
  unfold Nu
  exact List.getElem?_set_self g.n
theorem nu_set : (Nu S0 n cells t l).set n (nutE cells t' l') = Nu S0 n cells t' l' := by
  unfold Nu
  rw [List.set_set]
theorem nu_wf (g : Gd S0 n) : WfS (Nu S0 n cells t l) := g.w.set (nut_closed _ _ _ _)
theorem nu_gd (g : Gd S0 n) : Gd (Nu S0 n cells t l) n := ⟨nu_wf g, by simpa using g.n⟩
theorem nu_of {S : Store} (h : S[n]? = some (nutE cells t l)) : S = Nu S n cells t l := by
  obtain ⟨h1, h2⟩ := List.getElem?_eq_some_iff.mp h
  unfold Nu
  rw [← h2, List.set_getElem_self]
@[simp] theorem cut_nu (d : D) : cut (Nu S0 n cells t l) (.ok d (Nu S0 n cells t' l')) = .ok d (Nu S0 n cells t' l') := cut_len (by simp)
@[simp] theorem cut_sm (S : Store) (d : D) : cut S (.ok d S) = .ok d S := cut_same S d
theorem drw {P : D → Prop} {c : Int} {r : Store → Res D} (h : Draws n cells (2 ^ 20) P c r) (g : Gd S0 n) (h0 : 0 ≤ t) (hT : t + c ≤ 2 ^ 20) : ∃ y t' l', r (Nu S0 n cells t l) = .ok y (Nu S0 n cells t' l') ∧ P y ∧ t ≤ t' ∧ t' ≤ t + c := by
  obtain ⟨y, t', l', e, p, a, b⟩ := h (Nu S0 n cells t l) t l (nu_wf g) (nu_at g) h0 hT
  rw [nu_set] at e
  exact ⟨y, t', l', e, p, a, b⟩
theorem to_draws {P : D → Prop} {c : Int} {r : Store → Res D} (h : ∀ (S0 : Store) (t l : Int), Gd S0 n → 0 ≤ t → t + c ≤ 2 ^ 20 → ∃ y t' l', r (Nu S0 n cells t l) = .ok y (Nu S0 n cells t' l') ∧ P y ∧ t ≤ t' ∧ t' ≤ t + c) : Draws n cells (2 ^ 20) P c r := by
  intro S t l hw hn h0 hT
  have e := nu_of hn
  obtain ⟨y, t', l', q, p, a, b⟩ := h S t l ⟨hw, (List.getElem?_eq_some_iff.mp hn).1⟩ h0 hT
  rw [← e] at q
  refine ⟨y, t', l', q, p, a, b⟩
theorem comp_nu {i : Nat} {c : Int} {P : D → Prop} {L : ML} {e : ME} {ρ : Env'} {ds : List D} {t0 l0 : Int} (g : Gd S0 n) (hc : 0 ≤ c) (hP : ∀ d, P d → ∀ k, closed k d = true) (h0 : 0 ≤ t) (hT : t + c * ds.length ≤ 2 ^ 20)
    (hl : L ρ (Nu S0 n cells t0 l0) = .ok ds (Nu S0 n cells t l)) (hz : ds.length ≤ 16777216) (he : ∀ d ∈ ds, Draws n cells (2 ^ 20) P c fun S => e ((wipeR ρ [i]).set i (some d)) S) :
    ∃ ys t' l', mCut (mFrz (mComp L [i] (gNm i) mYes e)) ρ (Nu S0 n cells t0 l0) = .ok (.lst ys) (Nu S0 n cells t' l') ∧ ys.length = ds.length ∧ (∀ d ∈ ys, P d) ∧ t ≤ t' ∧ t' ≤ t + c * ds.length := by
  obtain ⟨ys, t', l', q, a, b, c, d⟩ := comp_draw (by simp) hc hP (nu_wf g) (nu_at g) h0 hT hl hz he
  rw [nu_set] at q
  exact ⟨ys, t', l', q, a, b, c, d⟩
end

/-! ### comprehensions whose items are drawn, one by one -/
inductive F2 {α β : Type} (R : α → β → Prop) : List α → List β → Prop
  | nil : F2 R [] []
  | cons {a : α} {b : β} {as : List α} {bs : List β} : R a b → F2 R as bs → F2 R (a :: as) (b :: bs)
theorem F2.len {α β : Type} {R : α → β → Prop} : ∀ {as : List α} {bs : List β}, F2 R as bs → as.length = bs.length
  | _, _, .nil => rfl
  | _, _, .cons _ h => by simp [h.len]
theorem F2.imp {α β : Type} {R R' : α → β → Prop} (hi : ∀ a b, R a b → R' a b) : ∀ {as : List α} {bs : List β}, F2 R as bs → F2 R' as bs
  | _, _, .nil => .nil
  | _, _, .cons h t => .cons (hi _ _ h) (t.imp hi)
def stepC (g : MG) (q : MB) (e : ME) (ρ : Env') (d : D) (S : Store) : Res (Option D) :=
  match g d ρ S with
  | some p => (noEx (q p.1 p.2)).bind fun b S2 => if b = true then (noEx (e p.1 S2)).bind fun y S3 => .ok (some y) S3 else .ok none S2
  | none => .bad
theorem compL_cons (n : Nat) (g : MG) (q : MB) (e : ME) (ρ : Env') (d : D) (ds : List D) (S : Store) : compL n g q e ρ (d :: ds) S = (stepC g q e ρ d S).bind fun o S3 => match o with
    | some y => (resO (pushAt n y S3) S3).bind fun S4 _ => compL n g q e ρ ds S4
    | none => compL n g q e ρ ds S3 := by
  unfold stepC
  simp only [compL]
  cases g d ρ S with
  | none => rfl
  | some p =>
    simp only
    cases hq : noEx (q p.1 p.2) with
    | bad => rfl
    | ex c ks vs S2 => rfl
    | ok b S2 =>
      simp only [bind_ok]
      by_cases hb : b = true
      · rw [if_pos hb, if_pos hb]
        cases he : noEx (e p.1 S2) with
        | bad => rfl
        | ex c ks vs S2 => rfl
        | ok y S3 => rfl
      · rw [if_neg hb, if_neg hb]
        rfl
section
variable {S0 : Store} {n : Nat} {cells : List Int}
theorem nu_app {t l : Int} {x : Store} (h : n < S0.length) : Nu (S0 ++ x) n cells t l = Nu S0 n cells t l ++ x := by
  unfold Nu
  rw [List.set_append_left _ _ h]
theorem gd_app {e : Ent} (g : Gd S0 n) (he : closedE (S0.length + 1) e = true) : Gd (S0 ++ [e]) n := ⟨g.w.app he, by simp; have := g.n; omega⟩
theorem compL_nu {g : MG} {q : MB} {e : ME} {ρ : Env'} {c : Int} {R : D → Option D → Prop} (gd : Gd S0 n) (hc : 0 ≤ c) : ∀ (ds acc : List D) (t l : Int), acc.length + ds.length ≤ 16777216 → 0 ≤ t → t + c * ds.length ≤ 2 ^ 20 → (∀ d ∈ acc, ∀ k, closed k d = true) →
    (∀ d ∈ ds, ∀ (S1 : Store) (t l : Int), Gd S1 n → 0 ≤ t → t + c ≤ 2 ^ 20 → ∃ o t' l', stepC g q e ρ d (Nu S1 n cells t l) = .ok o (Nu S1 n cells t' l') ∧ R d o ∧ t ≤ t' ∧ t' ≤ t + c ∧ ∀ y, o = some y → ∀ k, closed k y = true) →
    ∃ os t' l', compL S0.length g q e ρ ds (Nu (S0 ++ [.lst acc]) n cells t l) = .ok () (Nu (S0 ++ [.lst (acc ++ os.filterMap id)]) n cells t' l') ∧ F2 R ds os ∧ t ≤ t' ∧ t' ≤ t + c * ds.length ∧ ∀ d ∈ acc ++ os.filterMap id, ∀ k, closed k d = true
  | [], acc, t, l, _, _, _, ha, _ => ⟨[], t, l, by simp [compL], .nil, Int.le_refl _, by simp, by simpa using ha⟩
  | d :: ds, acc, t, l, hz, h0, hT, ha, he => by
    simp only [List.length_cons] at hz
    have hexp : c * ((d :: ds).length : Int) = c + c * (ds.length : Int) := by
      rw [List.length_cons, Int.natCast_succ, Int.mul_add, Int.mul_one, Int.add_comm]
    have hcd : 0 ≤ c * (ds.length : Int) := Int.mul_nonneg hc (by omega)
    rw [hexp] at hT
    have gd1 : Gd (S0 ++ [.lst acc]) n := gd_app gd (closedL_all fun d hd => ha d hd _)
    obtain ⟨o, t1, l1, e1, p1, a1, b1, c1⟩ := he d List.mem_cons_self (S0 ++ [.lst acc]) t l gd1 h0 (by omega)
    rw [compL_cons, e1]
    simp only [bind_ok]
    cases o with
    | none =>
      obtain ⟨os, t2, l2, e2, p2, a2, b2, c2⟩ := compL_nu gd hc ds acc t1 l1 (by omega) (by omega) (by omega) ha fun d' hd' => he d' (List.mem_cons_of_mem _ hd')
      exact ⟨none :: os, t2, l2, by simpa using e2, .cons p1 p2, by omega, by rw [hexp]; omega, by simpa using c2⟩
    | some y =>
      have hat : (Nu (S0 ++ [.lst acc]) n cells t1 l1)[S0.length]? = some (.lst acc) := by rw [nu_app gd.n, List.getElem?_append_right (by simp)]; simp
      have hset : (Nu (S0 ++ [.lst acc]) n cells t1 l1).set S0.length (.lst (acc ++ [y])) = Nu (S0 ++ [.lst (acc ++ [y])]) n cells t1 l1 := by
        rw [nu_app gd.n, nu_app gd.n, List.set_append_right _ _ (by simp)]
        simp
      have ha2 : ∀ d ∈ acc ++ [y], ∀ k, closed k d = true := fun d hd => by
        rcases List.mem_append.mp hd with q | q
        · exact ha d q
        · rw [List.mem_singleton.mp q]; exact c1 y rfl
      obtain ⟨os, t2, l2, e2, p2, a2, b2, c2⟩ := compL_nu gd hc ds (acc ++ [y]) t1 l1 (by simp; omega) (by omega) (by omega) ha2 fun d' hd' => he d' (List.mem_cons_of_mem _ hd')
      refine ⟨some y :: os, t2, l2, ?_, .cons p1 p2, by omega, by rw [hexp]; omega, by simpa using c2⟩
      simp only [pushAt_ok hat (show acc.length < 16777216 by omega), resO_some, bind_ok, hset, e2]
      simp
/-- [e for g in l if q] -/
theorem comp_nuO {L : ML} {vs : List Nat} {g : MG} {q : MB} {e : ME} {ρ : Env'} {c : Int} {R : D → Option D → Prop} {ds : List D} {t0 l0 t l : Int} (gd : Gd S0 n) (hc : 0 ≤ c) (h0 : 0 ≤ t) (hT : t + c * ds.length ≤ 2 ^ 20)
    (hl : L ρ (Nu S0 n cells t0 l0) = .ok ds (Nu S0 n cells t l)) (hz : ds.length ≤ 16777216)
    (he : ∀ d ∈ ds, ∀ (S1 : Store) (t l : Int), Gd S1 n → 0 ≤ t → t + c ≤ 2 ^ 20 → ∃ o t' l', stepC g q e (wipeR ρ vs) d (Nu S1 n cells t l) = .ok o (Nu S1 n cells t' l') ∧ R d o ∧ t ≤ t' ∧ t' ≤ t + c ∧ ∀ y, o = some y → ∀ k, closed k y = true) :
    ∃ os t' l', mCut (mFrz (mComp L vs g q e)) ρ (Nu S0 n cells t0 l0) = .ok (.lst (os.filterMap id)) (Nu S0 n cells t' l') ∧ F2 R ds os ∧ t ≤ t' ∧ t' ≤ t + c * ds.length := by
  obtain ⟨os, t2, l2, e2, p2, a2, b2, c2⟩ := compL_nu (cells := cells) gd hc ds [] t l (by simpa using hz) h0 hT (by simp) he
  refine ⟨os, t2, l2, ?_, p2, a2, b2⟩
  rw [List.nil_append] at e2 c2
  show cut (Nu S0 n cells t0 l0) ((mComp L vs g q e ρ (Nu S0 n cells t0 l0)).bind frzD) = _
  unfold mComp
  rw [hl]
  have hS : Nu S0 n cells t l ++ [Ent.lst []] = Nu (S0 ++ [.lst []]) n cells t l := (nu_app gd.n).symm
  have hat : (Nu (S0 ++ [.lst (os.filterMap id)]) n cells t2 l2)[S0.length]? = some (.lst (os.filterMap id)) := by rw [nu_app gd.n, List.getElem?_append_right (by simp)]; simp
  have hset : (Nu (S0 ++ [.lst (os.filterMap id)]) n cells t2 l2).set S0.length .dead = Nu S0 n cells t2 l2 ++ [.dead] := by
    rw [nu_app gd.n, List.set_append_right _ _ (by simp)]
    simp
  simp only [bind_ok, nu_len, hS, e2, frzD, hat, hset]
  refine cut_take ?_ (by simp) ?_
  · simp only [closed]
    exact closedL_all fun d hd => c2 d hd _
  · intro x hx
    have := nu_wf (cells := cells) (t := t2) (l := l2) gd x hx
    simpa using this
/-- .. every item giving one -/
theorem comp_nuS {L : ML} {vs : List Nat} {g : MG} {e : ME} {ρ : Env'} {c : Int} {R : D → D → Prop} {ds : List D} {t0 l0 t l : Int} (gd : Gd S0 n) (hc : 0 ≤ c) (h0 : 0 ≤ t) (hT : t + c * ds.length ≤ 2 ^ 20)
    (hl : L ρ (Nu S0 n cells t0 l0) = .ok ds (Nu S0 n cells t l)) (hz : ds.length ≤ 16777216) (hP : ∀ x d, R x d → ∀ k, closed k d = true)
    (he : ∀ d ∈ ds, ∃ ρd, (∀ S, g d (wipeR ρ vs) S = some (ρd, S)) ∧ ∀ (S1 : Store) (t l : Int), Gd S1 n → 0 ≤ t → t + c ≤ 2 ^ 20 → ∃ y t' l', e ρd (Nu S1 n cells t l) = .ok y (Nu S1 n cells t' l') ∧ R d y ∧ t ≤ t' ∧ t' ≤ t + c) :
    ∃ ys t' l', mCut (mFrz (mComp L vs g mYes e)) ρ (Nu S0 n cells t0 l0) = .ok (.lst ys) (Nu S0 n cells t' l') ∧ F2 R ds ys ∧ t ≤ t' ∧ t' ≤ t + c * ds.length := by
  obtain ⟨os, t2, l2, e2, p2, a2, b2⟩ := comp_nuO (R := fun d o => ∃ y, o = some y ∧ R d y) (vs := vs) (g := g) (q := mYes) (e := e) gd hc h0 hT hl hz fun d hd S1 t l g1 h1 h2 => by
    obtain ⟨ρd, hg, hd'⟩ := he d hd
    obtain ⟨y, t', l', e1, r1, a1, b1⟩ := hd' S1 t l g1 h1 h2
    refine ⟨some y, t', l', ?_, ⟨y, rfl, r1⟩, a1, b1, fun z hz k => by cases hz; exact hP _ _ r1 k⟩
    unfold stepC
    rw [hg]
    simp [e1]
  refine ⟨os.filterMap id, t2, l2, e2, ?_, a2, b2⟩
  clear e2 hT hl hz he b2
  induction p2 with
  | nil => exact .nil
  | cons h1 _ ih =>
    obtain ⟨y, rfl, r⟩ := h1
    exact .cons r ih
end
/-! ### loops that only look -/
theorem forL_keep {g : MG} {b : MS} {I : Env' → Prop} : ∀ (ds : List D), (∀ d ∈ ds, ∀ ρ, I ρ → ∀ S, ∃ ρ1 ρ', g d ρ S = some (ρ1, S) ∧ b ρ1 S = .nx ρ' S ∧ I ρ') → ∀ ρ, I ρ → ∀ S, ∃ ρ', forL g b ds ρ S = .nx ρ' S ∧ I ρ'
  | [], _, ρ, hi, S => ⟨ρ, rfl, hi⟩
  | d :: ds, h, ρ, hi, S => by
    obtain ⟨ρ1, ρ2, e1, e2, h2⟩ := h d List.mem_cons_self ρ hi S
    obtain ⟨ρ3, e3, h3⟩ := forL_keep ds (fun d' hd' => h d' (List.mem_cons_of_mem _ hd')) ρ2 h2 S
    refine ⟨ρ3, ?_, h3⟩
    simp only [forL, e1, srGo_some, seq_nx, e2, turn_nx, e3]
theorem mul_two {l : List D} (h : l.length ≤ 1000) (S : Store) : mulD (.lst l) (.int 2) S = .ok (.lst (l ++ l)) S := by
  have h1 : l.length * 2 ≤ 16777216 := by omega
  simp [mulD, lstD, h1, List.replicate]
end Z

set_option Elab.async false
set_option linter.all false
set_option maxRecDepth 100000
set_option maxHeartbeats 4000000
set_option autoImplicit false
namespace Z
open PySem PySem.Spec L2 TL

/-! ## texts by their signs -/
def sx (l : List Nat) : Str := ⟨l.toArray⟩
theorem tl_sx (l : List Nat) : tl (sx l) = l := rfl
theorem sx_tl (x : Str) : sx (tl x) = x := mk_tl x
theorem sx_len (l : List Nat) : (sx l).length = l.length := by rw [len_tl]; rfl
theorem sx_inj {l m : List Nat} (h : sx l = sx m) : l = m := by rw [← tl_sx l, h]; rfl
theorem sx_eq {l m : List Nat} : (sx l = sx m) ↔ l = m := ⟨sx_inj, fun h => by rw [h]⟩
theorem sx_app (l m : List Nat) : sx l ++ sx m = sx (l ++ m) := ext_tl (by rw [tl_append]; rfl)
theorem sx_of {x : Str} {l : List Nat} (h : tl x = l) : x = sx l := by rw [← h, sx_tl]
theorem sx_nil : sx [] = Str.empty := rfl
theorem lit_sx (s : String) : (Str.ofString s) = sx (s.toList.map Char.toNat) := sx_of (tl_ofString s)
theorem len_sx {l : List Nat} (h : l.length ≤ 1000) (S : Store) : lenD (.str (sx l)) S = .ok (.int l.length) S := by
  unfold lenD
  simp only [sx_len]
  exact if_pos (Nat.le_trans h (by decide))
theorem cut_from (l : List Nat) (k : Nat) : cutS (sx l) (some (k : Int)) none = sx (l.drop k) := by
  show (⟨_⟩ : Str) = ⟨_⟩
  congr 2
  rw [sx_len, HT.sIx_nat, HT.sIx_none]
  show (l.drop _).take _ = _
  by_cases h : k ≤ l.length
  · rw [Nat.min_eq_left h, List.take_of_length_le (by rw [List.length_drop]; omega)]
  · rw [Nat.min_eq_right (by omega), List.drop_of_length_le (show l.length ≤ l.length by omega), List.drop_of_length_le (show l.length ≤ k by omega), List.take_nil]
theorem cut_to (l : List Nat) (k : Nat) : cutS (sx l) none (some (k : Int)) = sx (l.take k) := by
  show (⟨_⟩ : Str) = ⟨_⟩
  congr 2
  rw [sx_len, HT.sIx_nat, HT.sIx_none]
  show (l.drop 0).take _ = _
  rw [List.drop_zero, Nat.sub_zero]
  by_cases h : k ≤ l.length
  · rw [Nat.min_eq_left h]
  · rw [Nat.min_eq_right (by omega), List.take_of_length_le (show l.length ≤ l.length by omega), List.take_of_length_le (show l.length ≤ k by omega)]
theorem slice_from {l : List Nat} (h : l.length ≤ 1000) {k : Nat} {i : Int} (hi : i = k) (S : Store) : sliceD (.str (sx l)) (some i) none S = .ok (.str (sx (l.drop k))) S := by
  subst hi
  unfold sliceD
  simp only [sx_len, cut_from]
  exact if_pos (Nat.le_trans h (by decide))
theorem slice_to {l : List Nat} (h : l.length ≤ 1000) {k : Nat} {i : Int} (hi : i = k) (S : Store) : sliceD (.str (sx l)) none (some i) S = .ok (.str (sx (l.take k))) S := by
  subst hi
  unfold sliceD
  simp only [sx_len, cut_to]
  exact if_pos (Nat.le_trans h (by decide))
theorem eq_sx (l m : List Nat) (S : Store) : eqD (.str (sx l)) (.str (sx m)) S = .ok (.bl (decide (l = m))) S := by
  by_cases h : l = m
  · subst h
    simp [eqD, eqB, eqScal]
  · have : ¬ sx l = sx m := fun z => h (sx_inj z)
    simp [eqD, eqB, eqScal, this, h]
theorem ne_sx (l m : List Nat) (S : Store) : neD (.str (sx l)) (.str (sx m)) S = .ok (.bl (!decide (l = m))) S := by
  by_cases h : l = m
  · subst h
    simp [neD, eqB, eqScal]
  · have : ¬ sx l = sx m := fun z => h (sx_inj z)
    simp [neD, eqB, eqScal, this, h]
theorem ix_sx {c : Nat} {r : List Nat} (h : (c :: r).length ≤ 1000) (S : Store) : ixD (.str (sx (c :: r))) (.int 0) S = .ok (.str (sx [c])) S := by
  have e : (sx (c :: r)).length ≤ sizeLine := by rw [sx_len]; exact Nat.le_trans h (by decide)
  unfold ixD
  simp only [if_pos e]
  have : atI (sx (c :: r)).cps.toList 0 = some c := by
    show atI (c :: r) 0 = some c
    simp [atI, ixN]
  rw [this]
  rfl
theorem add_sx {l m : List Nat} (h : l.length + m.length ≤ 1000) (S : Store) : addD (.str (sx l)) (.str (sx m)) S = .ok (.str (sx (l ++ m))) S := by
  unfold addD
  simp only [sx_len, sx_app]
  exact if_pos (Nat.le_trans h (by decide))
theorem signs_sx (l : List Nat) : signs (sx l) = l.map fun c => .str (sx [c]) := rfl
theorem in_sx (c : Nat) (z : Str) (S : Store) : inD (.str (sx [c])) (.str z) S = .ok (.bl (decide (c ∈ tl z))) S := rfl
theorem notIn_sx (c : Nat) (z : Str) (S : Store) : notInD (.str (sx [c])) (.str z) S = .ok (.bl (!decide (c ∈ tl z))) S := rfl
theorem len_of (x : Str) : (tl x).length = x.length := (len_tl x).symm

@[simp] theorem ev_meth (T : String) (f : D → List D → Store → Res D) (o : ME) (l : ML) (ρ : Env') (S : Store) : mMeth T f o l ρ S = (o ρ S).bind fun x S1 => if tyD T S1 x = true then (l ρ S1).bind fun ds S2 => f x ds S2 else .bad := rfl
@[simp] theorem tyD_str (S : Store) (x : Str) : tyD "str" S (.str x) = true := rfl
/-! ### digits -/
def dig (c : Nat) : Bool := decide (48 ≤ c ∧ c ≤ 57)
theorem dig_in (c : Nat) : decide (c ∈ tl (Str.ofString "0123456789")) = dig c := by
  rw [tl_ofString]
  unfold dig
  rw [decide_eq_decide]
  show c ∈ [48, 49, 50, 51, 52, 53, 54, 55, 56, 57] ↔ _
  constructor
  · intro h
    simp at h
    omega
  · intro h
    simp
    omega
theorem dig_in2 (c : Nat) : decide (c ∈ (Str.ofString "0123456789").cps) = dig c := by
  rw [← dig_in, decide_eq_decide]
  exact Array.mem_toList_iff.symm
@[simp] theorem asInt_int (i : Int) : asInt (.int i) = some i := rfl
theorem bls_mapA {α : Type} {f : α → Bool} : ∀ l : List α, blsD (l.map fun d => D.bl (f d)) = some (l.map f)
  | [] => rfl
  | d :: l => by simp [blsD, bls_mapA l]
theorem all_mapA {α : Type} (f : α → Bool) (l : List α) (S : Store) : allD (.lst (l.map fun d => D.bl (f d))) S = .ok (.bl (l.all f)) S := by
  simp [allD, lstD, bls_mapA]
theorem any_mapA {α : Type} (f : α → Bool) (l : List α) (S : Store) : anyD (.lst (l.map fun d => D.bl (f d))) S = .ok (.bl (l.any f)) S := by
  simp [anyD, lstD, bls_mapA]
def figs : List Nat → List Nat
  | 45 :: r => r
  | l => l
theorem figs_len : ∀ l : List Nat, (figs l).length ≤ l.length
  | [] => Nat.le_refl _
  | c :: r => by unfold figs; split <;> simp_all
theorem figs_min (r : List Nat) : figs (45 :: r) = r := rfl
theorem figs_ne {l : List Nat} (h : l.take 1 ≠ [45]) : figs l = l := by
  unfold figs
  split
  · exact absurd rfl h
  · rfl
def rdB (l : List Nat) : Bool := !(figs l).isEmpty && decide ((figs l).length ≤ 60) && (figs l).all dig && !((figs l).take 1 == [48] && l != [48])
def rdI (l : List Nat) : Option Int := if rdB l = true then some ((intText? (sx l)).getD 0) else none
def optD : Option Int → D
  | some i => .int i
  | none => .non
theorem alldig {l : List Nat} (h : l.all dig = true) : NumText.AllDigits l := fun c hc => by
  have := List.all_eq_true.mp h c hc
  simpa [dig] using this
theorem rd_text {l : List Nat} (h : rdB l = true) : l.length ≤ 61 ∧ ∃ n, intText? (sx l) = some n ∧ rdI l = some n := by
  have hh := h
  unfold rdB at h
  simp only [Bool.and_eq_true, Bool.not_eq_true', decide_eq_true_eq, List.isEmpty_eq_false_iff] at h
  obtain ⟨⟨⟨h1, h2⟩, h3⟩, _⟩ := h
  have hl : l.length ≤ 61 := by
    cases l with
    | nil => simp
    | cons c r =>
      by_cases e : c = 45
      · subst e
        rw [figs_min] at h2
        simp; omega
      · rw [figs_ne (by simpa using e)] at h2
        omega
  refine ⟨hl, ?_⟩
  unfold rdI
  rw [if_pos hh]
  by_cases e : l.take 1 = [45]
  · obtain ⟨r, rfl⟩ : ∃ r, l = 45 :: r := by
      cases l with
      | nil => simp at e
      | cons c r => simp at e; subst e; exact ⟨r, rfl⟩
    rw [figs_min] at h1 h3
    have := intText_neg (x := sx (45 :: r)) (cs := r) rfl (alldig h3) h1 (by rw [sx_len]; omega)
    exact ⟨_, this, by rw [this]; rfl⟩
  · rw [figs_ne e] at h1 h3
    have := intText_digits (x := sx l) (alldig h3) h1 (by rw [sx_len]; omega)
    exact ⟨_, this, by rw [this]; rfl⟩
theorem rd_int {l : List Nat} (h : rdB l = true) (S : Store) : intSD (.str (sx l)) S = .ok (optD (rdI l)) S := by
  obtain ⟨hl, n, e1, e2⟩ := rd_text h
  unfold intSD
  simp only [e1, sx_len, e2]
  exact if_pos (by omega)
theorem rd_none {l : List Nat} (h : ¬ rdB l = true) : rdI l = none := if_neg h
theorem rd_free {l : List Nat} {n : Int} (h : rdI l = some n) : 47 ∉ l := by
  have hb : rdB l = true := by
    unfold rdI at h
    split at h
    · assumption
    · cases h
  unfold rdB at hb
  simp only [Bool.and_eq_true] at hb
  have hd := alldig hb.1.2
  intro hm
  have : 47 ∈ figs l := by
    cases l with
    | nil => exact absurd hm (by simp)
    | cons c r =>
      by_cases e : c = 45
      · subst e
        rw [figs_min]
        simpa using hm
      · rw [figs_ne (by simpa using e)]
        exact hm
  have := hd 47 this
  omega
theorem fold_lt : ∀ (l : List Nat) (a : Nat), NumText.AllDigits l → l.foldl (fun acc c => acc * 10 + (c - 48)) a < (a + 1) * 10 ^ l.length
  | [], a, _ => by simp
  | c :: r, a, h => by
    have hc := h c (by simp)
    have := fold_lt r (a * 10 + (c - 48)) (fun d hd => h d (by simp [hd]))
    simp only [List.foldl_cons, List.length_cons]
    refine Nat.lt_of_lt_of_le this ?_
    rw [Nat.pow_succ', ← Nat.mul_assoc]
    exact Nat.mul_le_mul_right _ (by omega)
theorem digitsVal_lt {l : List Nat} {k : Nat} (h : NumText.AllDigits l) (hk : l.length ≤ k) : NumText.digitsVal l < 10 ^ k := by
  have := fold_lt l 0 h
  rw [Nat.zero_add, Nat.one_mul] at this
  exact Nat.lt_of_lt_of_le this (Nat.pow_le_pow_right (by decide) hk)
theorem rd_bound {l : List Nat} {n : Int} (h : rdI l = some n) : n.natAbs < 10 ^ 60 := by
  have hb : rdB l = true := by
    unfold rdI at h
    split at h
    · assumption
    · cases h
  obtain ⟨hl, m, e1, e2⟩ := rd_text hb
  rw [h] at e2
  cases e2
  unfold rdB at hb
  simp only [Bool.and_eq_true, Bool.not_eq_true', decide_eq_true_eq, List.isEmpty_eq_false_iff] at hb
  obtain ⟨⟨⟨h1, h2⟩, h3⟩, _⟩ := hb
  by_cases e : l.take 1 = [45]
  · obtain ⟨r, rfl⟩ : ∃ r, l = 45 :: r := by
      cases l with
      | nil => simp at e
      | cons c r => simp at e; subst e; exact ⟨r, rfl⟩
    rw [figs_min] at h1 h2 h3
    have := intText_neg (x := sx (45 :: r)) (cs := r) rfl (alldig h3) h1 (by rw [sx_len]; simp; omega)
    rw [this] at e1
    cases e1
    have := digitsVal_lt (alldig h3) h2
    omega
  · rw [figs_ne e] at h1 h2 h3
    have := intText_digits (x := sx l) (alldig h3) h1 (by rw [sx_len]; omega)
    rw [this] at e1
    cases e1
    have := digitsVal_lt (alldig h3) h2
    show (((NumText.digitsVal l : Nat) : Int)).natAbs < _
    omega
/-! ### the text of an integer -/
def numT (i : Int) : List Nat := if 0 ≤ i then numL i.toNat else 45 :: numL (-i).toNat
theorem tl_int (i : Int) : tl (Str.ofString (toString i)) = numT i := by
  unfold numT
  split
  · rename_i h
    have : i = ((i.toNat : Nat) : Int) := by omega
    rw [this, tl_num]
    rfl
  · rename_i h
    obtain ⟨m, rfl⟩ : ∃ m, i = Int.negSucc m := by
      cases i with
      | ofNat a => exact absurd (Int.natCast_nonneg a) h
      | negSucc m => exact ⟨m, rfl⟩
    have e : toString (Int.negSucc m) = "-" ++ toString (((m + 1 : Nat) : Int)) := rfl
    rw [e, tl_ofString, String.toList_append, List.map_append, ← tl_ofString, ← tl_ofString, tl_num]
    rfl
theorem str_int (i : Int) : (Str.ofString (toString i)) = sx (numT i) := sx_of (tl_int i)
theorem numL_long : ∀ (k : Nat) {n : Nat}, 10 ^ k ≤ n → k < (numL n).length
  | 0, n, _ => List.length_pos_iff.mpr (numL_ne n)
  | k + 1, n, h => by
    have h10 : 10 ≤ n := Nat.le_trans (by have : 0 < 10 ^ k := Nat.pow_pos (by decide); rw [Nat.pow_succ]; omega) h
    rw [numL_step h10, List.length_append]
    have := numL_long k (n := n / 10) (by rw [Nat.pow_succ] at h; omega)
    simp; omega
theorem numL_head : ∀ n : Nat, (numL n).take 1 = [48] → n = 0 := by
  intro n
  induction n using Nat.strongRecOn with
  | _ n ih =>
    by_cases h : n < 10
    · rw [numL_lt h]
      intro e
      simp at e
      exact e
    · rw [numL_step (by omega), List.take_append_of_le_length (List.length_pos_iff.mpr (numL_ne _))]
      intro e
      have := ih (n / 10) (by omega) e
      omega
theorem numL_zero : numL 0 = [48] := numL_lt (by decide)
theorem figs_numL (n : Nat) : figs (numL n) = numL n := figs_ne fun e => by
  have h : 45 ∈ numL n := by
    have : (45 : Nat) ∈ (numL n).take 1 := by rw [e]; simp
    exact List.mem_of_mem_take this
  exact numL_free (by omega) h
theorem figs_numT (i : Int) : figs (numT i) = numL i.natAbs := by
  unfold numT
  split
  · rw [figs_numL, show i.toNat = i.natAbs by omega]
  · rw [figs_min, show (-i).toNat = i.natAbs by omega]
theorem numL_all (n : Nat) : (numL n).all dig = true := List.all_eq_true.mpr fun c hc => by
  have := numL_digits n c hc
  simpa [dig] using this
theorem rd_num {i : Int} (h : i.natAbs < 10 ^ 60) : rdI (numT i) = some i := by
  have hB : rdB (numT i) = true := by
    unfold rdB
    rw [figs_numT, numL_all]
    have h1 := numL_ne i.natAbs
    have h2 := numL_len (n := i.natAbs) (k := 60) (by decide) h
    by_cases h3 : (numL i.natAbs).take 1 = [48]
    · have h4 := numL_head _ h3
      have h5 : i = 0 := by omega
      subst h5
      simp [numT, numL_zero]
    · simp [h1, h2, h3]
  obtain ⟨_, n, e1, e2⟩ := rd_text hB
  rw [e2]
  have hl : (numL i.natAbs).length ≤ 60 := numL_len (by decide) h
  unfold numT at e1
  split at e1
  · rename_i hp
    rw [show i.toNat = i.natAbs by omega] at e1
    have := intText_digits (x := sx (numL i.natAbs)) (numL_digits _) (numL_ne _) (by rw [sx_len]; omega)
    rw [this] at e1
    cases e1
    show some ((NumText.digitsVal (numL i.natAbs) : Nat) : Int) = _
    rw [numL_val]
    congr 1
    omega
  · rename_i hp
    rw [show (-i).toNat = i.natAbs by omega] at e1
    have := intText_neg (x := sx (45 :: numL i.natAbs)) (cs := numL i.natAbs) rfl (numL_digits _) (numL_ne _) (by rw [sx_len]; simp; omega)
    rw [this] at e1
    cases e1
    rw [numL_val]
    congr 1
    omega
theorem rd_long {i : Int} (h : 10 ^ 60 ≤ i.natAbs) : rdI (numT i) = none := rd_none fun z => by
  have := numL_long 60 h
  unfold rdB at z
  rw [figs_numT] at z
  simp at z
  omega
theorem numT_free (i : Int) : 47 ∉ numT i := by
  unfold numT
  split
  · exact numL_free (by omega)
  · intro h
    rcases List.mem_cons.mp h with h | h
    · omega
    · exact numL_free (by omega) h
theorem numT_len {i : Int} {k : Nat} (hk : 0 < k) (h : i.natAbs < 10 ^ k) : (numT i).length ≤ k + 1 := by
  unfold numT
  split
  · have := numL_len (n := i.toNat) hk (by omega)
    omega
  · have := numL_len (n := (-i).toNat) hk (by omega)
    simp; omega
theorem str_ok {i : Int} (h : i.natAbs < 10 ^ 100) (S : Store) : strD (.int i) S = .ok (.str (sx (numT i))) S := by
  unfold strD
  simp only [str_int]
  exact if_pos (log_lt (k := 1920) (Nat.lt_trans h (by decide +kernel)) (by decide))
theorem fmt_ok {i : Int} (h : i.natAbs < 10 ^ 100) (S : Store) : fmtD (.int i) S = .ok (.str (sx (numT i))) S := by
  unfold fmtD
  simp only [str_int]
  exact if_pos (log_lt (k := 1920) (Nat.lt_trans h (by decide +kernel)) (by decide))
/-! ### the text of a number -/
def numText (x : Rat) : List Nat := if x.den = 1 then numT x.num else numT x.num ++ 47 :: numT x.den
theorem joined_ok {a b : ME} {i j : Int} {ρ : Env'} {S : Store} (ha : a ρ S = .ok (.int i) S) (hb : b ρ S = .ok (.int j) S) (hi : i.natAbs < 10 ^ 100) (hj : j.natAbs < 10 ^ 100) :
    mJoined [mUn fmtD a, mC (.str (Str.ofString "/")), mUn fmtD b] ρ S = .ok (.str (sx (numT i ++ 47 :: numT j))) S := by
  have h1 := numT_len (by decide) hi
  have h2 := numT_len (by decide) hj
  have e0 : Str.empty = sx [] := rfl
  have e1 : Str.ofString "/" = sx [47] := lit_sx "/"
  have z : sizeLine = 16777216 := rfl
  have f1 := fmt_ok hi
  have f2 := fmt_ok hj
  have k1 : (sx ([] ++ numT i)).length ≤ sizeLine := by rw [sx_len]; simp; omega
  have k2 : (sx ([] ++ numT i ++ [47])).length ≤ sizeLine := by rw [sx_len]; simp; omega
  have k3 : (sx ([] ++ numT i ++ [47] ++ numT j)).length ≤ sizeLine := by rw [sx_len]; simp; omega
  unfold mJoined
  simp only [mJs, mUn, mC, ha, hb, Res.bind, f1, f2, e0, e1, sx_app, if_pos k1, if_pos k2, if_pos k3]
  simp
/-! ### bars -/
theorem bar_tl : tl (Str.ofString "/") = 47 :: [] := tl_ofString "/"
theorem bar_len : ((Str.ofString "/").length == 0) = false := by rw [len_tl, bar_tl]; rfl
theorem part_free {l : List Nat} (h : 47 ∉ l) : Txt.partition (sx l) (Str.ofString "/") = (sx l, Str.empty, Str.empty) := partition_none bar_tl (by rw [tl_sx]; exact h)
theorem part_bar {a b : List Nat} (h : 47 ∉ a) : Txt.partition (sx (a ++ 47 :: b)) (Str.ofString "/") = (sx a, Str.ofString "/", sx b) := by
  have : sx (a ++ 47 :: b) = sx a ++ Str.ofString "/" ++ sx b := ext_tl (by rw [tl_append, tl_append, bar_tl, tl_sx, tl_sx, tl_sx]; simp)
  rw [this]
  exact partition_app bar_tl (by rw [tl_sx]; exact h)
theorem split_bar (l : List Nat) : Txt.split (sx l) (Str.ofString "/") = (spl [47] 0 [] l).map sx := by
  refine map_tl_inj ?_
  rw [split_spl _ _ (by rw [bar_tl]; simp) (kind_ok (by decide +kernel)), bar_tl, tl_sx, List.map_map]
  have : (tl ∘ sx) = id := rfl
  rw [this, List.map_id]
theorem spl_free {l : List Nat} (h : 47 ∉ l) : spl [47] 0 [] l = [l] := spl_last1 h
theorem spl_bar {a b : List Nat} (h : 47 ∉ a) : spl [47] 0 [] (a ++ 47 :: b) = a :: spl [47] 0 [] b := spl_part1 (S := []) h
theorem spl_ne (l : List Nat) : ∃ a r, spl [47] 0 [] l = a :: r := by
  by_cases h : 47 ∈ l
  · obtain ⟨a, b, rfl, ha⟩ := List.eq_append_cons_of_mem h
    exact ⟨_, _, spl_bar ha⟩
  · exact ⟨_, _, spl_free h⟩
theorem splitD_ok {l : List Nat} (h : l.length ≤ 1000) (S : Store) : splitD (.str (sx l)) [.str (Str.ofString "/")] S = .ok (.lst ((spl [47] 0 [] l).map fun x => D.str (sx x))) S := by
  unfold splitD
  have hz : ((Str.ofString "/").length == 0) = false ∧ (sx l).length + 2 ≤ sizeLine := ⟨bar_len, by rw [sx_len]; have : sizeLine = 16777216 := rfl; omega⟩
  simp only [if_pos hz, split_bar, List.map_map]
  rfl
theorem partD_free {l : List Nat} (h : l.length ≤ 1000) (hf : 47 ∉ l) (S : Store) : partitionD (.str (sx l)) [.str (Str.ofString "/")] S = .ok (.tup [.str (sx l), .str (sx []), .str (sx [])]) S := by
  unfold partitionD
  have hz : ((Str.ofString "/").length == 0) = false ∧ (sx l).length ≤ sizeLine := ⟨bar_len, by rw [sx_len]; have : sizeLine = 16777216 := rfl; omega⟩
  simp only [if_pos hz, part_free hf]
  rfl
theorem partD_bar {a b : List Nat} (h : (a ++ 47 :: b).length ≤ 1000) (hf : 47 ∉ a) (S : Store) : partitionD (.str (sx (a ++ 47 :: b))) [.str (Str.ofString "/")] S = .ok (.tup [.str (sx a), .str (sx [47]), .str (sx b)]) S := by
  unfold partitionD
  have hz : ((Str.ofString "/").length == 0) = false ∧ (sx (a ++ 47 :: b)).length ≤ sizeLine := ⟨bar_len, by rw [sx_len]; have : sizeLine = 16777216 := rfl; omega⟩
  simp only [if_pos hz, part_bar hf]
  have : (Str.ofString "/") = sx [47] := lit_sx "/"
  rw [this]
end Z

set_option Elab.async false
set_option linter.all false
set_option maxRecDepth 100000
set_option maxHeartbeats 4000000
set_option autoImplicit false
/-! printed by gen.py: what each def means -/
namespace Z
open PySem PySem.Spec L2
abbrev c_LaneError : Nat := 0
abbrev c_BadNumber : Nat := 1
abbrev c_BadText : Nat := 2
def ancL : Nat → List Nat := fun c => [[0], [1, 0], [2, 0]].getD c []
def subL (c d : Nat) : Bool := (ancL c).contains d
def styL (c : Nat) (t : String) : Bool := ["ValueError", "Exception", "BaseException", "object"].contains t
def tabL : Tab := tabX 3 [] subL styL
noncomputable def b_is_integer : MS := (sRet (mAndV (mCall (isiM tabL) (mConsL (mVar 0) (mConsL (mC (.ty "int")) mNilL))) (mNotV (mCall (isiM tabL) (mConsL (mVar 0) (mConsL (mC (.ty "bool")) mNilL))))))
noncomputable def m_is_integer : MF := cutM (runDef 1 1 b_is_integer)
noncomputable def b_is_within : MS := (sSeq (sIf (mNotT (mTst (mCall m_is_integer (mConsL (mVar 0) mNilL)))) (sRet (mC (.bl false))) sPass) (sRet (mAndV (mOrV (mBin isD (mVar 1) (mC .non)) (mBin leD (mVar 1) (mVar 0))) (mOrV (mBin isD (mVar 2) (mC .non)) (mBin leD (mVar 0) (mVar 2))))))
noncomputable def m_is_within : MF := cutM (runDef 3 3 b_is_within)
noncomputable def b_common : MS := (sSeq (sPar 0 1 (mConsL (mCall (f1 absD) (mConsL (mVar 0) mNilL)) (mConsL (mCall (f1 absD) (mConsL (mVar 1) mNilL)) mNilL))) (sSeq (sWhile (mBlT (mBin gtD (mVar 1) (mC (.int 0)))) (sPar 0 1 (mConsL (mVar 1) (mConsL (mBin modD (mVar 0) (mVar 1)) mNilL)))) (sRet (mVar 0))))
noncomputable def m_common : MF := cutM (runDef 2 2 b_common)
noncomputable def b_is_number : MS := (sSeq (sIf (mTst (mCall m_is_integer (mConsL (mVar 0) mNilL))) (sRet (mC (.bl true))) sPass) (sSeq (sIf (mOrT (mNotT (mTst (mCall (isiM tabL) (mConsL (mVar 0) (mConsL (mTup (mConsL (mC (.ty "list")) (mConsL (mC (.ty "tuple")) mNilL))) mNilL))))) (mOrT (mBlT (mBin neD (mCall (f1 lenD) (mConsL (mVar 0) mNilL)) (mC (.int 2)))) (mNotT (mTst (mCall m_is_integer (mConsL (mBin ixD (mVar 0) (mC (.int 0))) mNilL)))))) (sRet (mC (.bl false))) sPass) (sRet (mAndV (mCall m_is_within (mConsL (mBin ixD (mVar 0) (mC (.int 1))) (mConsL (mC (.int 2)) (mConsL (mC .non) mNilL)))) (mBin eqD (mCall m_common (mConsL (mBin ixD (mVar 0) (mC (.int 0))) (mConsL (mBin ixD (mVar 0) (mC (.int 1))) mNilL))) (mC (.int 1)))))))
noncomputable def m_is_number : MF := cutM (runDef 1 1 b_is_number)
noncomputable def b_kept : MS := (sRet (mIf (mTst (mCall (isiM tabL) (mConsL (mVar 0) (mConsL (mTup (mConsL (mC (.ty "list")) (mConsL (mC (.ty "tuple")) mNilL))) mNilL)))) (mCall (f1 tupD) (mConsL (mVar 0) mNilL)) (mVar 0)))
noncomputable def m_kept : MF := cutM (runDef 1 1 b_kept)
noncomputable def b_need_number : MS := (sSeq (sIf (mNotT (mTst (mCall m_is_number (mConsL (mVar 0) mNilL)))) (sRaise 1 ["part"] 1 0 [.ps 0] (mConsL (mVar 1) mNilL) mNilL) sPass) (sRet (mCall m_kept (mConsL (mVar 0) mNilL))))
noncomputable def m_need_number : MF := cutM (runDef 2 2 b_need_number)
noncomputable def b_figures_in : MS := (sSeq (sAsg (mIf (mBlT (mBin eqD (mSlice (mVar 0) mNoP (mPart (mC (.int 1)))) (mC (.str ("-" : Str))))) (mSlice (mVar 0) (mPart (mC (.int 1))) mNoP) (mVar 0)) (gNm 1)) (sSeq (sIf (mOrT (mBlT (mBin eqD (mVar 1) (mC (.str ("" : Str))))) (mOrT (mBlT (mBin gtD (mCall (f1 lenD) (mConsL (mVar 1) mNilL)) (mC (.int 60)))) (mNotT (mTst (mCall (f1 allD) (mConsL (mCut (mFrz (mComp (mIterS (mVar 1)) [2] (gNm 2) mYes (mBin inD (mVar 2) (mC (.str ("0123456789" : Str))))))) mNilL)))))) (sRet (mC .non)) sPass) (sSeq (sIf (mAndT (mBlT (mBin eqD (mBin ixD (mVar 1) (mC (.int 0))) (mC (.str ("0" : Str))))) (mBlT (mBin neD (mVar 0) (mC (.str ("0" : Str)))))) (sRet (mC .non)) sPass) (sRet (mCall (f1 intSD) (mConsL (mVar 0) mNilL))))))
noncomputable def m_figures_in : MF := cutM (runDef 1 3 b_figures_in)
noncomputable def b_written : MS := (sSeq (sAsg (mMeth "str" partitionD (mVar 0) (mConsL (mC (.str ("/" : Str))) mNilL)) (gMany 3 (gsCons (gNm 1) (gsCons (gNm 2) (gsCons (gNm 3) gsNil))))) (sSeq (sIf (mBlT (mBin eqD (mVar 2) (mC (.str ("" : Str))))) (sRet (mCall m_figures_in (mConsL (mVar 0) mNilL))) sPass) (sSeq (sAsg (mTup (mConsL (mCall m_figures_in (mConsL (mVar 1) mNilL)) (mConsL (mCall m_figures_in (mConsL (mVar 3) mNilL)) mNilL))) (gNm 4)) (sRet (mIf (mAndT (mBlT (mBin isNotD (mBin ixD (mVar 4) (mC (.int 0))) (mC .non))) (mAndT (mBlT (mBin isNotD (mBin ixD (mVar 4) (mC (.int 1))) (mC .non))) (mTst (mCall m_is_number (mConsL (mVar 4) mNilL))))) (mVar 4) (mC .non))))))
noncomputable def m_written : MF := cutM (runDef 1 5 b_written)
noncomputable def b_parts_of : MS := (sRet (mIf (mTst (mCall (isiM tabL) (mConsL (mVar 0) (mConsL (mC (.ty "int")) mNilL)))) (mTup (mConsL (mVar 0) (mConsL (mC (.int 1)) mNilL))) (mTup (mConsL (mBin ixD (mVar 0) (mC (.int 0))) (mConsL (mBin ixD (mVar 0) (mC (.int 1))) mNilL)))))
noncomputable def m_parts_of : MF := cutM (runDef 1 1 b_parts_of)
noncomputable def b_text_in : MS := (sSeq (sAsg (mCall m_parts_of (mConsL (mVar 0) mNilL)) (gMany 2 (gsCons (gNm 1) (gsCons (gNm 2) gsNil)))) (sRet (mIf (mBlT (mBin eqD (mVar 2) (mC (.int 1)))) (mCall (f1 strD) (mConsL (mVar 1) mNilL)) (mJoined [(mUn fmtD (mVar 1)), (mC (.str ("/" : Str))), (mUn fmtD (mVar 2))]))))
noncomputable def m_text_in : MF := cutM (runDef 1 3 b_text_in)
noncomputable def b_number_text : MS := (sRet (mCall m_text_in (mConsL (mCall m_need_number (mConsL (mVar 0) (mConsL (mC (.str ("value" : Str))) mNilL))) mNilL)))
noncomputable def m_number_text : MF := cutM (runDef 1 1 b_number_text)
noncomputable def b_number_of : MS := (sSeq (sAsg (mIf (mTst (mCall (isiM tabL) (mConsL (mVar 0) (mConsL (mC (.ty "str")) mNilL)))) (mCall m_written (mConsL (mVar 0) mNilL)) (mC .non)) (gNm 1)) (sSeq (sIf (mOrT (mBlT (mBin isD (mVar 1) (mC .non))) (mNotT (mTst (mCall m_is_number (mConsL (mVar 1) mNilL))))) (sRaise 2 ["line", "item"] 2 0 [.ps 0, .ps 1] (mConsL (mC (.int 0)) (mConsL (mC (.int 0)) mNilL)) mNilL) sPass) (sRet (mVar 1))))
noncomputable def m_number_of : MF := cutM (runDef 1 2 b_number_of)
noncomputable def b__law_quill : MS := (sRet (mLoc (mConsL (mCut (mFrz (mComp (mIter (mSlice (mVar 0) mNoP (mPart (mC (.int 61))))) [1] (gNm 1) mYes (mCall (f1 intD) (mConsL (mVar 1) mNilL))))) (mConsL (mC (.int 0)) (mConsL (mC (.int 0)) mNilL)))))
noncomputable def m__law_quill : MF := cutM (runDef 1 2 b__law_quill)
noncomputable def b__law_scratch : MS := (sSeq (sIf (mBlT (mBin gtD (mBin ixD (mVar 0) (mC (.int 2))) (mC (.int 0)))) (sSeq (sAsg (mCall (f1 intD) (mConsL (mBin ixD (mVar 0) (mC (.int 2))) mNilL)) (gNm 2)) (sSeq (sAsg (mBin fdivD (mVar 2) (mVar 1)) (gSet (mVar 0) (mC (.int 2)))) (sRet (mBin modD (mCall (f1 intD) (mConsL (mVar 2) mNilL)) (mVar 1))))) sPass) (sSeq (sAsg (mBin ixD (mVar 0) (mC (.int 1))) (gNm 3)) (sSeq (sAsg (mBin addD (mVar 3) (mC (.int 1))) (gSet (mVar 0) (mC (.int 1)))) (sSeq (sAsg (mBin addD (mBin mulD (mC (.int 108161)) (mVar 3)) (mC (.int 8161))) (gNm 4)) (sSeq (sIf (mBlT (mBin neD (mBin ixD (mVar 0) (mC (.int 0))) (mLst mNilL))) (sAsg (mBin ixD (mBin ixD (mVar 0) (mC (.int 0))) (mBin modD (mCall (f1 intD) (mConsL (mVar 3) mNilL)) (mCall (f1 lenD) (mConsL (mBin ixD (mVar 0) (mC (.int 0))) mNilL)))) (gNm 4)) sPass) (sSeq (sIf (mAndT (mBlT (mBin ltD (mVar 3) (mCall (f1 lenD) (mConsL (mBin ixD (mVar 0) (mC (.int 0))) mNilL)))) (mBlT (mBin geD (mCall (f1 absD) (mConsL (mVar 4) mNilL)) (mBin powD (mC (.int 10)) (mC (.int 18)))))) (sSeq (sAsg (mBin addD (mBin mulD (mC (.int 2)) (mBin subD (mCall (f1 absD) (mConsL (mCall (f1 intD) (mConsL (mVar 4) mNilL)) mNilL)) (mBin powD (mC (.int 10)) (mC (.int 18))))) (mCall (f1 intD) (mConsL (mBin ltD (mVar 4) (mC (.int 0))) mNilL))) (gNm 2)) (sSeq (sAsg (mBin fdivD (mVar 2) (mVar 1)) (gSet (mVar 0) (mC (.int 2)))) (sRet (mBin modD (mCall (f1 intD) (mConsL (mVar 2) mNilL)) (mVar 1))))) sPass) (sSeq (sAsg (mBin modD (mCall (f1 intD) (mConsL (mBin powD (mBin addD (mBin addD (mBin modD (mCall (f1 intD) (mConsL (mVar 4) mNilL)) (mC (.int 2147483563))) (mBin mulD (mC (.int 85147)) (mVar 3))) (mC (.int 8161))) (mC (.int 5))) mNilL)) (mC (.int 2147483587))) (gNm 5)) (sSeq (sAsg (mBin modD (mCall (f1 intD) (mConsL (mBin powD (mBin addD (mBin addD (mBin mulD (mVar 5) (mBin addD (mBin mulD (mC (.int 2)) (mVar 3)) (mC (.int 8161)))) (mBin mulD (mBin mulD (mC (.int 108161)) (mVar 3)) (mVar 3))) (mC (.int 85147))) (mC (.int 3))) mNilL)) (mC (.int 2147483579))) (gNm 5)) (sRet (mBin modD (mCall (f1 intD) (mConsL (mBin fdivD (mVar 5) (mC (.int 64))) mNilL)) (mVar 1)))))))))))
noncomputable def m__law_scratch : MF := cutM (runDef 2 6 b__law_scratch)
noncomputable def b__law_pick : MS := (sRet (mBin ixD (mVar 1) (mCall m__law_scratch (mConsL (mVar 0) (mConsL (mCall (f1 lenD) (mConsL (mVar 1) mNilL)) mNilL)))))
noncomputable def m__law_pick : MF := cutM (runDef 2 2 b__law_pick)
noncomputable def b__law_low : MS := (sSeq (sPar 2 3 (mConsL (mCall (f1 absD) (mConsL (mVar 0) mNilL)) (mConsL (mCall (f1 absD) (mConsL (mVar 1) mNilL)) mNilL))) (sSeq (sWhile (mBlT (mBin gtD (mVar 3) (mC (.int 0)))) (sPar 2 3 (mConsL (mVar 3) (mConsL (mBin modD (mCall (f1 intD) (mConsL (mVar 2) mNilL)) (mVar 3)) mNilL)))) (sSeq (sAsg (mIf (mBlT (mBin gtD (mVar 1) (mC (.int 0)))) (mC (.int 1)) (mUn negD (mC (.int 1)))) (gNm 4)) (sRet (mTup (mConsL (mBin fdivD (mBin mulD (mVar 4) (mVar 0)) (mVar 2)) (mConsL (mBin fdivD (mBin mulD (mVar 4) (mVar 1)) (mVar 2)) mNilL)))))))
noncomputable def m__law_low : MF := cutM (runDef 2 5 b__law_low)
noncomputable def b__law_told : MS := (sSeq (sAsg (mCall m__law_low (mConsL (mBin ixD (mVar 0) (mC (.int 0))) (mConsL (mBin ixD (mVar 0) (mC (.int 1))) mNilL))) (gMany 2 (gsCons (gNm 1) (gsCons (gNm 2) gsNil)))) (sRet (mIf (mBlT (mBin eqD (mVar 2) (mC (.int 1)))) (mVar 1) (mTup (mConsL (mVar 1) (mConsL (mVar 2) mNilL))))))
noncomputable def m__law_told : MF := cutM (runDef 1 3 b__law_told)
noncomputable def b__law_integer : MS := (sSeq (sAsg (mIf (mBlT (mBin eqD (mSlice (mVar 0) mNoP (mPart (mC (.int 1)))) (mC (.str ("-" : Str))))) (mSlice (mVar 0) (mPart (mC (.int 1))) mNoP) (mVar 0)) (gNm 1)) (sSeq (sIf (mOrT (mBlT (mBin eqD (mVar 1) (mC (.str ("" : Str))))) (mOrT (mBlT (mBin gtD (mCall (f1 lenD) (mConsL (mVar 1) mNilL)) (mC (.int 60)))) (mBlT (mBin neD (mCut (mFrz (mComp (mIterS (mVar 1)) [2] (gNm 2) (mBlT (mBin notInD (mVar 2) (mC (.str ("0123456789" : Str))))) (mVar 2)))) (mLst mNilL))))) (sRet (mC .non)) sPass) (sRet (mIf (mAndT (mBlT (mBin eqD (mBin ixD (mVar 1) (mC (.int 0))) (mC (.str ("0" : Str))))) (mBlT (mBin neD (mVar 0) (mC (.str ("0" : Str)))))) (mC .non) (mCall (f1 intSD) (mConsL (mVar 0) mNilL))))))
noncomputable def m__law_integer : MF := cutM (runDef 1 3 b__law_integer)
noncomputable def b__law_read : MS := (sSeq (sAsg (mMeth "str" splitD (mVar 0) (mConsL (mC (.str ("/" : Str))) mNilL)) (gNm 1)) (sSeq (sIf (mBlT (mBin eqD (mCall (f1 lenD) (mConsL (mVar 1) mNilL)) (mC (.int 1)))) (sRet (mCall m__law_integer (mConsL (mVar 0) mNilL))) sPass) (sSeq (sIf (mBlT (mBin neD (mCall (f1 lenD) (mConsL (mVar 1) mNilL)) (mC (.int 2)))) (sRet (mC .non)) sPass) (sSeq (sPar 2 3 (mConsL (mCall m__law_integer (mConsL (mBin ixD (mVar 1) (mC (.int 0))) mNilL)) (mConsL (mCall m__law_integer (mConsL (mBin ixD (mVar 1) (mC (.int 1))) mNilL)) mNilL))) (sSeq (sIf (mOrT (mBlT (mBin isD (mVar 2) (mC .non))) (mOrT (mBlT (mBin isD (mVar 3) (mC .non))) (mBlT (mBin ltD (mVar 3) (mC (.int 2)))))) (sRet (mC .non)) sPass) (sRet (mIf (mBlT (mBin eqD (mCall m__law_low (mConsL (mVar 2) (mConsL (mVar 3) mNilL))) (mTup (mConsL (mVar 2) (mConsL (mVar 3) mNilL))))) (mTup (mConsL (mVar 2) (mConsL (mVar 3) mNilL))) (mC .non))))))))
noncomputable def m__law_read : MF := cutM (runDef 1 4 b__law_read)
noncomputable def b__law_number : MS := (sSeq (sAsg (mCall m__law_pick (mConsL (mVar 0) (mConsL (mLst (mConsL (mC (.int 9)) (mConsL (mC (.int 99)) (mConsL (mBin powD (mC (.int 10)) (mC (.int 20))) (mConsL (mBin powD (mC (.int 10)) (mC (.int 60))) mNilL))))) mNilL))) (gNm 1)) (sRet (mCall m__law_low (mConsL (mBin mulD (mCall m__law_scratch (mConsL (mVar 0) (mConsL (mVar 1) mNilL))) (mCall m__law_pick (mConsL (mVar 0) (mConsL (mLst (mConsL (mC (.int 1)) (mConsL (mUn negD (mC (.int 1))) mNilL))) mNilL)))) (mConsL (mBin addD (mC (.int 1)) (mCall m__law_scratch (mConsL (mVar 0) (mConsL (mCall m__law_pick (mConsL (mVar 0) (mConsL (mLst (mConsL (mC (.int 1)) (mConsL (mC (.int 6)) (mConsL (mCall minD (mConsL (mVar 1) (mConsL (mBin powD (mC (.int 10)) (mC (.int 59))) mNilL))) mNilL)))) mNilL))) mNilL)))) mNilL)))))
noncomputable def m__law_number : MF := cutM (runDef 1 2 b__law_number)
noncomputable def b__law_bent : MS := (sSeq (sPar 2 3 (mConsL (mCall m__law_scratch (mConsL (mVar 0) (mConsL (mBin addD (mCall (f1 lenD) (mConsL (mVar 1) mNilL)) (mC (.int 1))) mNilL))) (mConsL (mCall m__law_scratch (mConsL (mVar 0) (mConsL (mC (.int 4)) mNilL))) mNilL))) (sSeq (sAsg (mCall m__law_pick (mConsL (mVar 0) (mConsL (mLst (mConsL (mC (.str ("-" : Str))) (mConsL (mC (.str ("/" : Str))) (mConsL (mC (.str ("0" : Str))) (mConsL (mC (.str ("1" : Str))) (mConsL (mC (.str ("2" : Str))) (mConsL (mC (.str (" " : Str))) (mConsL (mC (.str ("+" : Str))) (mConsL (mC (.str ("." : Str))) (mConsL (mC (.str ("a" : Str))) (mConsL (mBin mulZ (mC (.str ("9" : Str))) (mC (.int 58))) (mConsL (mC (.str ("\n" : Str))) (mConsL (mC (.str ("_" : Str))) (mConsL (mC (.str ("/2" : Str))) (mConsL (mC (.str ("/1" : Str))) (mConsL (mC (.str ("/0" : Str))) (mConsL (mC (.str ("/-2" : Str))) (mConsL (mC (.str ("--" : Str))) mNilL)))))))))))))))))) mNilL))) (gNm 4)) (sSeq (sIf (mBlT (mBin eqD (mVar 3) (mC (.int 0)))) (sRet (mBin addD (mBin addD (mSlice (mVar 1) mNoP (mPart (mVar 2))) (mVar 4)) (mSlice (mVar 1) (mPart (mVar 2)) mNoP))) sPass) (sSeq (sIf (mBlT (mBin eqD (mVar 3) (mC (.int 1)))) (sRet (mBin addD (mSlice (mVar 1) mNoP (mPart (mVar 2))) (mSlice (mVar 1) (mPart (mBin addD (mVar 2) (mC (.int 1)))) mNoP))) sPass) (sSeq (sIf (mBlT (mBin eqD (mVar 3) (mC (.int 2)))) (sRet (mBin addD (mBin addD (mSlice (mVar 1) mNoP (mPart (mVar 2))) (mVar 4)) (mSlice (mVar 1) (mPart (mBin addD (mVar 2) (mC (.int 1)))) mNoP))) sPass) (sRet (mCall m__law_pick (mConsL (mVar 0) (mConsL (mLst (mConsL (mC (.str ("1_0" : Str))) (mConsL (mC (.str ("1/1_0" : Str))) (mConsL (mC (.str ("" : Str))) (mConsL (mC (.str ("-" : Str))) (mConsL (mC (.str ("/" : Str))) (mConsL (mC (.str ("1/" : Str))) (mConsL (mC (.str ("/2" : Str))) (mConsL (mC (.str ("2/4" : Str))) (mConsL (mC (.str ("3/1" : Str))) (mConsL (mC (.str ("-0" : Str))) (mConsL (mC (.str ("-1/2" : Str))) (mConsL (mC (.str ("0/2" : Str))) (mConsL (mC (.str ("1/2/3" : Str))) (mConsL (mC (.str ("00" : Str))) (mConsL (mC (.str ("1 /2" : Str))) (mConsL (mC (.str ("6/-4" : Str))) (mConsL (mBin addD (mBin mulZ (mC (.str ("7" : Str))) (mC (.int 60))) (mC (.str ("/2" : Str)))) mNilL)))))))))))))))))) mNilL)))))))))
noncomputable def m__law_bent : MF := cutM (runDef 2 5 b__law_bent)
noncomputable def b__law_heard (ma : ME) : MS := (sSeq (sAsg (mTup (mConsL (mC .non) (mConsL (mC .non) mNilL))) (gMany 2 (gsCons (gNm 1) (gsCons (gNm 2) gsNil)))) (sSeq (sTryK (exqX 3 subL 0) 3 2 (sAsg ma (gNm 1))) (sSeq (sIf (mTst (mCall (isiM tabL) (mConsL (mVar 2) (mConsL (mC (.cls 2)) mNilL)))) (sRet (mLst (mConsL (mC (.str ("text" : Str))) (mConsL (mUn (attrX [2] "line") (mVar 2)) (mConsL (mUn (attrX [2] "item") (mVar 2)) mNilL))))) sPass) (sSeq (sIf (mTst (mCall (isiM tabL) (mConsL (mVar 2) (mConsL (mC (.cls 1)) mNilL)))) (sRet (mLst (mConsL (mC (.str ("number" : Str))) (mConsL (mUn (attrX [1] "part") (mVar 2)) mNilL)))) sPass) (sRet (mIf (mBlT (mBin isD (mVar 2) (mC .non))) (mVar 1) (mLst (mConsL (mC (.str ("other" : Str))) mNilL))))))))
noncomputable def b_law : MS := (sSeq (sAsg (mCall m__law_quill (mConsL (mVar 0) mNilL)) (gNm 1)) (sSeq (sFor (mRange1 (mConsL (mC (.int 4)) mNilL)) (gNm 2) (sSeq (sAsg (mCall m__law_number (mConsL (mVar 1) mNilL)) (gNm 3)) (sSeq (sAsg (mCall m__law_told (mConsL (mVar 3) mNilL)) (gNm 4)) (sSeq (sAsg (mIf (mBlT (mBin eqD (mBin ixD (mVar 3) (mC (.int 1))) (mC (.int 1)))) (mCall (f1 strD) (mConsL (mBin ixD (mVar 3) (mC (.int 0))) mNilL)) (mJoined [(mUn fmtD (mBin ixD (mVar 3) (mC (.int 0)))), (mC (.str ("/" : Str))), (mUn fmtD (mBin ixD (mVar 3) (mC (.int 1))))])) (gNm 5)) (sSeq (sAsg (mIf (mTst (mCall (isiM tabL) (mConsL (mVar 4) (mConsL (mC (.ty "tuple")) mNilL)))) (mCall (f1 listD) (mConsL (mVar 4) mNilL)) (mVar 4)) (gNm 6)) (sSeq (sIf (mBlT (mBin neD (mCall (f1 reprZ) (mConsL (mLst (mConsL (mCall m_number_text (mConsL (mVar 4) mNilL)) (mConsL (mCallK m_number_text 0 1 [.kw 0] [] mNilL (mConsL (mVar 6) mNilL)) mNilL))) mNilL)) (mCall (f1 reprZ) (mConsL (mLst (mConsL (mVar 5) (mConsL (mVar 5) mNilL))) mNilL)))) (sRet (mC (.bl false))) sPass) (sSeq (sIf (mBlT (mBin neD (mCall (f1 reprZ) (mConsL (mLst (mConsL (mCall m_number_of (mConsL (mVar 5) mNilL)) (mConsL (mCallK m_number_of 0 1 [.kw 0] [] mNilL (mConsL (mVar 5) mNilL)) mNilL))) mNilL)) (mCall (f1 reprZ) (mConsL (mLst (mConsL (mVar 4) (mConsL (mVar 4) mNilL))) mNilL)))) (sRet (mC (.bl false))) sPass) (sFor (mRange1 (mConsL (mC (.int 4)) mNilL)) (gNm 7) (sSeq (sAsg (mCall m__law_bent (mConsL (mVar 1) (mConsL (mVar 5) mNilL))) (gNm 8)) (sSeq (sAsg (mCall m__law_read (mConsL (mVar 8) mNilL)) (gNm 9)) (sIf (mBlT (mBin neD (mCall (f1 reprZ) (mConsL (mCut (mLam 4 b__law_heard 13 [8] (mCall m_number_of (mConsL (mVar 8) mNilL)))) mNilL)) (mCall (f1 reprZ) (mConsL (mIf (mBlT (mBin isD (mVar 9) (mC .non))) (mLst (mConsL (mC (.str ("text" : Str))) (mConsL (mC (.int 0)) (mConsL (mC (.int 0)) mNilL)))) (mVar 9)) mNilL)))) (sRet (mC (.bl false))) sPass))))))))))) (sSeq (sAsg (mBin addD (mBin mulD (mBin powD (mC (.int 10)) (mC (.int 60))) (mBin addD (mC (.int 1)) (mCall m__law_scratch (mConsL (mVar 1) (mConsL (mBin powD (mC (.int 10)) (mC (.int 9))) mNilL))))) (mCall m__law_scratch (mConsL (mVar 1) (mConsL (mC (.int 99)) mNilL)))) (gNm 10)) (sSeq (sFor (mIter (mTup (mConsL (mTup (mConsL (mVar 10) (mConsL (mCall (f1 strD) (mConsL (mVar 10) mNilL)) mNilL))) (mConsL (mTup (mConsL (mTup (mConsL (mUn negD (mC (.int 1))) (mConsL (mVar 10) mNilL))) (mConsL (mBin addD (mC (.str ("-1/" : Str))) (mCall (f1 strD) (mConsL (mVar 10) mNilL))) mNilL))) (mConsL (mTup (mConsL (mTup (mConsL (mBin addD (mBin mulD (mC (.int 2)) (mVar 10)) (mC (.int 1))) (mConsL (mC (.int 2)) mNilL))) (mConsL (mBin addD (mCall (f1 strD) (mConsL (mBin addD (mBin mulD (mC (.int 2)) (mVar 10)) (mC (.int 1))) mNilL)) (mC (.str ("/2" : Str)))) mNilL))) mNilL))))) (gMany 2 (gsCons (gNm 4) (gsCons (gNm 5) gsNil))) (sIf (mOrT (mBlT (mBin neD (mCall m_number_text (mConsL (mVar 4) mNilL)) (mVar 5))) (mBlT (mBin neD (mCut (mLam 4 b__law_heard 13 [5] (mCall m_number_of (mConsL (mVar 5) mNilL)))) (mLst (mConsL (mC (.str ("text" : Str))) (mConsL (mC (.int 0)) (mConsL (mC (.int 0)) mNilL))))))) (sRet (mC (.bl false))) sPass)) (sSeq (sAsg (mCall m__law_pick (mConsL (mVar 1) (mConsL (mLst (mConsL (mC .non) (mConsL (mC (.int 7)) (mConsL (mTup (mConsL (mC (.int 7)) (mConsL (mC (.int 2)) mNilL))) (mConsL (mC (.bl true)) (mConsL (mLst (mConsL (mC (.str ("7" : Str))) mNilL)) (mConsL (mCut (mFrz mDict0)) mNilL))))))) mNilL))) (gNm 11)) (sSeq (sAsg (mCall m__law_pick (mConsL (mVar 1) (mConsL (mLst (mConsL (mC .non) (mConsL (mC (.str ("7" : Str))) (mConsL (mTup (mConsL (mC (.int 2)) (mConsL (mC (.int 4)) mNilL))) (mConsL (mTup (mConsL (mC (.int 3)) (mConsL (mC (.int 1)) mNilL))) (mConsL (mC (.bl true)) (mConsL (mLst mNilL) (mConsL (mTup (mConsL (mC (.int 1)) (mConsL (mC (.int 0)) mNilL))) mNilL)))))))) mNilL))) (gNm 12)) (sSeq (sIf (mBlT (mBin neD (mCut (mLam 4 b__law_heard 13 [11] (mCall m_number_of (mConsL (mVar 11) mNilL)))) (mLst (mConsL (mC (.str ("text" : Str))) (mConsL (mC (.int 0)) (mConsL (mC (.int 0)) mNilL)))))) (sRet (mC (.bl false))) sPass) (sRet (mBin eqD (mCut (mLam 4 b__law_heard 13 [12] (mCall m_number_text (mConsL (mVar 12) mNilL)))) (mLst (mConsL (mC (.str ("number" : Str))) (mConsL (mC (.str ("value" : Str))) mNilL))))))))))))
noncomputable def m_law : MF := cutM (runDef 1 13 b_law)
end Z

set_option Elab.async false
set_option linter.all false
set_option maxRecDepth 100000
set_option maxHeartbeats 4000000
set_option autoImplicit false
namespace Z
open PySem PySem.Spec L2

/-! ## the package's checks and numbers -/
theorem run1 {n : Nat} {b : MS} {x r : D} {S : Store} {o : List (Option D)} (ho : [some x] ++ List.replicate (n - 1) none = o) (h : b o S = .rt r S) : cutM (runDef 1 n b) [x] S = .ok r S := by
  subst ho
  show cut S (runDef 1 n b [x] S) = _
  have : runDef 1 n b [x] S = .ok r S := by
    unfold runDef
    rw [if_pos (show [x].length = 1 from rfl)]
    simp only [List.map_cons, List.map_nil, h]
  rw [this]
  exact cut_same S r
mutual
/-- values of built-in kinds -/
def okD : D → Bool
  | .non => true
  | .bl _ => true
  | .int _ => true
  | .str _ => true
  | .tup l => okDs l
  | .lst l => okDs l
  | .dct _ vs => okDs vs
  | _ => false
def okDs : List D → Bool
  | [] => true
  | d :: ds => okD d && okDs ds
end
mutual
theorem okD_closed : ∀ (d : D) (k : Nat), okD d = true → closed k d = true
  | .non, _, _ => rfl
  | .bl _, _, _ => rfl
  | .int _, _, _ => rfl
  | .str _, _, _ => rfl
  | .tup l, k, h => by simp only [closed]; exact okDs_closed l k (by simpa [okD] using h)
  | .lst l, k, h => by simp only [closed]; exact okDs_closed l k (by simpa [okD] using h)
  | .dct _ l, k, h => by simp only [closed]; exact okDs_closed l k (by simpa [okD] using h)
  | .ty _, _, _ => rfl
  | .cls _, _, _ => rfl
  | .fn _, _, _ => rfl
  | .kst _, _, h => by simp [okD] at h
  | .ins _ _ _, _, h => by simp [okD] at h
  | .loc _, _, h => by simp [okD] at h
  | .exn _ _ _, _, h => by simp [okD] at h
  | .lam _ _ _ _ _, _, h => by simp [okD] at h
theorem okDs_closed : ∀ (l : List D) (k : Nat), okDs l = true → closedL k l = true
  | [], _, _ => rfl
  | d :: l, k, h => by
    simp only [okDs, Bool.and_eq_true] at h
    simp only [closedL, okD_closed d k h.1, okDs_closed l k h.2, Bool.and_self]
end
theorem okDs_mem {l : List D} (h : okDs l = true) : ∀ d ∈ l, okD d = true := by
  induction l with
  | nil => simp
  | cons a l ih =>
    simp only [okDs, Bool.and_eq_true] at h
    intro d hd
    rcases List.mem_cons.mp hd with q | q
    · rw [q]; exact h.1
    · exact ih h.2 d q
theorem okDs_of {l : List D} (h : ∀ d ∈ l, okD d = true) : okDs l = true := by
  induction l with
  | nil => rfl
  | cons a l ih => simp only [okDs, Bool.and_eq_true]; exact ⟨h a List.mem_cons_self, ih fun d hd => h d (List.mem_cons_of_mem _ hd)⟩
/-! ### isinstance of built-in kinds -/
def isI : D → Bool
  | .int _ => true
  | _ => false
def isIB : D → Bool
  | .int _ => true
  | .bl _ => true
  | _ => false
def isB : D → Bool
  | .bl _ => true
  | _ => false
def isS : D → Bool
  | .str _ => true
  | _ => false
def isT : D → Bool
  | .tup _ => true
  | _ => false
def isLT : D → Bool
  | .tup _ => true
  | .lst _ => true
  | _ => false
theorem isi_i (d : D) (S : Store) (h : okD d = true) : isiM tabL [d, .ty "int"] S = .ok (.bl (isIB d)) S := by
  cases d <;> first | (simp [okD] at h; done) | simp [isi_mk, tabL, tab0, tabX, tagD, isIB]
theorem isi_b (d : D) (S : Store) (h : okD d = true) : isiM tabL [d, .ty "bool"] S = .ok (.bl (isB d)) S := by
  cases d <;> first | (simp [okD] at h; done) | simp [isi_mk, tabL, tab0, tabX, tagD, isB]
theorem isi_s (d : D) (S : Store) (h : okD d = true) : isiM tabL [d, .ty "str"] S = .ok (.bl (isS d)) S := by
  cases d <;> first | (simp [okD] at h; done) | simp [isi_mk, tabL, tab0, tabX, tagD, isS]
theorem isi_t (d : D) (S : Store) (h : okD d = true) : isiM tabL [d, .ty "tuple"] S = .ok (.bl (isT d)) S := by
  cases d <;> first | (simp [okD] at h; done) | simp [isi_mk, tabL, tab0, tabX, tagD, isT]
theorem isi_lt (d : D) (S : Store) (h : okD d = true) : isiM tabL [d, .tup [.ty "list", .ty "tuple"]] S = .ok (.bl (isLT d)) S := by
  cases d <;> first | (simp [okD] at h; done) | simp [isi_mk2, tabL, tab0, tabX, tagD, tgsOf, tgOf, anyTab, isLT]
@[simp] theorem isI_lst (l : List D) : isI (.lst l) = false := rfl
@[simp] theorem isI_tup (l : List D) : isI (.tup l) = false := rfl
@[simp] theorem isI_int (i : Int) : isI (.int i) = true := rfl
@[simp] theorem isI_non : isI .non = false := rfl
@[simp] theorem isI_bl (i : Bool) : isI (.bl i) = false := rfl
@[simp] theorem isI_str (i : Str) : isI (.str i) = false := rfl
@[simp] theorem isI_dct (i : List Key) (j : List D) : isI (.dct i j) = false := rfl
theorem isI_eq (d : D) : (isIB d && !isB d) = isI d := by cases d <;> rfl
theorem isInt_ok (d : D) (S : Store) (h : okD d = true) : m_is_integer [d] S = .ok (.bl (isI d)) S := by
  refine run1 rfl ?_
  unfold b_is_integer
  have h1 := isi_i d S h
  have h2 := isi_b d S h
  rw [← isI_eq d]
  cases e1 : isIB d <;> cases e2 : isB d <;> simp [h1, h2, e1, e2]
/-- two integers' greatest common part -/
theorem whileG (c : MB) (b : MS) (hc : ∀ (x y : Nat) (S : Store), c [some (.int x), some (.int y)] S = .ok (decide ((0 : Int) < (y : Int))) S)
    (hb : ∀ (x y : Nat) (S : Store), 0 < y → b [some (.int x), some (.int y)] S = .nx [some (.int y), some (.int ((x % y : Nat) : Int))] S) :
    ∀ (y x : Nat) (S : Store), ∃ n, whileN c b n [some (.int x), some (.int y)] S = .nx [some (.int (Nat.gcd x y : Nat)), some (.int 0)] S := by
  intro y
  induction y using Nat.strongRecOn with
  | ind y ih =>
    intro x S
    by_cases hy : 0 < y
    · obtain ⟨n, hn⟩ := ih (x % y) (Nat.mod_lt _ hy) y S
      refine ⟨n + 1, ?_⟩
      have hy' : (0 : Int) < (y : Int) := by omega
      simp only [whileN, hc, srRes_ok, decide_eq_true hy', if_true, hb x y S hy, turn_nx, hn]
      rw [show Nat.gcd y (x % y) = Nat.gcd x y by rw [Nat.gcd_comm x y, Nat.gcd_rec y x, Nat.gcd_comm]]
    · have : y = 0 := by omega
      subst this
      have h0 := hc x 0 S
      simp at h0
      refine ⟨1, ?_⟩
      simp [whileN, h0]
theorem abs_nat (i : Int) : (if i < 0 then -i else i) = ((i.natAbs : Nat) : Int) := by
  split <;> omega
theorem common_ok (a b : Int) (S : Store) : m_common [.int a, .int b] S = .ok (.int (Nat.gcd a.natAbs b.natAbs : Nat)) S := by
  have hw : sWhile (mBlT (mBin gtD (mVar 1) (mC (.int 0)))) (sPar 0 1 (mConsL (mVar 1) (mConsL (mBin modD (mVar 0) (mVar 1)) mNilL))) [some (.int (a.natAbs : Nat)), some (.int (b.natAbs : Nat))] S = .nx [some (.int (Nat.gcd a.natAbs b.natAbs : Nat)), some (.int 0)] S := by
    obtain ⟨n, hn⟩ := whileG (mBlT (mBin gtD (mVar 1) (mC (.int 0)))) (sPar 0 1 (mConsL (mVar 1) (mConsL (mBin modD (mVar 0) (mVar 1)) mNilL))) (fun x y S => by simp) (fun x y S hy => by
      have hm : modD (.int x) (.int y) S = .ok (.int ((x % y : Nat) : Int)) S := by
        rw [modD_ok (by omega)]
        rfl
      simp [hm]) b.natAbs a.natAbs S
    exact sWhile_eq hn (by intro z; cases z)
  simp [m_common, b_common, abs_nat, hw, cut_same]
def within (d l m : D) : Bool :=
  match d with
  | .int i => (match l with | .int a => decide (a ≤ i) | _ => true) && (match m with | .int b => decide (i ≤ b) | _ => true)
  | _ => false
def bound : D → Bool
  | .non => true
  | .int _ => true
  | _ => false
theorem within_ok (d l m : D) (S : Store) (h : okD d = true) (hl : bound l = true) (hm : bound m = true) : m_is_within [d, l, m] S = .ok (.bl (within d l m)) S := by
  have h1 := isInt_ok d
  cases hd : isI d with
  | false =>
    have e : within d l m = false := by cases d <;> first | rfl | cases hd
    simp [m_is_within, b_is_within, h1 S h, hd, e, cut_same]
  | true =>
    cases d <;> first | (cases hd; done) | skip
    rename_i i
    cases l with
    | non =>
      cases m with
      | non => simp [m_is_within, b_is_within, h1 S h, isD, isNon, within, cut_same]
      | int q => simp [m_is_within, b_is_within, h1 S h, isD, isNon, within, cut_same]
      | _ => cases hm
    | int p =>
      cases m with
      | non => by_cases hp : p ≤ i <;> simp [m_is_within, b_is_within, h1 S h, isD, isNon, within, cut_same, hp]
      | int q => by_cases hp : p ≤ i <;> simp [m_is_within, b_is_within, h1 S h, isD, isNon, within, cut_same, hp]
      | _ => cases hm
    | _ => cases hl
def numB : D → Bool
  | .int _ => true
  | .lst [.int a, .int b] => decide (2 ≤ b) && decide ((Nat.gcd a.natAbs b.natAbs : Nat) = (1 : Int))
  | .tup [.int a, .int b] => decide (2 ≤ b) && decide ((Nat.gcd a.natAbs b.natAbs : Nat) = (1 : Int))
  | _ => false
theorem pair_cases (l : List D) : (∃ a b, l = [a, b]) ∨ l.length ≠ 2 := by
  match l with
  | [] => exact .inr (by simp)
  | [a] => exact .inr (by simp)
  | [a, b] => exact .inl ⟨a, b, rfl⟩
  | a :: b :: c :: r => exact .inr (by simp)
theorem at0 {α : Type} (a b : α) : atI [a, b] 0 = some a := rfl
theorem at1 {α : Type} (a b : α) : atI [a, b] 1 = some b := rfl
theorem numB_ne {l : List D} (h : l.length ≠ 2) : numB (.lst l) = false ∧ numB (.tup l) = false := by
  match l with
  | [] => exact ⟨by simp [numB], by simp [numB]⟩
  | [a] => exact ⟨by simp [numB], by simp [numB]⟩
  | [a, b] => exact absurd rfl h
  | a :: b :: c :: r => exact ⟨by simp [numB], by simp [numB]⟩
theorem numB_no {a b : D} (h : isI a = false ∨ isI b = false) : numB (.lst [a, b]) = false ∧ numB (.tup [a, b]) = false := by
  cases a <;> cases b <;> first | exact ⟨rfl, rfl⟩ | (rcases h with h | h <;> cases h)
theorem int_of {a : D} (h : isI a = true) : ∃ i, a = .int i := by
  cases a <;> first | exact ⟨_, rfl⟩ | cases h
theorem intne (x y : Int) (S : Store) : neD (.int x) (.int y) S = .ok (.bl (!decide (x = y))) S := rfl
theorem inteq (x y : Int) (S : Store) : eqD (.int x) (.int y) S = .ok (.bl (decide (x = y))) S := rfl
theorem isNum_seq {o : D} {l : List D} (ho : o = .lst l ∨ o = .tup l) (S : Store) (h : okD o = true) : m_is_number [o] S = .ok (.bl (numB o)) S := by
  have hi := isInt_ok
  have h1 : isI o = false := by rcases ho with rfl | rfl <;> rfl
  have hls : okDs l = true := by rcases ho with rfl | rfl <;> simpa [okD] using h
  have hlt := isi_lt o S h
  have e1 : isLT o = true := by rcases ho with rfl | rfl <;> rfl
  have e2 : lenD o S = .ok (.int l.length) S := by rcases ho with rfl | rfl <;> rfl
  have e3 : ∀ i : Int, ixD o (.int i) S = resO (atI l i) S := by intro i; rcases ho with rfl | rfl <;> rfl
  refine run1 rfl ?_
  unfold b_is_number
  rcases pair_cases l with ⟨a, b, rfl⟩ | hl
  · simp only [okDs, Bool.and_true, Bool.and_eq_true] at hls
    cases ha : isI a with
    | false =>
      have nn : numB o = false := by rcases ho with rfl | rfl <;> simp [numB_no (b := b) (.inl ha)]
      simp [hi o S h, h1, hlt, e1, e2, e3, intne, at0, hi a S hls.1, ha, nn]
    | true =>
      obtain ⟨i, rfl⟩ := int_of ha
      have hw := within_ok b (.int 2) .non S hls.2 rfl rfl
      cases hb : isI b with
      | false =>
        have e : within b (.int 2) .non = false := by cases b <;> first | rfl | cases hb
        have nn : numB o = false := by rcases ho with rfl | rfl <;> simp [numB_no (a := .int i) (.inr hb)]
        simp [hi o S h, h1, hlt, e1, e2, e3, intne, at0, at1, hi (.int i) S rfl, hw, e, nn]
      | true =>
        obtain ⟨j, rfl⟩ := int_of hb
        have nn : numB o = (decide (2 ≤ j) && decide ((Nat.gcd i.natAbs j.natAbs : Nat) = (1 : Int))) := by rcases ho with rfl | rfl <;> rfl
        by_cases hj : 2 ≤ j <;> simp [hi o S h, h1, hlt, e1, e2, e3, intne, inteq, at0, at1, hi (.int i) S rfl, hw, within, hj, common_ok, nn]
  · have hl' : ¬ (l.length : Int) = 2 := by omega
    have nn : numB o = false := by rcases ho with rfl | rfl <;> simp [numB_ne hl]
    simp [hi o S h, h1, hlt, e1, e2, intne, hl', nn]
theorem isNum_ok (d : D) (S : Store) (h : okD d = true) : m_is_number [d] S = .ok (.bl (numB d)) S := by
  have hi := isInt_ok
  have hlt := isi_lt d S h
  cases d with
  | lst l => exact isNum_seq (.inl rfl) S h
  | tup l => exact isNum_seq (.inr rfl) S h
  | int i =>
    refine run1 rfl ?_
    simp [b_is_number, hi (.int i) S rfl, numB]
  | non => refine run1 rfl ?_; simp [b_is_number, hi .non S rfl, hlt, isLT, numB]
  | bl b => refine run1 rfl ?_; simp [b_is_number, hi (.bl b) S rfl, hlt, isLT, numB]
  | str b => refine run1 rfl ?_; simp [b_is_number, hi (.str b) S rfl, hlt, isLT, numB]
  | dct ks vs => refine run1 rfl ?_; simp [b_is_number, hi (.dct ks vs) S h, hlt, isLT, numB]
  | _ => simp [okD] at h
/-! ### numbers -/
theorem okD_enc (x : Rat) : okD (enc x) = true := by
  unfold enc
  split <;> rfl
theorem okD_encP (x : Rat) : okD (encP x) = true := rfl
theorem okD_encL (x : Rat) : okD (encL x) = true := rfl
theorem numB_pair (x : Rat) (h : x.den ≠ 1) : numB (encP x) = true ∧ numB (encL x) = true := by
  have := x.den_nz
  have h2 : (2 : Int) ≤ x.den := by omega
  have h3 : Nat.gcd x.num.natAbs x.den = 1 := x.reduced
  constructor <;> simp [numB, encP, encL, h2, h3]
theorem numB_enc (x : Rat) : numB (enc x) = true := by
  by_cases h : x.den = 1
  · rw [enc_int x h]; rfl
  · rw [enc_tup x h]; exact (numB_pair x h).1
/-- a number as it may be handed in -/
def Hd (d : D) (x : Rat) : Prop := d = enc x ∨ (d = encL x ∧ x.den ≠ 1)
theorem Hd.ok {d : D} {x : Rat} (h : Hd d x) : okD d = true := by
  rcases h with rfl | ⟨rfl, _⟩
  · exact okD_enc x
  · rfl
theorem Hd.num {d : D} {x : Rat} (h : Hd d x) : numB d = true := by
  rcases h with rfl | ⟨rfl, h⟩
  · exact numB_enc x
  · exact (numB_pair x h).2
theorem kept_ok {d : D} {x : Rat} (h : Hd d x) (S : Store) : m_kept [d] S = .ok (enc x) S := by
  have hlt := isi_lt d S h.ok
  refine run1 rfl ?_
  unfold b_kept
  rcases h with rfl | ⟨rfl, h⟩
  · by_cases hd : x.den = 1
    · rw [enc_int x hd] at hlt ⊢
      simp [hlt, isLT]
    · rw [enc_tup x hd] at hlt ⊢
      simp [hlt, isLT, tupD]
  · rw [enc_tup x h]
    unfold encL at hlt ⊢
    simp [hlt, isLT, tupD]
theorem parts_ok (x : Rat) (S : Store) : m_parts_of [enc x] S = .ok (encP x) S := by
  have hii := isi_i (enc x) S (okD_enc x)
  refine run1 rfl ?_
  unfold b_parts_of
  by_cases hd : x.den = 1
  · rw [enc_int x hd] at hii ⊢
    simp [hii, isIB, encP, hd]
  · rw [enc_tup x hd] at hii ⊢
    simp [hii, isIB, encP, at0, at1]
theorem fdiv_gcd {a b : Int} {g : Nat} (hg : 0 < g) (hz : g < 2 ^ 8000) (S : Store) : fdivD (.int a) (.int g) S = .ok (.int (a / g)) S := fdivD_ok ⟨by omega, by
  have := log_le (n := ((g : Int)).natAbs) (k := 8000) (by rw [Int.natAbs_natCast]; exact hz)
  omega⟩
theorem itemsP (x : Rat) (S : Store) : itemsD S (encP x) = some [.int x.num, .int x.den] := rfl
theorem den_lt {k : Nat} {x : Rat} (h : Sz k x) : ((x.den : Nat) : Int).natAbs < 2 ^ k := by rw [Int.natAbs_natCast]; exact h.2
theorem den_ne (x : Rat) : ((x.den : Nat) : Int) ≠ 0 := by have := x.den_nz; omega
theorem mulD_sz {a b : Int} (h1 : a.natAbs < 2 ^ 3500) (h2 : b.natAbs < 2 ^ 3500) (S : Store) : mulD (.int a) (.int b) S = .ok (.int (a * b)) S := mulD_ok (mul_sz h1 h2 (by omega))
theorem num_ne {y : Rat} (h : y ≠ 0) : y.num ≠ 0 := fun z => h (by rw [← Rat.num_divInt_den y, z, Rat.zero_divInt])
def sgn (x y : Rat) : Int := b2n (decide (y < x)) - b2n (decide (x < y))
theorem sgn_neg {x y : Rat} : sgn x y < 0 ↔ x < y := by
  unfold sgn
  by_cases h : x < y
  · have h2 : ¬ y < x := by grind
    simp [h, h2, b2n]
  · by_cases h2 : y < x <;> simp [h, h2, b2n]
def far (x y : Rat) : Rat := if y < x then x - y else y - x
end Z

set_option Elab.async false
set_option linter.all false
set_option maxRecDepth 100000
set_option maxHeartbeats 4000000
set_option autoImplicit false
namespace Z
open PySem PySem.Spec L2

/-! ## numbers that are handed in -/
theorem cut_exx (S : Store) (c : Nat) (ks : List Str) (vs : List D) : cut S (.ex c ks vs S) = .ex c ks vs S := cut_exS S c ks vs
theorem neednum_ok {d : D} {x : Rat} (h : Hd d x) (p : D) (S : Store) : m_need_number [d, p] S = .ok (enc x) S := by
  simp [m_need_number, b_need_number, isNum_ok d S h.ok, h.num, kept_ok h, cut_same]
theorem neednum_bad {d : D} (h : okD d = true) (hn : numB d = false) (p : D) (S : Store) : m_need_number [d, p] S = .ex c_BadNumber ["part"] [p] S := by
  simp [m_need_number, b_need_number, isNum_ok d S h, hn, fill, cut_exx]
def keptD : D → D
  | .lst l => .tup l
  | d => d
theorem keptD_hd {d : D} {x : Rat} (h : Hd d x) : keptD d = enc x := by
  rcases h with rfl | ⟨rfl, h⟩
  · unfold enc
    split <;> rfl
  · rw [enc_tup x h]; rfl
/-- a row of handed numbers -/
inductive HdL : List D → List Rat → Prop
  | nil : HdL [] []
  | cons {d : D} {x : Rat} {ds : List D} {xs : List Rat} : Hd d x → HdL ds xs → HdL (d :: ds) (x :: xs)
theorem HdL.len : ∀ {ds : List D} {xs : List Rat}, HdL ds xs → ds.length = xs.length
  | _, _, .nil => rfl
  | _, _, .cons _ h => by simp [h.len]
theorem HdL.ok : ∀ {ds : List D} {xs : List Rat}, HdL ds xs → okDs ds = true
  | _, _, .nil => rfl
  | _, _, .cons a h => by simp [okDs, a.ok, h.ok]
theorem HdL.mem : ∀ {ds : List D} {xs : List Rat}, HdL ds xs → ∀ d ∈ ds, ∃ x, x ∈ xs ∧ Hd d x
  | _, _, .nil, d, h => by simp at h
  | _, _, .cons (x := x) a h, d, hd => by
    rcases List.mem_cons.mp hd with rfl | q
    · exact ⟨x, List.mem_cons_self, a⟩
    · obtain ⟨y, hy, hh⟩ := h.mem d q
      exact ⟨y, List.mem_cons_of_mem _ hy, hh⟩
theorem HdL.num : ∀ {ds : List D} {xs : List Rat}, HdL ds xs → ds.map (fun d => D.bl (numB d)) = ds.map fun _ => .bl true
  | _, _, .nil => rfl
  | _, _, .cons a h => by simp only [List.map_cons, a.num, h.num]
theorem HdL.kept : ∀ {ds : List D} {xs : List Rat}, HdL ds xs → ds.map keptD = xs.map enc
  | _, _, .nil => rfl
  | _, _, .cons a h => by simp only [List.map_cons, keptD_hd a, h.kept]
theorem HdL.enc : ∀ xs : List Rat, HdL (xs.map Z.enc) xs
  | [] => .nil
  | x :: xs => .cons (.inl rfl) (HdL.enc xs)
theorem bls_map {f : D → Bool} : ∀ l : List D, blsD (l.map fun d => .bl (f d)) = some (l.map f)
  | [] => rfl
  | d :: l => by simp [blsD, bls_map l]
theorem all_map (f : D → Bool) (l : List D) (S : Store) : allD (.lst (l.map fun d => .bl (f d))) S = .ok (.bl (l.all f)) S := by
  simp [allD, lstD, bls_map]
theorem any_map (f : D → Bool) (l : List D) (S : Store) : anyD (.lst (l.map fun d => .bl (f d))) S = .ok (.bl (l.any f)) S := by
  simp [anyD, lstD, bls_map]
theorem ne_non (i : Int) (S : Store) : neD (.int i) .non S = .ok (.bl true) S := by
  have h1 : SeqAt.shaped (.int i) = true := shaped_of (by simp [PyData.canLay0]) (by simp [PyData.depth])
  have h2 : SeqAt.shaped .none = true := by decide
  simp [neD, eqB, eqScal, toPS, lstD, toP, h1, h2, PyData.eqv]
/-- a list or a tuple -/
def SqD (o : D) (l : List D) : Prop := o = .lst l ∨ o = .tup l
theorem SqD.ok {o : D} {l : List D} (h : SqD o l) (hl : okDs l = true) : okD o = true := by rcases h with rfl | rfl <;> simpa [okD] using hl
theorem SqD.lt {o : D} {l : List D} (h : SqD o l) : isLT o = true := by rcases h with rfl | rfl <;> rfl
theorem SqD.len {o : D} {l : List D} (h : SqD o l) (S : Store) : lenD o S = .ok (.int l.length) S := by rcases h with rfl | rfl <;> rfl
theorem SqD.still {o : D} {l : List D} (h : SqD o l) : stillD o = some l := by rcases h with rfl | rfl <;> rfl
theorem neednums_all {o : D} {l : List D} (ho : SqD o l) (hl : okDs l = true) (hz : l.length ≤ 1000) (p m : D) (S : Store) :
    mCut (mFrz (mComp (mIter (mVar 0)) [3] (gNm 3) mYes (mCall m_is_number (mConsL (mVar 3) mNilL)))) [some o, some p, some m, none] S = .ok (.lst (l.map fun d => .bl (numB d))) S :=
  comp_pure (by simp [ho.still]) (by omega) (fun d hd => rfl) fun d hd S => by
    simp [wipeR, isNum_ok d S (okDs_mem hl d hd)]
theorem keptD_ok (d : D) (h : okD d = true) (S : Store) : m_kept [d] S = .ok (keptD d) S := by
  have hlt := isi_lt d S h
  refine run1 rfl ?_
  unfold b_kept
  cases d <;> first | (simp [okD] at h; done) | simp [hlt, isLT, tupD, keptD]
theorem neednums_kept {o : D} {l : List D} (ho : SqD o l) (hl : okDs l = true) (hz : l.length ≤ 1000) (p m : D) (S : Store) :
    mCut (mFrz (mComp (mIter (mVar 0)) [3] (gNm 3) mYes (mCall m_kept (mConsL (mVar 3) mNilL)))) [some o, some p, some m, none] S = .ok (.lst (l.map keptD)) S :=
  comp_pure (by simp [ho.still]) (by omega) (fun d hd => by
    have := okDs_mem hl d hd
    cases d <;> first | rfl | exact okD_closed _ _ this) fun d hd S => by
    simp [wipeR, keptD_ok d (okDs_mem hl d hd)]
theorem all_num {ds : List D} {xs : List Rat} (h : HdL ds xs) : ds.all numB = true := by
  rw [List.all_eq_true]
  intro d hd
  obtain ⟨x, _, hh⟩ := h.mem d hd
  exact hh.num
/-- how many are wanted: any, or just so many -/
def ManyOk (m : D) (n : Nat) : Prop := (m = .non ∧ 0 < n) ∨ m = .int n
end Z

set_option Elab.async false
set_option linter.all false
set_option maxRecDepth 100000
set_option maxHeartbeats 4000000
set_option autoImplicit false
namespace Z
open PySem PySem.Spec L2

theorem small_ : Small 108161 8161 2147483563 85147 2147483587 2147483579 64 := ⟨by decide, by decide, by decide, by decide, by decide, by decide, by decide⟩
theorem draw_eq : m__law_scratch = cutM (runDef 2 6 (bDrawA 108161 8161 2147483563 85147 2147483587 2147483579 64)) := rfl
theorem draw_ {n : Nat} {cells : List Int} {many : Int} (hm : 0 < many) (hm2 : many.natAbs.log2 < 9000) : Draws n cells (2 ^ 20) (fun d => ∃ r, d = .int r ∧ 0 ≤ r ∧ r < many) 1 (m__law_scratch [.loc n, .int many]) := by
  intro S t l hw hn h0 hT
  rw [draw_eq]
  obtain ⟨r, t', l', e, h1, h2, h3, h4⟩ := drawA small_ hn ⟨h0, by omega⟩ hm hm2
  exact ⟨_, t', l', e, ⟨r, rfl, h1, h2⟩, h3, h4⟩
theorem log_of {many : Int} (h : many.natAbs < 2 ^ 200) : many.natAbs.log2 < 9000 := log_small h (by decide) (by decide)
section
variable {S0 : Store} {n : Nat} {cells : List Int} {t l : Int}
/-- an int below many -/
theorem drawn {many : Int} (hm : 0 < many) (hm2 : many.natAbs < 2 ^ 200) (g : Gd S0 n) (h0 : 0 ≤ t) (hT : t + 1 ≤ 2 ^ 20) : ∃ r t' l', m__law_scratch [.loc n, .int many] (Nu S0 n cells t l) = .ok (.int r) (Nu S0 n cells t' l') ∧ 0 ≤ r ∧ r < many ∧ t ≤ t' ∧ t' ≤ t + 1 := by
  obtain ⟨y, t', l', e, ⟨r, rfl, a, b⟩, c, d⟩ := drw (draw_ (n := n) (cells := cells) hm (log_of hm2)) g h0 hT
  exact ⟨r, t', l', e, a, b, c, d⟩
/-- one of some -/
theorem picked {xs : List D} (hne : xs ≠ []) (hlen : xs.length ≤ 1000) (g : Gd S0 n) (h0 : 0 ≤ t) (hT : t + 1 ≤ 2 ^ 20) : ∃ y t' l', m__law_pick [.loc n, .lst xs] (Nu S0 n cells t l) = .ok y (Nu S0 n cells t' l') ∧ y ∈ xs ∧ t ≤ t' ∧ t' ≤ t + 1 := by
  have hpos : 0 < (xs.length : Int) := by
    cases xs with
    | nil => exact absurd rfl hne
    | cons a b => simp
  obtain ⟨r, t', l', e, a, b, c, d⟩ := drawn (cells := cells) (l := l) hpos (Nat.lt_of_le_of_lt (show ((xs.length : Int)).natAbs ≤ 1000 by omega) (by decide)) g h0 hT
  obtain ⟨v, hv, hmem⟩ := atI_of (xs := xs) a b
  refine ⟨v, t', l', ?_, hmem, c, d⟩
  simp [m__law_pick, b__law_pick, e, hv]
end
/-- the law, behind the maker -/
theorem made {ns : List Int} (hns : ns.length ≤ 63) : m__law_quill [.kst (ns.map D.int)] [] = .ok (.loc 0) (Nu [.dead] 0 (ns.take 61) 0 0) := make_ok (k := 61) hns
theorem gd0 : Gd [.dead] 0 := ⟨fun x hx => by
  rw [List.mem_singleton.mp hx]
  rfl, by decide⟩
end Z

set_option Elab.async false
set_option linter.all false
set_option maxRecDepth 100000
set_option maxHeartbeats 4000000
set_option autoImplicit false
namespace Z
open PySem PySem.Spec L2

/-! ## own fractions of the law -/
theorem whileGe (c : MB) (b : MS) (env : Nat → Nat → Env') (hc : ∀ (x y : Nat) (S : Store), c (env x y) S = .ok (decide ((0 : Int) < (y : Int))) S)
    (hb : ∀ (x y : Nat) (S : Store), 0 < y → b (env x y) S = .nx (env y (x % y)) S) :
    ∀ (y x : Nat) (S : Store), ∃ n, whileN c b n (env x y) S = .nx (env (Nat.gcd x y) 0) S := by
  intro y
  induction y using Nat.strongRecOn with
  | ind y ih =>
    intro x S
    by_cases hy : 0 < y
    · obtain ⟨n, hn⟩ := ih (x % y) (Nat.mod_lt _ hy) y S
      refine ⟨n + 1, ?_⟩
      have hy' : (0 : Int) < (y : Int) := by omega
      simp only [whileN, hc, srRes_ok, decide_eq_true hy', if_true, hb x y S hy, turn_nx, hn]
      rw [show Nat.gcd y (x % y) = Nat.gcd x y by rw [Nat.gcd_comm x y, Nat.gcd_rec y x, Nat.gcd_comm]]
    · have : y = 0 := by omega
      subst this
      have h0 := hc x 0 S
      simp at h0
      refine ⟨1, ?_⟩
      simp [whileN, h0]
theorem mod_nat (x y : Nat) (S : Store) (h : 0 < y) : modD (.int x) (.int y) S = .ok (.int ((x % y : Nat) : Int)) S := by
  rw [modD_ok (by omega)]
  rfl
theorem one_small : ((1 : Int)).natAbs < 2 ^ 3500 ∧ ((-1 : Int)).natAbs < 2 ^ 3500 := by
  have : 1 < 2 ^ 3500 := Nat.one_lt_two_pow (by omega)
  exact ⟨by simpa using this, by simpa using this⟩
theorem mul1 (a : Int) (S : Store) : mulD (.int 1) (.int a) S = .ok (.int a) S ∧ mulD (.int (-1)) (.int a) S = .ok (.int (-a)) S := by
  refine ⟨?_, ?_⟩
  · rw [mulD_ok (mul_ok (by decide)), Int.one_mul]
  · rw [mulD_ok (mul_ok (by decide)), Int.neg_mul, Int.one_mul]
theorem low_ok (a b : Int) (S : Store) (hb : b ≠ 0) (hz : b.natAbs < 2 ^ 8000) : m__law_low [.int a, .int b] S = .ok (encP (Rat.divInt a b)) S := by
  obtain ⟨g, hg, gp, a', b', ha, hbb, da, db, hc, hn⟩ := gcd_parts (a := a) hb
  have hgz : g < 2 ^ 8000 := Nat.lt_of_le_of_lt (by rw [hg]; exact Nat.le_of_dvd (by omega) (Nat.gcd_dvd_right _ _)) hz
  have hw : ∀ S, sWhile (mBlT (mBin gtD (mVar 3) (mC (.int 0)))) (sPar 2 3 (mConsL (mVar 3) (mConsL (mBin modD (mCall (f1 intD) (mConsL (mVar 2) mNilL)) (mVar 3)) mNilL))) [some (.int a), some (.int b), some (.int (a.natAbs : Nat)), some (.int (b.natAbs : Nat)), none] S = .nx [some (.int a), some (.int b), some (.int g), some (.int 0), none] S := by
    intro S
    obtain ⟨n, hn⟩ := whileGe (mBlT (mBin gtD (mVar 3) (mC (.int 0)))) (sPar 2 3 (mConsL (mVar 3) (mConsL (mBin modD (mCall (f1 intD) (mConsL (mVar 2) mNilL)) (mVar 3)) mNilL))) (fun x y => [some (.int a), some (.int b), some (.int x), some (.int y), none]) (fun x y S => by simp) (fun x y S hy => by simp [mod_nat x y S hy]) b.natAbs a.natAbs S
    rw [← hg] at hn
    exact sWhile_eq hn (by intro z; cases z)
  have f1 := fun x => fdiv_gcd (a := x) (b := b) gp hgz S
  have e0 : b = b' * g := hbb
  have hgp : 0 < (g : Int) := by omega
  have na : -a / (g : Int) = -a' := by rw [ha, ← Int.neg_mul, Int.mul_ediv_cancel _ (by omega)]
  have nb : -b / (g : Int) = -b' := by rw [hbb, ← Int.neg_mul, Int.mul_ediv_cancel _ (by omega)]
  rcases Int.lt_or_gt_of_ne hn with q | q
  · obtain ⟨e1, e2⟩ := low_neg gp ha hbb hc q
    have hbn : ¬ 0 < b := by
      have := Int.mul_neg_of_neg_of_pos q hgp
      omega
    unfold encP
    rw [e1, e2]
    simp [m__law_low, b__law_low, abs_nat, hw, hbn, mul1, f1, na, nb]
  · obtain ⟨e1, e2⟩ := low_pos gp ha hbb hc q
    have hbp : 0 < b := by
      have := Int.mul_pos q hgp
      omega
    unfold encP
    rw [e1, e2]
    simp [m__law_low, b__law_low, abs_nat, hw, hbp, mul1, f1, da, db]
theorem den_8000 {x : Rat} {k : Nat} (h : Sz k x) (hk : k ≤ 8000) : ((x.den : Nat) : Int).natAbs < 2 ^ 8000 := Nat.lt_of_lt_of_le (den_lt h) (Nat.pow_le_pow_right (by decide) hk)
theorem low_self {x : Rat} (h : Sz 3500 x) (S : Store) : m__law_low [.int x.num, .int x.den] S = .ok (encP x) S := by
  have := low_ok x.num x.den S (den_ne x) (den_8000 h (by decide))
  rw [Rat.num_divInt_den] at this
  exact this
theorem ixP0 (x : Rat) (S : Store) : ixD (encP x) (.int 0) S = .ok (.int x.num) S := rfl
theorem ixP1 (x : Rat) (S : Store) : ixD (encP x) (.int 1) S = .ok (.int x.den) S := rfl
theorem told_ok {x : Rat} (h : Sz 3500 x) (S : Store) : m__law_told [encP x] S = .ok (enc x) S := by
  by_cases hd : x.den = 1
  · rw [enc_int x hd]
    have hl := low_self h S
    have e : ((x.den : Nat) : Int) = 1 := by omega
    rw [e] at hl
    simp [m__law_told, b__law_told, ixP0, ixP1, hl, itemsP, e, inteq]
  · rw [enc_tup x hd]
    have e : ¬ ((x.den : Nat) : Int) = 1 := by omega
    simp [m__law_told, b__law_told, ixP0, ixP1, low_self h, itemsP, e, inteq]
theorem pow_ok {i j : Int} (h : 0 ≤ j ∧ j ≤ 1000000 ∧ i.natAbs < 2 ^ 64) (S : Store) : powD (.int i) (.int j) S = .ok (.int (i ^ j.toNat)) S := powD_ok h
theorem toPs_app {l : List D} {ps : List PyData} : ∀ {d : D} {p : PyData}, toP d = some p → toPs l = some ps → toPs (d :: l) = some (p :: ps) := by
  intro d p h1 h2
  simp only [toPs, h1, h2]
theorem toP_bl (b : Bool) : toP (.bl b) = some (.bool b) := rfl
theorem good_bl (b : Bool) : Good 4100 (.bool b) := ⟨rfl, by simp [PyData.depth], rfl, by simp [wt]⟩
/-- a list of good things is told by repr -/
theorem repr_list {l : List D} {ps : List PyData} {w : Nat} (h : toPs l = some ps) (hg : ∀ p ∈ ps, Good w p) (hw : 2 + ps.length * (w + 2) ≤ 16777216) (S : Store) : ∃ z, reprZ (.lst l) S = .ok (.str z) S ∧ ∀ S', reprZ (.lst l) S' = .ok (.str z) S' := by
  obtain ⟨a, b, c, d⟩ := good_list hg
  have e : ∀ S', toPS S' (.lst l) = some (.list ps) := fun S' => by simp [toPS, lstD, h]
  exact ⟨_, repr_ok (e S) (shaped_of a (by omega)) c (by omega), fun S' => repr_ok (e S') (shaped_of a (by omega)) c (by omega)⟩
theorem repr_one {x : Rat} (h : Sz 1900 x) : ∃ z, ∀ S, reprZ (enc x) S = .ok (.str z) S := by
  obtain ⟨a, b, c, d⟩ := good_encD h
  have e : ∀ S', toPS S' (enc x) = some (encD x) := fun S' => by
    unfold toPS
    rw [show lstD S' (enc x) = none by unfold enc; split <;> rfl]
    exact toP_enc x
  exact ⟨_, fun S => repr_ok (e S) (shaped_of a (by omega)) c (by omega)⟩
end Z

set_option Elab.async false
set_option linter.all false
set_option maxRecDepth 100000
set_option maxHeartbeats 4000000
set_option autoImplicit false
namespace Z
open PySem PySem.Spec L2 TL

/-! ## texts of numbers, as the package and as the law reads them -/
theorem lit_min : Str.ofString "-" = sx [45] := lit_sx "-"
theorem lit_0 : Str.ofString "0" = sx [48] := lit_sx "0"
theorem lit_no : Str.ofString "" = sx [] := lit_sx ""
theorem lit_bar : Str.ofString "/" = sx [47] := lit_sx "/"
theorem opt_non (o : Option Int) : isNon (optD o) = o.isNone := by cases o <;> rfl
theorem fig_set {l : List Nat} (h : l.length ≤ 1000) (o1 o2 : Option D) (S : Store) :
    mIf (mBlT (mBin eqD (mSlice (mVar 0) mNoP (mPart (mC (.int 1)))) (mC (.str ("-" : Str))))) (mSlice (mVar 0) (mPart (mC (.int 1))) mNoP) (mVar 0) [some (.str (sx l)), o1, o2] S = .ok (.str (sx (figs l))) S := by
  have q1 := fun S => slice_to h (k := 1) (i := 1) rfl S
  have q2 := fun S => slice_from h (k := 1) (i := 1) rfl S
  by_cases e : l.take 1 = [45]
  · obtain ⟨r, rfl⟩ : ∃ r, l = 45 :: r := by
      cases l with
      | nil => simp at e
      | cons c r => simp at e; subst e; exact ⟨r, rfl⟩
    rw [figs_min]
    simp [q1, q2, lit_min, eq_sx]
  · rw [figs_ne e]
    simp [q1, lit_min, eq_sx, e]
theorem sg_closed (l : List Nat) (k : Nat) : ∀ d ∈ signs (sx l), closed k d = true := fun d hd => by
  rw [signs_sx] at hd
  obtain ⟨c, _, rfl⟩ := List.mem_map.mp hd
  rfl
theorem figures_ok {l : List Nat} (h : l.length ≤ 1000) (S : Store) : m_figures_in [.str (sx l)] S = .ok (optD (rdI l)) S := by
  have h1 := fun S => fig_set h none none S
  have hf : (figs l).length ≤ 1000 := Nat.le_trans (figs_len l) h
  have hc : ∀ S, mCut (mFrz (mComp (mIterS (mVar 1)) [2] (gNm 2) mYes (mBin inD (mVar 2) (mC (.str ("0123456789" : Str)))))) [some (.str (sx l)), some (.str (sx (figs l))), none] S = .ok (.lst ((figs l).map fun c => .bl (dig c))) S := fun S => by
    have := comp_pure (l := mIterS (mVar 1)) (i := 2) (e := mBin inD (mVar 2) (mC (.str ("0123456789" : Str)))) (ρ := [some (.str (sx l)), some (.str (sx (figs l))), none]) (S := S) (ds := signs (sx (figs l)))
      (f := fun d => match d with | .str z => .bl (match tl z with | [c] => dig c | _ => false) | _ => .non) (by simp [mIterS]) (by rw [signs_sx]; simp; omega) (fun d hd => by
        rw [signs_sx] at hd
        obtain ⟨c, _, rfl⟩ := List.mem_map.mp hd
        rfl) (fun d hd S => by
        rw [signs_sx] at hd
        obtain ⟨c, _, rfl⟩ := List.mem_map.mp hd
        simp [wipeR, in_sx, dig_in2, tl_sx])
    rw [this, signs_sx, List.map_map]
    rfl
  have hl := fun S => len_sx hf S
  have h0 : figs l ≠ [] → ∀ S, ixD (.str (sx (figs l))) (.int 0) S = .ok (.str (sx ((figs l).take 1))) S := fun hne S => by
    cases hq : figs l with
    | nil => exact absurd hq hne
    | cons c r => exact ix_sx (by rw [hq] at hf; exact hf) S
  have n0 := fun S => eq_sx (figs l) [] S
  have n1 := fun S => eq_sx ((figs l).take 1) [48] S
  have n2 := fun S => ne_sx l [48] S
  have hi : rdB l = true → ∀ S, intSD (.str (sx l)) S = .ok (optD (rdI l)) S := fun hB S => rd_int hB S
  have hB : rdB l = (!(figs l).isEmpty && decide ((figs l).length ≤ 60) && (figs l).all dig && !((figs l).take 1 == [48] && l != [48])) := rfl
  have hR : rdI l = if rdB l = true then rdI l else none := by
    by_cases h : rdB l = true
    · rw [if_pos h]
    · rw [if_neg h, rd_none h]
  generalize rdI l = R at *
  generalize rdB l = B at *
  generalize figs l = f at *
  by_cases e1 : f = []
  · have n0' : ∀ S, eqD (.str (sx f)) (.str (sx [])) S = .ok (.bl true) S := fun S => by rw [n0, decide_eq_true e1]
    have : B = false := by rw [hB, e1]; rfl
    rw [this] at hR
    simp [m_figures_in, b_figures_in, ↓h1, lit_no, n0', hR, optD]
  · have n0' : ∀ S, eqD (.str (sx f)) (.str (sx [])) S = .ok (.bl false) S := fun S => by rw [n0, decide_eq_false e1]
    have h0 := h0 e1
    by_cases e2 : f.length ≤ 60
    · have e2' : ¬ (60 : Int) < (f.length : Int) := by omega
      by_cases e3 : f.all dig = true
      · by_cases e4 : f.take 1 = [48]
        · have n1' : ∀ S, eqD (.str (sx (f.take 1))) (.str (sx [48])) S = .ok (.bl true) S := fun S => by rw [n1, decide_eq_true e4]
          by_cases e5 : l = [48]
          · have n2' : ∀ S, neD (.str (sx l)) (.str (sx [48])) S = .ok (.bl false) S := fun S => by rw [n2, decide_eq_true e5]; rfl
            have : B = true := by rw [hB]; simp [e1, e2, e3, e4, e5]
            have hi := hi this
            clear n0 n1 n2 e4 e5 hB
            simp [m_figures_in, b_figures_in, ↓h1, ↓hc, hl, e2', all_mapA, e3, lit_0, lit_no, n0', n1', n2', h0, hi]
          · have n2' : ∀ S, neD (.str (sx l)) (.str (sx [48])) S = .ok (.bl true) S := fun S => by rw [n2, decide_eq_false e5]; rfl
            have : B = false := by rw [hB]; simp [e1, e2, e3, e4, e5]
            rw [this] at hR
            clear n0 n1 n2 e4 e5 hB
            simp [m_figures_in, b_figures_in, ↓h1, ↓hc, hl, e2', all_mapA, e3, lit_0, lit_no, n0', n1', n2', h0, hR, optD]
        · have n1' : ∀ S, eqD (.str (sx (f.take 1))) (.str (sx [48])) S = .ok (.bl false) S := fun S => by rw [n1, decide_eq_false e4]
          have : B = true := by rw [hB]; simp [e1, e2, e3, e4]
          have hi := hi this
          clear n0 n1 n2 e4 hB
          simp [m_figures_in, b_figures_in, ↓h1, ↓hc, hl, e2', all_mapA, e3, lit_0, lit_no, n0', n1', h0, hi]
      · have e3' : f.all dig = false := by simpa using e3
        have : B = false := by rw [hB]; simp [e1, e2, e3']
        rw [this] at hR
        simp [m_figures_in, b_figures_in, ↓h1, ↓hc, hl, e2', all_mapA, e3', lit_no, n0', hR, optD]
    · have e2' : (60 : Int) < (f.length : Int) := by omega
      have : B = false := by rw [hB]; simp [e1, e2]
      rw [this] at hR
      simp [m_figures_in, b_figures_in, ↓h1, hl, e2', lit_no, n0', hR, optD]
end Z

set_option Elab.async false
set_option linter.all false
set_option maxRecDepth 100000
set_option maxHeartbeats 4000000
set_option autoImplicit false
namespace Z
open PySem PySem.Spec L2 TL

/-- the number that a text writes -/
def wrD (l : List Nat) : D :=
  match TL.spl [47] 0 [] l with
  | [_] => optD (rdI l)
  | [a, b] => (match rdI a, rdI b with
    | some i, some j => if numB (.tup [.int i, .int j]) = true then .tup [.int i, .int j] else .non
    | _, _ => .non)
  | _ => .non
theorem optD_ok (o : Option Int) : okD (optD o) = true := by cases o <;> rfl
theorem wr_free {l : List Nat} (h : 47 ∉ l) : wrD l = optD (rdI l) := by
  unfold wrD
  rw [spl_free h]
theorem wr_one {a b : List Nat} (ha : 47 ∉ a) (hb : 47 ∉ b) : wrD (a ++ 47 :: b) = (match rdI a, rdI b with
    | some i, some j => if numB (.tup [.int i, .int j]) = true then .tup [.int i, .int j] else .non
    | _, _ => .non) := by
  unfold wrD
  rw [spl_bar ha, spl_free hb]
theorem wr_more {a b : List Nat} (ha : 47 ∉ a) (hb : 47 ∈ b) : wrD (a ++ 47 :: b) = .non := by
  unfold wrD
  obtain ⟨c, d, rfl, hc⟩ := List.eq_append_cons_of_mem hb
  rw [spl_bar ha, spl_bar hc]
  obtain ⟨x, r, e⟩ := spl_ne d
  rw [e]
theorem is_opt (o : Option Int) (S : Store) : isNotD (optD o) .non S = .ok (.bl o.isSome) S := by cases o <;> rfl
theorem isD_opt (o : Option Int) (S : Store) : isD (optD o) .non S = .ok (.bl o.isNone) S := by cases o <;> rfl
theorem written_ok {l : List Nat} (h : l.length ≤ 1000) (S : Store) : m_written [.str (sx l)] S = .ok (wrD l) S := by
  by_cases hm : 47 ∈ l
  · obtain ⟨a, b, rfl, ha⟩ := List.eq_append_cons_of_mem hm
    have hz := h
    simp only [List.length_append, List.length_cons] at hz
    have h1 := fun S => partD_bar h ha S
    have h2 := fun S => figures_ok (l := a) (by omega) S
    have h3 := fun S => figures_ok (l := b) (by omega) S
    simp only [lit_bar] at h1
    have h4 : ∀ S, eqD (.str (sx [47])) (.str (sx [])) S = .ok (.bl false) S := fun S => by rw [eq_sx]; rfl
    have hw : wrD (a ++ 47 :: b) = (match rdI a, rdI b with
      | some i, some j => if numB (.tup [.int i, .int j]) = true then .tup [.int i, .int j] else .non
      | _, _ => .non) := by
      by_cases hb : 47 ∈ b
      · rw [wr_more ha hb]
        cases e : rdI b with
        | none => cases rdI a <;> rfl
        | some j => exact absurd hb (rd_free e)
      · exact wr_one ha hb
    rw [hw]
    generalize a ++ 47 :: b = x at *
    generalize eb : rdI b = B at *
    cases ea : rdI a with
    | none =>
      rw [ea] at h2
      simp [m_written, b_written, h1, lit_bar, lit_no, h4, h2, h3, at0, at1, is_opt]
    | some i =>
      rw [ea] at h2
      cases B with
      | none =>
        simp [m_written, b_written, h1, lit_bar, lit_no, h4, h2, h3, at0, at1, is_opt]
      | some j =>
        have h5 := fun S => isNum_ok (.tup [.int i, .int j]) S rfl
        cases hB : numB (.tup [.int i, .int j]) <;> rw [hB] at h5 <;> simp [hB, m_written, b_written, h1, lit_bar, lit_no, h4, h2, h3, at0, at1, is_opt, optD, h5, isNotD, isNon]
  · have h1 := fun S => partD_free h hm S
    have h2 := fun S => figures_ok h S
    simp only [lit_bar] at h1
    have h4 : ∀ S, eqD (.str (sx [])) (.str (sx [])) S = .ok (.bl true) S := fun S => by rw [eq_sx]; rfl
    rw [wr_free hm]
    simp [m_written, b_written, h1, lit_bar, lit_no, h4, h2]
theorem wr_cases (l : List Nat) : wrD l = .non ∨ (wrD l ≠ .non ∧ okD (wrD l) = true ∧ numB (wrD l) = true) := by
  unfold wrD
  split
  · cases rdI l with
    | none => exact .inl rfl
    | some i => exact .inr ⟨by simp [optD], rfl, rfl⟩
  · split
    · split
      · rename_i h
        exact .inr ⟨by simp, rfl, h⟩
      · exact .inl rfl
    · exact .inl rfl
  · exact .inl rfl
theorem numof_bad {l : List Nat} (h : l.length ≤ 1000) (hw : wrD l = .non) (S : Store) : m_number_of [.str (sx l)] S = .ex c_BadText ["item", "line"] [.int 0, .int 0] S := by
  have h1 := fun S => written_ok h S
  rw [hw] at h1
  simp [m_number_of, b_number_of, isi_s (.str (sx l)) _ rfl, isS, h1, isD, isNon, fill, cut_exx]
theorem numof_ok {l : List Nat} (h : l.length ≤ 1000) (hw : wrD l ≠ .non) (S : Store) : m_number_of [.str (sx l)] S = .ok (wrD l) S := by
  have h1 := fun S => written_ok h S
  rcases wr_cases l with e | ⟨_, e1, e2⟩
  · exact absurd e hw
  · have h2 := fun S => isNum_ok (wrD l) S e1
    rw [e2] at h2
    have h3 : ∀ S, isD (wrD l) .non S = .ok (.bl false) S := fun S => by
      generalize wrD l = x at *
      cases x <;> first | rfl | exact absurd rfl hw
    simp [m_number_of, b_number_of, isi_s (.str (sx l)) _ rfl, isS, h1, h3, h2]
theorem numof_no {d : D} (h : okD d = true) (hs : isS d = false) (S : Store) : m_number_of [d] S = .ex c_BadText ["item", "line"] [.int 0, .int 0] S := by
  simp [m_number_of, b_number_of, isi_s d _ h, hs, isD, isNon, fill, cut_exx]
/-! ### the law's own reading -/
theorem ne_nilA {α : Type} (g : α → Str) (hg : ∀ a, (PyData.str (g a)).canLay0 = true) (ps : List α) (S : Store) : neD (.lst (ps.map fun c => D.str (g c))) (.lst []) S = .ok (.bl (!ps.isEmpty)) S := by
  have e1 : ∀ ps : List α, toPs (ps.map fun c => D.str (g c)) = some (ps.map fun c => PyData.str (g c)) := by
    intro ps
    induction ps with
    | nil => rfl
    | cons c r ih => simp only [List.map_cons, toPs, ih]; rfl
  have h1 : ∀ ps : List α, PyData.canLayAll0 (ps.map fun c => PyData.str (g c)) = true := by
    intro ps
    induction ps with
    | nil => rfl
    | cons c r ih => simp only [List.map_cons, PyData.canLayAll0, hg, ih, Bool.and_self]
  have h2 : ∀ ps : List α, PyData.depthAll (ps.map fun c => PyData.str (g c)) ≤ 1 := by
    intro ps
    induction ps with
    | nil => simp [PyData.depthAll]
    | cons c r ih => simp only [List.map_cons, PyData.depthAll, PyData.depth]; omega
  have e2 : toPS S (.lst (ps.map fun c => D.str (g c))) = some (.list (ps.map fun c => PyData.str (g c))) := by simp [toPS, lstD, e1 ps]
  have e3 : toPS S (.lst []) = some (.list []) := rfl
  rw [neD_of (eqB_data rfl e2 e3 (shaped_of (by simpa [PyData.canLay0] using h1 ps) (by simp only [PyData.depth]; have := h2 ps; omega)) rfl)]
  cases ps with
  | nil => rfl
  | cons c r => rfl
theorem pair_eq (a b c d : Int) (S : Store) : eqD (.tup [.int a, .int b]) (.tup [.int c, .int d]) S = .ok (.bl (decide (a = c ∧ b = d))) S := by
  have h1 : ∀ a b : Int, SeqAt.shaped (.tuple [.int a, .int b]) = true := fun a b => shaped_of (by simp [PyData.canLay0, PyData.canLayAll0]) (by simp [PyData.depth, PyData.depthAll])
  rw [eqD_of (eqB_data rfl (toPS_of (p := .tuple [.int a, .int b]) rfl S) (toPS_of (p := .tuple [.int c, .int d]) rfl S) (h1 a b) (h1 c d))]
  congr 2
  rw [Bool.eq_iff_iff]
  simp [PyData.eqv, PyData.eqvAll]
end Z

set_option Elab.async false
set_option linter.all false
set_option maxRecDepth 100000
set_option maxHeartbeats 4000000
set_option autoImplicit false
namespace Z
open PySem PySem.Spec L2 TL

/-! ## a number's text -/
def Fw (x : Rat) : Prop := x.num.natAbs < 10 ^ 60 ∧ x.den < 10 ^ 60
theorem numText_len {x : Rat} (h1 : x.num.natAbs < 10 ^ 100) (h2 : x.den < 10 ^ 100) : (numText x).length ≤ 203 := by
  have a := numT_len (by decide) h1
  have b := numT_len (i := (x.den : Nat)) (k := 100) (by decide) (by simpa using h2)
  unfold numText
  split
  · omega
  · simp; omega
theorem ten_sz {n : Nat} (h : n < 10 ^ 100) : n < 2 ^ 340 := Nat.lt_trans h (by decide +kernel)
theorem text_ok {x : Rat} (h1 : x.num.natAbs < 10 ^ 100) (h2 : x.den < 10 ^ 100) (S : Store) : m_text_in [enc x] S = .ok (.str (sx (numText x))) S := by
  have hp := fun S => parts_ok x S
  have a := fun S => str_ok h1 S
  unfold numText
  by_cases hd : x.den = 1
  · have e : ((x.den : Nat) : Int) = 1 := by omega
    rw [if_pos hd]
    simp [m_text_in, b_text_in, hp, itemsP, e, inteq, a]
  · have e : ¬ ((x.den : Nat) : Int) = 1 := by omega
    rw [if_neg hd]
    have j : ∀ S, mJoined [mUn fmtD (mVar 1), mC (.str (Str.ofString "/")), mUn fmtD (mVar 2)] [some (enc x), some (.int x.num), some (.int x.den)] S = .ok (.str (sx (numT x.num ++ 47 :: numT x.den))) S := fun S => joined_ok (by simp) (by simp) h1 (by simpa using h2)
    simp [m_text_in, b_text_in, hp, itemsP, e, inteq, j]
theorem ntext_ok {d : D} {x : Rat} (hd : Hd d x) (h1 : x.num.natAbs < 10 ^ 100) (h2 : x.den < 10 ^ 100) (S : Store) : m_number_text [d] S = .ok (.str (sx (numText x))) S := by
  simp [m_number_text, b_number_text, neednum_ok hd, text_ok h1 h2]
theorem ntext_bad {d : D} (h : okD d = true) (hn : numB d = false) (S : Store) : m_number_text [d] S = .ex c_BadNumber ["part"] [.str ("value" : Str)] S := by
  simp [m_number_text, b_number_text, neednum_bad h hn, cut_exx]
theorem wr_text {x : Rat} (h : Fw x) : wrD (numText x) = enc x := by
  unfold numText
  by_cases hd : x.den = 1
  · rw [if_pos hd, wr_free (numT_free _), rd_num h.1, enc_int x hd]
    rfl
  · rw [if_neg hd, wr_one (numT_free _) (numT_free _), rd_num h.1, rd_num (i := (x.den : Nat)) (by simpa using h.2), enc_tup x hd]
    have := (numB_pair x hd).1
    unfold encP at this
    simp [this]
theorem enc_non (x : Rat) : enc x ≠ .non := by
  unfold enc
  split <;> simp
theorem numof_text {x : Rat} (h : Fw x) (S : Store) : m_number_of [.str (sx (numText x))] S = .ok (enc x) S := by
  have hl := numText_len (x := x) (Nat.lt_trans h.1 (by decide +kernel)) (Nat.lt_trans h.2 (by decide +kernel))
  have := numof_ok (l := numText x) (by omega) (by rw [wr_text h]; exact enc_non x) S
  rw [wr_text h] at this
  exact this
/-- codes that texts are made of -/
def Okl (l : List Nat) : Prop := l.length ≤ 1000 ∧ ∀ c ∈ l, c < 256
theorem numT_ok (i : Int) : ∀ c ∈ numT i, c < 256 := by
  unfold numT
  split
  · intro c hc
    have := numL_digits _ c hc
    omega
  · intro c hc
    rcases List.mem_cons.mp hc with rfl | hc
    · decide
    · have := numL_digits _ c hc
      omega
theorem numText_ok (x : Rat) : ∀ c ∈ numText x, c < 256 := by
  unfold numText
  split
  · exact numT_ok _
  · intro c hc
    rcases List.mem_append.mp hc with h | h
    · exact numT_ok _ c h
    · rcases List.mem_cons.mp h with rfl | h
      · decide
      · exact numT_ok _ c h
end Z

set_option Elab.async false
set_option linter.all false
set_option maxRecDepth 100000
set_option maxHeartbeats 4000000
set_option autoImplicit false
namespace Z
open PySem PySem.Spec L2 TL

/-! ## k04: own reading -/
theorem sg_lay {c : Nat} (h : c < 256) : (PyData.str (sx [c])).canLay0 = true := by
  show PyData.strOk (sx [c]) = true
  show (sx [c]).cps.all _ = true
  simp [sx]
  omega
theorem ne_signs (ps : List Nat) (h : ∀ c ∈ ps, c < 256) (S : Store) : neD (.lst (ps.map fun c => D.str (sx [c]))) (.lst []) S = .ok (.bl (!ps.isEmpty)) S := by
  have e1 : ∀ ps : List Nat, toPs (ps.map fun c => D.str (sx [c])) = some (ps.map fun c => PyData.str (sx [c])) := by
    intro ps
    induction ps with
    | nil => rfl
    | cons c r ih => simp only [List.map_cons, toPs, ih]; rfl
  have h1 : ∀ ps : List Nat, (∀ c ∈ ps, c < 256) → PyData.canLayAll0 (ps.map fun c => PyData.str (sx [c])) = true := by
    intro ps h
    induction ps with
    | nil => rfl
    | cons c r ih => simp only [List.map_cons, PyData.canLayAll0, sg_lay (h c (by simp)), ih fun d hd => h d (by simp [hd]), Bool.and_self]
  have h2 : ∀ ps : List Nat, PyData.depthAll (ps.map fun c => PyData.str (sx [c])) ≤ 1 := by
    intro ps
    induction ps with
    | nil => simp [PyData.depthAll]
    | cons c r ih => simp only [List.map_cons, PyData.depthAll, PyData.depth]; omega
  have e2 : toPS S (.lst (ps.map fun c => D.str (sx [c]))) = some (.list (ps.map fun c => PyData.str (sx [c]))) := by simp [toPS, lstD, e1 ps]
  have e3 : toPS S (.lst []) = some (.list []) := rfl
  rw [neD_of (eqB_data rfl e2 e3 (shaped_of (by simpa [PyData.canLay0] using h1 ps h) (by simp only [PyData.depth]; have := h2 ps; omega)) rfl)]
  cases ps with
  | nil => rfl
  | cons c r => rfl
theorem figs_sub {l : List Nat} : ∀ c ∈ figs l, c ∈ l := by
  intro c hc
  unfold figs at hc
  split at hc
  · exact List.mem_cons_of_mem _ hc
  · exact hc
theorem lint_ok {l : List Nat} (ho : Okl l) (S : Store) : m__law_integer [.str (sx l)] S = .ok (optD (rdI l)) S := by
  have h := ho.1
  have h1 := fun S => fig_set h none none S
  have hf : (figs l).length ≤ 1000 := Nat.le_trans (figs_len l) h
  have hk : ∀ c ∈ (figs l).filter (fun c => !dig c), c < 256 := fun c hc => ho.2 c (figs_sub c (List.mem_filter.mp hc).1)
  have hc : ∀ S, mCut (mFrz (mComp (mIterS (mVar 1)) [2] (gNm 2) (mBlT (mBin notInD (mVar 2) (mC (.str ("0123456789" : Str))))) (mVar 2))) [some (.str (sx l)), some (.str (sx (figs l))), none] S = .ok (.lst (((figs l).filter (fun c => !dig c)).map fun c => .str (sx [c]))) S := fun S => by
    have := comp_filter (l := mIterS (mVar 1)) (vs := [2]) (g := gNm 2) (q := mBlT (mBin notInD (mVar 2) (mC (.str ("0123456789" : Str))))) (e := mVar 2) (ρ := [some (.str (sx l)), some (.str (sx (figs l))), none]) (S := S) (ds := signs (sx (figs l)))
      (b := fun d => match d with | .str z => (match tl z with | [c] => !dig c | _ => false) | _ => false) (f := id) (by simp [mIterS]) (by rw [signs_sx]; simp; omega) (fun d hd _ => by
        rw [signs_sx] at hd
        obtain ⟨c, _, rfl⟩ := List.mem_map.mp hd
        rfl) (fun d hd => by
        rw [signs_sx] at hd
        obtain ⟨c, _, rfl⟩ := List.mem_map.mp hd
        refine ⟨[some (.str (sx l)), some (.str (sx (figs l))), some (.str (sx [c]))], fun S => ⟨rfl, ?_, ?_⟩⟩
        · simp [notIn_sx, dig_in2, tl_sx]
        · simp)
    rw [this, signs_sx, List.filter_map]
    simp [Function.comp_def, tl_sx]
  have hf2 : ∀ f : List Nat, (f.filter (fun c => !dig c)).isEmpty = f.all dig := by
    intro f
    induction f with
    | nil => rfl
    | cons c r ih => cases e : dig c <;> simp [e, ih]
  have hn : ∀ S, neD (.lst (((figs l).filter (fun c => !dig c)).map fun c => D.str (sx [c]))) (.lst []) S = .ok (.bl (!(figs l).all dig)) S := fun S => by rw [ne_signs _ hk S, hf2]
  have hl := fun S => len_sx hf S
  have h0 : figs l ≠ [] → ∀ S, ixD (.str (sx (figs l))) (.int 0) S = .ok (.str (sx ((figs l).take 1))) S := fun hne S => by
    cases hq : figs l with
    | nil => exact absurd hq hne
    | cons c r => exact ix_sx (by rw [hq] at hf; exact hf) S
  have n0 := fun S => eq_sx (figs l) [] S
  have n1 := fun S => eq_sx ((figs l).take 1) [48] S
  have n2 := fun S => ne_sx l [48] S
  have hi : rdB l = true → ∀ S, intSD (.str (sx l)) S = .ok (optD (rdI l)) S := fun hB S => rd_int hB S
  have hB : rdB l = (!(figs l).isEmpty && decide ((figs l).length ≤ 60) && (figs l).all dig && !((figs l).take 1 == [48] && l != [48])) := rfl
  have hR : rdI l = if rdB l = true then rdI l else none := by
    by_cases h : rdB l = true
    · rw [if_pos h]
    · rw [if_neg h, rd_none h]
  generalize rdI l = R at *
  generalize rdB l = B at *
  generalize figs l = f at *
  by_cases e1 : f = []
  · have n0' : ∀ S, eqD (.str (sx f)) (.str (sx [])) S = .ok (.bl true) S := fun S => by rw [n0, decide_eq_true e1]
    have : B = false := by rw [hB, e1]; rfl
    rw [this] at hR
    simp [m__law_integer, b__law_integer, ↓h1, lit_no, n0', hR, optD]
  · have n0' : ∀ S, eqD (.str (sx f)) (.str (sx [])) S = .ok (.bl false) S := fun S => by rw [n0, decide_eq_false e1]
    have h0 := h0 e1
    by_cases e2 : f.length ≤ 60
    · have e2' : ¬ (60 : Int) < (f.length : Int) := by omega
      by_cases e3 : f.all dig = true
      · have hn' := fun S => hn S
        rw [e3] at hn'
        by_cases e4 : f.take 1 = [48]
        · have n1' : ∀ S, eqD (.str (sx (f.take 1))) (.str (sx [48])) S = .ok (.bl true) S := fun S => by rw [n1, decide_eq_true e4]
          by_cases e5 : l = [48]
          · have n2' : ∀ S, neD (.str (sx l)) (.str (sx [48])) S = .ok (.bl false) S := fun S => by rw [n2, decide_eq_true e5]; rfl
            have : B = true := by rw [hB]; simp [e1, e2, e3, e4, e5]
            have hi := hi this
            clear n0 n1 n2 e4 e5 hB
            simp [m__law_integer, b__law_integer, ↓h1, ↓hc, hl, e2', hn', lit_0, lit_no, n0', n1', n2', h0, hi]
          · have n2' : ∀ S, neD (.str (sx l)) (.str (sx [48])) S = .ok (.bl true) S := fun S => by rw [n2, decide_eq_false e5]; rfl
            have : B = false := by rw [hB]; simp [e1, e2, e3, e4, e5]
            rw [this] at hR
            clear n0 n1 n2 e4 e5 hB
            simp [m__law_integer, b__law_integer, ↓h1, ↓hc, hl, e2', hn', lit_0, lit_no, n0', n1', n2', h0, hR, optD]
        · have n1' : ∀ S, eqD (.str (sx (f.take 1))) (.str (sx [48])) S = .ok (.bl false) S := fun S => by rw [n1, decide_eq_false e4]
          have : B = true := by rw [hB]; simp [e1, e2, e3, e4]
          have hi := hi this
          clear n0 n1 n2 e4 hB
          simp [m__law_integer, b__law_integer, ↓h1, ↓hc, hl, e2', hn', lit_0, lit_no, n0', n1', h0, hi]
      · have e3' : f.all dig = false := by simpa using e3
        have hn' := fun S => hn S
        rw [e3'] at hn'
        have : B = false := by rw [hB]; simp [e1, e2, e3']
        rw [this] at hR
        simp [m__law_integer, b__law_integer, ↓h1, ↓hc, hl, e2', hn', lit_no, n0', hR, optD]
    · have e2' : (60 : Int) < (f.length : Int) := by omega
      have : B = false := by rw [hB]; simp [e1, e2]
      rw [this] at hR
      simp [m__law_integer, b__law_integer, ↓h1, hl, e2', lit_no, n0', hR, optD]
end Z

set_option Elab.async false
set_option linter.all false
set_option maxRecDepth 100000
set_option maxHeartbeats 4000000
set_option autoImplicit false
namespace Z
open PySem PySem.Spec L2 TL

/-! ## k04: texts read by the law -/
theorem len_lst (l : List D) (S : Store) : lenD (.lst l) S = .ok (.int l.length) S := rfl
theorem low_num {i j : Int} (hj : 2 ≤ j) (hz : j.natAbs < 10 ^ 60) : ∃ x, (∀ S, m__law_low [.int i, .int j] S = .ok x S) ∧ ∀ S, eqD x (.tup [.int i, .int j]) S = .ok (.bl (numB (.tup [.int i, .int j]))) S := by
  have h2 : j.natAbs < 2 ^ 8000 := Nat.lt_of_lt_of_le (Nat.lt_trans hz (by decide +kernel : 10 ^ 60 < 2 ^ 200)) (Nat.pow_le_pow_right (by decide) (by decide))
  refine ⟨_, fun S => low_ok i j S (by omega) h2, fun S => ?_⟩
  unfold encP
  rw [pair_eq]
  congr 2
  have e2 : numB (.tup [.int i, .int j]) = decide (Nat.gcd i.natAbs j.natAbs = 1) := by
    have a : decide (2 ≤ j) = true := decide_eq_true hj
    simp only [numB, a, Bool.true_and, decide_eq_decide]
    omega
  rw [e2, decide_eq_decide]
  constructor
  · intro ⟨a, b⟩
    have := (Rat.divInt i j).reduced
    unfold Nat.Coprime at this
    rw [a] at this
    rw [show j.natAbs = (Rat.divInt i j).den by omega]
    exact this
  · intro hg
    obtain ⟨a, b⟩ := rat_of (a := i) (b := j) (n := i) (d := j.natAbs) (by omega) (by omega) hg (by rw [show ((j.natAbs : Nat) : Int) = j by omega])
    exact ⟨a, by omega⟩
theorem read_ok {l : List Nat} (ho : Okl l) (S : Store) : m__law_read [.str (sx l)] S = .ok (wrD l) S := by
  have h := ho.1
  have h1 := fun S => splitD_ok h S
  simp only [lit_bar] at h1
  by_cases hm : 47 ∈ l
  · obtain ⟨a, b, e, ha⟩ := List.eq_append_cons_of_mem hm
    have hz := h
    rw [e] at hz
    simp only [List.length_append, List.length_cons] at hz
    have oa : Okl a := ⟨by omega, fun c hc => ho.2 c (by rw [e]; simp [hc])⟩
    have ob : Okl b := ⟨by omega, fun c hc => ho.2 c (by rw [e]; simp [hc])⟩
    by_cases hb : 47 ∈ b
    · rw [e, wr_more ha hb]
      rw [← e]
      obtain ⟨c, d, e', hc⟩ := List.eq_append_cons_of_mem hb
      obtain ⟨x, r, e''⟩ := spl_ne d
      have hs : TL.spl [47] 0 [] l = a :: c :: x :: r := by rw [e, spl_bar ha, e', spl_bar hc, e'']
      rw [hs] at h1
      have hq : ∀ S, lenD (.lst ((a :: c :: x :: r).map fun x => D.str (sx x))) S = .ok (.int (r.length + 3 : Nat)) S := fun S => by rw [len_lst]; simp; omega
      generalize (a :: c :: x :: r).map (fun x => D.str (sx x)) = X at *
      have n1 : ¬ ((r.length + 3 : Nat) : Int) = 1 := by omega
      have n2 : ¬ ((r.length + 3 : Nat) : Int) = 2 := by omega
      generalize ((r.length + 3 : Nat) : Int) = n at *
      simp [m__law_read, b__law_read, lit_bar, h1, hq, inteq, intne, n1, n2]
    · have hs : TL.spl [47] 0 [] l = [a, b] := by rw [e, spl_bar ha, spl_free hb]
      rw [hs] at h1
      rw [e, wr_one ha hb, ← e]
      have h2 := fun S => lint_ok oa S
      have h3 := fun S => lint_ok ob S
      generalize ea : rdI a = A at *
      generalize eb : rdI b = B at *
      cases A with
      | none => simp [m__law_read, b__law_read, lit_bar, h1, inteq, intne, at0, at1, h2, h3, isD_opt]
      | some i =>
        cases B with
        | none => simp [m__law_read, b__law_read, lit_bar, h1, inteq, intne, at0, at1, h2, h3, isD_opt]
        | some j =>
          by_cases hj : 2 ≤ j
          · obtain ⟨x, k1, k2⟩ := low_num (i := i) hj (rd_bound eb)
            have e1 : ¬ j < 2 := by omega
            have e2 : isD (.int i) .non = fun S => .ok (.bl false) S := rfl
            have e3 : isD (.int j) .non = fun S => .ok (.bl false) S := rfl
            cases hB : numB (.tup [.int i, .int j]) <;> rw [hB] at k2 <;> simp [m__law_read, b__law_read, lit_bar, h1, inteq, intne, at0, at1, h2, h3, optD, e1, e2, e3, k1, k2, hB]
          · have hB : numB (.tup [.int i, .int j]) = false := by
              have : decide (2 ≤ j) = false := decide_eq_false hj
              simp only [numB, this, Bool.false_and]
            have e1 : j < 2 := by omega
            have e2 : isD (.int i) .non = fun S => .ok (.bl false) S := rfl
            have e3 : isD (.int j) .non = fun S => .ok (.bl false) S := rfl
            simp [m__law_read, b__law_read, lit_bar, h1, inteq, intne, at0, at1, h2, h3, optD, e1, e2, e3, hB]
  · rw [wr_free hm]
    rw [spl_free hm] at h1
    have h2 := fun S => lint_ok ho S
    simp [m__law_read, b__law_read, lit_bar, h1, inteq, h2]
end Z

set_option Elab.async false
set_option linter.all false
set_option maxRecDepth 100000
set_option maxHeartbeats 4000000
set_option autoImplicit false
namespace Z
open PySem PySem.Spec L2 TL

/-! ## k04: what is drawn -/
theorem good_sx {l : List Nat} (h : Okl l) : Good 10100 (.str (sx l)) := by
  refine ⟨?_, by simp [PyData.depth], rfl, ?_⟩
  · show (sx l).cps.all _ = true
    simp [sx]
    intro c hc
    have := h.2 c hc
    omega
  · show (reprText (sx l)).length ≤ _
    have := PySem.StrLaws.reprText_len (sx l) (fun c hc => Nat.lt_trans (h.2 c hc) (by decide))
    rw [sx_len] at this
    have := h.1
    omega
theorem repr_two {l : List Nat} (h : Okl l) : ∃ z, ∀ S, reprZ (.lst [.str (sx l), .str (sx l)]) S = .ok (.str z) S := by
  obtain ⟨z, _, hz⟩ := repr_list (l := [.str (sx l), .str (sx l)]) (ps := [.str (sx l), .str (sx l)]) (w := 10100) rfl (by
    intro p hp
    simp only [List.mem_cons, List.not_mem_nil, or_false] at hp
    rcases hp with rfl | rfl <;> exact good_sx h) (by simp) []
  exact ⟨z, hz⟩
theorem repr_twoN {x : Rat} (h : Sz 1900 x) : ∃ z, ∀ S, reprZ (.lst [enc x, enc x]) S = .ok (.str z) S := by
  obtain ⟨z, _, hz⟩ := repr_list (l := [enc x, enc x]) (ps := [encD x, encD x]) (w := 4100) (by simp [toPs, toP_enc]) (by
    intro p hp
    simp only [List.mem_cons, List.not_mem_nil, or_false] at hp
    rcases hp with rfl | rfl <;> exact good_encD h) (by simp) []
  exact ⟨z, hz⟩
theorem fw_sz {x : Rat} (h : Fw x) : Sz 200 x := ⟨Nat.lt_trans h.1 (by decide +kernel), Nat.lt_trans h.2 (by decide +kernel)⟩
theorem div_le {a b : Int} (hb : 0 < b) : (Rat.divInt a b).num.natAbs ≤ a.natAbs ∧ (Rat.divInt a b).den ≤ b.natAbs := by
  obtain ⟨g, hg, gp, a', b', ha, hbb, da, db, hc, hn⟩ := gcd_parts (a := a) (show b ≠ 0 by omega)
  have hb' : 0 < b' := by
    rcases Int.lt_or_gt_of_ne hn with q | q
    · have := Int.mul_neg_of_neg_of_pos q (show (0 : Int) < g by omega)
      omega
    · exact q
  obtain ⟨e1, e2⟩ := low_pos gp ha hbb hc hb'
  rw [e1]
  have k1 : a.natAbs = a'.natAbs * g := by rw [ha, Int.natAbs_mul]; rfl
  have k2 : b.natAbs = b'.natAbs * g := by rw [hbb, Int.natAbs_mul]; rfl
  have m1 := Nat.le_mul_of_pos_right a'.natAbs gp
  have m2 := Nat.le_mul_of_pos_right b'.natAbs gp
  omega
theorem wr_enc {l : List Nat} (h : wrD l ≠ .non) : ∃ x, wrD l = enc x ∧ Fw x := by
  unfold wrD at *
  split
  · rename_i a e
    simp only [e] at h
    cases er : rdI l with
    | none => rw [er] at h; exact absurd rfl h
    | some i => exact ⟨(i : Rat), by rw [enc_int _ rfl]; rfl, rd_bound er, by show 1 < _; decide +kernel⟩
  · rename_i a b e
    simp only [e] at h
    cases e1 : rdI a with
    | none => simp [e1] at h
    | some i =>
      cases e2 : rdI b with
      | none => simp [e1, e2] at h
      | some j =>
        simp only [e1, e2] at h
        by_cases hB : numB (.tup [.int i, .int j]) = true
        · simp only [if_pos hB]
          have hh := hB
          simp only [numB, Bool.and_eq_true, decide_eq_true_eq] at hh
          obtain ⟨p, q⟩ := rat_of (a := i) (b := j) (n := i) (d := j.natAbs) (by omega) (by omega) (by omega) (by rw [show ((j.natAbs : Nat) : Int) = j by omega])
          refine ⟨Rat.divInt i j, ?_, by rw [p]; exact rd_bound e1, by rw [q]; exact rd_bound e2⟩
          rw [enc_tup _ (by omega), p, q, show ((j.natAbs : Nat) : Int) = j by omega]
        · rw [if_neg hB] at h
          exact absurd rfl h
  · rename_i h1 h2
    exfalso
    revert h
    split
    · rename_i a e
      exact absurd e (h1 a)
    · rename_i a b e
      exact absurd e (h2 a b)
    · exact fun h => h rfl
section
variable {S0 : Store} {n : Nat} {cells : List Int} {t l : Int}
theorem number_ok (g : Gd S0 n) (h0 : 0 ≤ t) (hT : t + 5 ≤ 2 ^ 20) : ∃ x t' l', m__law_number [.loc n] (Nu S0 n cells t l) = .ok (encP x) (Nu S0 n cells t' l') ∧ Fw x ∧ t ≤ t' ∧ t' ≤ t + 5 := by
  have q1 := fun S => pow_ok (i := 10) (j := 20) (by decide) S
  have q2 := fun S => pow_ok (i := 10) (j := 60) (by decide) S
  have q3 := fun S => pow_ok (i := 10) (j := 59) (by decide) S
  obtain ⟨c20, k20⟩ : ∃ c : Int, c = 10 ^ (Int.toNat 20) := ⟨_, rfl⟩
  obtain ⟨c60, k60⟩ : ∃ c : Int, c = 10 ^ (Int.toNat 60) := ⟨_, rfl⟩
  obtain ⟨c59, k59⟩ : ∃ c : Int, c = 10 ^ (Int.toNat 59) := ⟨_, rfl⟩
  rw [← k20] at q1
  rw [← k60] at q2
  rw [← k59] at q3
  have b20 : 9 ≤ c20 ∧ c20 ≤ c60 ∧ 9 ≤ c59 ∧ 10 * c59 = c60 ∧ 99 ≤ c60 := by rw [k20, k60, k59]; decide +kernel
  have b60 : c60 = 10 ^ 60 := by rw [k60]; rfl
  have bz : c60.natAbs < 2 ^ 200 := by rw [b60]; decide +kernel
  obtain ⟨y, t1, l1, e1, p1, a1, b1⟩ := picked (xs := [.int 9, .int 99, .int c20, .int c60]) (cells := cells) (l := l) (by simp) (by simp) g h0 (by omega)
  have hy : ∃ m : Int, y = .int m ∧ 9 ≤ m ∧ m ≤ c60 := by
    simp only [List.mem_cons, List.not_mem_nil, or_false] at p1
    rcases p1 with rfl | rfl | rfl | rfl <;> exact ⟨_, rfl, by omega, by omega⟩
  obtain ⟨m, rfl, m0, m1⟩ := hy
  obtain ⟨r, t2, l2, e2, r0, r1, a2, b2⟩ := drawn (many := m) (cells := cells) (l := l1) (by omega) (by omega) g (show 0 ≤ t1 by omega) (by omega)
  obtain ⟨y, t3, l3, e3, p3, a3, b3⟩ := picked (xs := [.int 1, .int (-1)]) (cells := cells) (l := l2) (by simp) (by simp) g (show 0 ≤ t2 by omega) (by omega)
  have hy : ∃ k : Int, y = .int k ∧ (k = 1 ∨ k = -1) := by
    simp only [List.mem_cons, List.not_mem_nil, or_false] at p3
    rcases p3 with rfl | rfl
    · exact ⟨_, rfl, .inl rfl⟩
    · exact ⟨_, rfl, .inr rfl⟩
  obtain ⟨k, rfl, hk⟩ := hy
  obtain ⟨v, hv⟩ : ∃ v : Int, v = if c59 < m then c59 else m := ⟨_, rfl⟩
  have hv1 : 9 ≤ v ∧ v ≤ c59 := by rw [hv]; split <;> omega
  obtain ⟨y, t4, l4, e4, p4, a4, b4⟩ := picked (xs := [.int 1, .int 6, .int v]) (cells := cells) (l := l3) (by simp) (by simp) g (show 0 ≤ t3 by omega) (by omega)
  have hy : ∃ w : Int, y = .int w ∧ 1 ≤ w ∧ w ≤ c59 := by
    simp only [List.mem_cons, List.not_mem_nil, or_false] at p4
    rcases p4 with rfl | rfl | rfl <;> exact ⟨_, rfl, by omega, by omega⟩
  obtain ⟨w, rfl, w0, w1⟩ := hy
  obtain ⟨u, t5, l5, e5, u0, u1, a5, b5⟩ := drawn (many := w) (cells := cells) (l := l4) (by omega) (by omega) g (show 0 ≤ t4 by omega) (by omega)
  have hk' : k.natAbs < 2 ^ 3500 := by
    rcases hk with rfl | rfl
    · exact one_small.1
    · exact one_small.2
  have hr' : r.natAbs < 2 ^ 3500 := Nat.lt_of_lt_of_le (show r.natAbs < 2 ^ 200 by omega) (Nat.pow_le_pow_right (by decide) (by decide))
  have hm : ∀ S, mulD (.int r) (.int k) S = .ok (.int (r * k)) S := fun S => mulD_sz hr' hk' S
  have hrk : (r * k).natAbs = r.natAbs := by rcases hk with rfl | rfl <;> simp
  have hlow := low_ok (r * k) (1 + u) (Nu S0 n cells t5 l5) (by omega) (Nat.lt_of_lt_of_le (show (1 + u).natAbs < 2 ^ 200 by omega) (Nat.pow_le_pow_right (by decide) (by decide)))
  obtain ⟨z1, z2⟩ := div_le (a := r * k) (b := 1 + u) (by omega)
  have cN : (c60 : Int) = ((10 ^ 60 : Nat) : Int) := b60
  have hmn : ∀ S, minD [.int m, .int c59] S = .ok (.int v) S := fun S => by rw [hv]; rfl
  refine ⟨Rat.divInt (r * k) (1 + u), t5, l5, ?_, ⟨by omega, by omega⟩, by omega, by omega⟩
  simp [m__law_number, b__law_number, q1, q2, q3, e1, e2, hmn, hm, e3, e4, e5, hlow]
def shortS (d : D) : Bool := match d with
  | .str z => decide ((tl z).length ≤ 70) && (tl z).all (fun c => decide (c < 256))
  | _ => false
theorem short_of {d : D} (h : shortS d = true) : ∃ z, d = .str (sx z) ∧ z.length ≤ 70 ∧ ∀ c ∈ z, c < 256 := by
  unfold shortS at h
  split at h
  · rename_i z
    simp only [Bool.and_eq_true, decide_eq_true_eq, List.all_eq_true] at h
    exact ⟨tl z, by rw [sx_tl], h.1, fun c hc => by simpa using h.2 c hc⟩
  · cases h
theorem mul9 : ∃ z, shortS (.str (sx z)) = true ∧ ∀ S, mulZ (.str (Str.ofString "9")) (.int 58) S = .ok (.str (sx z)) S := ⟨List.replicate 58 57, by decide +kernel, fun _ => rfl⟩
theorem mul7 : ∃ y z, shortS (.str (sx z)) = true ∧ (∀ S, mulZ (.str (Str.ofString "7")) (.int 60) S = .ok (.str (sx y)) S) ∧ ∀ S, addD (.str (sx y)) (.str (Str.ofString "/2")) S = .ok (.str (sx z)) S := ⟨List.replicate 60 55, List.replicate 60 55 ++ [47, 50], by decide +kernel, fun _ => rfl, fun S => by
  rw [show Str.ofString "/2" = sx [47, 50] from lit_sx "/2"]
  exact add_sx (by decide) S⟩
theorem add_ok {a b : List Nat} (h : a.length + b.length ≤ 1000) (S : Store) : addD (.str (sx a)) (.str (sx b)) S = .ok (.str (sx (a ++ b))) S := add_sx h S
theorem bent_ok {x : List Nat} (hx : x.length ≤ 203) (hc : ∀ c ∈ x, c < 256) (g : Gd S0 n) (h0 : 0 ≤ t) (hT : t + 4 ≤ 2 ^ 20) : ∃ y t' l', m__law_bent [.loc n, .str (sx x)] (Nu S0 n cells t l) = .ok (.str (sx y)) (Nu S0 n cells t' l') ∧ Okl y ∧ t ≤ t' ∧ t' ≤ t + 4 := by
  have hl := fun S => len_sx (l := x) (by omega) S
  obtain ⟨z9, s9, mul9⟩ := mul9
  obtain ⟨y7, z7, s7, mul7, add7⟩ := mul7
  obtain ⟨r, t1, l1, e1, r0, r1, a1, b1⟩ := drawn (many := (x.length : Int) + 1) (cells := cells) (l := l) (by omega) (by omega) g h0 (by omega)
  obtain ⟨w, t2, l2, e2, w0, w1, a2, b2⟩ := drawn (many := 4) (cells := cells) (l := l1) (by omega) (by decide) g (show 0 ≤ t1 by omega) (by omega)
  obtain ⟨y, t3, l3, e3, p3, a3, b3⟩ := picked (xs := [.str (Str.ofString "-"), .str (Str.ofString "/"), .str (Str.ofString "0"), .str (Str.ofString "1"), .str (Str.ofString "2"), .str (Str.ofString " "), .str (Str.ofString "+"), .str (Str.ofString "."), .str (Str.ofString "a"), .str (sx z9), .str (Str.ofString "\n"), .str (Str.ofString "_"), .str (Str.ofString "/2"), .str (Str.ofString "/1"), .str (Str.ofString "/0"), .str (Str.ofString "/-2"), .str (Str.ofString "--")]) (cells := cells) (l := l2) (by simp) (by simp) g (show 0 ≤ t2 by omega) (by omega)
  have s3 : shortS y = true := by
    simp only [List.mem_cons, List.not_mem_nil, or_false] at p3
    rcases p3 with rfl | rfl | rfl | rfl | rfl | rfl | rfl | rfl | rfl | rfl | rfl | rfl | rfl | rfl | rfl | rfl | rfl <;> first | exact s9 | decide +kernel
  obtain ⟨z, rfl, hz1, hz2⟩ := short_of s3
  obtain ⟨k, rfl⟩ : ∃ k : Nat, r = k := ⟨r.toNat, by omega⟩
  have c1 := fun S => slice_to (l := x) (by omega) (k := k) (i := (k : Int)) rfl S
  have c2 := fun S => slice_from (l := x) (by omega) (k := k) (i := (k : Int)) rfl S
  have c3 := fun S => slice_from (l := x) (by omega) (k := k + 1) (i := (k : Int) + 1) rfl S
  have lt := List.length_take_le k x
  have ld : (x.drop k).length ≤ x.length := by rw [List.length_drop]; omega
  have ld1 : (x.drop (k + 1)).length ≤ x.length := by rw [List.length_drop]; omega
  have d1 := fun S => add_ok (a := x.take k) (b := z) (by omega) S
  have d2 := fun S => add_ok (a := x.take k ++ z) (b := x.drop k) (by rw [List.length_append]; omega) S
  have d3 := fun S => add_ok (a := x.take k) (b := x.drop (k + 1)) (by omega) S
  have d4 := fun S => add_ok (a := x.take k ++ z) (b := x.drop (k + 1)) (by rw [List.length_append]; omega) S
  have m1 : ∀ c ∈ x.take k, c < 256 := fun c h => hc c (List.mem_of_mem_take h)
  have m2 : ∀ c ∈ x.drop k, c < 256 := fun c h => hc c (List.mem_of_mem_drop h)
  have m3 : ∀ c ∈ x.drop (k + 1), c < 256 := fun c h => hc c (List.mem_of_mem_drop h)
  by_cases w3 : w = 0
  · subst w3
    refine ⟨x.take k ++ z ++ x.drop k, t3, l3, ?_, ⟨by rw [List.length_append, List.length_append]; omega, fun c h => ?_⟩, by omega, by omega⟩
    · generalize x.take k ++ z ++ x.drop k = R at *
      generalize x.take k ++ z = R1 at *
      simp [m__law_bent, b__law_bent, hl, e1, e2, mul9, e3, inteq, c1, c2, d1, d2]
    · rcases List.mem_append.mp h with h | h
      · rcases List.mem_append.mp h with h | h
        · exact m1 c h
        · exact hz2 c h
      · exact m2 c h
  · by_cases w4 : w = 1
    · subst w4
      refine ⟨x.take k ++ x.drop (k + 1), t3, l3, ?_, ⟨by rw [List.length_append]; omega, fun c h => ?_⟩, by omega, by omega⟩
      · generalize x.take k ++ x.drop (k + 1) = R at *
        simp [m__law_bent, b__law_bent, hl, e1, e2, mul9, e3, inteq, c1, c3, d3]
      · rcases List.mem_append.mp h with h | h
        · exact m1 c h
        · exact m3 c h
    · by_cases w5 : w = 2
      · subst w5
        refine ⟨x.take k ++ z ++ x.drop (k + 1), t3, l3, ?_, ⟨by rw [List.length_append, List.length_append]; omega, fun c h => ?_⟩, by omega, by omega⟩
        · generalize x.take k ++ z ++ x.drop (k + 1) = R at *
          generalize x.take k ++ z = R1 at *
          simp [m__law_bent, b__law_bent, hl, e1, e2, mul9, e3, inteq, c1, c3, d1, d4]
        · rcases List.mem_append.mp h with h | h
          · rcases List.mem_append.mp h with h | h
            · exact m1 c h
            · exact hz2 c h
          · exact m3 c h
      · obtain ⟨y, t4, l4, e4, p4, a4, b4⟩ := picked (xs := [.str (Str.ofString "1_0"), .str (Str.ofString "1/1_0"), .str (Str.ofString ""), .str (Str.ofString "-"), .str (Str.ofString "/"), .str (Str.ofString "1/"), .str (Str.ofString "/2"), .str (Str.ofString "2/4"), .str (Str.ofString "3/1"), .str (Str.ofString "-0"), .str (Str.ofString "-1/2"), .str (Str.ofString "0/2"), .str (Str.ofString "1/2/3"), .str (Str.ofString "00"), .str (Str.ofString "1 /2"), .str (Str.ofString "6/-4"), .str (sx z7)]) (cells := cells) (l := l3) (by simp) (by simp) g (show 0 ≤ t3 by omega) (by omega)
        have s4 : shortS y = true := by
          simp only [List.mem_cons, List.not_mem_nil, or_false] at p4
          rcases p4 with rfl | rfl | rfl | rfl | rfl | rfl | rfl | rfl | rfl | rfl | rfl | rfl | rfl | rfl | rfl | rfl | rfl <;> first | exact s7 | decide +kernel
        obtain ⟨z2, rfl, hz3, hz4⟩ := short_of s4
        refine ⟨z2, t4, l4, ?_, ⟨by omega, hz4⟩, by omega, by omega⟩
        simp [m__law_bent, b__law_bent, hl, e1, e2, mul9, mul7, add7, e3, inteq, w3, w4, w5, e4]
end
end Z

set_option Elab.async false
set_option linter.all false
set_option maxRecDepth 100000
set_option maxHeartbeats 4000000
set_option autoImplicit false
namespace Z
open PySem PySem.Spec L2 TL

/-! ## k04: what is heard -/
section
variable {ds : List D} {act : List D → Store → Res D} {S S' : Store} {f c : Addr} {q : Str} {xs : List V} {p d : D}
theorem ask_eq (ρ : Env') (S : Store) : mAsk 0 f c q xs act (some (.lam f c q ds xs) :: ρ) S = act ds S := by
  unfold mAsk
  simp
def hText : D := .lst [.str ("text" : Str), .int 0, .int 0]
theorem hd_text (h : act ds S = .ex c_BadText ["item", "line"] [.int 0, .int 0] S) : runLam 4 b__law_heard ds act S f c q xs = .ok hText S := by
  have e1 : exqX 3 subL 0 2 = some true := rfl
  have e3 : tabL (.exc 2) (.cls 2) = some true := rfl
  have e4 : (Str.ofString "line" == Str.ofString "item") = false := by decide +kernel
  simp [runLam, b__law_heard, ask_eq, h, e1, isi_xs, tgsOf, tgOf, isi_x, e3, e4, List.lookup, attrX, hText]
theorem hd_num (h : act ds S = .ex c_BadNumber ["part"] [p] S) : runLam 4 b__law_heard ds act S f c q xs = .ok (.lst [.str ("number" : Str), p]) S := by
  have e1 : exqX 3 subL 0 1 = some true := rfl
  have e2 : tabL (.exc 1) (.cls 2) = some false := rfl
  have e3 : tabL (.exc 1) (.cls 1) = some true := rfl
  simp [runLam, b__law_heard, ask_eq, h, e1, isi_xs, tgsOf, tgOf, e2, isi_x, e3, List.lookup, attrX]
theorem hd_ok (h : act ds S = .ok d S') : runLam 4 b__law_heard ds act S f c q xs = .ok d S' := by
  have e2 : ∀ S', isiM tabL [.non, .cls 2] S' = .ok (.bl false) S' := fun S' => by
    simp [isiM, tagD, tgsOf, tgOf, tabL, tabX, bknd]
  have e3 : ∀ S', isiM tabL [.non, .cls 1] S' = .ok (.bl false) S' := fun S' => by
    simp [isiM, tagD, tgsOf, tgOf, tabL, tabX, bknd]
  simp [runLam, b__law_heard, ask_eq, h, e2, e3, isD, isNon]
end
section
variable {n : Nat} {ix : List Nat} {mb : ME} {ρ : Env'} {S : Store} {ds : List D} {p d : D}
theorem lam_text (hc : caps ix ρ = some ds) (h : mb (place n ix ds) S = .ex c_BadText ["item", "line"] [.int 0, .int 0] S) : mCut (mLam 4 b__law_heard n ix mb) ρ S = .ok hText S := by
  unfold mCut
  rw [mLam_ok hc (fun f c q xs => hd_text h)]
  exact cut_same _ _
theorem lam_num (hc : caps ix ρ = some ds) (h : mb (place n ix ds) S = .ex c_BadNumber ["part"] [p] S) : mCut (mLam 4 b__law_heard n ix mb) ρ S = .ok (.lst [.str ("number" : Str), p]) S := by
  unfold mCut
  rw [mLam_ok hc (fun f c q xs => hd_num h)]
  exact cut_same _ _
theorem lam_ok (hc : caps ix ρ = some ds) (h : mb (place n ix ds) S = .ok d S) : mCut (mLam 4 b__law_heard n ix mb) ρ S = .ok d S := by
  unfold mCut
  rw [mLam_ok hc (fun f c q xs => hd_ok h)]
  exact cut_same _ _
end
/-! ## k04: the law -/
noncomputable def bLong : MS := sIf (mOrT (mBlT (mBin neD (mCall m_number_text (mConsL (mVar 4) mNilL)) (mVar 5))) (mBlT (mBin neD (mCut (mLam 4 b__law_heard 13 [5] (mCall m_number_of (mConsL (mVar 5) mNilL)))) (mLst (mConsL (mC (.str ("text" : Str))) (mConsL (mC (.int 0)) (mConsL (mC (.int 0)) mNilL))))))) (sRet (mC (.bl false))) sPass
noncomputable def bBend : MS := sSeq (sAsg (mCall m__law_bent (mConsL (mVar 1) (mConsL (mVar 5) mNilL))) (gNm 8)) (sSeq (sAsg (mCall m__law_read (mConsL (mVar 8) mNilL)) (gNm 9)) (sIf (mBlT (mBin neD (mCall (f1 reprZ) (mConsL (mCut (mLam 4 b__law_heard 13 [8] (mCall m_number_of (mConsL (mVar 8) mNilL)))) mNilL)) (mCall (f1 reprZ) (mConsL (mIf (mBlT (mBin isD (mVar 9) (mC .non))) (mLst (mConsL (mC (.str ("text" : Str))) (mConsL (mC (.int 0)) (mConsL (mC (.int 0)) mNilL)))) (mVar 9)) mNilL)))) (sRet (mC (.bl false))) sPass))
noncomputable def bTurn : MS := sSeq (sAsg (mCall m__law_number (mConsL (mVar 1) mNilL)) (gNm 3)) (sSeq (sAsg (mCall m__law_told (mConsL (mVar 3) mNilL)) (gNm 4)) (sSeq (sAsg (mIf (mBlT (mBin eqD (mBin ixD (mVar 3) (mC (.int 1))) (mC (.int 1)))) (mCall (f1 strD) (mConsL (mBin ixD (mVar 3) (mC (.int 0))) mNilL)) (mJoined [(mUn fmtD (mBin ixD (mVar 3) (mC (.int 0)))), (mC (.str ("/" : Str))), (mUn fmtD (mBin ixD (mVar 3) (mC (.int 1))))])) (gNm 5)) (sSeq (sAsg (mIf (mTst (mCall (isiM tabL) (mConsL (mVar 4) (mConsL (mC (.ty "tuple")) mNilL)))) (mCall (f1 listD) (mConsL (mVar 4) mNilL)) (mVar 4)) (gNm 6)) (sSeq (sIf (mBlT (mBin neD (mCall (f1 reprZ) (mConsL (mLst (mConsL (mCall m_number_text (mConsL (mVar 4) mNilL)) (mConsL (mCallK m_number_text 0 1 [.kw 0] [] mNilL (mConsL (mVar 6) mNilL)) mNilL))) mNilL)) (mCall (f1 reprZ) (mConsL (mLst (mConsL (mVar 5) (mConsL (mVar 5) mNilL))) mNilL)))) (sRet (mC (.bl false))) sPass) (sSeq (sIf (mBlT (mBin neD (mCall (f1 reprZ) (mConsL (mLst (mConsL (mCall m_number_of (mConsL (mVar 5) mNilL)) (mConsL (mCallK m_number_of 0 1 [.kw 0] [] mNilL (mConsL (mVar 5) mNilL)) mNilL))) mNilL)) (mCall (f1 reprZ) (mConsL (mLst (mConsL (mVar 4) (mConsL (mVar 4) mNilL))) mNilL)))) (sRet (mC (.bl false))) sPass) (sFor (mRange1 (mConsL (mC (.int 4)) mNilL)) (gNm 7) bBend))))))
theorem repr_text : ∃ z, ∀ S, reprZ hText S = .ok (.str z) S := by
  have e : ∀ S, toPS S hText = some (.list [.str (Str.ofString "text"), .int 0, .int 0]) := fun S => rfl
  exact ⟨_, fun S => repr_ok (e S) (by decide +kernel) (by decide +kernel) (by decide +kernel)⟩
section
variable {S0 : Store} {n : Nat} {cells : List Int} {t l : Int}
theorem bend_ok (A p2 p3 p4 p6 : Option D) {x : List Nat} (hx : x.length ≤ 203) (hc : ∀ c ∈ x, c < 256) (g : Gd S0 n) (h0 : 0 ≤ t) (hT : t + 4 ≤ 2 ^ 20) (o7 o8 o9 o10 o11 o12 : Option D) :
    ∃ p8 p9 t' l', bBend [A, some (.loc n), p2, p3, p4, some (.str (sx x)), p6, o7, o8, o9, o10, o11, o12] (Nu S0 n cells t l) = .nx [A, some (.loc n), p2, p3, p4, some (.str (sx x)), p6, o7, p8, p9, o10, o11, o12] (Nu S0 n cells t' l') ∧ t ≤ t' ∧ t' ≤ t + 4 := by
  obtain ⟨y, t1, l1, e1, oy, a1, b1⟩ := bent_ok (cells := cells) (l := l) hx hc g h0 hT
  have e2 := fun S => read_ok oy S
  refine ⟨some (.str (sx y)), some (wrD y), t1, l1, ?_, a1, b1⟩
  by_cases hw : wrD y = .non
  · have k : ∀ S, mCut (mLam 4 b__law_heard 13 [8] (mCall m_number_of (mConsL (mVar 8) mNilL))) [A, some (.loc n), p2, p3, p4, some (.str (sx x)), p6, o7, some (.str (sx y)), some (wrD y), o10, o11, o12] S = .ok hText S := fun S =>
      lam_text (ds := [.str (sx y)]) (by simp [caps]) (by simp [place, List.replicate, numof_bad oy.1 hw])
    obtain ⟨z, hz⟩ := repr_text
    rw [hw] at e2 k ⊢
    unfold hText at k hz
    simp [bBend, e1, e2, ↓k, hz, str_ne, isD, isNon]
  · obtain ⟨q, hq, fq⟩ := wr_enc hw
    have k : ∀ S, mCut (mLam 4 b__law_heard 13 [8] (mCall m_number_of (mConsL (mVar 8) mNilL))) [A, some (.loc n), p2, p3, p4, some (.str (sx x)), p6, o7, some (.str (sx y)), some (wrD y), o10, o11, o12] S = .ok (wrD y) S := fun S =>
      lam_ok (ds := [.str (sx y)]) (by simp [caps]) (by simp [place, List.replicate, numof_ok oy.1 hw])
    obtain ⟨z, hz⟩ := repr_one ((fw_sz fq).mono (show 200 ≤ 1900 by decide))
    have h3 : ∀ S, isD (wrD y) .non S = .ok (.bl false) S := fun S => by
      generalize wrD y = x at *
      cases x <;> first | rfl | exact absurd rfl hw
    rw [hq] at e2 k h3 ⊢
    simp [bBend, e1, e2, ↓k, hz, str_ne, h3]
theorem bends_ok (A p2 p3 p4 p6 : Option D) {x : List Nat} (hx : x.length ≤ 203) (hc : ∀ c ∈ x, c < 256) (g : Gd S0 n) (o10 o11 o12 : Option D) : ∀ (ds : List D) (t l : Int) (o7 o8 o9 : Option D), 0 ≤ t → t + 4 * ds.length ≤ 2 ^ 20 →
    ∃ p7 p8 p9 t' l', forL (gNm 7) bBend ds [A, some (.loc n), p2, p3, p4, some (.str (sx x)), p6, o7, o8, o9, o10, o11, o12] (Nu S0 n cells t l) = .nx [A, some (.loc n), p2, p3, p4, some (.str (sx x)), p6, p7, p8, p9, o10, o11, o12] (Nu S0 n cells t' l') ∧ t ≤ t' ∧ t' ≤ t + 4 * ds.length
  | [], t, l, o7, o8, o9, _, _ => ⟨o7, o8, o9, t, l, rfl, Int.le_refl _, by simp⟩
  | d :: ds, t, l, o7, o8, o9, h0, hT => by
    simp only [List.length_cons] at hT ⊢
    obtain ⟨p8, p9, t1, l1, e1, a1, b1⟩ := bend_ok A p2 p3 p4 p6 hx hc (cells := cells) (l := l) g h0 (by omega) (some d) o8 o9 o10 o11 o12
    obtain ⟨q7, q8, q9, t2, l2, e2, a2, b2⟩ := bends_ok A p2 p3 p4 p6 hx hc g o10 o11 o12 ds t1 l1 (some d) p8 p9 (by omega) (by omega)
    exact ⟨q7, q8, q9, t2, l2, by simp [forL, e1, e2], by omega, by omega⟩
theorem hd_of {x : Rat} : Hd (if isT (enc x) = true then (match enc x with | .tup l => .lst l | d => d) else enc x) x := by
  by_cases hd : x.den = 1
  · rw [enc_int x hd]
    exact .inl (enc_int x hd).symm
  · rw [enc_tup x hd]
    exact .inr ⟨rfl, hd⟩
theorem turn_ok (A : Option D) (g : Gd S0 n) (h0 : 0 ≤ t) (hT : t + 30 ≤ 2 ^ 20) (o2 o3 o4 o5 o6 o7 o8 o9 o10 o11 o12 : Option D) :
    ∃ p3 p4 p5 p6 p7 p8 p9 t' l', bTurn [A, some (.loc n), o2, o3, o4, o5, o6, o7, o8, o9, o10, o11, o12] (Nu S0 n cells t l) = .nx [A, some (.loc n), o2, p3, p4, p5, p6, p7, p8, p9, o10, o11, o12] (Nu S0 n cells t' l') ∧ t ≤ t' ∧ t' ≤ t + 30 := by
  obtain ⟨x, t1, l1, e1, fx, a1, b1⟩ := number_ok (cells := cells) (l := l) g h0 (by omega)
  have sz := (fw_sz fx).mono (show 200 ≤ 3500 by decide)
  have e2 := fun S => told_ok sz S
  have w1 : x.num.natAbs < 10 ^ 100 := Nat.lt_trans fx.1 (by decide +kernel)
  have w2 : x.den < 10 ^ 100 := Nat.lt_trans fx.2 (by decide +kernel)
  have hl := numText_len w1 w2
  have hk := numText_ok x
  obtain ⟨tx, htx⟩ : ∃ tx, tx = numText x := ⟨_, rfl⟩
  have c1 := fun S => ntext_ok (.inl rfl : Hd (enc x) x) w1 w2 S
  have c3 := fun S => numof_text fx S
  rw [← htx] at c1 c3 hl hk
  obtain ⟨hd, c2, dd⟩ : ∃ hd, (∀ S, m_number_text [hd] S = .ok (.str (sx tx)) S) ∧ ∀ (ρ : Env') S, mIf (mTst (mCall (isiM tabL) (mConsL (mVar 4) (mConsL (mC (.ty "tuple")) mNilL)))) (mCall (f1 listD) (mConsL (mVar 4) mNilL)) (mVar 4) (A :: some (.loc n) :: o2 :: some (encP x) :: some (enc x) :: ρ) S = .ok hd S := by
    have hit := fun S => isi_t (enc x) S (okD_enc x)
    by_cases hd : x.den = 1
    · refine ⟨enc x, c1, fun ρ S => ?_⟩
      rw [enc_int x hd] at hit ⊢
      simp [hit, isT]
    · refine ⟨encL x, fun S => by rw [htx]; exact ntext_ok (.inr ⟨rfl, hd⟩) w1 w2 S, fun ρ S => ?_⟩
      rw [enc_tup x hd] at hit ⊢
      simp [hit, isT, listD, encL]
  have dt : ∀ (ρ : Env') S, mIf (mBlT (mBin eqD (mBin ixD (mVar 3) (mC (.int 1))) (mC (.int 1)))) (mCall (f1 strD) (mConsL (mBin ixD (mVar 3) (mC (.int 0))) mNilL)) (mJoined [(mUn fmtD (mBin ixD (mVar 3) (mC (.int 0)))), (mC (.str ("/" : Str))), (mUn fmtD (mBin ixD (mVar 3) (mC (.int 1))))]) (A :: some (.loc n) :: o2 :: some (encP x) :: ρ) S = .ok (.str (sx tx)) S := by
    intro ρ S
    rw [htx]
    unfold numText
    by_cases hd : x.den = 1
    · have e : ((x.den : Nat) : Int) = 1 := by omega
      rw [if_pos hd]
      simp [ixP0, ixP1, e, inteq, str_ok w1]
    · have e : ¬ ((x.den : Nat) : Int) = 1 := by omega
      rw [if_neg hd]
      have j := joined_ok (a := mBin ixD (mVar 3) (mC (.int 0))) (b := mBin ixD (mVar 3) (mC (.int 1))) (ρ := A :: some (.loc n) :: o2 :: some (encP x) :: ρ) (S := S) (i := x.num) (j := x.den) (by simp [ixP0]) (by simp [ixP1]) w1 (by simpa using w2)
      simp [ixP1, e, inteq, j]
  obtain ⟨z1, hz1⟩ := repr_two (l := tx) ⟨by omega, hk⟩
  obtain ⟨z2, hz2⟩ := repr_twoN ((fw_sz fx).mono (show 200 ≤ 1900 by decide))
  obtain ⟨p7, p8, p9, t2, l2, e3, a2, b2⟩ := bends_ok A o2 (some (encP x)) (some (enc x)) (some hd) hl hk (cells := cells) g o10 o11 o12 (rangeL 0 4) t1 l1 o7 o8 o9 (by omega) (by simp [rangeL]; omega)
  have hr : (rangeL 0 4).length = 4 := by simp [rangeL]
  rw [hr] at b2
  have hrg : ∀ ρ S, mRange1 (mConsL (mC (.int 4)) mNilL) ρ S = .ok (rangeL 0 4) S := fun ρ S => range1_ok (m := 4) rfl (by decide)
  refine ⟨some (encP x), some (enc x), some (.str (sx tx)), some hd, p7, p8, p9, t2, l2, ?_, by omega, by omega⟩
  clear htx
  simp [bTurn, e1, e2, ↓dd, ↓dt, c1, c2, c3, hz1, hz2, str_ne, fill, hrg, e3]
theorem turns_ok (A : Option D) (g : Gd S0 n) (o10 o11 o12 : Option D) : ∀ (ds : List D) (t l : Int) (o2 o3 o4 o5 o6 o7 o8 o9 : Option D), 0 ≤ t → t + 30 * ds.length ≤ 2 ^ 20 →
    ∃ p2 p3 p4 p5 p6 p7 p8 p9 t' l', forL (gNm 2) bTurn ds [A, some (.loc n), o2, o3, o4, o5, o6, o7, o8, o9, o10, o11, o12] (Nu S0 n cells t l) = .nx [A, some (.loc n), p2, p3, p4, p5, p6, p7, p8, p9, o10, o11, o12] (Nu S0 n cells t' l') ∧ t ≤ t' ∧ t' ≤ t + 30 * ds.length
  | [], t, l, o2, o3, o4, o5, o6, o7, o8, o9, _, _ => ⟨o2, o3, o4, o5, o6, o7, o8, o9, t, l, rfl, Int.le_refl _, by simp⟩
  | d :: ds, t, l, o2, o3, o4, o5, o6, o7, o8, o9, h0, hT => by
    simp only [List.length_cons] at hT ⊢
    obtain ⟨p3, p4, p5, p6, p7, p8, p9, t1, l1, e1, a1, b1⟩ := turn_ok A (cells := cells) (l := l) g h0 (by omega) (some d) o3 o4 o5 o6 o7 o8 o9 o10 o11 o12
    obtain ⟨q2, q3, q4, q5, q6, q7, q8, q9, t2, l2, e2, a2, b2⟩ := turns_ok A g o10 o11 o12 ds t1 l1 (some d) p3 p4 p5 p6 p7 p8 p9 (by omega) (by omega)
    exact ⟨q2, q3, q4, q5, q6, q7, q8, q9, t2, l2, by simp [forL, e1, e2], by omega, by omega⟩
end
end Z

set_option Elab.async false
set_option linter.all false
set_option maxRecDepth 100000
set_option maxHeartbeats 4000000
set_option autoImplicit false
namespace Z
open PySem PySem.Spec L2 TL

/-! ## k04: long ones, odd ones -/
theorem ev_dict0 (ρ : Env') (S : Store) : mCut (mFrz mDict0) ρ S = .ok (.dct [] []) S := by
  show cut S ((mDict0 ρ S).bind frzD) = _
  have h : (S ++ [Ent.dct [] []])[S.length]? = some (.dct [] []) := by simp
  have h2 : (S ++ [Ent.dct [] []]).set S.length .dead = S ++ [.dead] := by simp
  simp only [mDict0, bind_ok, frzD, h, h2]
  exact cut_app rfl
def LongOk (d : D) (x : List Nat) : Prop := (∀ S, m_number_text [d] S = .ok (.str (sx x)) S) ∧ x.length ≤ 1000 ∧ wrD x = .non
theorem long_step {d : D} {x : List Nat} (h : LongOk d x) (p0 p1 p2 p3 p6 p7 p8 p9 p10 p11 p12 : Option D) (S : Store) :
    bLong [p0, p1, p2, p3, some d, some (.str (sx x)), p6, p7, p8, p9, p10, p11, p12] S = .nx [p0, p1, p2, p3, some d, some (.str (sx x)), p6, p7, p8, p9, p10, p11, p12] S := by
  obtain ⟨h1, h2, h3⟩ := h
  have k : ∀ S, mCut (mLam 4 b__law_heard 13 [5] (mCall m_number_of (mConsL (mVar 5) mNilL))) [p0, p1, p2, p3, some d, some (.str (sx x)), p6, p7, p8, p9, p10, p11, p12] S = .ok hText S := fun S =>
    lam_text (ds := [.str (sx x)]) (by simp [caps]) (by simp [place, List.replicate, numof_bad h2 h3])
  have n1 := ne_same (d := hText) (by decide +kernel)
  unfold hText at k n1
  simp [bLong, h1, str_ne, ↓k, n1]
theorem c60 : (10 : Int) ^ (60 : Nat) = ((10 ^ 60 : Nat) : Int) := by decide +kernel
theorem numT1 : numT (-1) = [45, 49] := by
  unfold numT
  rw [if_neg (by decide), show (- (-1 : Int)).toNat = 1 from rfl, numL_lt (by decide)]
theorem numT2 : numT 2 = [50] := by
  unfold numT
  rw [if_pos (by decide), show (2 : Int).toNat = 2 from rfl, numL_lt (by decide)]
theorem big_lt {m : Int} (h : m.natAbs < 10 ^ 80) : m.natAbs < 10 ^ 100 := Nat.lt_trans h (by decide +kernel)
theorem long1 {m : Int} (h1 : (10 ^ 60 : Nat) ≤ m) (h2 : m.natAbs < 10 ^ 80) : LongOk (.int m) (numT m) := by
  have e : enc (m : Rat) = .int m := enc_int _ rfl
  have en : numText (m : Rat) = numT m := if_pos rfl
  have hl := numText_len (x := (m : Rat)) (big_lt h2) (by show 1 < _; decide +kernel)
  rw [en] at hl
  refine ⟨fun S => ?_, by omega, ?_⟩
  · have := ntext_ok (x := (m : Rat)) (.inl rfl) (big_lt h2) (by show 1 < _; decide +kernel) S
    rw [e, en] at this
    exact this
  · rw [wr_free (numT_free _), rd_long (by omega)]
    rfl
theorem long_pair {i j : Int} {b : List Nat} (hj : 2 ≤ j) (hg : Nat.gcd i.natAbs j.natAbs = 1) (h1 : i.natAbs < 10 ^ 80) (h2 : j.natAbs < 10 ^ 80) (hw : rdI (numT i) = none ∨ rdI (numT j) = none) (hb : b = numT i ++ 47 :: numT j) : LongOk (.tup [.int i, .int j]) b := by
  obtain ⟨p, q⟩ := rat_of (a := i) (b := j) (n := i) (d := j.natAbs) (by omega) (by omega) hg (by rw [show ((j.natAbs : Nat) : Int) = j by omega])
  have qd : ((Rat.divInt i j).den : Int) = j := by omega
  have e : enc (Rat.divInt i j) = .tup [.int i, .int j] := by rw [enc_tup _ (by omega), p, qd]
  have en : numText (Rat.divInt i j) = b := by
    unfold numText
    rw [if_neg (by omega), p, qd, hb]
  have hl := numText_len (x := Rat.divInt i j) (by rw [p]; exact big_lt h1) (by rw [q]; exact big_lt h2)
  rw [en] at hl
  refine ⟨fun S => ?_, by omega, ?_⟩
  · have := ntext_ok (x := Rat.divInt i j) (.inl rfl) (by rw [p]; exact big_lt h1) (by rw [q]; exact big_lt h2) S
    rw [e, en] at this
    exact this
  · rw [hb, wr_one (numT_free _) (numT_free _)]
    rcases hw with h | h
    · rw [h]
    · rw [h]
      cases rdI (numT i) <;> rfl
theorem odd_gcd (m : Nat) : Nat.gcd (2 * m + 1) 2 = 1 := by
  rw [Nat.gcd_comm, Nat.gcd_rec, show (2 * m + 1) % 2 = 1 by omega, Nat.gcd_one_left]
theorem longs_ok {m : Int} (h1 : (10 ^ 60 : Nat) ≤ m) (h2 : m.natAbs < 10 ^ 79) : LongOk (.int m) (numT m) ∧ LongOk (.tup [.int (-1), .int m]) ([45, 49, 47] ++ numT m) ∧ LongOk (.tup [.int (2 * m + 1), .int 2]) (numT (2 * m + 1) ++ [47, 50]) := by
  have h2' : m.natAbs < 10 ^ 80 := Nat.lt_trans h2 (by decide +kernel)
  refine ⟨long1 h1 h2', ?_, ?_⟩
  · refine long_pair (by omega) (by simp) (by decide +kernel) h2' (.inr (rd_long (by omega))) ?_
    rw [numT1]; rfl
  · have e : (2 * m + 1).natAbs = 2 * m.natAbs + 1 := by omega
    refine long_pair (by omega) ?_ (by omega) (by decide +kernel) (.inl (rd_long (by omega))) ?_
    · rw [e]
      exact odd_gcd _
    · rw [numT2]
def oddL : List D := [.non, .int 7, .tup [.int 7, .int 2], .bl true, .lst [.str (Str.ofString "7")], .dct [] []]
theorem oddL_ok {v : D} (h : v ∈ oddL) : okD v = true ∧ isS v = false := by
  have : oddL.all (fun v => okD v && !isS v) = true := by decide +kernel
  simpa using List.all_eq_true.mp this v h
def badL : List D := [.non, .str (Str.ofString "7"), .tup [.int 2, .int 4], .tup [.int 3, .int 1], .bl true, .lst [], .tup [.int 1, .int 0]]
theorem badL_ok {v : D} (h : v ∈ badL) : okD v = true ∧ numB v = false := by
  have : badL.all (fun v => okD v && !numB v) = true := by decide +kernel
  simpa using List.all_eq_true.mp this v h
theorem law_holds : LawHolds 63 m_law := by
  intro ns hns
  have h1 := made hns
  obtain ⟨p2, p3, p4, p5, p6, p7, p8, p9, t1, l1, e1, a1, b1⟩ := turns_ok (n := 0) (cells := ns.take 61) (some (.kst (ns.map D.int))) gd0 none none none (rangeL 0 4) 0 0 none none none none none none none none (by decide) (by simp [rangeL])
  have hr : (rangeL 0 4).length = 4 := by simp [rangeL]
  rw [hr] at b1
  obtain ⟨r, t2, l2, e2, r0, r1, a2, b2⟩ := drawn (many := 1000000000) (cells := ns.take 61) (l := l1) (by omega) (by decide) gd0 a1 (by omega)
  obtain ⟨s, t3, l3, e3, s0, s1, a3, b3⟩ := drawn (many := 99) (cells := ns.take 61) (l := l2) (by omega) (by decide) gd0 (show 0 ≤ t2 by omega) (by omega)
  obtain ⟨v, t4, l4, e4, v1, a4, b4⟩ := picked (xs := oddL) (cells := ns.take 61) (l := l3) (by simp [oddL]) (by simp [oddL]) gd0 (show 0 ≤ t3 by omega) (by omega)
  obtain ⟨w, t5, l5, e5, w1, a5, b5⟩ := picked (xs := badL) (cells := ns.take 61) (l := l4) (by simp [badL]) (by simp [badL]) gd0 (show 0 ≤ t4 by omega) (by omega)
  have q1 := fun S => pow_ok (i := 10) (j := 60) (by decide) S
  have q2 := fun S => pow_ok (i := 10) (j := 9) (by decide) S
  rw [show ((10 : Int) ^ (Int.toNat 9)) = 1000000000 from by decide] at q2
  obtain ⟨cc, k60⟩ : ∃ c : Int, c = 10 ^ (Int.toNat 60) := ⟨_, rfl⟩
  rw [← k60] at q1
  have kz : cc = ((10 ^ 60 : Nat) : Int) := by rw [k60]; exact c60
  have m1 : ∀ S, mulD (.int cc) (.int (1 + r)) S = .ok (.int (cc * (1 + r))) S := fun S => mulD_ok (mul_ok' (by omega))
  obtain ⟨m, hm⟩ : ∃ m, m = cc * (1 + r) + s := ⟨_, rfl⟩
  have hm1 : (10 ^ 60 : Nat) ≤ m := by
    have : cc * 1 ≤ cc * (1 + r) := Int.mul_le_mul_of_nonneg_left (by omega) (by omega)
    omega
  have hm2 : m.natAbs < 10 ^ 79 := by
    have : cc * (1 + r) ≤ cc * 1000000000 := Int.mul_le_mul_of_nonneg_left (by omega) (by omega)
    omega
  obtain ⟨g1, g2, g3⟩ := longs_ok hm1 hm2
  have hz : m.natAbs < 10 ^ 100 := Nat.lt_trans hm2 (by decide +kernel)
  have hz2 : (2 * m + 1).natAbs < 10 ^ 100 := Nat.lt_trans (show (2 * m + 1).natAbs < 10 ^ 80 by omega) (by decide +kernel)
  have st1 := fun S => str_ok hz S
  have st2 := fun S => str_ok hz2 S
  have m2 : ∀ S, mulD (.int 2) (.int m) S = .ok (.int (2 * m)) S := fun S => mulD_ok (mul_ok (by decide))
  have nl1 := numT_len (by decide) hz
  have nl2 := numT_len (by decide) hz2
  have ad1 : ∀ S, addD (.str (Str.ofString "-1/")) (.str (sx (numT m))) S = .ok (.str (sx ([45, 49, 47] ++ numT m))) S := fun S => by
    rw [show Str.ofString "-1/" = sx [45, 49, 47] from lit_sx "-1/"]
    exact add_sx (by simp; omega) S
  have ad2 : ∀ S, addD (.str (sx (numT (2 * m + 1)))) (.str (Str.ofString "/2")) S = .ok (.str (sx (numT (2 * m + 1) ++ [47, 50]))) S := fun S => by
    rw [show Str.ofString "/2" = sx [47, 50] from lit_sx "/2"]
    exact add_sx (by simp; omega) S
  generalize numT m = y1 at *
  generalize [45, 49, 47] ++ y1 = y2 at *
  generalize numT (2 * m + 1) ++ [47, 50] = y3 at *
  generalize numT (2 * m + 1) = y4 at *
  have hrg : ∀ ρ S, mRange1 (mConsL (mC (.int 4)) mNilL) ρ S = .ok (rangeL 0 4) S := fun ρ S => range1_ok (m := 4) rfl (by decide)
  have k1 : ∀ o12 S, mCut (mLam 4 b__law_heard 13 [11] (mCall m_number_of (mConsL (mVar 11) mNilL))) [some (.kst (ns.map D.int)), some (.loc 0), p2, p3, some (.tup [.int (2 * m + 1), .int 2]), some (.str (sx y3)), p6, p7, p8, p9, some (.int m), some v, o12] S = .ok hText S := fun o12 S =>
    lam_text (ds := [v]) (by simp [caps]) (by simp [place, List.replicate, numof_no (oddL_ok v1).1 (oddL_ok v1).2])
  have k2 : ∀ S, mCut (mLam 4 b__law_heard 13 [12] (mCall m_number_text (mConsL (mVar 12) mNilL))) [some (.kst (ns.map D.int)), some (.loc 0), p2, p3, some (.tup [.int (2 * m + 1), .int 2]), some (.str (sx y3)), p6, p7, p8, p9, some (.int m), some v, some w] S = .ok (.lst [.str ("number" : Str), .str ("value" : Str)]) S := fun S =>
    lam_num (ds := [w]) (by simp [caps]) (by simp [place, List.replicate, ntext_bad (badL_ok w1).1 (badL_ok w1).2])
  have n1 := ne_same (d := hText) (by decide +kernel)
  have n2 := eq_same (d := .lst [.str ("number" : Str), .str ("value" : Str)]) (by decide +kernel)
  have ls2 := long_step g2 (some (.kst (ns.map D.int))) (some (.loc 0)) p2 p3 p6 p7 p8 p9 (some (.int m)) none none
  have ls3 := long_step g3 (some (.kst (ns.map D.int))) (some (.loc 0)) p2 p3 p6 p7 p8 p9 (some (.int m)) none none
  have ls1 := long_step g1 (some (.kst (ns.map D.int))) (some (.loc 0)) p2 p3 p6 p7 p8 p9 (some (.int m)) none none
  have fl : ∀ S, forL (gMany 2 (gsCons (gNm 4) (gsCons (gNm 5) gsNil))) bLong [.tup [.int m, .str (sx y1)], .tup [.tup [.int (-1), .int m], .str (sx y2)], .tup [.tup [.int (2 * m + 1), .int 2], .str (sx y3)]] [some (.kst (ns.map D.int)), some (.loc 0), p2, p3, p4, p5, p6, p7, p8, p9, some (.int m), none, none] S = .nx [some (.kst (ns.map D.int)), some (.loc 0), p2, p3, some (.tup [.int (2 * m + 1), .int 2]), some (.str (sx y3)), p6, p7, p8, p9, some (.int m), none, none] S := fun S => by
    simp [forL, ls1, ls2, ls3]
  unfold bTurn bBend at e1
  unfold bLong at fl
  unfold oddL at e4
  unfold badL at e5
  unfold hText at k1 n1
  have hb : b_law [some (.kst (ns.map D.int)), none, none, none, none, none, none, none, none, none, none, none, none] [] = .rt (.bl true) (Nu [.dead] 0 (ns.take 61) t5 l5) := by
    simp [b_law, h1, hrg, e1, q1, q2, e2, e3, m1, ← hm, st1, st2, m2, ad1, ad2, stillD, fl, ev_dict0, e4, e5, ↓k1, ↓k2, n1, n2]
  have hc : m_law [.kst (ns.map D.int)] [] = cut [] (.ok (.bl true) (Nu [.dead] 0 (ns.take 61) t5 l5)) := by
    show cut [] (runDef 1 13 b_law [.kst (ns.map D.int)] []) = _
    congr 1
    unfold runDef
    rw [if_pos (show [D.kst (ns.map D.int)].length = 1 from rfl)]
    show (match b_law [some (.kst (ns.map D.int)), none, none, none, none, none, none, none, none, none, none, none, none] [] with
      | .nx _ S' => Res.ok D.non S'
      | .rt d S' => .ok d S'
      | .ex _ c ks vs S' => .ex c ks vs S'
      | _ => .bad) = _
    rw [hb]
  rw [hc]
  simp only [cut]
  split <;> exact ⟨_, rfl⟩
end Z

set_option Elab.async false
set_option linter.all false
set_option maxRecDepth 100000
set_option maxHeartbeats 4000000
set_option autoImplicit false
namespace Z
open PySem PySem.Spec L2
def topS (i : Nat) : Stmt := PySem.Challenge.pw_lanecross_k04_numbers_written_and_read.main.body.getD i (.Pass ⟨0, 0, 0, 0⟩)
structure Bl (G : Gm) : Prop where
  b_abs : G.mg "abs" = none
  b_all : G.mg "all" = none
  b_bool : G.mg "bool" = none
  b_int : G.mg "int" = none
  b_isinstance : G.mg "isinstance" = none
  b_len : G.mg "len" = none
  b_list : G.mg "list" = none
  b_min : G.mg "min" = none
  b_range : G.mg "range" = none
  b_repr : G.mg "repr" = none
  b_str : G.mg "str" = none
  b_tuple : G.mg "tuple" = none
  k_MOST_FIGURES : ∃ t, G.mg "MOST_FIGURES" = some (.int 60 t)
  k_FIGURES : ∃ t, G.mg "FIGURES" = some (.str "0123456789" t)
  k_BAR : ∃ t, G.mg "BAR" = some (.str "/" t)
abbrev s_BadNumber : Stmt := (clsB (topS 2)).getD 0 (.Pass ⟨0, 0, 0, 0⟩)
theorem xs_BadNumber : XsC "BadNumber.__init__" s_BadNumber ["part"] := ⟨⟨rfl, rfl, rfl, by decide +kernel, by decide +kernel, rfl, rfl, free_of (by decide +kernel), by decide +kernel⟩, rfl, ⟨_, _, _, _, _, _, _, _, _, fun L f cd cc => ⟨_, rfl⟩, rfl, ⟨_, _, _, _, rfl⟩⟩, by decide +kernel⟩
abbrev s_BadText : Stmt := (clsB (topS 3)).getD 0 (.Pass ⟨0, 0, 0, 0⟩)
theorem xs_BadText : XsC "BadText.__init__" s_BadText ["line", "item"] := ⟨⟨rfl, rfl, rfl, by decide +kernel, by decide +kernel, rfl, rfl, free_of (by decide +kernel), by decide +kernel⟩, rfl, ⟨_, _, _, _, _, _, _, _, _, fun L f cd cc => ⟨_, rfl⟩, rfl, ⟨_, _, _, _, _, _, _, _, rfl⟩⟩, by decide +kernel⟩
structure Cl (G : Gm) (P : Program) (fi : Nat → Addr) (fdd : Nat → FuncData) : Prop where
  mg_LaneError : G.mg "LaneError" = some (.ref (G.cls 0))
  mg_BadText : G.mg "BadText" = some (.ref (G.cls 2))
  mg_BadNumber : G.mg "BadNumber" = some (.ref (G.cls 1))
  x_BadNumber : XcF G P 1 "BadNumber" "BadNumber.__init__" s_BadNumber ["part"] (fi 1) (fdd 1)
  bx_BadNumber_1_ : BdX G.K (fdd 1) ["part"] 1 [] [.ps 0]
  x_BadText : XcF G P 2 "BadText" "BadText.__init__" s_BadText ["line", "item"] (fi 2) (fdd 2)
  bx_BadText_2_ : BdX G.K (fdd 2) ["line", "item"] 2 [] [.ps 0, .ps 1]
  ex_LaneError : ∀ c b, exqX 3 subL 0 c = some b → PySem.W.exmOne G.K (.ref (G.cls c)) (.ref (G.cls 0)) = some b
  xa_line : XaT G [2] "line"
  xa_item : XaT G [2] "item"
  xa_part : XaT G [1] "part"
abbrev s_is_integer : Stmt := topS 5
theorem sc_is_integer : FnScope ["value"] ["value"] (defScope s_is_integer) := ⟨rfl, rfl, rfl, by decide +kernel, rfl, by decide +kernel, by decide +kernel⟩
abbrev s_is_within : Stmt := topS 6
theorem sc_is_within : FnScope ["value", "least", "most"] ["value", "least", "most"] (defScope s_is_within) := ⟨rfl, rfl, rfl, by decide +kernel, rfl, by decide +kernel, by decide +kernel⟩
abbrev s_common : Stmt := topS 7
theorem sc_common : FnScope ["one", "other"] ["one", "other"] (defScope s_common) := ⟨rfl, rfl, rfl, by decide +kernel, rfl, by decide +kernel, by decide +kernel⟩
abbrev s_is_number : Stmt := topS 8
theorem sc_is_number : FnScope ["value"] ["value"] (defScope s_is_number) := ⟨rfl, rfl, rfl, by decide +kernel, rfl, by decide +kernel, by decide +kernel⟩
abbrev s_kept : Stmt := topS 9
theorem sc_kept : FnScope ["number"] ["number"] (defScope s_kept) := ⟨rfl, rfl, rfl, by decide +kernel, rfl, by decide +kernel, by decide +kernel⟩
abbrev s_need_number : Stmt := topS 10
theorem sc_need_number : FnScope ["value", "part"] ["value", "part"] (defScope s_need_number) := ⟨rfl, rfl, rfl, by decide +kernel, rfl, by decide +kernel, by decide +kernel⟩
abbrev s_figures_in : Stmt := topS 15
theorem sc_figures_in : FnScope ["item", "figures", "sign"] ["item"] (defScope s_figures_in) := ⟨rfl, rfl, rfl, by decide +kernel, rfl, by decide +kernel, by decide +kernel⟩
abbrev s_written : Stmt := topS 16
theorem sc_written : FnScope ["item", "above", "bar", "below", "found"] ["item"] (defScope s_written) := ⟨rfl, rfl, rfl, by decide +kernel, rfl, by decide +kernel, by decide +kernel⟩
abbrev s_parts_of : Stmt := topS 18
theorem sc_parts_of : FnScope ["number"] ["number"] (defScope s_parts_of) := ⟨rfl, rfl, rfl, by decide +kernel, rfl, by decide +kernel, by decide +kernel⟩
abbrev s_text_in : Stmt := topS 19
theorem sc_text_in : FnScope ["number", "above", "under"] ["number"] (defScope s_text_in) := ⟨rfl, rfl, rfl, by decide +kernel, rfl, by decide +kernel, by decide +kernel⟩
abbrev s_number_text : Stmt := topS 20
theorem sc_number_text : FnScope ["value"] ["value"] (defScope s_number_text) := ⟨rfl, rfl, rfl, by decide +kernel, rfl, by decide +kernel, by decide +kernel⟩
abbrev s_number_of : Stmt := topS 21
theorem sc_number_of : FnScope ["text", "found"] ["text"] (defScope s_number_of) := ⟨rfl, rfl, rfl, by decide +kernel, rfl, by decide +kernel, by decide +kernel⟩
abbrev s__law_quill : Stmt := topS 23
theorem sc__law_quill : FnScope ["script", "cell"] ["script"] (defScope s__law_quill) := ⟨rfl, rfl, rfl, by decide +kernel, rfl, by decide +kernel, by decide +kernel⟩
abbrev s__law_scratch : Stmt := topS 24
theorem sc__law_scratch : FnScope ["quill", "many", "left", "turn", "cell", "mixed"] ["quill", "many"] (defScope s__law_scratch) := ⟨rfl, rfl, rfl, by decide +kernel, rfl, by decide +kernel, by decide +kernel⟩
abbrev s__law_pick : Stmt := topS 25
theorem sc__law_pick : FnScope ["quill", "some"] ["quill", "some"] (defScope s__law_pick) := ⟨rfl, rfl, rfl, by decide +kernel, rfl, by decide +kernel, by decide +kernel⟩
abbrev s__law_low : Stmt := topS 26
theorem sc__law_low : FnScope ["above", "below", "one", "other", "sign"] ["above", "below"] (defScope s__law_low) := ⟨rfl, rfl, rfl, by decide +kernel, rfl, by decide +kernel, by decide +kernel⟩
abbrev s__law_told : Stmt := topS 28
theorem sc__law_told : FnScope ["pair", "above", "below"] ["pair"] (defScope s__law_told) := ⟨rfl, rfl, rfl, by decide +kernel, rfl, by decide +kernel, by decide +kernel⟩
abbrev s__law_integer : Stmt := topS 29
theorem sc__law_integer : FnScope ["text", "figures", "sign"] ["text"] (defScope s__law_integer) := ⟨rfl, rfl, rfl, by decide +kernel, rfl, by decide +kernel, by decide +kernel⟩
abbrev s__law_read : Stmt := topS 30
theorem sc__law_read : FnScope ["text", "parts", "above", "below"] ["text"] (defScope s__law_read) := ⟨rfl, rfl, rfl, by decide +kernel, rfl, by decide +kernel, by decide +kernel⟩
abbrev s__law_number : Stmt := topS 31
theorem sc__law_number : FnScope ["quill", "most"] ["quill"] (defScope s__law_number) := ⟨rfl, rfl, rfl, by decide +kernel, rfl, by decide +kernel, by decide +kernel⟩
abbrev s__law_bent : Stmt := topS 32
theorem sc__law_bent : FnScope ["quill", "text", "at", "way", "sign"] ["quill", "text"] (defScope s__law_bent) := ⟨rfl, rfl, rfl, by decide +kernel, rfl, by decide +kernel, by decide +kernel⟩
abbrev s__law_heard : Stmt := topS 33
theorem sc__law_heard : FnScope ["ask", "found", "caught", "error"] ["ask"] (defScope s__law_heard) := ⟨rfl, rfl, rfl, by decide +kernel, rfl, by decide +kernel, by decide +kernel⟩
abbrev s_law : Stmt := topS 34
theorem sc_law : FnScope ["script", "quill", "turn", "pair", "number", "text", "handed", "bend", "bent", "due", "long", "odd", "bad"] ["script"] (defScope s_law) := ⟨rfl, rfl, rfl, by decide +kernel, rfl, by decide +kernel, by decide +kernel⟩
structure TopF (G : Gm) (fA : Nat → Addr) (fD : Nat → FuncData) : Prop where
  D_is_integer : Df G "is_integer" s_is_integer ["value"] (fA 0) (fD 0)
  D_is_within : Df G "is_within" s_is_within ["value", "least", "most"] (fA 1) (fD 1)
  D_common : Df G "common" s_common ["one", "other"] (fA 2) (fD 2)
  D_is_number : Df G "is_number" s_is_number ["value"] (fA 3) (fD 3)
  D_kept : Df G "kept" s_kept ["number"] (fA 4) (fD 4)
  D_need_number : Df G "need_number" s_need_number ["value", "part"] (fA 5) (fD 5)
  D_figures_in : Df G "figures_in" s_figures_in ["item"] (fA 6) (fD 6)
  D_written : Df G "written" s_written ["item"] (fA 7) (fD 7)
  D_parts_of : Df G "parts_of" s_parts_of ["number"] (fA 8) (fD 8)
  D_text_in : Df G "text_in" s_text_in ["number"] (fA 9) (fD 9)
  D_number_text : Df G "number_text" s_number_text ["value"] (fA 10) (fD 10)
  D_number_of : Df G "number_of" s_number_of ["text"] (fA 11) (fD 11)
  D__law_quill : Df G "_law_quill" s__law_quill ["script"] (fA 12) (fD 12)
  D__law_scratch : Df G "_law_scratch" s__law_scratch ["quill", "many"] (fA 13) (fD 13)
  D__law_pick : Df G "_law_pick" s__law_pick ["quill", "some"] (fA 14) (fD 14)
  D__law_low : Df G "_law_low" s__law_low ["above", "below"] (fA 15) (fD 15)
  D__law_told : Df G "_law_told" s__law_told ["pair"] (fA 16) (fD 16)
  D__law_integer : Df G "_law_integer" s__law_integer ["text"] (fA 17) (fD 17)
  D__law_read : Df G "_law_read" s__law_read ["text"] (fA 18) (fD 18)
  D__law_number : Df G "_law_number" s__law_number ["quill"] (fA 19) (fD 19)
  D__law_bent : Df G "_law_bent" s__law_bent ["quill", "text"] (fA 20) (fD 20)
  D__law_heard : Df G "_law_heard" s__law_heard ["ask"] (fA 21) (fD 21)
  D_law : Df G "law" s_law ["script"] (fA 22) (fD 22)
  bk_number_text_0_value : BdK G.K (fD 10) ["value"] 0 ["value"] [.kw 0] []
  bk_number_of_0_text : BdK G.K (fD 11) ["text"] 0 ["text"] [.kw 0] []
structure TlF (G : Gm) (base : Heap) (fD : Nat → FuncData) : Prop where
  t_law : TabL G base (fD 22) "law"
theorem gf_is_integer {G : Gm} {P : Program} {w : World} {base : Heap} {fA : Nat → Addr} {fD : Nat → FuncData} (T : Bl G) (TB : TabOk G tabL) {fi : Nat → Addr} {fdd : Nat → FuncData} (CL : Cl G P fi fdd) (TF : TopF G fA fD) (TLF : TlF G base fD) : GFn G P w base 1 (fA 0) (fD 0) ["value"] m_is_integer :=
  (GFn.of_bodyT (k := 0) TF.D_is_integer.fg sc_is_integer fun cdv A outer s H E hcdv ok => (ss_one (ss_ret (se_and ok.K (cx_isi ok TB T.b_isinstance (sa_cons (se_var (i := 0)) (sa_cons (cx_ty ok T.b_int) sa_nil))) (se_one (se_not ok.K (cx_isi ok TB T.b_isinstance (sa_cons (se_var (i := 0)) (sa_cons (cx_ty ok T.b_bool) sa_nil))))))))).cut
theorem gf_is_within {G : Gm} {P : Program} {w : World} {base : Heap} {fA : Nat → Addr} {fD : Nat → FuncData} (T : Bl G) (TB : TabOk G tabL) {fi : Nat → Addr} {fdd : Nat → FuncData} (CL : Cl G P fi fdd) (TF : TopF G fA fD) (TLF : TlF G base fD) (G_is_integer : GFn G P w base 1 (fA 0) (fD 0) ["value"] m_is_integer) : GFn G P w base 2 (fA 1) (fD 1) ["value", "least", "most"] m_is_within :=
  (GFn.of_bodyT (k := 1) TF.D_is_within.fg sc_is_within fun cdv A outer s H E hcdv ok => (ss_cons (ss_if (st_not (st_truth ok.K (cx_call ok TF.D_is_integer G_is_integer runL (sa_cons (se_var (i := 0)) sa_nil)))) (ss_one (ss_ret se_bl)) ss_nil) (ss_one (ss_ret (se_and ok.K (se_or ok.K (cx_is ok (se_var (i := 1)) se_non) (se_one (cx_le ok (se_var (i := 1)) (se_var (i := 0))))) (se_one (se_or ok.K (cx_is ok (se_var (i := 2)) se_non) (se_one (cx_le ok (se_var (i := 0)) (se_var (i := 2))))))))))).cut
theorem gf_common {G : Gm} {P : Program} {w : World} {base : Heap} {fA : Nat → Addr} {fD : Nat → FuncData} (T : Bl G) (TB : TabOk G tabL) {fi : Nat → Addr} {fdd : Nat → FuncData} (CL : Cl G P fi fdd) (TF : TopF G fA fD) (TLF : TlF G base fD) : GFn G P w base 1 (fA 2) (fD 2) ["one", "other"] m_common :=
  (GFn.of_bodyT (k := 0) TF.D_common.fg sc_common fun cdv A outer s H E hcdv ok => (ss_cons (ss_par (i := 0) (j := 1) ok.calm ok.nd (by decide) (sa_cons (cx_abs ok T.b_abs (sa_cons (se_var (i := 0)) sa_nil)) (sa_cons (cx_abs ok T.b_abs (sa_cons (se_var (i := 1)) sa_nil)) sa_nil))) (ss_cons (ss_while ok.po (ct_gt ok (se_var (i := 1)) se_int) (ss_one (ss_par (i := 0) (j := 1) ok.calm ok.nd (by decide) (sa_cons (se_var (i := 1)) (sa_cons (cx_mod ok (se_var (i := 0)) (se_var (i := 1))) sa_nil))))) (ss_one (ss_ret (se_var (i := 0))))))).cut
theorem gf_is_number {G : Gm} {P : Program} {w : World} {base : Heap} {fA : Nat → Addr} {fD : Nat → FuncData} (T : Bl G) (TB : TabOk G tabL) {fi : Nat → Addr} {fdd : Nat → FuncData} (CL : Cl G P fi fdd) (TF : TopF G fA fD) (TLF : TlF G base fD) (G_is_integer : GFn G P w base 1 (fA 0) (fD 0) ["value"] m_is_integer) (G_is_within : GFn G P w base 2 (fA 1) (fD 1) ["value", "least", "most"] m_is_within) (G_common : GFn G P w base 1 (fA 2) (fD 2) ["one", "other"] m_common) : GFn G P w base 3 (fA 3) (fD 3) ["value"] m_is_number :=
  (GFn.of_bodyT (k := 2) TF.D_is_number.fg sc_is_number fun cdv A outer s H E hcdv ok => (ss_cons (ss_if (st_truth ok.K (cx_call ok TF.D_is_integer G_is_integer runL (sa_cons (se_var (i := 0)) sa_nil))) (ss_one (ss_ret se_bl)) ss_nil) (ss_cons (ss_if (SW.pt (sw_or (st_not (st_truth ok.K (cx_isi ok TB T.b_isinstance (sa_cons (se_var (i := 0)) (sa_cons (se_tup (sa_cons (cx_ty ok T.b_list) (sa_cons (cx_ty ok T.b_tuple) sa_nil))) sa_nil))))) (sw_or (ct_ne ok (cx_len ok T.b_len (sa_cons (se_var (i := 0)) sa_nil)) se_int) (sw_or1 (st_not (st_truth ok.K (cx_call ok TF.D_is_integer G_is_integer runL (sa_cons (se_ix ok.K (se_var (i := 0)) se_int) sa_nil)))))))) (ss_one (ss_ret se_bl)) ss_nil) (ss_one (ss_ret (se_and ok.K (cx_call ok TF.D_is_within G_is_within runL (sa_cons (se_ix ok.K (se_var (i := 0)) se_int) (sa_cons se_int (sa_cons se_non sa_nil)))) (se_one (cx_eq ok (cx_call ok TF.D_common G_common runL (sa_cons (se_ix ok.K (se_var (i := 0)) se_int) (sa_cons (se_ix ok.K (se_var (i := 0)) se_int) sa_nil))) se_int)))))))).cut
theorem gf_kept {G : Gm} {P : Program} {w : World} {base : Heap} {fA : Nat → Addr} {fD : Nat → FuncData} (T : Bl G) (TB : TabOk G tabL) {fi : Nat → Addr} {fdd : Nat → FuncData} (CL : Cl G P fi fdd) (TF : TopF G fA fD) (TLF : TlF G base fD) : GFn G P w base 1 (fA 4) (fD 4) ["number"] m_kept :=
  (GFn.of_bodyT (k := 0) TF.D_kept.fg sc_kept fun cdv A outer s H E hcdv ok => (ss_one (ss_ret (se_ifExp (st_truth ok.K (cx_isi ok TB T.b_isinstance (sa_cons (se_var (i := 0)) (sa_cons (se_tup (sa_cons (cx_ty ok T.b_list) (sa_cons (cx_ty ok T.b_tuple) sa_nil))) sa_nil)))) (cx_tuple ok T.b_tuple (sa_cons (se_var (i := 0)) sa_nil)) (se_var (i := 0)))))).cut
theorem gf_need_number {G : Gm} {P : Program} {w : World} {base : Heap} {fA : Nat → Addr} {fD : Nat → FuncData} (T : Bl G) (TB : TabOk G tabL) {fi : Nat → Addr} {fdd : Nat → FuncData} (CL : Cl G P fi fdd) (TF : TopF G fA fD) (TLF : TlF G base fD) (G_is_number : GFn G P w base 3 (fA 3) (fD 3) ["value"] m_is_number) (G_kept : GFn G P w base 1 (fA 4) (fD 4) ["number"] m_kept) : GFn G P w base 4 (fA 5) (fD 5) ["value", "part"] m_need_number :=
  (GFn.of_bodyT (k := 3) TF.D_need_number.fg sc_need_number fun cdv A outer s H E hcdv ok => (ss_cons (ss_if (st_not (st_truth ok.K (cx_call ok TF.D_is_number G_is_number runL (sa_cons (se_var (i := 0)) sa_nil)))) (ss_one (ss_raiseP ok (by first | decide | omega) CL.x_BadNumber CL.bx_BadNumber_1_ (sa_cons (se_var (i := 1)) sa_nil))) ss_nil) (ss_one (ss_ret (cx_call ok TF.D_kept G_kept runL (sa_cons (se_var (i := 0)) sa_nil)))))).cut
theorem gf_figures_in {G : Gm} {P : Program} {w : World} {base : Heap} {fA : Nat → Addr} {fD : Nat → FuncData} (T : Bl G) (TB : TabOk G tabL) {fi : Nat → Addr} {fdd : Nat → FuncData} (CL : Cl G P fi fdd) (TF : TopF G fA fD) (TLF : TlF G base fD) : GFn G P w base 1 (fA 6) (fD 6) ["item"] m_figures_in :=
  (GFn.of_bodyT (k := 0) TF.D_figures_in.fg sc_figures_in fun cdv A outer s H E hcdv ok => (ss_cons (ss_set (i := 1) ok.nd (se_ifExp (ct_eq ok (se_slice ok.K (se_var (i := 0)) sop_none (sop_some se_int)) se_str) (se_slice ok.K (se_var (i := 0)) (sop_some se_int) sop_none) (se_var (i := 0)))) (ss_cons (ss_if (SW.pt (sw_or (ct_eq ok (se_var (i := 1)) se_str) (sw_or (ct_gt ok (cx_len ok T.b_len (sa_cons (se_var (i := 1)) sa_nil)) (cx_gint ok T.k_MOST_FIGURES)) (sw_or1 (st_not (st_truth ok.K (cx_all ok T.b_all (sa_cons (se_cut (se_frz (se_lc (own := [("sign", 2)]) ok (si_str (se_var (i := 1))) (fun _ _ _ _ _ => (so_name (i := 2) (ok.blk _ _ _ _ _).nd)) (fun _ _ _ _ _ okB => sq_nil) (fun _ _ _ _ _ okB => (cx_in okB (se_var (i := 2)) (cx_gstr okB T.k_FIGURES))) (bk := blkOk_by (N := ["item", "figures", "sign"]) (sc := defScope s_figures_in) (own := [("sign", 2)]) (by decide +kernel))))) sa_nil)))))))) (ss_one (ss_ret se_non)) ss_nil) (ss_cons (ss_if (SW.pt (sw_and (ct_eq ok (se_ix ok.K (se_var (i := 1)) se_int) se_str) (sw_and1 (ct_ne ok (se_var (i := 0)) se_str)))) (ss_one (ss_ret se_non)) ss_nil) (ss_one (ss_ret (cx_intS ok T.b_int (sa_cons (se_var (i := 0)) sa_nil)))))))).cut
theorem gf_written {G : Gm} {P : Program} {w : World} {base : Heap} {fA : Nat → Addr} {fD : Nat → FuncData} (T : Bl G) (TB : TabOk G tabL) {fi : Nat → Addr} {fdd : Nat → FuncData} (CL : Cl G P fi fdd) (TF : TopF G fA fD) (TLF : TlF G base fD) (G_figures_in : GFn G P w base 1 (fA 6) (fD 6) ["item"] m_figures_in) (G_is_number : GFn G P w base 3 (fA 3) (fD 3) ["value"] m_is_number) : GFn G P w base 4 (fA 7) (fD 7) ["item"] m_written :=
  (GFn.of_bodyT (k := 3) TF.D_written.fg sc_written fun cdv A outer s H E hcdv ok => (ss_cons (ss_asg (cx_partition ok (se_var (i := 0)) (sa_cons (cx_gstr ok T.k_BAR) sa_nil)) (sg_many ok.K ok.calm (sgs_cons (sg_name (i := 1) ok.nd) (sgs_cons (sg_name (i := 2) ok.nd) (sgs_cons (sg_name (i := 3) ok.nd) sgs_nil))))) (ss_cons (ss_if (ct_eq ok (se_var (i := 2)) se_str) (ss_one (ss_ret (cx_call ok TF.D_figures_in G_figures_in runL (sa_cons (se_var (i := 0)) sa_nil)))) ss_nil) (ss_cons (ss_set (i := 4) ok.nd (se_tup (sa_cons (cx_call ok TF.D_figures_in G_figures_in runL (sa_cons (se_var (i := 1)) sa_nil)) (sa_cons (cx_call ok TF.D_figures_in G_figures_in runL (sa_cons (se_var (i := 3)) sa_nil)) sa_nil)))) (ss_one (ss_ret (se_ifExp (SW.pt (sw_and (ct_isNot ok (se_ix ok.K (se_var (i := 4)) se_int) se_non) (sw_and (ct_isNot ok (se_ix ok.K (se_var (i := 4)) se_int) se_non) (sw_and1 (st_truth ok.K (cx_call ok TF.D_is_number G_is_number runL (sa_cons (se_var (i := 4)) sa_nil))))))) (se_var (i := 4)) se_non))))))).cut
theorem gf_parts_of {G : Gm} {P : Program} {w : World} {base : Heap} {fA : Nat → Addr} {fD : Nat → FuncData} (T : Bl G) (TB : TabOk G tabL) {fi : Nat → Addr} {fdd : Nat → FuncData} (CL : Cl G P fi fdd) (TF : TopF G fA fD) (TLF : TlF G base fD) : GFn G P w base 1 (fA 8) (fD 8) ["number"] m_parts_of :=
  (GFn.of_bodyT (k := 0) TF.D_parts_of.fg sc_parts_of fun cdv A outer s H E hcdv ok => (ss_one (ss_ret (se_ifExp (st_truth ok.K (cx_isi ok TB T.b_isinstance (sa_cons (se_var (i := 0)) (sa_cons (cx_ty ok T.b_int) sa_nil)))) (se_tup (sa_cons (se_var (i := 0)) (sa_cons se_int sa_nil))) (se_tup (sa_cons (se_ix ok.K (se_var (i := 0)) se_int) (sa_cons (se_ix ok.K (se_var (i := 0)) se_int) sa_nil))))))).cut
theorem gf_text_in {G : Gm} {P : Program} {w : World} {base : Heap} {fA : Nat → Addr} {fD : Nat → FuncData} (T : Bl G) (TB : TabOk G tabL) {fi : Nat → Addr} {fdd : Nat → FuncData} (CL : Cl G P fi fdd) (TF : TopF G fA fD) (TLF : TlF G base fD) (G_parts_of : GFn G P w base 1 (fA 8) (fD 8) ["number"] m_parts_of) : GFn G P w base 2 (fA 9) (fD 9) ["number"] m_text_in :=
  (GFn.of_bodyT (k := 1) TF.D_text_in.fg sc_text_in fun cdv A outer s H E hcdv ok => (ss_cons (ss_asg (cx_call ok TF.D_parts_of G_parts_of runL (sa_cons (se_var (i := 0)) sa_nil)) (sg_many ok.K ok.calm (sgs_cons (sg_name (i := 1) ok.nd) (sgs_cons (sg_name (i := 2) ok.nd) sgs_nil)))) (ss_one (ss_ret (se_ifExp (ct_eq ok (se_var (i := 2)) se_int) (cx_str ok T.b_str (sa_cons (se_var (i := 1)) sa_nil)) (se_joined (sj_cons (cx_fmt (se_var (i := 1))) (sj_cons se_str (sj_cons (cx_fmt (se_var (i := 2))) sj_nil))))))))).cut
theorem gf_number_text {G : Gm} {P : Program} {w : World} {base : Heap} {fA : Nat → Addr} {fD : Nat → FuncData} (T : Bl G) (TB : TabOk G tabL) {fi : Nat → Addr} {fdd : Nat → FuncData} (CL : Cl G P fi fdd) (TF : TopF G fA fD) (TLF : TlF G base fD) (G_text_in : GFn G P w base 2 (fA 9) (fD 9) ["number"] m_text_in) (G_need_number : GFn G P w base 4 (fA 5) (fD 5) ["value", "part"] m_need_number) : GFn G P w base 5 (fA 10) (fD 10) ["value"] m_number_text :=
  (GFn.of_bodyT (k := 4) TF.D_number_text.fg sc_number_text fun cdv A outer s H E hcdv ok => (ss_one (ss_ret (cx_call ok TF.D_text_in G_text_in runL (sa_cons (cx_call ok TF.D_need_number G_need_number runL (sa_cons (se_var (i := 0)) (sa_cons se_str sa_nil))) sa_nil))))).cut
theorem gf_number_of {G : Gm} {P : Program} {w : World} {base : Heap} {fA : Nat → Addr} {fD : Nat → FuncData} (T : Bl G) (TB : TabOk G tabL) {fi : Nat → Addr} {fdd : Nat → FuncData} (CL : Cl G P fi fdd) (TF : TopF G fA fD) (TLF : TlF G base fD) (G_written : GFn G P w base 4 (fA 7) (fD 7) ["item"] m_written) (G_is_number : GFn G P w base 3 (fA 3) (fD 3) ["value"] m_is_number) : GFn G P w base 5 (fA 11) (fD 11) ["text"] m_number_of :=
  (GFn.of_bodyT (k := 4) TF.D_number_of.fg sc_number_of fun cdv A outer s H E hcdv ok => (ss_cons (ss_set (i := 1) ok.nd (se_ifExp (st_truth ok.K (cx_isi ok TB T.b_isinstance (sa_cons (se_var (i := 0)) (sa_cons (cx_ty ok T.b_str) sa_nil)))) (cx_call ok TF.D_written G_written runL (sa_cons (se_var (i := 0)) sa_nil)) se_non)) (ss_cons (ss_if (SW.pt (sw_or (ct_is ok (se_var (i := 1)) se_non) (sw_or1 (st_not (st_truth ok.K (cx_call ok TF.D_is_number G_is_number runL (sa_cons (se_var (i := 1)) sa_nil))))))) (ss_one (ss_raiseP ok (by first | decide | omega) CL.x_BadText CL.bx_BadText_2_ (sa_cons se_int (sa_cons se_int sa_nil)))) ss_nil) (ss_one (ss_ret (se_var (i := 1))))))).cut
theorem gf__law_quill {G : Gm} {P : Program} {w : World} {base : Heap} {fA : Nat → Addr} {fD : Nat → FuncData} (T : Bl G) (TB : TabOk G tabL) {fi : Nat → Addr} {fdd : Nat → FuncData} (CL : Cl G P fi fdd) (TF : TopF G fA fD) (TLF : TlF G base fD) : GFn G P w base 1 (fA 12) (fD 12) ["script"] m__law_quill :=
  (GFn.of_bodyT (k := 0) TF.D__law_quill.fg sc__law_quill fun cdv A outer s H E hcdv ok => (ss_one (ss_ret (se_loc (sa_cons (se_cut (se_frz (se_lc (own := [("cell", 1)]) ok (si_seq ok.K (se_slice ok.K (se_var (i := 0)) sop_none (sop_some se_int))) (fun _ _ _ _ _ => (so_name (i := 1) (ok.blk _ _ _ _ _).nd)) (fun _ _ _ _ _ okB => sq_nil) (fun _ _ _ _ _ okB => (cx_int okB T.b_int (sa_cons (se_var (i := 1)) sa_nil))) (bk := blkOk_by (N := ["script", "cell"]) (sc := defScope s__law_quill) (own := [("cell", 1)]) (by decide +kernel))))) (sa_cons se_int (sa_cons se_int sa_nil))))))).cut
theorem gf__law_scratch {G : Gm} {P : Program} {w : World} {base : Heap} {fA : Nat → Addr} {fD : Nat → FuncData} (T : Bl G) (TB : TabOk G tabL) {fi : Nat → Addr} {fdd : Nat → FuncData} (CL : Cl G P fi fdd) (TF : TopF G fA fD) (TLF : TlF G base fD) : GFn G P w base 1 (fA 13) (fD 13) ["quill", "many"] m__law_scratch :=
  (GFn.of_bodyT (k := 0) TF.D__law_scratch.fg sc__law_scratch fun cdv A outer s H E hcdv ok => (ss_cons (ss_if (ct_gt ok (se_ix ok.K (se_var (i := 0)) se_int) se_int) (ss_cons (ss_set (i := 2) ok.nd (cx_int ok T.b_int (sa_cons (se_ix ok.K (se_var (i := 0)) se_int) sa_nil))) (ss_cons (ss_asg (cx_fdiv ok (se_var (i := 2)) (se_var (i := 1))) (sg_set ok (se_var (i := 0)) se_int)) (ss_one (ss_ret (cx_mod ok (cx_int ok T.b_int (sa_cons (se_var (i := 2)) sa_nil)) (se_var (i := 1))))))) ss_nil) (ss_cons (ss_set (i := 3) ok.nd (se_ix ok.K (se_var (i := 0)) se_int)) (ss_cons (ss_asg (cx_add ok (se_var (i := 3)) se_int) (sg_set ok (se_var (i := 0)) se_int)) (ss_cons (ss_set (i := 4) ok.nd (cx_add ok (cx_mul ok se_int (se_var (i := 3))) se_int)) (ss_cons (ss_if (ct_ne ok (se_ix ok.K (se_var (i := 0)) se_int) (se_lst sa_nil)) (ss_one (ss_set (i := 4) ok.nd (se_ix ok.K (se_ix ok.K (se_var (i := 0)) se_int) (cx_mod ok (cx_int ok T.b_int (sa_cons (se_var (i := 3)) sa_nil)) (cx_len ok T.b_len (sa_cons (se_ix ok.K (se_var (i := 0)) se_int) sa_nil)))))) ss_nil) (ss_cons (ss_if (SW.pt (sw_and (ct_lt ok (se_var (i := 3)) (cx_len ok T.b_len (sa_cons (se_ix ok.K (se_var (i := 0)) se_int) sa_nil))) (sw_and1 (ct_ge ok (cx_abs ok T.b_abs (sa_cons (se_var (i := 4)) sa_nil)) (cx_pow ok se_int se_int))))) (ss_cons (ss_set (i := 2) ok.nd (cx_add ok (cx_mul ok se_int (cx_sub ok (cx_abs ok T.b_abs (sa_cons (cx_int ok T.b_int (sa_cons (se_var (i := 4)) sa_nil)) sa_nil)) (cx_pow ok se_int se_int))) (cx_int ok T.b_int (sa_cons (cx_lt ok (se_var (i := 4)) se_int) sa_nil)))) (ss_cons (ss_asg (cx_fdiv ok (se_var (i := 2)) (se_var (i := 1))) (sg_set ok (se_var (i := 0)) se_int)) (ss_one (ss_ret (cx_mod ok (cx_int ok T.b_int (sa_cons (se_var (i := 2)) sa_nil)) (se_var (i := 1))))))) ss_nil) (ss_cons (ss_set (i := 5) ok.nd (cx_mod ok (cx_int ok T.b_int (sa_cons (cx_pow ok (cx_add ok (cx_add ok (cx_mod ok (cx_int ok T.b_int (sa_cons (se_var (i := 4)) sa_nil)) se_int) (cx_mul ok se_int (se_var (i := 3)))) se_int) se_int) sa_nil)) se_int)) (ss_cons (ss_set (i := 5) ok.nd (cx_mod ok (cx_int ok T.b_int (sa_cons (cx_pow ok (cx_add ok (cx_add ok (cx_mul ok (se_var (i := 5)) (cx_add ok (cx_mul ok se_int (se_var (i := 3))) se_int)) (cx_mul ok (cx_mul ok se_int (se_var (i := 3))) (se_var (i := 3)))) se_int) se_int) sa_nil)) se_int)) (ss_one (ss_ret (cx_mod ok (cx_int ok T.b_int (sa_cons (cx_fdiv ok (se_var (i := 5)) se_int) sa_nil)) (se_var (i := 1)))))))))))))).cut
theorem gf__law_pick {G : Gm} {P : Program} {w : World} {base : Heap} {fA : Nat → Addr} {fD : Nat → FuncData} (T : Bl G) (TB : TabOk G tabL) {fi : Nat → Addr} {fdd : Nat → FuncData} (CL : Cl G P fi fdd) (TF : TopF G fA fD) (TLF : TlF G base fD) (G__law_scratch : GFn G P w base 1 (fA 13) (fD 13) ["quill", "many"] m__law_scratch) : GFn G P w base 2 (fA 14) (fD 14) ["quill", "some"] m__law_pick :=
  (GFn.of_bodyT (k := 1) TF.D__law_pick.fg sc__law_pick fun cdv A outer s H E hcdv ok => (ss_one (ss_ret (se_ix ok.K (se_var (i := 1)) (cx_call ok TF.D__law_scratch G__law_scratch runL (sa_cons (se_var (i := 0)) (sa_cons (cx_len ok T.b_len (sa_cons (se_var (i := 1)) sa_nil)) sa_nil))))))).cut
theorem gf__law_low {G : Gm} {P : Program} {w : World} {base : Heap} {fA : Nat → Addr} {fD : Nat → FuncData} (T : Bl G) (TB : TabOk G tabL) {fi : Nat → Addr} {fdd : Nat → FuncData} (CL : Cl G P fi fdd) (TF : TopF G fA fD) (TLF : TlF G base fD) : GFn G P w base 1 (fA 15) (fD 15) ["above", "below"] m__law_low :=
  (GFn.of_bodyT (k := 0) TF.D__law_low.fg sc__law_low fun cdv A outer s H E hcdv ok => (ss_cons (ss_par (i := 2) (j := 3) ok.calm ok.nd (by decide) (sa_cons (cx_abs ok T.b_abs (sa_cons (se_var (i := 0)) sa_nil)) (sa_cons (cx_abs ok T.b_abs (sa_cons (se_var (i := 1)) sa_nil)) sa_nil))) (ss_cons (ss_while ok.po (ct_gt ok (se_var (i := 3)) se_int) (ss_one (ss_par (i := 2) (j := 3) ok.calm ok.nd (by decide) (sa_cons (se_var (i := 3)) (sa_cons (cx_mod ok (cx_int ok T.b_int (sa_cons (se_var (i := 2)) sa_nil)) (se_var (i := 3))) sa_nil))))) (ss_cons (ss_set (i := 4) ok.nd (se_ifExp (ct_gt ok (se_var (i := 1)) se_int) se_int (cx_neg ok se_int))) (ss_one (ss_ret (se_tup (sa_cons (cx_fdiv ok (cx_mul ok (se_var (i := 4)) (se_var (i := 0))) (se_var (i := 2))) (sa_cons (cx_fdiv ok (cx_mul ok (se_var (i := 4)) (se_var (i := 1))) (se_var (i := 2))) sa_nil))))))))).cut
theorem gf__law_told {G : Gm} {P : Program} {w : World} {base : Heap} {fA : Nat → Addr} {fD : Nat → FuncData} (T : Bl G) (TB : TabOk G tabL) {fi : Nat → Addr} {fdd : Nat → FuncData} (CL : Cl G P fi fdd) (TF : TopF G fA fD) (TLF : TlF G base fD) (G__law_low : GFn G P w base 1 (fA 15) (fD 15) ["above", "below"] m__law_low) : GFn G P w base 2 (fA 16) (fD 16) ["pair"] m__law_told :=
  (GFn.of_bodyT (k := 1) TF.D__law_told.fg sc__law_told fun cdv A outer s H E hcdv ok => (ss_cons (ss_asg (cx_call ok TF.D__law_low G__law_low runL (sa_cons (se_ix ok.K (se_var (i := 0)) se_int) (sa_cons (se_ix ok.K (se_var (i := 0)) se_int) sa_nil))) (sg_many ok.K ok.calm (sgs_cons (sg_name (i := 1) ok.nd) (sgs_cons (sg_name (i := 2) ok.nd) sgs_nil)))) (ss_one (ss_ret (se_ifExp (ct_eq ok (se_var (i := 2)) se_int) (se_var (i := 1)) (se_tup (sa_cons (se_var (i := 1)) (sa_cons (se_var (i := 2)) sa_nil)))))))).cut
theorem gf__law_integer {G : Gm} {P : Program} {w : World} {base : Heap} {fA : Nat → Addr} {fD : Nat → FuncData} (T : Bl G) (TB : TabOk G tabL) {fi : Nat → Addr} {fdd : Nat → FuncData} (CL : Cl G P fi fdd) (TF : TopF G fA fD) (TLF : TlF G base fD) : GFn G P w base 1 (fA 17) (fD 17) ["text"] m__law_integer :=
  (GFn.of_bodyT (k := 0) TF.D__law_integer.fg sc__law_integer fun cdv A outer s H E hcdv ok => (ss_cons (ss_set (i := 1) ok.nd (se_ifExp (ct_eq ok (se_slice ok.K (se_var (i := 0)) sop_none (sop_some se_int)) se_str) (se_slice ok.K (se_var (i := 0)) (sop_some se_int) sop_none) (se_var (i := 0)))) (ss_cons (ss_if (SW.pt (sw_or (ct_eq ok (se_var (i := 1)) se_str) (sw_or (ct_gt ok (cx_len ok T.b_len (sa_cons (se_var (i := 1)) sa_nil)) se_int) (sw_or1 (ct_ne ok (se_cut (se_frz (se_lc (own := [("sign", 2)]) ok (si_str (se_var (i := 1))) (fun _ _ _ _ _ => (so_name (i := 2) (ok.blk _ _ _ _ _).nd)) (fun _ _ _ _ _ okB => (sq_one (ct_notIn okB (se_var (i := 2)) se_str))) (fun _ _ _ _ _ okB => (se_var (i := 2))) (bk := blkOk_by (N := ["text", "figures", "sign"]) (sc := defScope s__law_integer) (own := [("sign", 2)]) (by decide +kernel))))) (se_lst sa_nil)))))) (ss_one (ss_ret se_non)) ss_nil) (ss_one (ss_ret (se_ifExp (SW.pt (sw_and (ct_eq ok (se_ix ok.K (se_var (i := 1)) se_int) se_str) (sw_and1 (ct_ne ok (se_var (i := 0)) se_str)))) se_non (cx_intS ok T.b_int (sa_cons (se_var (i := 0)) sa_nil)))))))).cut
theorem gf__law_read {G : Gm} {P : Program} {w : World} {base : Heap} {fA : Nat → Addr} {fD : Nat → FuncData} (T : Bl G) (TB : TabOk G tabL) {fi : Nat → Addr} {fdd : Nat → FuncData} (CL : Cl G P fi fdd) (TF : TopF G fA fD) (TLF : TlF G base fD) (G__law_integer : GFn G P w base 1 (fA 17) (fD 17) ["text"] m__law_integer) (G__law_low : GFn G P w base 1 (fA 15) (fD 15) ["above", "below"] m__law_low) : GFn G P w base 2 (fA 18) (fD 18) ["text"] m__law_read :=
  (GFn.of_bodyT (k := 1) TF.D__law_read.fg sc__law_read fun cdv A outer s H E hcdv ok => (ss_cons (ss_set (i := 1) ok.nd (cx_split ok (se_var (i := 0)) (sa_cons se_str sa_nil))) (ss_cons (ss_if (ct_eq ok (cx_len ok T.b_len (sa_cons (se_var (i := 1)) sa_nil)) se_int) (ss_one (ss_ret (cx_call ok TF.D__law_integer G__law_integer runL (sa_cons (se_var (i := 0)) sa_nil)))) ss_nil) (ss_cons (ss_if (ct_ne ok (cx_len ok T.b_len (sa_cons (se_var (i := 1)) sa_nil)) se_int) (ss_one (ss_ret se_non)) ss_nil) (ss_cons (ss_par (i := 2) (j := 3) ok.calm ok.nd (by decide) (sa_cons (cx_call ok TF.D__law_integer G__law_integer runL (sa_cons (se_ix ok.K (se_var (i := 1)) se_int) sa_nil)) (sa_cons (cx_call ok TF.D__law_integer G__law_integer runL (sa_cons (se_ix ok.K (se_var (i := 1)) se_int) sa_nil)) sa_nil))) (ss_cons (ss_if (SW.pt (sw_or (ct_is ok (se_var (i := 2)) se_non) (sw_or (ct_is ok (se_var (i := 3)) se_non) (sw_or1 (ct_lt ok (se_var (i := 3)) se_int))))) (ss_one (ss_ret se_non)) ss_nil) (ss_one (ss_ret (se_ifExp (ct_eq ok (cx_call ok TF.D__law_low G__law_low runL (sa_cons (se_var (i := 2)) (sa_cons (se_var (i := 3)) sa_nil))) (se_tup (sa_cons (se_var (i := 2)) (sa_cons (se_var (i := 3)) sa_nil)))) (se_tup (sa_cons (se_var (i := 2)) (sa_cons (se_var (i := 3)) sa_nil))) se_non))))))))).cut
theorem gf__law_number {G : Gm} {P : Program} {w : World} {base : Heap} {fA : Nat → Addr} {fD : Nat → FuncData} (T : Bl G) (TB : TabOk G tabL) {fi : Nat → Addr} {fdd : Nat → FuncData} (CL : Cl G P fi fdd) (TF : TopF G fA fD) (TLF : TlF G base fD) (G__law_pick : GFn G P w base 2 (fA 14) (fD 14) ["quill", "some"] m__law_pick) (G__law_low : GFn G P w base 1 (fA 15) (fD 15) ["above", "below"] m__law_low) (G__law_scratch : GFn G P w base 1 (fA 13) (fD 13) ["quill", "many"] m__law_scratch) : GFn G P w base 3 (fA 19) (fD 19) ["quill"] m__law_number :=
  (GFn.of_bodyT (k := 2) TF.D__law_number.fg sc__law_number fun cdv A outer s H E hcdv ok => (ss_cons (ss_set (i := 1) ok.nd (cx_call ok TF.D__law_pick G__law_pick runL (sa_cons (se_var (i := 0)) (sa_cons (se_lst (sa_cons se_int (sa_cons se_int (sa_cons (cx_pow ok se_int se_int) (sa_cons (cx_pow ok se_int se_int) sa_nil))))) sa_nil)))) (ss_one (ss_ret (cx_call ok TF.D__law_low G__law_low runL (sa_cons (cx_mul ok (cx_call ok TF.D__law_scratch G__law_scratch runL (sa_cons (se_var (i := 0)) (sa_cons (se_var (i := 1)) sa_nil))) (cx_call ok TF.D__law_pick G__law_pick runL (sa_cons (se_var (i := 0)) (sa_cons (se_lst (sa_cons se_int (sa_cons (cx_neg ok se_int) sa_nil))) sa_nil)))) (sa_cons (cx_add ok se_int (cx_call ok TF.D__law_scratch G__law_scratch runL (sa_cons (se_var (i := 0)) (sa_cons (cx_call ok TF.D__law_pick G__law_pick runL (sa_cons (se_var (i := 0)) (sa_cons (se_lst (sa_cons se_int (sa_cons se_int (sa_cons (cx_min ok T.b_min (sa_cons (se_var (i := 1)) (sa_cons (cx_pow ok se_int se_int) sa_nil))) sa_nil)))) sa_nil))) sa_nil)))) sa_nil))))))).cut
theorem gf__law_bent {G : Gm} {P : Program} {w : World} {base : Heap} {fA : Nat → Addr} {fD : Nat → FuncData} (T : Bl G) (TB : TabOk G tabL) {fi : Nat → Addr} {fdd : Nat → FuncData} (CL : Cl G P fi fdd) (TF : TopF G fA fD) (TLF : TlF G base fD) (G__law_scratch : GFn G P w base 1 (fA 13) (fD 13) ["quill", "many"] m__law_scratch) (G__law_pick : GFn G P w base 2 (fA 14) (fD 14) ["quill", "some"] m__law_pick) : GFn G P w base 3 (fA 20) (fD 20) ["quill", "text"] m__law_bent :=
  (GFn.of_bodyT (k := 2) TF.D__law_bent.fg sc__law_bent fun cdv A outer s H E hcdv ok => (ss_cons (ss_par (i := 2) (j := 3) ok.calm ok.nd (by decide) (sa_cons (cx_call ok TF.D__law_scratch G__law_scratch runL (sa_cons (se_var (i := 0)) (sa_cons (cx_add ok (cx_len ok T.b_len (sa_cons (se_var (i := 1)) sa_nil)) se_int) sa_nil))) (sa_cons (cx_call ok TF.D__law_scratch G__law_scratch runL (sa_cons (se_var (i := 0)) (sa_cons se_int sa_nil))) sa_nil))) (ss_cons (ss_set (i := 4) ok.nd (cx_call ok TF.D__law_pick G__law_pick runL (sa_cons (se_var (i := 0)) (sa_cons (se_lst (sa_cons se_str (sa_cons se_str (sa_cons se_str (sa_cons se_str (sa_cons se_str (sa_cons se_str (sa_cons se_str (sa_cons se_str (sa_cons se_str (sa_cons (cx_mulZ ok se_str se_int) (sa_cons se_str (sa_cons se_str (sa_cons se_str (sa_cons se_str (sa_cons se_str (sa_cons se_str (sa_cons se_str sa_nil)))))))))))))))))) sa_nil)))) (ss_cons (ss_if (ct_eq ok (se_var (i := 3)) se_int) (ss_one (ss_ret (cx_add ok (cx_add ok (se_slice ok.K (se_var (i := 1)) sop_none (sop_some (se_var (i := 2)))) (se_var (i := 4))) (se_slice ok.K (se_var (i := 1)) (sop_some (se_var (i := 2))) sop_none)))) ss_nil) (ss_cons (ss_if (ct_eq ok (se_var (i := 3)) se_int) (ss_one (ss_ret (cx_add ok (se_slice ok.K (se_var (i := 1)) sop_none (sop_some (se_var (i := 2)))) (se_slice ok.K (se_var (i := 1)) (sop_some (cx_add ok (se_var (i := 2)) se_int)) sop_none)))) ss_nil) (ss_cons (ss_if (ct_eq ok (se_var (i := 3)) se_int) (ss_one (ss_ret (cx_add ok (cx_add ok (se_slice ok.K (se_var (i := 1)) sop_none (sop_some (se_var (i := 2)))) (se_var (i := 4))) (se_slice ok.K (se_var (i := 1)) (sop_some (cx_add ok (se_var (i := 2)) se_int)) sop_none)))) ss_nil) (ss_one (ss_ret (cx_call ok TF.D__law_pick G__law_pick runL (sa_cons (se_var (i := 0)) (sa_cons (se_lst (sa_cons se_str (sa_cons se_str (sa_cons se_str (sa_cons se_str (sa_cons se_str (sa_cons se_str (sa_cons se_str (sa_cons se_str (sa_cons se_str (sa_cons se_str (sa_cons se_str (sa_cons se_str (sa_cons se_str (sa_cons se_str (sa_cons se_str (sa_cons se_str (sa_cons (cx_add ok (cx_mulZ ok se_str se_int) se_str) sa_nil)))))))))))))))))) sa_nil))))))))))).cut
theorem gh__law_heard {G : Gm} {P : Program} {w : World} {base : Heap} {fA : Nat → Addr} {fD : Nat → FuncData} (T : Bl G) (TB : TabOk G tabL) {fi : Nat → Addr} {fdd : Nat → FuncData} (CL : Cl G P fi fdd) (TF : TopF G fA fD) (TLF : TlF G base fD) {kh : Nat} (hkh : 1 ≤ kh) (ma : ME) (cdv : Value) (A : Around) (outer : List Env) (s : Shared) (H : Hp) (E : XK) (ok : Ok G (cxOf (L2.CX P w) P w G.K G.mg base ["ask", "found", "caught", "error"] "_law_heard" (defScope s__law_heard) (fA 21) cdv A outer s H E) kh (wE E))
    (hask : ∀ (pn : List (Addr × Obj)) (xe : Value → Shared → Prop) (W' : WX), Ok G ((cxOf (L2.CX P w) P w G.K G.mg base ["ask", "found", "caught", "error"] "_law_heard" (defScope s__law_heard) (fA 21) cdv A outer s H E).tr pn xe) kh W' → ∀ p1 p2, SE G ((cxOf (L2.CX P w) P w G.K G.mg base ["ask", "found", "caught", "error"] "_law_heard" (defScope s__law_heard) (fA 21) cdv A outer s H E).tr pn xe) W' (.Call (.Name "ask" p1) [] [] p2) ma) :
    SSs G (cxOf (L2.CX P w) P w G.K G.mg base ["ask", "found", "caught", "error"] "_law_heard" (defScope s__law_heard) (fA 21) cdv A outer s H E) (wE E) (defBody s__law_heard) (b__law_heard ma) :=
  (ss_cons (ss_asg (se_tup (sa_cons se_non (sa_cons se_non sa_nil))) (sg_many ok.K ok.calm (sgs_cons (sg_name (i := 1) ok.nd) (sgs_cons (sg_name (i := 2) ok.nd) sgs_nil)))) (ss_cons (ss_try_keep (i := 3) (j := 2) ok (nms ok CL.mg_LaneError) CL.ex_LaneError (fun _ _ _ ok => (ss_one (ss_set (i := 1) ok.nd (hask _ _ _ ok _ _))))) (ss_cons (ss_if (st_truth ok.K (cx_isi ok TB T.b_isinstance (sa_cons (se_var (i := 2)) (sa_cons (cx_cls ok CL.mg_BadText) sa_nil)))) (ss_one (ss_ret (se_lst (sa_cons se_str (sa_cons (cx_xattr ok CL.xa_line (se_var (i := 2))) (sa_cons (cx_xattr ok CL.xa_item (se_var (i := 2))) sa_nil)))))) ss_nil) (ss_cons (ss_if (st_truth ok.K (cx_isi ok TB T.b_isinstance (sa_cons (se_var (i := 2)) (sa_cons (cx_cls ok CL.mg_BadNumber) sa_nil)))) (ss_one (ss_ret (se_lst (sa_cons se_str (sa_cons (cx_xattr ok CL.xa_part (se_var (i := 2))) sa_nil))))) ss_nil) (ss_one (ss_ret (se_ifExp (ct_is ok (se_var (i := 2)) se_non) (se_var (i := 1)) (se_lst (sa_cons se_str sa_nil)))))))))
theorem gf_law {G : Gm} {P : Program} {w : World} {base : Heap} {fA : Nat → Addr} {fD : Nat → FuncData} (T : Bl G) (TB : TabOk G tabL) {fi : Nat → Addr} {fdd : Nat → FuncData} (CL : Cl G P fi fdd) (TF : TopF G fA fD) (TLF : TlF G base fD) (G__law_quill : GFn G P w base 1 (fA 12) (fD 12) ["script"] m__law_quill) (G__law_number : GFn G P w base 3 (fA 19) (fD 19) ["quill"] m__law_number) (G__law_told : GFn G P w base 2 (fA 16) (fD 16) ["pair"] m__law_told) (G_number_text : GFn G P w base 5 (fA 10) (fD 10) ["value"] m_number_text) (G_number_of : GFn G P w base 5 (fA 11) (fD 11) ["text"] m_number_of) (G__law_bent : GFn G P w base 3 (fA 20) (fD 20) ["quill", "text"] m__law_bent) (G__law_read : GFn G P w base 2 (fA 18) (fD 18) ["text"] m__law_read) (G__law_scratch : GFn G P w base 1 (fA 13) (fD 13) ["quill", "many"] m__law_scratch) (G__law_pick : GFn G P w base 2 (fA 14) (fD 14) ["quill", "some"] m__law_pick) : GFn G P w base 8 (fA 22) (fD 22) ["script"] m_law :=
  (GFn.of_bodyT (k := 7) TF.D_law.fg sc_law fun cdv A outer s H E hcdv ok => (ss_cons (ss_set (i := 1) ok.nd (cx_call ok TF.D__law_quill G__law_quill runL (sa_cons (se_var (i := 0)) sa_nil))) (ss_cons (ss_for ok.po ok.calm (si_range1 ok.mg T.b_range (sa_cons se_int sa_nil)) (sg_name (i := 2) ok.nd) (ss_cons (ss_set (i := 3) ok.nd (cx_call ok TF.D__law_number G__law_number runL (sa_cons (se_var (i := 1)) sa_nil))) (ss_cons (ss_set (i := 4) ok.nd (cx_call ok TF.D__law_told G__law_told runL (sa_cons (se_var (i := 3)) sa_nil))) (ss_cons (ss_set (i := 5) ok.nd (se_ifExp (ct_eq ok (se_ix ok.K (se_var (i := 3)) se_int) se_int) (cx_str ok T.b_str (sa_cons (se_ix ok.K (se_var (i := 3)) se_int) sa_nil)) (se_joined (sj_cons (cx_fmt (se_ix ok.K (se_var (i := 3)) se_int)) (sj_cons se_str (sj_cons (cx_fmt (se_ix ok.K (se_var (i := 3)) se_int)) sj_nil)))))) (ss_cons (ss_set (i := 6) ok.nd (se_ifExp (st_truth ok.K (cx_isi ok TB T.b_isinstance (sa_cons (se_var (i := 4)) (sa_cons (cx_ty ok T.b_tuple) sa_nil)))) (cx_list ok T.b_list (sa_cons (se_var (i := 4)) sa_nil)) (se_var (i := 4)))) (ss_cons (ss_if (ct_ne ok (cx_reprZ ok T.b_repr (sa_cons (se_lst (sa_cons (cx_call ok TF.D_number_text G_number_text runL (sa_cons (se_var (i := 4)) sa_nil)) (sa_cons (se_callK0 ok G_number_text (by first | decide | omega) runL TF.D_number_text.mg TF.D_number_text.fg.kp dfl_nil TF.bk_number_text_0_value (sk_cons (se_var (i := 6)) sk_nil)) sa_nil))) sa_nil)) (cx_reprZ ok T.b_repr (sa_cons (se_lst (sa_cons (se_var (i := 5)) (sa_cons (se_var (i := 5)) sa_nil))) sa_nil))) (ss_one (ss_ret se_bl)) ss_nil) (ss_cons (ss_if (ct_ne ok (cx_reprZ ok T.b_repr (sa_cons (se_lst (sa_cons (cx_call ok TF.D_number_of G_number_of runL (sa_cons (se_var (i := 5)) sa_nil)) (sa_cons (se_callK0 ok G_number_of (by first | decide | omega) runL TF.D_number_of.mg TF.D_number_of.fg.kp dfl_nil TF.bk_number_of_0_text (sk_cons (se_var (i := 5)) sk_nil)) sa_nil))) sa_nil)) (cx_reprZ ok T.b_repr (sa_cons (se_lst (sa_cons (se_var (i := 4)) (sa_cons (se_var (i := 4)) sa_nil))) sa_nil))) (ss_one (ss_ret se_bl)) ss_nil) (ss_one (ss_for ok.po ok.calm (si_range1 ok.mg T.b_range (sa_cons se_int sa_nil)) (sg_name (i := 7) ok.nd) (ss_cons (ss_set (i := 8) ok.nd (cx_call ok TF.D__law_bent G__law_bent runL (sa_cons (se_var (i := 1)) (sa_cons (se_var (i := 5)) sa_nil)))) (ss_cons (ss_set (i := 9) ok.nd (cx_call ok TF.D__law_read G__law_read runL (sa_cons (se_var (i := 8)) sa_nil))) (ss_one (ss_if (ct_ne ok (cx_reprZ ok T.b_repr (sa_cons (se_cut (se_lam (LF := lamFree_by (show lamFreeB (defScope s_law) _ = true from by decide +kernel)) (kh := 6) (kb := 5) (ix := [8]) ok TF.D__law_heard sc__law_heard (by first | decide | omega) (by first | decide | omega) (gh__law_heard T TB CL TF TLF (by first | decide | omega)) (TabX.of TLF.t_law rfl hcdv) (lam0 rfl rfl (fun _ => rfl) (fun _ _ _ _ _ _ => rfl) rfl rfl rfl (show lamOwnB _ ["script", "quill", "turn", "pair", "number", "text", "handed", "bend", "bent", "due", "long", "odd", "bad"] = true from by decide +kernel)) (fun _ _ _ _ _ _ _ okL => (cx_call okL TF.D_number_of G_number_of runL (sa_cons (se_var (i := 8)) sa_nil))))) sa_nil)) (cx_reprZ ok T.b_repr (sa_cons (se_ifExp (ct_is ok (se_var (i := 9)) se_non) (se_lst (sa_cons se_str (sa_cons se_int (sa_cons se_int sa_nil)))) (se_var (i := 9))) sa_nil))) (ss_one (ss_ret se_bl)) ss_nil))))))))))))) (ss_cons (ss_set (i := 10) ok.nd (cx_add ok (cx_mul ok (cx_pow ok se_int se_int) (cx_add ok se_int (cx_call ok TF.D__law_scratch G__law_scratch runL (sa_cons (se_var (i := 1)) (sa_cons (cx_pow ok se_int se_int) sa_nil))))) (cx_call ok TF.D__law_scratch G__law_scratch runL (sa_cons (se_var (i := 1)) (sa_cons se_int sa_nil))))) (ss_cons (ss_for ok.po ok.calm (si_seq ok.K (se_tup (sa_cons (se_tup (sa_cons (se_var (i := 10)) (sa_cons (cx_str ok T.b_str (sa_cons (se_var (i := 10)) sa_nil)) sa_nil))) (sa_cons (se_tup (sa_cons (se_tup (sa_cons (cx_neg ok se_int) (sa_cons (se_var (i := 10)) sa_nil))) (sa_cons (cx_add ok se_str (cx_str ok T.b_str (sa_cons (se_var (i := 10)) sa_nil))) sa_nil))) (sa_cons (se_tup (sa_cons (se_tup (sa_cons (cx_add ok (cx_mul ok se_int (se_var (i := 10))) se_int) (sa_cons se_int sa_nil))) (sa_cons (cx_add ok (cx_str ok T.b_str (sa_cons (cx_add ok (cx_mul ok se_int (se_var (i := 10))) se_int) sa_nil)) se_str) sa_nil))) sa_nil))))) (sg_many ok.K ok.calm (sgs_cons (sg_name (i := 4) ok.nd) (sgs_cons (sg_name (i := 5) ok.nd) sgs_nil))) (ss_one (ss_if (SW.pt (sw_or (ct_ne ok (cx_call ok TF.D_number_text G_number_text runL (sa_cons (se_var (i := 4)) sa_nil)) (se_var (i := 5))) (sw_or1 (ct_ne ok (se_cut (se_lam (LF := lamFree_by (show lamFreeB (defScope s_law) _ = true from by decide +kernel)) (kh := 6) (kb := 5) (ix := [5]) ok TF.D__law_heard sc__law_heard (by first | decide | omega) (by first | decide | omega) (gh__law_heard T TB CL TF TLF (by first | decide | omega)) (TabX.of TLF.t_law rfl hcdv) (lam0 rfl rfl (fun _ => rfl) (fun _ _ _ _ _ _ => rfl) rfl rfl rfl (show lamOwnB _ ["script", "quill", "turn", "pair", "number", "text", "handed", "bend", "bent", "due", "long", "odd", "bad"] = true from by decide +kernel)) (fun _ _ _ _ _ _ _ okL => (cx_call okL TF.D_number_of G_number_of runL (sa_cons (se_var (i := 5)) sa_nil))))) (se_lst (sa_cons se_str (sa_cons se_int (sa_cons se_int sa_nil)))))))) (ss_one (ss_ret se_bl)) ss_nil))) (ss_cons (ss_set (i := 11) ok.nd (cx_call ok TF.D__law_pick G__law_pick runL (sa_cons (se_var (i := 1)) (sa_cons (se_lst (sa_cons se_non (sa_cons se_int (sa_cons (se_tup (sa_cons se_int (sa_cons se_int sa_nil))) (sa_cons se_bl (sa_cons (se_lst (sa_cons se_str sa_nil)) (sa_cons (se_cut (se_frz se_dict0)) sa_nil))))))) sa_nil)))) (ss_cons (ss_set (i := 12) ok.nd (cx_call ok TF.D__law_pick G__law_pick runL (sa_cons (se_var (i := 1)) (sa_cons (se_lst (sa_cons se_non (sa_cons se_str (sa_cons (se_tup (sa_cons se_int (sa_cons se_int sa_nil))) (sa_cons (se_tup (sa_cons se_int (sa_cons se_int sa_nil))) (sa_cons se_bl (sa_cons (se_lst sa_nil) (sa_cons (se_tup (sa_cons se_int (sa_cons se_int sa_nil))) sa_nil)))))))) sa_nil)))) (ss_cons (ss_if (ct_ne ok (se_cut (se_lam (LF := lamFree_by (show lamFreeB (defScope s_law) _ = true from by decide +kernel)) (kh := 6) (kb := 5) (ix := [11]) ok TF.D__law_heard sc__law_heard (by first | decide | omega) (by first | decide | omega) (gh__law_heard T TB CL TF TLF (by first | decide | omega)) (TabX.of TLF.t_law rfl hcdv) (lam0 rfl rfl (fun _ => rfl) (fun _ _ _ _ _ _ => rfl) rfl rfl rfl (show lamOwnB _ ["script", "quill", "turn", "pair", "number", "text", "handed", "bend", "bent", "due", "long", "odd", "bad"] = true from by decide +kernel)) (fun _ _ _ _ _ _ _ okL => (cx_call okL TF.D_number_of G_number_of runL (sa_cons (se_var (i := 11)) sa_nil))))) (se_lst (sa_cons se_str (sa_cons se_int (sa_cons se_int sa_nil))))) (ss_one (ss_ret se_bl)) ss_nil) (ss_one (ss_ret (cx_eq ok (se_cut (se_lam (LF := lamFree_by (show lamFreeB (defScope s_law) _ = true from by decide +kernel)) (kh := 6) (kb := 5) (ix := [12]) ok TF.D__law_heard sc__law_heard (by first | decide | omega) (by first | decide | omega) (gh__law_heard T TB CL TF TLF (by first | decide | omega)) (TabX.of TLF.t_law rfl hcdv) (lam0 rfl rfl (fun _ => rfl) (fun _ _ _ _ _ _ => rfl) rfl rfl rfl (show lamOwnB _ ["script", "quill", "turn", "pair", "number", "text", "handed", "bend", "bent", "due", "long", "odd", "bad"] = true from by decide +kernel)) (fun _ _ _ _ _ _ _ okL => (cx_call okL TF.D_number_text G_number_text runL (sa_cons (se_var (i := 12)) sa_nil))))) (se_lst (sa_cons se_str (sa_cons se_str sa_nil)))))))))))))).cut
end Z

set_option Elab.async false
set_option maxRecDepth 100000
set_option maxHeartbeats 4000000
namespace Z
open PySem PySem.Spec L2
theorem all_mk {l : PySem.W.OpenLaw} {w : World} {K : PySem.W.Frag} {h : Heap} {mg : Str → Option Value} {fa : Addr} {q : Program} (X : K.In h) (N : h.Ns mainGlobals mg) (hfa : mg "law" = some (.ref fa))
    (hxb : tabsB K q ["law"] = true)
    {f_is_integer f_is_within f_common f_is_number f_kept f_need_number f_figures_in f_written f_parts_of f_text_in f_number_text f_number_of f__law_quill f__law_scratch f__law_pick f__law_low f__law_told f__law_integer f__law_read f__law_number f__law_bent f__law_heard f_law : Addr} {od_is_integer an_is_integer od_is_within an_is_within od_common an_common od_is_number an_is_number od_kept an_kept od_need_number an_need_number od_figures_in an_figures_in od_written an_written od_parts_of an_parts_of od_text_in an_text_in od_number_text an_number_text od_number_of an_number_of od__law_quill an__law_quill od__law_scratch an__law_scratch od__law_pick an__law_pick od__law_low an__law_low od__law_told an__law_told od__law_integer an__law_integer od__law_read an__law_read od__law_number an__law_number od__law_bent an__law_bent od__law_heard an__law_heard od_law an_law : Option Addr} {sl_is_integer sl_is_within sl_common sl_is_number sl_kept sl_need_number sl_figures_in sl_written sl_parts_of sl_text_in sl_number_text sl_number_of sl__law_quill sl__law_scratch sl__law_pick sl__law_low sl__law_told sl__law_integer sl__law_read sl__law_number sl__law_bent sl__law_heard sl_law : Array (Option Value)} {oc_is_integer kV_is_integer dc_is_integer pm_is_integer cd_is_integer ct_is_integer oc_is_within kV_is_within dc_is_within pm_is_within cd_is_within ct_is_within oc_common kV_common dc_common pm_common cd_common ct_common oc_is_number kV_is_number dc_is_number pm_is_number cd_is_number ct_is_number oc_kept kV_kept dc_kept pm_kept cd_kept ct_kept oc_need_number kV_need_number dc_need_number pm_need_number cd_need_number ct_need_number oc_figures_in kV_figures_in dc_figures_in pm_figures_in cd_figures_in ct_figures_in oc_written kV_written dc_written pm_written cd_written ct_written oc_parts_of kV_parts_of dc_parts_of pm_parts_of cd_parts_of ct_parts_of oc_text_in kV_text_in dc_text_in pm_text_in cd_text_in ct_text_in oc_number_text kV_number_text dc_number_text pm_number_text cd_number_text ct_number_text oc_number_of kV_number_of dc_number_of pm_number_of cd_number_of ct_number_of oc__law_quill kV__law_quill dc__law_quill pm__law_quill cd__law_quill ct__law_quill oc__law_scratch kV__law_scratch dc__law_scratch pm__law_scratch cd__law_scratch ct__law_scratch oc__law_pick kV__law_pick dc__law_pick pm__law_pick cd__law_pick ct__law_pick oc__law_low kV__law_low dc__law_low pm__law_low cd__law_low ct__law_low oc__law_told kV__law_told dc__law_told pm__law_told cd__law_told ct__law_told oc__law_integer kV__law_integer dc__law_integer pm__law_integer cd__law_integer ct__law_integer oc__law_read kV__law_read dc__law_read pm__law_read cd__law_read ct__law_read oc__law_number kV__law_number dc__law_number pm__law_number cd__law_number ct__law_number oc__law_bent kV__law_bent dc__law_bent pm__law_bent cd__law_bent ct__law_bent oc__law_heard kV__law_heard dc__law_heard pm__law_heard cd__law_heard ct__law_heard oc_law kV_law dc_law pm_law cd_law ct_law : Value}
    (a_is_integer : PySem.W.nsIn K mainGlobals "is_integer" = some (some (.ref f_is_integer))) (l_is_integer : K.lookup f_is_integer = some ⟨oc_is_integer, od_is_integer, .func (PySem.W.fnOf "is_integer" "is_integer" (defArgs s_is_integer) (defBody s_is_integer) (defScope s_is_integer) .none kV_is_integer dc_is_integer pm_is_integer an_is_integer cd_is_integer ct_is_integer), sl_is_integer⟩) (c_is_integer : PySem.W.codeIn K cd_is_integer "is_integer" = true) (k_is_integer : PySem.W.keepIn K (.ref f_is_integer) = true)
    (a_is_within : PySem.W.nsIn K mainGlobals "is_within" = some (some (.ref f_is_within))) (l_is_within : K.lookup f_is_within = some ⟨oc_is_within, od_is_within, .func (PySem.W.fnOf "is_within" "is_within" (defArgs s_is_within) (defBody s_is_within) (defScope s_is_within) .none kV_is_within dc_is_within pm_is_within an_is_within cd_is_within ct_is_within), sl_is_within⟩) (c_is_within : PySem.W.codeIn K cd_is_within "is_within" = true) (k_is_within : PySem.W.keepIn K (.ref f_is_within) = true)
    (a_common : PySem.W.nsIn K mainGlobals "common" = some (some (.ref f_common))) (l_common : K.lookup f_common = some ⟨oc_common, od_common, .func (PySem.W.fnOf "common" "common" (defArgs s_common) (defBody s_common) (defScope s_common) .none kV_common dc_common pm_common an_common cd_common ct_common), sl_common⟩) (c_common : PySem.W.codeIn K cd_common "common" = true) (k_common : PySem.W.keepIn K (.ref f_common) = true)
    (a_is_number : PySem.W.nsIn K mainGlobals "is_number" = some (some (.ref f_is_number))) (l_is_number : K.lookup f_is_number = some ⟨oc_is_number, od_is_number, .func (PySem.W.fnOf "is_number" "is_number" (defArgs s_is_number) (defBody s_is_number) (defScope s_is_number) .none kV_is_number dc_is_number pm_is_number an_is_number cd_is_number ct_is_number), sl_is_number⟩) (c_is_number : PySem.W.codeIn K cd_is_number "is_number" = true) (k_is_number : PySem.W.keepIn K (.ref f_is_number) = true)
    (a_kept : PySem.W.nsIn K mainGlobals "kept" = some (some (.ref f_kept))) (l_kept : K.lookup f_kept = some ⟨oc_kept, od_kept, .func (PySem.W.fnOf "kept" "kept" (defArgs s_kept) (defBody s_kept) (defScope s_kept) .none kV_kept dc_kept pm_kept an_kept cd_kept ct_kept), sl_kept⟩) (c_kept : PySem.W.codeIn K cd_kept "kept" = true) (k_kept : PySem.W.keepIn K (.ref f_kept) = true)
    (a_need_number : PySem.W.nsIn K mainGlobals "need_number" = some (some (.ref f_need_number))) (l_need_number : K.lookup f_need_number = some ⟨oc_need_number, od_need_number, .func (PySem.W.fnOf "need_number" "need_number" (defArgs s_need_number) (defBody s_need_number) (defScope s_need_number) .none kV_need_number dc_need_number pm_need_number an_need_number cd_need_number ct_need_number), sl_need_number⟩) (c_need_number : PySem.W.codeIn K cd_need_number "need_number" = true) (k_need_number : PySem.W.keepIn K (.ref f_need_number) = true)
    (a_figures_in : PySem.W.nsIn K mainGlobals "figures_in" = some (some (.ref f_figures_in))) (l_figures_in : K.lookup f_figures_in = some ⟨oc_figures_in, od_figures_in, .func (PySem.W.fnOf "figures_in" "figures_in" (defArgs s_figures_in) (defBody s_figures_in) (defScope s_figures_in) .none kV_figures_in dc_figures_in pm_figures_in an_figures_in cd_figures_in ct_figures_in), sl_figures_in⟩) (c_figures_in : PySem.W.codeIn K cd_figures_in "figures_in" = true) (k_figures_in : PySem.W.keepIn K (.ref f_figures_in) = true)
    (a_written : PySem.W.nsIn K mainGlobals "written" = some (some (.ref f_written))) (l_written : K.lookup f_written = some ⟨oc_written, od_written, .func (PySem.W.fnOf "written" "written" (defArgs s_written) (defBody s_written) (defScope s_written) .none kV_written dc_written pm_written an_written cd_written ct_written), sl_written⟩) (c_written : PySem.W.codeIn K cd_written "written" = true) (k_written : PySem.W.keepIn K (.ref f_written) = true)
    (a_parts_of : PySem.W.nsIn K mainGlobals "parts_of" = some (some (.ref f_parts_of))) (l_parts_of : K.lookup f_parts_of = some ⟨oc_parts_of, od_parts_of, .func (PySem.W.fnOf "parts_of" "parts_of" (defArgs s_parts_of) (defBody s_parts_of) (defScope s_parts_of) .none kV_parts_of dc_parts_of pm_parts_of an_parts_of cd_parts_of ct_parts_of), sl_parts_of⟩) (c_parts_of : PySem.W.codeIn K cd_parts_of "parts_of" = true) (k_parts_of : PySem.W.keepIn K (.ref f_parts_of) = true)
    (a_text_in : PySem.W.nsIn K mainGlobals "text_in" = some (some (.ref f_text_in))) (l_text_in : K.lookup f_text_in = some ⟨oc_text_in, od_text_in, .func (PySem.W.fnOf "text_in" "text_in" (defArgs s_text_in) (defBody s_text_in) (defScope s_text_in) .none kV_text_in dc_text_in pm_text_in an_text_in cd_text_in ct_text_in), sl_text_in⟩) (c_text_in : PySem.W.codeIn K cd_text_in "text_in" = true) (k_text_in : PySem.W.keepIn K (.ref f_text_in) = true)
    (a_number_text : PySem.W.nsIn K mainGlobals "number_text" = some (some (.ref f_number_text))) (l_number_text : K.lookup f_number_text = some ⟨oc_number_text, od_number_text, .func (PySem.W.fnOf "number_text" "number_text" (defArgs s_number_text) (defBody s_number_text) (defScope s_number_text) .none kV_number_text dc_number_text pm_number_text an_number_text cd_number_text ct_number_text), sl_number_text⟩) (c_number_text : PySem.W.codeIn K cd_number_text "number_text" = true) (k_number_text : PySem.W.keepIn K (.ref f_number_text) = true)
    (a_number_of : PySem.W.nsIn K mainGlobals "number_of" = some (some (.ref f_number_of))) (l_number_of : K.lookup f_number_of = some ⟨oc_number_of, od_number_of, .func (PySem.W.fnOf "number_of" "number_of" (defArgs s_number_of) (defBody s_number_of) (defScope s_number_of) .none kV_number_of dc_number_of pm_number_of an_number_of cd_number_of ct_number_of), sl_number_of⟩) (c_number_of : PySem.W.codeIn K cd_number_of "number_of" = true) (k_number_of : PySem.W.keepIn K (.ref f_number_of) = true)
    (a__law_quill : PySem.W.nsIn K mainGlobals "_law_quill" = some (some (.ref f__law_quill))) (l__law_quill : K.lookup f__law_quill = some ⟨oc__law_quill, od__law_quill, .func (PySem.W.fnOf "_law_quill" "_law_quill" (defArgs s__law_quill) (defBody s__law_quill) (defScope s__law_quill) .none kV__law_quill dc__law_quill pm__law_quill an__law_quill cd__law_quill ct__law_quill), sl__law_quill⟩) (c__law_quill : PySem.W.codeIn K cd__law_quill "_law_quill" = true) (k__law_quill : PySem.W.keepIn K (.ref f__law_quill) = true)
    (a__law_scratch : PySem.W.nsIn K mainGlobals "_law_scratch" = some (some (.ref f__law_scratch))) (l__law_scratch : K.lookup f__law_scratch = some ⟨oc__law_scratch, od__law_scratch, .func (PySem.W.fnOf "_law_scratch" "_law_scratch" (defArgs s__law_scratch) (defBody s__law_scratch) (defScope s__law_scratch) .none kV__law_scratch dc__law_scratch pm__law_scratch an__law_scratch cd__law_scratch ct__law_scratch), sl__law_scratch⟩) (c__law_scratch : PySem.W.codeIn K cd__law_scratch "_law_scratch" = true) (k__law_scratch : PySem.W.keepIn K (.ref f__law_scratch) = true)
    (a__law_pick : PySem.W.nsIn K mainGlobals "_law_pick" = some (some (.ref f__law_pick))) (l__law_pick : K.lookup f__law_pick = some ⟨oc__law_pick, od__law_pick, .func (PySem.W.fnOf "_law_pick" "_law_pick" (defArgs s__law_pick) (defBody s__law_pick) (defScope s__law_pick) .none kV__law_pick dc__law_pick pm__law_pick an__law_pick cd__law_pick ct__law_pick), sl__law_pick⟩) (c__law_pick : PySem.W.codeIn K cd__law_pick "_law_pick" = true) (k__law_pick : PySem.W.keepIn K (.ref f__law_pick) = true)
    (a__law_low : PySem.W.nsIn K mainGlobals "_law_low" = some (some (.ref f__law_low))) (l__law_low : K.lookup f__law_low = some ⟨oc__law_low, od__law_low, .func (PySem.W.fnOf "_law_low" "_law_low" (defArgs s__law_low) (defBody s__law_low) (defScope s__law_low) .none kV__law_low dc__law_low pm__law_low an__law_low cd__law_low ct__law_low), sl__law_low⟩) (c__law_low : PySem.W.codeIn K cd__law_low "_law_low" = true) (k__law_low : PySem.W.keepIn K (.ref f__law_low) = true)
    (a__law_told : PySem.W.nsIn K mainGlobals "_law_told" = some (some (.ref f__law_told))) (l__law_told : K.lookup f__law_told = some ⟨oc__law_told, od__law_told, .func (PySem.W.fnOf "_law_told" "_law_told" (defArgs s__law_told) (defBody s__law_told) (defScope s__law_told) .none kV__law_told dc__law_told pm__law_told an__law_told cd__law_told ct__law_told), sl__law_told⟩) (c__law_told : PySem.W.codeIn K cd__law_told "_law_told" = true) (k__law_told : PySem.W.keepIn K (.ref f__law_told) = true)
    (a__law_integer : PySem.W.nsIn K mainGlobals "_law_integer" = some (some (.ref f__law_integer))) (l__law_integer : K.lookup f__law_integer = some ⟨oc__law_integer, od__law_integer, .func (PySem.W.fnOf "_law_integer" "_law_integer" (defArgs s__law_integer) (defBody s__law_integer) (defScope s__law_integer) .none kV__law_integer dc__law_integer pm__law_integer an__law_integer cd__law_integer ct__law_integer), sl__law_integer⟩) (c__law_integer : PySem.W.codeIn K cd__law_integer "_law_integer" = true) (k__law_integer : PySem.W.keepIn K (.ref f__law_integer) = true)
    (a__law_read : PySem.W.nsIn K mainGlobals "_law_read" = some (some (.ref f__law_read))) (l__law_read : K.lookup f__law_read = some ⟨oc__law_read, od__law_read, .func (PySem.W.fnOf "_law_read" "_law_read" (defArgs s__law_read) (defBody s__law_read) (defScope s__law_read) .none kV__law_read dc__law_read pm__law_read an__law_read cd__law_read ct__law_read), sl__law_read⟩) (c__law_read : PySem.W.codeIn K cd__law_read "_law_read" = true) (k__law_read : PySem.W.keepIn K (.ref f__law_read) = true)
    (a__law_number : PySem.W.nsIn K mainGlobals "_law_number" = some (some (.ref f__law_number))) (l__law_number : K.lookup f__law_number = some ⟨oc__law_number, od__law_number, .func (PySem.W.fnOf "_law_number" "_law_number" (defArgs s__law_number) (defBody s__law_number) (defScope s__law_number) .none kV__law_number dc__law_number pm__law_number an__law_number cd__law_number ct__law_number), sl__law_number⟩) (c__law_number : PySem.W.codeIn K cd__law_number "_law_number" = true) (k__law_number : PySem.W.keepIn K (.ref f__law_number) = true)
    (a__law_bent : PySem.W.nsIn K mainGlobals "_law_bent" = some (some (.ref f__law_bent))) (l__law_bent : K.lookup f__law_bent = some ⟨oc__law_bent, od__law_bent, .func (PySem.W.fnOf "_law_bent" "_law_bent" (defArgs s__law_bent) (defBody s__law_bent) (defScope s__law_bent) .none kV__law_bent dc__law_bent pm__law_bent an__law_bent cd__law_bent ct__law_bent), sl__law_bent⟩) (c__law_bent : PySem.W.codeIn K cd__law_bent "_law_bent" = true) (k__law_bent : PySem.W.keepIn K (.ref f__law_bent) = true)
    (a__law_heard : PySem.W.nsIn K mainGlobals "_law_heard" = some (some (.ref f__law_heard))) (l__law_heard : K.lookup f__law_heard = some ⟨oc__law_heard, od__law_heard, .func (PySem.W.fnOf "_law_heard" "_law_heard" (defArgs s__law_heard) (defBody s__law_heard) (defScope s__law_heard) .none kV__law_heard dc__law_heard pm__law_heard an__law_heard cd__law_heard ct__law_heard), sl__law_heard⟩) (c__law_heard : PySem.W.codeIn K cd__law_heard "_law_heard" = true) (k__law_heard : PySem.W.keepIn K (.ref f__law_heard) = true)
    (a_law : PySem.W.nsIn K mainGlobals "law" = some (some (.ref f_law))) (l_law : K.lookup f_law = some ⟨oc_law, od_law, .func (PySem.W.fnOf "law" "law" (defArgs s_law) (defBody s_law) (defScope s_law) .none kV_law dc_law pm_law an_law cd_law ct_law), sl_law⟩) (c_law : PySem.W.codeIn K cd_law "law" = true) (k_law : PySem.W.keepIn K (.ref f_law) = true)
    (z_abs : PySem.W.nsIn K mainGlobals "abs" = some none)
    (z_all : PySem.W.nsIn K mainGlobals "all" = some none)
    (z_bool : PySem.W.nsIn K mainGlobals "bool" = some none)
    (z_int : PySem.W.nsIn K mainGlobals "int" = some none)
    (z_isinstance : PySem.W.nsIn K mainGlobals "isinstance" = some none)
    (z_len : PySem.W.nsIn K mainGlobals "len" = some none)
    (z_list : PySem.W.nsIn K mainGlobals "list" = some none)
    (z_min : PySem.W.nsIn K mainGlobals "min" = some none)
    (z_range : PySem.W.nsIn K mainGlobals "range" = some none)
    (z_repr : PySem.W.nsIn K mainGlobals "repr" = some none)
    (z_str : PySem.W.nsIn K mainGlobals "str" = some none)
    (z_tuple : PySem.W.nsIn K mainGlobals "tuple" = some none)
    {tk_MOST_FIGURES : Tok} (vk_MOST_FIGURES : PySem.W.nsIn K mainGlobals "MOST_FIGURES" = some (some (.int 60 tk_MOST_FIGURES)))
    {tk_FIGURES : Tok} (vk_FIGURES : PySem.W.nsIn K mainGlobals "FIGURES" = some (some (.str "0123456789" tk_FIGURES)))
    {tk_BAR : Tok} (vk_BAR : PySem.W.nsIn K mainGlobals "BAR" = some (some (.str "/" tk_BAR)))
    {C_LaneError C_BadNumber C_BadText : Addr}
    (aC_LaneError : PySem.W.nsIn K mainGlobals "LaneError" = some (some (.ref C_LaneError)))
    (aC_BadNumber : PySem.W.nsIn K mainGlobals "BadNumber" = some (some (.ref C_BadNumber)))
    (aC_BadText : PySem.W.nsIn K mainGlobals "BadText" = some (some (.ref C_BadText)))
    {fi_BadNumber cda_BadNumber cc_BadNumber N_BadNumber : Addr} {nm_BadNumber q_BadNumber file_BadNumber : Str} {bs_BadNumber bm_BadNumber sub_BadNumber : List Value} {sn_BadNumber : List Str} {ab_BadNumber : Bool} {col_BadNumber : Option Bool} {dd_BadNumber od_BadNumber an_BadNumber cdd_BadNumber cld_BadNumber : Option Addr} {k0_BadNumber k1_BadNumber k2_BadNumber k3_BadNumber k5_BadNumber : Option Value} {oc_BadNumber kV_BadNumber dc_BadNumber pm_BadNumber ct_BadNumber ccl_BadNumber cl_BadNumber : Value} {osl_BadNumber ccs_BadNumber csl_BadNumber : Array (Option Value)} {vs_BadNumber : Array Value} {tf_BadNumber : Tok}
    (lC_BadNumber : K.lookup C_BadNumber = some (excClassObj nm_BadNumber q_BadNumber C_BadNumber N_BadNumber bs_BadNumber bm_BadNumber true sn_BadNumber sub_BadNumber ab_BadNumber col_BadNumber dd_BadNumber k0_BadNumber k1_BadNumber k2_BadNumber k3_BadNumber k5_BadNumber "ValueError.__new__")) (rv_BadNumber : PySem.HandSPX.refsVE bm_BadNumber = true) (fi_is_BadNumber : PySem.W.findIn K (.ref C_BadNumber) "__init__" = some (some (.ref fi_BadNumber))) (xb_BadNumber : xcB K C_BadNumber fi_BadNumber ["part"] = true)
    (lI_BadNumber : K.lookup fi_BadNumber = some ⟨oc_BadNumber, od_BadNumber, .func (PySem.W.ksFn "__init__" "BadNumber.__init__" (defArgs s_BadNumber) (defBody s_BadNumber) (defScope s_BadNumber) .none kV_BadNumber dc_BadNumber pm_BadNumber an_BadNumber (.ref cda_BadNumber) ct_BadNumber cc_BadNumber), osl_BadNumber⟩) (cI_BadNumber : PySem.W.codeIn K (.ref cda_BadNumber) "BadNumber.__init__" = true)
    (lcd_BadNumber : K.lookup cda_BadNumber = some ⟨ccl_BadNumber, cdd_BadNumber, .fields vs_BadNumber, ccs_BadNumber⟩) (v2_BadNumber : vs_BadNumber[2]? = some (.str file_BadNumber tf_BadNumber)) (pf_BadNumber : ((l.prog.main.file : Str) == file_BadNumber) = true) (lcc_BadNumber : K.lookup cc_BadNumber = some ⟨cl_BadNumber, cld_BadNumber, .cell (some (.ref C_BadNumber)), csl_BadNumber⟩)
    {fi_BadText cda_BadText cc_BadText N_BadText : Addr} {nm_BadText q_BadText file_BadText : Str} {bs_BadText bm_BadText sub_BadText : List Value} {sn_BadText : List Str} {ab_BadText : Bool} {col_BadText : Option Bool} {dd_BadText od_BadText an_BadText cdd_BadText cld_BadText : Option Addr} {k0_BadText k1_BadText k2_BadText k3_BadText k5_BadText : Option Value} {oc_BadText kV_BadText dc_BadText pm_BadText ct_BadText ccl_BadText cl_BadText : Value} {osl_BadText ccs_BadText csl_BadText : Array (Option Value)} {vs_BadText : Array Value} {tf_BadText : Tok}
    (lC_BadText : K.lookup C_BadText = some (excClassObj nm_BadText q_BadText C_BadText N_BadText bs_BadText bm_BadText true sn_BadText sub_BadText ab_BadText col_BadText dd_BadText k0_BadText k1_BadText k2_BadText k3_BadText k5_BadText "ValueError.__new__")) (rv_BadText : PySem.HandSPX.refsVE bm_BadText = true) (fi_is_BadText : PySem.W.findIn K (.ref C_BadText) "__init__" = some (some (.ref fi_BadText))) (xb_BadText : xcB K C_BadText fi_BadText ["line", "item"] = true)
    (lI_BadText : K.lookup fi_BadText = some ⟨oc_BadText, od_BadText, .func (PySem.W.ksFn "__init__" "BadText.__init__" (defArgs s_BadText) (defBody s_BadText) (defScope s_BadText) .none kV_BadText dc_BadText pm_BadText an_BadText (.ref cda_BadText) ct_BadText cc_BadText), osl_BadText⟩) (cI_BadText : PySem.W.codeIn K (.ref cda_BadText) "BadText.__init__" = true)
    (lcd_BadText : K.lookup cda_BadText = some ⟨ccl_BadText, cdd_BadText, .fields vs_BadText, ccs_BadText⟩) (v2_BadText : vs_BadText[2]? = some (.str file_BadText tf_BadText)) (pf_BadText : ((l.prog.main.file : Str) == file_BadText) = true) (lcc_BadText : K.lookup cc_BadText = some ⟨cl_BadText, cld_BadText, .cell (some (.ref C_BadText)), csl_BadText⟩)
    (su : PySem.W.nsIn K mainGlobals "super" = some none) (tp : (l.prog.main.scope.names.lookup ("super" : Str)).isSome = false) (oq : PySem.W.nsIn K PySem.cStatics "thirdparty.any" = some none)
    (tb : tabB K (fun c => [C_LaneError, C_BadNumber, C_BadText].getD c 0) 3 [] subL styL = true)
    (eb_LaneError : exB K (fun c => [C_LaneError, C_BadNumber, C_BadText].getD c 0) 3 subL 0 = true)
    (ab_line : xaB K (fun c => [C_LaneError, C_BadNumber, C_BadText].getD c 0) [2] "line" = true)
    (ab_item : xaB K (fun c => [C_LaneError, C_BadNumber, C_BadText].getD c 0) [2] "item" = true)
    (ab_part : xaB K (fun c => [C_LaneError, C_BadNumber, C_BadText].getD c 0) [1] "part" = true) :
    ∃ (cl fn : Nat → Addr) (fd : FuncData), (∀ (s : Shared) (v : Value), BindsTo s fd ⟨[v], []⟩ [("script", v)]) ∧ ∀ base : Heap, K.In base → base.Ns mainGlobals mg → (∀ y ∈ (["law"] : List Str), LamX.TabB base mg (tcOf K y).1 (tcOf K y).2) → GFn ⟨K, mg, cl, tabsL K ["law"], fn⟩ l.prog w base 8 fa fd ["script"] m_law := by
  have e := hfa.symm.trans (PySem.W.mg_of X N a_law)
  cases e
  obtain ⟨fn, hfn⟩ : ∃ fn : Nat → Addr, fn = fun j => 0 := ⟨_, rfl⟩
  obtain ⟨cl, hcl⟩ : ∃ cl : Nat → Addr, cl = (fun c => [C_LaneError, C_BadNumber, C_BadText].getD c 0) := ⟨_, rfl⟩
  obtain ⟨fA, hfA⟩ : ∃ fA : Nat → Addr, fA = fun j => [f_is_integer, f_is_within, f_common, f_is_number, f_kept, f_need_number, f_figures_in, f_written, f_parts_of, f_text_in, f_number_text, f_number_of, f__law_quill, f__law_scratch, f__law_pick, f__law_low, f__law_told, f__law_integer, f__law_read, f__law_number, f__law_bent, f__law_heard, fa].getD j 0 := ⟨_, rfl⟩
  obtain ⟨fD, hfD⟩ : ∃ fD : Nat → FuncData, fD = fun j => [(PySem.W.fnOf "is_integer" "is_integer" (defArgs s_is_integer) (defBody s_is_integer) (defScope s_is_integer) .none kV_is_integer dc_is_integer pm_is_integer an_is_integer cd_is_integer ct_is_integer), (PySem.W.fnOf "is_within" "is_within" (defArgs s_is_within) (defBody s_is_within) (defScope s_is_within) .none kV_is_within dc_is_within pm_is_within an_is_within cd_is_within ct_is_within), (PySem.W.fnOf "common" "common" (defArgs s_common) (defBody s_common) (defScope s_common) .none kV_common dc_common pm_common an_common cd_common ct_common), (PySem.W.fnOf "is_number" "is_number" (defArgs s_is_number) (defBody s_is_number) (defScope s_is_number) .none kV_is_number dc_is_number pm_is_number an_is_number cd_is_number ct_is_number), (PySem.W.fnOf "kept" "kept" (defArgs s_kept) (defBody s_kept) (defScope s_kept) .none kV_kept dc_kept pm_kept an_kept cd_kept ct_kept), (PySem.W.fnOf "need_number" "need_number" (defArgs s_need_number) (defBody s_need_number) (defScope s_need_number) .none kV_need_number dc_need_number pm_need_number an_need_number cd_need_number ct_need_number), (PySem.W.fnOf "figures_in" "figures_in" (defArgs s_figures_in) (defBody s_figures_in) (defScope s_figures_in) .none kV_figures_in dc_figures_in pm_figures_in an_figures_in cd_figures_in ct_figures_in), (PySem.W.fnOf "written" "written" (defArgs s_written) (defBody s_written) (defScope s_written) .none kV_written dc_written pm_written an_written cd_written ct_written), (PySem.W.fnOf "parts_of" "parts_of" (defArgs s_parts_of) (defBody s_parts_of) (defScope s_parts_of) .none kV_parts_of dc_parts_of pm_parts_of an_parts_of cd_parts_of ct_parts_of), (PySem.W.fnOf "text_in" "text_in" (defArgs s_text_in) (defBody s_text_in) (defScope s_text_in) .none kV_text_in dc_text_in pm_text_in an_text_in cd_text_in ct_text_in), (PySem.W.fnOf "number_text" "number_text" (defArgs s_number_text) (defBody s_number_text) (defScope s_number_text) .none kV_number_text dc_number_text pm_number_text an_number_text cd_number_text ct_number_text), (PySem.W.fnOf "number_of" "number_of" (defArgs s_number_of) (defBody s_number_of) (defScope s_number_of) .none kV_number_of dc_number_of pm_number_of an_number_of cd_number_of ct_number_of), (PySem.W.fnOf "_law_quill" "_law_quill" (defArgs s__law_quill) (defBody s__law_quill) (defScope s__law_quill) .none kV__law_quill dc__law_quill pm__law_quill an__law_quill cd__law_quill ct__law_quill), (PySem.W.fnOf "_law_scratch" "_law_scratch" (defArgs s__law_scratch) (defBody s__law_scratch) (defScope s__law_scratch) .none kV__law_scratch dc__law_scratch pm__law_scratch an__law_scratch cd__law_scratch ct__law_scratch), (PySem.W.fnOf "_law_pick" "_law_pick" (defArgs s__law_pick) (defBody s__law_pick) (defScope s__law_pick) .none kV__law_pick dc__law_pick pm__law_pick an__law_pick cd__law_pick ct__law_pick), (PySem.W.fnOf "_law_low" "_law_low" (defArgs s__law_low) (defBody s__law_low) (defScope s__law_low) .none kV__law_low dc__law_low pm__law_low an__law_low cd__law_low ct__law_low), (PySem.W.fnOf "_law_told" "_law_told" (defArgs s__law_told) (defBody s__law_told) (defScope s__law_told) .none kV__law_told dc__law_told pm__law_told an__law_told cd__law_told ct__law_told), (PySem.W.fnOf "_law_integer" "_law_integer" (defArgs s__law_integer) (defBody s__law_integer) (defScope s__law_integer) .none kV__law_integer dc__law_integer pm__law_integer an__law_integer cd__law_integer ct__law_integer), (PySem.W.fnOf "_law_read" "_law_read" (defArgs s__law_read) (defBody s__law_read) (defScope s__law_read) .none kV__law_read dc__law_read pm__law_read an__law_read cd__law_read ct__law_read), (PySem.W.fnOf "_law_number" "_law_number" (defArgs s__law_number) (defBody s__law_number) (defScope s__law_number) .none kV__law_number dc__law_number pm__law_number an__law_number cd__law_number ct__law_number), (PySem.W.fnOf "_law_bent" "_law_bent" (defArgs s__law_bent) (defBody s__law_bent) (defScope s__law_bent) .none kV__law_bent dc__law_bent pm__law_bent an__law_bent cd__law_bent ct__law_bent), (PySem.W.fnOf "_law_heard" "_law_heard" (defArgs s__law_heard) (defBody s__law_heard) (defScope s__law_heard) .none kV__law_heard dc__law_heard pm__law_heard an__law_heard cd__law_heard ct__law_heard), (PySem.W.fnOf "law" "law" (defArgs s_law) (defBody s_law) (defScope s_law) .none kV_law dc_law pm_law an_law cd_law ct_law)].getD j (PySem.W.fnOf "law" "law" (defArgs s_law) (defBody s_law) (defScope s_law) .none kV_law dc_law pm_law an_law cd_law ct_law) := ⟨_, rfl⟩
  obtain ⟨fi, hfi⟩ : ∃ fi : Nat → Addr, fi = fun c => [0, fi_BadNumber, fi_BadText].getD c 0 := ⟨_, rfl⟩
  have T : Bl ⟨K, mg, cl, tabsL K ["law"], fn⟩ := ⟨PySem.W.mg_none_of X N z_abs, PySem.W.mg_none_of X N z_all, PySem.W.mg_none_of X N z_bool, PySem.W.mg_none_of X N z_int, PySem.W.mg_none_of X N z_isinstance, PySem.W.mg_none_of X N z_len, PySem.W.mg_none_of X N z_list, PySem.W.mg_none_of X N z_min, PySem.W.mg_none_of X N z_range, PySem.W.mg_none_of X N z_repr, PySem.W.mg_none_of X N z_str, PySem.W.mg_none_of X N z_tuple, ⟨_, PySem.W.mg_of X N vk_MOST_FIGURES⟩, ⟨_, PySem.W.mg_of X N vk_FIGURES⟩, ⟨_, PySem.W.mg_of X N vk_BAR⟩⟩
  have hA_is_integer : fA 0 = f_is_integer := by rw [hfA]; rfl
  have hD_is_integer : fD 0 = (PySem.W.fnOf "is_integer" "is_integer" (defArgs s_is_integer) (defBody s_is_integer) (defScope s_is_integer) .none kV_is_integer dc_is_integer pm_is_integer an_is_integer cd_is_integer ct_is_integer) := by rw [hfD]; rfl
  have hA_is_within : fA 1 = f_is_within := by rw [hfA]; rfl
  have hD_is_within : fD 1 = (PySem.W.fnOf "is_within" "is_within" (defArgs s_is_within) (defBody s_is_within) (defScope s_is_within) .none kV_is_within dc_is_within pm_is_within an_is_within cd_is_within ct_is_within) := by rw [hfD]; rfl
  have hA_common : fA 2 = f_common := by rw [hfA]; rfl
  have hD_common : fD 2 = (PySem.W.fnOf "common" "common" (defArgs s_common) (defBody s_common) (defScope s_common) .none kV_common dc_common pm_common an_common cd_common ct_common) := by rw [hfD]; rfl
  have hA_is_number : fA 3 = f_is_number := by rw [hfA]; rfl
  have hD_is_number : fD 3 = (PySem.W.fnOf "is_number" "is_number" (defArgs s_is_number) (defBody s_is_number) (defScope s_is_number) .none kV_is_number dc_is_number pm_is_number an_is_number cd_is_number ct_is_number) := by rw [hfD]; rfl
  have hA_kept : fA 4 = f_kept := by rw [hfA]; rfl
  have hD_kept : fD 4 = (PySem.W.fnOf "kept" "kept" (defArgs s_kept) (defBody s_kept) (defScope s_kept) .none kV_kept dc_kept pm_kept an_kept cd_kept ct_kept) := by rw [hfD]; rfl
  have hA_need_number : fA 5 = f_need_number := by rw [hfA]; rfl
  have hD_need_number : fD 5 = (PySem.W.fnOf "need_number" "need_number" (defArgs s_need_number) (defBody s_need_number) (defScope s_need_number) .none kV_need_number dc_need_number pm_need_number an_need_number cd_need_number ct_need_number) := by rw [hfD]; rfl
  have hA_figures_in : fA 6 = f_figures_in := by rw [hfA]; rfl
  have hD_figures_in : fD 6 = (PySem.W.fnOf "figures_in" "figures_in" (defArgs s_figures_in) (defBody s_figures_in) (defScope s_figures_in) .none kV_figures_in dc_figures_in pm_figures_in an_figures_in cd_figures_in ct_figures_in) := by rw [hfD]; rfl
  have hA_written : fA 7 = f_written := by rw [hfA]; rfl
  have hD_written : fD 7 = (PySem.W.fnOf "written" "written" (defArgs s_written) (defBody s_written) (defScope s_written) .none kV_written dc_written pm_written an_written cd_written ct_written) := by rw [hfD]; rfl
  have hA_parts_of : fA 8 = f_parts_of := by rw [hfA]; rfl
  have hD_parts_of : fD 8 = (PySem.W.fnOf "parts_of" "parts_of" (defArgs s_parts_of) (defBody s_parts_of) (defScope s_parts_of) .none kV_parts_of dc_parts_of pm_parts_of an_parts_of cd_parts_of ct_parts_of) := by rw [hfD]; rfl
  have hA_text_in : fA 9 = f_text_in := by rw [hfA]; rfl
  have hD_text_in : fD 9 = (PySem.W.fnOf "text_in" "text_in" (defArgs s_text_in) (defBody s_text_in) (defScope s_text_in) .none kV_text_in dc_text_in pm_text_in an_text_in cd_text_in ct_text_in) := by rw [hfD]; rfl
  have hA_number_text : fA 10 = f_number_text := by rw [hfA]; rfl
  have hD_number_text : fD 10 = (PySem.W.fnOf "number_text" "number_text" (defArgs s_number_text) (defBody s_number_text) (defScope s_number_text) .none kV_number_text dc_number_text pm_number_text an_number_text cd_number_text ct_number_text) := by rw [hfD]; rfl
  have hA_number_of : fA 11 = f_number_of := by rw [hfA]; rfl
  have hD_number_of : fD 11 = (PySem.W.fnOf "number_of" "number_of" (defArgs s_number_of) (defBody s_number_of) (defScope s_number_of) .none kV_number_of dc_number_of pm_number_of an_number_of cd_number_of ct_number_of) := by rw [hfD]; rfl
  have hA__law_quill : fA 12 = f__law_quill := by rw [hfA]; rfl
  have hD__law_quill : fD 12 = (PySem.W.fnOf "_law_quill" "_law_quill" (defArgs s__law_quill) (defBody s__law_quill) (defScope s__law_quill) .none kV__law_quill dc__law_quill pm__law_quill an__law_quill cd__law_quill ct__law_quill) := by rw [hfD]; rfl
  have hA__law_scratch : fA 13 = f__law_scratch := by rw [hfA]; rfl
  have hD__law_scratch : fD 13 = (PySem.W.fnOf "_law_scratch" "_law_scratch" (defArgs s__law_scratch) (defBody s__law_scratch) (defScope s__law_scratch) .none kV__law_scratch dc__law_scratch pm__law_scratch an__law_scratch cd__law_scratch ct__law_scratch) := by rw [hfD]; rfl
  have hA__law_pick : fA 14 = f__law_pick := by rw [hfA]; rfl
  have hD__law_pick : fD 14 = (PySem.W.fnOf "_law_pick" "_law_pick" (defArgs s__law_pick) (defBody s__law_pick) (defScope s__law_pick) .none kV__law_pick dc__law_pick pm__law_pick an__law_pick cd__law_pick ct__law_pick) := by rw [hfD]; rfl
  have hA__law_low : fA 15 = f__law_low := by rw [hfA]; rfl
  have hD__law_low : fD 15 = (PySem.W.fnOf "_law_low" "_law_low" (defArgs s__law_low) (defBody s__law_low) (defScope s__law_low) .none kV__law_low dc__law_low pm__law_low an__law_low cd__law_low ct__law_low) := by rw [hfD]; rfl
  have hA__law_told : fA 16 = f__law_told := by rw [hfA]; rfl
  have hD__law_told : fD 16 = (PySem.W.fnOf "_law_told" "_law_told" (defArgs s__law_told) (defBody s__law_told) (defScope s__law_told) .none kV__law_told dc__law_told pm__law_told an__law_told cd__law_told ct__law_told) := by rw [hfD]; rfl
  have hA__law_integer : fA 17 = f__law_integer := by rw [hfA]; rfl
  have hD__law_integer : fD 17 = (PySem.W.fnOf "_law_integer" "_law_integer" (defArgs s__law_integer) (defBody s__law_integer) (defScope s__law_integer) .none kV__law_integer dc__law_integer pm__law_integer an__law_integer cd__law_integer ct__law_integer) := by rw [hfD]; rfl
  have hA__law_read : fA 18 = f__law_read := by rw [hfA]; rfl
  have hD__law_read : fD 18 = (PySem.W.fnOf "_law_read" "_law_read" (defArgs s__law_read) (defBody s__law_read) (defScope s__law_read) .none kV__law_read dc__law_read pm__law_read an__law_read cd__law_read ct__law_read) := by rw [hfD]; rfl
  have hA__law_number : fA 19 = f__law_number := by rw [hfA]; rfl
  have hD__law_number : fD 19 = (PySem.W.fnOf "_law_number" "_law_number" (defArgs s__law_number) (defBody s__law_number) (defScope s__law_number) .none kV__law_number dc__law_number pm__law_number an__law_number cd__law_number ct__law_number) := by rw [hfD]; rfl
  have hA__law_bent : fA 20 = f__law_bent := by rw [hfA]; rfl
  have hD__law_bent : fD 20 = (PySem.W.fnOf "_law_bent" "_law_bent" (defArgs s__law_bent) (defBody s__law_bent) (defScope s__law_bent) .none kV__law_bent dc__law_bent pm__law_bent an__law_bent cd__law_bent ct__law_bent) := by rw [hfD]; rfl
  have hA__law_heard : fA 21 = f__law_heard := by rw [hfA]; rfl
  have hD__law_heard : fD 21 = (PySem.W.fnOf "_law_heard" "_law_heard" (defArgs s__law_heard) (defBody s__law_heard) (defScope s__law_heard) .none kV__law_heard dc__law_heard pm__law_heard an__law_heard cd__law_heard ct__law_heard) := by rw [hfD]; rfl
  have hA_law : fA 22 = fa := by rw [hfA]; rfl
  have hD_law : fD 22 = (PySem.W.fnOf "law" "law" (defArgs s_law) (defBody s_law) (defScope s_law) .none kV_law dc_law pm_law an_law cd_law ct_law) := by rw [hfD]; rfl
  clear hfA hfD
  have F_is_integer := funG_mk (st := s_is_integer) l_is_integer c_is_integer k_is_integer
  have F_is_within := funG_mk (st := s_is_within) l_is_within c_is_within k_is_within
  have F_common := funG_mk (st := s_common) l_common c_common k_common
  have F_is_number := funG_mk (st := s_is_number) l_is_number c_is_number k_is_number
  have F_kept := funG_mk (st := s_kept) l_kept c_kept k_kept
  have F_need_number := funG_mk (st := s_need_number) l_need_number c_need_number k_need_number
  have F_figures_in := funG_mk (st := s_figures_in) l_figures_in c_figures_in k_figures_in
  have F_written := funG_mk (st := s_written) l_written c_written k_written
  have F_parts_of := funG_mk (st := s_parts_of) l_parts_of c_parts_of k_parts_of
  have F_text_in := funG_mk (st := s_text_in) l_text_in c_text_in k_text_in
  have F_number_text := funG_mk (st := s_number_text) l_number_text c_number_text k_number_text
  have F_number_of := funG_mk (st := s_number_of) l_number_of c_number_of k_number_of
  have F__law_quill := funG_mk (st := s__law_quill) l__law_quill c__law_quill k__law_quill
  have F__law_scratch := funG_mk (st := s__law_scratch) l__law_scratch c__law_scratch k__law_scratch
  have F__law_pick := funG_mk (st := s__law_pick) l__law_pick c__law_pick k__law_pick
  have F__law_low := funG_mk (st := s__law_low) l__law_low c__law_low k__law_low
  have F__law_told := funG_mk (st := s__law_told) l__law_told c__law_told k__law_told
  have F__law_integer := funG_mk (st := s__law_integer) l__law_integer c__law_integer k__law_integer
  have F__law_read := funG_mk (st := s__law_read) l__law_read c__law_read k__law_read
  have F__law_number := funG_mk (st := s__law_number) l__law_number c__law_number k__law_number
  have F__law_bent := funG_mk (st := s__law_bent) l__law_bent c__law_bent k__law_bent
  have F__law_heard := funG_mk (st := s__law_heard) l__law_heard c__law_heard k__law_heard
  have F_law := funG_mk (st := s_law) l_law c_law k_law
  have TF : TopF ⟨K, mg, cl, tabsL K ["law"], fn⟩ fA fD := by
    constructor
    · rw [hA_is_integer, hD_is_integer]; exact ⟨F_is_integer, PySem.W.mg_of X N a_is_integer, bdP_mk fun us hl => match us, hl with | [_], _ => rfl⟩
    · rw [hA_is_within, hD_is_within]; exact ⟨F_is_within, PySem.W.mg_of X N a_is_within, bdP_mk fun us hl => match us, hl with | [_, _, _], _ => rfl⟩
    · rw [hA_common, hD_common]; exact ⟨F_common, PySem.W.mg_of X N a_common, bdP_mk fun us hl => match us, hl with | [_, _], _ => rfl⟩
    · rw [hA_is_number, hD_is_number]; exact ⟨F_is_number, PySem.W.mg_of X N a_is_number, bdP_mk fun us hl => match us, hl with | [_], _ => rfl⟩
    · rw [hA_kept, hD_kept]; exact ⟨F_kept, PySem.W.mg_of X N a_kept, bdP_mk fun us hl => match us, hl with | [_], _ => rfl⟩
    · rw [hA_need_number, hD_need_number]; exact ⟨F_need_number, PySem.W.mg_of X N a_need_number, bdP_mk fun us hl => match us, hl with | [_, _], _ => rfl⟩
    · rw [hA_figures_in, hD_figures_in]; exact ⟨F_figures_in, PySem.W.mg_of X N a_figures_in, bdP_mk fun us hl => match us, hl with | [_], _ => rfl⟩
    · rw [hA_written, hD_written]; exact ⟨F_written, PySem.W.mg_of X N a_written, bdP_mk fun us hl => match us, hl with | [_], _ => rfl⟩
    · rw [hA_parts_of, hD_parts_of]; exact ⟨F_parts_of, PySem.W.mg_of X N a_parts_of, bdP_mk fun us hl => match us, hl with | [_], _ => rfl⟩
    · rw [hA_text_in, hD_text_in]; exact ⟨F_text_in, PySem.W.mg_of X N a_text_in, bdP_mk fun us hl => match us, hl with | [_], _ => rfl⟩
    · rw [hA_number_text, hD_number_text]; exact ⟨F_number_text, PySem.W.mg_of X N a_number_text, bdP_mk fun us hl => match us, hl with | [_], _ => rfl⟩
    · rw [hA_number_of, hD_number_of]; exact ⟨F_number_of, PySem.W.mg_of X N a_number_of, bdP_mk fun us hl => match us, hl with | [_], _ => rfl⟩
    · rw [hA__law_quill, hD__law_quill]; exact ⟨F__law_quill, PySem.W.mg_of X N a__law_quill, bdP_mk fun us hl => match us, hl with | [_], _ => rfl⟩
    · rw [hA__law_scratch, hD__law_scratch]; exact ⟨F__law_scratch, PySem.W.mg_of X N a__law_scratch, bdP_mk fun us hl => match us, hl with | [_, _], _ => rfl⟩
    · rw [hA__law_pick, hD__law_pick]; exact ⟨F__law_pick, PySem.W.mg_of X N a__law_pick, bdP_mk fun us hl => match us, hl with | [_, _], _ => rfl⟩
    · rw [hA__law_low, hD__law_low]; exact ⟨F__law_low, PySem.W.mg_of X N a__law_low, bdP_mk fun us hl => match us, hl with | [_, _], _ => rfl⟩
    · rw [hA__law_told, hD__law_told]; exact ⟨F__law_told, PySem.W.mg_of X N a__law_told, bdP_mk fun us hl => match us, hl with | [_], _ => rfl⟩
    · rw [hA__law_integer, hD__law_integer]; exact ⟨F__law_integer, PySem.W.mg_of X N a__law_integer, bdP_mk fun us hl => match us, hl with | [_], _ => rfl⟩
    · rw [hA__law_read, hD__law_read]; exact ⟨F__law_read, PySem.W.mg_of X N a__law_read, bdP_mk fun us hl => match us, hl with | [_], _ => rfl⟩
    · rw [hA__law_number, hD__law_number]; exact ⟨F__law_number, PySem.W.mg_of X N a__law_number, bdP_mk fun us hl => match us, hl with | [_], _ => rfl⟩
    · rw [hA__law_bent, hD__law_bent]; exact ⟨F__law_bent, PySem.W.mg_of X N a__law_bent, bdP_mk fun us hl => match us, hl with | [_, _], _ => rfl⟩
    · rw [hA__law_heard, hD__law_heard]; exact ⟨F__law_heard, PySem.W.mg_of X N a__law_heard, bdP_mk fun us hl => match us, hl with | [_], _ => rfl⟩
    · rw [hA_law, hD_law]; exact ⟨F_law, PySem.W.mg_of X N a_law, bdP_mk fun us hl => match us, hl with | [_], _ => rfl⟩
    · rw [hD_number_text]; exact bdK_mk F_number_text (ps := ["value"]) (n := 0) (ks := ["value"]) (src := [.kw 0]) fun us ws r h1 h2 h3 => match us, ws, h1, h2, h3 with | [], [_], _, _, h3 => by cases h3; rfl
    · rw [hD_number_of]; exact bdK_mk F_number_of (ps := ["text"]) (n := 0) (ks := ["text"]) (src := [.kw 0]) fun us ws r h1 h2 h3 => match us, ws, h1, h2, h3 with | [], [_], _, _, h3 => by cases h3; rfl
  have hc_LaneError : cl 0 = C_LaneError := by rw [hcl]; rfl
  have hc_BadNumber : cl 1 = C_BadNumber := by rw [hcl]; rfl
  have hc_BadText : cl 2 = C_BadText := by rw [hcl]; rfl
  have TBk : TabOk ⟨K, mg, cl, tabsL K ["law"], fn⟩ tabL := tabX_ok (by show tabB K cl _ _ _ _ = true; rw [hcl]; exact tb)
  have X_BadNumber := xcf_mk (G := ⟨K, mg, cl, tabsL K ["law"], fn⟩) (P := l.prog) (c := 1) (x := "BadNumber") xs_BadNumber hc_BadNumber (PySem.W.mg_of X N aC_BadNumber) lC_BadNumber rv_BadNumber xb_BadNumber lI_BadNumber cI_BadNumber lcd_BadNumber v2_BadNumber pf_BadNumber lcc_BadNumber su tp oq
  have X_BadText := xcf_mk (G := ⟨K, mg, cl, tabsL K ["law"], fn⟩) (P := l.prog) (c := 2) (x := "BadText") xs_BadText hc_BadText (PySem.W.mg_of X N aC_BadText) lC_BadText rv_BadText xb_BadText lI_BadText cI_BadText lcd_BadText v2_BadText pf_BadText lcc_BadText su tp oq
  obtain ⟨fdd, hfd⟩ : ∃ fdd : Nat → FuncData, fdd = fun c => [(PySem.W.ksFn "__init__" "BadNumber.__init__" (defArgs s_BadNumber) (defBody s_BadNumber) (defScope s_BadNumber) .none kV_BadNumber dc_BadNumber pm_BadNumber an_BadNumber (.ref cda_BadNumber) ct_BadNumber cc_BadNumber), (PySem.W.ksFn "__init__" "BadNumber.__init__" (defArgs s_BadNumber) (defBody s_BadNumber) (defScope s_BadNumber) .none kV_BadNumber dc_BadNumber pm_BadNumber an_BadNumber (.ref cda_BadNumber) ct_BadNumber cc_BadNumber), (PySem.W.ksFn "__init__" "BadText.__init__" (defArgs s_BadText) (defBody s_BadText) (defScope s_BadText) .none kV_BadText dc_BadText pm_BadText an_BadText (.ref cda_BadText) ct_BadText cc_BadText)].getD c (PySem.W.ksFn "__init__" "BadNumber.__init__" (defArgs s_BadNumber) (defBody s_BadNumber) (defScope s_BadNumber) .none kV_BadNumber dc_BadNumber pm_BadNumber an_BadNumber (.ref cda_BadNumber) ct_BadNumber cc_BadNumber) := ⟨_, rfl⟩
  have hi_BadNumber : fi 1 = fi_BadNumber := by rw [hfi]; rfl
  have hf_BadNumber : fdd 1 = (PySem.W.ksFn "__init__" "BadNumber.__init__" (defArgs s_BadNumber) (defBody s_BadNumber) (defScope s_BadNumber) .none kV_BadNumber dc_BadNumber pm_BadNumber an_BadNumber (.ref cda_BadNumber) ct_BadNumber cc_BadNumber) := by rw [hfd]; rfl
  have hi_BadText : fi 2 = fi_BadText := by rw [hfi]; rfl
  have hf_BadText : fdd 2 = (PySem.W.ksFn "__init__" "BadText.__init__" (defArgs s_BadText) (defBody s_BadText) (defScope s_BadText) .none kV_BadText dc_BadText pm_BadText an_BadText (.ref cda_BadText) ct_BadText cc_BadText) := by rw [hfd]; rfl
  clear hfd hfi
  have CL : Cl ⟨K, mg, cl, tabsL K ["law"], fn⟩ l.prog fi fdd := by
    constructor
    · show mg _ = some (.ref (cl 0)); rw [hc_LaneError]; exact PySem.W.mg_of X N aC_LaneError
    · show mg _ = some (.ref (cl 2)); rw [hc_BadText]; exact PySem.W.mg_of X N aC_BadText
    · show mg _ = some (.ref (cl 1)); rw [hc_BadNumber]; exact PySem.W.mg_of X N aC_BadNumber
    · rw [hi_BadNumber, hf_BadNumber]; exact X_BadNumber
    · rw [hf_BadNumber]; exact bdX_mk fun self us ws r h1 h2 h3 => match us, ws, h1, h2, h3 with | [_], [], _, _, h3 => by cases h3; rfl
    · rw [hi_BadText, hf_BadText]; exact X_BadText
    · rw [hf_BadText]; exact bdX_mk fun self us ws r h1 h2 h3 => match us, ws, h1, h2, h3 with | [_, _], [], _, _, h3 => by cases h3; rfl
    · exact exB_ok (by show exB K cl _ _ _ = true; rw [hcl]; exact eb_LaneError)
    · exact xaB_ok (by show xaB K cl _ _ = true; rw [hcl]; exact ab_line)
    · exact xaB_ok (by show xaB K cl _ _ = true; rw [hcl]; exact ab_item)
    · exact xaB_ok (by show xaB K cl _ _ = true; rw [hcl]; exact ab_part)
  refine ⟨cl, fn, (PySem.W.fnOf "law" "law" (defArgs s_law) (defBody s_law) (defScope s_law) .none kV_law dc_law pm_law an_law cd_law ct_law), fun s v => .of_eq rfl, fun base _ _ htb => ?_⟩
  have TLF : TlF ⟨K, mg, cl, tabsL K ["law"], fn⟩ base fD := by
    constructor
    · rw [hD_law]; exact tabL_mk rfl hxb (by simp) a_law l_law htb
  have G_is_integer := gf_is_integer (P := l.prog) (w := w) (base := base) T TBk CL TF TLF
  have G_is_within := gf_is_within (P := l.prog) (w := w) (base := base) T TBk CL TF TLF G_is_integer
  have G_common := gf_common (P := l.prog) (w := w) (base := base) T TBk CL TF TLF
  have G_is_number := gf_is_number (P := l.prog) (w := w) (base := base) T TBk CL TF TLF G_is_integer G_is_within G_common
  have G_kept := gf_kept (P := l.prog) (w := w) (base := base) T TBk CL TF TLF
  have G_need_number := gf_need_number (P := l.prog) (w := w) (base := base) T TBk CL TF TLF G_is_number G_kept
  have G_figures_in := gf_figures_in (P := l.prog) (w := w) (base := base) T TBk CL TF TLF
  have G_written := gf_written (P := l.prog) (w := w) (base := base) T TBk CL TF TLF G_figures_in G_is_number
  have G_parts_of := gf_parts_of (P := l.prog) (w := w) (base := base) T TBk CL TF TLF
  have G_text_in := gf_text_in (P := l.prog) (w := w) (base := base) T TBk CL TF TLF G_parts_of
  have G_number_text := gf_number_text (P := l.prog) (w := w) (base := base) T TBk CL TF TLF G_text_in G_need_number
  have G_number_of := gf_number_of (P := l.prog) (w := w) (base := base) T TBk CL TF TLF G_written G_is_number
  have G__law_quill := gf__law_quill (P := l.prog) (w := w) (base := base) T TBk CL TF TLF
  have G__law_scratch := gf__law_scratch (P := l.prog) (w := w) (base := base) T TBk CL TF TLF
  have G__law_pick := gf__law_pick (P := l.prog) (w := w) (base := base) T TBk CL TF TLF G__law_scratch
  have G__law_low := gf__law_low (P := l.prog) (w := w) (base := base) T TBk CL TF TLF
  have G__law_told := gf__law_told (P := l.prog) (w := w) (base := base) T TBk CL TF TLF G__law_low
  have G__law_integer := gf__law_integer (P := l.prog) (w := w) (base := base) T TBk CL TF TLF
  have G__law_read := gf__law_read (P := l.prog) (w := w) (base := base) T TBk CL TF TLF G__law_integer G__law_low
  have G__law_number := gf__law_number (P := l.prog) (w := w) (base := base) T TBk CL TF TLF G__law_pick G__law_low G__law_scratch
  have G__law_bent := gf__law_bent (P := l.prog) (w := w) (base := base) T TBk CL TF TLF G__law_scratch G__law_pick
  have G_law := gf_law (P := l.prog) (w := w) (base := base) T TBk CL TF TLF G__law_quill G__law_number G__law_told G_number_text G_number_of G__law_bent G__law_read G__law_scratch G__law_pick
  rw [hA_law, hD_law] at G_law
  exact G_law
end Z

set_option pp.maxSteps 100
set_option pp.deepTerms false
set_option Elab.async false
set_option maxRecDepth 100000
set_option maxHeartbeats 4000000
open PySem PySem.W PyProof.Rows
set_option maxRecDepth 100000 in
set_option maxHeartbeats 0 in
theorem PySem.Challenge.cw_lanecross_k04_numbers_written_and_read_holds : PySem.Challenge.rw_lanecross_k04_numbers_written_and_read.Holds := by
  w_on; o_law; k_head; (case hw => w_witness2)
  k_fill
  refine Z.walk_G (l := PySem.Challenge.rw_lanecross_k04_numbers_written_and_read) (n := 63) (k := 8) (x := "script") (mf := Z.m_law) ["law"] rfl (by decide) rfl ⟨rfl, by decide, by decide⟩ (fun w h Y => by first | exact PySem.W.km_in_of Y | exact PySem.W.kIn_of Y) (fun w => by kernel_rfl) ?F Z.law_holds
  case F =>
    intro w mg fa h KX G hmg hxb
    refine' Z.all_mk (l := PySem.Challenge.rw_lanecross_k04_numbers_written_and_read) KX G hmg hxb ?a_is_integer ?l_is_integer ?c_is_integer ?k_is_integer ?a_is_within ?l_is_within ?c_is_within ?k_is_within ?a_common ?l_common ?c_common ?k_common ?a_is_number ?l_is_number ?c_is_number ?k_is_number ?a_kept ?l_kept ?c_kept ?k_kept ?a_need_number ?l_need_number ?c_need_number ?k_need_number ?a_figures_in ?l_figures_in ?c_figures_in ?k_figures_in ?a_written ?l_written ?c_written ?k_written ?a_parts_of ?l_parts_of ?c_parts_of ?k_parts_of ?a_text_in ?l_text_in ?c_text_in ?k_text_in ?a_number_text ?l_number_text ?c_number_text ?k_number_text ?a_number_of ?l_number_of ?c_number_of ?k_number_of ?a__law_quill ?l__law_quill ?c__law_quill ?k__law_quill ?a__law_scratch ?l__law_scratch ?c__law_scratch ?k__law_scratch ?a__law_pick ?l__law_pick ?c__law_pick ?k__law_pick ?a__law_low ?l__law_low ?c__law_low ?k__law_low ?a__law_told ?l__law_told ?c__law_told ?k__law_told ?a__law_integer ?l__law_integer ?c__law_integer ?k__law_integer ?a__law_read ?l__law_read ?c__law_read ?k__law_read ?a__law_number ?l__law_number ?c__law_number ?k__law_number ?a__law_bent ?l__law_bent ?c__law_bent ?k__law_bent ?a__law_heard ?l__law_heard ?c__law_heard ?k__law_heard ?a_law ?l_law ?c_law ?k_law ?z_abs ?z_all ?z_bool ?z_int ?z_isinstance ?z_len ?z_list ?z_min ?z_range ?z_repr ?z_str ?z_tuple ?vk_MOST_FIGURES ?vk_FIGURES ?vk_BAR ?aC_LaneError ?aC_BadNumber ?aC_BadText ?lC_BadNumber ?rv_BadNumber ?fi_is_BadNumber ?xb_BadNumber ?lI_BadNumber ?cI_BadNumber ?lcd_BadNumber ?v2_BadNumber ?pf_BadNumber ?lcc_BadNumber ?lC_BadText ?rv_BadText ?fi_is_BadText ?xb_BadText ?lI_BadText ?cI_BadText ?lcd_BadText ?v2_BadText ?pf_BadText ?lcc_BadText ?su ?tp ?oq ?tb ?eb_LaneError ?ab_line ?ab_item ?ab_part
    (case a_is_integer => k_is)
    (case l_is_integer => k_is)
    (case c_is_integer => k_is)
    (case k_is_integer => k_is)
    (case a_is_within => k_is)
    (case l_is_within => k_is)
    (case c_is_within => k_is)
    (case k_is_within => k_is)
    (case a_common => k_is)
    (case l_common => k_is)
    (case c_common => k_is)
    (case k_common => k_is)
    (case a_is_number => k_is)
    (case l_is_number => k_is)
    (case c_is_number => k_is)
    (case k_is_number => k_is)
    (case a_kept => k_is)
    (case l_kept => k_is)
    (case c_kept => k_is)
    (case k_kept => k_is)
    (case a_need_number => k_is)
    (case l_need_number => k_is)
    (case c_need_number => k_is)
    (case k_need_number => k_is)
    (case a_figures_in => k_is)
    (case l_figures_in => k_is)
    (case c_figures_in => k_is)
    (case k_figures_in => k_is)
    (case a_written => k_is)
    (case l_written => k_is)
    (case c_written => k_is)
    (case k_written => k_is)
    (case a_parts_of => k_is)
    (case l_parts_of => k_is)
    (case c_parts_of => k_is)
    (case k_parts_of => k_is)
    (case a_text_in => k_is)
    (case l_text_in => k_is)
    (case c_text_in => k_is)
    (case k_text_in => k_is)
    (case a_number_text => k_is)
    (case l_number_text => k_is)
    (case c_number_text => k_is)
    (case k_number_text => k_is)
    (case a_number_of => k_is)
    (case l_number_of => k_is)
    (case c_number_of => k_is)
    (case k_number_of => k_is)
    (case a__law_quill => k_is)
    (case l__law_quill => k_is)
    (case c__law_quill => k_is)
    (case k__law_quill => k_is)
    (case a__law_scratch => k_is)
    (case l__law_scratch => k_is)
    (case c__law_scratch => k_is)
    (case k__law_scratch => k_is)
    (case a__law_pick => k_is)
    (case l__law_pick => k_is)
    (case c__law_pick => k_is)
    (case k__law_pick => k_is)
    (case a__law_low => k_is)
    (case l__law_low => k_is)
    (case c__law_low => k_is)
    (case k__law_low => k_is)
    (case a__law_told => k_is)
    (case l__law_told => k_is)
    (case c__law_told => k_is)
    (case k__law_told => k_is)
    (case a__law_integer => k_is)
    (case l__law_integer => k_is)
    (case c__law_integer => k_is)
    (case k__law_integer => k_is)
    (case a__law_read => k_is)
    (case l__law_read => k_is)
    (case c__law_read => k_is)
    (case k__law_read => k_is)
    (case a__law_number => k_is)
    (case l__law_number => k_is)
    (case c__law_number => k_is)
    (case k__law_number => k_is)
    (case a__law_bent => k_is)
    (case l__law_bent => k_is)
    (case c__law_bent => k_is)
    (case k__law_bent => k_is)
    (case a__law_heard => k_is)
    (case l__law_heard => k_is)
    (case c__law_heard => k_is)
    (case k__law_heard => k_is)
    (case a_law => k_is)
    (case l_law => k_is)
    (case c_law => k_is)
    (case k_law => k_is)
    (case z_abs => k_is)
    (case z_all => k_is)
    (case z_bool => k_is)
    (case z_int => k_is)
    (case z_isinstance => k_is)
    (case z_len => k_is)
    (case z_list => k_is)
    (case z_min => k_is)
    (case z_range => k_is)
    (case z_repr => k_is)
    (case z_str => k_is)
    (case z_tuple => k_is)
    (case vk_MOST_FIGURES => k_is)
    (case vk_FIGURES => k_is)
    (case vk_BAR => k_is)
    (case aC_LaneError => k_is)
    (case aC_BadNumber => k_is)
    (case aC_BadText => k_is)
    (case lC_BadNumber => k_is)
    (case rv_BadNumber => kernel_rfl)
    (case fi_is_BadNumber => k_is)
    (case xb_BadNumber => kernel_rfl)
    (case lI_BadNumber => k_is)
    (case cI_BadNumber => k_is)
    (case lcd_BadNumber => k_is)
    (case v2_BadNumber => exact rfl)
    (case pf_BadNumber => kernel_rfl)
    (case lcc_BadNumber => k_is)
    (case lC_BadText => k_is)
    (case rv_BadText => kernel_rfl)
    (case fi_is_BadText => k_is)
    (case xb_BadText => kernel_rfl)
    (case lI_BadText => k_is)
    (case cI_BadText => k_is)
    (case lcd_BadText => k_is)
    (case v2_BadText => exact rfl)
    (case pf_BadText => kernel_rfl)
    (case lcc_BadText => k_is)
    (case su => k_is)
    (case tp => kernel_rfl)
    (case oq => k_is)
    (case tb => kernel_rfl)
    (case eb_LaneError => kernel_rfl)
    (case ab_line => kernel_rfl)
    (case ab_item => kernel_rfl)
    (case ab_part => kernel_rfl)

