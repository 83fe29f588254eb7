import PyProof.Rows.All
import Wide.All
import OpenK.AllK
import Wide.FinOn
import HandS.ForMost
import HandS.ForExc
import HandS.IsInst
import HandS.Wide
import HandS.Flow
import HandS.Style
import HandS.TupAny
import HandS.Comp
import HandS.Text
import PyProof.ReprRoads
import PySem.Challenge.RW_lanecross_k02_integers_numbers_spots_jud
set_option Elab.async false
set_option linter.all false
set_option maxRecDepth 100000
set_option maxHeartbeats 2000000
set_option autoImplicit false
namespace Z
open PySem PySem.Spec L2

/-! ## data, store, results -/
inductive D where
  | non
  | bl (b : Bool)
  | int (i : Int)
  | str (x : Str)
  | ty (n : String)
  | cls (c : Nat)
  | tup (l : List D)
  | lst (l : List D)
  | kst (l : List D)
  | dct (ks : List Key) (vs : List D)
  | ins (c : Nat) (ks : List Str) (vs : List D)
  | loc (n : Nat)

inductive Ent where
  | lst (l : List D)
  | dct (ks : List Key) (vs : List D)
  | ins (c : Nat) (ks : List Str) (vs : List D)
  | dead

abbrev Store := List Ent

inductive Res (α : Type) where
  | ok (a : α) (S : Store)
  | ex (c : Nat) (ks : List Str) (vs : List D) (S : Store)
  | bad

def Res.bind {α β : Type} (r : Res α) (f : α → Store → Res β) : Res β :=
  match r with
  | .ok a S => f a S
  | .ex c ks vs S => .ex c ks vs S
  | .bad => .bad
@[simp] theorem bind_ok {α β : Type} (a : α) (S : Store) (f : α → Store → Res β) : (Res.ok a S).bind f = f a S := rfl
@[simp] theorem bind_ex {α β : Type} (c : Nat) (ks : List Str) (vs : List D) (S : Store) (f : α → Store → Res β) : (Res.ex (α := α) c ks vs S).bind f = .ex c ks vs S := rfl
@[simp] theorem bind_bad {α β : Type} (f : α → Store → Res β) : (Res.bad (α := α)).bind f = .bad := rfl

/-- a def's locals -/
abbrev Env' := List (Option D)
/-- a statement's result -/
inductive SR where
  | nx (ρ : Env') (S : Store)
  | rt (d : D) (S : Store)
  | bk (ρ : Env') (S : Store)
  | ct (ρ : Env') (S : Store)
  | ex (ρ : Env') (c : Nat) (ks : List Str) (vs : List D) (S : Store)
  | bad

/-! ## what they stand for -/
structure Gm where
  K : PySem.W.Frag
  mg : Str → Option Value
  cls : Nat → Addr

/-- a tuple: tracked, or of the module -/
def TupF (K : PySem.W.Frag) (F : Hp) (a : Addr) (xs : List V) : Prop := F a = some (.tup xs) ∨
  ∃ (o : Obj) (its : Array Value) (n : Nat), K.lookup a = some o ∧ o.cls = .type "tuple" ∧ o.data = .seq its n ∧ its.size ≤ sizeLine ∧ Vals xs its.toList
theorem TupF.of {K : PySem.W.Frag} {F : Hp} {a : Addr} {xs : List V} (h : F a = some (.tup xs)) : TupF K F a xs := .inl h
mutual
inductive Rep (G : Gm) (F : Hp) (μ : List Addr) : D → V → Prop
  | non : Rep G F μ .non .non
  | bl (b : Bool) : Rep G F μ (.bl b) (.bl b)
  | int (i : Int) : Rep G F μ (.int i) (.int i)
  | str (x : Str) : Rep G F μ (.str x) (.str x)
  | ty (n : String) : Rep G F μ (.ty n) (.ty n)
  | cls (c : Nat) : Rep G F μ (.cls c) (.ref (G.cls c))
  | tup {a : Addr} {l : List D} {xs : List V} : TupF G.K F a xs → Reps G F μ l xs → Rep G F μ (.tup l) (.ref a)
  | lst {a : Addr} {l : List D} {xs : List V} : F a = some (.lst xs) → Reps G F μ l xs → Rep G F μ (.lst l) (.ref a)
  | kst {a : Addr} {l : List D} {xs : List V} : SqL G.K F a xs → Reps G F μ l xs → Rep G F μ (.kst l) (.ref a)
  | dct {a : Addr} {ks : List Key} {vs : List D} {xs : List V} : F a = some (.dK (ks.zip xs)) → ks.length = vs.length → Reps G F μ vs xs → Rep G F μ (.dct ks vs) (.ref a)
  | ins {a dx : Addr} {c : Nat} {ks : List Str} {vs : List D} {xs : List V} : F a = some (.ins (G.cls c) dx (ks.zip xs)) → ks.length = vs.length → Reps G F μ vs xs → Rep G F μ (.ins c ks vs) (.ref a)
  | loc {n : Nat} {a : Addr} : μ[n]? = some a → Rep G F μ (.loc n) (.ref a)
inductive Reps (G : Gm) (F : Hp) (μ : List Addr) : List D → List V → Prop
  | nil : Reps G F μ [] []
  | cons {d : D} {v : V} {ds : List D} {vs : List V} : Rep G F μ d v → Reps G F μ ds vs → Reps G F μ (d :: ds) (v :: vs)
end

theorem same_sqL {K : PySem.W.Frag} {H H' : Hp} {a : Addr} {xs : List V} (e : Same H H') (h : SqL K H a xs) : SqL K H' a xs := e.seq h
theorem same_tupF {K : PySem.W.Frag} {H H' : Hp} {a : Addr} {xs : List V} (e : Same H H') (h : TupF K H a xs) : TupF K H' a xs := by
  rcases h with h | h
  · exact .inl (e _ _ h)
  · exact .inr h
theorem same_sqT {K : PySem.W.Frag} {H H' : Hp} {a : Addr} {xs : List V} (e : Same H H') (h : TupF K H a xs) : SqT K H' a xs := by
  rcases h with h | h
  · exact .inl (.inl (e _ _ h))
  · exact .inr h

structure Ext (F : Hp) (μ : List Addr) (F' : Hp) (μ' : List Addr) : Prop where
  fz : Same F F'
  mu : ∀ (i : Nat) (a : Addr), μ[i]? = some a → μ'[i]? = some a
theorem Ext.refl (F : Hp) (μ : List Addr) : Ext F μ F μ := ⟨fun _ _ h => h, fun (_ : Nat) (_ : Addr) h => h⟩
theorem Ext.trans {F1 F2 F3 : Hp} {m1 m2 m3 : List Addr} (a : Ext F1 m1 F2 m2) (b : Ext F2 m2 F3 m3) : Ext F1 m1 F3 m3 :=
  ⟨fun c o h => b.fz c o (a.fz c o h), fun i c h => b.mu i c (a.mu i c h)⟩

mutual
theorem Rep.mono {G : Gm} {F F' : Hp} {μ μ' : List Addr} (x : Ext F μ F' μ') {d : D} {v : V} : Rep G F μ d v → Rep G F' μ' d v
  | .non => .non
  | .bl b => .bl b
  | .int i => .int i
  | .str s => .str s
  | .ty n => .ty n
  | .cls c => .cls c
  | .tup h r => .tup (same_tupF x.fz h) (Reps.mono x r)
  | .lst h r => .lst (x.fz _ _ h) (Reps.mono x r)
  | .kst h r => .kst (same_sqL x.fz h) (Reps.mono x r)
  | .dct h l r => .dct (x.fz _ _ h) l (Reps.mono x r)
  | .ins h l r => .ins (x.fz _ _ h) l (Reps.mono x r)
  | .loc h => .loc (x.mu _ _ h)
theorem Reps.mono {G : Gm} {F F' : Hp} {μ μ' : List Addr} (x : Ext F μ F' μ') {ds : List D} {vs : List V} : Reps G F μ ds vs → Reps G F' μ' ds vs
  | .nil => .nil
  | .cons a b => .cons (Rep.mono x a) (Reps.mono x b)
end

theorem Reps.length {G : Gm} {F : Hp} {μ : List Addr} : ∀ {ds : List D} {vs : List V}, Reps G F μ ds vs → ds.length = vs.length
  | _, _, .nil => rfl
  | _, _, .cons _ b => congrArg (· + 1) b.length
theorem Reps.get {G : Gm} {F : Hp} {μ : List Addr} : ∀ {ds : List D} {vs : List V} {i : Nat} {d : D}, Reps G F μ ds vs → ds[i]? = some d → ∃ v, vs[i]? = some v ∧ Rep G F μ d v
  | _, _, 0, _, .cons a _, h => ⟨_, rfl, by simp at h; subst h; exact a⟩
  | _, _, i + 1, _, .cons _ b, h => by
    obtain ⟨v, h1, h2⟩ := Reps.get (i := i) b (by simpa using h)
    exact ⟨v, by simpa using h1, h2⟩
theorem Reps.getV {G : Gm} {F : Hp} {μ : List Addr} : ∀ {ds : List D} {vs : List V} {i : Nat} {v : V}, Reps G F μ ds vs → vs[i]? = some v → ∃ d, ds[i]? = some d ∧ Rep G F μ d v
  | _, _, 0, _, .cons a _, h => ⟨_, rfl, by simp at h; subst h; exact a⟩
  | _, _, i + 1, _, .cons _ b, h => by
    obtain ⟨v, h1, h2⟩ := Reps.getV (i := i) b (by simpa using h)
    exact ⟨v, by simpa using h1, h2⟩
theorem Reps.app {G : Gm} {F : Hp} {μ : List Addr} : ∀ {ds es : List D} {vs ws : List V}, Reps G F μ ds vs → Reps G F μ es ws → Reps G F μ (ds ++ es) (vs ++ ws)
  | _, _, _, _, .nil, b => b
  | _, _, _, _, .cons a c, b => .cons a (c.app b)
theorem Reps.set {G : Gm} {F : Hp} {μ : List Addr} {d : D} {v : V} (r : Rep G F μ d v) : ∀ {ds : List D} {vs : List V} (i : Nat), Reps G F μ ds vs → Reps G F μ (ds.set i d) (vs.set i v)
  | _, _, _, .nil => .nil
  | _, _, 0, .cons _ b => .cons r b
  | _, _, i + 1, .cons a b => .cons a (Reps.set r i b)
theorem Reps.take {G : Gm} {F : Hp} {μ : List Addr} : ∀ {ds : List D} {vs : List V} (n : Nat), Reps G F μ ds vs → Reps G F μ (ds.take n) (vs.take n)
  | _, _, 0, _ => .nil
  | _, _, _ + 1, .nil => .nil
  | _, _, n + 1, .cons a b => .cons a (Reps.take n b)
theorem Reps.drop {G : Gm} {F : Hp} {μ : List Addr} : ∀ {ds : List D} {vs : List V} (n : Nat), Reps G F μ ds vs → Reps G F μ (ds.drop n) (vs.drop n)
  | _, _, 0, r => r
  | _, _, _ + 1, .nil => .nil
  | _, _, n + 1, .cons _ b => Reps.drop n b
theorem Reps.rev {G : Gm} {F : Hp} {μ : List Addr} : ∀ {ds : List D} {vs : List V}, Reps G F μ ds vs → Reps G F μ ds.reverse vs.reverse
  | _, _, .nil => .nil
  | _, _, .cons a b => by
    rw [List.reverse_cons, List.reverse_cons]
    exact (b.rev).app (.cons a .nil)
theorem Reps.eraseIdx {G : Gm} {F : Hp} {μ : List Addr} : ∀ {ds : List D} {vs : List V} (n : Nat), Reps G F μ ds vs → Reps G F μ (ds.eraseIdx n) (vs.eraseIdx n)
  | _, _, _, .nil => .nil
  | _, _, 0, .cons _ b => b
  | _, _, n + 1, .cons a b => .cons a (Reps.eraseIdx n b)

/-- what stands at a live place -/
inductive EntOk (G : Gm) (F : Hp) (μ : List Addr) (H : Hp) (a : Addr) : Ent → Prop
  | dead : EntOk G F μ H a .dead
  | lst {l : List D} {xs : List V} : F a = none → H a = some (.lst xs) → Reps G F μ l xs → EntOk G F μ H a (.lst l)
  | dct {ks : List Key} {vs : List D} {xs : List V} : F a = none → H a = some (.dK (ks.zip xs)) → ks.length = vs.length → Reps G F μ vs xs → EntOk G F μ H a (.dct ks vs)
  | ins {c : Nat} {ks : List Str} {vs : List D} {dx : Addr} {xs : List V} : F a = none → H a = some (.ins (G.cls c) dx (ks.zip xs)) → ks.length = vs.length → Reps G F μ vs xs → EntOk G F μ H a (.ins c ks vs)

structure Rel (G : Gm) (F : Hp) (μ : List Addr) (S : Store) (H : Hp) : Prop where
  sub : Same F H
  len : μ.length = S.length
  inj : ∀ (i j : Nat) (a : Addr), μ[i]? = some a → μ[j]? = some a → i = j
  ent : ∀ (i : Nat) (a : Addr) (e : Ent), μ[i]? = some a → S[i]? = some e → EntOk G F μ H a e
  trk : ∀ (i : Nat) (a : Addr), μ[i]? = some a → ∃ o, H a = some o

structure EnvR (G : Gm) (F : Hp) (μ : List Addr) (ρ : Env') (σ : St) : Prop where
  len : ρ.length = σ.length
  get : ∀ (i : Nat) (d : D), ρ[i]? = some (some d) → ∃ v, σ[i]? = some (some v) ∧ Rep G F μ d v

theorem EnvR.mono {G : Gm} {F F' : Hp} {μ μ' : List Addr} {ρ : Env'} {σ : St} (h : EnvR G F μ ρ σ) (x : Ext F μ F' μ') : EnvR G F' μ' ρ σ :=
  ⟨h.len, fun i d e => let ⟨v, a, b⟩ := h.get i d e; ⟨v, a, b.mono x⟩⟩
theorem EnvR.set {G : Gm} {F : Hp} {μ : List Addr} {ρ : Env'} {σ : St} (h : EnvR G F μ ρ σ) {d : D} {v : V} (i : Nat) (r : Rep G F μ d v) : EnvR G F μ (ρ.set i (some d)) (σ.set i (some v)) := by
  refine ⟨by simp [h.len], fun j e hj => ?_⟩
  by_cases hij : i = j
  · subst hij
    by_cases hl : i < ρ.length
    · rw [List.getElem?_set_self hl] at hj
      cases hj
      exact ⟨v, List.getElem?_set_self (by rw [← h.len]; exact hl), r⟩
    · rw [List.getElem?_eq_none (by simp; omega)] at hj
      cases hj
  · rw [List.getElem?_set_ne hij] at hj
    rw [List.getElem?_set_ne hij]
    exact h.get j e hj
/-- a slot told otherwise, of the same value -/
theorem EnvR.tell {G : Gm} {F : Hp} {μ : List Addr} {ρ : Env'} {σ : St} (h : EnvR G F μ ρ σ) {d : D} {v : V} (i : Nat) (hs : σ[i]? = some (some v)) (r : Rep G F μ d v) : EnvR G F μ (ρ.set i (some d)) σ := by
  refine ⟨by simp [h.len], fun j e hj => ?_⟩
  by_cases hij : i = j
  · subst hij
    by_cases hl : i < ρ.length
    · rw [List.getElem?_set_self hl] at hj
      cases hj
      exact ⟨v, hs, r⟩
    · rw [List.getElem?_eq_none (by simp; omega)] at hj
      cases hj
  · rw [List.getElem?_set_ne hij] at hj
    exact h.get j e hj

/-! ## what is wanted behind -/
abbrev RR (α β : Type) := Hp → List Addr → α → β → Prop
def rB : RR Bool Bool := fun _ _ a b => a = b
def Post {α β : Type} (G : Gm) (W : WX) (R : RR α β) (F : Hp) (μ : List Addr) (σ : St) (Q : β → Hp → Prop) : Res α → Prop
  | .ok d S => ∀ F' μ' v H', Ext F μ F' μ' → Rel G F' μ' S H' → R F' μ' d v → Q v H'
  | .ex c ks vs S => ∀ F' μ' dx xs H', Ext F μ F' μ' → Rel G F' μ' S H' → F' dx = some (.xd (ks.zip xs)) → ks.length = vs.length → Reps G F' μ' vs xs → W (.ref (G.cls c)) (some dx) σ H'
  | .bad => False
theorem Post.mono {α β : Type} {G : Gm} {W : WX} {R : RR α β} {F F1 : Hp} {μ μ1 : List Addr} {σ : St} {Q : β → Hp → Prop} {r : Res α} (h : Post G W R F μ σ Q r) (x : Ext F μ F1 μ1) : Post G W R F1 μ1 σ Q r := by
  cases r with
  | ok d S => exact fun F' μ' v H' e a b => h F' μ' v H' (x.trans e) a b
  | ex c ks vs S => exact fun F' μ' dx xs H' e a b l r => h F' μ' dx xs H' (x.trans e) a b l r
  | bad => exact h
/-- one after another -/
theorem Post.bind {α β α' β' : Type} {G : Gm} {W : WX} {R : RR α β} {R' : RR α' β'} {F : Hp} {μ : List Addr} {σ : St} {Q : β' → Hp → Prop} {Q1 : β → Hp → Prop} {r : Res α} {f : α → Store → Res α'}
    (h : Post G W R' F μ σ Q (r.bind f))
    (k : ∀ d S F' μ' v H', Ext F μ F' μ' → Rel G F' μ' S H' → R F' μ' d v → Post G W R' F' μ' σ Q (f d S) → Q1 v H') : Post G W R F μ σ Q1 r := by
  cases r with
  | ok d S => exact fun F' μ' v H' e a b => k d S F' μ' v H' e a b (Post.mono (show Post G W R' F μ σ Q (f d S) from h) e)
  | ex c ks vs S => exact h
  | bad => exact h

/-! ## expressions -/
def ImpE {α β : Type} (G : Gm) (W : WX) (R : RR α β) (t : St → Hp → (β → Hp → Prop) → Prop) (m : Env' → Store → Res α) : Prop :=
  ∀ ρ S σ H F μ Q, EnvR G F μ ρ σ → Rel G F μ S H → Post G W R F μ σ Q (m ρ S) → t σ H Q
abbrev ME := Env' → Store → Res D
abbrev MB := Env' → Store → Res Bool
abbrev ML := Env' → Store → Res (List D)
structure SE (G : Gm) (X : Cx) (W : WX) (e : Expr) (m : ME) : Prop where
  ex : ∃ t, PE X e t ∧ ImpE G W (Rep G) t m
structure ST (G : Gm) (X : Cx) (W : WX) (e : Expr) (m : MB) : Prop where
  ex : ∃ t, PT X e t ∧ ImpE G W rB t m
structure SW (G : Gm) (X : Cx) (W : WX) (e : Expr) (m : MB) : Prop where
  ex : ∃ t, PW X e t ∧ ImpE G W rB t m
structure SA (G : Gm) (X : Cx) (W : WX) (es : List Expr) (m : ML) : Prop where
  ex : ∃ t, PA X es t ∧ ImpE G W (Reps G) t m
/-- what every place within a def knows -/
structure Ok (G : Gm) (X : Cx) (k : Nat) (W : WX) : Prop where
  K : X.K = G.K
  mg : X.mg = G.mg
  calm : X.calm = true
  nd : X.N.Nodup
  room : Room k X.A
  gd : X.A.guards = some []
  tk : Takes X W
  po : PassesOwn (model X.prog X.w) X.A X.env X.xe

/-! ## how the heap goes on -/
section
variable {G : Gm} {F : Hp} {μ : List Addr} {S : Store} {H : Hp}
theorem Rel.fnone (r : Rel G F μ S H) {p : Addr} (h : H p = none) : F p = none := by
  cases e : F p with
  | none => rfl
  | some o =>
    have := r.sub p o e
    rw [h] at this
    cases this
theorem Rel.mune (r : Rel G F μ S H) {p a : Addr} {i : Nat} (h : H p = none) (e : μ[i]? = some a) : a ≠ p := fun z => by
  obtain ⟨o, q⟩ := r.trk i a e
  rw [z, h] at q
  cases q
theorem EntOk.stay {F' H' : Hp} {μ' : List Addr} {a : Addr} {e : Ent} (x : Ext F μ F' μ') (hf : F a = none → F' a = none) (hh : ∀ o, H a = some o → H' a = some o) : EntOk G F μ H a e → EntOk G F' μ' H' a e
  | .dead => .dead
  | .lst h1 h2 r => .lst (hf h1) (hh _ h2) (r.mono x)
  | .dct h1 h2 l r => .dct (hf h1) (hh _ h2) l (r.mono x)
  | .ins h1 h2 l r => .ins (hf h1) (hh _ h2) l (r.mono x)
theorem same_upd {F : Hp} {p : Addr} {o : HO} (h : F p = none) : Same F (upd F p o) := fun b u e => by
  rw [upd_ne (ne_of_none e h)]
  exact e
/-- a new object that will never change -/
theorem Rel.newF (r : Rel G F μ S H) {p : Addr} (o : HO) (h : H p = none) : Ext F μ (upd F p o) μ ∧ Rel G (upd F p o) μ S (upd H p o) := by
  have hF := r.fnone h
  have x : Ext F μ (upd F p o) μ := ⟨same_upd hF, fun i a z => z⟩
  refine ⟨x, fun b u e => ?_, r.len, r.inj, fun i a e h1 h2 => ?_, fun i a h1 => ?_⟩
  · by_cases hb : b = p
    · subst hb
      rw [upd_same] at e ⊢
      exact e
    · rw [upd_ne hb] at e ⊢
      exact r.sub b u e
  · have na := r.mune h h1
    exact (r.ent i a e h1 h2).stay x (fun z => by rw [upd_ne na]; exact z) fun o z => by rw [upd_ne na]; exact z
  · have na := r.mune h h1
    obtain ⟨u, q⟩ := r.trk i a h1
    exact ⟨u, by rw [upd_ne na]; exact q⟩
/-- something beside that nobody looks at -/
theorem Rel.beside (r : Rel G F μ S H) {p : Addr} (o : HO) (h : H p = none) : Rel G F μ S (upd H p o) := by
  refine ⟨fun b u e => ?_, r.len, r.inj, fun i a e h1 h2 => ?_, fun i a h1 => ?_⟩
  · rw [upd_ne (fun z => by rw [z, r.fnone h] at e; cases e)]
    exact r.sub b u e
  · have na := r.mune h h1
    exact (r.ent i a e h1 h2).stay (Ext.refl F μ) (fun z => z) fun o z => by rw [upd_ne na]; exact z
  · have na := r.mune h h1
    obtain ⟨u, q⟩ := r.trk i a h1
    exact ⟨u, by rw [upd_ne na]; exact q⟩
theorem ext_app (F : Hp) (μ : List Addr) (p : Addr) : Ext F μ F (μ ++ [p]) :=
  ⟨fun _ _ h => h, fun i a h => by rw [List.getElem?_append_left (List.getElem?_eq_some_iff.mp h).1]; exact h⟩
/-- a new object that may change -/
theorem Rel.newL (r : Rel G F μ S H) {p : Addr} {o : HO} {e : Ent} (h : H p = none) (he : EntOk G F (μ ++ [p]) (upd H p o) p e) : Rel G F (μ ++ [p]) (S ++ [e]) (upd H p o) := by
  have x := ext_app F μ p
  refine ⟨fun b u q => ?_, by simp [r.len], fun i j a h1 h2 => ?_, fun i a e' h1 h2 => ?_, fun i a h1 => ?_⟩
  · rw [upd_ne (fun z => by rw [z, r.fnone h] at q; cases q)]
    exact r.sub b u q
  · rw [List.getElem?_append] at h1 h2
    split at h1 <;> split at h2
    · exact r.inj i j a h1 h2
    · rename_i hi hj
      have : a = p := by
        obtain ⟨hl, q⟩ := List.getElem?_eq_some_iff.mp h2
        simpa using q.symm
      exact absurd this (r.mune h h1)
    · rename_i hi hj
      have : a = p := by
        obtain ⟨hl, q⟩ := List.getElem?_eq_some_iff.mp h1
        simpa using q.symm
      exact absurd this (r.mune h h2)
    · obtain ⟨hl, _⟩ := List.getElem?_eq_some_iff.mp h1
      obtain ⟨hl', _⟩ := List.getElem?_eq_some_iff.mp h2
      simp at hl hl'
      omega
  · by_cases hi : i < μ.length
    · rw [List.getElem?_append_left hi] at h1
      rw [List.getElem?_append_left (by rw [← r.len]; exact hi)] at h2
      have na := r.mune h h1
      exact (r.ent i a e' h1 h2).stay x (fun z => z) fun o z => by rw [upd_ne na]; exact z
    · rw [List.getElem?_append_right (by omega)] at h1
      rw [List.getElem?_append_right (by rw [← r.len]; omega)] at h2
      obtain ⟨hl, q⟩ := List.getElem?_eq_some_iff.mp h1
      obtain ⟨hl', q'⟩ := List.getElem?_eq_some_iff.mp h2
      have e1 : p = a := by simpa using q
      have e2 : e = e' := by simpa using q'
      subst e1
      subst e2
      exact he
  · by_cases hi : i < μ.length
    · rw [List.getElem?_append_left hi] at h1
      have na := r.mune h h1
      obtain ⟨u, q⟩ := r.trk i a h1
      exact ⟨u, by rw [upd_ne na]; exact q⟩
    · rw [List.getElem?_append_right (by omega)] at h1
      obtain ⟨hl, q⟩ := List.getElem?_eq_some_iff.mp h1
      have e1 : p = a := by simpa using q
      subst e1
      exact ⟨o, upd_same⟩
/-- a live object is written -/
theorem Rel.write (r : Rel G F μ S H) {n : Nat} {a : Addr} {o : HO} {e : Ent} (hm : μ[n]? = some a) (hf : F a = none) (he : EntOk G F μ (upd H a o) a e) : Rel G F μ (S.set n e) (upd H a o) := by
  refine ⟨fun b u q => ?_, by simp [r.len], r.inj, fun i b e' h1 h2 => ?_, fun i b h1 => ?_⟩
  · rw [upd_ne (fun z => by rw [z, hf] at q; cases q)]
    exact r.sub b u q
  · by_cases hi : n = i
    · subst hi
      rw [hm] at h1
      cases h1
      rw [List.getElem?_set_self (by rw [← r.len]; exact (List.getElem?_eq_some_iff.mp hm).1)] at h2
      cases h2
      exact he
    · rw [List.getElem?_set_ne hi] at h2
      have nb : b ≠ a := fun z => hi (r.inj n i a hm (z ▸ h1))
      exact (r.ent i b e' h1 h2).stay (Ext.refl F μ) (fun z => z) fun o z => by rw [upd_ne nb]; exact z
  · by_cases nb : b = a
    · subst nb
      exact ⟨o, upd_same⟩
    · obtain ⟨u, q⟩ := r.trk i b h1
      exact ⟨u, by rw [upd_ne nb]; exact q⟩
/-- a live object is told to change no more -/
theorem Rel.freeze (r : Rel G F μ S H) {n : Nat} {a : Addr} {o : HO} (hm : μ[n]? = some a) (hf : F a = none) (ho : H a = some o) : Ext F μ (upd F a o) μ ∧ Rel G (upd F a o) μ (S.set n .dead) H := by
  have x : Ext F μ (upd F a o) μ := ⟨same_upd hf, fun i a z => z⟩
  refine ⟨x, fun b u q => ?_, by simp [r.len], r.inj, fun i b e' h1 h2 => ?_, r.trk⟩
  · by_cases hb : b = a
    · subst hb
      rw [upd_same] at q
      rw [← q]
      exact ho
    · rw [upd_ne hb] at q
      exact r.sub b u q
  · by_cases hi : n = i
    · subst hi
      rw [List.getElem?_set_self (by rw [← r.len]; exact (List.getElem?_eq_some_iff.mp hm).1)] at h2
      cases h2
      exact .dead
    · rw [List.getElem?_set_ne hi] at h2
      have nb : b ≠ a := fun z => hi (r.inj n i a hm (z ▸ h1))
      exact (r.ent i b e' h1 h2).stay x (fun z => by rw [upd_ne nb]; exact z) fun o z => z
theorem Rel.lstAt (r : Rel G F μ S H) {n : Nat} {a : Addr} {l : List D} (hm : μ[n]? = some a) (hs : S[n]? = some (.lst l)) : ∃ xs, F a = none ∧ H a = some (.lst xs) ∧ Reps G F μ l xs := by
  cases r.ent n a _ hm hs with
  | lst h1 h2 h3 => exact ⟨_, h1, h2, h3⟩
theorem Rel.dctAt (r : Rel G F μ S H) {n : Nat} {a : Addr} {ks : List Key} {vs : List D} (hm : μ[n]? = some a) (hs : S[n]? = some (.dct ks vs)) : ∃ xs, F a = none ∧ H a = some (.dK (ks.zip xs)) ∧ ks.length = vs.length ∧ Reps G F μ vs xs := by
  cases r.ent n a _ hm hs with
  | dct h1 h2 h3 h4 => exact ⟨_, h1, h2, h3, h4⟩
theorem Rel.insAt (r : Rel G F μ S H) {n : Nat} {a : Addr} {c : Nat} {ks : List Str} {vs : List D} (hm : μ[n]? = some a) (hs : S[n]? = some (.ins c ks vs)) : ∃ dx xs, F a = none ∧ H a = some (.ins (G.cls c) dx (ks.zip xs)) ∧ ks.length = vs.length ∧ Reps G F μ vs xs := by
  cases r.ent n a _ hm hs with
  | ins h1 h2 h3 h4 => exact ⟨_, _, h1, h2, h3, h4⟩
end
end Z

set_option Elab.async false
set_option linter.all false
set_option maxRecDepth 100000
set_option maxHeartbeats 2000000
set_option autoImplicit false
namespace Z
open PySem PySem.Spec L2

/-! ## expressions: what they mean -/
def truthD (S : Store) : D → Option Bool
  | .non => some false
  | .bl b => some b
  | .int i => some (i != 0)
  | .str x => if x.length ≤ sizeLine then some ((x.length : Int) != 0) else none
  | .tup l => some (!l.isEmpty)
  | .lst l => some (!l.isEmpty)
  | .kst l => some (!l.isEmpty)
  | .dct ks _ => some (!ks.isEmpty)
  | .loc n =>
    match S[n]? with
    | some (.lst l) => some (!l.isEmpty)
    | some (.dct ks _) => some (!ks.isEmpty)
    | _ => none
  | _ => none
def resO {α : Type} (o : Option α) (S : Store) : Res α :=
  match o with
  | some a => .ok a S
  | none => .bad
@[simp] theorem resO_some {α : Type} (a : α) (S : Store) : resO (some a) S = .ok a S := rfl
@[simp] theorem resO_none {α : Type} (S : Store) : resO (none : Option α) S = .bad := rfl

def mVar (i : Nat) : ME := fun ρ S => resO (ρ[i]?.join) S
def mC (d : D) : ME := fun _ S => .ok d S
def mBin (f : D → D → Store → Res D) (a b : ME) : ME := fun ρ S => (a ρ S).bind fun x S1 => (b ρ S1).bind fun y S2 => f x y S2
def mUn (f : D → Store → Res D) (a : ME) : ME := fun ρ S => (a ρ S).bind f
def mTst (a : ME) : MB := fun ρ S => (a ρ S).bind fun x S1 => resO (truthD S1 x) S1
def asBl : D → Option Bool
  | .bl b => some b
  | _ => none
def mBlT (a : ME) : MB := fun ρ S => (a ρ S).bind fun x S1 => resO (asBl x) S1
def mAndT (a b : MB) : MB := fun ρ S => (a ρ S).bind fun c S1 => if c = true then b ρ S1 else .ok false S1
def mOrT (a b : MB) : MB := fun ρ S => (a ρ S).bind fun c S1 => if c = true then .ok true S1 else b ρ S1
def mNotT (a : MB) : MB := fun ρ S => (a ρ S).bind fun c S1 => .ok (!c) S1
def mIf (c : MB) (a b : ME) : ME := fun ρ S => (c ρ S).bind fun k S1 => if k = true then a ρ S1 else b ρ S1
def mAndV (a b : ME) : ME := fun ρ S => (a ρ S).bind fun x S1 => (resO (truthD S1 x) S1).bind fun c S2 => if c = true then b ρ S2 else .ok x S2
def mOrV (a b : ME) : ME := fun ρ S => (a ρ S).bind fun x S1 => (resO (truthD S1 x) S1).bind fun c S2 => if c = true then .ok x S2 else b ρ S2
def mNotV (a : ME) : ME := fun ρ S => (a ρ S).bind fun x S1 => (resO (truthD S1 x) S1).bind fun c S2 => .ok (.bl (!c)) S2
def mNilL : ML := fun _ S => .ok [] S
def mConsL (a : ME) (l : ML) : ML := fun ρ S => (a ρ S).bind fun x S1 => (l ρ S1).bind fun xs S2 => .ok (x :: xs) S2
def mTup (l : ML) : ME := fun ρ S => (l ρ S).bind fun xs S1 => if xs.length ≤ sizeLine then .ok (.tup xs) S1 else .bad
/-- a list that will not change -/
def mLst (l : ML) : ME := fun ρ S => (l ρ S).bind fun xs S1 => if xs.length ≤ sizeLine then .ok (.lst xs) S1 else .bad
/-- a list that may change -/
def mLoc (l : ML) : ME := fun ρ S => (l ρ S).bind fun xs S1 => if xs.length ≤ sizeLine then .ok (.loc S1.length) (S1 ++ [.lst xs]) else .bad
def mCall (f : List D → Store → Res D) (l : ML) : ME := fun ρ S => (l ρ S).bind f
/-- a list (or an object) is told to change no more -/
def frzD : D → Store → Res D
  | .loc n, S =>
    match S[n]? with
    | some (.lst l) => .ok (.lst l) (S.set n .dead)
    | some (.dct ks vs) => .ok (.dct ks vs) (S.set n .dead)
    | some (.ins c ks vs) => .ok (.ins c ks vs) (S.set n .dead)
    | _ => .bad
  | d, S => .ok d S
def mFrz (a : ME) : ME := mUn frzD a

/-! ## .. and that it is so -/
section
variable {G : Gm} {X : Cx} {W : WX} {k : Nat}
theorem zip_isEmpty {α β : Type} : ∀ {ks : List α} {xs : List β}, ks.length = xs.length → (ks.zip xs).isEmpty = ks.isEmpty
  | [], _, _ => rfl
  | _ :: _, _ :: _, _ => rfl
  | _ :: _, [], h => by cases h
theorem reps_empty {F : Hp} {μ : List Addr} {l : List D} {xs : List V} (r : Reps G F μ l xs) : xs.isEmpty = l.isEmpty := by
  cases r <;> rfl
theorem truth_ok {F : Hp} {μ : List Addr} {S : Store} {H : Hp} {d : D} {v : V} {c : Bool} (r : Rel G F μ S H) (p : Rep G F μ d v) (h : truthD S d = some c) : TruV G.K v H c := by
  cases p with
  | non => exact (Option.some.inj h).symm
  | bl b => exact (Option.some.inj h).symm
  | int i => exact (Option.some.inj h).symm
  | str x =>
    simp only [truthD] at h
    split at h
    · rename_i hl
      exact ⟨hl, (Option.some.inj h).symm⟩
    · cases h
  | ty n => cases h
  | cls n => cases h
  | tup hs hr => exact .inr (.inl ⟨_, same_sqT r.sub hs, by rw [reps_empty hr]; exact (Option.some.inj h).symm⟩)
  | lst hs hr => exact .inl ⟨_, SqL.of (r.sub _ _ hs), by rw [reps_empty hr]; exact (Option.some.inj h).symm⟩
  | kst hs hr => exact .inl ⟨_, same_sqL r.sub hs, by rw [reps_empty hr]; exact (Option.some.inj h).symm⟩
  | dct hs hl hr => exact .inr (.inr ⟨_, r.sub _ _ hs, by rw [zip_isEmpty (by rw [hl, hr.length])]; exact (Option.some.inj h).symm⟩)
  | ins => cases h
  | @loc n a hm =>
    simp only [truthD] at h
    split at h
    · rename_i l hs
      obtain ⟨xs, _, h2, h3⟩ := r.lstAt hm hs
      exact .inl ⟨xs, SqL.of h2, by rw [reps_empty h3]; exact (Option.some.inj h).symm⟩
    · rename_i ks vs hs
      obtain ⟨xs, _, h2, hl, h3⟩ := r.dctAt hm hs
      exact .inr (.inr ⟨_, h2, by rw [zip_isEmpty (by rw [hl, h3.length])]; exact (Option.some.inj h).symm⟩)
    · cases h
theorem post_resO {α α' β' : Type} {W : WX} {R : RR α' β'} {F : Hp} {μ : List Addr} {σ : L2.St} {Q : β' → Hp → Prop} {o : Option α} {S : Store} {f : α → Store → Res α'} (h : Post G W R F μ σ Q ((resO o S).bind f)) : ∃ a, o = some a ∧ Post G W R F μ σ Q (f a S) := by
  cases o with
  | none => exact h.elim
  | some a => exact ⟨a, rfl, h⟩
theorem post_resO1 {α' β' : Type} {W : WX} {R : RR α' β'} {F : Hp} {μ : List Addr} {σ : L2.St} {Q : β' → Hp → Prop} {o : Option α'} {S : Store} (h : Post G W R F μ σ Q (resO o S)) : ∃ a, o = some a ∧ Post G W R F μ σ Q (.ok a S) := by
  cases o with
  | none => exact h.elim
  | some a => exact ⟨a, rfl, h⟩

theorem se_var {i : Nat} {x : Str} {pos : Pos} (hN : X.N[i]? = some x := by rfl) (hv : Vis X.env.scope x := by first | exact Or.inl rfl | exact Or.inr (Or.inl rfl) | exact Or.inr (Or.inr rfl)) (hd : (x == ("__debug__" : Str)) = false := by decide)
    (hcd : (x == ("__classdict__" : Str)) = false := by decide) : SE G X W (.Name x pos) (mVar i) := by
  refine ⟨_, pe_var hN hv hd hcd, fun ρ S σ H F μ Q he hr hp => ?_⟩
  obtain ⟨d, e, hp⟩ := post_resO1 hp
  have e' : ρ[i]? = some (some d) := by
    cases q : ρ[i]? with
    | none => rw [q] at e; cases e
    | some o => rw [q] at e; cases o with
      | none => cases e
      | some d' => cases e; rfl
  obtain ⟨v, h1, h2⟩ := he.get i d e'
  exact ⟨v, h1, hp F μ v H (Ext.refl _ _) hr h2⟩
theorem se_c {e : Expr} {d : D} {v : V} (h : PE X e (tC v)) (r : ∀ F μ, Rep G F μ d v) : SE G X W e (mC d) :=
  ⟨_, h, fun ρ S σ H F μ Q he hr hp => hp F μ v H (Ext.refl _ _) hr (r F μ)⟩
theorem se_int {i : Int} {j : Nat} {pos : Pos} : SE G X W (.Constant (.int i) j pos) (mC (.int i)) := se_c pe_int fun _ _ => .int i
theorem se_bl {b : Bool} {j : Nat} {pos : Pos} : SE G X W (.Constant (.bool b) j pos) (mC (.bl b)) := se_c pe_bl fun _ _ => .bl b
theorem se_non {j : Nat} {pos : Pos} : SE G X W (.Constant .none j pos) (mC .non) := se_c pe_non fun _ _ => .non
theorem se_str {x : Str} {j : Nat} {pos : Pos} : SE G X W (.Constant (.str x) j pos) (mC (.str x)) := se_c pe_str fun _ _ => .str x

/-- what an operation by values does -/
def OpI (G : Gm) (f : D → D → Store → Res D) (r : R2) : Prop :=
  ∀ (W : WX) (F : Hp) (μ : List Addr) (σ : L2.St) (S : Store) (H : Hp) (x y : D) (u v : V) (Q : VK), Rel G F μ S H → Rep G F μ x u → Rep G F μ y v → Post G W (Rep G) F μ σ Q (f x y S) → r u v H Q
def UnI (G : Gm) (f : D → Store → Res D) (r : V → Hp → VK → Prop) : Prop :=
  ∀ (W : WX) (F : Hp) (μ : List Addr) (σ : L2.St) (S : Store) (H : Hp) (x : D) (u : V) (Q : VK), Rel G F μ S H → Rep G F μ x u → Post G W (Rep G) F μ σ Q (f x S) → r u H Q
def CallI (G : Gm) (f : List D → Store → Res D) (r : List V → Hp → VK → Prop) : Prop :=
  ∀ (W : WX) (F : Hp) (μ : List Addr) (σ : L2.St) (S : Store) (H : Hp) (ds : List D) (us : List V) (Q : VK), Rel G F μ S H → Reps G F μ ds us → Post G W (Rep G) F μ σ Q (f ds S) → r us H Q
theorem imp_bin {ta tb : TE} {a b : ME} {f : D → D → Store → Res D} {r : R2} (ha : ImpE G W (Rep G) ta a) (hb : ImpE G W (Rep G) tb b) (hf : OpI G f r) : ImpE G W (Rep G) (tOp r ta tb) (mBin f a b) := by
  intro ρ S σ H F μ Q he hr hp
  refine ha ρ S σ H F μ _ he hr (Post.bind hp fun x S1 F1 μ1 u H1 x1 r1 p1 q1 => ?_)
  refine hb ρ S1 σ H1 F1 μ1 _ (he.mono x1) r1 (Post.bind q1 fun y S2 F2 μ2 v H2 x2 r2 p2 q2 => ?_)
  exact hf W F2 μ2 σ S2 H2 x y u v Q r2 (p1.mono x2) p2 q2
theorem imp_un {ta : TE} {a : ME} {f : D → Store → Res D} {r : V → Hp → VK → Prop} (ha : ImpE G W (Rep G) ta a) (hf : UnI G f r) : ImpE G W (Rep G) (tUn r ta) (mUn f a) := by
  intro ρ S σ H F μ Q he hr hp
  refine ha ρ S σ H F μ _ he hr (Post.bind hp fun x S1 F1 μ1 u H1 x1 r1 p1 q1 => ?_)
  exact hf W F1 μ1 σ S1 H1 x u Q r1 p1 q1
theorem se_op {a b : Expr} {op : Operator} {pos : Pos} {f : D → D → Store → Res D} {r : R2} {ma mb : ME} (hf : OpI G f r) (ho : OpR X (binaryOp op) r) (ha : SE G X W a ma) (hb : SE G X W b mb) : SE G X W (.BinOp a op b pos) (mBin f ma mb) := by
  obtain ⟨ta, pa, ia⟩ := ha
  obtain ⟨tb, pb, ib⟩ := hb
  exact ⟨_, pe_op ho pa pb, imp_bin ia ib hf⟩
theorem se_un {a : Expr} {op : UnaryOp} {pos : Pos} {f : D → Store → Res D} {r : V → Hp → VK → Prop} {ma : ME} (hf : UnI G f r) (ho : UnR X (unaryOp op) r) (ha : SE G X W a ma) : SE G X W (.UnaryOp op a pos) (mUn f ma) := by
  obtain ⟨ta, pa, ia⟩ := ha
  exact ⟨_, pe_un ho pa, imp_un ia hf⟩
theorem se_cmp {a b : Expr} {op : CmpOp} {pos : Pos} {f : D → D → Store → Res D} {r : R2} {ma mb : ME} (hf : OpI G f r) (ho : OpR X (compareOp op) r) (ha : SE G X W a ma) (hb : SE G X W b mb) (hm : behindInMarks op b = false) : SE G X W (.Compare a [op] [b] pos) (mBin f ma mb) := by
  obtain ⟨ta, pa, ia⟩ := ha
  obtain ⟨tb, pb, ib⟩ := hb
  exact ⟨_, pe_cmpR ho pa pb hm, imp_bin ia ib hf⟩
theorem imp_bl {ta : TE} {a : ME} (ha : ImpE G W (Rep G) ta a) : ImpE G W rB (tTest ta) (mBlT a) := by
  intro ρ S σ H F μ Q he hr hp
  refine ha ρ S σ H F μ _ he hr (Post.bind hp fun x S1 F1 μ1 u H1 x1 r1 p1 q1 => ?_)
  obtain ⟨c, e, q⟩ := post_resO1 q1
  cases x with
  | bl b =>
    cases p1
    exact ⟨_, rfl, q F1 μ1 _ H1 (Ext.refl _ _) r1 (Option.some.inj e).symm⟩
  | _ => cases e
theorem st_cmp {a b : Expr} {op : CmpOp} {pos : Pos} {f : D → D → Store → Res D} {r : R2} {ma mb : ME} (hf : OpI G f r) (ho : OpR X (compareOp op) r) (ha : SE G X W a ma) (hb : SE G X W b mb) (hm : behindInMarks op b = false) : ST G X W (.Compare a [op] [b] pos) (mBlT (mBin f ma mb)) := by
  obtain ⟨ta, pa, ia⟩ := ha
  obtain ⟨tb, pb, ib⟩ := hb
  exact ⟨_, pt_cmpR ho pa pb hm, imp_bl (imp_bin ia ib hf)⟩
theorem st_truth {a : Expr} {ma : ME} (hK : X.K = G.K) (ha : SE G X W a ma) (he : ∀ whole, isTrue a X.env whole = (do let v ← whole; standAt a.pos; holding [v] (truthy v)) := by intro _; rfl) : ST G X W a (mTst ma) := by
  obtain ⟨ta, pa, ia⟩ := ha
  refine ⟨_, pt_truth pa he, fun ρ S σ H F μ Q en hr hp => ?_⟩
  refine ia ρ S σ H F μ _ en hr (Post.bind hp fun x S1 F1 μ1 u H1 x1 r1 p1 q1 => ?_)
  obtain ⟨c, e, q⟩ := post_resO1 q1
  refine ⟨c, ?_, q F1 μ1 c H1 (Ext.refl _ _) r1 rfl⟩
  rw [hK]
  exact truth_ok r1 p1 e
theorem SW.pt {e : Expr} {m : MB} (h : SW G X W e m) : ST G X W e m := by
  obtain ⟨t, p, i⟩ := h
  exact ⟨t, p.pt, i⟩
theorem imp_and {ta tb : TT} {a b : MB} (ha : ImpE G W rB ta a) (hb : ImpE G W rB tb b) : ImpE G W rB (tAnd ta tb) (mAndT a b) := by
  intro ρ S σ H F μ Q he hr hp
  refine ha ρ S σ H F μ _ he hr (Post.bind hp fun c S1 F1 μ1 c' H1 x1 r1 p1 q1 => ?_)
  cases (show c = c' from p1)
  cases c with
  | true => exact iteT (hb ρ S1 σ H1 F1 μ1 Q (he.mono x1) r1 q1)
  | false => exact iteF (q1 F1 μ1 false H1 (Ext.refl _ _) r1 rfl)
theorem imp_or {ta tb : TT} {a b : MB} (ha : ImpE G W rB ta a) (hb : ImpE G W rB tb b) : ImpE G W rB (tOr ta tb) (mOrT a b) := by
  intro ρ S σ H F μ Q he hr hp
  refine ha ρ S σ H F μ _ he hr (Post.bind hp fun c S1 F1 μ1 c' H1 x1 r1 p1 q1 => ?_)
  cases (show c = c' from p1)
  cases c with
  | false => exact iteF (hb ρ S1 σ H1 F1 μ1 Q (he.mono x1) r1 q1)
  | true => exact iteT (q1 F1 μ1 true H1 (Ext.refl _ _) r1 rfl)
theorem sw_and1 {a : Expr} {pos : Pos} {m : MB} (ha : ST G X W a m) : SW G X W (.BoolOp .And [a] pos) m := by
  obtain ⟨t, p, i⟩ := ha
  exact ⟨t, pw_and1 p, i⟩
theorem sw_or1 {a : Expr} {pos : Pos} {m : MB} (ha : ST G X W a m) : SW G X W (.BoolOp .Or [a] pos) m := by
  obtain ⟨t, p, i⟩ := ha
  exact ⟨t, pw_or1 p, i⟩
theorem sw_and {a b : Expr} {rest : List Expr} {pos : Pos} {m n : MB} (ha : ST G X W a m) (hb : SW G X W (.BoolOp .And (b :: rest) pos) n) : SW G X W (.BoolOp .And (a :: b :: rest) pos) (mAndT m n) := by
  obtain ⟨t, p, i⟩ := ha
  obtain ⟨u, q, j⟩ := hb
  exact ⟨_, pw_and p q, imp_and i j⟩
theorem sw_or {a b : Expr} {rest : List Expr} {pos : Pos} {m n : MB} (ha : ST G X W a m) (hb : SW G X W (.BoolOp .Or (b :: rest) pos) n) : SW G X W (.BoolOp .Or (a :: b :: rest) pos) (mOrT m n) := by
  obtain ⟨t, p, i⟩ := ha
  obtain ⟨u, q, j⟩ := hb
  exact ⟨_, pw_or p q, imp_or i j⟩
theorem st_not {a : Expr} {pos : Pos} {m : MB} (ha : ST G X W a m) : ST G X W (.UnaryOp .Not a pos) (mNotT m) := by
  obtain ⟨t, p, i⟩ := ha
  refine ⟨_, pt_not p, fun ρ S σ H F μ Q he hr hp => ?_⟩
  refine i ρ S σ H F μ _ he hr (Post.bind hp fun c S1 F1 μ1 c' H1 x1 r1 p1 q1 => ?_)
  cases (show c = c' from p1)
  exact q1 F1 μ1 (!c) H1 (Ext.refl _ _) r1 rfl
theorem se_ifExp {c a b : Expr} {pos : Pos} {mc : MB} {ma mb : ME} (hc : ST G X W c mc) (ha : SE G X W a ma) (hb : SE G X W b mb) : SE G X W (.IfExp c a b pos) (mIf mc ma mb) := by
  obtain ⟨tc, pc, ic⟩ := hc
  obtain ⟨ta, pa, ia⟩ := ha
  obtain ⟨tb, pb, ib⟩ := hb
  refine ⟨_, pe_ifExp pc pa pb, fun ρ S σ H F μ Q he hr hp => ?_⟩
  refine ic ρ S σ H F μ _ he hr (Post.bind hp fun c S1 F1 μ1 c' H1 x1 r1 p1 q1 => ?_)
  cases (show c = c' from p1)
  cases c with
  | true => exact iteT (ia ρ S1 σ H1 F1 μ1 Q (he.mono x1) r1 q1)
  | false => exact iteF (ib ρ S1 σ H1 F1 μ1 Q (he.mono x1) r1 q1)
theorem se_one {op : BoolOp} {a : Expr} {pos : Pos} {m : ME} (ha : SE G X W a m) : SE G X W (.BoolOp op [a] pos) m := by
  obtain ⟨t, p, i⟩ := ha
  exact ⟨t, pe_one p, i⟩
theorem se_and {a b : Expr} {rest : List Expr} {pos : Pos} {m n : ME} (hK : X.K = G.K) (ha : SE G X W a m) (hb : SE G X W (.BoolOp .And (b :: rest) pos) n) : SE G X W (.BoolOp .And (a :: b :: rest) pos) (mAndV m n) := by
  obtain ⟨ta, pa, ia⟩ := ha
  obtain ⟨tb, pb, ib⟩ := hb
  refine ⟨_, pe_andT pa pb, fun ρ S σ H F μ Q he hr hp => ?_⟩
  refine ia ρ S σ H F μ _ he hr (Post.bind hp fun x S1 F1 μ1 u H1 x1 r1 p1 q1 => ?_)
  obtain ⟨c, e, q⟩ := post_resO q1
  refine ⟨c, by rw [hK]; exact truth_ok r1 p1 e, ?_⟩
  cases c with
  | true => exact iteT (ib ρ S1 σ H1 F1 μ1 Q (he.mono x1) r1 q)
  | false => exact iteF (q F1 μ1 u H1 (Ext.refl _ _) r1 p1)
theorem se_or {a b : Expr} {rest : List Expr} {pos : Pos} {m n : ME} (hK : X.K = G.K) (ha : SE G X W a m) (hb : SE G X W (.BoolOp .Or (b :: rest) pos) n) : SE G X W (.BoolOp .Or (a :: b :: rest) pos) (mOrV m n) := by
  obtain ⟨ta, pa, ia⟩ := ha
  obtain ⟨tb, pb, ib⟩ := hb
  refine ⟨_, pe_orT pa pb, fun ρ S σ H F μ Q he hr hp => ?_⟩
  refine ia ρ S σ H F μ _ he hr (Post.bind hp fun x S1 F1 μ1 u H1 x1 r1 p1 q1 => ?_)
  obtain ⟨c, e, q⟩ := post_resO q1
  refine ⟨c, by rw [hK]; exact truth_ok r1 p1 e, ?_⟩
  cases c with
  | false => exact iteF (ib ρ S1 σ H1 F1 μ1 Q (he.mono x1) r1 q)
  | true => exact iteT (q F1 μ1 u H1 (Ext.refl _ _) r1 p1)
theorem se_not {a : Expr} {pos : Pos} {m : ME} (hK : X.K = G.K) (ha : SE G X W a m) : SE G X W (.UnaryOp .Not a pos) (mNotV m) := by
  obtain ⟨ta, pa, ia⟩ := ha
  refine ⟨_, pe_notT pa, fun ρ S σ H F μ Q he hr hp => ?_⟩
  refine ia ρ S σ H F μ _ he hr (Post.bind hp fun x S1 F1 μ1 u H1 x1 r1 p1 q1 => ?_)
  obtain ⟨c, e, q⟩ := post_resO q1
  exact ⟨c, by rw [hK]; exact truth_ok r1 p1 e, q F1 μ1 _ H1 (Ext.refl _ _) r1 (.bl _)⟩

/-! ### lists of expressions, displays -/
theorem sa_nil : SA G X W [] mNilL := ⟨_, pa_nil, fun ρ S σ H F μ Q he hr hp => hp F μ [] H (Ext.refl _ _) hr .nil⟩
theorem sa_cons {e : Expr} {es : List Expr} {m : ME} {n : ML} (ha : SE G X W e m) (hb : SA G X W es n) (hs : starEach (e :: es) X.env = (false, eval e X.env) :: starEach es X.env := by rfl) : SA G X W (e :: es) (mConsL m n) := by
  obtain ⟨ta, pa, ia⟩ := ha
  obtain ⟨tb, pb, ib⟩ := hb
  refine ⟨_, pa_cons pa pb hs, fun ρ S σ H F μ Q he hr hp => ?_⟩
  refine ia ρ S σ H F μ _ he hr (Post.bind hp fun x S1 F1 μ1 u H1 x1 r1 p1 q1 => ?_)
  refine ib ρ S1 σ H1 F1 μ1 _ (he.mono x1) r1 (Post.bind q1 fun xs S2 F2 μ2 us H2 x2 r2 p2 q2 => ?_)
  exact q2 F2 μ2 _ H2 (Ext.refl _ _) r2 (.cons (p1.mono x2) p2)
theorem post_if {α β : Type} {R : RR α β} {F : Hp} {μ : List Addr} {σ : L2.St} {Q : β → Hp → Prop} {c : Prop} [Decidable c] {r : Res α} (h : Post G W R F μ σ Q (if c then r else .bad)) : c ∧ Post G W R F μ σ Q r := by
  by_cases hc : c
  · rw [if_pos hc] at h
    exact ⟨hc, h⟩
  · rw [if_neg hc] at h
    exact h.elim
theorem se_tup {es : List Expr} {cx : Nat} {pos : Pos} {m : ML} (h : SA G X W es m) : SE G X W (.Tuple es cx pos) (mTup m) := by
  obtain ⟨t, p, i⟩ := h
  refine ⟨_, pe_tup p, fun ρ S σ H F μ Q he hr hp => ?_⟩
  refine i ρ S σ H F μ _ he hr (Post.bind hp fun xs S1 F1 μ1 us H1 x1 r1 p1 q1 => ?_)
  obtain ⟨hl, q⟩ := post_if q1
  refine ⟨by rw [← p1.length]; exact hl, fun p hp => ?_⟩
  obtain ⟨xx, rr⟩ := r1.newF (.tup us) hp
  exact q _ _ _ _ xx rr (.tup (TupF.of upd_same) (p1.mono xx))
theorem se_lst {es : List Expr} {pos : Pos} {m : ML} (h : SA G X W es m) : SE G X W (.List es pos) (mLst m) := by
  obtain ⟨t, p, i⟩ := h
  refine ⟨_, pe_lst p, fun ρ S σ H F μ Q he hr hp => ?_⟩
  refine i ρ S σ H F μ _ he hr (Post.bind hp fun xs S1 F1 μ1 us H1 x1 r1 p1 q1 => ?_)
  obtain ⟨hl, q⟩ := post_if q1
  refine ⟨by rw [← p1.length]; exact hl, fun p hp => ?_⟩
  obtain ⟨xx, rr⟩ := r1.newF (.lst us) hp
  exact q _ _ _ _ xx rr (.lst upd_same (p1.mono xx))
theorem mu_new {F : Hp} {μ : List Addr} {S : Store} {H : Hp} (r : Rel G F μ S H) (p : Addr) : (μ ++ [p])[S.length]? = some p := by
  rw [← r.len]
  simp
theorem se_loc {es : List Expr} {pos : Pos} {m : ML} (h : SA G X W es m) : SE G X W (.List es pos) (mLoc m) := by
  obtain ⟨t, p, i⟩ := h
  refine ⟨_, pe_lst p, fun ρ S σ H F μ Q he hr hp => ?_⟩
  refine i ρ S σ H F μ _ he hr (Post.bind hp fun xs S1 F1 μ1 us H1 x1 r1 p1 q1 => ?_)
  obtain ⟨hl, q⟩ := post_if q1
  refine ⟨by rw [← p1.length]; exact hl, fun p hp => ?_⟩
  have rr := r1.newL (e := .lst xs) hp (.lst (r1.fnone hp) upd_same (p1.mono (ext_app F1 μ1 p)))
  exact q _ _ _ _ (ext_app F1 μ1 p) rr (.loc (mu_new r1 p))
/-- told to change no more -/
theorem se_frz {e : Expr} {m : ME} (h : SE G X W e m) : SE G X W e (mFrz m) := by
  obtain ⟨t, p, i⟩ := h
  refine ⟨t, p, fun ρ S σ H F μ Q he hr hp => ?_⟩
  refine i ρ S σ H F μ _ he hr (Post.bind hp fun d S1 F1 μ1 v H1 x1 r1 p1 q1 => ?_)
  cases p1 with
  | @loc n a hm =>
    simp only [frzD] at q1
    split at q1
    · rename_i l hs
      obtain ⟨xs, hf, ho, hr'⟩ := r1.lstAt hm hs
      obtain ⟨xx, rr⟩ := r1.freeze hm hf ho
      exact q1 _ _ _ _ xx rr (.lst upd_same (hr'.mono xx))
    · rename_i ks vs hs
      obtain ⟨xs, hf, ho, hl, hr'⟩ := r1.dctAt hm hs
      obtain ⟨xx, rr⟩ := r1.freeze hm hf ho
      exact q1 _ _ _ _ xx rr (.dct upd_same hl (hr'.mono xx))
    · rename_i c ks vs hs
      obtain ⟨dx, xs, hf, ho, hl, hr'⟩ := r1.insAt hm hs
      obtain ⟨xx, rr⟩ := r1.freeze hm hf ho
      exact q1 _ _ _ _ xx rr (.ins upd_same hl (hr'.mono xx))
    · exact q1.elim
  | non => exact q1 _ _ _ _ (Ext.refl _ _) r1 .non
  | bl b => exact q1 _ _ _ _ (Ext.refl _ _) r1 (.bl b)
  | int b => exact q1 _ _ _ _ (Ext.refl _ _) r1 (.int b)
  | str b => exact q1 _ _ _ _ (Ext.refl _ _) r1 (.str b)
  | ty b => exact q1 _ _ _ _ (Ext.refl _ _) r1 (.ty b)
  | cls b => exact q1 _ _ _ _ (Ext.refl _ _) r1 (.cls b)
  | tup a b => exact q1 _ _ _ _ (Ext.refl _ _) r1 (.tup a b)
  | lst a b => exact q1 _ _ _ _ (Ext.refl _ _) r1 (.lst a b)
  | kst a b => exact q1 _ _ _ _ (Ext.refl _ _) r1 (.kst a b)
  | dct a b c => exact q1 _ _ _ _ (Ext.refl _ _) r1 (.dct a b c)
  | ins a b c => exact q1 _ _ _ _ (Ext.refl _ _) r1 (.ins a b c)
end
end Z

set_option Elab.async false
set_option linter.all false
set_option maxRecDepth 100000
set_option maxHeartbeats 2000000
set_option autoImplicit false
namespace Z
open PySem PySem.Spec L2

/-! ## statements -/
abbrev MS := Env' → Store → SR
def srRes {α : Type} (ρ : Env') (r : Res α) (f : α → Store → SR) : SR :=
  match r with
  | .ok a S => f a S
  | .ex c ks vs S => .ex ρ c ks vs S
  | .bad => .bad
@[simp] theorem srRes_ok {α : Type} (ρ : Env') (a : α) (S : Store) (f : α → Store → SR) : srRes ρ (.ok a S) f = f a S := rfl
@[simp] theorem srRes_ex {α : Type} (ρ : Env') (c : Nat) (ks : List Str) (vs : List D) (S : Store) (f : α → Store → SR) : srRes ρ (.ex c ks vs S) f = .ex ρ c ks vs S := rfl
@[simp] theorem srRes_bad {α : Type} (ρ : Env') (f : α → Store → SR) : srRes ρ (.bad) f = .bad := rfl
def SR.seq (r : SR) (f : Env' → Store → SR) : SR :=
  match r with
  | .nx ρ S => f ρ S
  | r => r
@[simp] theorem seq_nx (ρ : Env') (S : Store) (f : Env' → Store → SR) : (SR.nx ρ S).seq f = f ρ S := rfl
@[simp] theorem seq_rt (d : D) (S : Store) (f : Env' → Store → SR) : (SR.rt d S).seq f = .rt d S := rfl
@[simp] theorem seq_bk (ρ : Env') (S : Store) (f : Env' → Store → SR) : (SR.bk ρ S).seq f = .bk ρ S := rfl
@[simp] theorem seq_ct (ρ : Env') (S : Store) (f : Env' → Store → SR) : (SR.ct ρ S).seq f = .ct ρ S := rfl
@[simp] theorem seq_ex (ρ : Env') (c : Nat) (ks : List Str) (vs : List D) (S : Store) (f : Env' → Store → SR) : (SR.ex ρ c ks vs S).seq f = .ex ρ c ks vs S := rfl
@[simp] theorem seq_bad (f : Env' → Store → SR) : (SR.bad).seq f = .bad := rfl

def sExpr (a : ME) : MS := fun ρ S => srRes ρ (a ρ S) fun _ S1 => .nx ρ S1
def sRet (a : ME) : MS := fun ρ S => srRes ρ (a ρ S) fun d S1 => .rt d S1
def sRetN : MS := fun _ S => .rt .non S
def sPass : MS := fun ρ S => .nx ρ S
def sBreak : MS := fun ρ S => .bk ρ S
def sCont : MS := fun ρ S => .ct ρ S
def sIf (c : MB) (t e : MS) : MS := fun ρ S => srRes ρ (c ρ S) fun b S1 => if b = true then t ρ S1 else e ρ S1
def sSeq (a b : MS) : MS := fun ρ S => (a ρ S).seq b
/-- a place's value told to change no more (nothing is done) -/
def frzAt (i : Nat) (ρ : Env') (S : Store) : SR :=
  match ρ[i]?.join with
  | some d => srRes ρ (frzD d S) fun d' S' => .nx (ρ.set i (some d')) S'
  | none => .bad
def sFrzB (i : Nat) (a : MS) : MS := fun ρ S => (frzAt i ρ S).seq a
def sFrzA (i : Nat) (a : MS) : MS := fun ρ S => (a ρ S).seq (frzAt i)
/-- targets -/
abbrev MG := D → Env' → Store → Option (Env' × Store)
abbrev MGs := List D → Env' → Store → Option (Env' × Store)
def gNm (i : Nat) : MG := fun d ρ S => some (ρ.set i (some d), S)
def gsNil : MGs := fun ds ρ S => match ds with | [] => some (ρ, S) | _ => none
def gsCons (g : MG) (gs : MGs) : MGs := fun ds ρ S => match ds with | d :: r => (g d ρ S).bind fun p => gs r p.1 p.2 | [] => none
def itemsD (S : Store) : D → Option (List D)
  | .tup l => some l
  | .lst l => some l
  | .kst l => some l
  | .loc n =>
    match S[n]? with
    | some (.lst l) => some l
    | _ => none
  | _ => none
def gMany (n : Nat) (gs : MGs) : MG := fun d ρ S =>
  match itemsD S d with
  | some l => if l.length = n then gs l ρ S else none
  | none => none
def srGo (o : Option (Env' × Store)) : SR :=
  match o with
  | some p => .nx p.1 p.2
  | none => .bad
@[simp] theorem srGo_some (p : Env' × Store) : srGo (some p) = .nx p.1 p.2 := rfl
@[simp] theorem srGo_none : srGo none = .bad := rfl
def sAsg (a : ME) (g : MG) : MS := fun ρ S => srRes ρ (a ρ S) fun d S1 => srGo (g d ρ S1)
def sPar (i j : Nat) (l : ML) : MS := fun ρ S => srRes ρ (l ρ S) fun ds S1 => match ds with | [d, e] => .nx ((ρ.set i (some d)).set j (some e)) S1 | _ => .bad

def PostS (G : Gm) (W : WX) (F : Hp) (μ : List Addr) (Ds : Ends) : SR → Prop
  | .nx ρ S => ∀ F' μ' σ' H', Ext F μ F' μ' → Rel G F' μ' S H' → EnvR G F' μ' ρ σ' → Ds.nx σ' H'
  | .rt d S => ∀ F' μ' v H', Ext F μ F' μ' → Rel G F' μ' S H' → Rep G F' μ' d v → Ds.rt v H'
  | .bk ρ S => ∀ F' μ' σ' H', Ext F μ F' μ' → Rel G F' μ' S H' → EnvR G F' μ' ρ σ' → Ds.bk σ' H'
  | .ct ρ S => ∀ F' μ' σ' H', Ext F μ F' μ' → Rel G F' μ' S H' → EnvR G F' μ' ρ σ' → Ds.ct σ' H'
  | .ex ρ c ks vs S => ∀ F' μ' σ' dx xs H', Ext F μ F' μ' → Rel G F' μ' S H' → EnvR G F' μ' ρ σ' → F' dx = some (.xd (ks.zip xs)) → ks.length = vs.length → Reps G F' μ' vs xs → W (.ref (G.cls c)) (some dx) σ' H'
  | .bad => False
section
variable {G : Gm} {X : Cx} {W : WX} {k : Nat} {F F1 : Hp} {μ μ1 : List Addr} {Ds : Ends}
theorem PostS.mono {r : SR} (h : PostS G W F μ Ds r) (x : Ext F μ F1 μ1) : PostS G W F1 μ1 Ds r := by
  cases r with
  | nx ρ S => exact fun F' μ' v H' e a b => h F' μ' v H' (x.trans e) a b
  | rt d S => exact fun F' μ' v H' e a b => h F' μ' v H' (x.trans e) a b
  | bk ρ S => exact fun F' μ' v H' e a b => h F' μ' v H' (x.trans e) a b
  | ct ρ S => exact fun F' μ' v H' e a b => h F' μ' v H' (x.trans e) a b
  | ex ρ c ks vs S => exact fun F' μ' σ' dx xs H' e a b => h F' μ' σ' dx xs H' (x.trans e) a b
  | bad => exact h
/-- an expression ahead -/
theorem PostS.res {α β : Type} {R : RR α β} {ρ : Env'} {σ : L2.St} {r : Res α} {f : α → Store → SR} {Q : β → Hp → Prop} (h : PostS G W F μ Ds (srRes ρ r f)) (he : EnvR G F μ ρ σ)
    (kk : ∀ d S F' μ' v H', Ext F μ F' μ' → Rel G F' μ' S H' → R F' μ' d v → PostS G W F' μ' Ds (f d S) → Q v H') : Post G W R F μ σ Q r := by
  cases r with
  | ok d S => exact fun F' μ' v H' e a b => kk d S F' μ' v H' e a b (PostS.mono (show PostS G W F μ Ds (f d S) from h) e)
  | ex c ks vs S => exact fun F' μ' dx xs H' e a b l r => h F' μ' σ dx xs H' e a (he.mono e) b l r
  | bad => exact h.elim
/-- a statement ahead -/
theorem PostS.seq {r : SR} {f : Env' → Store → SR} {N : L2.St → Hp → Prop} (h : PostS G W F μ Ds (r.seq f))
    (kk : ∀ ρ S F' μ' σ' H', Ext F μ F' μ' → Rel G F' μ' S H' → EnvR G F' μ' ρ σ' → PostS G W F' μ' Ds (f ρ S) → N σ' H') : PostS G W F μ { Ds with nx := N } r := by
  cases r with
  | nx ρ S => exact fun F' μ' v H' e a b => kk ρ S F' μ' v H' e a b (PostS.mono (show PostS G W F μ Ds (f ρ S) from h) e)
  | rt d S => exact h
  | bk ρ S => exact h
  | ct ρ S => exact h
  | ex ρ c ks vs S => exact h
  | bad => exact h

def ImpS (G : Gm) (W : WX) (t : TS) (m : MS) : Prop :=
  ∀ ρ S σ H F μ Ds, EnvR G F μ ρ σ → Rel G F μ S H → PostS G W F μ Ds (m ρ S) → t Ds σ H
structure SS (G : Gm) (X : Cx) (W : WX) (st : Stmt) (m : MS) : Prop where
  ex : ∃ t, PS X st t ∧ ImpS G W t m
structure SSs (G : Gm) (X : Cx) (W : WX) (st : List Stmt) (m : MS) : Prop where
  ex : ∃ t, PSs X st t ∧ ImpS G W t m
structure SG (G : Gm) (X : Cx) (tg : Expr) (m : MG) : Prop where
  ex : ∃ t, PG X tg t ∧ ∀ d v ρ S σ H F μ Q ρ' S', EnvR G F μ ρ σ → Rel G F μ S H → Rep G F μ d v → m d ρ S = some (ρ', S') →
    (∀ F' μ' σ' H', Ext F μ F' μ' → Rel G F' μ' S' H' → EnvR G F' μ' ρ' σ' → Q σ' H') → t v σ H Q
structure SGs (G : Gm) (X : Cx) (tg : List Expr) (m : MGs) : Prop where
  ex : ∃ t, PGs X tg t ∧ ∀ ds vs ρ S σ H F μ Q ρ' S', EnvR G F μ ρ σ → Rel G F μ S H → Reps G F μ ds vs → m ds ρ S = some (ρ', S') →
    (∀ F' μ' σ' H', Ext F μ F' μ' → Rel G F' μ' S' H' → EnvR G F' μ' ρ' σ' → Q σ' H') → t vs σ H Q

theorem ss_nil : SSs G X W [] sPass := ⟨_, pss_nil, fun ρ S σ H F μ Ds he hr hp => hp F μ σ H (Ext.refl _ _) hr he⟩
theorem ss_one {st : Stmt} {m : MS} (h : SS G X W st m) : SSs G X W [st] m := by
  obtain ⟨t, p, i⟩ := h
  exact ⟨t, pss_one p, i⟩
theorem ss_cons {st : Stmt} {rest : List Stmt} {m n : MS} (h : SS G X W st m) (h2 : SSs G X W rest n) : SSs G X W (st :: rest) (sSeq m n) := by
  obtain ⟨t, p, i⟩ := h
  obtain ⟨u, q, j⟩ := h2
  refine ⟨_, pss_cons p q, fun ρ S σ H F μ Ds he hr hp => ?_⟩
  exact i ρ S σ H F μ _ he hr (PostS.seq hp fun ρ1 S1 F1 μ1 σ1 H1 x1 r1 e1 q1 => j ρ1 S1 σ1 H1 F1 μ1 Ds e1 r1 q1)
theorem ss_pass {pos : Pos} : SS G X W (.Pass pos) sPass := ⟨_, ps_pass, fun ρ S σ H F μ Ds he hr hp => hp F μ σ H (Ext.refl _ _) hr he⟩
theorem ss_break {pos : Pos} : SS G X W (.Break pos) sBreak := ⟨_, ps_break, fun ρ S σ H F μ Ds he hr hp => hp F μ σ H (Ext.refl _ _) hr he⟩
theorem ss_cont {pos : Pos} : SS G X W (.Continue pos) sCont := ⟨_, ps_continue, fun ρ S σ H F μ Ds he hr hp => hp F μ σ H (Ext.refl _ _) hr he⟩
theorem ss_expr {e : Expr} {pos : Pos} {m : ME} (h : SE G X W e m) (hs : swapsWith e none pos.line X.env = pure false := by rfl) : SS G X W (.Expr e pos) (sExpr m) := by
  obtain ⟨t, p, i⟩ := h
  refine ⟨_, ps_expr p hs, fun ρ S σ H F μ Ds he hr hp => ?_⟩
  exact i ρ S σ H F μ _ he hr (PostS.res hp he fun d S1 F1 μ1 v H1 x1 r1 p1 q1 => q1 F1 μ1 σ H1 (Ext.refl _ _) r1 (he.mono x1))
theorem ss_ret {e : Expr} {pos : Pos} {m : ME} (h : SE G X W e m) : SS G X W (.Return (some e) pos) (sRet m) := by
  obtain ⟨t, p, i⟩ := h
  refine ⟨_, ps_ret p, fun ρ S σ H F μ Ds he hr hp => ?_⟩
  exact i ρ S σ H F μ _ he hr (PostS.res hp he fun d S1 F1 μ1 v H1 x1 r1 p1 q1 => q1 F1 μ1 v H1 (Ext.refl _ _) r1 p1)
theorem ss_retN {pos : Pos} : SS G X W (.Return none pos) sRetN := ⟨_, ps_retN, fun ρ S σ H F μ Ds he hr hp => hp F μ .non H (Ext.refl _ _) hr .non⟩
theorem ss_if {c : Expr} {a b : List Stmt} {pos : Pos} {mc : MB} {ma mb : MS} (hc : ST G X W c mc) (ha : SSs G X W a ma) (hb : SSs G X W b mb) : SS G X W (.If c a b pos) (sIf mc ma mb) := by
  obtain ⟨tc, pc, ic⟩ := hc
  obtain ⟨ta, pa, ia⟩ := ha
  obtain ⟨tb, pb, ib⟩ := hb
  refine ⟨_, ps_if pc pa pb, fun ρ S σ H F μ Ds he hr hp => ?_⟩
  refine ic ρ S σ H F μ _ he hr (PostS.res hp he fun c S1 F1 μ1 c' H1 x1 r1 p1 q1 => ?_)
  cases (show c = c' from p1)
  cases c with
  | true => exact iteT (ia ρ S1 σ H1 F1 μ1 Ds (he.mono x1) r1 q1)
  | false => exact iteF (ib ρ S1 σ H1 F1 μ1 Ds (he.mono x1) r1 q1)
theorem frz_ok {W : WX} {d : D} {v : V} {S : Store} {H : Hp} {ρ : Env'} {f : D → Store → SR} (r : Rel G F μ S H) (p : Rep G F μ d v) (h : PostS G W F μ Ds (srRes ρ (frzD d S) f)) :
    ∃ d' S' F', Ext F μ F' μ ∧ Rel G F' μ S' H ∧ Rep G F' μ d' v ∧ PostS G W F' μ Ds (f d' S') := by
  cases p with
  | @loc n a hm =>
    simp only [frzD] at h
    split at h
    · rename_i l hs
      obtain ⟨xs, hf, ho, hr'⟩ := r.lstAt hm hs
      obtain ⟨xx, rr⟩ := r.freeze hm hf ho
      exact ⟨_, _, _, xx, rr, .lst upd_same (hr'.mono xx), h.mono xx⟩
    · rename_i ks vs hs
      obtain ⟨xs, hf, ho, hl, hr'⟩ := r.dctAt hm hs
      obtain ⟨xx, rr⟩ := r.freeze hm hf ho
      exact ⟨_, _, _, xx, rr, .dct upd_same hl (hr'.mono xx), h.mono xx⟩
    · rename_i c ks vs hs
      obtain ⟨dx, xs, hf, ho, hl, hr'⟩ := r.insAt hm hs
      obtain ⟨xx, rr⟩ := r.freeze hm hf ho
      exact ⟨_, _, _, xx, rr, .ins upd_same hl (hr'.mono xx), h.mono xx⟩
    · exact h.elim
  | non => exact ⟨_, _, _, Ext.refl _ _, r, .non, h⟩
  | bl b => exact ⟨_, _, _, Ext.refl _ _, r, .bl b, h⟩
  | int b => exact ⟨_, _, _, Ext.refl _ _, r, .int b, h⟩
  | str b => exact ⟨_, _, _, Ext.refl _ _, r, .str b, h⟩
  | ty b => exact ⟨_, _, _, Ext.refl _ _, r, .ty b, h⟩
  | cls b => exact ⟨_, _, _, Ext.refl _ _, r, .cls b, h⟩
  | tup a b => exact ⟨_, _, _, Ext.refl _ _, r, .tup a b, h⟩
  | lst a b => exact ⟨_, _, _, Ext.refl _ _, r, .lst a b, h⟩
  | kst a b => exact ⟨_, _, _, Ext.refl _ _, r, .kst a b, h⟩
  | dct a b c => exact ⟨_, _, _, Ext.refl _ _, r, .dct a b c, h⟩
  | ins a b c => exact ⟨_, _, _, Ext.refl _ _, r, .ins a b c, h⟩
theorem join_some {α : Type} {o : Option (Option α)} {a : α} (h : o.join = some a) : o = some (some a) := by
  cases o with
  | none => cases h
  | some o => cases o with
    | none => cases h
    | some b => cases h; rfl
theorem frzAt_ok {W : WX} {i : Nat} {ρ : Env'} {S : Store} {σ : L2.St} {H : Hp} {f : Env' → Store → SR} (he : EnvR G F μ ρ σ) (r : Rel G F μ S H) (h : PostS G W F μ Ds ((frzAt i ρ S).seq f)) :
    ∃ ρ' S' F', Ext F μ F' μ ∧ Rel G F' μ S' H ∧ EnvR G F' μ ρ' σ ∧ PostS G W F' μ Ds (f ρ' S') := by
  unfold frzAt at h
  split at h
  · rename_i d e
    have e' := join_some e
    obtain ⟨v, hv, p⟩ := he.get i d e'
    have h' : PostS G W F μ Ds (srRes ρ (frzD d S) fun d' S' => f (ρ.set i (some d')) S') := by
      cases q : frzD d S with
      | ok a S' => rw [q] at h; exact h
      | ex c ks vs S' => rw [q] at h; exact h
      | bad => rw [q] at h; exact h
    obtain ⟨d', S', F', x, rr, pp, hh⟩ := frz_ok r p h'
    exact ⟨_, _, _, x, rr, (he.mono x).tell i hv pp, hh⟩
  · exact h.elim
theorem ss_frzB {st : Stmt} {m : MS} (i : Nat) (h : SS G X W st m) : SS G X W st (sFrzB i m) := by
  obtain ⟨t, p, im⟩ := h
  refine ⟨t, p, fun ρ S σ H F μ Ds he hr hp => ?_⟩
  obtain ⟨ρ', S', F', x, rr, ee, hh⟩ := frzAt_ok he hr hp
  exact im ρ' S' σ H F' μ Ds ee rr hh
theorem ss_frzA {st : Stmt} {m : MS} (i : Nat) (h : SS G X W st m) : SS G X W st (sFrzA i m) := by
  obtain ⟨t, p, im⟩ := h
  refine ⟨t, p, fun ρ S σ H F μ Ds he hr hp => ?_⟩
  refine im ρ S σ H F μ Ds he hr ?_
  have q := PostS.seq hp (N := Ds.nx) fun ρ1 S1 F1 μ1 σ1 H1 x1 r1 e1 q1 => by
    have q1' : PostS G W F1 μ1 Ds ((frzAt i ρ1 S1).seq fun ρ S => .nx ρ S) := by
      cases hq : frzAt i ρ1 S1 <;> (rw [hq] at q1; exact q1)
    obtain ⟨ρ', S', F', x, rr, ee, hh⟩ := frzAt_ok e1 r1 q1'
    exact hh F' μ1 σ1 H1 (Ext.refl _ _) rr ee
  exact q

/-! ### targets, assignments -/
theorem sg_name {i : Nat} {x : Str} {pos : Pos} (hN : X.N.Nodup) (hi : X.N[i]? = some x := by rfl) (hx : Loc X.env.scope x := by first | exact Or.inl rfl | exact Or.inr rfl) (hf : X.fn x = true ∨ X.env.scope.names.lookup x = some .local := by first | exact .inl rfl | exact .inr rfl) : SG G X (.Name x pos) (gNm i) :=
  ⟨_, pg_name hN hi hx hf, fun d v ρ S σ H F μ Q ρ' S' he hr p e hq => by
    cases e
    exact hq F μ _ H (Ext.refl _ _) hr (he.set i p)⟩
theorem sgs_nil : SGs G X [] gsNil := by
  refine ⟨_, pgs_nil, fun ds vs ρ S σ H F μ Q ρ' S' he hr p e hq => ?_⟩
  cases p with
  | nil =>
    cases e
    exact ⟨rfl, hq F μ σ H (Ext.refl _ _) hr he⟩
  | cons a b => cases e
theorem sgs_cons {e : Expr} {es : List Expr} {g : MG} {gs : MGs} (h1 : SG G X e g) (h2 : SGs G X es gs) (hs : (assignEach (e :: es) X.env).map (·.2) = assign e X.env :: (assignEach es X.env).map (·.2) := by rfl) : SGs G X (e :: es) (gsCons g gs) := by
  obtain ⟨t, p, i⟩ := h1
  obtain ⟨u, q, j⟩ := h2
  refine ⟨_, pgs_cons p q hs, fun ds vs ρ S σ H F μ Q ρ' S' he hr r e hq => ?_⟩
  cases r with
  | nil => cases e
  | @cons d v ds vs r1 r2 =>
    simp only [gsCons] at e
    cases hg : g d ρ S with
    | none => rw [hg] at e; cases e
    | some w =>
      rw [hg] at e
      refine ⟨v, vs, rfl, i d v ρ S σ H F μ _ w.1 w.2 he hr r1 hg fun F1 μ1 σ1 H1 x1 rr e1 => ?_⟩
      exact j ds vs w.1 w.2 σ1 H1 F1 μ1 Q ρ' S' e1 rr (r2.mono x1) e fun F2 μ2 σ2 H2 x2 r2 e2 => hq F2 μ2 σ2 H2 (x1.trans x2) r2 e2
theorem PG.or {tg : Expr} {t u : TG} (h : PG X tg t) (h2 : PG X tg u) : PG X tg (fun v σ H Q => t v σ H Q ∨ u v σ H Q) := by
  refine ⟨fun pins s σ H v w Q I r hw => ?_⟩
  rcases hw with hw | hw
  · exact h.run pins s σ H v w Q I r hw
  · exact h2.run pins s σ H v w Q I r hw
/-- what may be read as a row of items -/
theorem items_ok {d : D} {v : V} {S : Store} {H : Hp} {l : List D} (hr : Rel G F μ S H) (r : Rep G F μ d v) (h : itemsD S d = some l) :
    ∃ a xs, v = .ref a ∧ Reps G F μ l xs ∧ ((SqT G.K H a xs) ∨ (SqL G.K H a xs)) := by
  cases r with
  | tup hs hr' =>
    cases h
    exact ⟨_, _, rfl, hr', .inl (same_sqT hr.sub hs)⟩
  | lst hs hr' =>
    cases h
    exact ⟨_, _, rfl, hr', .inr (SqL.of (hr.sub _ _ hs))⟩
  | kst hs hr' =>
    cases h
    exact ⟨_, _, rfl, hr', .inr (same_sqL hr.sub hs)⟩
  | @loc m a hm =>
    simp only [itemsD] at h
    split at h
    · rename_i l' hs
      cases h
      obtain ⟨xs, hf, ho, hr'⟩ := hr.lstAt hm hs
      exact ⟨_, _, rfl, hr', .inr (SqL.of ho)⟩
    · cases h
  | _ => cases h
theorem sg_many {es : List Expr} {cx : Nat} {pos : Pos} {gs : MGs} {n : Nat} (hK : X.K = G.K) (hc : X.calm = true) (h : SGs G X es gs) (hn : (assignEach es X.env).length = n := by rfl) (hst : (assignEach es X.env).findIdx? (·.1) = none := by rfl) : SG G X (.Tuple es cx pos) (gMany n gs) := by
  obtain ⟨t, p, i⟩ := h
  refine ⟨_, PG.or (pg_tup hc p hn hst) (pg_lst hc p hn hst), fun d v ρ S σ H F μ Q ρ' S' he hr r e hq => ?_⟩
  unfold gMany at e
  split at e
  · rename_i l hl
    by_cases hlen : l.length = n
    · rw [if_pos hlen] at e
      obtain ⟨a, xs, rfl, rs, hs⟩ := items_ok hr r hl
      have hx : xs.length = n := by rw [← rs.length]; exact hlen
      rcases hs with hs | hs
      · exact .inl ⟨a, xs, rfl, by rw [hK]; exact hs, hx, i _ _ ρ S σ H F μ Q ρ' S' he hr rs e hq⟩
      · exact .inr ⟨a, xs, rfl, by rw [hK]; exact hs, hx, i _ _ ρ S σ H F μ Q ρ' S' he hr rs e hq⟩
    · rw [if_neg hlen] at e
      cases e
  · cases e
theorem srGo_ok {o : Option (Env' × Store)} (h : PostS G W F μ Ds (srGo o)) : ∃ ρ S, o = some (ρ, S) ∧ PostS G W F μ Ds (.nx ρ S) := by
  cases o with
  | none => exact h.elim
  | some p => exact ⟨p.1, p.2, rfl, h⟩
theorem ss_asg {tg e : Expr} {pos : Pos} {m : ME} {g : MG} (h : SE G X W e m) (hg : SG G X tg g) (hs : swapsWithSole [tg] e pos.line X.env = pure false := by rfl) (hw : swappedStores [tg] e X.env = pure none := by rfl)
    (h1 : (assignEach [tg] X.env).map (·.2) = [assign tg X.env] := by rfl) : SS G X W (.Assign [tg] e pos) (sAsg m g) := by
  obtain ⟨t, p, i⟩ := h
  obtain ⟨u, q, j⟩ := hg
  refine ⟨_, ps_asg p q hs hw h1, fun ρ S σ H F μ Ds he hr hp => ?_⟩
  refine i ρ S σ H F μ _ he hr (PostS.res hp he fun d S1 F1 μ1 v H1 x1 r1 p1 q1 => ?_)
  obtain ⟨ρ2, S2, e2, q2⟩ := srGo_ok q1
  exact j d v ρ S1 σ H1 F1 μ1 Ds.nx ρ2 S2 (he.mono x1) r1 p1 e2 q2
theorem ss_set {i : Nat} {x : Str} {e : Expr} {m : ME} {pos pos' : Pos} (hN : X.N.Nodup) (h : SE G X W e m) (hi : X.N[i]? = some x := by rfl) (hx : Loc X.env.scope x := by first | exact Or.inl rfl | exact Or.inr rfl) (hs : swapsWith e (some (.Name x pos')) pos.line X.env = pure false := by rfl) (hf : X.fn x = true ∨ X.env.scope.names.lookup x = some .local := by first | exact .inl rfl | exact .inr rfl) :
    SS G X W (.Assign [.Name x pos'] e pos) (sAsg m (gNm i)) := by
  obtain ⟨t, p, im⟩ := h
  refine ⟨_, ps_set hN hi hx p hs hf, fun ρ S σ H F μ Ds he hr hp => ?_⟩
  refine im ρ S σ H F μ _ he hr (PostS.res hp he fun d S1 F1 μ1 v H1 x1 r1 p1 q1 => ?_)
  exact q1 F1 μ1 _ H1 (Ext.refl _ _) r1 ((he.mono x1).set i p1)
theorem ss_par {i j : Nat} {x y : Str} {a b : Expr} {m : ML} {px py pt pos : Pos} {kt k2 : Nat} {pt2 : Pos} (hc : X.calm = true) (hN : X.N.Nodup) (hij : i ≠ j) (ha : SA G X W [a, b] m) (hi : X.N[i]? = some x := by rfl) (hj : X.N[j]? = some y := by rfl)
    (hx : X.env.scope.names.lookup x = some .local := by rfl) (hy : X.env.scope.names.lookup y = some .local := by rfl)
    (hw : swappedStores [.Tuple [.Name x px, .Name y py] kt pt] (.Tuple [a, b] k2 pt2) X.env = pure (some [x, y]) := by rfl)
    (hs : swapsWithSole [.Tuple [.Name x px, .Name y py] kt pt] (.Tuple [a, b] k2 pt2) pos.line X.env = pure false := by rfl) :
    SS G X W (.Assign [.Tuple [.Name x px, .Name y py] kt pt] (.Tuple [a, b] k2 pt2) pos) (sPar i j m) := by
  obtain ⟨t, p, im⟩ := ha
  refine ⟨_, ps_par hc hN hi hj hij hx hy p hw hs, fun ρ S σ H F μ Ds he hr hp => ?_⟩
  refine im ρ S σ H F μ _ he hr (PostS.res hp he fun ds S1 F1 μ1 vs H1 x1 r1 p1 q1 => ?_)
  cases p1 with
  | nil => exact q1.elim
  | cons a1 b1 =>
    cases b1 with
    | nil => exact q1.elim
    | cons a2 b2 =>
      cases b2 with
      | nil => exact ⟨_, _, rfl, q1 F1 μ1 _ H1 (Ext.refl _ _) r1 (((he.mono x1).set i a1).set j a2)⟩
      | cons _ _ => exact q1.elim
end

/-! ## loops -/
def SR.turn (r : SR) (f : Env' → Store → SR) : SR :=
  match r with
  | .nx ρ S => f ρ S
  | .ct ρ S => f ρ S
  | .bk ρ S => .nx ρ S
  | r => r
@[simp] theorem turn_nx (ρ : Env') (S : Store) (f : Env' → Store → SR) : (SR.nx ρ S).turn f = f ρ S := rfl
@[simp] theorem turn_rt (d : D) (S : Store) (f : Env' → Store → SR) : (SR.rt d S).turn f = .rt d S := rfl
@[simp] theorem turn_bk (ρ : Env') (S : Store) (f : Env' → Store → SR) : (SR.bk ρ S).turn f = .nx ρ S := rfl
@[simp] theorem turn_ct (ρ : Env') (S : Store) (f : Env' → Store → SR) : (SR.ct ρ S).turn f = f ρ S := rfl
@[simp] theorem turn_ex (ρ : Env') (c : Nat) (ks : List Str) (vs : List D) (S : Store) (f : Env' → Store → SR) : (SR.ex ρ c ks vs S).turn f = .ex ρ c ks vs S := rfl
@[simp] theorem turn_bad (f : Env' → Store → SR) : (SR.bad).turn f = .bad := rfl
def forL (g : MG) (b : MS) : List D → Env' → Store → SR
  | [], ρ, S => .nx ρ S
  | d :: ds, ρ, S => (srGo (g d ρ S)).seq fun ρ1 S1 => (b ρ1 S1).turn fun ρ2 S2 => forL g b ds ρ2 S2
def sFor (l : ML) (g : MG) (b : MS) : MS := fun ρ S => srRes ρ (l ρ S) fun ds S1 => forL g b ds ρ S1
def whileN (c : MB) (b : MS) : Nat → Env' → Store → SR
  | 0, _, _ => .bad
  | n + 1, ρ, S => srRes ρ (c ρ S) fun k S1 => if k = true then (b ρ S1).turn fun ρ2 S2 => whileN c b n ρ2 S2 else .nx ρ S1
open Classical in
noncomputable def sWhile (c : MB) (b : MS) : MS := fun ρ S =>
  if h : ∃ n, whileN c b n ρ S ≠ .bad then whileN c b (Classical.choose h) ρ S else .bad
section
variable {G : Gm} {X : Cx} {W : WX} {k : Nat} {F F1 : Hp} {μ μ1 : List Addr} {Ds : Ends}
theorem PostS.turn {r : SR} {f : Env' → Store → SR} {N : L2.St → Hp → Prop} (h : PostS G W F μ Ds (r.turn f))
    (kk : ∀ ρ S F' μ' σ' H', Ext F μ F' μ' → Rel G F' μ' S H' → EnvR G F' μ' ρ σ' → PostS G W F' μ' Ds (f ρ S) → N σ' H') : PostS G W F μ { Ds with nx := N, ct := N, bk := Ds.nx } r := by
  cases r with
  | nx ρ S => exact fun F' μ' v H' e a b => kk ρ S F' μ' v H' e a b (PostS.mono (show PostS G W F μ Ds (f ρ S) from h) e)
  | ct ρ S => exact fun F' μ' v H' e a b => kk ρ S F' μ' v H' e a b (PostS.mono (show PostS G W F μ Ds (f ρ S) from h) e)
  | rt d S => exact h
  | bk ρ S => exact h
  | ex ρ c ks vs S => exact h
  | bad => exact h
/-- the items come, in whatever world that goes on -/
structure Yields (G : Gm) (F : Hp) (μ : List Addr) (ds : List D) (J : It) : Prop where
  go : ∀ (i : Nat) (F1 : Hp) (μ1 : List Addr) (S : Store) (H : Hp), Ext F μ F1 μ1 → Rel G F1 μ1 S H → i < ds.length → J.go i H
  stop : ∀ (i : Nat) (F1 : Hp) (μ1 : List Addr) (S : Store) (H : Hp), Ext F μ F1 μ1 → Rel G F1 μ1 S H → ds.length ≤ i → J.stop i H
  yld : ∀ (i : Nat) (F1 : Hp) (μ1 : List Addr) (S : Store) (H : Hp) (x : V) (H' : Hp) (d : D), Ext F μ F1 μ1 → Rel G F1 μ1 S H → ds[i]? = some d → J.yld i H x H' →
    ∃ F2 μ2, Ext F1 μ1 F2 μ2 ∧ Rel G F2 μ2 S H' ∧ Rep G F2 μ2 d x
def ImpI (G : Gm) (W : WX) (t : TI) (m : ML) : Prop := ImpE G W (Yields G) (fun σ H (R : It → Hp → Prop) => t σ H R) m
structure SI (G : Gm) (X : Cx) (W : WX) (tg it : Expr) (m : ML) : Prop where
  ex : ∃ t, PI X tg it t ∧ ImpI G W t m
theorem ss_for {tg it : Expr} {body : List Stmt} {pos : Pos} {l : ML} {g : MG} {b : MS} (hp : PassesOwn (model X.prog X.w) X.A X.env X.xe) (hc : X.calm = true) (hi : SI G X W tg it l) (hg : SG G X tg g) (hb : SSs G X W body b)
    (hs : ∀ x, foldedSetIterable it X.env x = pure x := by intro _; rfl) : SS G X W (.For tg it body [] pos) (sFor l g b) := by
  obtain ⟨ti, pi, ii⟩ := hi
  obtain ⟨t, pg, ig⟩ := hg
  obtain ⟨tb, pb, ib⟩ := hb
  refine ⟨_, ps_for hp hc pi pg pb hs, fun ρ S σ H F μ Ds he hr hpo => ?_⟩
  refine ii ρ S σ H F μ _ he hr (PostS.res hpo he fun ds S1 F1 μ1 J H1 x1 r1 y1 q1 => ?_)
  refine ⟨fun i m σ H => m = ds.length - i ∧ i ≤ ds.length ∧ ∃ F' μ' ρ S, Ext F1 μ1 F' μ' ∧ Rel G F' μ' S H ∧ EnvR G F' μ' ρ σ ∧ PostS G W F' μ' Ds (forL g b (ds.drop i) ρ S), ⟨ds.length, by simp, Nat.zero_le _, F1, μ1, ρ, S1, Ext.refl _ _, r1, he.mono x1, q1⟩, ?_⟩
  rintro i m σ2 H2 ⟨rfl, hi, F2, μ2, ρ2, S2, x2, r2, e2, q2⟩
  by_cases hlt : i < ds.length
  · refine .inr ⟨y1.go i F2 μ2 S2 H2 x2 r2 hlt, fun σ' H' => ∃ F' μ' ρ S, Ext F1 μ1 F' μ' ∧ Rel G F' μ' S H' ∧ EnvR G F' μ' ρ σ' ∧ PostS G W F' μ' Ds (forL g b (ds.drop (i + 1)) ρ S), fun σ' H' h => ⟨ds.length - (i + 1), by omega, rfl, hlt, h⟩, fun x H' hy => ?_⟩
    have hd : ds[i]? = some ds[i] := List.getElem?_eq_getElem hlt
    obtain ⟨F3, μ3, x3, r3, p3⟩ := y1.yld i F2 μ2 S2 H2 x H' _ x2 r2 hd hy
    have hdrop : ds.drop i = ds[i] :: ds.drop (i + 1) := (List.drop_eq_getElem_cons hlt)
    rw [hdrop] at q2
    simp only [forL] at q2
    cases hgd : g ds[i] ρ2 S2 with
    | none => rw [hgd] at q2; exact q2.elim
    | some w =>
      rw [hgd] at q2
      refine ig _ x ρ2 S2 σ2 H' F3 μ3 _ w.1 w.2 (e2.mono x3) r3 p3 hgd fun F4 μ4 σ4 H4 x4 r4 e4 => ?_
      refine ib w.1 w.2 σ4 H4 F4 μ4 _ e4 r4 ?_
      have xx := x2.trans (x3.trans x4)
      exact PostS.turn (PostS.mono q2 (x3.trans x4)) fun ρ5 S5 F5 μ5 σ5 H5 x5 r5 e5 q5 => ⟨F5, μ5, ρ5, S5, xx.trans x5, r5, e5, q5⟩
  · refine .inl ⟨y1.stop i F2 μ2 S2 H2 x2 r2 (by omega), ?_⟩
    rw [List.drop_eq_nil_of_le (by omega)] at q2
    exact q2 F2 μ2 σ2 H2 (Ext.refl _ _) r2 e2
theorem ss_while {c : Expr} {body : List Stmt} {pos : Pos} {mc : MB} {b : MS} (hp : PassesOwn (model X.prog X.w) X.A X.env X.xe) (hc : ST G X W c mc) (hb : SSs G X W body b) : SS G X W (.While c body [] pos) (sWhile mc b) := by
  obtain ⟨tc, pc, ic⟩ := hc
  obtain ⟨tb, pb, ib⟩ := hb
  refine ⟨_, ps_while hp pc pb, fun ρ S σ H F μ Ds he hr hpo => ?_⟩
  unfold sWhile at hpo
  split at hpo
  · rename_i hn
    obtain ⟨n, hn⟩ : ∃ n, n = Classical.choose hn := ⟨_, rfl⟩
    rw [← hn] at hpo
    refine ⟨fun m σ H => ∃ F' μ' ρ S, Rel G F' μ' S H ∧ EnvR G F' μ' ρ σ ∧ PostS G W F' μ' Ds (whileN mc b m ρ S), ⟨n, F, μ, ρ, S, hr, he, hpo⟩, ?_⟩
    rintro m σ1 H1 ⟨F1, μ1, ρ1, S1, r1, e1, q1⟩
    cases m with
    | zero => exact q1.elim
    | succ m =>
      refine ic ρ1 S1 σ1 H1 F1 μ1 _ e1 r1 (PostS.res (show PostS G W F1 μ1 Ds (srRes ρ1 (mc ρ1 S1) _) from q1) e1 fun c S2 F2 μ2 c' H2 x2 r2 p2 q2 => ?_)
      cases (show c = c' from p2)
      cases c with
      | false => exact iteF (q2 F2 μ2 σ1 H2 (Ext.refl _ _) r2 (e1.mono x2))
      | true =>
        refine iteT ⟨fun σ' H' => ∃ F' μ' ρ S, Rel G F' μ' S H' ∧ EnvR G F' μ' ρ σ' ∧ PostS G W F' μ' Ds (whileN mc b m ρ S), fun σ' H' h => ⟨m, Nat.lt_succ_self m, h⟩, ?_⟩
        rw [if_pos rfl] at q2
        refine ib ρ1 S2 σ1 H2 F2 μ2 _ (e1.mono x2) r2 ?_
        exact PostS.turn q2 fun ρ5 S5 F5 μ5 σ5 H5 x5 r5 e5 q5 => ⟨F5, μ5, ρ5, S5, r5, e5, q5⟩
  · exact hpo.elim
/-- a loop that comes to its end has this value -/
theorem whileN_mono (c : MB) (b : MS) : ∀ (n m : Nat) (ρ : Env') (S : Store), whileN c b n ρ S ≠ .bad → n ≤ m → whileN c b m ρ S = whileN c b n ρ S
  | 0, _, _, _, h, _ => absurd rfl h
  | n + 1, 0, _, _, _, hm => absurd hm (by omega)
  | n + 1, m + 1, ρ, S, h, hm => by
    simp only [whileN] at h ⊢
    cases hc : c ρ S with
    | bad => rfl
    | ex _ _ _ _ => rfl
    | ok kk S1 =>
      rw [hc] at h
      simp only [srRes_ok] at h ⊢
      by_cases hk : kk = true
      · rw [if_pos hk] at h ⊢
        rw [if_pos hk]
        cases hb : b ρ S1 with
        | nx ρ2 S2 =>
          rw [hb] at h
          exact whileN_mono c b n m ρ2 S2 h (by omega)
        | ct ρ2 S2 =>
          rw [hb] at h
          exact whileN_mono c b n m ρ2 S2 h (by omega)
        | _ => rfl
      · rw [if_neg hk, if_neg hk]
theorem sWhile_eq {c : MB} {b : MS} {ρ : Env'} {S : Store} {n : Nat} {r : SR} (h : whileN c b n ρ S = r) (hr : r ≠ .bad) : sWhile c b ρ S = r := by
  have hn : ∃ n, whileN c b n ρ S ≠ .bad := ⟨n, by rw [h]; exact hr⟩
  unfold sWhile
  rw [dif_pos hn]
  have hz := Classical.choose_spec hn
  obtain ⟨z, ez⟩ : ∃ z, z = Classical.choose hn := ⟨_, rfl⟩
  rw [← ez] at hz ⊢
  rcases Nat.le_total z n with q | q
  · rw [← whileN_mono c b z n ρ S hz q, h]
  · rw [whileN_mono c b n z ρ S (by rw [h]; exact hr) q, h]
end
end Z

set_option Elab.async false
set_option linter.all false
set_option maxRecDepth 100000
set_option maxHeartbeats 2000000
set_option autoImplicit false
namespace Z
open PySem PySem.Spec L2

/-! ## defs and their calls -/
abbrev MF := List D → Store → Res D
def wE (E : XK) : WX := fun c d _ H => E c d H
def spM (G : Gm) (n : Nat) (mf : MF) : Sp := fun vs H Q E => vs.length = n ∧ ∃ F μ S ds, Rel G F μ S H ∧ Reps G F μ ds vs ∧ Post G (wE E) (Rep G) F μ [] Q (mf ds S)
/-- the def at f does what mf says -/
structure GFn (G : Gm) (P : Program) (w : World) (base : Heap) (k : Nat) (f : Addr) (fd : FuncData) (ps : List Str) (mf : MF) : Prop where
  run : ∀ (A : Around) (outer : List Env) (s : Shared) (H : Hp) (args : Args) (us : List Value) (vs : List V) (Q : VK) (E : XK), Room k A → A.guards = some [] → Env0 P w G.K G.mg base A outer s H →
    BindsTo s fd args (ps.zip us) → Vals vs us → spM G ps.length mf vs H Q E → codeAny (model P w) A (.call (.ref f) args) (CR (L2.CX P w) outer P w H s Q E) s
theorem GFn.mono {G : Gm} {P : Program} {w : World} {base : Heap} {j k : Nat} {f : Addr} {fd : FuncData} {ps : List Str} {mf : MF} (h : GFn G P w base j f fd ps mf) (hjk : j ≤ k) : GFn G P w base k f fd ps mf :=
  ⟨fun A outer s H args us vs Q E hr => h.run A outer s H args us vs Q E (hr.mono hjk)⟩
def runDef (n m : Nat) (b : MS) : MF := fun args S =>
  if args.length = n then
    match b (args.map some ++ List.replicate (m - n) none) S with
    | .nx _ S' => .ok .non S'
    | .rt d S' => .ok d S'
    | .ex _ c ks vs S' => .ex c ks vs S'
    | _ => .bad
  else .bad
/-- a def of the text as it stands behind the top (with or without defaults) -/
structure FunG (K : PySem.W.Frag) (x qual : Str) (st : Stmt) (f : Addr) (fd : FuncData) : Prop where
  ex : ∃ (oc : Value) (od : Option Addr) (dV kV doc pm : Value) (an : Option Addr) (cdv ct : Value) (osl : Array (Option Value)),
    fd = PySem.W.fnOf x qual (defArgs st) (defBody st) (defScope st) dV kV doc pm an cdv ct ∧ K.lookup f = some ⟨oc, od, .func fd, osl⟩ ∧ PySem.W.codeIn K cdv qual = true
  kp : PySem.W.keepIn K (.ref f) = true
theorem funG_mk {K : PySem.W.Frag} {x qual : Str} {st : Stmt} {f : Addr} {oc : Value} {od an : Option Addr} {osl : Array (Option Value)} {dV kV doc pm cdv ct : Value}
    (l : K.lookup f = some ⟨oc, od, .func (PySem.W.fnOf x qual (defArgs st) (defBody st) (defScope st) dV kV doc pm an cdv ct), osl⟩) (c : PySem.W.codeIn K cdv qual = true) (k : PySem.W.keepIn K (.ref f) = true) :
    FunG K x qual st f (PySem.W.fnOf x qual (defArgs st) (defBody st) (defScope st) dV kV doc pm an cdv ct) := ⟨⟨oc, od, dV, kV, doc, pm, an, cdv, ct, osl, rfl, l, c⟩, k⟩
section
variable {G : Gm} {P : Program} {w : World} {base : Heap}
theorem env_start {F : Hp} {μ : List Addr} {N : List Str} {ds : List D} {vs : List V} {n : Nat} (r : Reps G F μ ds vs) (hn : ds.length = n) : EnvR G F μ (ds.map some ++ List.replicate (N.length - n) none) (L2.start N vs) := by
  have hl := r.length
  refine ⟨by unfold L2.start; simp [hl]; omega, fun i d h => ?_⟩
  unfold L2.start
  by_cases hi : i < ds.length
  · rw [List.getElem?_append_left (by simpa using hi), List.getElem?_map] at h
    cases e : ds[i]? with
    | none => rw [e] at h; cases h
    | some d' =>
      rw [e] at h
      cases h
      obtain ⟨v, h1, h2⟩ := r.get e
      exact ⟨v, by rw [List.getElem?_append_left (by rw [List.length_map, ← hl]; exact hi), List.getElem?_map, h1]; rfl, h2⟩
  · rw [List.getElem?_append_right (by simp; omega)] at h
    obtain ⟨_, e⟩ := List.getElem?_eq_some_iff.mp h
    simp at e
theorem GFn.of_body {x qual : Str} {st : Stmt} {f : Addr} {fd : FuncData} {N ps : List Str} {k : Nat} {b : MS} (FF : FunG G.K x qual st f fd) (S : FnScope N ps (defScope st))
    (hbody : ∀ (cdv : Value) (A : Around) (outer : List Env) (s : Shared) (H : Hp) (E : XK), Ok G (cxOf (L2.CX P w) P w G.K G.mg base N qual (defScope st) f cdv A outer s H E) k (wE E) →
      SSs G (cxOf (L2.CX P w) P w G.K G.mg base N qual (defScope st) f cdv A outer s H E) (wE E) (defBody st) b) : GFn G P w base (k + 1) f fd ps (runDef ps.length N.length b) := by
  obtain ⟨oc, od, dV, kV, doc, pm, an, cdv, ct, osl, rfl, lk, hcd⟩ := FF.ex
  refine ⟨fun A outer s H args us vs Q E hr hgd e0 hb r hsp => ?_⟩
  obtain ⟨hl, F, μ, S0, ds, hrel, hreps, hpost⟩ := hsp
  have KX : G.K.In s.heap := e0.mod.kin.keeps (fun b o e =>
    (e0.bs b o e).1)
  have lim : s.heap.NoLimit := e0.mod.nolimit.keeps (fun b o e =>
    (e0.bs b o e).1)
  have hkind : ∀ y ∈ ps.zip us, (defScope st).names.lookup y.1 = some .local ∨
      ((defScope st).names.lookup y.1 = some .cell ∧ ((cellsFrom (s.heap.objs.size + 1) (defScope st).names []).lookup y.1).isSome = true) := by
    intro y hy
    have hm := (List.of_mem_zip (show (y.1, y.2) ∈ ps.zip us from hy)).1
    rcases S.par y.1 hm with q | q
    · exact .inl q
    · exact .inr ⟨q, PySem.W.cellsFrom_some _ _ _ (.inl q)⟩
  refine codeAny_call_function hr.depth (KX _ _ lk) rfl S.co S.gen rfl (PySem.W.codeRec_of KX hcd) (hb _ _ _ _ ?_)
  refine wpAny_newFunctionEnv_cells S.kind hkind (fun env he s1 x1 => ?_)
  subst he
  refine ⟨lim.keeps x1.toInCall.keep, codeAny_func ?_⟩
  have hk : Ok G (cxOf (L2.CX P w) P w G.K G.mg base N qual (defScope st) f cdv A outer s H E) k (wE E) :=
    ⟨rfl, rfl, rfl, S.nd, hr.deeper _, hgd, takes_of rfl rfl rfl rfl, passes_of rfl⟩
  obtain ⟨t, ht, hi⟩ := hbody cdv A outer s H E hk
  have I : Inv (cxOf (L2.CX P w) P w G.K G.mg base N qual (defScope st) f cdv A outer s H E) [] (L2.start N vs) H s1 :=
    inv_start S hr.hd e0 hl r x1
  have hds : ds.length = ps.length := by rw [hreps.length, hl]
  have hq : t { nx := fun _ H' => Q .non H', rt := Q } (L2.start N vs) H := by
    refine hi _ S0 _ H F μ _ (env_start (N := N) hreps hds) hrel ?_
    unfold runDef at hpost
    rw [if_pos hds] at hpost
    revert hpost
    cases b (ds.map some ++ List.replicate (N.length - ps.length) none) S0 with
    | nx ρ S' => exact fun h F' μ' σ' H' x r e => h F' μ' .non H' x r .non
    | rt d S' => exact fun h => h
    | ex ρ c ks vs S' => exact fun h F' μ' σ' dx xs H' x r e a l q => h F' μ' dx xs H' x r a l q
    | _ => exact fun h => h.elim
  refine wpAny_mono (ht.run [] s1 (L2.start N vs) H _ I hq) (fun fl s' hs => ?_) (fun e s' hs => hs)
  have fin : ∀ {σ' : L2.St} {H' : Hp} {v : V} {u : Value}, Inv (cxOf (L2.CX P w) P w G.K G.mg base N qual (defScope st) f cdv A outer s H E) [] σ' H' s' → RelV v u → Q v H' → CE outer P w H s Q u s' :=
    fun {σ' H' v u} J rv q =>
      ⟨v, H', J.os, J.bare, J.base, J.hok, rv, q⟩
  cases fl with
  | ret u =>
    obtain ⟨v, σ', H', J, rv, q⟩ := hs
    exact fin J rv q
  | next =>
    obtain ⟨σ', H', J, q⟩ := hs
    exact fin (v := V.non) (u := Value.none) J rfl q
  | brk => exact hs.elim fun _ h => h.elim fun _ h => h.2.elim
  | cont => exact hs.elim fun _ h => h.elim fun _ h => h.2.elim
end

section
variable {G : Gm} {X : Cx} {W : WX} {k j : Nat}
/-- the callee runs, from an expression -/
theorem run_G {f : Addr} {fd : FuncData} {ps : List Str} {mf : MF} {pins : List (Addr × Obj)} {σ : L2.St} {H : Hp} {s : Shared} {Q : VK} {args : Args} {us : List Value} {vs : List V}
    (ok : Ok G X k W) (g : GFn G X.prog X.w X.base j f fd ps mf) (hj : j ≤ k) (I : Inv X pins σ H s) (hb : BindsTo s fd args (ps.zip us)) (r : Vals vs us) (h : spM G ps.length mf vs H Q (WE W σ)) :
    codeAny (model X.prog X.w) X.A (.call (.ref f) args) (fun r s' => match r with | .ok (.ret u) => EP X pins σ Q u s' | .ok _ => False | .error e => X.xe e s') s := by
  have e0 : Env0 X.prog X.w G.K G.mg X.base X.A X.stack s H := by
    have e := I.env0
    rw [ok.K, ok.mg] at e
    exact e
  refine codeAny_mono (g.run X.A X.stack s H args us vs Q (WE W σ) (ok.room.mono hj) ok.gd e0 hb r h) fun r s' hq => ?_
  cases r with
  | error e => exact passAt ok.tk σ pins H s e s' I hq
  | ok fl => cases fl with
    | ret u => exact I.after hq
    | _ => exact hq.elim
/-- how positional arguments are bound -/
def BdP (K : PySem.W.Frag) (fd : FuncData) (ps : List Str) : Prop := ∀ (s : Shared) (us : List Value), K.In s.heap → us.length = ps.length → BindsTo s fd ⟨us, []⟩ (ps.zip us)
theorem bdP_mk {K : PySem.W.Frag} {fd : FuncData} {ps : List Str} (h : ∀ us : List Value, us.length = ps.length → bindArgs fd ⟨us, []⟩ = pure (ps.zip us)) : BdP K fd ps := fun s us _ hl => .of_eq (h us hl)
def tSp (sp : Sp) (E : L2.St → XK) (t : TA) : TE := fun σ H Q => t σ H fun vs H1 => sp vs H1 Q (E σ)
theorem imp_call {n : Nat} {mf : MF} {t : TA} {m : ML} (hl : ∀ ds S, mf ds S ≠ .bad → ds.length = n) (h : ImpE G W (Reps G) t m) : ImpE G W (Rep G) (tSp (spM G n mf) (WE W) t) (mCall mf m) := by
  intro ρ S σ H F μ Q he hr hp
  refine h ρ S σ H F μ _ he hr (Post.bind hp fun ds S1 F1 μ1 vs H1 x1 r1 p1 q1 => ?_)
  refine ⟨?_, F1, μ1, S1, ds, r1, p1, ?_⟩
  · rw [← p1.length]
    refine hl ds S1 fun z => ?_
    rw [z] at q1
    exact q1.elim
  · cases hm : mf ds S1 with
    | ok d S2 => rw [hm] at q1; exact q1
    | ex c ks vs S2 => rw [hm] at q1; exact q1
    | bad => rw [hm] at q1; exact q1
theorem runDef_len {n m : Nat} {b : MS} {ds : List D} {S : Store} (h : runDef n m b ds S ≠ .bad) : ds.length = n := by
  unfold runDef at h
  split at h
  · assumption
  · exact absurd rfl h
theorem se_call {f : Addr} {fd : FuncData} {ps : List Str} {mf : MF} {x : Str} {p pos : Pos} {e : Expr} {es : List Expr} {m : ML} (ok : Ok G X k W) (g : GFn G X.prog X.w X.base j f fd ps mf) (hj : j ≤ k) (hl : ∀ ds S, mf ds S ≠ .bad → ds.length = ps.length)
    (hm : G.mg x = some (.ref f)) (hk : PySem.W.keepIn G.K (.ref f) = true) (hb : BdP G.K fd ps) (ha : SA G X W (e :: es) m) (hg : Gl X x := by rfl)
    (hdb : (x == ("__debug__" : Str)) = false := by decide) (he : starEach (e :: es) X.env = (false, eval e X.env) :: starEach es X.env := by rfl) (hpl : (backTo pos (starEach es X.env)).any (·.1) = false := by rfl) :
    SE G X W (.Call (.Name x p) (e :: es) [] pos) (mCall mf m) := by
  obtain ⟨t, pa, i⟩ := ha
  refine ⟨_, ?_, imp_call hl i⟩
  refine ⟨fun pins s σ H Q I h => wpAny_Call_Name_kw (ld_glob I hg (by rw [ok.mg]; exact hm) ?_ hdb)⟩
  refine PySem.W.callWith_K (h₀ := X.base) I.ok.mod.kin (by rw [ok.K]; exact hk) (thn (pa.run pos pins s σ H _ I h) fun us s1 hv => ?_) he hpl
  obtain ⟨vs, H1, I1, r, q⟩ := hv
  refine ⟨I1.kIn, wpAny_call (codeAny_mono (run_G ok g hj I1 (hb s1 us (by have z := I1.kIn; rw [ok.K] at z; exact z) (by rw [← r.length]; exact q.1)) r q) fun r' s' hq => ?_)⟩
  cases r' with
  | error e => exact hq
  | ok fl => cases fl with
    | ret u => exact hq
    | _ => exact hq.elim
theorem se_call0 {f : Addr} {fd : FuncData} {ps : List Str} {mf : MF} {x : Str} {p pos : Pos} (ok : Ok G X k W) (g : GFn G X.prog X.w X.base j f fd ps mf) (hj : j ≤ k) (hl : ∀ ds S, mf ds S ≠ .bad → ds.length = ps.length)
    (hm : G.mg x = some (.ref f)) (hk : PySem.W.keepIn G.K (.ref f) = true) (hb : BdP G.K fd ps) (hg : Gl X x := by rfl)
    (hdb : (x == ("__debug__" : Str)) = false := by decide) : SE G X W (.Call (.Name x p) [] [] pos) (mCall mf mNilL) := by
  obtain ⟨t, pa, i⟩ := (sa_nil : SA G X W [] mNilL)
  refine ⟨_, ?_, imp_call (t := tNil) hl (fun ρ S σ H F μ Q he hr hp => hp F μ [] H (Ext.refl _ _) hr .nil)⟩
  refine ⟨fun pins s σ H Q I h => wpAny_Call_Name_kw (ld_glob I hg (by rw [ok.mg]; exact hm) ?_ hdb)⟩
  refine PySem.W.callWith_K0 I.kIn (by rw [ok.K]; exact hk) ?_
  refine wpAny_call (codeAny_mono (run_G (us := []) (vs := []) ok g hj I (hb s [] (by have z := I.kIn; rw [ok.K] at z; exact z) h.1) .nil h) fun r' s' hq => ?_)
  cases r' with
  | error e => exact hq
  | ok fl => cases fl with
    | ret u => exact hq
    | _ => exact hq.elim

/-! ### calls with keywords -/
inductive Src where
  | ps (j : Nat)
  | kw (j : Nat)
  | df (j : Nat)
def fill {α : Type} (us ws ds : List α) : List Src → Option (List α)
  | [] => some []
  | .ps j :: r => (us[j]?).bind fun a => (fill us ws ds r).map (a :: ·)
  | .kw j :: r => (ws[j]?).bind fun a => (fill us ws ds r).map (a :: ·)
  | .df j :: r => (ds[j]?).bind fun a => (fill us ws ds r).map (a :: ·)
/-- how positional and keywords' arguments are bound, defaults filling up -/
def BdK (K : PySem.W.Frag) (fd : FuncData) (ps : List Str) (n : Nat) (ks : List Str) (src : List Src) (dv : List Value) : Prop :=
  ∀ (s : Shared) (us ws r : List Value), K.In s.heap → us.length = n → ws.length = ks.length → fill us ws dv src = some r → BindsTo s fd ⟨us, ks.zip ws⟩ (ps.zip r)
theorem fill_rep {F : Hp} {μ : List Addr} {d1 d2 d3 : List D} {v1 v2 v3 : List V} (a : Reps G F μ d1 v1) (b : Reps G F μ d2 v2) (c : Reps G F μ d3 v3) : ∀ {src : List Src} {r : List D}, fill d1 d2 d3 src = some r → ∃ r', fill v1 v2 v3 src = some r' ∧ Reps G F μ r r'
  | [], _, h => by
    cases h
    exact ⟨[], rfl, .nil⟩
  | .ps j :: src, r, h => by
    simp only [fill] at h ⊢
    cases e : d1[j]? with
    | none => rw [e] at h; cases h
    | some d =>
      cases e2 : fill d1 d2 d3 src with
      | none => rw [e, e2] at h; cases h
      | some r2 =>
        rw [e, e2] at h
        cases h
        obtain ⟨v, h1, h2⟩ := a.get e
        obtain ⟨r', h3, h4⟩ := fill_rep a b c e2
        exact ⟨v :: r', by rw [h1, h3]; rfl, .cons h2 h4⟩
  | .kw j :: src, r, h => by
    simp only [fill] at h ⊢
    cases e : d2[j]? with
    | none => rw [e] at h; cases h
    | some d =>
      cases e2 : fill d1 d2 d3 src with
      | none => rw [e, e2] at h; cases h
      | some r2 =>
        rw [e, e2] at h
        cases h
        obtain ⟨v, h1, h2⟩ := b.get e
        obtain ⟨r', h3, h4⟩ := fill_rep a b c e2
        exact ⟨v :: r', by rw [h1, h3]; rfl, .cons h2 h4⟩
  | .df j :: src, r, h => by
    simp only [fill] at h ⊢
    cases e : d3[j]? with
    | none => rw [e] at h; cases h
    | some d =>
      cases e2 : fill d1 d2 d3 src with
      | none => rw [e, e2] at h; cases h
      | some r2 =>
        rw [e, e2] at h
        cases h
        obtain ⟨v, h1, h2⟩ := c.get e
        obtain ⟨r', h3, h4⟩ := fill_rep a b c e2
        exact ⟨v :: r', by rw [h1, h3]; rfl, .cons h2 h4⟩
theorem fill_val {v1 v2 v3 : List V} {u1 u2 u3 : List Value} (a : Vals v1 u1) (b : Vals v2 u2) (c : Vals v3 u3) : ∀ {src : List Src} {r : List V}, fill v1 v2 v3 src = some r → ∃ r', fill u1 u2 u3 src = some r' ∧ Vals r r'
  | [], _, h => by
    cases h
    exact ⟨[], rfl, .nil⟩
  | .ps j :: src, r, h => by
    simp only [fill] at h ⊢
    cases e : v1[j]? with
    | none => rw [e] at h; cases h
    | some d =>
      cases e2 : fill v1 v2 v3 src with
      | none => rw [e, e2] at h; cases h
      | some r2 =>
        rw [e, e2] at h
        cases h
        obtain ⟨v, h1, h2⟩ := a.get e
        obtain ⟨r', h3, h4⟩ := fill_val a b c e2
        exact ⟨v :: r', by rw [h1, h3]; rfl, .cons h2 h4⟩
  | .kw j :: src, r, h => by
    simp only [fill] at h ⊢
    cases e : v2[j]? with
    | none => rw [e] at h; cases h
    | some d =>
      cases e2 : fill v1 v2 v3 src with
      | none => rw [e, e2] at h; cases h
      | some r2 =>
        rw [e, e2] at h
        cases h
        obtain ⟨v, h1, h2⟩ := b.get e
        obtain ⟨r', h3, h4⟩ := fill_val a b c e2
        exact ⟨v :: r', by rw [h1, h3]; rfl, .cons h2 h4⟩
  | .df j :: src, r, h => by
    simp only [fill] at h ⊢
    cases e : v3[j]? with
    | none => rw [e] at h; cases h
    | some d =>
      cases e2 : fill v1 v2 v3 src with
      | none => rw [e, e2] at h; cases h
      | some r2 =>
        rw [e, e2] at h
        cases h
        obtain ⟨v, h1, h2⟩ := c.get e
        obtain ⟨r', h3, h4⟩ := fill_val a b c e2
        exact ⟨v :: r', by rw [h1, h3]; rfl, .cons h2 h4⟩
/-- the keywords' values -/
structure SK (G : Gm) (X : Cx) (W : WX) (kws : List Keyword) (m : ML) : Prop where
  ex : ∃ t, PK X kws t ∧ ImpE G W (Reps G) t m
theorem sk_nil : SK G X W [] mNilL := ⟨_, pk_nil, fun ρ S σ H F μ Q he hr hp => hp F μ [] H (Ext.refl _ _) hr .nil⟩
theorem sk_cons {nm : Option Str} {e : Expr} {kpos : Pos} {kws : List Keyword} {m : ME} {n : ML} (ha : SE G X W e m) (hb : SK G X W kws n) : SK G X W (⟨nm, e, kpos⟩ :: kws) (mConsL m n) := by
  obtain ⟨ta, pa, ia⟩ := ha
  obtain ⟨tb, pb, ib⟩ := hb
  refine ⟨_, pk_cons pa pb, fun ρ S σ H F μ Q he hr hp => ?_⟩
  refine ia ρ S σ H F μ _ he hr (Post.bind hp fun x S1 F1 μ1 u H1 x1 r1 p1 q1 => ?_)
  refine ib ρ S1 σ H1 F1 μ1 _ (he.mono x1) r1 (Post.bind q1 fun xs S2 F2 μ2 us H2 x2 r2 p2 q2 => ?_)
  exact q2 F2 μ2 _ H2 (Ext.refl _ _) r2 (.cons (p1.mono x2) p2)
def mCallK (mf : MF) (n m : Nat) (src : List Src) (df : List D) (a b : ML) : ME := fun ρ S => (a ρ S).bind fun us S1 => (b ρ S1).bind fun ws S2 =>
  if us.length = n ∧ ws.length = m then
    match fill us ws df src with
    | some r => mf r S2
    | none => .bad
  else .bad
/-- the defaults' values: known ahead -/
def Dfl (G : Gm) (df : List D) (dv : List Value) : Prop := ∃ vs, Vals vs dv ∧ ∀ F μ, Reps G F μ df vs
theorem dfl_nil : Dfl G [] [] := ⟨[], .nil, fun _ _ => .nil⟩
def tSpK (G : Gm) (n m pn : Nat) (src : List Src) (mf : MF) (dvs : List V) (E : L2.St → XK) (t tk : TA) : TE := fun σ H Q => t σ H fun vs H1 => tk σ H1 fun zs H2 => vs.length = n ∧ zs.length = m ∧ ∃ r, fill vs zs dvs src = some r ∧ spM G pn mf r H2 Q (E σ)
theorem se_callK {f : Addr} {fd : FuncData} {ps ks : List Str} {n : Nat} {src : List Src} {df : List D} {dv : List Value} {mf : MF} {x : Str} {p pos : Pos} {e : Expr} {es : List Expr} {kws : List Keyword} {a b : ML}
    (ok : Ok G X k W) (g : GFn G X.prog X.w X.base j f fd ps mf) (hj : j ≤ k) (hl : ∀ ds S, mf ds S ≠ .bad → ds.length = ps.length)
    (hm : G.mg x = some (.ref f)) (hk : PySem.W.keepIn G.K (.ref f) = true) (hd : Dfl G df dv) (hb : BdK G.K fd ps n ks src dv) (ha : SA G X W (e :: es) a) (hkw : SK G X W kws b) (hg : Gl X x := by rfl)
    (hall : (backToKw pos (keywordEach kws X.env)).all (·.1.isSome) = true := by rfl) (hks : (backToKw pos (keywordEach kws X.env)).filterMap (·.1) = ks := by rfl)
    (hdb : (x == ("__debug__" : Str)) = false := by decide) (he : starEach (e :: es) X.env = (false, eval e X.env) :: starEach es X.env := by rfl)
    (hpl : ((backTo pos (starEach (e :: es) X.env)).any (·.1) || (backToKw pos (keywordEach kws X.env)).any (·.1.isNone)) = false := by rfl) :
    SE G X W (.Call (.Name x p) (e :: es) kws pos) (mCallK mf n ks.length src df a b) := by
  obtain ⟨t, pa, i⟩ := ha
  obtain ⟨tk, pk, ik⟩ := hkw
  obtain ⟨dvs, rd, hdf⟩ := hd
  refine ⟨tSpK G n ks.length ps.length src mf dvs (WE W) t tk, ⟨fun pins s σ H Q I h => wpAny_Call_Name_kw (ld_glob I hg (by rw [ok.mg]; exact hm) ?_ hdb)⟩, fun ρ S σ H F μ Q hen hr hp => ?_⟩
  · refine PySem.W.callWith_KW (h₀ := X.base) I.ok.mod.kin (by rw [ok.K]; exact hk) hall (thn (pa.run pos pins s σ H _ I h) fun us s1 hv => ?_) hpl he
    obtain ⟨vs, H1, I1, r, q⟩ := hv
    refine thn (pk.run pos pins s1 σ H1 _ I1 q) fun ws s2 hv2 => ?_
    obtain ⟨zs, H2, I2, rz, hn1, hn2, r', hfill, hsp⟩ := hv2
    obtain ⟨u', hfu, ru⟩ := fill_val r rz rd hfill
    refine ⟨I2.kIn, ?_⟩
    rw [hks]
    refine wpAny_call (codeAny_mono (run_G ok g hj I2 (hb s2 us ws u' (by have z := I2.kIn; rw [ok.K] at z; exact z) (by rw [← r.length]; exact hn1) (by rw [← rz.length]; exact hn2) hfu) ru hsp) fun r' s' hq => ?_)
    cases r' with
    | error e => exact hq
    | ok fl => cases fl with
      | ret u => exact hq
      | _ => exact hq.elim
  · refine i ρ S σ H F μ _ hen hr (Post.bind hp fun us S1 F1 μ1 vs H1 x1 r1 p1 q1 => ?_)
    refine ik ρ S1 σ H1 F1 μ1 _ (hen.mono x1) r1 (Post.bind q1 fun ws S2 F2 μ2 zs H2 x2 r2 p2 q2 => ?_)
    obtain ⟨⟨hn1, hn2⟩, q3⟩ := post_if q2
    cases hf : fill us ws df src with
    | none => rw [hf] at q3; exact q3.elim
    | some rr =>
      rw [hf] at q3
      have q3 : Post G W (Rep G) F2 μ2 σ Q (mf rr S2) := q3
      obtain ⟨r', hf', hr'⟩ := fill_rep (p1.mono x2) p2 (hdf F2 μ2) hf
      refine ⟨by rw [← p1.length]; exact hn1, by rw [← p2.length]; exact hn2, r', hf', ?_, F2, μ2, S2, rr, r2, hr', ?_⟩
      · rw [← hr'.length]
        refine hl rr S2 fun z => ?_
        rw [z] at q3
        exact q3.elim
      · cases hmm : mf rr S2 with
        | ok d S2 => rw [hmm] at q3; exact q3
        | ex c ks vs S2 => rw [hmm] at q3; exact q3
        | bad => rw [hmm] at q3; exact q3
theorem se_callK0 {f : Addr} {fd : FuncData} {ps ks : List Str} {src : List Src} {df : List D} {dv : List Value} {mf : MF} {x : Str} {p pos : Pos} {kws : List Keyword} {b : ML}
    (ok : Ok G X k W) (g : GFn G X.prog X.w X.base j f fd ps mf) (hj : j ≤ k) (hl : ∀ ds S, mf ds S ≠ .bad → ds.length = ps.length)
    (hm : G.mg x = some (.ref f)) (hk : PySem.W.keepIn G.K (.ref f) = true) (hd : Dfl G df dv) (hb : BdK G.K fd ps 0 ks src dv) (hkw : SK G X W kws b) (hg : Gl X x := by rfl)
    (hall : (backToKw pos (keywordEach kws X.env)).all (·.1.isSome) = true := by rfl) (hks : (backToKw pos (keywordEach kws X.env)).filterMap (·.1) = ks := by rfl)
    (hdb : (x == ("__debug__" : Str)) = false := by decide)
    (hpl : ((backTo pos (starEach [] X.env)).any (·.1) || (backToKw pos (keywordEach kws X.env)).any (·.1.isNone)) = false := by rfl) :
    SE G X W (.Call (.Name x p) [] kws pos) (mCallK mf 0 ks.length src df mNilL b) := by
  obtain ⟨tk, pk, ik⟩ := hkw
  obtain ⟨dvs, rd, hdf⟩ := hd
  refine ⟨tSpK G 0 ks.length ps.length src mf dvs (WE W) tNil tk, ⟨fun pins s σ H Q I h => wpAny_Call_Name_kw (ld_glob I hg (by rw [ok.mg]; exact hm) ?_ hdb)⟩, fun ρ S σ H F μ Q hen hr hp => ?_⟩
  · refine PySem.W.callWith_KW0 (h₀ := X.base) I.ok.mod.kin (by rw [ok.K]; exact hk) hall (thn (pk.run pos pins s σ H _ I h) fun ws s2 hv2 => ?_) hpl
    obtain ⟨zs, H2, I2, rz, hn1, hn2, r', hfill, hsp⟩ := hv2
    obtain ⟨u', hfu, ru⟩ := fill_val (u1 := []) .nil rz rd hfill
    refine ⟨I2.kIn, ?_⟩
    rw [hks]
    refine wpAny_call (codeAny_mono (run_G ok g hj I2 (hb s2 [] ws u' (by have z := I2.kIn; rw [ok.K] at z; exact z) rfl (by rw [← rz.length]; exact hn2) hfu) ru hsp) fun r' s' hq => ?_)
    cases r' with
    | error e => exact hq
    | ok fl => cases fl with
      | ret u => exact hq
      | _ => exact hq.elim
  · show tk σ H _
    refine ik ρ S σ H F μ _ hen hr (Post.bind (show Post G W (Rep G) F μ σ Q ((b ρ S).bind _) from hp) fun ws S2 F2 μ2 zs H2 x2 r2 p2 q2 => ?_)
    obtain ⟨⟨hn1, hn2⟩, q3⟩ := post_if q2
    cases hf : fill [] ws df src with
    | none => rw [hf] at q3; exact q3.elim
    | some rr =>
      rw [hf] at q3
      have q3 : Post G W (Rep G) F2 μ2 σ Q (mf rr S2) := q3
      obtain ⟨r', hf', hr'⟩ := fill_rep (v1 := []) .nil p2 (hdf F2 μ2) hf
      refine ⟨rfl, by rw [← p2.length]; exact hn2, r', hf', ?_, F2, μ2, S2, rr, r2, hr', ?_⟩
      · rw [← hr'.length]
        refine hl rr S2 fun z => ?_
        rw [z] at q3
        exact q3.elim
      · cases hmm : mf rr S2 with
        | ok d S2 => rw [hmm] at q3; exact q3
        | ex c ks vs S2 => rw [hmm] at q3; exact q3
        | bad => rw [hmm] at q3; exact q3
end
end Z

set_option Elab.async false
set_option linter.all false
set_option maxRecDepth 100000
set_option maxHeartbeats 2000000
set_option autoImplicit false
namespace Z
open PySem PySem.Spec L2

/-! ## operations by value -/
def b2n (b : Bool) : Int := if b = true then 1 else 0
def lstD (S : Store) : D → Option (List D)
  | .lst l => some l
  | .loc n =>
    match S[n]? with
    | some (.lst l) => some l
    | _ => none
  | _ => none
def addD (x y : D) (S : Store) : Res D :=
  match x, y with
  | .int i, .int j => .ok (.int (i + j)) S
  | .int i, .bl b => .ok (.int (i + b2n b)) S
  | .str a, .str b => if a.length + b.length ≤ sizeLine then .ok (.str (a ++ b)) S else .bad
  | .tup a, .tup b => if a.length + b.length ≤ sizeLine then .ok (.tup (a ++ b)) S else .bad
  | x, y =>
    match lstD S x, lstD S y with
    | some a, some b => if a.length + b.length ≤ sizeLine then .ok (.lst (a ++ b)) S else .bad
    | _, _ => .bad
def subD (x y : D) (S : Store) : Res D :=
  match x, y with
  | .int i, .int j => .ok (.int (i - j)) S
  | _, _ => .bad
def MulOk (i j : Int) : Prop := i.natAbs.log2 + j.natAbs.log2 < 1000000 ∨ ((-(2 ^ 64) < i ∧ i < 2 ^ 64) ∨ (-(2 ^ 64) < j ∧ j < 2 ^ 64))
instance (i j : Int) : Decidable (MulOk i j) := by unfold MulOk; infer_instance
def mulD (x y : D) (S : Store) : Res D :=
  match x, y with
  | .int i, .int j => if MulOk i j then .ok (.int (i * j)) S else .bad
  | _, _ => .bad
def fdivD (x y : D) (S : Store) : Res D :=
  match x, y with
  | .int i, .int j => if 0 < j ∧ j.natAbs.log2 < 9000 then .ok (.int (i / j)) S else .bad
  | _, _ => .bad
def modD (x y : D) (S : Store) : Res D :=
  match x, y with
  | .int i, .int j => if 0 < j then .ok (.int (i % j)) S else .bad
  | _, _ => .bad
def powD (x y : D) (S : Store) : Res D :=
  match x, y with
  | .int i, .int j => if 0 ≤ j ∧ j ≤ 1000000 ∧ i.natAbs < 2 ^ 64 then .ok (.int (i ^ j.toNat)) S else .bad
  | _, _ => .bad
def negD (x : D) (S : Store) : Res D :=
  match x with
  | .int i => .ok (.int (-i)) S
  | _ => .bad
def ltD (x y : D) (S : Store) : Res D :=
  match x, y with
  | .int i, .int j => .ok (.bl (decide (i < j))) S
  | .str i, .str j => .ok (.bl (decide (i.cps.toList < j.cps.toList))) S
  | _, _ => .bad
def leD (x y : D) (S : Store) : Res D :=
  match x, y with
  | .int i, .int j => .ok (.bl (decide (i ≤ j))) S
  | _, _ => .bad
def gtD (x y : D) (S : Store) : Res D :=
  match x, y with
  | .int i, .int j => .ok (.bl (decide (j < i))) S
  | _, _ => .bad
def geD (x y : D) (S : Store) : Res D :=
  match x, y with
  | .int i, .int j => .ok (.bl (decide (j ≤ i))) S
  | _, _ => .bad
def isNon : D → Bool
  | .non => true
  | _ => false
def isD (x y : D) (S : Store) : Res D :=
  match x, y with
  | x, .non => .ok (.bl (isNon x)) S
  | .bl a, .bl b => .ok (.bl (decide (a = b))) S
  | _, _ => .bad
def isNotD (x y : D) (S : Store) : Res D :=
  match x, y with
  | x, .non => .ok (.bl (!isNon x)) S
  | .bl a, .bl b => .ok (.bl (!decide (a = b))) S
  | _, _ => .bad
mutual
/-- plain data -/
def toP : D → Option PyData
  | .non => some .none
  | .bl b => some (.bool b)
  | .int i => some (.int i)
  | .str x => some (.str x)
  | .tup l => (toPs l).map .tuple
  | .lst l => (toPs l).map .list
  | .kst l => (toPs l).map .list
  | _ => none
def toPs : List D → Option (List PyData)
  | [] => some []
  | d :: ds =>
    match toP d, toPs ds with
    | some p, some ps => some (p :: ps)
    | _, _ => none
end
def toPS (S : Store) (d : D) : Option PyData :=
  match lstD S d with
  | some l => (toPs l).map .list
  | none => toP d
def eqScal : D → D → Option Bool
  | .int i, .int j => some (decide (i = j))
  | .str a, .str b => some (decide (a = b))
  | .bl a, .bl b => some (decide (a = b))
  | _, _ => none
def eqB (S : Store) (x y : D) : Option Bool :=
  match eqScal x y with
  | some b => some b
  | none =>
    match toPS S x, toPS S y with
    | some p, some q => if SeqAt.shaped p && SeqAt.shaped q then some (PyData.eqv p q) else none
    | _, _ => none
def eqD (x y : D) (S : Store) : Res D := (resO (eqB S x y) S).bind fun b S => .ok (.bl b) S
def neD (x y : D) (S : Store) : Res D := (resO (eqB S x y) S).bind fun b S => .ok (.bl (!b)) S
def ixD (o i : D) (S : Store) : Res D :=
  match i with
  | .int k =>
    match o with
    | .str x => if x.length ≤ sizeLine then resO ((atI x.cps.toList k).map fun c => .str ⟨#[c]⟩) S else .bad
    | o =>
      match itemsD S o with
      | some l => resO (atI l k) S
      | none => .bad
  | _ => .bad
def lenD (x : D) (S : Store) : Res D :=
  match x with
  | .str x => if x.length ≤ sizeLine then .ok (.int x.length) S else .bad
  | x =>
    match itemsD S x with
    | some l => .ok (.int l.length) S
    | none => .bad
/-- o[i] = v of a live list -/
def setD (v o i : D) (S : Store) : Option Store :=
  match o, i with
  | .loc n, .int k =>
    match S[n]? with
    | some (.lst l) => (ixN l.length k).map fun j => S.set n (.lst (l.set j v))
    | _ => none
  | _, _ => none

section
variable {G : Gm} {X : Cx} {W : WX} {k : Nat}
theorem post_ok {α β : Type} {R : RR α β} {F : Hp} {μ : List Addr} {S : Store} {H : Hp} {σ : L2.St} {Q : β → Hp → Prop} {a : α} {b : β} (r : Rel G F μ S H) (hr : R F μ a b) (h : Post G W R F μ σ Q (.ok a S)) : Q b H := h F μ b H (Ext.refl _ _) r hr
theorem lst_ok {d : D} {v : V} {F : Hp} {μ : List Addr} {S : Store} {H : Hp} {l : List D} (hr : Rel G F μ S H) (r : Rep G F μ d v) (h : lstD S d = some l) : ∃ a xs, v = .ref a ∧ Reps G F μ l xs ∧ H a = some (.lst xs) := by
  cases r with
  | lst hs hr' =>
    cases h
    exact ⟨_, _, rfl, hr', hr.sub _ _ hs⟩
  | @loc m a hm =>
    simp only [lstD] at h
    split at h
    · rename_i l' hs
      cases h
      obtain ⟨xs, hf, ho, hr'⟩ := hr.lstAt hm hs
      exact ⟨_, _, rfl, hr', ho⟩
    · cases h
  | _ => cases h
/-- either way -/
theorem OpI.or {f : D → D → Store → Res D} {r r' : R2} (h : ∀ (W : WX) (F : Hp) (μ : List Addr) (σ : L2.St) (S : Store) (H : Hp) (x y : D) (u v : V) (Q : VK), Rel G F μ S H → Rep G F μ x u → Rep G F μ y v → Post G W (Rep G) F μ σ Q (f x y S) → r u v H Q ∨ r' u v H Q) : OpI G f (fun x y H Q => r x y H Q ∨ r' x y H Q) := h
theorem rep_emp {F : Hp} {μ : List Addr} {l : List D} {xs : List V} (r : Reps G F μ l xs) : xs = [] ↔ l = [] := by cases r <;> simp
theorem oi_add (hK : X.K = G.K) : OpI G addD (fun x y H Q => (rI0 fun i j => .int (i + j)) x y H Q ∨ (∃ i k, x = .int i ∧ y = .bl k ∧ Q (.int (i + PyProof.Rows.b2i k)) H) ∨ (∃ i j, x = .str i ∧ y = .str j ∧ i.length + j.length ≤ sizeLine ∧ Q (.str (i ++ j)) H) ∨ rCatA X.K x y H Q ∨ rCat x y H Q) := by
  intro W F μ σ S H x y u v Q r rx ry h
  unfold addD at h
  split at h
  · cases rx; cases ry
    exact .inl ⟨_, _, rfl, rfl, post_ok r (.int _) h⟩
  · cases rx; cases ry
    exact .inr (.inl ⟨_, _, rfl, rfl, post_ok r (.int _) h⟩)
  · cases rx; cases ry
    obtain ⟨hl, h⟩ := post_if h
    exact .inr (.inr (.inl ⟨_, _, rfl, rfl, hl, post_ok r (.str _) h⟩))
  · rename_i a b
    cases rx with
    | tup h1 r1 =>
      cases ry with
      | tup h2 r2 =>
        obtain ⟨hl, h⟩ := post_if h
        refine .inr (.inr (.inr (.inl ⟨_, _, _, _, rfl, rfl, by rw [hK]; exact same_sqT r.sub h1, by rw [hK]; exact same_sqT r.sub h2, by rw [← r1.length, ← r2.length]; exact hl, fun e => ?_, fun e1 e2 => ?_, fun e1 e2 p hp => ?_⟩)))
        · rw [rep_emp r1] at e
          subst e
          exact post_ok r (.tup h2 r2) h
        · rw [rep_emp r2] at e2
          subst e2
          rw [List.append_nil] at h
          exact post_ok r (.tup h1 r1) h
        · obtain ⟨x, rr⟩ := r.newF (.tup _) hp
          exact h _ _ _ _ x rr (.tup (TupF.of upd_same) ((r1.app r2).mono x))
  · split at h
    · rename_i a b ha hb
      obtain ⟨hl, h⟩ := post_if h
      obtain ⟨p1, xs, rfl, r1, h1⟩ := lst_ok r rx ha
      obtain ⟨p2, ys, rfl, r2, h2⟩ := lst_ok r ry hb
      refine .inr (.inr (.inr (.inr ⟨_, _, _, _, rfl, rfl, h1, h2, by rw [← r1.length, ← r2.length]; exact hl, fun p hp => ?_⟩)))
      obtain ⟨x, rr⟩ := r.newF (.lst _) hp
      exact h _ _ _ _ x rr (.lst upd_same ((r1.app r2).mono x))
    · exact h.elim
theorem or_add : OpR X (binaryOp .Add) (fun x y H Q => (rI0 fun i j => .int (i + j)) x y H Q ∨ (∃ i k, x = .int i ∧ y = .bl k ∧ Q (.int (i + PyProof.Rows.b2i k)) H) ∨ (∃ i j, x = .str i ∧ y = .str j ∧ i.length + j.length ≤ sizeLine ∧ Q (.str (i ++ j)) H) ∨ rCatA X.K x y H Q ∨ rCat x y H Q) :=
  op_add.or (op_add_ib.or (op_add_str.or (op_catA.or op_cat)))
theorem oi_int {f : D → D → Store → Res D} {C : Int → Int → Prop} {g : Int → Int → Int} (h : ∀ x y S, f x y S ≠ .bad → ∃ i j, x = .int i ∧ y = .int j ∧ C i j ∧ f x y S = .ok (.int (g i j)) S) : OpI G f (rI C fun i j => .int (g i j)) := by
  intro W F μ σ S H x y u v Q r rx ry hp
  have hb : f x y S ≠ .bad := fun z => by rw [z] at hp; exact hp
  obtain ⟨i, j, rfl, rfl, hc, e⟩ := h x y S hb
  rw [e] at hp
  cases rx; cases ry
  exact ⟨i, j, rfl, rfl, hc, post_ok r (.int _) hp⟩
theorem oi_sub : OpI G subD (rI0 fun i j => .int (i - j)) := by
  intro W F μ σ S H x y u v Q r rx ry h
  unfold subD at h
  split at h
  · cases rx; cases ry
    exact ⟨_, _, rfl, rfl, post_ok r (.int _) h⟩
  · exact h.elim
theorem oi_mul : OpI G mulD (fun x y H Q => rI CMulW (fun i j => .int (i * j)) x y H Q ∨ rI CMul (fun i j => .int (i * j)) x y H Q) := by
  intro W F μ σ S H x y u v Q r rx ry h
  unfold mulD at h
  split at h
  · cases rx; cases ry
    obtain ⟨hc, h⟩ := post_if h
    rcases hc with hc | hc
    · exact .inl ⟨_, _, rfl, rfl, hc, post_ok r (.int _) h⟩
    · exact .inr ⟨_, _, rfl, rfl, hc, post_ok r (.int _) h⟩
  · exact h.elim
theorem or_mul : OpR X (binaryOp .Mult) (fun x y H Q => rI CMulW (fun i j => .int (i * j)) x y H Q ∨ rI CMul (fun i j => .int (i * j)) x y H Q) := op_mulW.or op_mul
theorem oi_fdiv : OpI G fdivD (rI CDivW fun i j => .int (i / j)) := oi_int fun x y S h => by
  unfold fdivD at h ⊢
  split at h
  · split at h
    · rename_i i j hc
      exact ⟨i, j, rfl, rfl, hc, by rw [if_pos hc]⟩
    · exact absurd rfl h
  · exact absurd rfl h
theorem oi_mod : OpI G modD (rI (fun _ j => 0 < j) fun i j => .int (i % j)) := oi_int fun x y S h => by
  unfold modD at h ⊢
  split at h
  · split at h
    · rename_i i j hc
      exact ⟨i, j, rfl, rfl, hc, by rw [if_pos hc]⟩
    · exact absurd rfl h
  · exact absurd rfl h
theorem oi_pow : OpI G powD (rI CPow fun i j => .int (i ^ j.toNat)) := oi_int fun x y S h => by
  unfold powD at h ⊢
  split at h
  · split at h
    · rename_i i j hc
      exact ⟨i, j, rfl, rfl, hc, by rw [if_pos hc]⟩
    · exact absurd rfl h
  · exact absurd rfl h
theorem ui_neg : UnI G negD (rU fun i => .int (-i)) := by
  intro W F μ σ S H x u Q r rx h
  unfold negD at h
  split at h
  · cases rx
    exact ⟨_, rfl, post_ok r (.int _) h⟩
  · exact h.elim
theorem oi_lt : OpI G ltD (fun x y H Q => (rI0 fun i j => .bl (decide (i < j))) x y H Q ∨ ∃ i j, x = .str i ∧ y = .str j ∧ Q (.bl (decide (i.cps.toList < j.cps.toList))) H) := by
  intro W F μ σ S H x y u v Q r rx ry h
  unfold ltD at h
  split at h
  · cases rx; cases ry
    exact .inl ⟨_, _, rfl, rfl, post_ok r (.bl _) h⟩
  · cases rx; cases ry
    exact .inr ⟨_, _, rfl, rfl, post_ok r (.bl _) h⟩
  · exact h.elim
theorem or_lt : OpR X (compareOp .Lt) (fun x y H Q => (rI0 fun i j => .bl (decide (i < j))) x y H Q ∨ ∃ i j, x = .str i ∧ y = .str j ∧ Q (.bl (decide (i.cps.toList < j.cps.toList))) H) := op_lt.or op_lt_str
theorem oi_le : OpI G leD (rI0 fun i j => .bl (decide (i ≤ j))) := by
  intro W F μ σ S H x y u v Q r rx ry h
  unfold leD at h
  split at h
  · cases rx; cases ry
    exact ⟨_, _, rfl, rfl, post_ok r (.bl _) h⟩
  · exact h.elim
theorem oi_gt : OpI G gtD (rI0 fun i j => .bl (decide (j < i))) := by
  intro W F μ σ S H x y u v Q r rx ry h
  unfold gtD at h
  split at h
  · cases rx; cases ry
    exact ⟨_, _, rfl, rfl, post_ok r (.bl _) h⟩
  · exact h.elim
theorem oi_ge : OpI G geD (rI0 fun i j => .bl (decide (j ≤ i))) := by
  intro W F μ σ S H x y u v Q r rx ry h
  unfold geD at h
  split at h
  · cases rx; cases ry
    exact ⟨_, _, rfl, rfl, post_ok r (.bl _) h⟩
  · exact h.elim
theorem non_iff {F : Hp} {μ : List Addr} {d : D} {v : V} (r : Rep G F μ d v) : decide (v = .non) = isNon d := by cases r <;> rfl
theorem oi_is : OpI G isD (fun x y H Q => (y = .non ∧ Q (.bl (decide (x = .non))) H) ∨ rIsB x y H Q) := by
  intro W F μ σ S H x y u v Q r rx ry h
  unfold isD at h
  split at h
  · cases ry
    exact .inl ⟨rfl, by rw [non_iff rx]; exact post_ok r (.bl _) h⟩
  · cases rx; cases ry
    exact .inr ⟨_, _, rfl, rfl, post_ok r (.bl _) h⟩
  · exact h.elim
theorem or_is : OpR X (compareOp .Is) (fun x y H Q => (y = .non ∧ Q (.bl (decide (x = .non))) H) ∨ rIsB x y H Q) := op_isN.or op_isBl
theorem oi_isNot : OpI G isNotD (fun x y H Q => (y = .non ∧ Q (.bl (!decide (x = .non))) H) ∨ rNotB x y H Q) := by
  intro W F μ σ S H x y u v Q r rx ry h
  unfold isNotD at h
  split at h
  · cases ry
    exact .inl ⟨rfl, by rw [non_iff rx]; exact post_ok r (.bl _) h⟩
  · cases rx; cases ry
    exact .inr ⟨_, _, rfl, rfl, post_ok r (.bl _) h⟩
  · exact h.elim
theorem or_isNot : OpR X (compareOp .IsNot) (fun x y H Q => (y = .non ∧ Q (.bl (!decide (x = .non))) H) ∨ rNotB x y H Q) := op_notN.or op_notBl

mutual
theorem dp_of {F : Hp} {μ : List Addr} {H : Hp} (hs : Same F H) : ∀ (d : D) (v : V) (p : PyData), Rep G F μ d v → toP d = some p → Dp G.K H v p
  | .non, _, _, r, h => by cases r; cases h; exact .non
  | .bl _, _, _, r, h => by cases r; cases h; exact .bl _
  | .int _, _, _, r, h => by cases r; cases h; exact .int _
  | .str _, _, _, r, h => by cases r; cases h; exact .str _
  | .tup l, _, _, r, h => by
    cases r with
    | tup h1 h2 =>
      simp only [toP] at h
      cases e : toPs l with
      | none => rw [e] at h; cases h
      | some ps => rw [e] at h; cases h; exact .tup (same_sqT hs h1) (dp_all hs l _ ps h2 e)
  | .lst l, _, _, r, h => by
    cases r with
    | lst h1 h2 =>
      simp only [toP] at h
      cases e : toPs l with
      | none => rw [e] at h; cases h
      | some ps => rw [e] at h; cases h; exact .lst (SqL.of (hs _ _ h1)) (dp_all hs l _ ps h2 e)
  | .kst l, _, _, r, h => by
    cases r with
    | kst h1 h2 =>
      simp only [toP] at h
      cases e : toPs l with
      | none => rw [e] at h; cases h
      | some ps => rw [e] at h; cases h; exact .lst (same_sqL hs h1) (dp_all hs l _ ps h2 e)
  | .ty _, _, _, _, h => by simp [toP] at h
  | .cls _, _, _, _, h => by simp [toP] at h
  | .dct _ _, _, _, _, h => by simp [toP] at h
  | .ins _ _ _, _, _, _, h => by simp [toP] at h
  | .loc _, _, _, _, h => by simp [toP] at h
theorem dp_all {F : Hp} {μ : List Addr} {H : Hp} (hs : Same F H) : ∀ (ds : List D) (vs : List V) (ps : List PyData), Reps G F μ ds vs → toPs ds = some ps → DpAll G.K H vs ps
  | [], _, _, r, h => by cases r; cases h; exact .nil
  | d :: ds, _, _, r, h => by
    cases r with
    | cons r1 r2 =>
      simp only [toPs] at h
      cases e1 : toP d with
      | none => rw [e1] at h; cases h
      | some p =>
        cases e2 : toPs ds with
        | none => rw [e1, e2] at h; cases h
        | some ps => rw [e1, e2] at h; cases h; exact .cons (dp_of hs d _ p r1 e1) (dp_all hs ds _ ps r2 e2)
end
theorem dp_ok {F : Hp} {μ : List Addr} {S : Store} {H : Hp} {d : D} {v : V} {p : PyData} (r : Rel G F μ S H) (rd : Rep G F μ d v) (h : toPS S d = some p) : Dp G.K H v p := by
  unfold toPS at h
  split at h
  · rename_i l hl
    obtain ⟨a, xs, rfl, h1, h2⟩ := lst_ok r rd hl
    cases e : toPs l with
    | none => rw [e] at h; cases h
    | some ps => rw [e] at h; cases h; exact .lst (SqL.of h2) (dp_all r.sub l _ ps h1 e)
  · exact dp_of r.sub d v p rd h
theorem post_bindO {α : Type} {α' β' : Type} {R : RR α' β'} {F : Hp} {μ : List Addr} {σ : L2.St} {Q : β' → Hp → Prop} {o : Option α} {S : Store} {f : α → Store → Res α'} (h : Post G W R F μ σ Q ((resO o S).bind f)) : ∃ a, o = some a ∧ Post G W R F μ σ Q (f a S) := post_resO h
theorem oi_eq (hK : X.K = G.K) : OpI G eqD (fun x y H Q => rEq x y H Q ∨ rEqD X.K x y H Q) := by
  intro W F μ σ S H x y u v Q r rx ry h
  obtain ⟨b, e, h⟩ := post_bindO h
  have hq := post_ok r (.bl b) h
  unfold eqB at e
  split at e
  · rename_i b' he
    cases e
    unfold eqScal at he
    split at he
    · cases he; cases rx; cases ry
      exact .inl ⟨rfl, by rw [dec_int, Bool.beq_eq_decide_eq]; exact hq⟩
    · cases he; cases rx; cases ry
      exact .inl ⟨rfl, by rw [dec_str, Bool.beq_eq_decide_eq]; exact hq⟩
    · cases he; cases rx; cases ry
      exact .inl ⟨rfl, by rw [dec_bl, Bool.beq_eq_decide_eq]; exact hq⟩
    · cases he
  · split at e
    · rename_i p q hp' hq'
      split at e
      · rename_i hsh
        cases e
        rw [Bool.and_eq_true] at hsh
        exact .inr ⟨p, q, by rw [hK]; exact dp_ok r rx hp', by rw [hK]; exact dp_ok r ry hq', hsh.1, hsh.2, hq⟩
      · cases e
    · cases e
theorem or_eq (hr : Room k X.A) : OpR X (compareOp .Eq) (fun x y H Q => rEq x y H Q ∨ rEqD X.K x y H Q) := op_eq.or (op_eqD hr.units)
theorem oi_ne (hK : X.K = G.K) : OpI G neD (fun x y H Q => rNe x y H Q ∨ rNeD X.K x y H Q) := by
  intro W F μ σ S H x y u v Q r rx ry h
  obtain ⟨b, e, h⟩ := post_bindO h
  have hq := post_ok r (.bl (!b)) h
  unfold eqB at e
  split at e
  · rename_i b' he
    cases e
    unfold eqScal at he
    split at he
    · cases he; cases rx; cases ry
      exact .inl ⟨rfl, by rw [dec_int, Bool.beq_eq_decide_eq]; exact hq⟩
    · cases he; cases rx; cases ry
      exact .inl ⟨rfl, by rw [dec_str, Bool.beq_eq_decide_eq]; exact hq⟩
    · cases he; cases rx; cases ry
      exact .inl ⟨rfl, by rw [dec_bl, Bool.beq_eq_decide_eq]; exact hq⟩
    · cases he
  · split at e
    · rename_i p q hp' hq'
      split at e
      · rename_i hsh
        cases e
        rw [Bool.and_eq_true] at hsh
        exact .inr ⟨p, q, by rw [hK]; exact dp_ok r rx hp', by rw [hK]; exact dp_ok r ry hq', hsh.1, hsh.2, hq⟩
      · cases e
    · cases e
theorem or_ne (hr : Room k X.A) : OpR X (compareOp .NotEq) (fun x y H Q => rNe x y H Q ∨ rNeD X.K x y H Q) := op_ne.or (op_neD hr.units)

/-! ### subscripts, stores -/
theorem atI_rep {F : Hp} {μ : List Addr} {l : List D} {xs : List V} {i : Int} {d : D} (r : Reps G F μ l xs) (h : atI l i = some d) : ∃ v, atI xs i = some v ∧ Rep G F μ d v := by
  unfold atI at h ⊢
  rw [← r.length]
  cases e : ixN l.length i with
  | none => rw [e] at h; cases h
  | some j =>
    rw [e] at h
    exact r.get h
theorem oi_ix (hK : X.K = G.K) : OpI G ixD (rIx X.K) := by
  intro W F μ σ S H x y u v Q r rx ry h
  unfold ixD at h
  split at h
  · cases ry
    split at h
    · cases rx
      obtain ⟨hl, h⟩ := post_if h
      obtain ⟨d, e, h⟩ := post_resO1 h
      cases e' : atI _ _ with
      | none => rw [e'] at e; cases e
      | some c =>
        rw [e'] at e
        cases e
        exact .inr (.inr ⟨_, _, c, rfl, rfl, hl, e', post_ok r (.str _) h⟩)
    · split at h
      · rename_i l hl
        obtain ⟨d, e, h⟩ := post_resO1 h
        obtain ⟨a, xs, rfl, rs, hs⟩ := items_ok r rx hl
        obtain ⟨w, e1, rw1⟩ := atI_rep rs e
        rcases hs with hs | hs
        · exact .inr (.inl ⟨a, xs, _, w, rfl, rfl, by rw [hK]; exact hs, e1, post_ok r rw1 h⟩)
        · exact .inl ⟨a, xs, _, w, rfl, rfl, by rw [hK]; exact hs, e1, post_ok r rw1 h⟩
      · exact h.elim
  · exact h.elim
theorem se_ix {a b : Expr} {pos : Pos} {ma mb : ME} (hK : X.K = G.K) (ha : SE G X W a ma) (hb : SE G X W b mb) (hs : PlainIx b := by intro _ _; rfl) : SE G X W (.Subscript a b pos) (mBin ixD ma mb) := by
  obtain ⟨ta, pa, ia⟩ := ha
  obtain ⟨tb, pb, ib⟩ := hb
  exact ⟨_, pe_ix ix_seq pa pb hs, imp_bin ia ib (oi_ix hK)⟩
def gSet (o i : ME) : MG := fun v ρ S =>
  match o ρ S with
  | .ok od S1 =>
    match i ρ S1 with
    | .ok id S2 => (setD v od id S2).map fun S3 => (ρ, S3)
    | _ => none
  | _ => none
theorem sg_set {o i : Expr} {pos : Pos} {mo mi : ME} (ok : Ok G X k W) (ho : SE G X W o mo) (hi : SE G X W i mi) (ha : ∀ v, assign (.Subscript o i pos) X.env v = (do
      let ov ← holding [v] (eval o X.env)
      let iv ← holding [v, ov] (eval i X.env)
      standAt pos
      holding [v, ov, iv] (setItem ov iv v)
      release [v, ov, iv] []) := by intro _; rfl) : SG G X (.Subscript o i pos) (gSet mo mi) := by
  obtain ⟨ta, pa, ia⟩ := ho
  obtain ⟨tb, pb, ib⟩ := hi
  refine ⟨_, pg_sub pa pb set_list ha, fun d v ρ S σ H F μ Q ρ' S' he hr rd e hq => ?_⟩
  unfold gSet at e
  cases h1 : mo ρ S with
  | ok od S1 =>
    rw [h1] at e
    simp only at e
    cases h2 : mi ρ S1 with
    | ok id S2 =>
      rw [h2] at e
      simp only at e
      refine ia ρ S σ H F μ _ he hr ?_
      rw [h1]
      intro F1 μ1 vo H1 x1 r1 ro
      refine ib ρ S1 σ H1 F1 μ1 _ (he.mono x1) r1 ?_
      rw [h2]
      intro F2 μ2 vi H2 x2 r2 ri
      unfold setD at e
      split at e
      · rename_i n kk
        split at e
        · rename_i l hs
          have ro' := ro.mono x2
          cases ro' with
          | @loc _ a hm =>
            cases ri
            obtain ⟨xs, hf, hh, rs⟩ := r2.lstAt hm hs
            cases hj : ixN l.length kk with
            | none => rw [hj] at e; cases e
            | some j =>
              rw [hj] at e
              cases e
              refine ⟨a, xs, kk, j, rfl, rfl, hh, by rw [← rs.length]; exact hj, ?_⟩
              have rd' := rd.mono (x1.trans x2)
              have rr := r2.write (o := .lst (xs.set j v)) (e := .lst (l.set j d)) hm hf (.lst hf upd_same (rs.set rd' j))
              exact hq F2 μ2 σ _ (x1.trans x2) rr (he.mono (x1.trans x2))
        · cases e
      · cases e
    | _ => rw [h2] at e; cases e
  | _ => rw [h1] at e; cases e

/-! ### built-in functions -/
theorem imp_cb {r : List V → Hp → VK → Prop} {f : MF} {t : TA} {m : ML} (hi : CallI G f r) (h : ImpE G W (Reps G) t m) : ImpE G W (Rep G) (tCB r t) (mCall f m) := by
  intro ρ S σ H F μ Q he hr hp
  exact h ρ S σ H F μ _ he hr (Post.bind hp fun ds S1 F1 μ1 vs H1 x1 r1 p1 q1 => hi W F1 μ1 σ S1 H1 ds vs Q r1 p1 q1)
theorem se_callB {x : Str} {p pos : Pos} {id : String} {e : Expr} {es : List Expr} {r : List V → Hp → VK → Prop} {f : MF} {m : ML} (hi : CallI G f r) (hc : CallR X (.builtin id) r) (hmg : X.mg = G.mg) (hm : G.mg x = none) (hv : bootBuiltins x = some (.builtin id)) (ha : SA G X W (e :: es) m) (hg : Gl X x := by rfl)
    (hn : x ≠ "__name__" := by decide) (hdb : (x == ("__debug__" : Str)) = false := by decide) (he : starEach (e :: es) X.env = (false, eval e X.env) :: starEach es X.env := by rfl) (hpl : (backTo pos (starEach es X.env)).any (·.1) = false := by rfl) : SE G X W (.Call (.Name x p) (e :: es) [] pos) (mCall f m) := by
  obtain ⟨t, pa, i⟩ := ha
  exact ⟨_, pe_callB hc hg (by rw [hmg]; exact hm) hv pa hn hdb he hpl, imp_cb hi i⟩
theorem se_callTy {x : Str} {p pos : Pos} {T : String} {e : Expr} {es : List Expr} {r : List V → Hp → VK → Prop} {f : MF} {m : ML} (hi : CallI G f r) (hc : CallR X (.type T) r) (hmg : X.mg = G.mg) (hm : G.mg x = none) (hv : bootBuiltins x = some (.type T)) (ha : SA G X W (e :: es) m) (hg : Gl X x := by rfl)
    (hn : x ≠ "__name__" := by decide) (hdb : (x == ("__debug__" : Str)) = false := by decide) (he : starEach (e :: es) X.env = (false, eval e X.env) :: starEach es X.env := by rfl) (hpl : (backTo pos (starEach es X.env)).any (·.1) = false := by rfl) : SE G X W (.Call (.Name x p) (e :: es) [] pos) (mCall f m) := by
  obtain ⟨t, pa, i⟩ := ha
  exact ⟨_, pe_callTy hc hg (by rw [hmg]; exact hm) hv pa hn hdb he hpl, imp_cb hi i⟩
def f1 (f : D → Store → Res D) : MF := fun ds S => match ds with | [d] => f d S | _ => .bad
theorem ci_1 {f : D → Store → Res D} {r : List V → Hp → VK → Prop} (h : ∀ (W : WX) (F : Hp) (μ : List Addr) (σ : L2.St) (S : Store) (H : Hp) (d : D) (v : V) (Q : VK), Rel G F μ S H → Rep G F μ d v → Post G W (Rep G) F μ σ Q (f d S) → r [v] H Q) : CallI G (f1 f) r := by
  intro W F μ σ S H ds us Q hr hs hp
  unfold f1 at hp
  split at hp
  · cases hs with
    | cons a b => cases b with | nil => exact h W F μ σ S H _ _ Q hr a hp
  · exact hp.elim
def absD (x : D) (S : Store) : Res D :=
  match x with
  | .int i => .ok (.int (if i < 0 then -i else i)) S
  | _ => .bad
theorem ci_abs : CallI G (f1 absD) (fun xs H Q => ∃ i, xs = [.int i] ∧ Q (.int (if i < 0 then -i else i)) H) := ci_1 fun W F μ σ S H d v Q hr rd hp => by
  unfold absD at hp
  split at hp
  · cases rd
    exact ⟨_, rfl, post_ok hr (.int _) hp⟩
  · exact hp.elim
def intD (x : D) (S : Store) : Res D :=
  match x with
  | .int i => .ok (.int i) S
  | .bl b => .ok (.int (if b then 1 else 0)) S
  | _ => .bad
theorem ci_int : CallI G (f1 intD) (fun xs H Q => (∃ i, xs = [.int i] ∧ Q (.int i) H) ∨ ∃ k, xs = [.bl k] ∧ Q (.int (if k then 1 else 0)) H) := ci_1 fun W F μ σ S H d v Q hr rd hp => by
  unfold intD at hp
  split at hp
  · cases rd
    exact .inl ⟨_, rfl, post_ok hr (.int _) hp⟩
  · cases rd
    exact .inr ⟨_, rfl, post_ok hr (.int _) hp⟩
  · exact hp.elim
theorem ci_len (hK : X.K = G.K) : CallI G (f1 lenD) (fun xs H Q => ∃ x n, xs = [x] ∧ LenV X.K x H n ∧ Q (.int n) H) := ci_1 fun W F μ σ S H d v Q hr rd hp => by
  unfold lenD at hp
  split at hp
  · cases rd
    obtain ⟨hl, hp⟩ := post_if hp
    exact ⟨_, _, rfl, ⟨hl, rfl⟩, post_ok hr (.int _) hp⟩
  · split at hp
    · rename_i l hl
      obtain ⟨a, xs, rfl, rs, hs⟩ := items_ok hr rd hl
      have hq := post_ok hr (.int _) hp
      rw [rs.length] at hq
      rcases hs with hs | hs
      · exact ⟨_, xs.length, rfl, .inr ⟨xs, by rw [hK]; exact hs, rfl⟩, hq⟩
      · exact ⟨_, xs.length, rfl, .inl ⟨xs, by rw [hK]; exact hs, rfl⟩, hq⟩
    · exact hp.elim
def tupD (x : D) (S : Store) : Res D :=
  match itemsD S x with
  | some l => .ok (.tup l) S
  | none => .bad
theorem ci_tup (hK : X.K = G.K) : CallI G (f1 tupD) (fun xs H Q => ∃ p ys, xs = [.ref p] ∧ ((SqL X.K H p ys ∧ ∀ l, H l = none → Q (.ref l) (upd H l (.tup ys))) ∨ (SqT X.K H p ys ∧ Q (.ref p) H))) := ci_1 fun W F μ σ S H d v Q hr rd hp => by
  unfold tupD at hp
  split at hp
  · rename_i l hl
    cases rd with
    | tup h1 h2 =>
      cases hl
      exact ⟨_, _, rfl, .inr ⟨by rw [hK]; exact same_sqT hr.sub h1, post_ok hr (.tup h1 h2) hp⟩⟩
    | lst h1 h2 =>
      cases hl
      refine ⟨_, _, rfl, .inl ⟨SqL.of (hr.sub _ _ h1), fun p hn => ?_⟩⟩
      obtain ⟨x, rr⟩ := hr.newF (.tup _) hn
      exact hp _ _ _ _ x rr (.tup (TupF.of upd_same) (h2.mono x))
    | kst h1 h2 =>
      cases hl
      refine ⟨_, _, rfl, .inl ⟨by rw [hK]; exact same_sqL hr.sub h1, fun p hn => ?_⟩⟩
      obtain ⟨x, rr⟩ := hr.newF (.tup _) hn
      exact hp _ _ _ _ x rr (.tup (TupF.of upd_same) (h2.mono x))
    | @loc m a hm =>
      simp only [itemsD] at hl
      split at hl
      · rename_i l' hs
        cases hl
        obtain ⟨xs, hf, ho, h2⟩ := hr.lstAt hm hs
        refine ⟨_, _, rfl, .inl ⟨SqL.of ho, fun p hn => ?_⟩⟩
        obtain ⟨x, rr⟩ := hr.newF (.tup _) hn
        exact hp _ _ _ _ x rr (.tup (TupF.of upd_same) (h2.mono x))
      · cases hl
    | _ => cases hl
  · exact hp.elim
/-- list(x), never changed behind; list(x), that may change -/
def listD (x : D) (S : Store) : Res D :=
  match itemsD S x with
  | some l => .ok (.lst l) S
  | none => .bad
def listLD (x : D) (S : Store) : Res D :=
  match itemsD S x with
  | some l => .ok (.loc S.length) (S ++ [.lst l])
  | none => .bad
theorem ci_list (hK : X.K = G.K) : CallI G (f1 listD) (fun xs H Q => ∃ p ys, xs = [.ref p] ∧ (SqL X.K H p ys ∨ SqT X.K H p ys) ∧ ∀ l, H l = none → Q (.ref l) (upd H l (.lst ys))) := ci_1 fun W F μ σ S H d v Q hr rd hp => by
  unfold listD at hp
  split at hp
  · rename_i l hl
    obtain ⟨a, xs, rfl, rs, hs⟩ := items_ok hr rd hl
    refine ⟨a, xs, rfl, by rw [hK]; exact hs.symm, fun p hn => ?_⟩
    obtain ⟨x, rr⟩ := hr.newF (.lst _) hn
    exact hp _ _ _ _ x rr (.lst upd_same (rs.mono x))
  · exact hp.elim
theorem ci_listL (hK : X.K = G.K) : CallI G (f1 listLD) (fun xs H Q => ∃ p ys, xs = [.ref p] ∧ (SqL X.K H p ys ∨ SqT X.K H p ys) ∧ ∀ l, H l = none → Q (.ref l) (upd H l (.lst ys))) := ci_1 fun W F μ σ S H d v Q hr rd hp => by
  unfold listLD at hp
  split at hp
  · rename_i l hl
    obtain ⟨a, xs, rfl, rs, hs⟩ := items_ok hr rd hl
    refine ⟨a, xs, rfl, by rw [hK]; exact hs.symm, fun p hn => ?_⟩
    have rr := hr.newL (e := .lst l) hn (.lst (hr.fnone hn) upd_same (rs.mono (ext_app F μ p)))
    exact hp _ _ _ _ (ext_app F μ p) rr (.loc (mu_new hr p))
  · exact hp.elim
def blsD : List D → Option (List Bool)
  | [] => some []
  | .bl b :: r => (blsD r).map (b :: ·)
  | _ => none
theorem bls_rep {F : Hp} {μ : List Addr} : ∀ {l : List D} {xs : List V} {bs : List Bool}, Reps G F μ l xs → blsD l = some bs → xs = bs.map V.bl
  | [], _, _, r, h => by cases r; cases h; rfl
  | .bl b :: l, _, bs, r, h => by
    simp only [blsD] at h
    cases e : blsD l with
    | none => rw [e] at h; cases h
    | some bs' =>
      rw [e] at h
      cases h
      cases r with
      | cons r1 r2 =>
        cases r1
        rw [bls_rep r2 e]
        rfl
def allD (x : D) (S : Store) : Res D := (resO ((lstD S x).bind blsD) S).bind fun bs S => .ok (.bl (bs.all id)) S
def anyD (x : D) (S : Store) : Res D := (resO ((lstD S x).bind blsD) S).bind fun bs S => .ok (.bl (bs.any id)) S
theorem ci_all : CallI G (f1 allD) (rAll X.K) := ci_1 fun W F μ σ S H d v Q hr rd hp => by
  obtain ⟨bs, e, hp⟩ := post_bindO hp
  cases e1 : lstD S d with
  | none => rw [e1] at e; cases e
  | some l =>
    rw [e1] at e
    obtain ⟨a, xs, rfl, rs, hs⟩ := lst_ok hr rd e1
    exact ⟨a, bs, rfl, by rw [← bls_rep rs e]; exact SqL.of hs, post_ok hr (.bl _) hp⟩
theorem ci_any : CallI G (f1 anyD) (rAny X.K) := ci_1 fun W F μ σ S H d v Q hr rd hp => by
  obtain ⟨bs, e, hp⟩ := post_bindO hp
  cases e1 : lstD S d with
  | none => rw [e1] at e; cases e
  | some l =>
    rw [e1] at e
    obtain ⟨a, xs, rfl, rs, hs⟩ := lst_ok hr rd e1
    exact ⟨a, bs, rfl, by rw [← bls_rep rs e]; exact SqL.of hs, post_ok hr (.bl _) hp⟩
end
end Z

set_option Elab.async false
set_option linter.all false
set_option maxRecDepth 100000
set_option maxHeartbeats 2000000
set_option autoImplicit false
namespace Z
open PySem PySem.Spec L2

/-! ## the store cut back -/
mutual
def closed (n : Nat) : D → Bool
  | .loc k => decide (k < n)
  | .tup l => closedL n l
  | .lst l => closedL n l
  | .kst l => closedL n l
  | .dct _ vs => closedL n vs
  | .ins _ _ vs => closedL n vs
  | _ => true
def closedL (n : Nat) : List D → Bool
  | [] => true
  | d :: ds => closed n d && closedL n ds
end
def closedE (n : Nat) : Ent → Bool
  | .lst l => closedL n l
  | .dct _ vs => closedL n vs
  | .ins _ _ vs => closedL n vs
  | .dead => true
def CutOk (S S' : Store) : Prop := (∃ g, S' = S ++ g) ∨ (S.length ≤ S'.length ∧ ∀ e ∈ S'.take S.length, closedE S.length e = true)
open Classical in
noncomputable def cut (S : Store) : Res D → Res D
  | .ok d S' => if closed S.length d = true ∧ CutOk S S' then .ok d (S'.take S.length) else .ok d S'
  | .ex c ks vs S' => if closedL S.length vs = true ∧ CutOk S S' then .ex c ks vs (S'.take S.length) else .ex c ks vs S'
  | .bad => .bad
noncomputable def mCut (m : ME) : ME := fun ρ S => cut S (m ρ S)
theorem cut_same (S : Store) (d : D) : cut S (.ok d S) = .ok d S := by
  simp only [cut]
  split
  · rw [List.take_length]
  · rfl
theorem cut_app {S g : Store} {d : D} (h : closed S.length d = true) : cut S (.ok d (S ++ g)) = .ok d S := by
  have hc : closed S.length d = true ∧ CutOk S (S ++ g) := ⟨h, .inl ⟨g, rfl⟩⟩
  simp only [cut, if_pos hc, List.take_left]
theorem cut_ex {S g : Store} {c : Nat} {ks : List Str} {vs : List D} (h : closedL S.length vs = true) : cut S (.ex c ks vs (S ++ g)) = .ex c ks vs S := by
  have hc : closedL S.length vs = true ∧ CutOk S (S ++ g) := ⟨h, .inl ⟨g, rfl⟩⟩
  simp only [cut, if_pos hc, List.take_left]
theorem cut_take {S S1 g : Store} {d : D} (h : closed S.length d = true) (hl : S1.length = S.length) (hc : ∀ e ∈ S1, closedE S.length e = true) : cut S (.ok d (S1 ++ g)) = .ok d S1 := by
  have e : (S1 ++ g).take S.length = S1 := by rw [← hl, List.take_left]
  have hc : closed S.length d = true ∧ CutOk S (S1 ++ g) := ⟨h, .inr ⟨by simp; omega, by rw [e]; exact hc⟩⟩
  simp only [cut, if_pos hc, e]
@[simp] theorem cut_bad (S : Store) : cut S .bad = .bad := rfl
section
variable {G : Gm} {X : Cx} {W : WX} {k : Nat}
theorem take_get {α : Type} {l : List α} {n i : Nat} {a : α} (h : (l.take n)[i]? = some a) : l[i]? = some a ∧ i < n := by
  rw [List.getElem?_take] at h
  split at h
  · exact ⟨h, by assumption⟩
  · cases h
mutual
theorem Rep.shut {F : Hp} {μ : List Addr} {n : Nat} : ∀ {d : D} {v : V}, Rep G F μ d v → closed n d = true → Rep G F (μ.take n) d v
  | _, _, .non, _ => .non
  | _, _, .bl b, _ => .bl b
  | _, _, .int i, _ => .int i
  | _, _, .str s, _ => .str s
  | _, _, .ty s, _ => .ty s
  | _, _, .cls c, _ => .cls c
  | _, _, .tup h r, hc => .tup h (Reps.shut r (by simpa [closed] using hc))
  | _, _, .lst h r, hc => .lst h (Reps.shut r (by simpa [closed] using hc))
  | _, _, .kst h r, hc => .kst h (Reps.shut r (by simpa [closed] using hc))
  | _, _, .dct h l r, hc => .dct h l (Reps.shut r (by simpa [closed] using hc))
  | _, _, .ins h l r, hc => .ins h l (Reps.shut r (by simpa [closed] using hc))
  | _, _, .loc h, hc => .loc (by rw [List.getElem?_take, if_pos (by simpa [closed] using hc)]; exact h)
theorem Reps.shut {F : Hp} {μ : List Addr} {n : Nat} : ∀ {ds : List D} {vs : List V}, Reps G F μ ds vs → closedL n ds = true → Reps G F (μ.take n) ds vs
  | _, _, .nil, _ => .nil
  | _, _, .cons a b, hc => by
    simp only [closedL, Bool.and_eq_true] at hc
    exact .cons (Rep.shut a hc.1) (Reps.shut b hc.2)
end
mutual
theorem Rep.cl {F : Hp} {μ : List Addr} {n : Nat} (hn : μ.length ≤ n) : ∀ {d : D} {v : V}, Rep G F μ d v → closed n d = true
  | _, _, .non => rfl
  | _, _, .bl b => rfl
  | _, _, .int i => rfl
  | _, _, .str s => rfl
  | _, _, .ty s => rfl
  | _, _, .cls c => rfl
  | _, _, .tup h r => by simpa [closed] using Reps.cl hn r
  | _, _, .lst h r => by simpa [closed] using Reps.cl hn r
  | _, _, .kst h r => by simpa [closed] using Reps.cl hn r
  | _, _, .dct h l r => by simpa [closed] using Reps.cl hn r
  | _, _, .ins h l r => by simpa [closed] using Reps.cl hn r
  | _, _, .loc h => by
    have := (List.getElem?_eq_some_iff.mp h).1
    simp only [closed, decide_eq_true_eq]
    omega
theorem Reps.cl {F : Hp} {μ : List Addr} {n : Nat} (hn : μ.length ≤ n) : ∀ {ds : List D} {vs : List V}, Reps G F μ ds vs → closedL n ds = true
  | _, _, .nil => rfl
  | _, _, .cons a b => by
    simp only [closedL, Bool.and_eq_true]
    exact ⟨Rep.cl hn a, Reps.cl hn b⟩
end
theorem EntOk.shut {F : Hp} {μ : List Addr} {H : Hp} {a : Addr} {n : Nat} {e : Ent} (h : EntOk G F μ H a e) (hc : closedE n e = true) : EntOk G F (μ.take n) H a e := by
  cases h with
  | dead => exact .dead
  | lst h1 h2 r => exact .lst h1 h2 (r.shut hc)
  | dct h1 h2 l r => exact .dct h1 h2 l (r.shut hc)
  | ins h1 h2 l r => exact .ins h1 h2 l (r.shut hc)
theorem EntOk.cl {F : Hp} {μ : List Addr} {H : Hp} {a : Addr} {n : Nat} {e : Ent} (hn : μ.length ≤ n) (h : EntOk G F μ H a e) : closedE n e = true := by
  cases h with
  | dead => rfl
  | lst h1 h2 r => exact r.cl hn
  | dct h1 h2 l r => exact r.cl hn
  | ins h1 h2 l r => exact r.cl hn
theorem Rel.shut {F : Hp} {μ : List Addr} {S : Store} {H : Hp} {n : Nat} (r : Rel G F μ S H) (hc : ∀ e ∈ S.take n, closedE n e = true) : Rel G F (μ.take n) (S.take n) H :=
  ⟨r.sub, by rw [List.length_take, List.length_take, r.len], fun i j a h1 h2 => r.inj i j a (take_get h1).1 (take_get h2).1,
    fun i a e h1 h2 => (r.ent i a e (take_get h1).1 (take_get h2).1).shut (hc e (List.mem_of_getElem? h2)), fun i a h1 => r.trk i a (take_get h1).1⟩
theorem Ext.shut {F F' : Hp} {μ μ' : List Addr} (x : Ext F μ F' μ') : Ext F μ F' (μ'.take μ.length) :=
  ⟨x.fz, fun i a h => by rw [List.getElem?_take, if_pos (List.getElem?_eq_some_iff.mp h).1]; exact x.mu i a h⟩
theorem cut_all {F F' : Hp} {μ μ' : List Addr} {S S' : Store} {H H' : Hp} (r : Rel G F μ S H) (x : Ext F μ F' μ') (r' : Rel G F' μ' S' H') (hc : CutOk S S') : ∀ e ∈ S'.take S.length, closedE S.length e = true := by
  rcases hc with ⟨g, rfl⟩ | ⟨_, h⟩
  · intro e he
    rw [List.take_left] at he
    obtain ⟨i, hi⟩ := List.getElem?_of_mem he
    have hlt : i < μ.length := by rw [r.len]; exact (List.getElem?_eq_some_iff.mp hi).1
    exact (r.ent i μ[i] e (List.getElem?_eq_getElem hlt) hi).cl (by rw [r.len]; exact Nat.le_refl _)
  · exact h
theorem post_cut {F : Hp} {μ : List Addr} {S : Store} {H : Hp} {σ : L2.St} {Q : VK} {r : Res D} (hr : Rel G F μ S H) (h : Post G W (Rep G) F μ σ Q (cut S r)) : Post G W (Rep G) F μ σ Q r := by
  unfold cut at h
  cases r with
  | ok d S' =>
    simp only at h
    split at h
    · rename_i hc
      intro F' μ' v H' x rr p
      have hl : S.length = μ.length := hr.len.symm
      have hall := cut_all hr x rr hc.2
      have h' := h F' (μ'.take μ.length) v H' x.shut (by rw [← hl]; exact rr.shut hall) (by rw [← hl]; exact p.shut hc.1)
      exact h'
    · exact h
  | ex c ks vs S' =>
    simp only at h
    split at h
    · rename_i hc
      intro F' μ' dx xs H' x rr e l p
      have hl : S.length = μ.length := hr.len.symm
      have hall := cut_all hr x rr hc.2
      exact h F' (μ'.take μ.length) dx xs H' x.shut (by rw [← hl]; exact rr.shut hall) e l (by rw [← hl]; exact p.shut hc.1)
    · exact h
  | bad => exact h
theorem imp_cut {t : TE} {m : ME} (h : ImpE G W (Rep G) t m) : ImpE G W (Rep G) t (mCut m) := fun ρ S σ H F μ Q he hr hp => h ρ S σ H F μ Q he hr (post_cut hr hp)
theorem se_cut {e : Expr} {m : ME} (h : SE G X W e m) : SE G X W e (mCut m) := by
  obtain ⟨t, p, i⟩ := h
  exact ⟨t, p, imp_cut i⟩
theorem imp_frz {t : TE} {m : ME} (i : ImpE G W (Rep G) t m) : ImpE G W (Rep G) t (mFrz m) := by
  intro ρ S σ H F μ Q he hr hp
  refine i ρ S σ H F μ _ he hr (Post.bind hp fun d S1 F1 μ1 v H1 x1 r1 p1 q1 => ?_)
  have q2 : PostS G W F1 μ1 { nx := fun _ _ => False, rt := Q } (srRes [] (frzD d S1) fun d' S' => .rt d' S') := by
    cases e : frzD d S1 with
    | ok a S' => rw [e] at q1; exact q1
    | ex c ks vs S' => cases d <;> simp [frzD] at e; split at e <;> cases e
    | bad => rw [e] at q1; exact q1
  obtain ⟨d', S', F', x, rr, pp, hh⟩ := frz_ok r1 p1 q2
  exact hh F' μ1 v H1 (Ext.refl _ _) rr pp
/-- a def whose store is cut back -/
noncomputable def cutM (mf : MF) : MF := fun ds S => cut S (mf ds S)
theorem GFn.cut {P : Program} {w : World} {base : Heap} {f : Addr} {fd : FuncData} {ps : List Str} {mf : MF} (h : GFn G P w base k f fd ps mf) : GFn G P w base k f fd ps (cutM mf) := by
  refine ⟨fun A outer s H args us vs Q E hr hg e0 hb r hs => h.run A outer s H args us vs Q E hr hg e0 hb r ?_⟩
  obtain ⟨hl, F, μ, S, ds, hrel, hrs, hp⟩ := hs
  exact ⟨hl, F, μ, S, ds, hrel, hrs, post_cut hrel hp⟩
theorem cutM_len {mf : MF} {n : Nat} (h : ∀ ds S, mf ds S ≠ .bad → ds.length = n) : ∀ ds S, cutM mf ds S ≠ .bad → ds.length = n := fun ds S hb => h ds S fun z => by
  unfold cutM at hb
  rw [z] at hb
  exact hb rfl

/-! ## what is walked -/
theorem PI.or {tg it : Expr} {t u : TI} (h : PI X tg it t) (h2 : PI X tg it u) : PI X tg it (fun σ H R => t σ H R ∨ u σ H R) := by
  refine ⟨fun pins s σ H R I hw => ?_⟩
  rcases hw with hw | hw
  · exact h.run pins s σ H R I hw
  · exact h2.run pins s σ H R I hw
/-- items that stay -/
def stillD : D → Option (List D)
  | .tup l => some l
  | .lst l => some l
  | .kst l => some l
  | _ => none
def mIter (m : ME) : ML := fun ρ S => (m ρ S).bind fun d S1 => resO (stillD d) S1
theorem yields_list {K : PySem.W.Frag} (hK : K = G.K) {F : Hp} {μ : List Addr} {a : Addr} {l : List D} {xs : List V} (hs : SqL K F a xs) (hr : Reps G F μ l xs) : Yields G F μ l (Itl K a) where
  go := fun i F1 μ1 S H x r hi => by
    obtain ⟨v, hv⟩ : ∃ v, xs[i]? = some v := ⟨_, List.getElem?_eq_getElem (by rw [← hr.length]; exact hi)⟩
    exact ⟨xs, v, same_sqL (x.fz.trans r.sub) hs, hv⟩
  stop := fun i F1 μ1 S H x r hi => ⟨xs, same_sqL (x.fz.trans r.sub) hs, by rw [← hr.length]; exact hi⟩
  yld := fun i F1 μ1 S H v H' d x r hd hy => by
    obtain ⟨rfl, h⟩ := hy
    have hv := h xs (same_sqL (x.fz.trans r.sub) hs)
    obtain ⟨w, h1, h2⟩ := hr.get hd
    rw [hv] at h1
    cases h1
    exact ⟨F1, μ1, Ext.refl _ _, r, h2.mono x⟩
theorem yields_tup {K : PySem.W.Frag} (hK : K = G.K) {F : Hp} {μ : List Addr} {a : Addr} {l : List D} {xs : List V} (hs : TupF K F a xs) (hr : Reps G F μ l xs) : Yields G F μ l (Itt K a) where
  go := fun i F1 μ1 S H x r hi => by
    obtain ⟨v, hv⟩ : ∃ v, xs[i]? = some v := ⟨_, List.getElem?_eq_getElem (by rw [← hr.length]; exact hi)⟩
    exact ⟨xs, v, same_sqT (x.fz.trans r.sub) hs, hv⟩
  stop := fun i F1 μ1 S H x r hi => ⟨xs, same_sqT (x.fz.trans r.sub) hs, by rw [← hr.length]; exact hi⟩
  yld := fun i F1 μ1 S H v H' d x r hd hy => by
    obtain ⟨rfl, h⟩ := hy
    have hv := h xs (same_sqT (x.fz.trans r.sub) hs)
    obtain ⟨w, h1, h2⟩ := hr.get hd
    rw [hv] at h1
    cases h1
    exact ⟨F1, μ1, Ext.refl _ _, r, h2.mono x⟩
theorem si_seq {tg e : Expr} {m : ME} (hK : X.K = G.K) (h : SE G X W e m) : SI G X W tg e (mIter m) := by
  obtain ⟨t, p, i⟩ := h
  refine ⟨_, PI.or (pi_list p) (pi_tup p), fun ρ S σ H F μ R he hr hp => ?_⟩
  unfold mIter at hp
  cases hm : m ρ S with
  | bad => rw [hm] at hp; exact hp.elim
  | ex c ks vs S1 =>
    rw [hm] at hp
    exact .inl (i ρ S σ H F μ _ he hr (by rw [hm]; exact hp))
  | ok d S1 =>
    rw [hm] at hp
    obtain ⟨l, e, hp⟩ := post_resO1 (show Post G W (Yields G) F μ σ (fun J H' => R J H') (resO (stillD d) S1) from hp)
    cases d with
    | tup l' =>
      cases e
      refine .inr (i ρ S σ H F μ _ he hr ?_)
      rw [hm]
      intro F1 μ1 v H1 x1 r1 p1
      cases p1 with
      | tup hs hrs =>
        refine ⟨_, rfl, ⟨_, by rw [hK]; exact same_sqT r1.sub hs⟩, ?_⟩
        exact hp F1 μ1 _ H1 x1 r1 (yields_tup hK (by rw [hK]; exact hs) hrs)
    | lst l' =>
      cases e
      refine .inl (i ρ S σ H F μ _ he hr ?_)
      rw [hm]
      intro F1 μ1 v H1 x1 r1 p1
      cases p1 with
      | lst hs hrs =>
        refine ⟨_, rfl, ⟨_, SqL.of (r1.sub _ _ hs)⟩, ?_⟩
        exact hp F1 μ1 _ H1 x1 r1 (yields_list hK (SqL.of hs) hrs)
    | kst l' =>
      cases e
      refine .inl (i ρ S σ H F μ _ he hr ?_)
      rw [hm]
      intro F1 μ1 v H1 x1 r1 p1
      cases p1 with
      | kst hs hrs =>
        refine ⟨_, rfl, ⟨_, by rw [hK]; exact same_sqL r1.sub hs⟩, ?_⟩
        exact hp F1 μ1 _ H1 x1 r1 (yields_list hK (by rw [hK]; exact hs) hrs)
    | _ => cases e
def rangeL (lo : Int) (n : Nat) : List D := (List.range n).map fun (i : Nat) => .int (lo + (i : Int))
theorem yields_range {F : Hp} {μ : List Addr} {lo : Int} {n : Nat} : Yields G F μ (rangeL lo n) (Itr lo n) where
  go := fun i F1 μ1 S H x r hi => by
    simp [rangeL] at hi
    exact hi
  stop := fun i F1 μ1 S H x r hi => by
    simp [rangeL] at hi
    exact hi
  yld := fun i F1 μ1 S H v H' d x r hd hy => by
    obtain ⟨rfl, rfl⟩ := hy
    unfold rangeL at hd
    rw [List.getElem?_map] at hd
    cases e : (List.range n)[i]? with
    | none => rw [e] at hd; cases hd
    | some j =>
      rw [e] at hd
      have := List.getElem?_eq_some_iff.mp e
      obtain ⟨hl, hj⟩ := this
      simp at hj
      subst hj
      cases hd
      exact ⟨F1, μ1, Ext.refl _ _, r, .int _⟩
def rgOk (j : Int) : Bool := decide (-2 ^ 62 ≤ j) && decide (j < 2 ^ 62)
theorem rgOk_b {j : Int} (h : rgOk j = true) : -2 ^ 62 ≤ j ∧ j < 2 ^ 62 := by
  unfold rgOk at h
  rw [Bool.and_eq_true] at h
  exact ⟨of_decide_eq_true h.1, of_decide_eq_true h.2⟩
theorem rgOk_of {j : Int} (h : -1000000000 ≤ j ∧ j ≤ 1000000000) : rgOk j = true := by
  unfold rgOk
  rw [Bool.and_eq_true]
  exact ⟨decide_eq_true (by omega), decide_eq_true (by omega)⟩
def mRange1 (l : ML) : ML := fun ρ S => (l ρ S).bind fun ds S1 =>
  match ds with
  | [.int j] => if rgOk j = true then .ok (rangeL 0 j.toNat) S1 else .bad
  | _ => .bad
theorem si_range1 {tg a : Expr} {p pos : Pos} {m : ML} (hmg : X.mg = G.mg) (hm : G.mg "range" = none) (ha : SA G X W [a] m) (hg : Gl X "range" := by rfl) (hs : starEach [a] X.env = [(false, eval a X.env)] := by rfl) : SI G X W tg (.Call (.Name "range" p) [a] [] pos) (mRange1 m) := by
  obtain ⟨t, pa, i⟩ := ha
  refine ⟨_, pi_range1 hg (by rw [hmg]; exact hm) pa hs, fun ρ S σ H F μ R he hr hp => ?_⟩
  refine i ρ S σ H F μ _ he hr (Post.bind hp fun ds S1 F1 μ1 vs H1 x1 r1 p1 q1 => ?_)
  split at q1
  · obtain ⟨hb, q⟩ := post_if q1
    cases p1 with
    | cons a1 b1 =>
      cases b1
      cases a1
      exact ⟨_, rfl, (rgOk_b hb).1, (rgOk_b hb).2, q F1 μ1 _ H1 (Ext.refl _ _) r1 yields_range⟩
  · exact q1.elim
def mRange2 (l : ML) : ML := fun ρ S => (l ρ S).bind fun ds S1 =>
  match ds with
  | [.int i, .int j] => if rgOk i = true ∧ rgOk j = true then .ok (rangeL i (j - i).toNat) S1 else .bad
  | _ => .bad

theorem si_range2 {tg a b : Expr} {p pos : Pos} {m : ML} (hmg : X.mg = G.mg) (hm : G.mg "range" = none) (ha : SA G X W [a, b] m) (hg : Gl X "range" := by rfl) (hs : starEach [a, b] X.env = [(false, eval a X.env), (false, eval b X.env)] := by rfl) (hs2 : starEach [b] X.env = [(false, eval b X.env)] := by rfl) : SI G X W tg (.Call (.Name "range" p) [a, b] [] pos) (mRange2 m) := by
  obtain ⟨t, pa, i⟩ := ha
  refine ⟨_, pi_range2 hg (by rw [hmg]; exact hm) pa hs hs2, fun ρ S σ H F μ R he hr hp => ?_⟩
  refine i ρ S σ H F μ _ he hr (Post.bind hp fun ds S1 F1 μ1 vs H1 x1 r1 p1 q1 => ?_)
  split at q1
  · obtain ⟨hb, q⟩ := post_if q1
    cases p1 with
    | cons a1 b1 =>
      cases b1 with
      | cons a2 b2 =>
        cases b2
        cases a1
        cases a2
        exact ⟨_, _, rfl, ⟨(rgOk_b hb.1).1, (rgOk_b hb.1).2, (rgOk_b hb.2).1, (rgOk_b hb.2).2⟩, q F1 μ1 _ H1 (Ext.refl _ _) r1 yields_range⟩
  · exact q1.elim

/-! ## list comprehensions -/
def tOf (G : Gm) (W : WX) (m : ME) : TE := fun σ H Q => ∃ F μ ρ S, EnvR G F μ ρ σ ∧ Rel G F μ S H ∧ Post G W (Rep G) F μ σ Q (m ρ S)
theorem SE.pe {e : Expr} {m : ME} (h : SE G X W e m) : PE X e (tOf G W m) := by
  obtain ⟨t, p, i⟩ := h
  exact ⟨fun pins s σ H Q I ⟨F, μ, ρ, S, he, hr, hp⟩ => p.run pins s σ H Q I (i ρ S σ H F μ Q he hr hp)⟩
def tOfT (G : Gm) (W : WX) (m : MB) : TT := fun σ H Q => ∃ F μ ρ S, EnvR G F μ ρ σ ∧ Rel G F μ S H ∧ Post G W rB F μ σ Q (m ρ S)
theorem ST.pt {e : Expr} {m : MB} (h : ST G X W e m) : PT X e (tOfT G W m) := by
  obtain ⟨t, p, i⟩ := h
  exact ⟨fun pins s σ H Q I ⟨F, μ, ρ, S, he, hr, hp⟩ => p.run pins s σ H Q I (i ρ S σ H F μ Q he hr hp)⟩
/-- a target that stores at the places vs alone -/
def tOfG (G : Gm) (vs : List Nat) (m : MG) : TG := fun v σ H Q => ∃ F μ ρ S d ρ' S', EnvR G F μ ρ σ ∧ Rel G F μ S H ∧ Rep G F μ d v ∧ m d ρ S = some (ρ', S') ∧
  ∀ F' μ' σ' H', Ext F μ F' μ' → Rel G F' μ' S' H' → EnvR G F' μ' ρ' σ' → wipe σ' vs = wipe σ vs → Q σ' H'
def tOfGs (G : Gm) (vs : List Nat) (m : MGs) : TGs := fun us σ H Q => ∃ F μ ρ S ds ρ' S', EnvR G F μ ρ σ ∧ Rel G F μ S H ∧ Reps G F μ ds us ∧ m ds ρ S = some (ρ', S') ∧
  ∀ F' μ' σ' H', Ext F μ F' μ' → Rel G F' μ' S' H' → EnvR G F' μ' ρ' σ' → wipe σ' vs = wipe σ vs → Q σ' H'
structure SO (G : Gm) (X : Cx) (vs : List Nat) (tg : Expr) (m : MG) : Prop where
  pg : PG X tg (tOfG G vs m)
structure SOs (G : Gm) (X : Cx) (vs : List Nat) (tg : List Expr) (m : MGs) : Prop where
  pg : PGs X tg (tOfGs G vs m)
theorem wipe_set {σ : L2.St} {i : Nat} {x : Option V} : ∀ {vs : List Nat}, i ∈ vs → wipe (σ.set i x) vs = wipe σ vs
  | [], h => by simp at h
  | v :: vs, h => by
    unfold wipe
    by_cases hm : i ∈ vs
    · rw [wipe_set hm]
    · have e : i = v := by
        rcases List.mem_cons.mp h with e | e
        · exact e
        · exact absurd e hm
      subst e
      apply List.ext_getElem?
      intro j
      by_cases hj : i = j
      · subst hj
        by_cases hl : i < σ.length
        · rw [List.getElem?_set_self (by rw [wipe_length, List.length_set]; exact hl), List.getElem?_set_self (by rw [wipe_length]; exact hl)]
        · rw [List.getElem?_eq_none (by rw [List.length_set, wipe_length, List.length_set]; omega), List.getElem?_eq_none (by rw [List.length_set, wipe_length]; omega)]
      · rw [List.getElem?_set_ne hj, List.getElem?_set_ne hj]
        clear h hm
        induction vs with
        | nil => unfold wipe; rw [List.getElem?_set_ne hj]
        | cons w ws ih =>
          unfold wipe
          by_cases hw : w = j
          · subst hw
            by_cases hl : w < σ.length
            · rw [List.getElem?_set_self (by rw [wipe_length, List.length_set]; exact hl), List.getElem?_set_self (by rw [wipe_length]; exact hl)]
            · rw [List.getElem?_eq_none (by rw [List.length_set, wipe_length, List.length_set]; omega), List.getElem?_eq_none (by rw [List.length_set, wipe_length]; omega)]
          · rw [List.getElem?_set_ne hw, List.getElem?_set_ne hw]
            exact ih
theorem wipe_sub {σ : L2.St} {vs : List Nat} : ∀ {ws : List Nat}, (∀ i ∈ ws, i ∈ vs) → wipe (wipe σ ws) vs = wipe σ vs
  | [], _ => rfl
  | w :: ws, h => by
    show wipe ((wipe σ ws).set w none) vs = wipe σ vs
    rw [wipe_set (h w List.mem_cons_self)]
    exact wipe_sub fun i hi => h i (List.mem_cons_of_mem _ hi)
theorem so_name {vs : List Nat} {i : Nat} {x : Str} {pos : Pos} (hN : X.N.Nodup) (hv : i ∈ vs := by decide) (hi : X.N[i]? = some x := by rfl) (hx : Loc X.env.scope x := by first | exact Or.inl rfl | exact Or.inr rfl) (hf : X.fn x = true ∨ X.env.scope.names.lookup x = some .local := by first | exact .inl rfl | exact .inr rfl) : SO G X vs (.Name x pos) (gNm i) :=
  ⟨⟨fun pins s σ H v u Q I r hw => by
    obtain ⟨F, μ, ρ, S, d, ρ', S', he, hr, rd, e, hq⟩ := hw
    cases e
    exact (pg_name hN hi hx hf).run pins s σ H v u Q I r (hq F μ _ H (Ext.refl _ _) hr (he.set i rd) (wipe_set hv))⟩⟩
theorem sos_nil {vs : List Nat} : SOs G X vs [] gsNil :=
  ⟨⟨fun pins s σ H us ws Q I r hw => by
    obtain ⟨F, μ, ρ, S, ds, ρ', S', he, hr, rd, e, hq⟩ := hw
    cases rd with
    | nil =>
      cases e
      exact pgs_nil.run pins s σ H [] ws Q I r ⟨rfl, hq F μ σ H (Ext.refl _ _) hr he rfl⟩
    | cons a b => cases e⟩⟩
theorem sos_cons {vs : List Nat} {e : Expr} {es : List Expr} {g : MG} {gs : MGs} (h1 : SO G X vs e g) (h2 : SOs G X vs es gs) (hs : (assignEach (e :: es) X.env).map (·.2) = assign e X.env :: (assignEach es X.env).map (·.2) := by rfl) : SOs G X vs (e :: es) (gsCons g gs) :=
  ⟨⟨fun pins s σ H us ws Q I r hw => by
    obtain ⟨F, μ, ρ, S, ds, ρ', S', he, hr, rd, e', hq⟩ := hw
    refine (pgs_cons h1.pg h2.pg hs).run pins s σ H us ws Q I r ?_
    cases rd with
    | nil => cases e'
    | @cons d v ds vs' r1 r2 =>
      simp only [gsCons] at e'
      cases hg : g d ρ S with
      | none => rw [hg] at e'; cases e'
      | some w =>
        rw [hg] at e'
        refine ⟨v, vs', rfl, F, μ, ρ, S, d, w.1, w.2, he, hr, r1, hg, fun F1 μ1 σ1 H1 x1 rr e1 w1 => ?_⟩
        exact ⟨F1, μ1, w.1, w.2, ds, ρ', S', e1, rr, r2.mono x1, e', fun F2 μ2 σ2 H2 x2 r2 e2 w2 => hq F2 μ2 σ2 H2 (x1.trans x2) r2 e2 (w2.trans w1)⟩⟩⟩
theorem so_many {vs : List Nat} {es : List Expr} {cx : Nat} {pos : Pos} {gs : MGs} {n : Nat} (hK : X.K = G.K) (hc : X.calm = true) (h : SOs G X vs es gs) (hn : (assignEach es X.env).length = n := by rfl) (hst : (assignEach es X.env).findIdx? (·.1) = none := by rfl) : SO G X vs (.Tuple es cx pos) (gMany n gs) :=
  ⟨⟨fun pins s σ H v u Q I r hw => by
    obtain ⟨F, μ, ρ, S, d, ρ', S', he, hr, rd, e, hq⟩ := hw
    refine (PG.or (pg_tup hc h.pg hn hst) (pg_lst hc h.pg hn hst)).run pins s σ H v u Q I r ?_
    unfold gMany at e
    split at e
    · rename_i l hl
      by_cases hlen : l.length = n
      · rw [if_pos hlen] at e
        obtain ⟨a, xs, rfl, rs, hs⟩ := items_ok hr rd hl
        have hx : xs.length = n := by rw [← rs.length]; exact hlen
        rcases hs with hs | hs
        · exact .inl ⟨a, xs, rfl, by rw [hK]; exact hs, hx, F, μ, ρ, S, l, ρ', S', he, hr, rs, e, hq⟩
        · exact .inr ⟨a, xs, rfl, by rw [hK]; exact hs, hx, F, μ, ρ, S, l, ρ', S', he, hr, rs, e, hq⟩
      · rw [if_neg hlen] at e
        cases e
    · cases e⟩⟩
def wipeR (ρ : Env') : List Nat → Env'
  | [] => ρ
  | v :: vs => (wipeR ρ vs).set v none
theorem wipeR_ok {F : Hp} {μ : List Addr} {ρ : Env'} {σ : L2.St} (h : EnvR G F μ ρ σ) : ∀ vs : List Nat, EnvR G F μ (wipeR ρ vs) (wipe σ vs)
  | [] => h
  | v :: vs => by
    have ih := wipeR_ok h vs
    refine ⟨by unfold wipeR wipe; rw [List.length_set, List.length_set]; exact ih.len, fun i d e => ?_⟩
    unfold wipeR at e
    unfold wipe
    by_cases hi : v = i
    · subst hi
      by_cases hl : v < (wipeR ρ vs).length
      · rw [List.getElem?_set_self hl] at e; cases e
      · rw [List.getElem?_eq_none (by rw [List.length_set]; omega)] at e; cases e
    · rw [List.getElem?_set_ne hi] at e
      rw [List.getElem?_set_ne hi]
      exact ih.get i d e
def noEx {α : Type} : Res α → Res α
  | .ok a S => .ok a S
  | _ => .bad
@[simp] theorem noEx_ok {α : Type} (a : α) (S : Store) : noEx (.ok a S) = .ok a S := rfl
def pushAt (n : Nat) (y : D) (S : Store) : Option Store :=
  match S[n]? with
  | some (.lst acc) => if acc.length < sizeLine then some (S.set n (.lst (acc ++ [y]))) else none
  | _ => none
def compL (n : Nat) (g : MG) (t : MB) (e : ME) (ρ : Env') : List D → Store → Res Unit
  | [], S => .ok () S
  | d :: ds, S =>
    match g d ρ S with
    | some p => (noEx (t p.1 p.2)).bind fun b S2 =>
      if b = true then (noEx (e p.1 S2)).bind fun y S3 => (resO (pushAt n y S3) S3).bind fun S4 _ => compL n g t e ρ ds S4
      else compL n g t e ρ ds S2
    | none => .bad
def mComp (l : ML) (vs : List Nat) (g : MG) (t : MB) (e : ME) : ME := fun ρ S => (l ρ S).bind fun ds S1 => (compL S1.length g t e (wipeR ρ vs) ds (S1 ++ [.lst []])).bind fun _ S2 => .ok (.loc S1.length) S2
def mYes : MB := fun _ S => .ok true S
abbrev WN : WX := fun _ _ _ _ => False
theorem noEx_ne {α : Type} {r : Res α} {β : Type} {f : α → Store → Res β} {R : β → Prop} (h : ∃ u S, (noEx r).bind f = .ok u S) : ∃ a S, r = .ok a S := by
  cases r with
  | ok a S => exact ⟨a, S, rfl⟩
  | _ => obtain ⟨u, S, h⟩ := h; cases h
theorem imp_lc {ti : TI} {l : ML} {vs : List Nat} {g : MG} {t : MB} {e : ME} (ii : ImpI G W ti l) : ImpE G W (Rep G) (tLc ti (tOfG G vs g) (tOfT G WN t) (tOf G WN e) vs) (mComp l vs g t e) := by
  intro ρ S σ H F μ Q he hr hp
  refine ii ρ S σ H F μ _ he hr (Post.bind hp fun ds S1 F1 μ1 J H1 x1 r1 y1 q1 => ?_)
  intro p hpn
  cases hres : compL S1.length g t e (wipeR ρ vs) ds (S1 ++ [.lst []]) with
  | bad => rw [hres] at q1; exact q1.elim
  | ex c ks vs' S' =>
    exfalso
    have noex : ∀ (ds : List D) (S : Store), compL S1.length g t e (wipeR ρ vs) ds S ≠ .ex c ks vs' S' := by
      intro ds
      induction ds with
      | nil => intro S z; cases z
      | cons d ds ih =>
        intro S z
        simp only [compL] at z
        cases hg : g d (wipeR ρ vs) S with
        | none => rw [hg] at z; cases z
        | some w =>
          rw [hg] at z
          simp only at z
          cases ht : t w.1 w.2 with
          | ok b S2 =>
            rw [ht] at z
            simp only [noEx_ok, bind_ok] at z
            by_cases hb : b = true
            · rw [if_pos hb] at z
              cases hee : e w.1 S2 with
              | ok y S3 =>
                rw [hee] at z
                simp only [noEx_ok, bind_ok] at z
                cases hpp : pushAt S1.length y S3 with
                | none => rw [hpp] at z; cases z
                | some S4 => rw [hpp] at z; exact ih S4 z
              | ex _ _ _ _ => rw [hee] at z; cases z
              | bad => rw [hee] at z; cases z
            · rw [if_neg hb] at z
              exact ih S2 z
          | ex _ _ _ _ => rw [ht] at z; cases z
          | bad => rw [ht] at z; cases z
    exact noex ds _ hres
  | ok u S9 =>
    rw [hres] at q1
    have q9 : Post G W (Rep G) F1 μ1 σ Q (.ok (.loc S1.length) S9) := q1
    have r2 : Rel G F1 (μ1 ++ [p]) (S1 ++ [.lst []]) (upd H1 p (.lst [])) := r1.newL hpn (.lst (r1.fnone hpn) upd_same .nil)
    have hpl : (μ1 ++ [p])[S1.length]? = some p := mu_new r1 p
    refine ⟨fun i m H => m = ds.length - i ∧ i ≤ ds.length ∧ ∃ F' μ' S, Ext F1 (μ1 ++ [p]) F' μ' ∧ Rel G F' μ' S H ∧ compL S1.length g t e (wipeR ρ vs) (ds.drop i) S = .ok u S9, ⟨ds.length, by simp, Nat.zero_le _, F1, μ1 ++ [p], _, Ext.refl _ _, r2, hres⟩, ?_⟩
    rintro i m H2 ⟨rfl, hi, F2, μ2, S2, x2, r2, c2⟩
    have xa := ext_app F1 μ1 p
    by_cases hlt : i < ds.length
    · refine .inr ⟨y1.go i F2 μ2 S2 H2 (xa.trans x2) r2 hlt, fun H' => ∃ F' μ' S, Ext F1 (μ1 ++ [p]) F' μ' ∧ Rel G F' μ' S H' ∧ compL S1.length g t e (wipeR ρ vs) (ds.drop (i + 1)) S = .ok u S9, fun H' h => ⟨ds.length - (i + 1), by omega, rfl, hlt, h⟩, fun x H' hy => ?_⟩
      have hd : ds[i]? = some ds[i] := List.getElem?_eq_getElem hlt
      obtain ⟨F3, μ3, x3, r3, p3⟩ := y1.yld i F2 μ2 S2 H2 x H' _ (xa.trans x2) r2 hd hy
      rw [List.drop_eq_getElem_cons hlt] at c2
      simp only [compL] at c2
      cases hg : g ds[i] (wipeR ρ vs) S2 with
      | none => rw [hg] at c2; cases c2
      | some w =>
        rw [hg] at c2
        simp only at c2
        have e3 : EnvR G F3 μ3 (wipeR ρ vs) (wipe σ vs) := wipeR_ok ((he.mono x1).mono ((xa.trans x2).trans x3)) vs
        refine ⟨F3, μ3, wipeR ρ vs, S2, ds[i], w.1, w.2, e3, r3, p3, hg, fun F4 μ4 σ4 H4 x4 r4 e4 w4 => ⟨?_, F4, μ4, w.1, w.2, e4, r4, ?_⟩⟩
        · rw [w4]
          exact wipe_sub fun i hi => hi
        · cases ht : t w.1 w.2 with
          | bad => rw [ht] at c2; cases c2
          | ex _ _ _ _ => rw [ht] at c2; cases c2
          | ok b S5 =>
            rw [ht] at c2
            simp only [noEx_ok, bind_ok] at c2
            intro F5 μ5 b' H5 x5 r5 hb'
            cases (show b = b' from hb')
            cases b with
            | false =>
              refine iteF ?_
              rw [if_neg Bool.false_ne_true] at c2
              exact ⟨F5, μ5, S5, ((x2.trans x3).trans x4).trans x5, r5, c2⟩
            | true =>
              refine iteT ?_
              rw [if_pos rfl] at c2
              refine ⟨F5, μ5, w.1, S5, e4.mono x5, r5, ?_⟩
              cases hee : e w.1 S5 with
              | bad => rw [hee] at c2; cases c2
              | ex _ _ _ _ => rw [hee] at c2; cases c2
              | ok y S6 =>
                rw [hee] at c2
                simp only [noEx_ok, bind_ok] at c2
                intro F6 μ6 v6 H6 x6 r6 p6
                have xx := (((x2.trans x3).trans x4).trans x5).trans x6
                have hp6 := xx.mu _ _ hpl
                unfold pushAt at c2
                split at c2
                · rename_i acc hacc
                  obtain ⟨as, hf, hh, rs⟩ := r6.lstAt hp6 hacc
                  by_cases hsz : acc.length < sizeLine
                  · rw [if_pos hsz] at c2
                    refine ⟨as, hh, by rw [← rs.length]; exact hsz, F6, μ6, _, xx, r6.write (o := .lst (as ++ [v6])) (e := .lst (acc ++ [y])) hp6 hf (.lst hf upd_same (rs.app (.cons p6 .nil))), c2⟩
                  · rw [if_neg hsz] at c2
                    cases c2
                · cases c2
    · refine .inl ⟨y1.stop i F2 μ2 S2 H2 (xa.trans x2) r2 (by omega), ?_⟩
      rw [List.drop_eq_nil_of_le (by omega)] at c2
      cases c2
      exact q9 F2 μ2 _ H2 (xa.trans x2) r2 (.loc (x2.mu _ _ hpl))
structure SQ (G : Gm) (X : Cx) (W : WX) (ifs : List Expr) (m : MB) : Prop where
  ex : PTs X ifs (tOfT G W m)
theorem sq_nil : SQ G X W [] mYes := ⟨⟨fun pins s σ H Q I hw => pts_nil.run pins s σ H Q I (by
  obtain ⟨F, μ, ρ, S, he, hr, hp⟩ := hw
  exact hp F μ true H (Ext.refl _ _) hr rfl)⟩⟩
theorem sq_one {c : Expr} {m : MB} (h : ST G X W c m) : SQ G X W [c] m := ⟨pts_one h.pt⟩
theorem Ok.blk (ok : Ok G X k W) (s : Shared) (H : Hp) (scope : Scope) (cenv : Env) (fp : List Addr) : Ok G (X.blk s H scope cenv fp) k WN :=
  ⟨ok.K, ok.mg, ok.calm, ok.nd, ok.room, ok.gd, takes0, PassesOwn.never⟩
theorem se_lc {elt tg iter : Expr} {ifs : List Expr} {scope : Scope} {own : List (Str × Nat)} {pos : Pos} {l : ML} {g : MG} {t : MB} {e : ME} (ok : Ok G X k W) (hi : SI G X W tg iter l)
    (hg : ∀ (s : Shared) (H : Hp) (C : Addr) (cl : List (Str × Addr)) (fp : List Addr), SO G (X.blk s H scope (compEnvC scope cl C X.env) fp) (own.map (·.2)) tg g)
    (ht : ∀ (s : Shared) (H : Hp) (C : Addr) (cl : List (Str × Addr)) (fp : List Addr), Ok G (X.blk s H scope (compEnvC scope cl C X.env) fp) k WN → SQ G (X.blk s H scope (compEnvC scope cl C X.env) fp) WN ifs t)
    (he : ∀ (s : Shared) (H : Hp) (C : Addr) (cl : List (Str × Addr)) (fp : List Addr), Ok G (X.blk s H scope (compEnvC scope cl C X.env) fp) k WN → SE G (X.blk s H scope (compEnvC scope cl C X.env) fp) WN elt e)
    (bk : BlkOk X.N X.env.scope scope own := by exact blkOk_by (by decide +kernel)) (hs : ∀ x, foldedSetIterable iter X.env x = pure x := by intro _; rfl) :
    SE G X W (.ListComp elt [⟨tg, iter, ifs, 0⟩] scope pos) (mComp l (own.map (·.2)) g t e) := by
  obtain ⟨ti, pi, ii⟩ := hi
  exact ⟨_, pe_lc ok.calm ok.nd pi bk (fun s H C cl fp => (hg s H C cl fp).pg) (fun s H C cl fp => (ht s H C cl fp (ok.blk _ _ _ _ _)).ex) (fun s H C cl fp => (he s H C cl fp (ok.blk _ _ _ _ _)).pe) hs, imp_lc ii⟩
/-- the value is told in one way or another -/
def mId (m : ME) : ME := m
theorem ss_setLc {i : Nat} {y : Str} {py : Pos} {elt tg iter : Expr} {ifs : List Expr} {scope : Scope} {own : List (Str × Nat)} {pos spos : Pos} {l : ML} {g : MG} {t : MB} {e : ME} (wr : ME → ME) (hwr : ∀ (t : TE) (m : ME), ImpE G W (Rep G) t m → ImpE G W (Rep G) t (wr m)) (ok : Ok G X k W) (hi : SI G X W tg iter l)
    (hg : ∀ (s : Shared) (H : Hp) (C : Addr) (cl : List (Str × Addr)) (fp : List Addr), SO G (X.blk s H scope (compEnvC scope cl C X.env) fp) (own.map (·.2)) tg g)
    (ht : ∀ (s : Shared) (H : Hp) (C : Addr) (cl : List (Str × Addr)) (fp : List Addr), Ok G (X.blk s H scope (compEnvC scope cl C X.env) fp) k WN → SQ G (X.blk s H scope (compEnvC scope cl C X.env) fp) WN ifs t)
    (he : ∀ (s : Shared) (H : Hp) (C : Addr) (cl : List (Str × Addr)) (fp : List Addr), Ok G (X.blk s H scope (compEnvC scope cl C X.env) fp) k WN → SE G (X.blk s H scope (compEnvC scope cl C X.env) fp) WN elt e)
    (hy : X.N[i]? = some y := by rfl) (hyl : X.env.scope.names.lookup y = some .local := by rfl)
    (hsw : swapsWith (.ListComp elt [⟨tg, iter, ifs, 0⟩] scope pos) (some (.Name y py)) spos.line X.env = pure true := by exact sw_true rfl rfl rfl (by decide +kernel))
    (bk : BlkOk X.N X.env.scope scope own := by exact blkOk_by (by decide +kernel)) (hs : ∀ x, foldedSetIterable iter X.env x = pure x := by intro _; rfl) :
    SS G X W (.Assign [.Name y py] (.ListComp elt [⟨tg, iter, ifs, 0⟩] scope pos) spos) (sAsg (wr (mComp l (own.map (·.2)) g t e)) (gNm i)) := by
  obtain ⟨ti, pi, ii⟩ := hi
  refine ⟨_, ps_setLc ok.calm ok.nd hy hyl hsw pi bk (fun s H C cl fp => (hg s H C cl fp).pg) (fun s H C cl fp => (ht s H C cl fp (ok.blk _ _ _ _ _)).ex) (fun s H C cl fp => (he s H C cl fp (ok.blk _ _ _ _ _)).pe) hs, fun ρ S σ H F μ Ds he hr hp => ?_⟩
  refine hwr _ _ (imp_lc ii) ρ S σ H F μ _ he hr (PostS.res hp he fun d S1 F1 μ1 v H1 x1 r1 p1 q1 => ?_)
  exact q1 F1 μ1 _ H1 (Ext.refl _ _) r1 ((he.mono x1).set i p1)
theorem wr_frz : ∀ (t : TE) (m : ME), ImpE G W (Rep G) t m → ImpE G W (Rep G) t (mCut (mFrz m)) := fun _ _ h => imp_cut (imp_frz h)
theorem wr_id : ∀ (t : TE) (m : ME), ImpE G W (Rep G) t m → ImpE G W (Rep G) t (mId m) := fun _ _ h => h
end
end Z

set_option Elab.async false
set_option linter.all false
set_option maxRecDepth 100000
set_option maxHeartbeats 2000000
set_option autoImplicit false
namespace Z
open PySem PySem.Spec L2

/-! ## isinstance -/
inductive Tg where
  | ty (n : String)
  | cls (c : Nat)
  deriving DecidableEq
def tgV (G : Gm) : Tg → Value
  | .ty n => .type n
  | .cls c => .ref (G.cls c)
def tagD (S : Store) : D → Option Tg
  | .non => some (.ty "NoneType")
  | .bl _ => some (.ty "bool")
  | .int _ => some (.ty "int")
  | .str _ => some (.ty "str")
  | .tup _ => some (.ty "tuple")
  | .lst _ => some (.ty "list")
  | .dct _ _ => some (.ty "dict")
  | .ins c _ _ => some (.cls c)
  | .loc n =>
    match S[n]? with
    | some (.lst _) => some (.ty "list")
    | some (.dct _ _) => some (.ty "dict")
    | some (.ins c _ _) => some (.cls c)
    | _ => none
  | _ => none
def tgOf : D → Option Tg
  | .ty n => some (.ty n)
  | .cls c => some (.cls c)
  | _ => none
def tgsOf : List D → Option (List Tg)
  | [] => some []
  | d :: r => match tgOf d, tgsOf r with
    | some t, some ts => some (t :: ts)
    | _, _ => none
abbrev Tab := Tg → Tg → Option Bool
def anyTab (tab : Tab) (t : Tg) : List Tg → Option Bool
  | [] => some false
  | c :: r => match tab t c with
    | some true => some true
    | some false => anyTab tab t r
    | none => none
def isiD (tab : Tab) : MF := fun ds S =>
  match ds with
  | [x, .tup ts] => resO ((tagD S x).bind fun a => (tgsOf ts).bind fun cs => (anyTab tab a cs).map D.bl) S
  | [x, t] => resO ((tagD S x).bind fun a => (tgOf t).bind fun c => (tab a c).map D.bl) S
  | _ => .bad
/-- what is told of a class of one's own -/
structure ClsT (K : PySem.W.Frag) (C : Addr) : Prop where
  cl : Cls K C
  ha : PySem.W.findIn K (.ref C) "__class__" = some (some (.builtin "object.__class__"))
  hn : PySem.W.specialIn K (.builtin "object.__class__") "__get__" = some (some (.builtin "getset_descriptor.__get__"))
  htk : PySem.W.takesIn K (.builtin "object.__class__") = some true
  hm : PySem.W.mroIn K C (.type "object") = some true
structure TabOk (G : Gm) (tab : Tab) : Prop where
  kit : ∀ a b r, tab a b = some r → PySem.W.kitOne G.K (tgV G a) (tgV G b) = some r
  cls : ∀ c b r, tab (.cls c) b = some r → ClsT G.K (G.cls c)
section
variable {G : Gm} {X : Cx} {W : WX} {k : Nat}
theorem tag_ok {F : Hp} {μ : List Addr} {S : Store} {H : Hp} {d : D} {v : V} {a : Tg} (hr : Rel G F μ S H) (r : Rep G F μ d v) (h : tagD S d = some a) (hc : ∀ c, a = .cls c → ClsT G.K (G.cls c)) : TyX G.K H v (tgV G a) := by
  cases r with
  | non => cases h; exact .base .non
  | bl b => cases h; exact .base (.bl b)
  | int b => cases h; exact .base (.int b)
  | str b => cases h; exact .base (.str b)
  | tup hs _ =>
    cases h
    rcases same_sqT hr.sub hs with (q | ⟨o, q⟩) | ⟨o, its, n, q, q1, _⟩
    · exact .base (.tup q)
    · exact .fTuple q
    · exact .kTuple q q1
  | lst hs _ => cases h; exact .base (.lst (hr.sub _ _ hs))
  | dct hs _ _ => cases h; exact .base (.dK (hr.sub _ _ hs))
  | ins hs _ _ =>
    cases h
    have T := hc _ rfl
    exact .base (.ins (hr.sub _ _ hs) T.cl T.ha T.hn T.htk T.hm)
  | @loc n p hm =>
    simp only [tagD] at h
    split at h
    · rename_i l hs
      cases h
      obtain ⟨xs, _, q, _⟩ := hr.lstAt hm hs
      exact .base (.lst q)
    · rename_i l hs
      cases h
      obtain ⟨xs, _, q, _⟩ := hr.dctAt hm hs
      exact .base (.dK q)
    · rename_i l hs
      cases h
      obtain ⟨dx, xs, _, q, _⟩ := hr.insAt hm hs
      have T := hc _ rfl
      exact .base (.ins q T.cl T.ha T.hn T.htk T.hm)
    · cases h
  | _ => cases h
theorem tg_ok {F : Hp} {μ : List Addr} {d : D} {v : V} {a : Tg} (r : Rep G F μ d v) (h : tgOf d = some a) : ClsV v (tgV G a) := by
  cases r with
  | ty n => cases h; exact .ty n
  | cls c => cases h; exact .own _
  | _ => cases h
theorem tgs_ok {F : Hp} {μ : List Addr} : ∀ {ds : List D} {vs : List V} {ts : List Tg}, Reps G F μ ds vs → tgsOf ds = some ts → PySem.Paired ClsV vs (ts.map (tgV G))
  | [], _, _, r, h => by cases r; cases h; exact .nil
  | d :: ds, _, _, r, h => by
    cases r with
    | cons r1 r2 =>
      simp only [tgsOf] at h
      cases e1 : tgOf d with
      | none => rw [e1] at h; cases h
      | some t =>
        cases e2 : tgsOf ds with
        | none => rw [e1, e2] at h; cases h
        | some ts =>
          rw [e1, e2] at h
          cases h
          exact .cons (tg_ok r1 e1) (tgs_ok r2 e2)
theorem anyTab_ok {tab : Tab} (T : TabOk G tab) {a : Tg} : ∀ {cs : List Tg} {r : Bool}, anyTab tab a cs = some r → PySem.W.kitAny G.K (tgV G a) (cs.map (tgV G)) = some r
  | [], _, h => by cases h; rfl
  | c :: cs, r, h => by
    simp only [anyTab] at h
    cases e : tab a c with
    | none => rw [e] at h; cases h
    | some b =>
      rw [e] at h
      refine kitAny_cons (T.kit a c b e) (fun hb => ?_) fun hb => ?_
      · subst hb
        exact anyTab_ok T h
      · subst hb
        cases h
        rfl
theorem anyTab_cls {tab : Tab} (T : TabOk G tab) {a : Tg} {cs : List Tg} {r : Bool} (hne : cs ≠ []) (h : anyTab tab a cs = some r) : ∀ c, a = .cls c → ClsT G.K (G.cls c) := by
  intro c e
  subst e
  cases cs with
  | nil => exact absurd rfl hne
  | cons b cs =>
    simp only [anyTab] at h
    cases e : tab (.cls c) b with
    | none => rw [e] at h; cases h
    | some q => exact T.cls c b q e
def isiM (tab : Tab) : MF := fun ds S =>
  match ds with
  | [x, t] =>
    match t with
    | .tup ts => if ts.isEmpty = false then resO ((tagD S x).bind fun a => (tgsOf ts).bind fun cs => (anyTab tab a cs).map D.bl) S else .bad
    | t => resO ((tagD S x).bind fun a => (tgOf t).bind fun c => (tab a c).map D.bl) S
  | _ => .bad
theorem ci_isi {tab : Tab} (T : TabOk G tab) : CallI G (isiM tab) (fun xs H Q => rIsi G.K xs H Q ∨ rIsiT G.K xs H Q ∨ rIsiK G.K xs H Q) := by
  intro W F μ σ S H ds us Q hr hs hp
  unfold isiM at hp
  split at hp
  · rename_i x t
    cases hs with
    | cons r1 r2 =>
      cases r2 with
      | cons r2 r3 =>
        cases r3
        split at hp
        · rename_i ts
          obtain ⟨hne, hp⟩ := post_if hp
          obtain ⟨d, e, hp⟩ := post_resO1 hp
          cases e1 : tagD S x with
          | none => rw [e1] at e; cases e
          | some a =>
            cases e2 : tgsOf ts with
            | none => rw [e1, e2] at e; cases e
            | some cs =>
              cases e3 : anyTab tab a cs with
              | none => rw [e1, e2] at e; simp [e3] at e
              | some b =>
                rw [e1, e2] at e
                simp [e3] at e
                subst e
                cases r2 with
                | tup hs2 hr2 =>
                  have hcs : cs ≠ [] := fun z => by
                    subst z
                    cases ts with
                    | nil => cases hne
                    | cons t r =>
                      simp only [tgsOf] at e2
                      split at e2 <;> cases e2
                  have ty := tag_ok hr r1 e1 (anyTab_cls T hcs e3)
                  have pr := tgs_ok hr2 e2
                  rcases hs2 with q | ⟨o, its, n, q, q1, q2, q3, q4⟩
                  · exact .inr (.inl ⟨_, _, _, _, _, b, rfl, hr.sub _ _ q, pr, ty, anyTab_ok T e3, post_ok hr (.bl _) hp⟩)
                  · obtain ⟨oc, od, dt, sl⟩ := o
                    simp only at q1 q2
                    subst q1
                    subst q2
                    have e4 := ClsV.all pr q4
                    refine .inr (.inr ⟨_, _, od, cs.map (tgV G), n, sl, _, b, rfl, ?_, ty, anyTab_ok T e3, post_ok hr (.bl _) hp⟩)
                    rw [q, ← e4]
        · obtain ⟨d, e, hp⟩ := post_resO1 hp
          cases e1 : tagD S x with
          | none => rw [e1] at e; cases e
          | some a =>
            cases e2 : tgOf t with
            | none => rw [e1, e2] at e; cases e
            | some c =>
              cases e3 : tab a c with
              | none => rw [e1, e2] at e; simp [e3] at e
              | some b =>
                rw [e1, e2] at e
                simp [e3] at e
                subst e
                exact .inl ⟨_, _, _, _, b, rfl, tg_ok r2 e2, tag_ok hr r1 e1 (fun c' hc' => by subst hc'; exact T.cls c' c b e3), T.kit a c b e3, post_ok hr (.bl _) hp⟩
  · exact hp.elim
theorem cr_isi (hK : X.K = G.K) : CallR X (.builtin "isinstance") (fun xs H Q => rIsi G.K xs H Q ∨ rIsiT G.K xs H Q ∨ rIsiK G.K xs H Q) := by
  rw [← hK]
  exact call_isi.or (call_isiT.or call_isiK)
/-- built-in types alone -/
def tab0 : Tab := fun a b =>
  match a, b with
  | .ty m, .ty n => if m ∈ ["NoneType", "bool", "int", "str", "tuple", "list", "dict"] ∧ n ∈ ["int", "bool", "str", "list", "tuple", "dict"] then some (decide (m = n) || (decide (m = "bool") && decide (n = "int"))) else none
  | _, _ => none
theorem kit0 : ∀ m ∈ ["NoneType", "bool", "int", "str", "tuple", "list", "dict"], ∀ n ∈ ["int", "bool", "str", "list", "tuple", "dict"], kitB m n = some (decide (m = n) || (decide (m = "bool") && decide (n = "int"))) := by decide +kernel
theorem tab0_ok : TabOk G tab0 where
  kit := fun a b r h => by
    unfold tab0 at h
    split at h
    · split at h
      · rename_i m n hm
        cases h
        exact kit_ty (kit0 m hm.1 n hm.2)
      · cases h
    · cases h
  cls := fun c b r h => by cases h

/-! ## repr -/
def rRepr (K : PySem.W.Frag) : List V → Hp → VK → Prop := fun xs H Q => ∃ x p, xs = [x] ∧ Dp K H x p ∧ SeqAt.shaped p = true ∧ p.showable = true ∧ p.shown.length ≤ sizeLine ∧ Q (.str p.shown) H
theorem cr_repr (hgd : X.A.guards = some []) (hr : Room k X.A) : CallR X (.builtin "repr") (rRepr X.K) := by
  intro pins s σ H xs us Q I rv h
  obtain ⟨x, p, rfl, hd, hsh, hs, hz, q⟩ := h
  obtain ⟨u, rfl, ru⟩ := vals1 rv
  have hu := hr.un
  have hsh' : p.canLay0 = true ∧ p.depth ≤ 64 := by
    unfold SeqAt.shaped at hsh
    rw [Bool.and_eq_true, decide_eq_true_eq] at hsh
    exact hsh
  have fin : ∀ (h' : Heap) (t : Tok) (tk : Nat), (∀ b o, s.heap.get? b = some o → h'.get? b = some o) → EP X pins σ Q (.str p.shown t) { s with heap := h', toks := tk } := fun h' t tk hk => ⟨.str p.shown, H, I.kept hk, ⟨t, rfl⟩, q⟩
  have fin0 : ∀ (t : Tok) (tk : Nat), EP X pins σ Q (.str p.shown t) { s with toks := tk } := fun t tk => ⟨.str p.shown, H, I.tok tk, ⟨t, rfl⟩, q⟩
  cases hd with
  | non => cases ru; exact P.repr_of_none (fin0 _ _)
  | bl b => cases ru; exact P.repr_of_bool (fin0 _ _)
  | int i =>
    obtain ⟨t, rfl⟩ := ru
    exact P.repr_of_int (by simpa [PyData.showable] using hs) (fin0 _ _)
  | str z =>
    obtain ⟨t, rfl⟩ := ru
    exact P.repr_of_str (fin0 _ _) (by simpa [PyData.shown] using hz)
  | lst h1 h2 =>
    obtain ⟨as, r⟩ := Dp.reads I _ _ _ (Dp.lst h1 h2) ru
    cases ru
    exact repr_of_reads' r hs (PyData.noDict_hsm (PyData.hasDict_of_canLay _ hsh'.1)) hgd (by have := hsh'.2; omega) (fun _ _ h => h) (fun h' t tk hk => fin h' t tk hk) hz
  | tup h1 h2 =>
    obtain ⟨as, r⟩ := Dp.reads I _ _ _ (Dp.tup h1 h2) ru
    cases ru
    exact repr_of_reads' r hs (PyData.noDict_hsm (PyData.hasDict_of_canLay _ hsh'.1)) hgd (by have := hsh'.2; omega) (fun _ _ h => h) (fun h' t tk hk => fin h' t tk hk) hz
def reprD (x : D) (S : Store) : Res D :=
  match toPS S x with
  | some p => if SeqAt.shaped p = true ∧ p.showable = true ∧ p.shown.length ≤ sizeLine then .ok (.str p.shown) S else .bad
  | none => .bad
theorem ci_repr (hK : X.K = G.K) : CallI G (f1 reprD) (rRepr X.K) := ci_1 fun W F μ σ S H d v Q hr rd hp => by
  unfold reprD at hp
  split at hp
  · rename_i p hpp
    obtain ⟨⟨h1, h2, h3⟩, hp⟩ := post_if hp
    exact ⟨v, p, rfl, by rw [hK]; exact dp_ok hr rd hpp, h1, h2, h3, post_ok hr (.str _) hp⟩
  · exact hp.elim

/-! ## slices -/
abbrev MO := Env' → Store → Res (Option Int)
def rOI : RR (Option Int) (Option Int) := fun _ _ a b => a = b
structure SOp (G : Gm) (X : Cx) (W : WX) (e : Option Expr) (m : MO) : Prop where
  ex : ∃ t, PO X e t ∧ ImpE G W rOI t m
def mNoP : MO := fun _ S => .ok none S
def asInt : D → Option Int
  | .int i => some i
  | _ => none
def mPart (a : ME) : MO := fun ρ S => (a ρ S).bind fun d S1 => (resO (asInt d) S1).bind fun i S2 => .ok (some i) S2
theorem sop_none : SOp G X W none mNoP := ⟨_, po_none, fun ρ S σ H F μ Q he hr hp => hp F μ none H (Ext.refl _ _) hr rfl⟩
theorem sop_some {e : Expr} {m : ME} (h : SE G X W e m) : SOp G X W (some e) (mPart m) := by
  obtain ⟨t, p, i⟩ := h
  refine ⟨_, po_some p, fun ρ S σ H F μ Q he hr hp => ?_⟩
  refine i ρ S σ H F μ _ he hr (Post.bind hp fun d S1 F1 μ1 v H1 x1 r1 p1 q1 => ?_)
  obtain ⟨n, e, q⟩ := post_bindO q1
  cases d with
  | int j =>
    cases e
    cases p1
    exact ⟨_, rfl, q F1 μ1 _ H1 (Ext.refl _ _) r1 rfl⟩
  | _ => cases e
def cutL {α : Type} (xs : List α) (lo hi : Option Int) : List α := (xs.drop (HT.sIx xs.length 0 lo)).take (HT.sIx xs.length xs.length hi - HT.sIx xs.length 0 lo)
/-- a slice; a list's slice is a new list (never changed behind) -/
def sliceD (d : D) (lo hi : Option Int) (S : Store) : Res D :=
  match d with
  | .str x => if x.length ≤ sizeLine then .ok (.str (cutS x lo hi)) S else .bad
  | .tup l => .ok (.tup (cutL l lo hi)) S
  | d =>
    match itemsD S d with
    | some l => .ok (.lst (cutL l lo hi)) S
    | none => .bad
def mSlice (a : ME) (lo hi : MO) : ME := fun ρ S => (a ρ S).bind fun d S1 => (lo ρ S1).bind fun l S2 => (hi ρ S2).bind fun h S3 => sliceD d l h S3
theorem cutL_rep {F : Hp} {μ : List Addr} {l : List D} {xs : List V} (r : Reps G F μ l xs) (lo hi : Option Int) : Reps G F μ (cutL l lo hi) (cutV xs lo hi) := by
  unfold cutL cutV
  rw [r.length]
  exact (r.drop _).take _
theorem cutL_all {α : Type} {l : List α} {lo hi : Option Int} (h : HT.sIx l.length 0 lo = 0 ∧ HT.sIx l.length l.length hi = l.length) : cutL l lo hi = l := by
  unfold cutL
  rw [h.1, h.2]
  simp
theorem se_slice {e : Expr} {lo hi : Option Expr} {p2 pos : Pos} {m : ME} {a b : MO} (hK : X.K = G.K) (he : SE G X W e m) (hl : SOp G X W lo a) (hh : SOp G X W hi b) : SE G X W (.Subscript e (.Slice lo hi none p2) pos) (mSlice m a b) := by
  obtain ⟨t, p, i⟩ := he
  obtain ⟨tl, pl, il⟩ := hl
  obtain ⟨th, ph, ih⟩ := hh
  refine ⟨_, pe_slice (sl_str.or (sl_tupA.or sl_list)) p pl ph, fun ρ S σ H F μ Q he hr hp => ?_⟩
  refine i ρ S σ H F μ _ he hr (Post.bind hp fun d S1 F1 μ1 v H1 x1 r1 p1 q1 => ?_)
  refine il ρ S1 σ H1 F1 μ1 _ (he.mono x1) r1 (Post.bind q1 fun l S2 F2 μ2 l' H2 x2 r2 e2 q2 => ?_)
  refine ih ρ S2 σ H2 F2 μ2 _ ((he.mono x1).mono x2) r2 (Post.bind q2 fun h S3 F3 μ3 h' H3 x3 r3 e3 q3 => ?_)
  cases (show l = l' from e2)
  cases (show h = h' from e3)
  have p3 := (p1.mono x2).mono x3
  unfold sliceD at q3
  split at q3
  · cases p3
    obtain ⟨hz, q⟩ := post_if q3
    exact .inl ⟨_, rfl, hz, post_ok r3 (.str _) q⟩
  · cases p3 with
    | tup hs hrs =>
      refine .inr (.inl ⟨_, _, rfl, by rw [hK]; exact same_sqT r3.sub hs, fun hw => ?_, fun hw p hpn => ?_⟩)
      · rw [← hrs.length] at hw
        rw [cutL_all hw] at q3
        exact post_ok r3 (.tup hs hrs) q3
      · obtain ⟨x, rr⟩ := r3.newF (.tup _) hpn
        exact q3 _ _ _ _ x rr (.tup (TupF.of upd_same) ((cutL_rep hrs _ _).mono x))
  · rename_i hns hnt
    split at q3
    · rename_i l hl
      have hlist : ∃ a xs, v = .ref a ∧ Reps G F3 μ3 l xs ∧ SqL G.K H3 a xs := by
        cases p3 with
        | tup hs hrs => exact absurd rfl (hnt _)
        | lst hs hrs =>
          cases hl
          exact ⟨_, _, rfl, hrs, SqL.of (r3.sub _ _ hs)⟩
        | kst hs hrs =>
          cases hl
          exact ⟨_, _, rfl, hrs, same_sqL r3.sub hs⟩
        | @loc m a hm =>
          simp only [itemsD] at hl
          split at hl
          · rename_i l' hs
            cases hl
            obtain ⟨xs, hf, ho, h2⟩ := r3.lstAt hm hs
            exact ⟨_, _, rfl, h2, SqL.of ho⟩
          · cases hl
        | _ => cases hl
      obtain ⟨a, xs, rfl, hrs, hs⟩ := hlist
      refine .inr (.inr ⟨a, xs, rfl, by rw [hK]; exact hs, fun p hpn => ?_⟩)
      obtain ⟨x, rr⟩ := r3.newF (.lst _) hpn
      exact q3 _ _ _ _ x rr (.lst upd_same ((cutL_rep hrs _ _).mono x))
    · exact q3.elim

/-! ## dicts, written -/
def mDict0 : ME := fun _ S => .ok (.loc S.length) (S ++ [.dct [] []])
theorem se_dict0 {pos : Pos} : SE G X W (.Dict [] [] pos) mDict0 := by
  refine ⟨_, pe_dnewK, fun ρ S σ H F μ Q he hr hp => fun p hpn => ?_⟩
  have rr := hr.newL (e := .dct [] []) (o := .dK []) hpn (.dct (xs := []) (hr.fnone hpn) upd_same rfl .nil)
  exact hp _ _ _ _ (ext_app F μ p) rr (.loc (mu_new hr p))
def dctNew (n : Nat) (ks : List Key) (vs : List D) (S : Store) : Res D :=
  match S[n]? with
  | some (.dct [] []) => if ks.length = vs.length ∧ ks.Nodup ∧ ks.length ≤ 15 then .ok (.loc n) (S.set n (.dct ks vs)) else .bad
  | _ => .bad
def mDict (ks : List Key) (l : ML) : ME := fun ρ S => (l ρ (S ++ [.dct [] []])).bind fun vs S1 => dctNew S.length ks vs S1
/-- written keys, values -/
structure SD (G : Gm) (X : Cx) (W : WX) (pos : Pos) (keys : List (Option Expr)) (vals : List Expr) (ks : List Key) (m : ML) : Prop where
  ex : ∃ trs, PPs X pos keys vals trs ∧ ∀ ρ S σ H F μ (Q : List (V × V) → Hp → Prop), EnvR G F μ ρ σ → Rel G F μ S H → Post G W (fun F μ ds ps => ks.length = ds.length ∧ ∃ xs, ps = (ks.zip xs).map (fun kv => (kV kv.1, kv.2)) ∧ Reps G F μ ds xs) F μ σ Q (m ρ S) → tPairs trs σ H Q
theorem sd_nil {pos : Pos} : SD G X W pos [] [] [] mNilL := ⟨_, pps_nil, fun ρ S σ H F μ Q he hr hp => hp F μ [] H (Ext.refl _ _) hr ⟨rfl, [], rfl, .nil⟩⟩
theorem sd_cons {pos : Pos} {ke v : Expr} {keys : List (Option Expr)} {vals : List Expr} {kk : Key} {ks : List Key} {m : ME} {l : ML} (hk : PE X ke (tC (kV kk))) (hv : SE G X W v m) (hr : SD G X W pos keys vals ks l) : SD G X W pos (some ke :: keys) (v :: vals) (kk :: ks) (mConsL m l) := by
  obtain ⟨t, p, i⟩ := hv
  obtain ⟨trs, q, j⟩ := hr
  refine ⟨_, pps_cons hk p q, fun ρ S σ H F μ Q he hr hp => ?_⟩
  refine i ρ S σ H F μ _ he hr (Post.bind hp fun d S1 F1 μ1 w H1 x1 r1 p1 q1 => ?_)
  cases hl : l ρ S1 with
  | bad => rw [hl] at q1; exact q1.elim
  | ex c ks' vs' S2 =>
    rw [hl] at q1
    exact j ρ S1 σ H1 F1 μ1 _ (he.mono x1) r1 (by rw [hl]; exact q1)
  | ok ds S2 =>
    rw [hl] at q1
    refine j ρ S1 σ H1 F1 μ1 _ (he.mono x1) r1 ?_
    rw [hl]
    intro F2 μ2 ps H2 x2 r2 hps
    obtain ⟨hlen, xs, rfl, rxs⟩ := hps
    exact (show Post G W _ F1 μ1 σ Q (.ok (d :: ds) S2) from q1) F2 μ2 _ H2 x2 r2 ⟨by simp [hlen], w :: xs, rfl, .cons (p1.mono x2) rxs⟩
theorem putK_app {κ : Type} [DecidableEq κ] : ∀ (acc : List (κ × V)) (k : κ) (x : V), (∀ p ∈ acc, p.1 ≠ k) → putK acc k x = acc ++ [(k, x)] := fun acc k x h => by
  refine putK_new x ?_
  unfold valV
  have : acc.find? (fun p => decide (p.1 = k)) = none := List.find?_eq_none.mpr fun p hp => by simpa using h p hp
  rw [this]
  rfl
theorem merge_nodup : ∀ (more acc : List (Key × V)), ((acc ++ more).map (·.1)).Nodup → mergeK acc more = acc ++ more
  | [], acc, _ => by simp [mergeK]
  | p :: more, acc, h => by
    have h1 : ∀ q ∈ acc, q.1 ≠ p.1 := by
      intro q hq e
      rw [List.map_append, List.nodup_append] at h
      exact h.2.2 q.1 (List.mem_map_of_mem hq) p.1 (by simp) e
    show mergeK (putK acc p.1 p.2) more = _
    rw [putK_app acc p.1 p.2 h1, merge_nodup more (acc ++ [(p.1, p.2)]) (by rw [List.append_assoc]; exact h), List.append_assoc]
    rfl
theorem map_zip_fst {α β : Type} : ∀ {ks : List α} {xs : List β}, ks.length = xs.length → (ks.zip xs).map (·.1) = ks
  | [], _, _ => rfl
  | k :: ks, x :: xs, h => by
    simp only [List.zip_cons_cons, List.map_cons]
    rw [map_zip_fst (by simpa using h)]
  | _ :: _, [], h => by cases h
theorem se_dict {pos : Pos} {keys : List (Option Expr)} {vals : List Expr} {ks : List Key} {l : ML} (h : SD G X W pos keys vals ks l) (hall : keys.all (·.isSome) = true := by rfl) (hlen : keys.length = vals.length := by rfl) (h0 : keys ≠ [] := by (intro z; cases z)) (h15 : keys.length ≤ 15 := by decide) : SE G X W (.Dict keys vals pos) (mDict ks l) := by
  obtain ⟨trs, p, i⟩ := h
  refine ⟨_, pe_disp p hall hlen h0 h15, fun ρ S σ H F μ Q he hr hp => fun p hpn => ?_⟩
  have rr := hr.newL (e := .dct [] []) (o := .dK []) hpn (.dct (xs := []) (hr.fnone hpn) upd_same rfl .nil)
  have xa := ext_app F μ p
  refine i ρ (S ++ [.dct [] []]) σ _ F (μ ++ [p]) _ (he.mono xa) rr ?_
  have hp' := Post.mono hp xa
  show Post G W _ F (μ ++ [p]) σ _ (l ρ (S ++ [.dct [] []]))
  refine Post.bind (show Post G W (Rep G) F (μ ++ [p]) σ Q ((l ρ (S ++ [.dct [] []])).bind fun vs S1 => dctNew S.length ks vs S1) from hp') fun ds S1 F1 μ1 ps H1 x1 r1 hps q1 => ?_
  obtain ⟨hlen, xs, rfl, rxs⟩ := hps
  have hm := x1.mu _ _ (mu_new hr p)
  unfold dctNew at q1
  split at q1
  · rename_i hs
    obtain ⟨⟨hl2, hnd, hl15⟩, q⟩ := post_if q1
    obtain ⟨ys, hf, hh, _, hy⟩ := r1.dctAt hm hs
    cases hy
    have hz : (ks.zip xs).length = ks.length := by rw [List.length_zip, ← rxs.length]; omega
    have hlx : ks.length = xs.length := by rw [hlen, rxs.length]
    refine ⟨hh, ks.zip xs, rfl, by rw [hz]; exact hl15, ?_⟩
    have em : mergeK [] (ks.zip xs) = ks.zip xs := by
      have := merge_nodup (ks.zip xs) [] (by rw [List.nil_append, map_zip_fst hlx]; exact hnd)
      simpa using this
    rw [em]
    exact q _ _ _ _ (Ext.refl _ _) (r1.write (e := .dct ks ds) hm hf (.dct hf upd_same hl2 rxs)) (.loc hm)
  · exact q1.elim
end
end Z

set_option Elab.async false
set_option linter.all false
set_option maxRecDepth 100000
set_option maxHeartbeats 2000000
set_option autoImplicit false
namespace Z
open PySem PySem.Spec PyProof.Rows L2

/-! ## the law's own call -/
/-- what is to be shown of a law's meaning -/
def LawHolds (n : Nat) (mf : MF) : Prop := ∀ ns : List Int, ns.length ≤ n → ∃ S, mf [.kst (ns.map D.int)] [] = .ok (.bl true) S
theorem ints_rep {G : Gm} {F : Hp} {μ : List Addr} : ∀ ns : List Int, Reps G F μ (ns.map D.int) (ns.map V.int)
  | [] => .nil
  | n :: ns => .cons (.int n) (ints_rep ns)
section
variable {P : Program} {w : World} {G : Gm} {k : Nat} {fa a : Addr} {fd : FuncData} {x : Str} {mf : MF} {s1 : Shared} {vs : List Value} {ns : List Int} {mb : Str → Option Value}
/-- over a tracked heap in which at most the script stands -/
theorem law_core (hk : G.K.In s1.heap) (hn : s1.heap.Ns mainGlobals G.mg) (hb : s1.heap.Ns builtinsNs mb) (hv : ∀ y : Str, y ≠ "__name__" → mb y = bootBuiltins y) (hl : s1.heap.NoLimit) (hg : s1.gens = #[])
    (ha : s1.heap.get? a = some { cls := .type "list", data := .seq vs.toArray }) (hr : Room k callerA)
    (F : ∀ base : Heap, G.K.In base → base.Ns mainGlobals G.mg → GFn G P w base k fa fd [x] mf) (hbind : ∀ (s : Shared) (u : Value), BindsTo s fd ⟨[u], []⟩ [(x, u)]) (hm : ∃ S, mf [.kst (ns.map D.int)] [] = .ok (.bl true) S)
    (H : Hp) (hS : SqL G.K H a (ns.map V.int)) (hok : HOk P w H s1.heap) (only : ∀ b, H b ≠ none → b = a ∧ G.K.lookup a = none ∧ ∃ o xs, H b = some (.frz o (.lst xs))) :
    codeAny (model P w) callerA (.call (.ref fa) ⟨[.ref a], []⟩) (fun r s' => r = .ok (.ret (.bool true)) ∧ OldK s1.heap s'.heap ∧ s'.os = s1.os ∧ AllBare s'.gens) s1 := by
  have off : ∀ (b : Addr) (o : Obj), s1.heap.get? b = some o → (∀ es ep, o.data = .dict es ep → H b = none) := by
    intro b o e es ep d
    by_cases hz : H b = none
    · exact hz
    · obtain ⟨rfl, _⟩ := only b hz
      rw [ha] at e
      have : o = { cls := .type "list", data := .seq vs.toArray } := (Option.some.inj e).symm
      rw [this] at d
      cases (show Data.seq vs.toArray _ = Data.dict es ep from d)
  have nss : ∀ (b : Addr) (m : Str → Option Value), s1.heap.Ns b m → (hidT s1.heap H).Ns b m := by
    rintro b m ⟨o, es, ep, e, d, r⟩
    exact ⟨o, es, ep, hidT_get e (off b o e es ep d), d, r⟩
  have kin : G.K.In (hidT s1.heap H) := by
    intro b o e
    refine hidT_get (hk b o e) ?_
    by_cases hz : H b = none
    · exact hz
    · obtain ⟨rfl, h2, _⟩ := only b hz
      rw [h2] at e
      cases e
  have md : Mod G.K G.mg (hidT s1.heap H) := by
    obtain ⟨mc, q1, q2⟩ := hl
    exact ⟨kin, nss _ _ hn, ⟨mb, nss _ _ hb, hv⟩, ⟨mc, nss _ _ q1, q2⟩⟩
  have no : ∀ (b : Addr), b ∈ frs ([] : List Env) → False := by
    intro b hb
    simp [frs] at hb
  have e0 : Env0 P w G.K G.mg (hidT s1.heap H) callerA [] s1 H := by
    refine ⟨rfl, md, ?_, Nat.le_of_eq (hidT_size _ _), trivial, fun b hb => (no b hb).elim, hok, .of_eq hg⟩
    intro b o e
    exact of_hidT e
  have run := (F _ kin (nss _ _ hn)).run callerA [] s1 H ⟨[.ref a], []⟩ [.ref a] [.ref a] (fun v _ => v = .bl true) (fun _ _ _ => False) hr rfl e0 (hbind s1 (.ref a)) (.cons rfl .nil)
  refine codeAny_mono (run ?_) ?_
  · obtain ⟨S, hm⟩ := hm
    refine ⟨rfl, H, [], [], [.kst (ns.map D.int)], ⟨fun _ _ h => h, rfl, fun i j a h => by simp at h, fun i a e h => by simp at h, fun i a h => by simp at h⟩, .cons (.kst hS (ints_rep ns)) .nil, ?_⟩
    rw [hm]
    intro F' μ' v H' _ _ r
    cases r
    rfl
  · intro r s' h
    cases r with
    | error e =>
      obtain ⟨_, _, _, _, _, _, _, _, _, _, _, _, z⟩ := h
      exact z.elim
    | ok fl =>
      cases fl with
      | ret u =>
        obtain ⟨v, H', os, bare, un, hok', r', q⟩ := h
        have q' : v = .bl true := q
        subst q'
        cases (show u = Value.bool true from r')
        refine ⟨rfl, OldK.of_keep ?_, os, bare⟩
        intro b o e
        by_cases hz : H b = none
        · exact un.keep b o e hz (no b) (by simp)
        · obtain ⟨rfl, _, ob, xs, z⟩ := only b hz
          have z2 := un.frzs b ob _ z
          have e1 := (hok b _ z).1
          have e2 := (hok' b _ z2).1
          rw [e] at e1
          cases e1
          exact e2
      | _ => exact h.elim
theorem law_G (hk : G.K.In s1.heap) (hn : s1.heap.Ns mainGlobals G.mg) (hb : s1.heap.Ns builtinsNs mb) (hv : ∀ y : Str, y ≠ "__name__" → mb y = bootBuiltins y) (hl : s1.heap.NoLimit) (hg : s1.gens = #[])
    (ha : s1.heap.get? a = some { cls := .type "list", data := .seq vs.toArray }) (hi : IntsAre vs ns) (hz : ns.length ≤ sizeLine) (hr : Room k callerA)
    (F : ∀ base : Heap, G.K.In base → base.Ns mainGlobals G.mg → GFn G P w base k fa fd [x] mf) (hbind : ∀ (s : Shared) (u : Value), BindsTo s fd ⟨[u], []⟩ [(x, u)]) (hm : ∃ S, mf [.kst (ns.map D.int)] [] = .ok (.bl true) S) :
    codeAny (model P w) callerA (.call (.ref fa) ⟨[.ref a], []⟩) (fun r s' => r = .ok (.ret (.bool true)) ∧ OldK s1.heap s'.heap ∧ s'.os = s1.os ∧ AllBare s'.gens) s1 := by
  have rv := vals_ints hi
  by_cases hlk : G.K.lookup a = none
  · obtain ⟨H, hH⟩ : ∃ H : Hp, H = fun b => if b = a then some (.frz { cls := .type "list", data := .seq vs.toArray } (.lst (ns.map V.int))) else none := ⟨_, rfl⟩
    have ha' : H a = some (.frz { cls := .type "list", data := .seq vs.toArray } (.lst (ns.map V.int))) := by rw [hH]; exact if_pos rfl
    have hx : ∀ b, b ≠ a → H b = none := fun b hb => by rw [hH]; exact if_neg hb
    refine law_core hk hn hb hv hl hg ha hr F hbind hm H (.inl (.inr ⟨_, ha'⟩)) ?_ ?_
    · intro b u z
      by_cases hba : b = a
      · subst hba
        rw [ha'] at z
        cases z
        exact ⟨ha, by simpa using hz, vs, _, rv, ha⟩
      · rw [hx b hba] at z
        cases z
    · intro b z
      by_cases hba : b = a
      · subst hba
        exact ⟨rfl, hlk, _, _, ha'⟩
      · exact absurd (hx b hba) z
  · obtain ⟨o, ho⟩ := Option.ne_none_iff_exists'.mp hlk
    have e := hk a o ho
    rw [ha] at e
    cases e
    refine law_core hk hn hb hv hl hg ha hr F hbind hm (fun _ => none) (.inr ⟨_, vs.toArray, _, ho, rfl, rfl, rfl, ?_, by simpa using rv⟩) (fun b u z => by cases z) (fun b z => absurd rfl z)
    have hlen := hi.length
    rw [List.size_toArray, hlen]
    exact hz
end
/-- the goal that k_head leaves -/
theorem walk_G {l : PySem.W.OpenLaw} {n k : Nat} {q : Program} {loose : List Str} {XP : (Str → Option Value) → Heap → Prop} {YP : World → Heap → Prop} {d : DefRec} {K : Params → PySem.W.Frag} {x : Str} {mf : MF}
    (hn : l.most = some n) (hn2 : n ≤ sizeLine) (hdf : d.params.defaults = []) (hr : Room k callerA) (hY : ∀ (w : World) (h : Heap), YP w h → (K w.params).In h)
    (F : ∀ (w : World) (mg : Str → Option Value) (fa : Addr) (h : Heap), (K w.params).In h → h.Ns mainGlobals mg → mg d.name = some (.ref fa) →
      ∃ (cl : Nat → Addr) (fd : FuncData), (∀ (s : Shared) (u : Value), BindsTo s fd ⟨[u], []⟩ [(x, u)]) ∧
        ∀ base : Heap, (K w.params).In base → base.Ns mainGlobals mg → GFn ⟨K w.params, mg, cl⟩ l.prog w base k fa fd [x] mf)
    (hlaw : LawHolds n mf) : PySem.W.WalkO q loose XP YP l.row.toRowW d [] (fun f vs => PySem.call f vs) := by
  refine Att.attach_call hn hdf ?_
  intro w s0 s1 mg mb fa o pm cd doc a vs ns G Y ho hd hcd hmg hobj hints hlen hg
  have KX := hY w _ Y
  obtain ⟨cl, fd, hb, hF⟩ := F w mg fa _ KX G.T.g hmg
  exact law_G (G := ⟨K w.params, mg, cl⟩) KX G.T.g G.T.b G.T.builtins G.T.nolimit hg hobj hints (Nat.le_trans hlen hn2) hr hF hb (hlaw ns hlen)
end Z

set_option Elab.async false
set_option linter.all false
set_option maxRecDepth 100000
set_option maxHeartbeats 2000000
set_option autoImplicit false
namespace Z
open PySem PySem.Spec L2

/-! ## short words for printed proofs -/
/-- a def of the module -/
structure Df (G : Gm) (x : Str) (st : Stmt) (ps : List Str) (f : Addr) (fd : FuncData) : Prop where
  fg : FunG G.K x x st f fd
  mg : G.mg x = some (.ref f)
  bd : BdP G.K fd ps
section
variable {G : Gm} {X : Cx} {W : WX} {k j : Nat}
theorem cx_call {f : Addr} {fd : FuncData} {ps : List Str} {mf : MF} {x : Str} {st : Stmt} {p pos : Pos} {e : Expr} {es : List Expr} {m : ML} (ok : Ok G X k W) (d : Df G x st ps f fd) (g : GFn G X.prog X.w X.base j f fd ps mf) (hl : ∀ ds S, mf ds S ≠ .bad → ds.length = ps.length) (ha : SA G X W (e :: es) m)
    (hj : j ≤ k := by first | decide | omega) (hg : Gl X x := by rfl) (hdb : (x == ("__debug__" : Str)) = false := by decide) (he : starEach (e :: es) X.env = (false, eval e X.env) :: starEach es X.env := by rfl) (hpl : (backTo pos (starEach es X.env)).any (·.1) = false := by rfl) :
    SE G X W (.Call (.Name x p) (e :: es) [] pos) (mCall mf m) := se_call ok g hj hl d.mg d.fg.kp d.bd ha hg hdb he hpl
theorem cx_call0 {f : Addr} {fd : FuncData} {ps : List Str} {mf : MF} {x : Str} {st : Stmt} {p pos : Pos} (ok : Ok G X k W) (d : Df G x st ps f fd) (g : GFn G X.prog X.w X.base j f fd ps mf) (hl : ∀ ds S, mf ds S ≠ .bad → ds.length = ps.length)
    (hj : j ≤ k := by first | decide | omega) (hg : Gl X x := by rfl) (hdb : (x == ("__debug__" : Str)) = false := by decide) :
    SE G X W (.Call (.Name x p) [] [] pos) (mCall mf mNilL) := se_call0 ok g hj hl d.mg d.fg.kp d.bd hg hdb
theorem cx_ty {x : Str} {n : String} {pos : Pos} (ok : Ok G X k W) (hm : G.mg x = none) (hv : bootBuiltins x = some (.type n) := by decide +kernel) (hg : Gl X x := by rfl) (hn : x ≠ "__name__" := by decide) (hdb : (x == ("__debug__" : Str)) = false := by decide) : SE G X W (.Name x pos) (mC (.ty n)) :=
  se_c (pe_bltn hg (by rw [ok.mg]; exact hm) hv (show RelV (.ty n) (.type n) from rfl) hn hdb) fun _ _ => .ty n
theorem cx_abs {p pos : Pos} {e : Expr} {es : List Expr} {m : ML} (ok : Ok G X k W) (hm : G.mg "abs" = none) (ha : SA G X W (e :: es) m) (hg : Gl X "abs" := by rfl) (he : starEach (e :: es) X.env = (false, eval e X.env) :: starEach es X.env := by rfl) (hpl : (backTo pos (starEach es X.env)).any (·.1) = false := by rfl) : SE G X W (.Call (.Name "abs" p) (e :: es) [] pos) (mCall (f1 absD) m) :=
  se_callB ci_abs call_abs ok.mg hm (by decide +kernel) ha hg (by decide) (by decide) he hpl
theorem cx_len {p pos : Pos} {e : Expr} {es : List Expr} {m : ML} (ok : Ok G X k W) (hm : G.mg "len" = none) (ha : SA G X W (e :: es) m) (hg : Gl X "len" := by rfl) (he : starEach (e :: es) X.env = (false, eval e X.env) :: starEach es X.env := by rfl) (hpl : (backTo pos (starEach es X.env)).any (·.1) = false := by rfl) : SE G X W (.Call (.Name "len" p) (e :: es) [] pos) (mCall (f1 lenD) m) :=
  se_callB (ci_len ok.K) call_len ok.mg hm (by decide +kernel) ha hg (by decide) (by decide) he hpl
theorem cx_all {p pos : Pos} {e : Expr} {es : List Expr} {m : ML} (ok : Ok G X k W) (hm : G.mg "all" = none) (ha : SA G X W (e :: es) m) (hg : Gl X "all" := by rfl) (he : starEach (e :: es) X.env = (false, eval e X.env) :: starEach es X.env := by rfl) (hpl : (backTo pos (starEach es X.env)).any (·.1) = false := by rfl) : SE G X W (.Call (.Name "all" p) (e :: es) [] pos) (mCall (f1 allD) m) :=
  se_callB ci_all (cr_all ok.calm) ok.mg hm (by decide +kernel) ha hg (by decide) (by decide) he hpl
theorem cx_any {p pos : Pos} {e : Expr} {es : List Expr} {m : ML} (ok : Ok G X k W) (hm : G.mg "any" = none) (ha : SA G X W (e :: es) m) (hg : Gl X "any" := by rfl) (he : starEach (e :: es) X.env = (false, eval e X.env) :: starEach es X.env := by rfl) (hpl : (backTo pos (starEach es X.env)).any (·.1) = false := by rfl) : SE G X W (.Call (.Name "any" p) (e :: es) [] pos) (mCall (f1 anyD) m) :=
  se_callB ci_any (cr_any ok.calm) ok.mg hm (by decide +kernel) ha hg (by decide) (by decide) he hpl
theorem cx_repr {p pos : Pos} {e : Expr} {es : List Expr} {m : ML} (ok : Ok G X k W) (hm : G.mg "repr" = none) (ha : SA G X W (e :: es) m) (hg : Gl X "repr" := by rfl) (he : starEach (e :: es) X.env = (false, eval e X.env) :: starEach es X.env := by rfl) (hpl : (backTo pos (starEach es X.env)).any (·.1) = false := by rfl) : SE G X W (.Call (.Name "repr" p) (e :: es) [] pos) (mCall (f1 reprD) m) :=
  se_callB (ci_repr ok.K) (cr_repr ok.gd ok.room) ok.mg hm (by decide +kernel) ha hg (by decide) (by decide) he hpl
theorem cx_isi {tab : Tab} {p pos : Pos} {e : Expr} {es : List Expr} {m : ML} (ok : Ok G X k W) (T : TabOk G tab) (hm : G.mg "isinstance" = none) (ha : SA G X W (e :: es) m) (hg : Gl X "isinstance" := by rfl) (he : starEach (e :: es) X.env = (false, eval e X.env) :: starEach es X.env := by rfl) (hpl : (backTo pos (starEach es X.env)).any (·.1) = false := by rfl) : SE G X W (.Call (.Name "isinstance" p) (e :: es) [] pos) (mCall (isiM tab) m) :=
  se_callB (ci_isi T) (cr_isi ok.K) ok.mg hm (by decide +kernel) ha hg (by decide) (by decide) he hpl
theorem cx_int {p pos : Pos} {e : Expr} {es : List Expr} {m : ML} (ok : Ok G X k W) (hm : G.mg "int" = none) (ha : SA G X W (e :: es) m) (hg : Gl X "int" := by rfl) (he : starEach (e :: es) X.env = (false, eval e X.env) :: starEach es X.env := by rfl) (hpl : (backTo pos (starEach es X.env)).any (·.1) = false := by rfl) : SE G X W (.Call (.Name "int" p) (e :: es) [] pos) (mCall (f1 intD) m) :=
  se_callTy ci_int call_int1 ok.mg hm (by decide +kernel) ha hg (by decide) (by decide) he hpl
theorem cx_tuple {p pos : Pos} {e : Expr} {es : List Expr} {m : ML} (ok : Ok G X k W) (hm : G.mg "tuple" = none) (ha : SA G X W (e :: es) m) (hg : Gl X "tuple" := by rfl) (he : starEach (e :: es) X.env = (false, eval e X.env) :: starEach es X.env := by rfl) (hpl : (backTo pos (starEach es X.env)).any (·.1) = false := by rfl) : SE G X W (.Call (.Name "tuple" p) (e :: es) [] pos) (mCall (f1 tupD) m) :=
  se_callTy (ci_tup ok.K) call_tuple_of ok.mg hm (by decide +kernel) ha hg (by decide) (by decide) he hpl
theorem cx_list {p pos : Pos} {e : Expr} {es : List Expr} {m : ML} (ok : Ok G X k W) (hm : G.mg "list" = none) (ha : SA G X W (e :: es) m) (hg : Gl X "list" := by rfl) (he : starEach (e :: es) X.env = (false, eval e X.env) :: starEach es X.env := by rfl) (hpl : (backTo pos (starEach es X.env)).any (·.1) = false := by rfl) : SE G X W (.Call (.Name "list" p) (e :: es) [] pos) (mCall (f1 listD) m) :=
  se_callTy (ci_list ok.K) call_list_of ok.mg hm (by decide +kernel) ha hg (by decide) (by decide) he hpl
theorem cx_listL {p pos : Pos} {e : Expr} {es : List Expr} {m : ML} (ok : Ok G X k W) (hm : G.mg "list" = none) (ha : SA G X W (e :: es) m) (hg : Gl X "list" := by rfl) (he : starEach (e :: es) X.env = (false, eval e X.env) :: starEach es X.env := by rfl) (hpl : (backTo pos (starEach es X.env)).any (·.1) = false := by rfl) : SE G X W (.Call (.Name "list" p) (e :: es) [] pos) (mCall (f1 listLD) m) :=
  se_callTy (ci_listL ok.K) call_list_of ok.mg hm (by decide +kernel) ha hg (by decide) (by decide) he hpl
theorem cx_add {a b : Expr} {pos : Pos} {ma mb : ME} (ok : Ok G X k W) (ha : SE G X W a ma) (hb : SE G X W b mb) : SE G X W (.BinOp a .Add b pos) (mBin addD ma mb) := se_op (oi_add ok.K) or_add ha hb
theorem cx_sub {a b : Expr} {pos : Pos} {ma mb : ME} (ok : Ok G X k W) (ha : SE G X W a ma) (hb : SE G X W b mb) : SE G X W (.BinOp a .Sub b pos) (mBin subD ma mb) := se_op oi_sub op_sub ha hb
theorem cx_mul {a b : Expr} {pos : Pos} {ma mb : ME} (ok : Ok G X k W) (ha : SE G X W a ma) (hb : SE G X W b mb) : SE G X W (.BinOp a .Mult b pos) (mBin mulD ma mb) := se_op oi_mul or_mul ha hb
theorem cx_fdiv {a b : Expr} {pos : Pos} {ma mb : ME} (ok : Ok G X k W) (ha : SE G X W a ma) (hb : SE G X W b mb) : SE G X W (.BinOp a .FloorDiv b pos) (mBin fdivD ma mb) := se_op oi_fdiv op_fdivW ha hb
theorem cx_mod {a b : Expr} {pos : Pos} {ma mb : ME} (ok : Ok G X k W) (ha : SE G X W a ma) (hb : SE G X W b mb) : SE G X W (.BinOp a .Mod b pos) (mBin modD ma mb) := se_op oi_mod op_mod ha hb
theorem cx_pow {a b : Expr} {pos : Pos} {ma mb : ME} (ok : Ok G X k W) (ha : SE G X W a ma) (hb : SE G X W b mb) : SE G X W (.BinOp a .Pow b pos) (mBin powD ma mb) := se_op oi_pow op_pow ha hb
theorem cx_neg {a : Expr} {pos : Pos} {ma : ME} (ok : Ok G X k W) (ha : SE G X W a ma) : SE G X W (.UnaryOp .USub a pos) (mUn negD ma) := se_un ui_neg un_neg ha
theorem cx_lt {a b : Expr} {pos : Pos} {ma mb : ME} (ok : Ok G X k W) (ha : SE G X W a ma) (hb : SE G X W b mb) : SE G X W (.Compare a [.Lt] [b] pos) (mBin ltD ma mb) := se_cmp oi_lt or_lt ha hb (nomark _)
theorem cx_le {a b : Expr} {pos : Pos} {ma mb : ME} (ok : Ok G X k W) (ha : SE G X W a ma) (hb : SE G X W b mb) : SE G X W (.Compare a [.LtE] [b] pos) (mBin leD ma mb) := se_cmp oi_le op_le ha hb (nomark _)
theorem cx_gt {a b : Expr} {pos : Pos} {ma mb : ME} (ok : Ok G X k W) (ha : SE G X W a ma) (hb : SE G X W b mb) : SE G X W (.Compare a [.Gt] [b] pos) (mBin gtD ma mb) := se_cmp oi_gt op_gt ha hb (nomark _)
theorem cx_ge {a b : Expr} {pos : Pos} {ma mb : ME} (ok : Ok G X k W) (ha : SE G X W a ma) (hb : SE G X W b mb) : SE G X W (.Compare a [.GtE] [b] pos) (mBin geD ma mb) := se_cmp oi_ge op_ge ha hb (nomark _)
theorem cx_eq {a b : Expr} {pos : Pos} {ma mb : ME} (ok : Ok G X k W) (ha : SE G X W a ma) (hb : SE G X W b mb) : SE G X W (.Compare a [.Eq] [b] pos) (mBin eqD ma mb) := se_cmp (oi_eq ok.K) (or_eq ok.room) ha hb (nomark _)
theorem cx_ne {a b : Expr} {pos : Pos} {ma mb : ME} (ok : Ok G X k W) (ha : SE G X W a ma) (hb : SE G X W b mb) : SE G X W (.Compare a [.NotEq] [b] pos) (mBin neD ma mb) := se_cmp (oi_ne ok.K) (or_ne ok.room) ha hb (nomark _)
theorem cx_is {a b : Expr} {pos : Pos} {ma mb : ME} (ok : Ok G X k W) (ha : SE G X W a ma) (hb : SE G X W b mb) : SE G X W (.Compare a [.Is] [b] pos) (mBin isD ma mb) := se_cmp oi_is or_is ha hb (nomark _)
theorem cx_isNot {a b : Expr} {pos : Pos} {ma mb : ME} (ok : Ok G X k W) (ha : SE G X W a ma) (hb : SE G X W b mb) : SE G X W (.Compare a [.IsNot] [b] pos) (mBin isNotD ma mb) := se_cmp oi_isNot or_isNot ha hb (nomark _)
theorem ct_lt {a b : Expr} {pos : Pos} {ma mb : ME} (ok : Ok G X k W) (ha : SE G X W a ma) (hb : SE G X W b mb) : ST G X W (.Compare a [.Lt] [b] pos) (mBlT (mBin ltD ma mb)) := st_cmp oi_lt or_lt ha hb (nomark _)
theorem ct_le {a b : Expr} {pos : Pos} {ma mb : ME} (ok : Ok G X k W) (ha : SE G X W a ma) (hb : SE G X W b mb) : ST G X W (.Compare a [.LtE] [b] pos) (mBlT (mBin leD ma mb)) := st_cmp oi_le op_le ha hb (nomark _)
theorem ct_gt {a b : Expr} {pos : Pos} {ma mb : ME} (ok : Ok G X k W) (ha : SE G X W a ma) (hb : SE G X W b mb) : ST G X W (.Compare a [.Gt] [b] pos) (mBlT (mBin gtD ma mb)) := st_cmp oi_gt op_gt ha hb (nomark _)
theorem ct_ge {a b : Expr} {pos : Pos} {ma mb : ME} (ok : Ok G X k W) (ha : SE G X W a ma) (hb : SE G X W b mb) : ST G X W (.Compare a [.GtE] [b] pos) (mBlT (mBin geD ma mb)) := st_cmp oi_ge op_ge ha hb (nomark _)
theorem ct_eq {a b : Expr} {pos : Pos} {ma mb : ME} (ok : Ok G X k W) (ha : SE G X W a ma) (hb : SE G X W b mb) : ST G X W (.Compare a [.Eq] [b] pos) (mBlT (mBin eqD ma mb)) := st_cmp (oi_eq ok.K) (or_eq ok.room) ha hb (nomark _)
theorem ct_ne {a b : Expr} {pos : Pos} {ma mb : ME} (ok : Ok G X k W) (ha : SE G X W a ma) (hb : SE G X W b mb) : ST G X W (.Compare a [.NotEq] [b] pos) (mBlT (mBin neD ma mb)) := st_cmp (oi_ne ok.K) (or_ne ok.room) ha hb (nomark _)
theorem ct_is {a b : Expr} {pos : Pos} {ma mb : ME} (ok : Ok G X k W) (ha : SE G X W a ma) (hb : SE G X W b mb) : ST G X W (.Compare a [.Is] [b] pos) (mBlT (mBin isD ma mb)) := st_cmp oi_is or_is ha hb (nomark _)
theorem ct_isNot {a b : Expr} {pos : Pos} {ma mb : ME} (ok : Ok G X k W) (ha : SE G X W a ma) (hb : SE G X W b mb) : ST G X W (.Compare a [.IsNot] [b] pos) (mBlT (mBin isNotD ma mb)) := st_cmp oi_isNot or_isNot ha hb (nomark _)
theorem bdK_mk {K : PySem.W.Frag} {x q : Str} {st : Stmt} {f : Addr} {fd : FuncData} (_ : FunG K x q st f fd) {ps : List Str} {n : Nat} {ks : List Str} {src : List Src}
    (h : ∀ us ws r : List Value, us.length = n → ws.length = ks.length → fill us ws [] src = some r → bindArgs fd ⟨us, ks.zip ws⟩ = pure (ps.zip r)) : BdK K fd ps n ks src [] := fun s us ws r _ h1 h2 h3 => .of_eq (h us ws r h1 h2 h3)
theorem runL {n m : Nat} {b : MS} : ∀ ds S, cutM (runDef n m b) ds S ≠ .bad → ds.length = n := cutM_len fun _ _ h => runDef_len h
end
end Z

set_option Elab.async false
set_option linter.all false
set_option maxRecDepth 100000
set_option maxHeartbeats 2000000
set_option autoImplicit false
namespace Z
open PySem PySem.Spec L2

/-! ## reckoning with meanings: plain Lean, no program -/
section
variable (ρ : Env') (S : Store)
@[simp] theorem ev_var (i : Nat) : mVar i ρ S = resO (ρ[i]?.join) S := rfl
@[simp] theorem ev_c (d : D) : mC d ρ S = .ok d S := rfl
@[simp] theorem ev_bin (f : D → D → Store → Res D) (a b : ME) : mBin f a b ρ S = (a ρ S).bind fun x S1 => (b ρ S1).bind fun y S2 => f x y S2 := rfl
@[simp] theorem ev_un (f : D → Store → Res D) (a : ME) : mUn f a ρ S = (a ρ S).bind f := rfl
@[simp] theorem ev_tst (a : ME) : mTst a ρ S = (a ρ S).bind fun x S1 => resO (truthD S1 x) S1 := rfl
@[simp] theorem ev_blT (a : ME) : mBlT a ρ S = (a ρ S).bind fun x S1 => resO (asBl x) S1 := rfl
@[simp] theorem ev_andT (a b : MB) : mAndT a b ρ S = (a ρ S).bind fun c S1 => if c = true then b ρ S1 else .ok false S1 := rfl
@[simp] theorem ev_orT (a b : MB) : mOrT a b ρ S = (a ρ S).bind fun c S1 => if c = true then .ok true S1 else b ρ S1 := rfl
@[simp] theorem ev_notT (a : MB) : mNotT a ρ S = (a ρ S).bind fun c S1 => .ok (!c) S1 := rfl
@[simp] theorem ev_if (c : MB) (a b : ME) : mIf c a b ρ S = (c ρ S).bind fun k S1 => if k = true then a ρ S1 else b ρ S1 := rfl
@[simp] theorem ev_andV (a b : ME) : mAndV a b ρ S = (a ρ S).bind fun x S1 => (resO (truthD S1 x) S1).bind fun c S2 => if c = true then b ρ S2 else .ok x S2 := rfl
@[simp] theorem ev_orV (a b : ME) : mOrV a b ρ S = (a ρ S).bind fun x S1 => (resO (truthD S1 x) S1).bind fun c S2 => if c = true then .ok x S2 else b ρ S2 := rfl
@[simp] theorem ev_notV (a : ME) : mNotV a ρ S = (a ρ S).bind fun x S1 => (resO (truthD S1 x) S1).bind fun c S2 => .ok (.bl (!c)) S2 := rfl
@[simp] theorem ev_nilL : mNilL ρ S = .ok [] S := rfl
@[simp] theorem ev_consL (a : ME) (l : ML) : mConsL a l ρ S = (a ρ S).bind fun x S1 => (l ρ S1).bind fun xs S2 => .ok (x :: xs) S2 := rfl
@[simp] theorem ev_tup (l : ML) : mTup l ρ S = (l ρ S).bind fun xs S1 => if xs.length ≤ sizeLine then .ok (.tup xs) S1 else .bad := rfl
@[simp] theorem ev_lst (l : ML) : mLst l ρ S = (l ρ S).bind fun xs S1 => if xs.length ≤ sizeLine then .ok (.lst xs) S1 else .bad := rfl
@[simp] theorem ev_loc (l : ML) : mLoc l ρ S = (l ρ S).bind fun xs S1 => if xs.length ≤ sizeLine then .ok (.loc S1.length) (S1 ++ [.lst xs]) else .bad := rfl
@[simp] theorem ev_call (f : List D → Store → Res D) (l : ML) : mCall f l ρ S = (l ρ S).bind f := rfl
@[simp] theorem ev_iter (m : ME) : mIter m ρ S = (m ρ S).bind fun d S1 => resO (stillD d) S1 := rfl
@[simp] theorem ev_yes : mYes ρ S = .ok true S := rfl
@[simp] theorem ev_noP : mNoP ρ S = .ok none S := rfl
@[simp] theorem ev_part (a : ME) : mPart a ρ S = (a ρ S).bind fun d S1 => (resO (asInt d) S1).bind fun i S2 => .ok (some i) S2 := rfl
@[simp] theorem ev_slice (a : ME) (lo hi : MO) : mSlice a lo hi ρ S = (a ρ S).bind fun d S1 => (lo ρ S1).bind fun l S2 => (hi ρ S2).bind fun h S3 => sliceD d l h S3 := rfl
@[simp] theorem ev_frz (a : ME) : mFrz a ρ S = (a ρ S).bind frzD := rfl
@[simp] theorem ev_callK (mf : MF) (n m : Nat) (src : List Src) (df : List D) (a b : ML) : mCallK mf n m src df a b ρ S = (a ρ S).bind fun us S1 => (b ρ S1).bind fun ws S2 =>
  if us.length = n ∧ ws.length = m then
    match fill us ws df src with
    | some r => mf r S2
    | none => .bad
  else .bad := rfl
@[simp] theorem es_expr (a : ME) : sExpr a ρ S = srRes ρ (a ρ S) fun _ S1 => .nx ρ S1 := rfl
@[simp] theorem es_ret (a : ME) : sRet a ρ S = srRes ρ (a ρ S) fun d S1 => .rt d S1 := rfl
@[simp] theorem es_retN : sRetN ρ S = .rt .non S := rfl
@[simp] theorem es_pass : sPass ρ S = .nx ρ S := rfl
@[simp] theorem es_break : sBreak ρ S = .bk ρ S := rfl
@[simp] theorem es_cont : sCont ρ S = .ct ρ S := rfl
@[simp] theorem es_if (c : MB) (t e : MS) : sIf c t e ρ S = srRes ρ (c ρ S) fun b S1 => if b = true then t ρ S1 else e ρ S1 := rfl
@[simp] theorem es_seq (a b : MS) : sSeq a b ρ S = (a ρ S).seq b := rfl
@[simp] theorem es_asg (a : ME) (g : MG) : sAsg a g ρ S = srRes ρ (a ρ S) fun d S1 => srGo (g d ρ S1) := rfl
@[simp] theorem es_par (i j : Nat) (l : ML) : sPar i j l ρ S = srRes ρ (l ρ S) fun ds S1 => match ds with | [d, e] => .nx ((ρ.set i (some d)).set j (some e)) S1 | _ => .bad := rfl
@[simp] theorem es_for (l : ML) (g : MG) (b : MS) : sFor l g b ρ S = srRes ρ (l ρ S) fun ds S1 => forL g b ds ρ S1 := rfl
@[simp] theorem eg_nm (i : Nat) (d : D) : gNm i d ρ S = some (ρ.set i (some d), S) := rfl
@[simp] theorem eg_nil : gsNil [] ρ S = some (ρ, S) := rfl
@[simp] theorem eg_cons (g : MG) (gs : MGs) (d : D) (r : List D) : gsCons g gs (d :: r) ρ S = (g d ρ S).bind fun p => gs r p.1 p.2 := rfl
@[simp] theorem eg_many (n : Nat) (gs : MGs) (d : D) : gMany n gs d ρ S = match itemsD S d with | some l => if l.length = n then gs l ρ S else none | none => none := rfl
@[simp] theorem eg_set (o i : ME) (v : D) : gSet o i v ρ S = match o ρ S with
  | .ok od S1 => (match i ρ S1 with
    | .ok id S2 => (setD v od id S2).map fun S3 => (ρ, S3)
    | _ => none)
  | _ => none := rfl
end
theorem range1_j {l : ML} {ρ : Env'} {S S1 : Store} {j : Int} (h : l ρ S = .ok [.int j] S1) (hb : rgOk j = true) : mRange1 l ρ S = .ok (rangeL 0 j.toNat) S1 := by
  unfold mRange1
  rw [h]
  simp only [bind_ok]
  rw [if_pos hb]
theorem rgOk_nat {m : Nat} (hm : m ≤ 1000000) : rgOk (m : Int) = true := rgOk_of ⟨by omega, by omega⟩
theorem range1_ok {l : ML} {ρ : Env'} {S S1 : Store} {m : Nat} (h : l ρ S = .ok [.int (m : Int)] S1) (hm : m ≤ 1000000) : mRange1 l ρ S = .ok (rangeL 0 m) S1 := by
  have := range1_j h (rgOk_nat hm)
  rw [Int.toNat_natCast] at this
  exact this
theorem range2_ok {l : ML} {ρ : Env'} {S S1 : Store} {a b : Int} (h : l ρ S = .ok [.int a, .int b] S1) (ha : rgOk a = true) (hb : rgOk b = true) : mRange2 l ρ S = .ok (rangeL a (b - a).toNat) S1 := by
  unfold mRange2
  rw [h]
  simp only [bind_ok]
  rw [if_pos ⟨ha, hb⟩]
@[simp] theorem e_f1 (f : D → Store → Res D) (d : D) (S : Store) : f1 f [d] S = f d S := rfl
@[simp] theorem isi_mk (tab : Tab) (x : D) (n : String) (S : Store) : isiM tab [x, .ty n] S = resO ((tagD S x).bind fun a => (tab a (.ty n)).map D.bl) S := rfl
@[simp] theorem isi_mk2 (tab : Tab) (x : D) (m n : String) (S : Store) : isiM tab [x, .tup [.ty m, .ty n]] S = resO ((tagD S x).bind fun a => (anyTab tab a [.ty m, .ty n]).map D.bl) S := rfl
@[simp] theorem size_small (n : Nat) : (n ≤ sizeLine) = (n ≤ 16777216) := by rw [sizeLine_eq]
@[simp] theorem size_small' (n : Nat) : (n < sizeLine) = (n < 16777216) := by rw [sizeLine_eq]
@[simp] theorem run_def (n m : Nat) (b : MS) (args : List D) (S : Store) : runDef n m b args S = if args.length = n then
    match b (args.map some ++ List.replicate (m - n) none) S with
    | .nx _ S' => .ok .non S'
    | .rt d S' => .ok d S'
    | .ex _ c ks vs S' => .ex c ks vs S'
    | _ => .bad
  else .bad := rfl
@[simp] theorem cutM_eq (mf : MF) (ds : List D) (S : Store) : cutM mf ds S = cut S (mf ds S) := rfl

/-! ### the drawing of numbers -/
/-- the cells, how many were begun, what is left -/
def nutE (cells : List Int) (t l : Int) : Ent := .lst [.lst (cells.map .int), .int t, .int l]
@[simp] theorem nut_closed (n : Nat) (cells : List Int) (t l : Int) : closedE n (nutE cells t l) = true := by
  have h : ∀ cs : List Int, closedL n (cs.map D.int) = true := by
    intro cs
    induction cs with
    | nil => rfl
    | cons c cs ih => simp only [List.map_cons, closedL, ih]; rfl
  simp only [nutE, closedE, closedL, closed, h, Bool.and_self, Bool.and_true]
theorem toPs_ints : ∀ cs : List Int, toPs (cs.map D.int) = some (cs.map PyData.int)
  | [] => rfl
  | c :: cs => by
    simp only [List.map_cons, toPs, toP, toPs_ints cs]
theorem canLay_ints : ∀ cs : List Int, PyData.canLayAll0 (cs.map PyData.int) = true
  | [] => rfl
  | c :: cs => by
    simp only [List.map_cons, PyData.canLayAll0, canLay_ints cs, PyData.canLay0, Bool.and_self]
theorem depth_ints : ∀ cs : List Int, PyData.depthAll (cs.map PyData.int) ≤ 0
  | [] => Nat.le_refl _
  | c :: cs => by
    have := depth_ints cs
    simp only [List.map_cons, PyData.depthAll, PyData.depth]
    omega
theorem shaped_ints (cs : List Int) : SeqAt.shaped (.list (cs.map PyData.int)) = true := by
  have h := depth_ints cs
  have e : (PyData.list (cs.map PyData.int)).depth ≤ 64 := by
    simp only [PyData.depth]
    omega
  have c : (PyData.list (cs.map PyData.int)).canLay0 = true := by
    simp only [PyData.canLay0]
    exact canLay_ints cs
  unfold SeqAt.shaped
  rw [c, decide_eq_true e]
  rfl
theorem ne_nil_ints (S : Store) (cs : List Int) : neD (.lst (cs.map D.int)) (.lst []) S = .ok (.bl (!cs.isEmpty)) S := by
  have e : eqB S (.lst (cs.map D.int)) (.lst []) = some cs.isEmpty := by
    unfold eqB
    simp only [eqScal, toPS, lstD, toPs_ints, toPs, Option.map_some]
    have h2 : SeqAt.shaped (.list []) = true := by decide
    rw [shaped_ints, h2]
    cases cs <;> simp [PyData.eqv, PyData.eqvAll]
  unfold neD
  rw [e]
  rfl
theorem eq_nil_ints (S : Store) (cs : List Int) : eqD (.lst (cs.map D.int)) (.lst []) S = .ok (.bl cs.isEmpty) S := by
  have e : eqB S (.lst (cs.map D.int)) (.lst []) = some cs.isEmpty := by
    unfold eqB
    simp only [eqScal, toPS, lstD, toPs_ints, toPs, Option.map_some]
    have h2 : SeqAt.shaped (.list []) = true := by decide
    rw [shaped_ints, h2]
    cases cs <;> simp [PyData.eqv, PyData.eqvAll]
  unfold eqD
  rw [e]
  rfl
end Z

set_option Elab.async false
set_option linter.all false
set_option maxRecDepth 100000
set_option maxHeartbeats 4000000
set_option autoImplicit false
namespace Z
open PySem PySem.Spec L2

/-! ### drawing, as the laws do it -/
def bCellA : MS := (sIf (mBlT (mBin neD (mBin ixD (mVar 0) (mC (.int 0))) (mLst mNilL))) (sAsg (mBin ixD (mBin ixD (mVar 0) (mC (.int 0))) (mBin modD (mCall (f1 intD) (mConsL (mVar 3) mNilL)) (mCall (f1 lenD) (mConsL (mBin ixD (mVar 0) (mC (.int 0))) mNilL)))) (gNm 4)) sPass)
def bMixA (c1 c2 p1 c3 p2 p3 c4 : Int) : MS := (sSeq (sAsg (mBin modD (mCall (f1 intD) (mConsL (mBin powD (mBin addD (mBin addD (mBin modD (mCall (f1 intD) (mConsL (mVar 4) mNilL)) (mC (.int p1))) (mBin mulD (mC (.int c3)) (mVar 3))) (mC (.int c2))) (mC (.int 5))) mNilL)) (mC (.int p2))) (gNm 5)) (sSeq (sAsg (mBin modD (mCall (f1 intD) (mConsL (mBin powD (mBin addD (mBin addD (mBin mulD (mVar 5) (mBin addD (mBin mulD (mC (.int 2)) (mVar 3)) (mC (.int c2)))) (mBin mulD (mBin mulD (mC (.int c1)) (mVar 3)) (mVar 3))) (mC (.int c3))) (mC (.int 3))) mNilL)) (mC (.int p3))) (gNm 5)) (sRet (mBin modD (mCall (f1 intD) (mConsL (mBin fdivD (mVar 5) (mC (.int c4))) mNilL)) (mVar 1)))))
def bDrawA (c1 c2 p1 c3 p2 p3 c4 : Int) : MS := (sSeq (sIf (mBlT (mBin gtD (mBin ixD (mVar 0) (mC (.int 2))) (mC (.int 0)))) (sSeq (sAsg (mCall (f1 intD) (mConsL (mBin ixD (mVar 0) (mC (.int 2))) mNilL)) (gNm 2)) (sSeq (sAsg (mBin fdivD (mVar 2) (mVar 1)) (gSet (mVar 0) (mC (.int 2)))) (sRet (mBin modD (mCall (f1 intD) (mConsL (mVar 2) mNilL)) (mVar 1))))) sPass) (sSeq (sAsg (mBin ixD (mVar 0) (mC (.int 1))) (gNm 3)) (sSeq (sAsg (mBin addD (mVar 3) (mC (.int 1))) (gSet (mVar 0) (mC (.int 1)))) (sSeq (sAsg (mBin addD (mBin mulD (mC (.int c1)) (mVar 3)) (mC (.int c2))) (gNm 4)) (sSeq bCellA (sSeq (sIf (mAndT (mBlT (mBin ltD (mVar 3) (mCall (f1 lenD) (mConsL (mBin ixD (mVar 0) (mC (.int 0))) mNilL)))) (mBlT (mBin geD (mCall (f1 absD) (mConsL (mVar 4) mNilL)) (mBin powD (mC (.int 10)) (mC (.int 18)))))) (sSeq (sAsg (mBin addD (mBin mulD (mC (.int 2)) (mBin subD (mCall (f1 absD) (mConsL (mCall (f1 intD) (mConsL (mVar 4) mNilL)) mNilL)) (mBin powD (mC (.int 10)) (mC (.int 18))))) (mCall (f1 intD) (mConsL (mBin ltD (mVar 4) (mC (.int 0))) mNilL))) (gNm 2)) (sSeq (sAsg (mBin fdivD (mVar 2) (mVar 1)) (gSet (mVar 0) (mC (.int 2)))) (sRet (mBin modD (mCall (f1 intD) (mConsL (mVar 2) mNilL)) (mVar 1))))) sPass) (bMixA c1 c2 p1 c3 p2 p3 c4)))))))
/-- the constants are small, and moduli -/
structure Small (c1 c2 p1 c3 p2 p3 c4 : Int) : Prop where
  h1 : 0 ≤ c1 ∧ c1 < 2 ^ 18
  h2 : 0 ≤ c2 ∧ c2 < 2 ^ 18
  h3 : 0 ≤ c3 ∧ c3 < 2 ^ 18
  q1 : 0 < p1 ∧ p1 < 2 ^ 31
  q2 : 0 < p2 ∧ p2 < 2 ^ 31
  q3 : 0 < p3 ∧ p3 < 2 ^ 31
  q4 : 0 < c4 ∧ c4 < 2 ^ 18
theorem mul_ok {i j : Int} (h : -(2 ^ 64) < i ∧ i < 2 ^ 64) : MulOk i j := .inr (.inl h)
theorem mul_ok' {i j : Int} (h : -(2 ^ 64) < j ∧ j < 2 ^ 64) : MulOk i j := .inr (.inr h)
theorem log_small {j : Int} {b : Nat} (hb : j.natAbs < 2 ^ b) (h0 : 0 < b) (h9 : b ≤ 9000) : j.natAbs.log2 < 9000 := Nat.lt_of_lt_of_le (PySem.Flt.log2_lt_of h0 hb) h9
theorem atI_of {α : Type} {xs : List α} {i : Int} (h0 : 0 ≤ i) (h1 : i < xs.length) : ∃ v, atI xs i = some v ∧ v ∈ xs := by
  obtain ⟨j, rfl⟩ : ∃ j : Nat, i = (j : Int) := ⟨i.toNat, by omega⟩
  have hj : j < xs.length := by omega
  exact ⟨xs[j], atI_nat (List.getElem?_eq_getElem hj), List.getElem_mem hj⟩
theorem cut_len {S S' : Store} {d : D} (h : S'.length = S.length) : cut S (.ok d S') = .ok d S' := by
  simp only [cut]
  split
  · rw [← h, List.take_length]
  · rfl
section
variable {S : Store} {n : Nat} {cells : List Int} {t l : Int} (hn : S[n]? = some (nutE cells t l))
include hn
theorem nut_0 : ixD (.loc n) (.int 0) S = .ok (.lst (cells.map .int)) S := by
  simp [ixD, itemsD, hn, nutE, atI, ixN]
theorem nut_1 : ixD (.loc n) (.int 1) S = .ok (.int t) S := by
  simp [ixD, itemsD, hn, nutE, atI, ixN]
theorem nut_2 : ixD (.loc n) (.int 2) S = .ok (.int l) S := by
  simp [ixD, itemsD, hn, nutE, atI, ixN]
theorem nut_s1 (x : Int) : setD (.int x) (.loc n) (.int 1) S = some (S.set n (nutE cells x l)) := by
  simp [setD, hn, nutE, ixN]
theorem nut_s2 (x : Int) : setD (.int x) (.loc n) (.int 2) S = some (S.set n (nutE cells t x)) := by
  simp [setD, hn, nutE, ixN]
theorem nut_at (e : Ent) : (S.set n e)[n]? = some e := List.getElem?_set_self (List.getElem?_eq_some_iff.mp hn).1
end
theorem ne_nil0 (S : Store) : neD (.lst []) (.lst []) S = .ok (.bl false) S := ne_nil_ints S []
theorem mulD_ok {i j : Int} {S : Store} (h : MulOk i j) : mulD (.int i) (.int j) S = .ok (.int (i * j)) S := by
  unfold mulD
  exact if_pos h
theorem powD_ok {i j : Int} {S : Store} (h : 0 ≤ j ∧ j ≤ 1000000 ∧ i.natAbs < 2 ^ 64) : powD (.int i) (.int j) S = .ok (.int (i ^ j.toNat)) S := by
  unfold powD
  exact if_pos h
theorem fdivD_ok {i j : Int} {S : Store} (h : 0 < j ∧ j.natAbs.log2 < 9000) : fdivD (.int i) (.int j) S = .ok (.int (i / j)) S := by
  unfold fdivD
  exact if_pos h
theorem modD_ok {i j : Int} {S : Store} (h : 0 < j) : modD (.int i) (.int j) S = .ok (.int (i % j)) S := by
  unfold modD
  exact if_pos h
@[simp] theorem addD_int (i j : Int) (S : Store) : addD (.int i) (.int j) S = .ok (.int (i + j)) S := rfl
@[simp] theorem subD_int (i j : Int) (S : Store) : subD (.int i) (.int j) S = .ok (.int (i - j)) S := rfl
@[simp] theorem ltD_int (i j : Int) (S : Store) : ltD (.int i) (.int j) S = .ok (.bl (decide (i < j))) S := rfl
@[simp] theorem leD_int (i j : Int) (S : Store) : leD (.int i) (.int j) S = .ok (.bl (decide (i ≤ j))) S := rfl
@[simp] theorem gtD_int (i j : Int) (S : Store) : gtD (.int i) (.int j) S = .ok (.bl (decide (j < i))) S := rfl
@[simp] theorem geD_int (i j : Int) (S : Store) : geD (.int i) (.int j) S = .ok (.bl (decide (j ≤ i))) S := rfl
@[simp] theorem intD_int (i : Int) (S : Store) : intD (.int i) S = .ok (.int i) S := rfl
@[simp] theorem intD_bl (b : Bool) (S : Store) : intD (.bl b) S = .ok (.int (if b then 1 else 0)) S := rfl
@[simp] theorem absD_int (i : Int) (S : Store) : absD (.int i) S = .ok (.int (if i < 0 then -i else i)) S := rfl
@[simp] theorem negD_int (i : Int) (S : Store) : negD (.int i) S = .ok (.int (-i)) S := rfl
@[simp] theorem lenD_lst (l : List D) (S : Store) : lenD (.lst l) S = .ok (.int l.length) S := rfl
@[simp] theorem lenD_tup (l : List D) (S : Store) : lenD (.tup l) S = .ok (.int l.length) S := rfl
@[simp] theorem asBl_bl (b : Bool) : asBl (.bl b) = some b := rfl
@[simp] theorem ixD_lst (l : List D) (i : Int) (S : Store) : ixD (.lst l) (.int i) S = resO (atI l i) S := rfl
@[simp] theorem ixD_tup (l : List D) (i : Int) (S : Store) : ixD (.tup l) (.int i) S = resO (atI l i) S := rfl
theorem mulb {x y : Int} {B C : Nat} (hx : 0 ≤ x) (hB : x < 2 ^ B) (hy : 0 ≤ y) (hC : y < 2 ^ C) : x * y < 2 ^ (B + C) := by
  rw [Int.pow_add]
  rcases Int.lt_or_eq_of_le hy with h | h
  · exact Int.mul_lt_mul hB (Int.le_of_lt hC) h (Int.le_of_lt (Int.pow_pos (by decide)))
  · rw [← h, Int.mul_zero]
    exact Int.mul_pos (Int.pow_pos (by decide)) (Int.pow_pos (by decide))
theorem mixA {c1 c2 p1 c3 p2 p3 c4 : Int} (K : Small c1 c2 p1 c3 p2 p3 c4) {t many cell : Int} (ht : 0 ≤ t ∧ t < 2 ^ 20) (hm : 0 < many) (ρ : Env') (S : Store) (hl : ρ.length = 6) (h1 : ρ[1]? = some (some (.int many))) (h3 : ρ[3]? = some (some (.int t))) (h4 : ρ[4]? = some (some (.int cell))) :
    ∃ r, bMixA c1 c2 p1 c3 p2 p3 c4 ρ S = .rt (.int r) S ∧ 0 ≤ r ∧ r < many := by
  obtain ⟨a1, a2⟩ := K.h1
  obtain ⟨b1, b2⟩ := K.h2
  obtain ⟨d1, d2⟩ := K.h3
  obtain ⟨t0, t1⟩ := ht
  have n1 := mulb d1 d2 t0 t1
  have n1' := Int.mul_nonneg d1 t0
  have x1 := Int.emod_nonneg cell (show p1 ≠ 0 by have := K.q1.1; omega)
  have x2 := Int.emod_lt_of_pos cell K.q1.1
  have x3 := K.q1.2
  have e1 : ∀ S, modD (.int cell) (.int p1) S = .ok (.int (cell % p1)) S := fun S => modD_ok K.q1.1
  have e2 : ∀ S, mulD (.int c3) (.int t) S = .ok (.int (c3 * t)) S := fun S => mulD_ok (mul_ok ⟨by omega, by omega⟩)
  have e3 : ∀ S, powD (.int (cell % p1 + c3 * t + c2)) (.int 5) S = .ok (.int ((cell % p1 + c3 * t + c2) ^ 5)) S := fun S => powD_ok ⟨by decide, by decide, by omega⟩
  obtain ⟨y, hy⟩ : ∃ y, y = (cell % p1 + c3 * t + c2) ^ 5 := ⟨_, rfl⟩
  have y1 := Int.emod_nonneg y (show p2 ≠ 0 by have := K.q2.1; omega)
  have y2 := Int.emod_lt_of_pos y K.q2.1
  have y3 := K.q2.2
  obtain ⟨m, hm'⟩ : ∃ m, m = y % p2 := ⟨_, rfl⟩
  have e4 : ∀ S, modD (.int y) (.int p2) S = .ok (.int m) S := fun S => by rw [hm']; exact modD_ok K.q2.1
  have e5 : ∀ S, mulD (.int 2) (.int t) S = .ok (.int (2 * t)) S := fun S => mulD_ok (mul_ok (by decide))
  have m1 : 0 ≤ m := by omega
  have m2 : m < 2 ^ 31 := by omega
  have e6 : ∀ S, mulD (.int m) (.int (2 * t + c2)) S = .ok (.int (m * (2 * t + c2))) S := fun S => mulD_ok (mul_ok ⟨by omega, by omega⟩)
  have e7 : ∀ S, mulD (.int c1) (.int t) S = .ok (.int (c1 * t)) S := fun S => mulD_ok (mul_ok ⟨by omega, by omega⟩)
  have n2 := mulb a1 a2 t0 t1
  have n2' := Int.mul_nonneg a1 t0
  have e8 : ∀ S, mulD (.int (c1 * t)) (.int t) S = .ok (.int (c1 * t * t)) S := fun S => mulD_ok (mul_ok ⟨by omega, by omega⟩)
  have n3 := mulb n2' n2 t0 t1
  have n3' := Int.mul_nonneg n2' t0
  have n4 := mulb m1 m2 (show 0 ≤ 2 * t + c2 by omega) (show 2 * t + c2 < 2 ^ 22 by omega)
  have n4' := Int.mul_nonneg m1 (show 0 ≤ 2 * t + c2 by omega)
  have e9 : ∀ S, powD (.int (m * (2 * t + c2) + c1 * t * t + c3)) (.int 3) S = .ok (.int ((m * (2 * t + c2) + c1 * t * t + c3) ^ 3)) S := fun S => powD_ok ⟨by decide, by decide, by omega⟩
  obtain ⟨z, hz⟩ : ∃ z, z = (m * (2 * t + c2) + c1 * t * t + c3) ^ 3 := ⟨_, rfl⟩
  have e10 : ∀ S, modD (.int z) (.int p3) S = .ok (.int (z % p3)) S := fun S => modD_ok K.q3.1
  have e11 : ∀ S, fdivD (.int (z % p3)) (.int c4) S = .ok (.int (z % p3 / c4)) S := fun S => fdivD_ok ⟨K.q4.1, log_small (b := 18) (by have := K.q4; omega) (by decide) (by decide)⟩
  have e12 : ∀ x S, modD (.int x) (.int many) S = .ok (.int (x % many)) S := fun x S => modD_ok hm
  refine ⟨z % p3 / c4 % many, ?_, Int.emod_nonneg _ (by omega), Int.emod_lt_of_pos _ hm⟩
  have l5 : 5 < ρ.length := by omega
  simp [bMixA, h1, h3, h4, e1, e2, e3, ← hy, e4, e5, e6, e7, e8, e9, ← hz, e10, e11, e12, l5, List.getElem?_set]
theorem drawA {c1 c2 p1 c3 p2 p3 c4 : Int} (K : Small c1 c2 p1 c3 p2 p3 c4) {S : Store} {n : Nat} {cells : List Int} {t l many : Int} (hn : S[n]? = some (nutE cells t l)) (ht : 0 ≤ t ∧ t < 2 ^ 20) (hm : 0 < many) (hm2 : many.natAbs.log2 < 9000) :
    ∃ r t' l', cutM (runDef 2 6 (bDrawA c1 c2 p1 c3 p2 p3 c4)) [.loc n, .int many] S = .ok (.int r) (S.set n (nutE cells t' l')) ∧ 0 ≤ r ∧ r < many ∧ t ≤ t' ∧ t' ≤ t + 1 := by
  have hmod : ∀ x : Int, 0 ≤ x % many ∧ x % many < many := fun x => ⟨Int.emod_nonneg x (by omega), Int.emod_lt_of_pos x hm⟩
  have hfd : ∀ x : Int, ∀ S, fdivD (.int x) (.int many) S = .ok (.int (x / many)) S := fun x S => fdivD_ok ⟨hm, hm2⟩
  have hmd : ∀ x : Int, ∀ S, modD (.int x) (.int many) S = .ok (.int (x % many)) S := fun x S => modD_ok hm
  by_cases hl : 0 < l
  · refine ⟨l % many, t, l / many, ?_, (hmod l).1, (hmod l).2, Int.le_refl _, by omega⟩
    simp [bDrawA, nut_2 hn, nut_s2 hn, hl, hfd, hmd]
    exact cut_len (by simp)
  · have h1 := nut_at hn (nutE cells (t + 1) l)
    have ha : ∀ S, mulD (.int c1) (.int t) S = .ok (.int (c1 * t)) S := fun S => mulD_ok (mul_ok ⟨by have := K.h1.1; omega, by have := K.h1.2; omega⟩)
    have hten : ∀ S, powD (.int 10) (.int 18) S = .ok (.int (10 ^ 18)) S := fun S => powD_ok (by decide)
    have htwo : ∀ x : Int, ∀ S, mulD (.int 2) (.int x) S = .ok (.int (2 * x)) S := fun x S => mulD_ok (mul_ok (by decide))
    -- the cell
    obtain ⟨cell, hcell⟩ : ∃ cell : Int, ∀ (ρ : Env'), ρ.length = 6 → ρ[0]? = some (some (.loc n)) → ρ[3]? = some (some (.int t)) → ρ[4]? = some (some (.int (c1 * t + c2))) →
        bCellA ρ (S.set n (nutE cells (t + 1) l)) = .nx (ρ.set 4 (some (.int cell))) (S.set n (nutE cells (t + 1) l)) := by
      by_cases hc : cells = []
      · refine ⟨c1 * t + c2, fun ρ hρ h0 h3 h4 => ?_⟩
        have e4 : ρ.set 4 (some (.int (c1 * t + c2))) = ρ := by
          apply List.ext_getElem?
          intro j
          by_cases hj : 4 = j
          · subst hj
            rw [List.getElem?_set_self (by omega), h4]
          · rw [List.getElem?_set_ne hj]
        subst hc
        have h2 := nut_0 h1
        simp only [List.map_nil] at h2
        simp [bCellA, h0, h2, ne_nil_ints S [], ne_nil0, e4]
      · have hlen : 0 < (cells.length : Int) := by
          cases cells with
          | nil => exact absurd rfl hc
          | cons a b => simp
        obtain ⟨v, hv, hmem⟩ := atI_of (xs := cells.map D.int) (i := t % (cells.length : Int)) (Int.emod_nonneg _ (by omega)) (by rw [List.length_map]; exact Int.emod_lt_of_pos _ hlen)
        obtain ⟨cell, _, rfl⟩ := List.mem_map.mp hmem
        refine ⟨cell, fun ρ hρ h0 h3 h4 => ?_⟩
        have hmd' : ∀ S, modD (.int t) (.int (cells.length : Int)) S = .ok (.int (t % (cells.length : Int))) S := fun S => modD_ok hlen
        simp [bCellA, h0, h3, nut_0 h1, ne_nil_ints, hc, hmd', hv]
    have hnut0 := nut_0 h1
    have hs2 := fun x => nut_s2 h1 x
    have fin : ∀ x l' : Int, cut S (.ok (.int x) ((S.set n (nutE cells (t + 1) l)).set n (nutE cells (t + 1) l'))) = .ok (.int x) (S.set n (nutE cells (t + 1) l')) := fun x l' => by
      rw [List.set_set]
      exact cut_len (by simp)
    have fin0 : ∀ x : Int, cut S (.ok (.int x) (S.set n (nutE cells (t + 1) l))) = .ok (.int x) (S.set n (nutE cells (t + 1) l)) := fun x => cut_len (by simp)
    by_cases hA : t < cells.length
    · by_cases hB : 1000000000000000000 ≤ (if cell < 0 then -cell else cell)
      · refine ⟨(2 * ((if cell < 0 then -cell else cell) - 1000000000000000000) + if cell < 0 then 1 else 0) % many, t + 1, (2 * ((if cell < 0 then -cell else cell) - 1000000000000000000) + if cell < 0 then 1 else 0) / many, ?_, (hmod _).1, (hmod _).2, by omega, Int.le_refl _⟩
        simp [bDrawA, nut_2 hn, hl, nut_1 hn, nut_s1 hn, ha, hcell, hnut0, hA, hB, hten, htwo, hfd, hmd, hs2, cut_len]
      · obtain ⟨r, hr, hr1, hr2⟩ := mixA K ht hm [some (.loc n), some (.int many), none, some (.int t), some (.int cell), none] (S.set n (nutE cells (t + 1) l)) rfl rfl rfl rfl
        refine ⟨r, t + 1, l, ?_, hr1, hr2, by omega, Int.le_refl _⟩
        simp [bDrawA, nut_2 hn, hl, nut_1 hn, nut_s1 hn, ha, hcell, hnut0, hA, hB, hten, hr, fin0]
    · obtain ⟨r, hr, hr1, hr2⟩ := mixA K ht hm [some (.loc n), some (.int many), none, some (.int t), some (.int cell), none] (S.set n (nutE cells (t + 1) l)) rfl rfl rfl rfl
      refine ⟨r, t + 1, l, ?_, hr1, hr2, by omega, Int.le_refl _⟩
      simp [bDrawA, nut_2 hn, hl, nut_1 hn, nut_s1 hn, ha, hcell, hnut0, hA, hr, fin0]
end Z

set_option Elab.async false
set_option linter.all false
set_option maxRecDepth 100000
set_option maxHeartbeats 4000000
set_option autoImplicit false
namespace Z
open PySem PySem.Spec L2

/-! ### comprehensions without a test, one name -/
def WfS (S : Store) : Prop := ∀ e ∈ S, closedE S.length e = true
theorem pushAt_ok {n : Nat} {S : Store} {acc : List D} {y : D} (h : S[n]? = some (.lst acc)) (hz : acc.length < 16777216) : pushAt n y S = some (S.set n (.lst (acc ++ [y]))) := by
  unfold pushAt
  rw [h]
  simp only [size_small', if_pos hz]
theorem compL_pure {n i : Nat} {e : ME} {ρ : Env'} {f : D → D} : ∀ (ds : List D) (S : Store) (acc : List D), S[n]? = some (.lst acc) → acc.length + ds.length ≤ 16777216 →
    (∀ d ∈ ds, ∀ S, e (ρ.set i (some d)) S = .ok (f d) S) → compL n (gNm i) mYes e ρ ds S = .ok () (S.set n (.lst (acc ++ ds.map f)))
  | [], S, acc, h, _, _ => by
    have hl := (List.getElem?_eq_some_iff.mp h)
    obtain ⟨h1, h2⟩ := hl
    simp only [compL, List.map_nil, List.append_nil]
    rw [← h2, List.set_getElem_self]
  | d :: ds, S, acc, h, hz, he => by
    have h1 : n < S.length := (List.getElem?_eq_some_iff.mp h).1
    simp only [List.length_cons] at hz
    simp only [compL, eg_nm, ev_yes, noEx_ok, bind_ok, if_true, he d List.mem_cons_self S, pushAt_ok h (show acc.length < 16777216 by omega), resO_some]
    rw [compL_pure ds _ (acc ++ [f d]) (List.getElem?_set_self h1) (by simp; omega) fun d' hd' => he d' (List.mem_cons_of_mem _ hd')]
    simp
theorem closedL_app {n : Nat} : ∀ {a b : List D}, closedL n (a ++ b) = (closedL n a && closedL n b)
  | [], b => by simp [closedL]
  | d :: a, b => by simp [closedL, closedL_app (a := a), Bool.and_assoc]
theorem closedL_all {n : Nat} : ∀ {a : List D}, (∀ d ∈ a, closed n d = true) → closedL n a = true
  | [], _ => rfl
  | d :: a, h => by
    simp only [closedL, h d List.mem_cons_self, closedL_all fun d' hd' => h d' (List.mem_cons_of_mem _ hd'), Bool.and_self]
theorem comp_pure {l : ML} {i : Nat} {e : ME} {ρ : Env'} {S : Store} {ds : List D} {f : D → D} (hl : l ρ S = .ok ds S) (hz : ds.length ≤ 16777216) (hc : ∀ d ∈ ds, closed S.length (f d) = true)
    (he : ∀ d ∈ ds, ∀ S, e ((wipeR ρ [i]).set i (some d)) S = .ok (f d) S) : mCut (mFrz (mComp l [i] (gNm i) mYes e)) ρ S = .ok (.lst (ds.map f)) S := by
  have hn : (S ++ [Ent.lst []])[S.length]? = some (.lst []) := by simp
  have h := compL_pure (n := S.length) (i := i) (e := e) (ρ := wipeR ρ [i]) (f := f) ds (S ++ [.lst []]) [] hn (by simpa using hz) he
  have hset : (S ++ [Ent.lst []]).set S.length (.lst ([] ++ ds.map f)) = S ++ [.lst (ds.map f)] := by simp
  rw [hset] at h
  have hs2 : (S ++ [Ent.lst (ds.map f)])[S.length]? = some (.lst (ds.map f)) := by simp
  have hset2 : (S ++ [Ent.lst (ds.map f)]).set S.length .dead = S ++ [.dead] := by simp
  show cut S ((mComp l [i] (gNm i) mYes e ρ S).bind frzD) = _
  unfold mComp
  rw [hl]
  simp only [bind_ok, h, frzD, hs2, hset2]
  refine cut_app ?_
  simp only [closed]
  exact closedL_all fun d hd => by
    obtain ⟨d', hd', rfl⟩ := List.mem_map.mp hd
    exact hc d' hd'

/-! ### .. whose elements are drawn -/
/-- what one drawing does: something that P holds of, at most c more cells begun -/
def Draws (n : Nat) (cells : List Int) (T : Int) (P : D → Prop) (c : Int) (r : Store → Res D) : Prop :=
  ∀ (S : Store) (t l : Int), WfS S → S[n]? = some (nutE cells t l) → 0 ≤ t → t + c ≤ T → ∃ y t' l', r S = .ok y (S.set n (nutE cells t' l')) ∧ P y ∧ t ≤ t' ∧ t' ≤ t + c
theorem WfS.set {S : Store} {n : Nat} {e : Ent} (h : WfS S) (he : closedE S.length e = true) : WfS (S.set n e) := fun x hx => by
  rw [List.length_set]
  rcases List.mem_or_eq_of_mem_set hx with q | q
  · exact h x q
  · rw [q]
    exact he
mutual
theorem closed_mono {m n : Nat} (h : m ≤ n) : ∀ {d : D}, closed m d = true → closed n d = true
  | .non, _ => rfl
  | .bl _, _ => rfl
  | .int _, _ => rfl
  | .str _, _ => rfl
  | .ty _, _ => rfl
  | .cls _, _ => rfl
  | .tup l, q => by simp only [closed] at q ⊢; exact closedL_mono h q
  | .lst l, q => by simp only [closed] at q ⊢; exact closedL_mono h q
  | .kst l, q => by simp only [closed] at q ⊢; exact closedL_mono h q
  | .dct _ l, q => by simp only [closed] at q ⊢; exact closedL_mono h q
  | .ins _ _ l, q => by simp only [closed] at q ⊢; exact closedL_mono h q
  | .loc k, q => by simp only [closed, decide_eq_true_eq] at q ⊢; omega
theorem closedL_mono {m n : Nat} (h : m ≤ n) : ∀ {l : List D}, closedL m l = true → closedL n l = true
  | [], _ => rfl
  | d :: l, q => by
    simp only [closedL, Bool.and_eq_true] at q ⊢
    exact ⟨closed_mono h q.1, closedL_mono h q.2⟩
end
theorem closedE_mono {m n : Nat} (h : m ≤ n) : ∀ {e : Ent}, closedE m e = true → closedE n e = true
  | .lst l, q => closedL_mono h q
  | .dct _ l, q => closedL_mono h q
  | .ins _ _ l, q => closedL_mono h q
  | .dead, _ => rfl
theorem WfS.app {S : Store} {e : Ent} (h : WfS S) (he : closedE (S.length + 1) e = true) : WfS (S ++ [e]) := fun x hx => by
  rw [List.length_append, List.length_singleton]
  rcases List.mem_append.mp hx with q | q
  · exact closedE_mono (Nat.le_succ _) (h x q)
  · rw [List.mem_singleton.mp q]
    exact he
theorem compL_draw {n m i : Nat} {cells : List Int} {T c : Int} {P : D → Prop} {e : ME} {ρ : Env'} (hc : 0 ≤ c) (hmn : m ≠ n) (hP : ∀ d, P d → ∀ k, closed k d = true) : ∀ (ds : List D) (S : Store) (acc : List D) (t l : Int), WfS S → S[m]? = some (.lst acc) → S[n]? = some (nutE cells t l) → acc.length + ds.length ≤ 16777216 → 0 ≤ t → t + c * ds.length ≤ T → (∀ d ∈ acc, P d) →
    (∀ d ∈ ds, Draws n cells T P c fun S => e (ρ.set i (some d)) S) →
    ∃ ys t' l', compL m (gNm i) mYes e ρ ds S = .ok () ((S.set n (nutE cells t' l')).set m (.lst (acc ++ ys))) ∧ ys.length = ds.length ∧ (∀ d ∈ ys, P d) ∧ t ≤ t' ∧ t' ≤ t + c * ds.length
  | [], S, acc, t, l, hw, h, hn, _, h0, hT, ha, _ => by
    refine ⟨[], t, l, ?_, rfl, by simp, Int.le_refl _, by simp⟩
    obtain ⟨h1, h2⟩ := List.getElem?_eq_some_iff.mp hn
    obtain ⟨h3, h4⟩ := List.getElem?_eq_some_iff.mp h
    simp only [compL, List.append_nil]
    rw [← h2, List.set_getElem_self, ← h4, List.set_getElem_self]
  | d :: ds, S, acc, t, l, hw, h, hn, hz, h0, hT, ha, he => by
    simp only [List.length_cons] at hz
    have hexp : c * ((d :: ds).length : Int) = c + c * (ds.length : Int) := by
      rw [List.length_cons, Int.natCast_succ, Int.mul_add, Int.mul_one, Int.add_comm]
    have hcd : 0 ≤ c * (ds.length : Int) := Int.mul_nonneg hc (by omega)
    obtain ⟨y, t1, l1, e1, p1, q1, q2⟩ := he d List.mem_cons_self S t l hw hn h0 (by rw [hexp] at hT; omega)
    obtain ⟨S1, hS1⟩ : ∃ S1, S1 = S.set n (nutE cells t1 l1) := ⟨_, rfl⟩
    have hm1 : S1[m]? = some (.lst acc) := by rw [hS1, List.getElem?_set_ne (Ne.symm hmn)]; exact h
    have hn1 : S1[n]? = some (nutE cells t1 l1) := by rw [hS1]; exact nut_at hn _
    have hw1 : WfS S1 := by rw [hS1]; exact hw.set (nut_closed _ _ _ _)
    obtain ⟨S2, hS2⟩ : ∃ S2, S2 = S1.set m (.lst (acc ++ [y])) := ⟨_, rfl⟩
    have hm2 : S2[m]? = some (.lst (acc ++ [y])) := by rw [hS2]; exact List.getElem?_set_self (List.getElem?_eq_some_iff.mp hm1).1
    have hn2 : S2[n]? = some (nutE cells t1 l1) := by rw [hS2, List.getElem?_set_ne hmn]; exact hn1
    have ha2 : ∀ d ∈ acc ++ [y], P d := fun d hd => by
      rcases List.mem_append.mp hd with q | q
      · exact ha d q
      · rw [List.mem_singleton.mp q]; exact p1
    have hw2 : WfS S2 := by
      rw [hS2]
      exact hw1.set (closedL_all fun d hd => hP d (ha2 d hd) _)
    obtain ⟨ys, t2, l2, e2, len2, p2, q3, q4⟩ := compL_draw hc hmn hP ds S2 (acc ++ [y]) t1 l1 hw2 hm2 hn2 (by simp; omega) (by omega) (by rw [hexp] at hT; omega) ha2 fun d' hd' => he d' (List.mem_cons_of_mem _ hd')
    refine ⟨y :: ys, t2, l2, ?_, by simp [len2], fun d hd => ?_, by omega, by rw [hexp]; omega⟩
    · simp only [compL, eg_nm, ev_yes, noEx_ok, bind_ok, if_true, e1, ← hS1, pushAt_ok hm1 (show acc.length < 16777216 by omega), resO_some, ← hS2, e2]
      congr 1
      apply List.ext_getElem?
      intro j
      by_cases hj : m = j
      · subst hj
        rw [List.getElem?_set_self (by rw [List.length_set, hS2, List.length_set, hS1, List.length_set]; exact (List.getElem?_eq_some_iff.mp h).1), List.getElem?_set_self (by rw [List.length_set]; exact (List.getElem?_eq_some_iff.mp h).1), List.append_assoc]
        rfl
      · rw [List.getElem?_set_ne hj, List.getElem?_set_ne hj]
        by_cases hk : n = j
        · subst hk
          rw [List.getElem?_set_self (by rw [hS2, List.length_set, hS1, List.length_set]; exact (List.getElem?_eq_some_iff.mp hn).1), List.getElem?_set_self (List.getElem?_eq_some_iff.mp hn).1]
        · rw [List.getElem?_set_ne hk, List.getElem?_set_ne hk, hS2, List.getElem?_set_ne hj, hS1, List.getElem?_set_ne hk]
    · rcases List.mem_cons.mp hd with q | q
      · rw [q]; exact p1
      · exact p2 d q
/-- [e for i in ..], e drawn: so many values that P holds of -/
theorem comp_draw {n i : Nat} {cells : List Int} {T c : Int} {P : D → Prop} {l : ML} {e : ME} {ρ : Env'} {S0 S : Store} {ds : List D} {t l0 : Int} (h0l : S0.length = S.length) (hc : 0 ≤ c) (hP : ∀ d, P d → ∀ k, closed k d = true) (hw : WfS S) (hn : S[n]? = some (nutE cells t l0)) (h0 : 0 ≤ t) (hT : t + c * ds.length ≤ T)
    (hl : l ρ S0 = .ok ds S) (hz : ds.length ≤ 16777216) (he : ∀ d ∈ ds, Draws n cells T P c fun S => e ((wipeR ρ [i]).set i (some d)) S) :
    ∃ ys t' l', mCut (mFrz (mComp l [i] (gNm i) mYes e)) ρ S0 = .ok (.lst ys) (S.set n (nutE cells t' l')) ∧ ys.length = ds.length ∧ (∀ d ∈ ys, P d) ∧ t ≤ t' ∧ t' ≤ t + c * ds.length := by
  have hlt : n < S.length := (List.getElem?_eq_some_iff.mp hn).1
  have hn' : (S ++ [Ent.lst []])[n]? = some (nutE cells t l0) := by rw [List.getElem?_append_left hlt]; exact hn
  have hm : (S ++ [Ent.lst []])[S.length]? = some (.lst []) := by simp
  obtain ⟨ys, t', l', e1, len, p, q1, q2⟩ := compL_draw hc (Nat.ne_of_gt hlt) hP ds (S ++ [.lst []]) [] t l0 (hw.app rfl) hm hn' (by simpa using hz) h0 hT (by simp) he
  refine ⟨ys, t', l', ?_, len, p, q1, q2⟩
  have hset : ((S ++ [Ent.lst []]).set n (nutE cells t' l')).set S.length (.lst ([] ++ ys)) = S.set n (nutE cells t' l') ++ [.lst ys] := by
    rw [List.set_append_left _ _ hlt, List.set_append_right _ _ (by simp)]
    simp
  rw [hset] at e1
  have hs2 : (S.set n (nutE cells t' l') ++ [Ent.lst ys])[S.length]? = some (.lst ys) := by
    rw [List.getElem?_append_right (by simp)]
    simp
  have hset2 : (S.set n (nutE cells t' l') ++ [Ent.lst ys]).set S.length .dead = S.set n (nutE cells t' l') ++ [.dead] := by
    rw [List.set_append_right _ _ (by simp)]
    simp
  show cut S0 ((mComp l [i] (gNm i) mYes e ρ S0).bind frzD) = _
  unfold mComp
  rw [hl]
  simp only [bind_ok, e1, frzD, hs2, hset2]
  refine cut_take ?_ (by rw [List.length_set, h0l]) ?_
  · simp only [closed]
    exact closedL_all fun d hd => hP d (p d hd) _
  · intro x hx
    rw [h0l]
    rcases List.mem_or_eq_of_mem_set hx with q | q
    · exact hw x q
    · rw [q]
      exact nut_closed _ _ _ _

/-! ### the maker of what draws -/
theorem cut_open {S S' : Store} {d : D} (h : closed S.length d = false) : cut S (.ok d S') = .ok d S' := by
  simp only [cut]
  exact if_neg fun z => by
    rw [h] at z
    cases z.1
noncomputable def bMake (k : Int) : MS := sRet (mLoc (mConsL (mCut (mFrz (mComp (mIter (mSlice (mVar 0) mNoP (mPart (mC (.int k))))) [1] (gNm 1) mYes (mCall (f1 intD) (mConsL (mVar 1) mNilL))))) (mConsL (mC (.int 0)) (mConsL (mC (.int 0)) mNilL))))
theorem make_ok {k : Nat} {ns : List Int} (hns : ns.length ≤ 63) : cutM (runDef 1 2 (bMake k)) [.kst (ns.map D.int)] [] = .ok (.loc 0) [nutE (ns.take k) 0 0] := by
  have hs : cutL (ns.map D.int) none (some (k : Int)) = (ns.take k).map D.int := by
    unfold cutL
    rw [HT.sIx_none, HT.sIx_nat]
    simp only [List.drop_zero, Nat.sub_zero, List.map_take, List.length_map]
    by_cases h : k ≤ ns.length
    · rw [Nat.min_eq_left h]
    · rw [Nat.min_eq_right (by omega), List.take_of_length_le (by simp), List.take_of_length_le (by simp; omega)]
  have hit : ∀ S, mIter (mSlice (mVar 0) mNoP (mPart (mC (.int (k : Int))))) [some (.kst (ns.map D.int)), none] S = .ok ((ns.take k).map D.int) S := fun S => by
    simp [asInt, sliceD, itemsD, hs, stillD]
  have hcomp : ∀ S, mCut (mFrz (mComp (mIter (mSlice (mVar 0) mNoP (mPart (mC (.int (k : Int)))))) [1] (gNm 1) mYes (mCall (f1 intD) (mConsL (mVar 1) mNilL)))) [some (.kst (ns.map D.int)), none] S = .ok (.lst (((ns.take k).map D.int).map id)) S := fun S => by
    refine comp_pure (f := id) (hit S) (by simp; omega) (fun d hd => ?_) (fun d hd S => ?_)
    · obtain ⟨z, _, rfl⟩ := List.mem_map.mp hd
      rfl
    · obtain ⟨z, _, rfl⟩ := List.mem_map.mp hd
      simp [wipeR]
  have h := hcomp []
  simp only [List.map_id] at h
  simp only [List.map_take] at h
  simp [bMake, h, nutE]
  exact cut_open rfl
end Z

set_option Elab.async false
set_option linter.all false
set_option maxRecDepth 100000
set_option maxHeartbeats 4000000
set_option autoImplicit false
/-! printed by gen.py: what each def means -/
namespace Z
open PySem PySem.Spec L2
def tabL : Tab := tab0
theorem tabL_ok {G : Gm} : TabOk G tabL := tab0_ok
noncomputable def b_is_integer : MS := (sRet (mAndV (mCall (isiM tabL) (mConsL (mVar 0) (mConsL (mC (.ty "int")) mNilL))) (mNotV (mCall (isiM tabL) (mConsL (mVar 0) (mConsL (mC (.ty "bool")) mNilL))))))
noncomputable def m_is_integer : MF := cutM (runDef 1 1 b_is_integer)
noncomputable def b_is_within : MS := (sSeq (sIf (mNotT (mTst (mCall m_is_integer (mConsL (mVar 0) mNilL)))) (sRet (mC (.bl false))) sPass) (sRet (mAndV (mOrV (mBin isD (mVar 1) (mC .non)) (mBin leD (mVar 1) (mVar 0))) (mOrV (mBin isD (mVar 2) (mC .non)) (mBin leD (mVar 0) (mVar 2))))))
noncomputable def m_is_within : MF := cutM (runDef 3 3 b_is_within)
noncomputable def b_common : MS := (sSeq (sPar 0 1 (mConsL (mCall (f1 absD) (mConsL (mVar 0) mNilL)) (mConsL (mCall (f1 absD) (mConsL (mVar 1) mNilL)) mNilL))) (sSeq (sWhile (mBlT (mBin gtD (mVar 1) (mC (.int 0)))) (sPar 0 1 (mConsL (mVar 1) (mConsL (mBin modD (mVar 0) (mVar 1)) mNilL)))) (sRet (mVar 0))))
noncomputable def m_common : MF := cutM (runDef 2 2 b_common)
noncomputable def b_is_number : MS := (sSeq (sIf (mTst (mCall m_is_integer (mConsL (mVar 0) mNilL))) (sRet (mC (.bl true))) sPass) (sSeq (sIf (mOrT (mNotT (mTst (mCall (isiM tabL) (mConsL (mVar 0) (mConsL (mTup (mConsL (mC (.ty "list")) (mConsL (mC (.ty "tuple")) mNilL))) mNilL))))) (mOrT (mBlT (mBin neD (mCall (f1 lenD) (mConsL (mVar 0) mNilL)) (mC (.int 2)))) (mNotT (mTst (mCall m_is_integer (mConsL (mBin ixD (mVar 0) (mC (.int 0))) mNilL)))))) (sRet (mC (.bl false))) sPass) (sRet (mAndV (mCall m_is_within (mConsL (mBin ixD (mVar 0) (mC (.int 1))) (mConsL (mC (.int 2)) (mConsL (mC .non) mNilL)))) (mBin eqD (mCall m_common (mConsL (mBin ixD (mVar 0) (mC (.int 0))) (mConsL (mBin ixD (mVar 0) (mC (.int 1))) mNilL))) (mC (.int 1)))))))
noncomputable def m_is_number : MF := cutM (runDef 1 1 b_is_number)
noncomputable def b_is_spot : MS := (sRet (mAndV (mCall (isiM tabL) (mConsL (mVar 0) (mConsL (mTup (mConsL (mC (.ty "list")) (mConsL (mC (.ty "tuple")) mNilL))) mNilL))) (mAndV (mBin eqD (mCall (f1 lenD) (mConsL (mVar 0) mNilL)) (mC (.int 2))) (mCall (f1 allD) (mConsL (mCut (mFrz (mComp (mIter (mVar 0)) [1] (gNm 1) mYes (mCall m_is_number (mConsL (mVar 1) mNilL))))) mNilL)))))
noncomputable def m_is_spot : MF := cutM (runDef 1 2 b_is_spot)
noncomputable def b__law_grit : MS := (sRet (mLoc (mConsL (mCut (mFrz (mComp (mIter (mSlice (mVar 0) mNoP (mPart (mC (.int 59))))) [1] (gNm 1) mYes (mCall (f1 intD) (mConsL (mVar 1) mNilL))))) (mConsL (mC (.int 0)) (mConsL (mC (.int 0)) mNilL)))))
noncomputable def m__law_grit : MF := cutM (runDef 1 2 b__law_grit)
noncomputable def b__law_sieve : MS := (sSeq (sIf (mBlT (mBin gtD (mBin ixD (mVar 0) (mC (.int 2))) (mC (.int 0)))) (sSeq (sAsg (mCall (f1 intD) (mConsL (mBin ixD (mVar 0) (mC (.int 2))) mNilL)) (gNm 2)) (sSeq (sAsg (mBin fdivD (mVar 2) (mVar 1)) (gSet (mVar 0) (mC (.int 2)))) (sRet (mBin modD (mCall (f1 intD) (mConsL (mVar 2) mNilL)) (mVar 1))))) sPass) (sSeq (sAsg (mBin ixD (mVar 0) (mC (.int 1))) (gNm 3)) (sSeq (sAsg (mBin addD (mVar 3) (mC (.int 1))) (gSet (mVar 0) (mC (.int 1)))) (sSeq (sAsg (mBin addD (mBin mulD (mC (.int 108139)) (mVar 3)) (mC (.int 8123))) (gNm 4)) (sSeq (sIf (mBlT (mBin neD (mBin ixD (mVar 0) (mC (.int 0))) (mLst mNilL))) (sAsg (mBin ixD (mBin ixD (mVar 0) (mC (.int 0))) (mBin modD (mCall (f1 intD) (mConsL (mVar 3) mNilL)) (mCall (f1 lenD) (mConsL (mBin ixD (mVar 0) (mC (.int 0))) mNilL)))) (gNm 4)) sPass) (sSeq (sIf (mAndT (mBlT (mBin ltD (mVar 3) (mCall (f1 lenD) (mConsL (mBin ixD (mVar 0) (mC (.int 0))) mNilL)))) (mBlT (mBin geD (mCall (f1 absD) (mConsL (mVar 4) mNilL)) (mBin powD (mC (.int 10)) (mC (.int 18)))))) (sSeq (sAsg (mBin addD (mBin mulD (mC (.int 2)) (mBin subD (mCall (f1 absD) (mConsL (mCall (f1 intD) (mConsL (mVar 4) mNilL)) mNilL)) (mBin powD (mC (.int 10)) (mC (.int 18))))) (mCall (f1 intD) (mConsL (mBin ltD (mVar 4) (mC (.int 0))) mNilL))) (gNm 2)) (sSeq (sAsg (mBin fdivD (mVar 2) (mVar 1)) (gSet (mVar 0) (mC (.int 2)))) (sRet (mBin modD (mCall (f1 intD) (mConsL (mVar 2) mNilL)) (mVar 1))))) sPass) (sSeq (sAsg (mBin modD (mCall (f1 intD) (mConsL (mBin powD (mBin addD (mBin addD (mBin modD (mCall (f1 intD) (mConsL (mVar 4) mNilL)) (mC (.int 2147483549))) (mBin mulD (mC (.int 85121)) (mVar 3))) (mC (.int 8123))) (mC (.int 5))) mNilL)) (mC (.int 2147483579))) (gNm 5)) (sSeq (sAsg (mBin modD (mCall (f1 intD) (mConsL (mBin powD (mBin addD (mBin addD (mBin mulD (mVar 5) (mBin addD (mBin mulD (mC (.int 2)) (mVar 3)) (mC (.int 8123)))) (mBin mulD (mBin mulD (mC (.int 108139)) (mVar 3)) (mVar 3))) (mC (.int 85121))) (mC (.int 3))) mNilL)) (mC (.int 2147483563))) (gNm 5)) (sRet (mBin modD (mCall (f1 intD) (mConsL (mBin fdivD (mVar 5) (mC (.int 64))) mNilL)) (mVar 1)))))))))))
noncomputable def m__law_sieve : MF := cutM (runDef 2 6 b__law_sieve)
noncomputable def b__law_pick : MS := (sRet (mBin ixD (mVar 1) (mCall m__law_sieve (mConsL (mVar 0) (mConsL (mCall (f1 lenD) (mConsL (mVar 1) mNilL)) mNilL)))))
noncomputable def m__law_pick : MF := cutM (runDef 2 2 b__law_pick)
noncomputable def b__law_part : MS := (sSeq (sPar 0 1 (mConsL (mCall (f1 absD) (mConsL (mVar 0) mNilL)) (mConsL (mCall (f1 absD) (mConsL (mVar 1) mNilL)) mNilL))) (sSeq (sWhile (mBlT (mBin gtD (mVar 1) (mC (.int 0)))) (sPar 0 1 (mConsL (mVar 1) (mConsL (mBin modD (mCall (f1 intD) (mConsL (mVar 0) mNilL)) (mVar 1)) mNilL)))) (sRet (mBin neD (mVar 0) (mC (.int 1))))))
noncomputable def m__law_part : MF := cutM (runDef 2 2 b__law_part)
noncomputable def b__law_is_integer : MS := (sRet (mAndV (mCall (isiM tabL) (mConsL (mVar 0) (mConsL (mC (.ty "int")) mNilL))) (mNotV (mCall (isiM tabL) (mConsL (mVar 0) (mConsL (mC (.ty "bool")) mNilL))))))
noncomputable def m__law_is_integer : MF := cutM (runDef 1 1 b__law_is_integer)
noncomputable def b__law_is_number : MS := (sSeq (sIf (mTst (mCall m__law_is_integer (mConsL (mVar 0) mNilL))) (sRet (mC (.bl true))) sPass) (sSeq (sIf (mOrT (mNotT (mTst (mCall (isiM tabL) (mConsL (mVar 0) (mConsL (mTup (mConsL (mC (.ty "list")) (mConsL (mC (.ty "tuple")) mNilL))) mNilL))))) (mOrT (mBlT (mBin neD (mCall (f1 lenD) (mConsL (mVar 0) mNilL)) (mC (.int 2)))) (mOrT (mNotT (mTst (mCall m__law_is_integer (mConsL (mBin ixD (mVar 0) (mC (.int 0))) mNilL)))) (mNotT (mTst (mCall m__law_is_integer (mConsL (mBin ixD (mVar 0) (mC (.int 1))) mNilL))))))) (sRet (mC (.bl false))) sPass) (sRet (mAndV (mBin geD (mBin ixD (mVar 0) (mC (.int 1))) (mC (.int 2))) (mNotV (mCall m__law_part (mConsL (mBin ixD (mVar 0) (mC (.int 0))) (mConsL (mBin ixD (mVar 0) (mC (.int 1))) mNilL))))))))
noncomputable def m__law_is_number : MF := cutM (runDef 1 1 b__law_is_number)
noncomputable def b__law_integer : MS := (sSeq (sAsg (mCall m__law_pick (mConsL (mVar 0) (mConsL (mLst (mConsL (mC (.int 3)) (mConsL (mC (.int 7)) (mConsL (mC (.int 30)) (mConsL (mBin powD (mC (.int 10)) (mC (.int 9))) (mConsL (mBin powD (mC (.int 10)) (mC (.int 25))) mNilL)))))) mNilL))) (gNm 1)) (sRet (mBin subD (mCall m__law_sieve (mConsL (mVar 0) (mConsL (mBin addD (mBin mulD (mC (.int 2)) (mVar 1)) (mC (.int 1))) mNilL))) (mVar 1))))
noncomputable def m__law_integer : MF := cutM (runDef 1 2 b__law_integer)
noncomputable def b__law_value (rec : MF) : MS := (sSeq (sAsg (mCall m__law_sieve (mConsL (mVar 0) (mConsL (mC (.int 9)) mNilL))) (gNm 2)) (sSeq (sIf (mBlT (mBin ltD (mVar 2) (mC (.int 2)))) (sRet (mCall m__law_integer (mConsL (mVar 0) mNilL))) sPass) (sSeq (sIf (mBlT (mBin ltD (mVar 2) (mC (.int 5)))) (sSeq (sAsg (mCall m__law_pick (mConsL (mVar 0) (mConsL (mLst (mConsL (mC (.int 1)) (mConsL (mC (.int 1)) (mConsL (mC (.int 2)) (mConsL (mC (.int 3)) (mConsL (mC (.int 0)) (mConsL (mUn negD (mC (.int 1))) mNilL))))))) mNilL))) (gNm 3)) (sSeq (sAsg (mLst (mConsL (mBin mulD (mVar 3) (mCall m__law_integer (mConsL (mVar 0) mNilL))) (mConsL (mBin mulD (mVar 3) (mCall m__law_pick (mConsL (mVar 0) (mConsL (mLst (mConsL (mC (.int 2)) (mConsL (mC (.int 3)) (mConsL (mC (.int 5)) (mConsL (mC (.int 6)) (mConsL (mC (.int 7)) (mConsL (mC (.int 1)) (mConsL (mC (.int 0)) (mConsL (mUn negD (mC (.int 2))) (mConsL (mBin addD (mBin powD (mC (.int 10)) (mC (.int 12))) (mC (.int 39))) mNilL)))))))))) mNilL)))) mNilL))) (gNm 4)) (sRet (mIf (mBlT (mBin eqD (mCall m__law_sieve (mConsL (mVar 0) (mConsL (mC (.int 2)) mNilL))) (mC (.int 0)))) (mVar 4) (mCall (f1 tupD) (mConsL (mVar 4) mNilL)))))) sPass) (sSeq (sIf (mAndT (mBlT (mBin ltD (mVar 2) (mC (.int 7)))) (mBlT (mBin gtD (mVar 1) (mC (.int 0))))) (sSeq (sAsg (mCut (mFrz (mComp (mRange1 (mConsL (mCall m__law_pick (mConsL (mVar 0) (mConsL (mLst (mConsL (mC (.int 2)) (mConsL (mC (.int 2)) (mConsL (mC (.int 2)) (mConsL (mC (.int 1)) (mConsL (mC (.int 3)) (mConsL (mC (.int 0)) mNilL))))))) mNilL))) mNilL)) [6] (gNm 6) mYes (mCall rec (mConsL (mVar 0) (mConsL (mBin subD (mVar 1) (mC (.int 1))) mNilL)))))) (gNm 5)) (sRet (mIf (mBlT (mBin eqD (mCall m__law_sieve (mConsL (mVar 0) (mConsL (mC (.int 2)) mNilL))) (mC (.int 0)))) (mVar 5) (mCall (f1 tupD) (mConsL (mVar 5) mNilL))))) sPass) (sRet (mCall m__law_pick (mConsL (mVar 0) (mConsL (mLst (mConsL (mC .non) (mConsL (mC (.bl true)) (mConsL (mC (.bl false)) (mConsL (mC (.str ("7" : Str))) (mConsL (mC (.str ("" : Str))) (mConsL (mC (.str ("7/2" : Str))) (mConsL (mTup (mConsL (mC (.bl true)) (mConsL (mC (.int 2)) mNilL))) (mConsL (mTup (mConsL (mC (.int 1)) (mConsL (mC (.bl true)) mNilL))) (mConsL (mTup (mConsL (mC (.int 1)) (mConsL (mC .non) mNilL))) (mConsL (mTup (mConsL (mC (.str ("1" : Str))) (mConsL (mC (.int 2)) mNilL))) (mConsL (mCut (mFrz mDict0)) (mConsL (mCut (mFrz (mDict [(Sum.inl (0 : Int) : Key), (Sum.inl (1 : Int) : Key)] (mConsL (mC (.int 1)) (mConsL (mC (.int 2)) mNilL))))) (mConsL (mLst (mConsL (mC .non) (mConsL (mC (.int 2)) mNilL))) mNilL)))))))))))))) mNilL))))))))
noncomputable def r__law_value : Nat → MF
  | 0 => fun _ _ => .bad
  | k + 1 => cutM (runDef 2 7 (b__law_value (r__law_value k)))
noncomputable abbrev m__law_value : MF := r__law_value 4
noncomputable def b_law : MS := (sSeq (sAsg (mCall m__law_grit (mConsL (mVar 0) mNilL)) (gNm 1)) (sSeq (sFor (mRange1 (mConsL (mC (.int 12)) mNilL)) (gNm 2) (sSeq (sAsg (mCall m__law_value (mConsL (mVar 1) (mConsL (mC (.int 2)) mNilL))) (gNm 3)) (sSeq (sAsg (mCut (mFrz (mComp (mIter (mTup (mConsL (mC (.int 0)) (mConsL (mC (.int 1)) mNilL)))) [11] (gNm 11) mYes (mCall m__law_pick (mConsL (mVar 1) (mConsL (mLst (mConsL (mC .non) (mConsL (mCall m__law_integer (mConsL (mVar 1) mNilL)) (mConsL (mIf (mTst (mCall m__law_is_integer (mConsL (mVar 3) mNilL))) (mVar 3) (mC (.int 0))) mNilL)))) mNilL)))))) (gMany 2 (gsCons (gNm 4) (gsCons (gNm 5) gsNil)))) (sSeq (sAsg (mAndV (mCall m__law_is_integer (mConsL (mVar 3) mNilL)) (mAndV (mOrV (mBin isD (mVar 4) (mC .non)) (mBin leD (mVar 4) (mVar 3))) (mOrV (mBin isD (mVar 5) (mC .non)) (mBin leD (mVar 3) (mVar 5))))) (gNm 6)) (sSeq (sAsg (mAndV (mCall (isiM tabL) (mConsL (mVar 3) (mConsL (mTup (mConsL (mC (.ty "list")) (mConsL (mC (.ty "tuple")) mNilL))) mNilL))) (mBin eqD (mCall (f1 lenD) (mConsL (mVar 3) mNilL)) (mC (.int 2)))) (gNm 7)) (sSeq (sAsg (mLst (mConsL (mCall m__law_is_integer (mConsL (mVar 3) mNilL)) (mConsL (mVar 6) (mConsL (mCall m__law_is_number (mConsL (mVar 3) mNilL)) (mConsL (mAndV (mVar 7) (mAndV (mCall m__law_is_number (mConsL (mBin ixD (mVar 3) (mC (.int 0))) mNilL)) (mCall m__law_is_number (mConsL (mBin ixD (mVar 3) (mC (.int 1))) mNilL)))) mNilL))))) (gNm 8)) (sSeq (sAsg (mLst (mConsL (mCall m_is_integer (mConsL (mVar 3) mNilL)) (mConsL (mCall m_is_within (mConsL (mVar 3) (mConsL (mVar 4) (mConsL (mVar 5) mNilL)))) (mConsL (mCall m_is_number (mConsL (mVar 3) mNilL)) (mConsL (mCall m_is_spot (mConsL (mVar 3) mNilL)) mNilL))))) (gNm 9)) (sSeq (sAsg (mLst (mConsL (mCallK m_is_integer 0 1 [.kw 0] [] mNilL (mConsL (mVar 3) mNilL)) (mConsL (mCallK m_is_within 0 3 [.kw 2, .kw 1, .kw 0] [] mNilL (mConsL (mVar 5) (mConsL (mVar 4) (mConsL (mVar 3) mNilL)))) (mConsL (mCallK m_is_number 0 1 [.kw 0] [] mNilL (mConsL (mVar 3) mNilL)) (mConsL (mCallK m_is_spot 0 1 [.kw 0] [] mNilL (mConsL (mVar 3) mNilL)) mNilL))))) (gNm 10)) (sIf (mOrT (mBlT (mBin neD (mCall (f1 reprD) (mConsL (mVar 9) mNilL)) (mCall (f1 reprD) (mConsL (mVar 8) mNilL)))) (mBlT (mBin neD (mCall (f1 reprD) (mConsL (mVar 10) mNilL)) (mCall (f1 reprD) (mConsL (mVar 8) mNilL))))) (sRet (mC (.bl false))) sPass))))))))) (sRet (mC (.bl true)))))
noncomputable def m_law : MF := cutM (runDef 1 12 b_law)
end Z

set_option Elab.async false
set_option linter.all false
set_option maxRecDepth 100000
set_option maxHeartbeats 4000000
set_option autoImplicit false
namespace Z
open PySem PySem.Spec L2
def topS (i : Nat) : Stmt := PySem.Challenge.pw_lanecross_k02_integers_numbers_spots_jud.main.body.getD i (.Pass ⟨0, 0, 0, 0⟩)
structure Bl (G : Gm) : Prop where
  b_abs : G.mg "abs" = none
  b_all : G.mg "all" = none
  b_bool : G.mg "bool" = none
  b_int : G.mg "int" = none
  b_isinstance : G.mg "isinstance" = none
  b_len : G.mg "len" = none
  b_list : G.mg "list" = none
  b_range : G.mg "range" = none
  b_repr : G.mg "repr" = none
  b_tuple : G.mg "tuple" = none
abbrev s_is_integer : Stmt := topS 1
theorem sc_is_integer : FnScope ["value"] ["value"] (defScope s_is_integer) := ⟨rfl, rfl, rfl, by decide +kernel, rfl, by decide +kernel, by decide +kernel⟩
theorem gf_is_integer {G : Gm} {P : Program} {w : World} {base : Heap} {f : Addr} {fd : FuncData} (T : Bl G) (TB : TabOk G tabL) (D_is_integer : Df G "is_integer" s_is_integer ["value"] f fd) : GFn G P w base 1 f fd ["value"] m_is_integer :=
  (GFn.of_body (k := 0) D_is_integer.fg sc_is_integer fun cdv A outer s H E ok => (ss_one (ss_ret (se_and ok.K (cx_isi ok TB T.b_isinstance (sa_cons (se_var (i := 0)) (sa_cons (cx_ty ok T.b_int) sa_nil))) (se_one (se_not ok.K (cx_isi ok TB T.b_isinstance (sa_cons (se_var (i := 0)) (sa_cons (cx_ty ok T.b_bool) sa_nil))))))))).cut
abbrev s_is_within : Stmt := topS 2
theorem sc_is_within : FnScope ["value", "least", "most"] ["value", "least", "most"] (defScope s_is_within) := ⟨rfl, rfl, rfl, by decide +kernel, rfl, by decide +kernel, by decide +kernel⟩
theorem gf_is_within {G : Gm} {P : Program} {w : World} {base : Heap} {f : Addr} {fd : FuncData} (T : Bl G) (TB : TabOk G tabL) (D_is_within : Df G "is_within" s_is_within ["value", "least", "most"] f fd) {f_is_integer : Addr} {fd_is_integer : FuncData} (D_is_integer : Df G "is_integer" s_is_integer ["value"] f_is_integer fd_is_integer) (G_is_integer : GFn G P w base 1 f_is_integer fd_is_integer ["value"] m_is_integer) : GFn G P w base 2 f fd ["value", "least", "most"] m_is_within :=
  (GFn.of_body (k := 1) D_is_within.fg sc_is_within fun cdv A outer s H E ok => (ss_cons (ss_if (st_not (st_truth ok.K (cx_call ok D_is_integer G_is_integer runL (sa_cons (se_var (i := 0)) sa_nil)))) (ss_one (ss_ret se_bl)) ss_nil) (ss_one (ss_ret (se_and ok.K (se_or ok.K (cx_is ok (se_var (i := 1)) se_non) (se_one (cx_le ok (se_var (i := 1)) (se_var (i := 0))))) (se_one (se_or ok.K (cx_is ok (se_var (i := 2)) se_non) (se_one (cx_le ok (se_var (i := 0)) (se_var (i := 2))))))))))).cut
abbrev s_common : Stmt := topS 3
theorem sc_common : FnScope ["one", "other"] ["one", "other"] (defScope s_common) := ⟨rfl, rfl, rfl, by decide +kernel, rfl, by decide +kernel, by decide +kernel⟩
theorem gf_common {G : Gm} {P : Program} {w : World} {base : Heap} {f : Addr} {fd : FuncData} (T : Bl G) (TB : TabOk G tabL) (D_common : Df G "common" s_common ["one", "other"] f fd) : GFn G P w base 1 f fd ["one", "other"] m_common :=
  (GFn.of_body (k := 0) D_common.fg sc_common fun cdv A outer s H E ok => (ss_cons (ss_par (i := 0) (j := 1) ok.calm ok.nd (by decide) (sa_cons (cx_abs ok T.b_abs (sa_cons (se_var (i := 0)) sa_nil)) (sa_cons (cx_abs ok T.b_abs (sa_cons (se_var (i := 1)) sa_nil)) sa_nil))) (ss_cons (ss_while ok.po (ct_gt ok (se_var (i := 1)) se_int) (ss_one (ss_par (i := 0) (j := 1) ok.calm ok.nd (by decide) (sa_cons (se_var (i := 1)) (sa_cons (cx_mod ok (se_var (i := 0)) (se_var (i := 1))) sa_nil))))) (ss_one (ss_ret (se_var (i := 0))))))).cut
abbrev s_is_number : Stmt := topS 4
theorem sc_is_number : FnScope ["value"] ["value"] (defScope s_is_number) := ⟨rfl, rfl, rfl, by decide +kernel, rfl, by decide +kernel, by decide +kernel⟩
theorem gf_is_number {G : Gm} {P : Program} {w : World} {base : Heap} {f : Addr} {fd : FuncData} (T : Bl G) (TB : TabOk G tabL) (D_is_number : Df G "is_number" s_is_number ["value"] f fd) {f_is_integer : Addr} {fd_is_integer : FuncData} (D_is_integer : Df G "is_integer" s_is_integer ["value"] f_is_integer fd_is_integer) (G_is_integer : GFn G P w base 1 f_is_integer fd_is_integer ["value"] m_is_integer) {f_is_within : Addr} {fd_is_within : FuncData} (D_is_within : Df G "is_within" s_is_within ["value", "least", "most"] f_is_within fd_is_within) (G_is_within : GFn G P w base 2 f_is_within fd_is_within ["value", "least", "most"] m_is_within) {f_common : Addr} {fd_common : FuncData} (D_common : Df G "common" s_common ["one", "other"] f_common fd_common) (G_common : GFn G P w base 1 f_common fd_common ["one", "other"] m_common) : GFn G P w base 3 f fd ["value"] m_is_number :=
  (GFn.of_body (k := 2) D_is_number.fg sc_is_number fun cdv A outer s H E ok => (ss_cons (ss_if (st_truth ok.K (cx_call ok D_is_integer G_is_integer runL (sa_cons (se_var (i := 0)) sa_nil))) (ss_one (ss_ret se_bl)) ss_nil) (ss_cons (ss_if (SW.pt (sw_or (st_not (st_truth ok.K (cx_isi ok TB T.b_isinstance (sa_cons (se_var (i := 0)) (sa_cons (se_tup (sa_cons (cx_ty ok T.b_list) (sa_cons (cx_ty ok T.b_tuple) sa_nil))) sa_nil))))) (sw_or (ct_ne ok (cx_len ok T.b_len (sa_cons (se_var (i := 0)) sa_nil)) se_int) (sw_or1 (st_not (st_truth ok.K (cx_call ok D_is_integer G_is_integer runL (sa_cons (se_ix ok.K (se_var (i := 0)) se_int) sa_nil)))))))) (ss_one (ss_ret se_bl)) ss_nil) (ss_one (ss_ret (se_and ok.K (cx_call ok D_is_within G_is_within runL (sa_cons (se_ix ok.K (se_var (i := 0)) se_int) (sa_cons se_int (sa_cons se_non sa_nil)))) (se_one (cx_eq ok (cx_call ok D_common G_common runL (sa_cons (se_ix ok.K (se_var (i := 0)) se_int) (sa_cons (se_ix ok.K (se_var (i := 0)) se_int) sa_nil))) se_int)))))))).cut
abbrev s_is_spot : Stmt := topS 5
theorem sc_is_spot : FnScope ["value", "each"] ["value"] (defScope s_is_spot) := ⟨rfl, rfl, rfl, by decide +kernel, rfl, by decide +kernel, by decide +kernel⟩
theorem gf_is_spot {G : Gm} {P : Program} {w : World} {base : Heap} {f : Addr} {fd : FuncData} (T : Bl G) (TB : TabOk G tabL) (D_is_spot : Df G "is_spot" s_is_spot ["value"] f fd) {f_is_number : Addr} {fd_is_number : FuncData} (D_is_number : Df G "is_number" s_is_number ["value"] f_is_number fd_is_number) (G_is_number : GFn G P w base 3 f_is_number fd_is_number ["value"] m_is_number) : GFn G P w base 4 f fd ["value"] m_is_spot :=
  (GFn.of_body (k := 3) D_is_spot.fg sc_is_spot fun cdv A outer s H E ok => (ss_one (ss_ret (se_and ok.K (cx_isi ok TB T.b_isinstance (sa_cons (se_var (i := 0)) (sa_cons (se_tup (sa_cons (cx_ty ok T.b_list) (sa_cons (cx_ty ok T.b_tuple) sa_nil))) sa_nil))) (se_and ok.K (cx_eq ok (cx_len ok T.b_len (sa_cons (se_var (i := 0)) sa_nil)) se_int) (se_one (cx_all ok T.b_all (sa_cons (se_cut (se_frz (se_lc (own := [("each", 1)]) ok (si_seq ok.K (se_var (i := 0))) (fun _ _ _ _ _ => (so_name (i := 1) (ok.blk _ _ _ _ _).nd)) (fun _ _ _ _ _ okB => sq_nil) (fun _ _ _ _ _ okB => (cx_call okB D_is_number G_is_number runL (sa_cons (se_var (i := 1)) sa_nil))) (bk := blkOk_by (N := ["value", "each"]) (sc := defScope s_is_spot) (own := [("each", 1)]) (by decide +kernel))))) sa_nil)))))))).cut
abbrev s__law_grit : Stmt := topS 7
theorem sc__law_grit : FnScope ["script", "cell"] ["script"] (defScope s__law_grit) := ⟨rfl, rfl, rfl, by decide +kernel, rfl, by decide +kernel, by decide +kernel⟩
theorem gf__law_grit {G : Gm} {P : Program} {w : World} {base : Heap} {f : Addr} {fd : FuncData} (T : Bl G) (TB : TabOk G tabL) (D__law_grit : Df G "_law_grit" s__law_grit ["script"] f fd) : GFn G P w base 1 f fd ["script"] m__law_grit :=
  (GFn.of_body (k := 0) D__law_grit.fg sc__law_grit fun cdv A outer s H E ok => (ss_one (ss_ret (se_loc (sa_cons (se_cut (se_frz (se_lc (own := [("cell", 1)]) ok (si_seq ok.K (se_slice ok.K (se_var (i := 0)) sop_none (sop_some se_int))) (fun _ _ _ _ _ => (so_name (i := 1) (ok.blk _ _ _ _ _).nd)) (fun _ _ _ _ _ okB => sq_nil) (fun _ _ _ _ _ okB => (cx_int okB T.b_int (sa_cons (se_var (i := 1)) sa_nil))) (bk := blkOk_by (N := ["script", "cell"]) (sc := defScope s__law_grit) (own := [("cell", 1)]) (by decide +kernel))))) (sa_cons se_int (sa_cons se_int sa_nil))))))).cut
abbrev s__law_sieve : Stmt := topS 8
theorem sc__law_sieve : FnScope ["grit", "many", "left", "turn", "cell", "mixed"] ["grit", "many"] (defScope s__law_sieve) := ⟨rfl, rfl, rfl, by decide +kernel, rfl, by decide +kernel, by decide +kernel⟩
theorem gf__law_sieve {G : Gm} {P : Program} {w : World} {base : Heap} {f : Addr} {fd : FuncData} (T : Bl G) (TB : TabOk G tabL) (D__law_sieve : Df G "_law_sieve" s__law_sieve ["grit", "many"] f fd) : GFn G P w base 1 f fd ["grit", "many"] m__law_sieve :=
  (GFn.of_body (k := 0) D__law_sieve.fg sc__law_sieve fun cdv A outer s H E ok => (ss_cons (ss_if (ct_gt ok (se_ix ok.K (se_var (i := 0)) se_int) se_int) (ss_cons (ss_set (i := 2) ok.nd (cx_int ok T.b_int (sa_cons (se_ix ok.K (se_var (i := 0)) se_int) sa_nil))) (ss_cons (ss_asg (cx_fdiv ok (se_var (i := 2)) (se_var (i := 1))) (sg_set ok (se_var (i := 0)) se_int)) (ss_one (ss_ret (cx_mod ok (cx_int ok T.b_int (sa_cons (se_var (i := 2)) sa_nil)) (se_var (i := 1))))))) ss_nil) (ss_cons (ss_set (i := 3) ok.nd (se_ix ok.K (se_var (i := 0)) se_int)) (ss_cons (ss_asg (cx_add ok (se_var (i := 3)) se_int) (sg_set ok (se_var (i := 0)) se_int)) (ss_cons (ss_set (i := 4) ok.nd (cx_add ok (cx_mul ok se_int (se_var (i := 3))) se_int)) (ss_cons (ss_if (ct_ne ok (se_ix ok.K (se_var (i := 0)) se_int) (se_lst sa_nil)) (ss_one (ss_set (i := 4) ok.nd (se_ix ok.K (se_ix ok.K (se_var (i := 0)) se_int) (cx_mod ok (cx_int ok T.b_int (sa_cons (se_var (i := 3)) sa_nil)) (cx_len ok T.b_len (sa_cons (se_ix ok.K (se_var (i := 0)) se_int) sa_nil)))))) ss_nil) (ss_cons (ss_if (SW.pt (sw_and (ct_lt ok (se_var (i := 3)) (cx_len ok T.b_len (sa_cons (se_ix ok.K (se_var (i := 0)) se_int) sa_nil))) (sw_and1 (ct_ge ok (cx_abs ok T.b_abs (sa_cons (se_var (i := 4)) sa_nil)) (cx_pow ok se_int se_int))))) (ss_cons (ss_set (i := 2) ok.nd (cx_add ok (cx_mul ok se_int (cx_sub ok (cx_abs ok T.b_abs (sa_cons (cx_int ok T.b_int (sa_cons (se_var (i := 4)) sa_nil)) sa_nil)) (cx_pow ok se_int se_int))) (cx_int ok T.b_int (sa_cons (cx_lt ok (se_var (i := 4)) se_int) sa_nil)))) (ss_cons (ss_asg (cx_fdiv ok (se_var (i := 2)) (se_var (i := 1))) (sg_set ok (se_var (i := 0)) se_int)) (ss_one (ss_ret (cx_mod ok (cx_int ok T.b_int (sa_cons (se_var (i := 2)) sa_nil)) (se_var (i := 1))))))) ss_nil) (ss_cons (ss_set (i := 5) ok.nd (cx_mod ok (cx_int ok T.b_int (sa_cons (cx_pow ok (cx_add ok (cx_add ok (cx_mod ok (cx_int ok T.b_int (sa_cons (se_var (i := 4)) sa_nil)) se_int) (cx_mul ok se_int (se_var (i := 3)))) se_int) se_int) sa_nil)) se_int)) (ss_cons (ss_set (i := 5) ok.nd (cx_mod ok (cx_int ok T.b_int (sa_cons (cx_pow ok (cx_add ok (cx_add ok (cx_mul ok (se_var (i := 5)) (cx_add ok (cx_mul ok se_int (se_var (i := 3))) se_int)) (cx_mul ok (cx_mul ok se_int (se_var (i := 3))) (se_var (i := 3)))) se_int) se_int) sa_nil)) se_int)) (ss_one (ss_ret (cx_mod ok (cx_int ok T.b_int (sa_cons (cx_fdiv ok (se_var (i := 5)) se_int) sa_nil)) (se_var (i := 1)))))))))))))).cut
abbrev s__law_pick : Stmt := topS 9
theorem sc__law_pick : FnScope ["grit", "some"] ["grit", "some"] (defScope s__law_pick) := ⟨rfl, rfl, rfl, by decide +kernel, rfl, by decide +kernel, by decide +kernel⟩
theorem gf__law_pick {G : Gm} {P : Program} {w : World} {base : Heap} {f : Addr} {fd : FuncData} (T : Bl G) (TB : TabOk G tabL) (D__law_pick : Df G "_law_pick" s__law_pick ["grit", "some"] f fd) {f__law_sieve : Addr} {fd__law_sieve : FuncData} (D__law_sieve : Df G "_law_sieve" s__law_sieve ["grit", "many"] f__law_sieve fd__law_sieve) (G__law_sieve : GFn G P w base 1 f__law_sieve fd__law_sieve ["grit", "many"] m__law_sieve) : GFn G P w base 2 f fd ["grit", "some"] m__law_pick :=
  (GFn.of_body (k := 1) D__law_pick.fg sc__law_pick fun cdv A outer s H E ok => (ss_one (ss_ret (se_ix ok.K (se_var (i := 1)) (cx_call ok D__law_sieve G__law_sieve runL (sa_cons (se_var (i := 0)) (sa_cons (cx_len ok T.b_len (sa_cons (se_var (i := 1)) sa_nil)) sa_nil))))))).cut
abbrev s__law_part : Stmt := topS 10
theorem sc__law_part : FnScope ["one", "other"] ["one", "other"] (defScope s__law_part) := ⟨rfl, rfl, rfl, by decide +kernel, rfl, by decide +kernel, by decide +kernel⟩
theorem gf__law_part {G : Gm} {P : Program} {w : World} {base : Heap} {f : Addr} {fd : FuncData} (T : Bl G) (TB : TabOk G tabL) (D__law_part : Df G "_law_part" s__law_part ["one", "other"] f fd) : GFn G P w base 1 f fd ["one", "other"] m__law_part :=
  (GFn.of_body (k := 0) D__law_part.fg sc__law_part fun cdv A outer s H E ok => (ss_cons (ss_par (i := 0) (j := 1) ok.calm ok.nd (by decide) (sa_cons (cx_abs ok T.b_abs (sa_cons (se_var (i := 0)) sa_nil)) (sa_cons (cx_abs ok T.b_abs (sa_cons (se_var (i := 1)) sa_nil)) sa_nil))) (ss_cons (ss_while ok.po (ct_gt ok (se_var (i := 1)) se_int) (ss_one (ss_par (i := 0) (j := 1) ok.calm ok.nd (by decide) (sa_cons (se_var (i := 1)) (sa_cons (cx_mod ok (cx_int ok T.b_int (sa_cons (se_var (i := 0)) sa_nil)) (se_var (i := 1))) sa_nil))))) (ss_one (ss_ret (cx_ne ok (se_var (i := 0)) se_int)))))).cut
abbrev s__law_is_integer : Stmt := topS 11
theorem sc__law_is_integer : FnScope ["value"] ["value"] (defScope s__law_is_integer) := ⟨rfl, rfl, rfl, by decide +kernel, rfl, by decide +kernel, by decide +kernel⟩
theorem gf__law_is_integer {G : Gm} {P : Program} {w : World} {base : Heap} {f : Addr} {fd : FuncData} (T : Bl G) (TB : TabOk G tabL) (D__law_is_integer : Df G "_law_is_integer" s__law_is_integer ["value"] f fd) : GFn G P w base 1 f fd ["value"] m__law_is_integer :=
  (GFn.of_body (k := 0) D__law_is_integer.fg sc__law_is_integer fun cdv A outer s H E ok => (ss_one (ss_ret (se_and ok.K (cx_isi ok TB T.b_isinstance (sa_cons (se_var (i := 0)) (sa_cons (cx_ty ok T.b_int) sa_nil))) (se_one (se_not ok.K (cx_isi ok TB T.b_isinstance (sa_cons (se_var (i := 0)) (sa_cons (cx_ty ok T.b_bool) sa_nil))))))))).cut
abbrev s__law_is_number : Stmt := topS 12
theorem sc__law_is_number : FnScope ["value"] ["value"] (defScope s__law_is_number) := ⟨rfl, rfl, rfl, by decide +kernel, rfl, by decide +kernel, by decide +kernel⟩
theorem gf__law_is_number {G : Gm} {P : Program} {w : World} {base : Heap} {f : Addr} {fd : FuncData} (T : Bl G) (TB : TabOk G tabL) (D__law_is_number : Df G "_law_is_number" s__law_is_number ["value"] f fd) {f__law_is_integer : Addr} {fd__law_is_integer : FuncData} (D__law_is_integer : Df G "_law_is_integer" s__law_is_integer ["value"] f__law_is_integer fd__law_is_integer) (G__law_is_integer : GFn G P w base 1 f__law_is_integer fd__law_is_integer ["value"] m__law_is_integer) {f__law_part : Addr} {fd__law_part : FuncData} (D__law_part : Df G "_law_part" s__law_part ["one", "other"] f__law_part fd__law_part) (G__law_part : GFn G P w base 1 f__law_part fd__law_part ["one", "other"] m__law_part) : GFn G P w base 2 f fd ["value"] m__law_is_number :=
  (GFn.of_body (k := 1) D__law_is_number.fg sc__law_is_number fun cdv A outer s H E ok => (ss_cons (ss_if (st_truth ok.K (cx_call ok D__law_is_integer G__law_is_integer runL (sa_cons (se_var (i := 0)) sa_nil))) (ss_one (ss_ret se_bl)) ss_nil) (ss_cons (ss_if (SW.pt (sw_or (st_not (st_truth ok.K (cx_isi ok TB T.b_isinstance (sa_cons (se_var (i := 0)) (sa_cons (se_tup (sa_cons (cx_ty ok T.b_list) (sa_cons (cx_ty ok T.b_tuple) sa_nil))) sa_nil))))) (sw_or (ct_ne ok (cx_len ok T.b_len (sa_cons (se_var (i := 0)) sa_nil)) se_int) (sw_or (st_not (st_truth ok.K (cx_call ok D__law_is_integer G__law_is_integer runL (sa_cons (se_ix ok.K (se_var (i := 0)) se_int) sa_nil)))) (sw_or1 (st_not (st_truth ok.K (cx_call ok D__law_is_integer G__law_is_integer runL (sa_cons (se_ix ok.K (se_var (i := 0)) se_int) sa_nil))))))))) (ss_one (ss_ret se_bl)) ss_nil) (ss_one (ss_ret (se_and ok.K (cx_ge ok (se_ix ok.K (se_var (i := 0)) se_int) se_int) (se_one (se_not ok.K (cx_call ok D__law_part G__law_part runL (sa_cons (se_ix ok.K (se_var (i := 0)) se_int) (sa_cons (se_ix ok.K (se_var (i := 0)) se_int) sa_nil))))))))))).cut
abbrev s__law_integer : Stmt := topS 13
theorem sc__law_integer : FnScope ["grit", "most"] ["grit"] (defScope s__law_integer) := ⟨rfl, rfl, rfl, by decide +kernel, rfl, by decide +kernel, by decide +kernel⟩
theorem gf__law_integer {G : Gm} {P : Program} {w : World} {base : Heap} {f : Addr} {fd : FuncData} (T : Bl G) (TB : TabOk G tabL) (D__law_integer : Df G "_law_integer" s__law_integer ["grit"] f fd) {f__law_pick : Addr} {fd__law_pick : FuncData} (D__law_pick : Df G "_law_pick" s__law_pick ["grit", "some"] f__law_pick fd__law_pick) (G__law_pick : GFn G P w base 2 f__law_pick fd__law_pick ["grit", "some"] m__law_pick) {f__law_sieve : Addr} {fd__law_sieve : FuncData} (D__law_sieve : Df G "_law_sieve" s__law_sieve ["grit", "many"] f__law_sieve fd__law_sieve) (G__law_sieve : GFn G P w base 1 f__law_sieve fd__law_sieve ["grit", "many"] m__law_sieve) : GFn G P w base 3 f fd ["grit"] m__law_integer :=
  (GFn.of_body (k := 2) D__law_integer.fg sc__law_integer fun cdv A outer s H E ok => (ss_cons (ss_set (i := 1) ok.nd (cx_call ok D__law_pick G__law_pick runL (sa_cons (se_var (i := 0)) (sa_cons (se_lst (sa_cons se_int (sa_cons se_int (sa_cons se_int (sa_cons (cx_pow ok se_int se_int) (sa_cons (cx_pow ok se_int se_int) sa_nil)))))) sa_nil)))) (ss_one (ss_ret (cx_sub ok (cx_call ok D__law_sieve G__law_sieve runL (sa_cons (se_var (i := 0)) (sa_cons (cx_add ok (cx_mul ok se_int (se_var (i := 1))) se_int) sa_nil))) (se_var (i := 1))))))).cut
abbrev s__law_value : Stmt := topS 14
theorem sc__law_value : FnScope ["grit", "deep", "way", "part", "pair", "some", "turn"] ["grit", "deep"] (defScope s__law_value) := ⟨rfl, rfl, rfl, by decide +kernel, rfl, by decide +kernel, by decide +kernel⟩
theorem gr__law_value {G : Gm} {P : Program} {w : World} {base : Heap} {f : Addr} {fd : FuncData} (T : Bl G) (TB : TabOk G tabL) (D__law_value : Df G "_law_value" s__law_value ["grit", "deep"] f fd) {f__law_sieve : Addr} {fd__law_sieve : FuncData} (D__law_sieve : Df G "_law_sieve" s__law_sieve ["grit", "many"] f__law_sieve fd__law_sieve) (G__law_sieve : GFn G P w base 1 f__law_sieve fd__law_sieve ["grit", "many"] m__law_sieve) {f__law_integer : Addr} {fd__law_integer : FuncData} (D__law_integer : Df G "_law_integer" s__law_integer ["grit"] f__law_integer fd__law_integer) (G__law_integer : GFn G P w base 3 f__law_integer fd__law_integer ["grit"] m__law_integer) {f__law_pick : Addr} {fd__law_pick : FuncData} (D__law_pick : Df G "_law_pick" s__law_pick ["grit", "some"] f__law_pick fd__law_pick) (G__law_pick : GFn G P w base 2 f__law_pick fd__law_pick ["grit", "some"] m__law_pick) : ∀ k, GFn G P w base (3 + k) f fd ["grit", "deep"] (r__law_value k)
  | 0 => ⟨fun A outer s H args us vs Q E _ _ _ _ _ h => by
    obtain ⟨_, _, _, _, _, _, _, z⟩ := h
    exact z.elim⟩
  | k + 1 => by
    have G_rec := gr__law_value (P := P) (w := w) (base := base) T TB D__law_value D__law_sieve G__law_sieve D__law_integer G__law_integer D__law_pick G__law_pick  k
    have hrec : ∀ ds S, r__law_value k ds S ≠ .bad → ds.length = ["grit", "deep"].length := by
      cases k with
      | zero => exact fun _ _ h => absurd rfl h
      | succ k => exact runL
    have G__law_sieve := G__law_sieve.mono (show 1 ≤ 3 + k by omega)
    have G__law_integer := G__law_integer.mono (show 3 ≤ 3 + k by omega)
    have G__law_pick := G__law_pick.mono (show 2 ≤ 3 + k by omega)
    exact (GFn.of_body (k := 3 + k) D__law_value.fg sc__law_value fun cdv A outer s H E ok => (ss_cons (ss_set (i := 2) ok.nd (cx_call ok D__law_sieve G__law_sieve runL (sa_cons (se_var (i := 0)) (sa_cons se_int sa_nil)))) (ss_cons (ss_if (ct_lt ok (se_var (i := 2)) se_int) (ss_one (ss_ret (cx_call ok D__law_integer G__law_integer runL (sa_cons (se_var (i := 0)) sa_nil)))) ss_nil) (ss_cons (ss_if (ct_lt ok (se_var (i := 2)) se_int) (ss_cons (ss_set (i := 3) ok.nd (cx_call ok D__law_pick G__law_pick runL (sa_cons (se_var (i := 0)) (sa_cons (se_lst (sa_cons se_int (sa_cons se_int (sa_cons se_int (sa_cons se_int (sa_cons se_int (sa_cons (cx_neg ok se_int) sa_nil))))))) sa_nil)))) (ss_cons (ss_set (i := 4) ok.nd (se_lst (sa_cons (cx_mul ok (se_var (i := 3)) (cx_call ok D__law_integer G__law_integer runL (sa_cons (se_var (i := 0)) sa_nil))) (sa_cons (cx_mul ok (se_var (i := 3)) (cx_call ok D__law_pick G__law_pick runL (sa_cons (se_var (i := 0)) (sa_cons (se_lst (sa_cons se_int (sa_cons se_int (sa_cons se_int (sa_cons se_int (sa_cons se_int (sa_cons se_int (sa_cons se_int (sa_cons (cx_neg ok se_int) (sa_cons (cx_add ok (cx_pow ok se_int se_int) se_int) sa_nil)))))))))) sa_nil)))) sa_nil)))) (ss_one (ss_ret (se_ifExp (ct_eq ok (cx_call ok D__law_sieve G__law_sieve runL (sa_cons (se_var (i := 0)) (sa_cons se_int sa_nil))) se_int) (se_var (i := 4)) (cx_tuple ok T.b_tuple (sa_cons (se_var (i := 4)) sa_nil))))))) ss_nil) (ss_cons (ss_if (SW.pt (sw_and (ct_lt ok (se_var (i := 2)) se_int) (sw_and1 (ct_gt ok (se_var (i := 1)) se_int)))) (ss_cons (ss_setLc (i := 5) (fun m => mCut (mFrz m)) wr_frz (own := [("turn", 6)]) ok (si_range1 ok.mg T.b_range (sa_cons (cx_call ok D__law_pick G__law_pick runL (sa_cons (se_var (i := 0)) (sa_cons (se_lst (sa_cons se_int (sa_cons se_int (sa_cons se_int (sa_cons se_int (sa_cons se_int (sa_cons se_int sa_nil))))))) sa_nil))) sa_nil)) (fun _ _ _ _ _ => (so_name (i := 6) (ok.blk _ _ _ _ _).nd)) (fun _ _ _ _ _ okB => sq_nil) (fun _ _ _ _ _ okB => (cx_call okB D__law_value G_rec hrec (sa_cons (se_var (i := 0)) (sa_cons (cx_sub okB (se_var (i := 1)) se_int) sa_nil)))) (bk := blkOk_by (N := ["grit", "deep", "way", "part", "pair", "some", "turn"]) (sc := defScope s__law_value) (own := [("turn", 6)]) (by decide +kernel))) (ss_one (ss_ret (se_ifExp (ct_eq ok (cx_call ok D__law_sieve G__law_sieve runL (sa_cons (se_var (i := 0)) (sa_cons se_int sa_nil))) se_int) (se_var (i := 5)) (cx_tuple ok T.b_tuple (sa_cons (se_var (i := 5)) sa_nil)))))) ss_nil) (ss_one (ss_ret (cx_call ok D__law_pick G__law_pick runL (sa_cons (se_var (i := 0)) (sa_cons (se_lst (sa_cons se_non (sa_cons se_bl (sa_cons se_bl (sa_cons se_str (sa_cons se_str (sa_cons se_str (sa_cons (se_tup (sa_cons se_bl (sa_cons se_int sa_nil))) (sa_cons (se_tup (sa_cons se_int (sa_cons se_bl sa_nil))) (sa_cons (se_tup (sa_cons se_int (sa_cons se_non sa_nil))) (sa_cons (se_tup (sa_cons se_str (sa_cons se_int sa_nil))) (sa_cons (se_cut (se_frz se_dict0)) (sa_cons (se_cut (se_frz (se_dict (ks := [(Sum.inl (0 : Int) : Key), (Sum.inl (1 : Int) : Key)]) (sd_cons pe_int se_int (sd_cons pe_int se_int sd_nil))))) (sa_cons (se_lst (sa_cons se_non (sa_cons se_int sa_nil))) sa_nil)))))))))))))) sa_nil)))))))))).cut
theorem gf__law_value {G : Gm} {P : Program} {w : World} {base : Heap} {f : Addr} {fd : FuncData} (T : Bl G) (TB : TabOk G tabL) (D__law_value : Df G "_law_value" s__law_value ["grit", "deep"] f fd) {f__law_sieve : Addr} {fd__law_sieve : FuncData} (D__law_sieve : Df G "_law_sieve" s__law_sieve ["grit", "many"] f__law_sieve fd__law_sieve) (G__law_sieve : GFn G P w base 1 f__law_sieve fd__law_sieve ["grit", "many"] m__law_sieve) {f__law_integer : Addr} {fd__law_integer : FuncData} (D__law_integer : Df G "_law_integer" s__law_integer ["grit"] f__law_integer fd__law_integer) (G__law_integer : GFn G P w base 3 f__law_integer fd__law_integer ["grit"] m__law_integer) {f__law_pick : Addr} {fd__law_pick : FuncData} (D__law_pick : Df G "_law_pick" s__law_pick ["grit", "some"] f__law_pick fd__law_pick) (G__law_pick : GFn G P w base 2 f__law_pick fd__law_pick ["grit", "some"] m__law_pick) : GFn G P w base 7 f fd ["grit", "deep"] m__law_value := gr__law_value T TB D__law_value D__law_sieve G__law_sieve D__law_integer G__law_integer D__law_pick G__law_pick  4
abbrev s_law : Stmt := topS 15
theorem sc_law : FnScope ["script", "grit", "turn", "value", "least", "most", "within", "is_pair", "due", "told", "named", "side"] ["script"] (defScope s_law) := ⟨rfl, rfl, rfl, by decide +kernel, rfl, by decide +kernel, by decide +kernel⟩
theorem gf_law {G : Gm} {P : Program} {w : World} {base : Heap} {f : Addr} {fd : FuncData} (T : Bl G) (TB : TabOk G tabL) (D_law : Df G "law" s_law ["script"] f fd) {f__law_grit : Addr} {fd__law_grit : FuncData} (D__law_grit : Df G "_law_grit" s__law_grit ["script"] f__law_grit fd__law_grit) (G__law_grit : GFn G P w base 1 f__law_grit fd__law_grit ["script"] m__law_grit) {f__law_value : Addr} {fd__law_value : FuncData} (D__law_value : Df G "_law_value" s__law_value ["grit", "deep"] f__law_value fd__law_value) (G__law_value : GFn G P w base 7 f__law_value fd__law_value ["grit", "deep"] m__law_value) {f__law_pick : Addr} {fd__law_pick : FuncData} (D__law_pick : Df G "_law_pick" s__law_pick ["grit", "some"] f__law_pick fd__law_pick) (G__law_pick : GFn G P w base 2 f__law_pick fd__law_pick ["grit", "some"] m__law_pick) {f__law_integer : Addr} {fd__law_integer : FuncData} (D__law_integer : Df G "_law_integer" s__law_integer ["grit"] f__law_integer fd__law_integer) (G__law_integer : GFn G P w base 3 f__law_integer fd__law_integer ["grit"] m__law_integer) {f__law_is_integer : Addr} {fd__law_is_integer : FuncData} (D__law_is_integer : Df G "_law_is_integer" s__law_is_integer ["value"] f__law_is_integer fd__law_is_integer) (G__law_is_integer : GFn G P w base 1 f__law_is_integer fd__law_is_integer ["value"] m__law_is_integer) {f__law_is_number : Addr} {fd__law_is_number : FuncData} (D__law_is_number : Df G "_law_is_number" s__law_is_number ["value"] f__law_is_number fd__law_is_number) (G__law_is_number : GFn G P w base 2 f__law_is_number fd__law_is_number ["value"] m__law_is_number) {f_is_integer : Addr} {fd_is_integer : FuncData} (D_is_integer : Df G "is_integer" s_is_integer ["value"] f_is_integer fd_is_integer) (G_is_integer : GFn G P w base 1 f_is_integer fd_is_integer ["value"] m_is_integer) {f_is_within : Addr} {fd_is_within : FuncData} (D_is_within : Df G "is_within" s_is_within ["value", "least", "most"] f_is_within fd_is_within) (G_is_within : GFn G P w base 2 f_is_within fd_is_within ["value", "least", "most"] m_is_within) {f_is_number : Addr} {fd_is_number : FuncData} (D_is_number : Df G "is_number" s_is_number ["value"] f_is_number fd_is_number) (G_is_number : GFn G P w base 3 f_is_number fd_is_number ["value"] m_is_number) {f_is_spot : Addr} {fd_is_spot : FuncData} (D_is_spot : Df G "is_spot" s_is_spot ["value"] f_is_spot fd_is_spot) (G_is_spot : GFn G P w base 4 f_is_spot fd_is_spot ["value"] m_is_spot) (bk_is_integer_0_value : BdK G.K fd_is_integer ["value"] 0 ["value"] [.kw 0] []) (bk_is_within_0_most_least_value : BdK G.K fd_is_within ["value", "least", "most"] 0 ["most", "least", "value"] [.kw 2, .kw 1, .kw 0] []) (bk_is_number_0_value : BdK G.K fd_is_number ["value"] 0 ["value"] [.kw 0] []) (bk_is_spot_0_value : BdK G.K fd_is_spot ["value"] 0 ["value"] [.kw 0] []) : GFn G P w base 8 f fd ["script"] m_law :=
  (GFn.of_body (k := 7) D_law.fg sc_law fun cdv A outer s H E ok => (ss_cons (ss_set (i := 1) ok.nd (cx_call ok D__law_grit G__law_grit runL (sa_cons (se_var (i := 0)) sa_nil))) (ss_cons (ss_for ok.po ok.calm (si_range1 ok.mg T.b_range (sa_cons se_int sa_nil)) (sg_name (i := 2) ok.nd) (ss_cons (ss_set (i := 3) ok.nd (cx_call ok D__law_value G__law_value runL (sa_cons (se_var (i := 1)) (sa_cons se_int sa_nil)))) (ss_cons (ss_asg (se_cut (se_frz (se_lc (own := [("side", 11)]) ok (si_seq ok.K (se_tup (sa_cons se_int (sa_cons se_int sa_nil)))) (fun _ _ _ _ _ => (so_name (i := 11) (ok.blk _ _ _ _ _).nd)) (fun _ _ _ _ _ okB => sq_nil) (fun _ _ _ _ _ okB => (cx_call okB D__law_pick G__law_pick runL (sa_cons (se_var (i := 1)) (sa_cons (se_lst (sa_cons se_non (sa_cons (cx_call okB D__law_integer G__law_integer runL (sa_cons (se_var (i := 1)) sa_nil)) (sa_cons (se_ifExp (st_truth okB.K (cx_call okB D__law_is_integer G__law_is_integer runL (sa_cons (se_var (i := 3)) sa_nil))) (se_var (i := 3)) se_int) sa_nil)))) sa_nil)))) (bk := blkOk_by (N := ["script", "grit", "turn", "value", "least", "most", "within", "is_pair", "due", "told", "named", "side"]) (sc := defScope s_law) (own := [("side", 11)]) (by decide +kernel))))) (sg_many ok.K ok.calm (sgs_cons (sg_name (i := 4) ok.nd) (sgs_cons (sg_name (i := 5) ok.nd) sgs_nil)))) (ss_cons (ss_set (i := 6) ok.nd (se_and ok.K (cx_call ok D__law_is_integer G__law_is_integer runL (sa_cons (se_var (i := 3)) sa_nil)) (se_and ok.K (se_or ok.K (cx_is ok (se_var (i := 4)) se_non) (se_one (cx_le ok (se_var (i := 4)) (se_var (i := 3))))) (se_one (se_or ok.K (cx_is ok (se_var (i := 5)) se_non) (se_one (cx_le ok (se_var (i := 3)) (se_var (i := 5))))))))) (ss_cons (ss_set (i := 7) ok.nd (se_and ok.K (cx_isi ok TB T.b_isinstance (sa_cons (se_var (i := 3)) (sa_cons (se_tup (sa_cons (cx_ty ok T.b_list) (sa_cons (cx_ty ok T.b_tuple) sa_nil))) sa_nil))) (se_one (cx_eq ok (cx_len ok T.b_len (sa_cons (se_var (i := 3)) sa_nil)) se_int)))) (ss_cons (ss_set (i := 8) ok.nd (se_lst (sa_cons (cx_call ok D__law_is_integer G__law_is_integer runL (sa_cons (se_var (i := 3)) sa_nil)) (sa_cons (se_var (i := 6)) (sa_cons (cx_call ok D__law_is_number G__law_is_number runL (sa_cons (se_var (i := 3)) sa_nil)) (sa_cons (se_and ok.K (se_var (i := 7)) (se_and ok.K (cx_call ok D__law_is_number G__law_is_number runL (sa_cons (se_ix ok.K (se_var (i := 3)) se_int) sa_nil)) (se_one (cx_call ok D__law_is_number G__law_is_number runL (sa_cons (se_ix ok.K (se_var (i := 3)) se_int) sa_nil))))) sa_nil)))))) (ss_cons (ss_set (i := 9) ok.nd (se_lst (sa_cons (cx_call ok D_is_integer G_is_integer runL (sa_cons (se_var (i := 3)) sa_nil)) (sa_cons (cx_call ok D_is_within G_is_within runL (sa_cons (se_var (i := 3)) (sa_cons (se_var (i := 4)) (sa_cons (se_var (i := 5)) sa_nil)))) (sa_cons (cx_call ok D_is_number G_is_number runL (sa_cons (se_var (i := 3)) sa_nil)) (sa_cons (cx_call ok D_is_spot G_is_spot runL (sa_cons (se_var (i := 3)) sa_nil)) sa_nil)))))) (ss_cons (ss_set (i := 10) ok.nd (se_lst (sa_cons (se_callK0 ok G_is_integer (by first | decide | omega) runL D_is_integer.mg D_is_integer.fg.kp dfl_nil bk_is_integer_0_value (sk_cons (se_var (i := 3)) sk_nil)) (sa_cons (se_callK0 ok G_is_within (by first | decide | omega) runL D_is_within.mg D_is_within.fg.kp dfl_nil bk_is_within_0_most_least_value (sk_cons (se_var (i := 5)) (sk_cons (se_var (i := 4)) (sk_cons (se_var (i := 3)) sk_nil)))) (sa_cons (se_callK0 ok G_is_number (by first | decide | omega) runL D_is_number.mg D_is_number.fg.kp dfl_nil bk_is_number_0_value (sk_cons (se_var (i := 3)) sk_nil)) (sa_cons (se_callK0 ok G_is_spot (by first | decide | omega) runL D_is_spot.mg D_is_spot.fg.kp dfl_nil bk_is_spot_0_value (sk_cons (se_var (i := 3)) sk_nil)) sa_nil)))))) (ss_one (ss_if (SW.pt (sw_or (ct_ne ok (cx_repr ok T.b_repr (sa_cons (se_var (i := 9)) sa_nil)) (cx_repr ok T.b_repr (sa_cons (se_var (i := 8)) sa_nil))) (sw_or1 (ct_ne ok (cx_repr ok T.b_repr (sa_cons (se_var (i := 10)) sa_nil)) (cx_repr ok T.b_repr (sa_cons (se_var (i := 8)) sa_nil)))))) (ss_one (ss_ret se_bl)) ss_nil)))))))))) (ss_one (ss_ret se_bl))))).cut
end Z

set_option Elab.async false
set_option linter.all false
set_option maxRecDepth 100000
set_option maxHeartbeats 4000000
set_option autoImplicit false
namespace Z
open PySem PySem.Spec L2

/-! ## k02: what any value is -/
mutual
/-- a value as the law draws them -/
def okD : D → Bool
  | .non => true
  | .bl _ => true
  | .int _ => true
  | .str _ => true
  | .tup l => okDs l
  | .lst l => okDs l
  | .dct _ vs => okDs vs
  | _ => false
def okDs : List D → Bool
  | [] => true
  | d :: ds => okD d && okDs ds
end
mutual
theorem okD_closed : ∀ (d : D) (k : Nat), okD d = true → closed k d = true
  | .non, _, _ => rfl
  | .bl _, _, _ => rfl
  | .int _, _, _ => rfl
  | .str _, _, _ => rfl
  | .tup l, k, h => by simp only [closed]; exact okDs_closed l k (by simpa [okD] using h)
  | .lst l, k, h => by simp only [closed]; exact okDs_closed l k (by simpa [okD] using h)
  | .dct _ l, k, h => by simp only [closed]; exact okDs_closed l k (by simpa [okD] using h)
  | .ty _, _, _ => rfl
  | .cls _, _, _ => rfl
  | .kst _, _, h => by simp [okD] at h
  | .ins _ _ _, _, h => by simp [okD] at h
  | .loc _, _, h => by simp [okD] at h
theorem okDs_closed : ∀ (l : List D) (k : Nat), okDs l = true → closedL k l = true
  | [], _, _ => rfl
  | d :: l, k, h => by
    simp only [okDs, Bool.and_eq_true] at h
    simp only [closedL, okD_closed d k h.1, okDs_closed l k h.2, Bool.and_self]
end
def isI : D → Bool
  | .int _ => true
  | _ => false
@[simp] theorem isI_lst (l : List D) : isI (.lst l) = false := rfl
@[simp] theorem isI_tup (l : List D) : isI (.tup l) = false := rfl
@[simp] theorem isI_int (i : Int) : isI (.int i) = true := rfl
@[simp] theorem isI_non : isI .non = false := rfl
@[simp] theorem isI_bl (i : Bool) : isI (.bl i) = false := rfl
@[simp] theorem isI_str (i : Str) : isI (.str i) = false := rfl
@[simp] theorem isI_dct (i : List Key) (j : List D) : isI (.dct i j) = false := rfl
theorem isInt_ok (d : D) (S : Store) (h : okD d = true) : m_is_integer [d] S = .ok (.bl (isI d)) S := by
  cases d <;> first | (simp [okD] at h; done) | (simp [m_is_integer, b_is_integer, tabL, tab0, tagD, truthD, isI, cut_same])
theorem lisInt_ok (d : D) (S : Store) (h : okD d = true) : m__law_is_integer [d] S = .ok (.bl (isI d)) S := by
  cases d <;> first | (simp [okD] at h; done) | (simp [m__law_is_integer, b__law_is_integer, tabL, tab0, tagD, truthD, isI, cut_same])
/-- two integers' greatest common part -/
theorem whileG (c : MB) (b : MS) (hc : ∀ (x y : Nat) (S : Store), c [some (.int x), some (.int y)] S = .ok (decide ((0 : Int) < (y : Int))) S)
    (hb : ∀ (x y : Nat) (S : Store), 0 < y → b [some (.int x), some (.int y)] S = .nx [some (.int y), some (.int ((x % y : Nat) : Int))] S) :
    ∀ (y x : Nat) (S : Store), ∃ n, whileN c b n [some (.int x), some (.int y)] S = .nx [some (.int (Nat.gcd x y : Nat)), some (.int 0)] S := by
  intro y
  induction y using Nat.strongRecOn with
  | ind y ih =>
    intro x S
    by_cases hy : 0 < y
    · obtain ⟨n, hn⟩ := ih (x % y) (Nat.mod_lt _ hy) y S
      refine ⟨n + 1, ?_⟩
      have hy' : (0 : Int) < (y : Int) := by omega
      simp only [whileN, hc, srRes_ok, decide_eq_true hy', if_true, hb x y S hy, turn_nx, hn]
      rw [show Nat.gcd y (x % y) = Nat.gcd x y by rw [Nat.gcd_comm x y, Nat.gcd_rec y x, Nat.gcd_comm]]
    · have : y = 0 := by omega
      subst this
      have h0 := hc x 0 S
      simp at h0
      refine ⟨1, ?_⟩
      simp [whileN, h0]
theorem abs_nat (i : Int) : (if i < 0 then -i else i) = ((i.natAbs : Nat) : Int) := by
  split <;> omega
theorem common_ok (a b : Int) (S : Store) : m_common [.int a, .int b] S = .ok (.int (Nat.gcd a.natAbs b.natAbs : Nat)) S := by
  have hw : sWhile (mBlT (mBin gtD (mVar 1) (mC (.int 0)))) (sPar 0 1 (mConsL (mVar 1) (mConsL (mBin modD (mVar 0) (mVar 1)) mNilL))) [some (.int (a.natAbs : Nat)), some (.int (b.natAbs : Nat))] S = .nx [some (.int (Nat.gcd a.natAbs b.natAbs : Nat)), some (.int 0)] S := by
    obtain ⟨n, hn⟩ := whileG (mBlT (mBin gtD (mVar 1) (mC (.int 0)))) (sPar 0 1 (mConsL (mVar 1) (mConsL (mBin modD (mVar 0) (mVar 1)) mNilL))) (fun x y S => by simp) (fun x y S hy => by
      have hm : modD (.int x) (.int y) S = .ok (.int ((x % y : Nat) : Int)) S := by
        rw [modD_ok (by omega)]
        rfl
      simp [hm]) b.natAbs a.natAbs S
    exact sWhile_eq hn (by intro z; cases z)
  simp [m_common, b_common, abs_nat, hw, cut_same]
theorem part_ok (a b : Int) (S : Store) : m__law_part [.int a, .int b] S = .ok (.bl (!decide ((Nat.gcd a.natAbs b.natAbs : Nat) = (1 : Int)))) S := by
  have hw : sWhile (mBlT (mBin gtD (mVar 1) (mC (.int 0)))) (sPar 0 1 (mConsL (mVar 1) (mConsL (mBin modD (mCall (f1 intD) (mConsL (mVar 0) mNilL)) (mVar 1)) mNilL))) [some (.int (a.natAbs : Nat)), some (.int (b.natAbs : Nat))] S = .nx [some (.int (Nat.gcd a.natAbs b.natAbs : Nat)), some (.int 0)] S := by
    obtain ⟨n, hn⟩ := whileG (mBlT (mBin gtD (mVar 1) (mC (.int 0)))) (sPar 0 1 (mConsL (mVar 1) (mConsL (mBin modD (mCall (f1 intD) (mConsL (mVar 0) mNilL)) (mVar 1)) mNilL))) (fun x y S => by simp) (fun x y S hy => by
      have hm : modD (.int x) (.int y) S = .ok (.int ((x % y : Nat) : Int)) S := by
        rw [modD_ok (by omega)]
        rfl
      simp [hm]) b.natAbs a.natAbs S
    exact sWhile_eq hn (by intro z; cases z)
  simp [m__law_part, b__law_part, abs_nat, hw, cut_same, neD, eqB, eqScal]
def within (d l m : D) : Bool :=
  match d with
  | .int i => (match l with | .int a => decide (a ≤ i) | _ => true) && (match m with | .int b => decide (i ≤ b) | _ => true)
  | _ => false
def bound : D → Bool
  | .non => true
  | .int _ => true
  | _ => false
theorem within_ok (d l m : D) (S : Store) (h : okD d = true) (hl : bound l = true) (hm : bound m = true) : m_is_within [d, l, m] S = .ok (.bl (within d l m)) S := by
  have h1 := isInt_ok d
  cases hd : isI d with
  | false =>
    have e : within d l m = false := by cases d <;> first | rfl | cases hd
    simp [m_is_within, b_is_within, h1 S h, hd, truthD, e, cut_same]
  | true =>
    cases d <;> first | (cases hd; done) | skip
    rename_i i
    cases l with
    | non =>
      cases m with
      | non => simp [m_is_within, b_is_within, h1 S h, truthD, isD, isNon, within, cut_same]
      | int q => simp [m_is_within, b_is_within, h1 S h, truthD, isD, isNon, within, cut_same]
      | _ => cases hm
    | int p =>
      cases m with
      | non => by_cases hp : p ≤ i <;> simp [m_is_within, b_is_within, h1 S h, truthD, isD, isNon, within, cut_same, hp]
      | int q => by_cases hp : p ≤ i <;> simp [m_is_within, b_is_within, h1 S h, truthD, isD, isNon, within, cut_same, hp]
      | _ => cases hm
    | _ => cases hl
def numB : D → Bool
  | .int _ => true
  | .lst [.int a, .int b] => decide (2 ≤ b) && decide ((Nat.gcd a.natAbs b.natAbs : Nat) = (1 : Int))
  | .tup [.int a, .int b] => decide (2 ≤ b) && decide ((Nat.gcd a.natAbs b.natAbs : Nat) = (1 : Int))
  | _ => false
theorem pair_cases (l : List D) : (∃ a b, l = [a, b]) ∨ l.length ≠ 2 := by
  match l with
  | [] => exact .inr (by simp)
  | [a] => exact .inr (by simp)
  | [a, b] => exact .inl ⟨a, b, rfl⟩
  | a :: b :: c :: r => exact .inr (by simp)
theorem at0 {α : Type} (a b : α) : atI [a, b] 0 = some a := rfl
theorem at1 {α : Type} (a b : α) : atI [a, b] 1 = some b := rfl
theorem numB_ne {l : List D} (h : l.length ≠ 2) : numB (.lst l) = false ∧ numB (.tup l) = false := by
  match l with
  | [] => exact ⟨by simp [numB], by simp [numB]⟩
  | [a] => exact ⟨by simp [numB], by simp [numB]⟩
  | [a, b] => exact absurd rfl h
  | a :: b :: c :: r => exact ⟨by simp [numB], by simp [numB]⟩
theorem numB_no {a b : D} (h : isI a = false ∨ isI b = false) : numB (.lst [a, b]) = false ∧ numB (.tup [a, b]) = false := by
  cases a <;> cases b <;> first | exact ⟨rfl, rfl⟩ | (rcases h with h | h <;> cases h)
theorem int_of {a : D} (h : isI a = true) : ∃ i, a = .int i := by
  cases a <;> first | exact ⟨_, rfl⟩ | cases h
theorem intne (x y : Int) (S : Store) : neD (.int x) (.int y) S = .ok (.bl (!decide (x = y))) S := rfl
theorem inteq (x y : Int) (S : Store) : eqD (.int x) (.int y) S = .ok (.bl (decide (x = y))) S := rfl
theorem isNum_ok (d : D) (S : Store) (h : okD d = true) : m_is_number [d] S = .ok (.bl (numB d)) S := by
  have hi := isInt_ok
  cases d with
  | lst l =>
    have h1 := hi (.lst l) S h
    rcases pair_cases l with ⟨a, b, rfl⟩ | hl
    · simp only [okD, okDs, Bool.and_true, Bool.and_eq_true] at h
      cases ha : isI a with
      | false => simp [m_is_number, b_is_number, h1, truthD, tabL, tab0, tagD, tgsOf, tgOf, anyTab, intne, at0, hi a S h.1, ha, (numB_no (b := b) (.inl ha)).1, cut_same]
      | true =>
        obtain ⟨i, rfl⟩ := int_of ha
        have hw := within_ok b (.int 2) .non S h.2 rfl rfl
        cases hb : isI b with
        | false =>
          have e : within b (.int 2) .non = false := by cases b <;> first | rfl | cases hb
          simp [m_is_number, b_is_number, h1, truthD, tabL, tab0, tagD, tgsOf, tgOf, anyTab, intne, at0, at1, hi (.int i) S rfl, hw, e, (numB_no (a := .int i) (.inr hb)).1, cut_same]
        | true =>
          obtain ⟨j, rfl⟩ := int_of hb
          by_cases hj : 2 ≤ j
          · simp [m_is_number, b_is_number, h1, truthD, tabL, tab0, tagD, tgsOf, tgOf, anyTab, intne, inteq, at0, at1, hi (.int i) S rfl, hw, within, hj, common_ok, numB, cut_same]
          · simp [m_is_number, b_is_number, h1, truthD, tabL, tab0, tagD, tgsOf, tgOf, anyTab, intne, inteq, at0, at1, hi (.int i) S rfl, hw, within, hj, common_ok, numB, cut_same]
    · have hl' : ¬ (l.length : Int) = 2 := by omega
      simp [m_is_number, b_is_number, h1, truthD, tabL, tab0, tagD, tgsOf, tgOf, anyTab, intne, hl', (numB_ne hl).1, cut_same]
  | tup l =>
    have h1 := hi (.tup l) S h
    rcases pair_cases l with ⟨a, b, rfl⟩ | hl
    · simp only [okD, okDs, Bool.and_true, Bool.and_eq_true] at h
      cases ha : isI a with
      | false => simp [m_is_number, b_is_number, h1, truthD, tabL, tab0, tagD, tgsOf, tgOf, anyTab, intne, at0, hi a S h.1, ha, (numB_no (b := b) (.inl ha)).2, cut_same]
      | true =>
        obtain ⟨i, rfl⟩ := int_of ha
        have hw := within_ok b (.int 2) .non S h.2 rfl rfl
        cases hb : isI b with
        | false =>
          have e : within b (.int 2) .non = false := by cases b <;> first | rfl | cases hb
          simp [m_is_number, b_is_number, h1, truthD, tabL, tab0, tagD, tgsOf, tgOf, anyTab, intne, at0, at1, hi (.int i) S rfl, hw, e, (numB_no (a := .int i) (.inr hb)).2, cut_same]
        | true =>
          obtain ⟨j, rfl⟩ := int_of hb
          by_cases hj : 2 ≤ j
          · simp [m_is_number, b_is_number, h1, truthD, tabL, tab0, tagD, tgsOf, tgOf, anyTab, intne, inteq, at0, at1, hi (.int i) S rfl, hw, within, hj, common_ok, numB, cut_same]
          · simp [m_is_number, b_is_number, h1, truthD, tabL, tab0, tagD, tgsOf, tgOf, anyTab, intne, inteq, at0, at1, hi (.int i) S rfl, hw, within, hj, common_ok, numB, cut_same]
    · have hl' : ¬ (l.length : Int) = 2 := by omega
      simp [m_is_number, b_is_number, h1, truthD, tabL, tab0, tagD, tgsOf, tgOf, anyTab, intne, hl', (numB_ne hl).2, cut_same]
  | int i => simp [m_is_number, b_is_number, hi (.int i) S rfl, truthD, numB, cut_same]
  | non => simp [m_is_number, b_is_number, hi .non S rfl, truthD, tabL, tab0, tagD, tgsOf, tgOf, anyTab, numB, cut_same]
  | bl b => simp [m_is_number, b_is_number, hi (.bl b) S rfl, truthD, tabL, tab0, tagD, tgsOf, tgOf, anyTab, numB, cut_same]
  | str b => simp [m_is_number, b_is_number, hi (.str b) S rfl, truthD, tabL, tab0, tagD, tgsOf, tgOf, anyTab, numB, cut_same]
  | dct ks vs => simp [m_is_number, b_is_number, hi (.dct ks vs) S h, truthD, tabL, tab0, tagD, tgsOf, tgOf, anyTab, numB, cut_same]
  | _ => simp [okD] at h
theorem lisNum_ok (d : D) (S : Store) (h : okD d = true) : m__law_is_number [d] S = .ok (.bl (numB d)) S := by
  have hi := lisInt_ok
  cases d with
  | lst l =>
    have h1 := hi (.lst l) S h
    rcases pair_cases l with ⟨a, b, rfl⟩ | hl
    · simp only [okD, okDs, Bool.and_true, Bool.and_eq_true] at h
      cases ha : isI a with
      | false => simp [m__law_is_number, b__law_is_number, h1, truthD, tabL, tab0, tagD, tgsOf, tgOf, anyTab, intne, at0, hi a S h.1, ha, (numB_no (b := b) (.inl ha)).1, cut_same]
      | true =>
        obtain ⟨i, rfl⟩ := int_of ha
        cases hb : isI b with
        | false => simp [m__law_is_number, b__law_is_number, h1, truthD, tabL, tab0, tagD, tgsOf, tgOf, anyTab, intne, at0, at1, hi (.int i) S rfl, hi b S h.2, hb, (numB_no (a := .int i) (.inr hb)).1, cut_same]
        | true =>
          obtain ⟨j, rfl⟩ := int_of hb
          by_cases hj : 2 ≤ j
          · simp [m__law_is_number, b__law_is_number, h1, truthD, tabL, tab0, tagD, tgsOf, tgOf, anyTab, intne, inteq, at0, at1, hi (.int i) S rfl, hi (.int j) S rfl, hj, part_ok, numB, cut_same]
          · simp [m__law_is_number, b__law_is_number, h1, truthD, tabL, tab0, tagD, tgsOf, tgOf, anyTab, intne, inteq, at0, at1, hi (.int i) S rfl, hi (.int j) S rfl, hj, part_ok, numB, cut_same]
    · have hl' : ¬ (l.length : Int) = 2 := by omega
      simp [m__law_is_number, b__law_is_number, h1, truthD, tabL, tab0, tagD, tgsOf, tgOf, anyTab, intne, hl', (numB_ne hl).1, cut_same]
  | tup l =>
    have h1 := hi (.tup l) S h
    rcases pair_cases l with ⟨a, b, rfl⟩ | hl
    · simp only [okD, okDs, Bool.and_true, Bool.and_eq_true] at h
      cases ha : isI a with
      | false => simp [m__law_is_number, b__law_is_number, h1, truthD, tabL, tab0, tagD, tgsOf, tgOf, anyTab, intne, at0, hi a S h.1, ha, (numB_no (b := b) (.inl ha)).2, cut_same]
      | true =>
        obtain ⟨i, rfl⟩ := int_of ha
        cases hb : isI b with
        | false => simp [m__law_is_number, b__law_is_number, h1, truthD, tabL, tab0, tagD, tgsOf, tgOf, anyTab, intne, at0, at1, hi (.int i) S rfl, hi b S h.2, hb, (numB_no (a := .int i) (.inr hb)).2, cut_same]
        | true =>
          obtain ⟨j, rfl⟩ := int_of hb
          by_cases hj : 2 ≤ j
          · simp [m__law_is_number, b__law_is_number, h1, truthD, tabL, tab0, tagD, tgsOf, tgOf, anyTab, intne, inteq, at0, at1, hi (.int i) S rfl, hi (.int j) S rfl, hj, part_ok, numB, cut_same]
          · simp [m__law_is_number, b__law_is_number, h1, truthD, tabL, tab0, tagD, tgsOf, tgOf, anyTab, intne, inteq, at0, at1, hi (.int i) S rfl, hi (.int j) S rfl, hj, part_ok, numB, cut_same]
    · have hl' : ¬ (l.length : Int) = 2 := by omega
      simp [m__law_is_number, b__law_is_number, h1, truthD, tabL, tab0, tagD, tgsOf, tgOf, anyTab, intne, hl', (numB_ne hl).2, cut_same]
  | int i => simp [m__law_is_number, b__law_is_number, hi (.int i) S rfl, truthD, numB, cut_same]
  | non => simp [m__law_is_number, b__law_is_number, hi .non S rfl, truthD, tabL, tab0, tagD, tgsOf, tgOf, anyTab, numB, cut_same]
  | bl b => simp [m__law_is_number, b__law_is_number, hi (.bl b) S rfl, truthD, tabL, tab0, tagD, tgsOf, tgOf, anyTab, numB, cut_same]
  | str b => simp [m__law_is_number, b__law_is_number, hi (.str b) S rfl, truthD, tabL, tab0, tagD, tgsOf, tgOf, anyTab, numB, cut_same]
  | dct ks vs => simp [m__law_is_number, b__law_is_number, hi (.dct ks vs) S h, truthD, tabL, tab0, tagD, tgsOf, tgOf, anyTab, numB, cut_same]
  | _ => simp [okD] at h

def spotB : D → Bool
  | .lst [a, b] => numB a && numB b
  | .tup [a, b] => numB a && numB b
  | _ => false
theorem okDs_mem {l : List D} (h : okDs l = true) : ∀ d ∈ l, okD d = true := by
  induction l with
  | nil => simp
  | cons a l ih =>
    simp only [okDs, Bool.and_eq_true] at h
    intro d hd
    rcases List.mem_cons.mp hd with q | q
    · rw [q]; exact h.1
    · exact ih h.2 d q
theorem bls_map {f : D → Bool} : ∀ l : List D, blsD (l.map fun d => .bl (f d)) = some (l.map f)
  | [] => rfl
  | d :: l => by simp [blsD, bls_map l]
theorem all_map (f : D → Bool) (l : List D) (S : Store) : allD (.lst (l.map fun d => .bl (f d))) S = .ok (.bl ((l.map f).all id)) S := by
  simp [allD, lstD, bls_map]
theorem spot_ne {l : List D} (h : l.length ≠ 2) : spotB (.lst l) = false ∧ spotB (.tup l) = false := by
  match l with
  | [] => exact ⟨by simp [spotB], by simp [spotB]⟩
  | [a] => exact ⟨by simp [spotB], by simp [spotB]⟩
  | [a, b] => exact absurd rfl h
  | a :: b :: c :: r => exact ⟨by simp [spotB], by simp [spotB]⟩
theorem isSpot_ok (d : D) (S : Store) (h : okD d = true) : m_is_spot [d] S = .ok (.bl (spotB d)) S := by
  have hn := isNum_ok
  have hc : ∀ (l : List D) (v : D) (S : Store), stillD v = some l → okDs l = true → l.length = 2 → mCut (mFrz (mComp (mIter (mVar 0)) [1] (gNm 1) mYes (mCall m_is_number (mConsL (mVar 1) mNilL)))) [some v, none] S = .ok (.lst (l.map fun d => .bl (numB d))) S := fun l v S hv hl h2 =>
    comp_pure (by simp [hv]) (by omega) (fun d hd => rfl) fun d hd S => by
      simp [wipeR, hn d S (okDs_mem hl d hd)]
  cases d with
  | lst l =>
    rcases pair_cases l with ⟨a, b, rfl⟩ | hl
    · have h' : okDs [a, b] = true := by simpa [okD] using h
      have e := hc [a, b] (.lst [a, b]) S rfl h' rfl
      simp only [List.map_cons, List.map_nil] at e
      have e2 := all_map numB [a, b] S
      simp only [List.map_cons, List.map_nil] at e2
      simp [m_is_spot, b_is_spot, tabL, tab0, tagD, tgsOf, tgOf, anyTab, truthD, inteq, e, e2, spotB, cut_same]
    · have hl' : ¬ (l.length : Int) = 2 := by omega
      simp [m_is_spot, b_is_spot, tabL, tab0, tagD, tgsOf, tgOf, anyTab, truthD, inteq, hl', (spot_ne hl).1, cut_same]
  | tup l =>
    rcases pair_cases l with ⟨a, b, rfl⟩ | hl
    · have h' : okDs [a, b] = true := by simpa [okD] using h
      have e := hc [a, b] (.tup [a, b]) S rfl h' rfl
      simp only [List.map_cons, List.map_nil] at e
      have e2 := all_map numB [a, b] S
      simp only [List.map_cons, List.map_nil] at e2
      simp [m_is_spot, b_is_spot, tabL, tab0, tagD, tgsOf, tgOf, anyTab, truthD, inteq, e, e2, spotB, cut_same]
    · have hl' : ¬ (l.length : Int) = 2 := by omega
      simp [m_is_spot, b_is_spot, tabL, tab0, tagD, tgsOf, tgOf, anyTab, truthD, inteq, hl', (spot_ne hl).2, cut_same]
  | int i => simp [m_is_spot, b_is_spot, tabL, tab0, tagD, tgsOf, tgOf, anyTab, truthD, spotB, cut_same]
  | non => simp [m_is_spot, b_is_spot, tabL, tab0, tagD, tgsOf, tgOf, anyTab, truthD, spotB, cut_same]
  | bl b => simp [m_is_spot, b_is_spot, tabL, tab0, tagD, tgsOf, tgOf, anyTab, truthD, spotB, cut_same]
  | str b => simp [m_is_spot, b_is_spot, tabL, tab0, tagD, tgsOf, tgOf, anyTab, truthD, spotB, cut_same]
  | dct ks vs => simp [m_is_spot, b_is_spot, tabL, tab0, tagD, tgsOf, tgOf, anyTab, truthD, spotB, cut_same]
  | _ => simp [okD] at h
/-! ### what is drawn -/
theorem small02 : Small 108139 8123 2147483549 85121 2147483579 2147483563 64 := ⟨by decide, by decide, by decide, by decide, by decide, by decide, by decide⟩
theorem sieve_eq : m__law_sieve = cutM (runDef 2 6 (bDrawA 108139 8123 2147483549 85121 2147483579 2147483563 64)) := rfl
theorem sieve {n : Nat} {cells : List Int} {many : Int} (hm : 0 < many) (hm2 : many.natAbs.log2 < 9000) : Draws n cells (2 ^ 20) (fun d => ∃ r, d = .int r ∧ 0 ≤ r ∧ r < many) 1 (m__law_sieve [.loc n, .int many]) := by
  intro S t l hw hn h0 hT
  rw [sieve_eq]
  obtain ⟨r, t', l', e, h1, h2, h3, h4⟩ := drawA small02 hn ⟨h0, by omega⟩ hm hm2
  exact ⟨_, t', l', e, ⟨r, rfl, h1, h2⟩, h3, h4⟩
theorem log_of {many : Int} (h : many.natAbs < 2 ^ 100) : many.natAbs.log2 < 9000 := log_small h (by decide) (by decide)
theorem pick {n : Nat} {cells : List Int} {l : List D} (hne : l ≠ []) (hlen : l.length ≤ 1000) : Draws n cells (2 ^ 20) (fun d => d ∈ l) 1 (m__law_pick [.loc n, .lst l]) := by
  intro S t l0 hw hn h0 hT
  have hpos : 0 < (l.length : Int) := by
    cases l with
    | nil => exact absurd rfl hne
    | cons a b => simp
  obtain ⟨y, t', l', e, ⟨r, rfl, r0, r1⟩, h3, h4⟩ := sieve (n := n) (cells := cells) hpos (log_of (by omega)) S t l0 hw hn h0 hT
  obtain ⟨v, hv, hmem⟩ := atI_of (xs := l) r0 r1
  refine ⟨v, t', l', ?_, hmem, h3, h4⟩
  simp [m__law_pick, b__law_pick, e, hv, cut_len]
theorem powc {a b : Int} (h : 0 ≤ b ∧ b ≤ 1000000 ∧ a.natAbs < 2 ^ 64) (S : Store) : powD (.int a) (.int b) S = .ok (.int (a ^ b.toNat)) S := powD_ok h
theorem integer {n : Nat} {cells : List Int} : Draws n cells (2 ^ 20) (fun d => isI d = true) 2 (m__law_integer [.loc n]) := by
  intro S t l hw hn h0 hT
  obtain ⟨y, t1, l1, e1, p1, a1, a2⟩ := pick (n := n) (cells := cells) (l := [.int 3, .int 7, .int 30, .int (10 ^ 9), .int (10 ^ 25)]) (by simp) (by simp) S t l hw hn h0 (by omega)
  have hw1 : WfS (S.set n (nutE cells t1 l1)) := hw.set (nut_closed _ _ _ _)
  have hn1 := nut_at hn (nutE cells t1 l1)
  have hy : ∃ m : Int, y = .int m ∧ 0 ≤ m ∧ m ≤ 10 ^ 25 := by
    simp only [List.mem_cons, List.not_mem_nil, or_false] at p1
    rcases p1 with rfl | rfl | rfl | rfl | rfl <;> exact ⟨_, rfl, by decide, by decide⟩
  obtain ⟨m, rfl, m0, m1⟩ := hy
  have hm : mulD (.int 2) (.int m) (S.set n (nutE cells t1 l1)) = .ok (.int (2 * m)) _ := mulD_ok (mul_ok (by decide))
  have m2 : m < 2 ^ 90 := Int.lt_of_le_of_lt m1 (by decide)
  obtain ⟨z, t2, l2, e2, ⟨r, rfl, _, _⟩, b1, b2⟩ := sieve (n := n) (cells := cells) (many := 2 * m + 1) (by omega) (log_of (by omega)) _ t1 l1 hw1 hn1 (by omega) (by omega)
  rw [List.set_set] at e2
  refine ⟨.int (r - m), t2, l2, ?_, rfl, by omega, by omega⟩
  have q1 := fun S => powc (a := 10) (b := 9) (by decide) S
  have q2 := fun S => powc (a := 10) (b := 25) (by decide) S
  simp at e1 q1 q2
  simp [m__law_integer, b__law_integer, q1, q2, e1, hm, e2]
  exact cut_len (by simp)
def cst : Nat → Int
  | 0 => 8
  | d + 1 => 8 + 3 * cst d
theorem cst_pos : ∀ d, 8 ≤ cst d
  | 0 => by decide
  | d + 1 => by
    have := cst_pos d
    simp only [cst]
    omega
theorem ev_dict0 (ρ : Env') (S : Store) : mCut (mFrz mDict0) ρ S = .ok (.dct [] []) S := by
  show cut S ((mDict0 ρ S).bind frzD) = _
  have h : (S ++ [Ent.dct [] []])[S.length]? = some (.dct [] []) := by simp
  have h2 : (S ++ [Ent.dct [] []]).set S.length .dead = S ++ [.dead] := by simp
  simp only [mDict0, bind_ok, frzD, h, h2]
  exact cut_app rfl
theorem ev_dict {ks : List Key} {vs : List D} {l : ML} {ρ : Env'} {S : Store} (hl : ∀ S, l ρ S = .ok vs S) (hlen : ks.length = vs.length) (hnd : ks.Nodup) (h15 : ks.length ≤ 15) (hc : closedL S.length vs = true) : mCut (mFrz (mDict ks l)) ρ S = .ok (.dct ks vs) S := by
  show cut S ((mDict ks l ρ S).bind frzD) = _
  have h : (S ++ [Ent.dct [] []])[S.length]? = some (.dct [] []) := by simp
  have h1 : (S ++ [Ent.dct [] []]).set S.length (.dct ks vs) = S ++ [.dct ks vs] := by simp
  have h3 : (S ++ [Ent.dct ks vs])[S.length]? = some (.dct ks vs) := by simp
  have h2 : (S ++ [Ent.dct ks vs]).set S.length .dead = S ++ [.dead] := by simp
  unfold mDict
  rw [hl]
  simp only [bind_ok, dctNew, h]
  rw [if_pos ⟨hlen, hnd, h15⟩]
  simp only [bind_ok, h1, frzD, h3, h2]
  exact cut_app hc
theorem value_row {n : Nat} {cells : List Int} {k d' : Nat} (ih : Draws n cells (2 ^ 20) (fun v => okD v = true) (cst d') (r__law_value k [.loc n, .int d'])) {S S1 : Store} {t t1 l1 way : Int} (hw : WfS S) (hn : S[n]? = some (nutE cells t1 l1) ∨ n < S.length) (h0 : 0 ≤ t) (hT : t + cst (d' + 1) ≤ 2 ^ 20) (hS1 : S1 = S.set n (nutE cells t1 l1)) (hw1 : WfS S1) (hn1 : S1[n]? = some (nutE cells t1 l1)) (hset : ∀ e, S1.set n e = S.set n e)
    (hcut : ∀ v t' l', cut S (.ok v (S.set n (nutE cells t' l'))) = .ok v (S.set n (nutE cells t' l'))) (e1 : m__law_sieve [.loc n, .int 9] S = .ok (.int way) S1) (a1 : t ≤ t1) (a2 : t1 ≤ t + 1) (h2 : ¬ way < 2) (h5 : ¬ way < 5) (hw7 : way < 7) :
    ∃ y t' l', r__law_value (k + 1) [.loc n, .int ((d' + 1 : Nat) : Int)] S = .ok y (S.set n (nutE cells t' l')) ∧ okD y = true ∧ t ≤ t' ∧ t' ≤ t + cst (d' + 1) := by
  have nat : ∀ e : Ent, (S.set n e)[n]? = some e := fun e => List.getElem?_set_self (by
    have := (List.getElem?_eq_some_iff.mp hn1).1
    rw [hS1, List.length_set] at this
    exact this)
  have hce : cst (d' + 1) = 8 + 3 * cst d' := rfl
  have hcp := cst_pos d'
  obtain ⟨v, t2, l2, e2, p2, b1, b2⟩ := pick (n := n) (cells := cells) (l := [.int 2, .int 2, .int 2, .int 1, .int 3, .int 0]) (by simp) (by simp) S1 t1 l1 hw1 hn1 (by omega) (by omega)
  rw [hset] at e2
  have hv : ∃ m : Nat, v = .int m ∧ m ≤ 3 := by
    simp only [List.mem_cons, List.not_mem_nil, or_false] at p2
    rcases p2 with rfl | rfl | rfl | rfl | rfl | rfl
    · exact ⟨2, rfl, by decide⟩
    · exact ⟨2, rfl, by decide⟩
    · exact ⟨2, rfl, by decide⟩
    · exact ⟨1, rfl, by decide⟩
    · exact ⟨3, rfl, by decide⟩
    · exact ⟨0, rfl, by decide⟩
  obtain ⟨m, rfl, m3⟩ := hv
  obtain ⟨S2, hS2⟩ : ∃ S2, S2 = S.set n (nutE cells t2 l2) := ⟨_, rfl⟩
  have hw2 : WfS S2 := by rw [hS2]; exact hw.set (nut_closed _ _ _ _)
  have hn2 : S2[n]? = some (nutE cells t2 l2) := by rw [hS2]; exact nat _
  have hset2 : ∀ e, S2.set n e = S.set n e := fun e => by rw [hS2, List.set_set]
  rw [← hS2] at e2
  obtain ⟨ρ, hρ⟩ : ∃ ρ : Env', ρ = [some (.loc n), some (.int ((d' + 1 : Nat) : Int)), some (.int way), none, none, none, none] := ⟨_, rfl⟩
  have hrl : (rangeL 0 m).length = m := by simp [rangeL]
  obtain ⟨L, hL⟩ : ∃ L : ML, L = mRange1 (mConsL (mCall m__law_pick (mConsL (mVar 0) (mConsL (mLst (mConsL (mC (.int 2)) (mConsL (mC (.int 2)) (mConsL (mC (.int 2)) (mConsL (mC (.int 1)) (mConsL (mC (.int 3)) (mConsL (mC (.int 0)) mNilL))))))) mNilL))) mNilL) := ⟨_, rfl⟩
  have hl1 : L ρ S1 = .ok (rangeL 0 m) S2 := by
    rw [hL]
    exact range1_ok (by simp [hρ, e2]) (by omega)
  have hr1 : ∀ x : D, (wipeR ρ [6]).set 6 (some x) = [some (.loc n), some (.int ((d' + 1 : Nat) : Int)), some (.int way), none, none, none, some x] := fun x => by
    rw [hρ]; rfl
  obtain ⟨ys, t3, l3, e3, len3, p3, c1, c2⟩ := comp_draw (n := n) (i := 6) (cells := cells) (T := 2 ^ 20) (c := cst d') (P := fun v => okD v = true) (l := L) (e := mCall (r__law_value k) (mConsL (mVar 0) (mConsL (mBin subD (mVar 1) (mC (.int 1))) mNilL))) (ρ := ρ) (S0 := S1) (S := S2) (ds := rangeL 0 m) (t := t2) (l0 := l2) (by rw [hS1, hS2]; simp) (by omega) (fun v hv k => okD_closed v k hv) hw2 hn2 (by omega) (by
      rw [hrl]
      have : cst d' * (m : Int) ≤ cst d' * 3 := Int.mul_le_mul_of_nonneg_left (by omega) (by omega)
      omega) hl1 (by rw [hrl]; omega) (fun x hx => by
      intro S t l a b c e
      obtain ⟨y, t', l', f1, f2, f3, f4⟩ := ih S t l a b c e
      refine ⟨y, t', l', ?_, f2, f3, f4⟩
      have hs1 : ((d' + 1 : Nat) : Int) - 1 = (d' : Int) := by omega
      rw [hr1]
      simp only [ev_call, ev_consL, ev_var, ev_bin, ev_c, ev_nilL, List.getElem?_cons_zero, List.getElem?_cons_succ, Option.join_some, resO_some, bind_ok, subD_int, hs1, f1])
  rw [hrl] at c2
  have hm3 : cst d' * (m : Int) ≤ cst d' * 3 := Int.mul_le_mul_of_nonneg_left (by omega) (by omega)
  rw [hset2] at e3
  obtain ⟨S3, hS3⟩ : ∃ S3, S3 = S.set n (nutE cells t3 l3) := ⟨_, rfl⟩
  have hw3 : WfS S3 := by rw [hS3]; exact hw.set (nut_closed _ _ _ _)
  have hn3 : S3[n]? = some (nutE cells t3 l3) := by rw [hS3]; exact nat _
  have hset3 : ∀ e, S3.set n e = S.set n e := fun e => by rw [hS3, List.set_set]
  rw [← hS3] at e3
  obtain ⟨v5, t5, l5, e5, ⟨r, rfl, r0, r1⟩, f1, f2⟩ := sieve (n := n) (cells := cells) (many := 2) (by decide) (by decide) S3 t3 l3 hw3 hn3 (by omega) (by omega)
  rw [hset3] at e5
  have hys : okDs ys = true := by
    clear e3 len3
    induction ys with
    | nil => rfl
    | cons a b ih =>
      simp only [okDs, p3 a List.mem_cons_self, ih fun x hx => p3 x (List.mem_cons_of_mem _ hx), Bool.and_self]
  refine ⟨if r = 0 then .lst ys else .tup ys, t5, l5, ?_, ?_, by omega, by omega⟩
  · rw [hρ, hL] at e3
    have hd1 : (0 : Int) < ((d' + 1 : Nat) : Int) := by omega
    by_cases hr : r = 0
    · simp [r__law_value, b__law_value, e1, h2, h5, hw7] at e3 ⊢
      simp [e3, e5, inteq, hr, hcut]
    · simp [r__law_value, b__law_value, e1, h2, h5, hw7] at e3 ⊢
      simp [e3, e5, inteq, hr, hcut, tupD, itemsD]
  · split <;> exact hys
theorem value {n : Nat} {cells : List Int} (k : Nat) : ∀ d : Nat, d < k → Draws n cells (2 ^ 20) (fun v => okD v = true) (cst d) (r__law_value k [.loc n, .int d]) := by
  induction k with
  | zero => exact fun d h => absurd h (by omega)
  | succ k ih =>
    intro d hd S t l hw hn h0 hT
    have hc := cst_pos d
    obtain ⟨y, t1, l1, e1, ⟨way, rfl, w0, w9⟩, a1, a2⟩ := sieve (n := n) (cells := cells) (many := 9) (by decide) (by decide) S t l hw hn h0 (by omega)
    obtain ⟨S1, hS1⟩ : ∃ S1, S1 = S.set n (nutE cells t1 l1) := ⟨_, rfl⟩
    have hw1 : WfS S1 := by rw [hS1]; exact hw.set (nut_closed _ _ _ _)
    have hn1 : S1[n]? = some (nutE cells t1 l1) := by rw [hS1]; exact nut_at hn _
    have hset : ∀ e, S1.set n e = S.set n e := fun e => by rw [hS1, List.set_set]
    have hcut : ∀ v t' l', cut S (.ok v (S.set n (nutE cells t' l'))) = .ok v (S.set n (nutE cells t' l')) := fun v t' l' => cut_len (by simp)
    rw [← hS1] at e1
    by_cases h2 : way < 2
    · obtain ⟨v, t2, l2, e2, p2, b1, b2⟩ := integer (n := n) (cells := cells) S1 t1 l1 hw1 hn1 (by omega) (by omega)
      rw [hset] at e2
      refine ⟨v, t2, l2, ?_, ?_, by omega, by omega⟩
      · simp [r__law_value, b__law_value, e1, h2, e2, hcut]
      · obtain ⟨i, rfl⟩ := int_of p2
        rfl
    · by_cases h5 : way < 5
      · obtain ⟨v, t2, l2, e2, p2, b1, b2⟩ := pick (n := n) (cells := cells) (l := [.int 1, .int 1, .int 2, .int 3, .int 0, .int (-1)]) (by simp) (by simp) S1 t1 l1 hw1 hn1 (by omega) (by omega)
        rw [hset] at e2
        have hv : ∃ m : Int, v = .int m ∧ -1 ≤ m ∧ m ≤ 3 := by
          simp only [List.mem_cons, List.not_mem_nil, or_false] at p2
          rcases p2 with rfl | rfl | rfl | rfl | rfl | rfl <;> exact ⟨_, rfl, by decide, by decide⟩
        obtain ⟨m, rfl, m0, m1⟩ := hv
        have hmul : ∀ x S, mulD (.int m) (.int x) S = .ok (.int (m * x)) S := fun x S => mulD_ok (mul_ok ⟨by omega, by omega⟩)
        obtain ⟨S2, hS2⟩ : ∃ S2, S2 = S.set n (nutE cells t2 l2) := ⟨_, rfl⟩
        have hw2 : WfS S2 := by rw [hS2]; exact hw.set (nut_closed _ _ _ _)
        have hn2 : S2[n]? = some (nutE cells t2 l2) := by rw [hS2]; exact nut_at hn _
        rw [← hS2] at e2
        obtain ⟨v3, t3, l3, e3, p3, c1, c2⟩ := integer (n := n) (cells := cells) S2 t2 l2 hw2 hn2 (by omega) (by omega)
        obtain ⟨i, rfl⟩ := int_of p3
        have hset2 : ∀ e, S2.set n e = S.set n e := fun e => by rw [hS2, List.set_set]
        rw [hset2] at e3
        obtain ⟨S3, hS3⟩ : ∃ S3, S3 = S.set n (nutE cells t3 l3) := ⟨_, rfl⟩
        have hw3 : WfS S3 := by rw [hS3]; exact hw.set (nut_closed _ _ _ _)
        have hn3 : S3[n]? = some (nutE cells t3 l3) := by rw [hS3]; exact nut_at hn _
        rw [← hS3] at e3
        obtain ⟨v4, t4, l4, e4, p4, d1, d2⟩ := pick (n := n) (cells := cells) (l := [.int 2, .int 3, .int 5, .int 6, .int 7, .int 1, .int 0, .int (-2), .int (10 ^ 12 + 39)]) (by simp) (by simp) S3 t3 l3 hw3 hn3 (by omega) (by omega)
        have hset3 : ∀ e, S3.set n e = S.set n e := fun e => by rw [hS3, List.set_set]
        rw [hset3] at e4
        have hv4 : ∃ j : Int, v4 = .int j := by
          simp only [List.mem_cons, List.not_mem_nil, or_false] at p4
          rcases p4 with rfl | rfl | rfl | rfl | rfl | rfl | rfl | rfl | rfl <;> exact ⟨_, rfl⟩
        obtain ⟨j, rfl⟩ := hv4
        obtain ⟨S4, hS4⟩ : ∃ S4, S4 = S.set n (nutE cells t4 l4) := ⟨_, rfl⟩
        have hw4 : WfS S4 := by rw [hS4]; exact hw.set (nut_closed _ _ _ _)
        have hn4 : S4[n]? = some (nutE cells t4 l4) := by rw [hS4]; exact nut_at hn _
        rw [← hS4] at e4
        obtain ⟨v5, t5, l5, e5, ⟨r, rfl, r0, r1⟩, f1, f2⟩ := sieve (n := n) (cells := cells) (many := 2) (by decide) (by decide) S4 t4 l4 hw4 hn4 (by omega) (by omega)
        have hset4 : ∀ e, S4.set n e = S.set n e := fun e => by rw [hS4, List.set_set]
        rw [hset4] at e5
        have q12 := fun S => powc (a := 10) (b := 12) (by decide) S
        simp at e4 q12
        refine ⟨if r = 0 then .lst [.int (m * i), .int (m * j)] else .tup [.int (m * i), .int (m * j)], t5, l5, ?_, ?_, by omega, by omega⟩
        · by_cases hr : r = 0
          · simp [r__law_value, b__law_value, e1, h2, h5, e2, hmul, e3, q12, e4, e5, inteq, hr, hcut]
          · simp [r__law_value, b__law_value, e1, h2, h5, e2, hmul, e3, q12, e4, e5, inteq, hr, hcut, tupD, itemsD]
        · split <;> rfl
      · have hlast : ∃ v t' l', (mCall m__law_pick (mConsL (mVar 0) (mConsL (mLst (mConsL (mC .non) (mConsL (mC (.bl true)) (mConsL (mC (.bl false)) (mConsL (mC (.str ("7" : Str))) (mConsL (mC (.str ("" : Str))) (mConsL (mC (.str ("7/2" : Str))) (mConsL (mTup (mConsL (mC (.bl true)) (mConsL (mC (.int 2)) mNilL))) (mConsL (mTup (mConsL (mC (.int 1)) (mConsL (mC (.bl true)) mNilL))) (mConsL (mTup (mConsL (mC (.int 1)) (mConsL (mC .non) mNilL))) (mConsL (mTup (mConsL (mC (.str ("1" : Str))) (mConsL (mC (.int 2)) mNilL))) (mConsL (mCut (mFrz mDict0)) (mConsL (mCut (mFrz (mDict [(Sum.inl (0 : Int) : Key), (Sum.inl (1 : Int) : Key)] (mConsL (mC (.int 1)) (mConsL (mC (.int 2)) mNilL))))) (mConsL (mLst (mConsL (mC .non) (mConsL (mC (.int 2)) mNilL))) mNilL)))))))))))))) mNilL))) [some (.loc n), some (.int d), some (.int way), none, none, none, none] S1 = .ok v (S.set n (nutE cells t' l')) ∧ okD v = true ∧ t1 ≤ t' ∧ t' ≤ t1 + 1 := by
          obtain ⟨v, t2, l2, e2, p2, b1, b2⟩ := pick (n := n) (cells := cells) (l := [.non, .bl true, .bl false, .str ("7" : Str), .str ("" : Str), .str ("7/2" : Str), .tup [.bl true, .int 2], .tup [.int 1, .bl true], .tup [.int 1, .non], .tup [.str ("1" : Str), .int 2], .dct [] [], .dct [(Sum.inl (0 : Int) : Key), (Sum.inl (1 : Int) : Key)] [.int 1, .int 2], .lst [.non, .int 2]]) (by simp) (by simp) S1 t1 l1 hw1 hn1 (by omega) (by omega)
          rw [hset] at e2
          refine ⟨v, t2, l2, ?_, ?_, b1, b2⟩
          · have hd0 := fun ρ S => ev_dict0 ρ S
            have hd1 : ∀ ρ S, mCut (mFrz (mDict [(Sum.inl (0 : Int) : Key), (Sum.inl (1 : Int) : Key)] (mConsL (mC (.int 1)) (mConsL (mC (.int 2)) mNilL)))) ρ S = .ok (.dct [(Sum.inl (0 : Int) : Key), (Sum.inl (1 : Int) : Key)] [.int 1, .int 2]) S := fun ρ S => ev_dict (fun S => by simp) rfl (by decide) (by decide) rfl
            simp [hd0, hd1, e2]
          · simp only [List.mem_cons, List.not_mem_nil, or_false] at p2
            rcases p2 with rfl | rfl | rfl | rfl | rfl | rfl | rfl | rfl | rfl | rfl | rfl | rfl | rfl <;> rfl
        obtain ⟨v, t2, l2, e2, p2, b1, b2⟩ := hlast
        obtain ⟨X, hX⟩ : ∃ X : ME, X = (mCall m__law_pick (mConsL (mVar 0) (mConsL (mLst (mConsL (mC .non) (mConsL (mC (.bl true)) (mConsL (mC (.bl false)) (mConsL (mC (.str ("7" : Str))) (mConsL (mC (.str ("" : Str))) (mConsL (mC (.str ("7/2" : Str))) (mConsL (mTup (mConsL (mC (.bl true)) (mConsL (mC (.int 2)) mNilL))) (mConsL (mTup (mConsL (mC (.int 1)) (mConsL (mC (.bl true)) mNilL))) (mConsL (mTup (mConsL (mC (.int 1)) (mConsL (mC .non) mNilL))) (mConsL (mTup (mConsL (mC (.str ("1" : Str))) (mConsL (mC (.int 2)) mNilL))) (mConsL (mCut (mFrz mDict0)) (mConsL (mCut (mFrz (mDict [(Sum.inl (0 : Int) : Key), (Sum.inl (1 : Int) : Key)] (mConsL (mC (.int 1)) (mConsL (mC (.int 2)) mNilL))))) (mConsL (mLst (mConsL (mC .non) (mConsL (mC (.int 2)) mNilL))) mNilL)))))))))))))) mNilL))) := ⟨_, rfl⟩
        rw [← hX] at e2
        by_cases h7 : way < 7 ∧ 0 < d
        · obtain ⟨hw7, hd0⟩ := h7
          obtain ⟨d', rfl⟩ : ∃ d', d = d' + 1 := ⟨d - 1, by omega⟩
          exact value_row (ih d' (by omega)) hw (.inr (List.getElem?_eq_some_iff.mp hn).1) h0 hT hS1 hw1 hn1 hset hcut e1 a1 a2 h2 h5 hw7
        · refine ⟨v, t2, l2, ?_, p2, by omega, by omega⟩
          have h7' : (way < 7 → ¬ (0 < (d : Int))) := fun q z => h7 ⟨q, by omega⟩
          simp only [r__law_value, b__law_value, ← hX]
          by_cases hw7 : way < 7
          · have hd0 : d = 0 := by have := h7' hw7; omega
            subst hd0
            simp at e2
            simp [e1, h2, h5, hw7, e2, hcut]
          · simp [e1, h2, h5, hw7, e2, hcut]
/-! ### the law -/
noncomputable def bElt : ME := (mCall m__law_pick (mConsL (mVar 1) (mConsL (mLst (mConsL (mC .non) (mConsL (mCall m__law_integer (mConsL (mVar 1) mNilL)) (mConsL (mIf (mTst (mCall m__law_is_integer (mConsL (mVar 3) mNilL))) (mVar 3) (mC (.int 0))) mNilL)))) mNilL)))
noncomputable def bBounds : ME := (mCut (mFrz (mComp (mIter (mTup (mConsL (mC (.int 0)) (mConsL (mC (.int 1)) mNilL)))) [11] (gNm 11) mYes bElt)))
noncomputable def eWithin : ME := (mAndV (mCall m__law_is_integer (mConsL (mVar 3) mNilL)) (mAndV (mOrV (mBin isD (mVar 4) (mC .non)) (mBin leD (mVar 4) (mVar 3))) (mOrV (mBin isD (mVar 5) (mC .non)) (mBin leD (mVar 3) (mVar 5)))))
noncomputable def ePair : ME := (mAndV (mCall (isiM tabL) (mConsL (mVar 3) (mConsL (mTup (mConsL (mC (.ty "list")) (mConsL (mC (.ty "tuple")) mNilL))) mNilL))) (mBin eqD (mCall (f1 lenD) (mConsL (mVar 3) mNilL)) (mC (.int 2))))
noncomputable def eSpot : ME := (mAndV (mVar 7) (mAndV (mCall m__law_is_number (mConsL (mBin ixD (mVar 3) (mC (.int 0))) mNilL)) (mCall m__law_is_number (mConsL (mBin ixD (mVar 3) (mC (.int 1))) mNilL))))
noncomputable def bBody : MS := (sSeq (sAsg (mCall m__law_value (mConsL (mVar 1) (mConsL (mC (.int 2)) mNilL))) (gNm 3)) (sSeq (sAsg bBounds (gMany 2 (gsCons (gNm 4) (gsCons (gNm 5) gsNil)))) (sSeq (sAsg eWithin (gNm 6)) (sSeq (sAsg ePair (gNm 7)) (sSeq (sAsg (mLst (mConsL (mCall m__law_is_integer (mConsL (mVar 3) mNilL)) (mConsL (mVar 6) (mConsL (mCall m__law_is_number (mConsL (mVar 3) mNilL)) (mConsL eSpot mNilL))))) (gNm 8)) (sSeq (sAsg (mLst (mConsL (mCall m_is_integer (mConsL (mVar 3) mNilL)) (mConsL (mCall m_is_within (mConsL (mVar 3) (mConsL (mVar 4) (mConsL (mVar 5) mNilL)))) (mConsL (mCall m_is_number (mConsL (mVar 3) mNilL)) (mConsL (mCall m_is_spot (mConsL (mVar 3) mNilL)) mNilL))))) (gNm 9)) (sSeq (sAsg (mLst (mConsL (mCallK m_is_integer 0 1 [.kw 0] [] mNilL (mConsL (mVar 3) mNilL)) (mConsL (mCallK m_is_within 0 3 [.kw 2, .kw 1, .kw 0] [] mNilL (mConsL (mVar 5) (mConsL (mVar 4) (mConsL (mVar 3) mNilL)))) (mConsL (mCallK m_is_number 0 1 [.kw 0] [] mNilL (mConsL (mVar 3) mNilL)) (mConsL (mCallK m_is_spot 0 1 [.kw 0] [] mNilL (mConsL (mVar 3) mNilL)) mNilL))))) (gNm 10)) (sIf (mOrT (mBlT (mBin neD (mCall (f1 reprD) (mConsL (mVar 9) mNilL)) (mCall (f1 reprD) (mConsL (mVar 8) mNilL)))) (mBlT (mBin neD (mCall (f1 reprD) (mConsL (mVar 10) mNilL)) (mCall (f1 reprD) (mConsL (mVar 8) mNilL))))) (sRet (mC (.bl false))) sPass))))))))
theorem law_eq : b_law = (sSeq (sAsg (mCall m__law_grit (mConsL (mVar 0) mNilL)) (gNm 1)) (sSeq (sFor (mRange1 (mConsL (mC (.int 12)) mNilL)) (gNm 2) bBody) (sRet (mC (.bl true))))) := rfl
theorem elt_ok {n : Nat} {cells : List Int} {v x : D} {ρ : Env'} (hv : okD v = true) (h1 : ρ[1]? = some (some (.loc n))) (h3 : ρ[3]? = some (some v)) : Draws n cells (2 ^ 20) (fun d => bound d = true) 3 (bElt ρ) := by
  intro S t l hw hn h0 hT
  obtain ⟨z, t1, l1, e1, p1, a1, a2⟩ := integer (n := n) (cells := cells) S t l hw hn h0 (by omega)
  obtain ⟨i, rfl⟩ := int_of p1
  obtain ⟨S1, hS1⟩ : ∃ S1, S1 = S.set n (nutE cells t1 l1) := ⟨_, rfl⟩
  have hw1 : WfS S1 := by rw [hS1]; exact hw.set (nut_closed _ _ _ _)
  have hn1 : S1[n]? = some (nutE cells t1 l1) := by rw [hS1]; exact nut_at hn _
  have hset : ∀ e, S1.set n e = S.set n e := fun e => by rw [hS1, List.set_set]
  rw [← hS1] at e1
  have hb : bound (if isI v = true then v else .int 0) = true := by
    split
    · rename_i q
      obtain ⟨j, rfl⟩ := int_of q
      rfl
    · rfl
  obtain ⟨y, t2, l2, e2, p2, b1, b2⟩ := pick (n := n) (cells := cells) (l := [.non, .int i, if isI v = true then v else .int 0]) (by simp) (by simp) S1 t1 l1 hw1 hn1 (by omega) (by omega)
  rw [hset] at e2
  refine ⟨y, t2, l2, ?_, ?_, by omega, by omega⟩
  · cases hi : isI v with
    | true =>
      rw [hi] at e2
      simp at e2
      simp [bElt, h1, h3, e1, lisInt_ok v S1 hv, hi, truthD, e2]
    | false =>
      rw [hi] at e2
      simp at e2
      simp [bElt, h1, h3, e1, lisInt_ok v S1 hv, hi, truthD, e2]
  · simp only [List.mem_cons, List.not_mem_nil, or_false] at p2
    rcases p2 with rfl | rfl | rfl
    · rfl
    · rfl
    · exact hb
theorem bound_closed {v : D} (h : bound v = true) (k : Nat) : closed k v = true := by
  cases v <;> first | rfl | cases h
theorem repr4 (a b c d : Bool) : ∃ z, ∀ S, reprD (.lst [.bl a, .bl b, .bl c, .bl d]) S = .ok (.str z) S := by
  refine ⟨(PyData.list [.bool a, .bool b, .bool c, .bool d]).shown, fun S => ?_⟩
  have h : SeqAt.shaped (.list [.bool a, .bool b, .bool c, .bool d]) = true ∧ (PyData.list [.bool a, .bool b, .bool c, .bool d]).showable = true ∧ (PyData.list [.bool a, .bool b, .bool c, .bool d]).shown.length ≤ sizeLine := by
    cases a <;> cases b <;> cases c <;> cases d <;> exact ⟨by decide +kernel, by decide +kernel, by decide +kernel⟩
  have e : toPS S (.lst [.bl a, .bl b, .bl c, .bl d]) = some (.list [.bool a, .bool b, .bool c, .bool d]) := by
    simp [toPS, lstD, toPs, toP]
  unfold reprD
  rw [e]
  exact if_pos h
def pairB : D → Bool
  | .lst [_, _] => true
  | .tup [_, _] => true
  | _ => false
theorem strne (z : Str) (S : Store) : neD (.str z) (.str z) S = .ok (.bl false) S := by
  simp [neD, eqB, eqScal]
theorem eWithin_ok {v lo hi : D} {ρ : Env'} (hv : okD v = true) (hl : bound lo = true) (hh : bound hi = true) (h3 : ρ[3]? = some (some v)) (h4 : ρ[4]? = some (some lo)) (h5 : ρ[5]? = some (some hi)) (S : Store) : eWithin ρ S = .ok (.bl (within v lo hi)) S := by
  have h1 := lisInt_ok v S hv
  cases hd : isI v with
  | false =>
    have e : within v lo hi = false := by cases v <;> first | rfl | cases hd
    simp [eWithin, h3, h1, hd, truthD, e]
  | true =>
    obtain ⟨i, rfl⟩ := int_of hd
    cases lo with
    | non =>
      cases hi with
      | non => simp [eWithin, h3, h4, h5, h1, truthD, isD, isNon, within]
      | int q => simp [eWithin, h3, h4, h5, h1, truthD, isD, isNon, within]
      | _ => cases hh
    | int p =>
      cases hi with
      | non => by_cases hp : p ≤ i <;> simp [eWithin, h3, h4, h5, h1, truthD, isD, isNon, within, hp]
      | int q => by_cases hp : p ≤ i <;> simp [eWithin, h3, h4, h5, h1, truthD, isD, isNon, within, hp]
      | _ => cases hh
    | _ => cases hl
theorem pairB_ne {l : List D} (h : l.length ≠ 2) : pairB (.lst l) = false ∧ pairB (.tup l) = false := by
  match l with
  | [] => exact ⟨by simp [pairB], by simp [pairB]⟩
  | [a] => exact ⟨by simp [pairB], by simp [pairB]⟩
  | [a, b] => exact absurd rfl h
  | a :: b :: c :: r => exact ⟨by simp [pairB], by simp [pairB]⟩
theorem ePair_ok {v : D} {ρ : Env'} (hv : okD v = true) (h3 : ρ[3]? = some (some v)) (S : Store) : ePair ρ S = .ok (.bl (pairB v)) S := by
  cases v with
  | lst l =>
    rcases pair_cases l with ⟨a, b, rfl⟩ | hl
    · simp [ePair, h3, tabL, tab0, tagD, tgsOf, tgOf, anyTab, truthD, inteq, pairB]
    · have hl' : ¬ (l.length : Int) = 2 := by omega
      simp [ePair, h3, tabL, tab0, tagD, tgsOf, tgOf, anyTab, truthD, inteq, hl', (pairB_ne hl).1]
  | tup l =>
    rcases pair_cases l with ⟨a, b, rfl⟩ | hl
    · simp [ePair, h3, tabL, tab0, tagD, tgsOf, tgOf, anyTab, truthD, inteq, pairB]
    · have hl' : ¬ (l.length : Int) = 2 := by omega
      simp [ePair, h3, tabL, tab0, tagD, tgsOf, tgOf, anyTab, truthD, inteq, hl', (pairB_ne hl).2]
  | int i => simp [ePair, h3, tabL, tab0, tagD, tgsOf, tgOf, anyTab, truthD, pairB]
  | non => simp [ePair, h3, tabL, tab0, tagD, tgsOf, tgOf, anyTab, truthD, pairB]
  | bl b => simp [ePair, h3, tabL, tab0, tagD, tgsOf, tgOf, anyTab, truthD, pairB]
  | str b => simp [ePair, h3, tabL, tab0, tagD, tgsOf, tgOf, anyTab, truthD, pairB]
  | dct ks vs => simp [ePair, h3, tabL, tab0, tagD, tgsOf, tgOf, anyTab, truthD, pairB]
  | _ => simp [okD] at hv
theorem eSpot_ok {v : D} {ρ : Env'} (hv : okD v = true) (h3 : ρ[3]? = some (some v)) (h7 : ρ[7]? = some (some (.bl (pairB v)))) (S : Store) : eSpot ρ S = .ok (.bl (spotB v)) S := by
  cases v with
  | lst l =>
    rcases pair_cases l with ⟨a, b, rfl⟩ | hl
    · simp only [okD, okDs, Bool.and_true, Bool.and_eq_true] at hv
      cases ha : numB a <;> simp [eSpot, h3, h7, pairB, truthD, at0, at1, lisNum_ok a S hv.1, lisNum_ok b S hv.2, ha, spotB]
    · rw [(pairB_ne hl).1] at h7
      simp [eSpot, h3, h7, truthD, (spot_ne hl).1]
  | tup l =>
    rcases pair_cases l with ⟨a, b, rfl⟩ | hl
    · simp only [okD, okDs, Bool.and_true, Bool.and_eq_true] at hv
      cases ha : numB a <;> simp [eSpot, h3, h7, pairB, truthD, at0, at1, lisNum_ok a S hv.1, lisNum_ok b S hv.2, ha, spotB]
    · rw [(pairB_ne hl).2] at h7
      simp [eSpot, h3, h7, truthD, (spot_ne hl).2]
  | int i => simp [eSpot, h3, h7, pairB, truthD, spotB]
  | non => simp [eSpot, h3, h7, pairB, truthD, spotB]
  | bl b => simp [eSpot, h3, h7, pairB, truthD, spotB]
  | str b => simp [eSpot, h3, h7, pairB, truthD, spotB]
  | dct ks vs => simp [eSpot, h3, h7, pairB, truthD, spotB]
  | _ => simp [okD] at hv
theorem body_ok {cells : List Int} {t l : Int} {c x2 x3 x4 x5 x6 x7 x8 x9 x10 x11 : Option D} (h0 : 0 ≤ t) (hT : t + 200 ≤ 2 ^ 20) :
    ∃ y2 y3 y4 y5 y6 y7 y8 y9 y10 y11 t' l', bBody [c, some (.loc 0), x2, x3, x4, x5, x6, x7, x8, x9, x10, x11] [nutE cells t l] = .nx [c, some (.loc 0), y2, y3, y4, y5, y6, y7, y8, y9, y10, y11] [nutE cells t' l'] ∧ t ≤ t' ∧ t' ≤ t + 200 := by
  have hw : WfS [nutE cells t l] := fun e he => by rw [List.mem_singleton.mp he]; exact nut_closed _ _ _ _
  have hcst : cst 2 = 104 := rfl
  obtain ⟨v, t1, l1, e1, hv, a1, a2⟩ := value (n := 0) (cells := cells) 4 2 (by omega) [nutE cells t l] t l hw rfl h0 (by omega)
  have e1' : m__law_value [.loc 0, .int 2] [nutE cells t l] = .ok v [nutE cells t1 l1] := e1
  have hw1 : WfS [nutE cells t1 l1] := fun e he => by rw [List.mem_singleton.mp he]; exact nut_closed _ _ _ _
  obtain ⟨ys, t2, l2, e2, len, p, b1, b2⟩ := comp_draw (n := 0) (i := 11) (cells := cells) (T := 2 ^ 20) (c := 3) (P := fun d => bound d = true) (l := mIter (mTup (mConsL (mC (.int 0)) (mConsL (mC (.int 1)) mNilL)))) (e := bElt) (ρ := [c, some (.loc 0), x2, some v, x4, x5, x6, x7, x8, x9, x10, x11]) (S0 := [nutE cells t1 l1]) (S := [nutE cells t1 l1]) (ds := [.int 0, .int 1]) (t := t1) (l0 := l1) rfl (by decide) (fun d h k => bound_closed h k) hw1 rfl (by omega) (by
      show t1 + 3 * 2 ≤ _
      omega) (by simp [stillD]) (by simp) (fun d hd => by
      rcases List.mem_cons.mp hd with rfl | hd
      · exact elt_ok (x := v) hv rfl rfl
      · rw [List.mem_singleton.mp hd]
        exact elt_ok (x := v) hv rfl rfl)
  have e2' : bBounds [c, some (.loc 0), x2, some v, x4, x5, x6, x7, x8, x9, x10, x11] [nutE cells t1 l1] = .ok (.lst ys) [nutE cells t2 l2] := e2
  have b2' : t2 ≤ t1 + 6 := b2
  obtain ⟨lo, hi, rfl⟩ : ∃ lo hi, ys = [lo, hi] := by
    match ys, len with
    | [a, b], _ => exact ⟨a, b, rfl⟩
  have hlo : bound lo = true := p lo (by simp)
  have hhi : bound hi = true := p hi (by simp)
  obtain ⟨z, hz⟩ := repr4 (isI v) (within v lo hi) (numB v) (spotB v)
  have w1 := lisInt_ok v [nutE cells t2 l2] hv
  have w2 := isInt_ok v [nutE cells t2 l2] hv
  have w3 := lisNum_ok v [nutE cells t2 l2] hv
  have w4 := isNum_ok v [nutE cells t2 l2] hv
  have w5 := within_ok v lo hi [nutE cells t2 l2] hv hlo hhi
  have w6 := isSpot_ok v [nutE cells t2 l2] hv
  refine ⟨x2, some v, some lo, some hi, some (.bl (within v lo hi)), some (.bl (pairB v)), some (.lst [.bl (isI v), .bl (within v lo hi), .bl (numB v), .bl (spotB v)]), some (.lst [.bl (isI v), .bl (within v lo hi), .bl (numB v), .bl (spotB v)]), some (.lst [.bl (isI v), .bl (within v lo hi), .bl (numB v), .bl (spotB v)]), x11, t2, l2, ?_, by omega, by omega⟩
  simp only [bBody, es_seq, es_asg, ev_call, ev_consL, ev_var, ev_c, ev_nilL, List.getElem?_cons_zero, List.getElem?_cons_succ, Option.join_some, resO_some, bind_ok, e1', srRes_ok, eg_nm, srGo_some, seq_nx, List.set_cons_zero, List.set_cons_succ, e2', eg_many, itemsD, List.length_cons, List.length_nil, if_true, eg_cons, eg_nil, Option.bind_some]
  simp [eWithin_ok hv hlo hhi, ePair_ok hv, eSpot_ok hv, w1, w2, w3, w4, w5, w6, fill, hz, strne]
theorem loop_ok {cells : List Int} {c : Option D} : ∀ (ds : List D) (t l : Int) (x2 x3 x4 x5 x6 x7 x8 x9 x10 x11 : Option D), 0 ≤ t → t + 200 * ds.length ≤ 2 ^ 20 →
    ∃ ρ' S', forL (gNm 2) bBody ds [c, some (.loc 0), x2, x3, x4, x5, x6, x7, x8, x9, x10, x11] [nutE cells t l] = .nx ρ' S'
  | [], t, l, x2, x3, x4, x5, x6, x7, x8, x9, x10, x11, h0, hT => ⟨_, _, rfl⟩
  | d :: ds, t, l, x2, x3, x4, x5, x6, x7, x8, x9, x10, x11, h0, hT => by
    have hlen : ((d :: ds).length : Int) = ds.length + 1 := by simp
    rw [hlen] at hT
    obtain ⟨y2, y3, y4, y5, y6, y7, y8, y9, y10, y11, t', l', e, a, b⟩ := body_ok (cells := cells) (t := t) (l := l) (c := c) (x2 := some d) (x3 := x3) (x4 := x4) (x5 := x5) (x6 := x6) (x7 := x7) (x8 := x8) (x9 := x9) (x10 := x10) (x11 := x11) h0 (by omega)
    obtain ⟨ρ', S', e2⟩ := loop_ok (cells := cells) (c := c) ds t' l' y2 y3 y4 y5 y6 y7 y8 y9 y10 y11 (by omega) (by omega)
    refine ⟨ρ', S', ?_⟩
    simp only [forL, eg_nm, List.set_cons_zero, List.set_cons_succ, srGo_some, seq_nx, e, turn_nx, e2]
theorem grit_eq : m__law_grit = cutM (runDef 1 2 (bMake 59)) := rfl
theorem law_holds : LawHolds 63 m_law := by
  intro ns hns
  have hg : m__law_grit [.kst (ns.map D.int)] [] = .ok (.loc 0) [nutE (ns.take 59) 0 0] := by
    rw [grit_eq]
    exact make_ok (k := 59) hns
  obtain ⟨ρ', S', e⟩ := loop_ok (cells := ns.take 59) (c := some (.kst (ns.map D.int))) (rangeL 0 12) 0 0 none none none none none none none none none none (by decide) (by decide)
  have hr : ∀ ρ S, mRange1 (mConsL (mC (.int 12)) mNilL) ρ S = .ok (rangeL 0 12) S := fun ρ S => range1_ok (m := 12) rfl (by decide)
  have hb : b_law [some (.kst (ns.map D.int)), none, none, none, none, none, none, none, none, none, none, none] [] = .rt (.bl true) S' := by
    rw [law_eq]
    simp only [es_seq, es_asg, ev_call, ev_consL, ev_var, ev_c, ev_nilL, List.getElem?_cons_zero, Option.join_some, resO_some, bind_ok, hg, srRes_ok, eg_nm, srGo_some, seq_nx, List.set_cons_zero, List.set_cons_succ, es_for, hr, e, es_ret]
  have hc : m_law [.kst (ns.map D.int)] [] = cut [] (.ok (.bl true) S') := by
    show cut [] (runDef 1 12 b_law [.kst (ns.map D.int)] []) = _
    have : runDef 1 12 b_law [.kst (ns.map D.int)] [] = .ok (.bl true) S' := by
      rw [run_def]
      simp only [List.length_cons, List.length_nil, List.map_cons, List.map_nil, List.cons_append, List.nil_append, if_true]
      show (match b_law [some (.kst (ns.map D.int)), none, none, none, none, none, none, none, none, none, none, none] [] with
        | .nx _ S' => Res.ok D.non S'
        | .rt d S' => .ok d S'
        | .ex _ c ks vs S' => .ex c ks vs S'
        | _ => .bad) = _
      rw [hb]
    rw [this]
  have hz := cut_app (S := []) (g := S') (d := .bl true) rfl
  rw [List.nil_append] at hz
  rw [hc, hz]
  exact ⟨_, rfl⟩
end Z

set_option Elab.async false
set_option maxRecDepth 100000
set_option maxHeartbeats 4000000
namespace Z
open PySem PySem.Spec L2
theorem all_mk {l : PySem.W.OpenLaw} {w : World} {K : PySem.W.Frag} {h : Heap} {mg : Str → Option Value} {fa : Addr} (X : K.In h) (N : h.Ns mainGlobals mg) (hfa : mg "law" = some (.ref fa))
    {f_is_integer f_is_within f_common f_is_number f_is_spot f__law_grit f__law_sieve f__law_pick f__law_part f__law_is_integer f__law_is_number f__law_integer f__law_value f_law : Addr} {od_is_integer an_is_integer od_is_within an_is_within od_common an_common od_is_number an_is_number od_is_spot an_is_spot od__law_grit an__law_grit od__law_sieve an__law_sieve od__law_pick an__law_pick od__law_part an__law_part od__law_is_integer an__law_is_integer od__law_is_number an__law_is_number od__law_integer an__law_integer od__law_value an__law_value od_law an_law : Option Addr} {sl_is_integer sl_is_within sl_common sl_is_number sl_is_spot sl__law_grit sl__law_sieve sl__law_pick sl__law_part sl__law_is_integer sl__law_is_number sl__law_integer sl__law_value sl_law : Array (Option Value)} {oc_is_integer kV_is_integer dc_is_integer pm_is_integer cd_is_integer ct_is_integer oc_is_within kV_is_within dc_is_within pm_is_within cd_is_within ct_is_within oc_common kV_common dc_common pm_common cd_common ct_common oc_is_number kV_is_number dc_is_number pm_is_number cd_is_number ct_is_number oc_is_spot kV_is_spot dc_is_spot pm_is_spot cd_is_spot ct_is_spot oc__law_grit kV__law_grit dc__law_grit pm__law_grit cd__law_grit ct__law_grit oc__law_sieve kV__law_sieve dc__law_sieve pm__law_sieve cd__law_sieve ct__law_sieve oc__law_pick kV__law_pick dc__law_pick pm__law_pick cd__law_pick ct__law_pick oc__law_part kV__law_part dc__law_part pm__law_part cd__law_part ct__law_part oc__law_is_integer kV__law_is_integer dc__law_is_integer pm__law_is_integer cd__law_is_integer ct__law_is_integer oc__law_is_number kV__law_is_number dc__law_is_number pm__law_is_number cd__law_is_number ct__law_is_number oc__law_integer kV__law_integer dc__law_integer pm__law_integer cd__law_integer ct__law_integer oc__law_value kV__law_value dc__law_value pm__law_value cd__law_value ct__law_value oc_law kV_law dc_law pm_law cd_law ct_law : Value}
    (a_is_integer : PySem.W.nsIn K mainGlobals "is_integer" = some (some (.ref f_is_integer))) (l_is_integer : K.lookup f_is_integer = some ⟨oc_is_integer, od_is_integer, .func (PySem.W.fnOf "is_integer" "is_integer" (defArgs s_is_integer) (defBody s_is_integer) (defScope s_is_integer) .none kV_is_integer dc_is_integer pm_is_integer an_is_integer cd_is_integer ct_is_integer), sl_is_integer⟩) (c_is_integer : PySem.W.codeIn K cd_is_integer "is_integer" = true) (k_is_integer : PySem.W.keepIn K (.ref f_is_integer) = true)
    (a_is_within : PySem.W.nsIn K mainGlobals "is_within" = some (some (.ref f_is_within))) (l_is_within : K.lookup f_is_within = some ⟨oc_is_within, od_is_within, .func (PySem.W.fnOf "is_within" "is_within" (defArgs s_is_within) (defBody s_is_within) (defScope s_is_within) .none kV_is_within dc_is_within pm_is_within an_is_within cd_is_within ct_is_within), sl_is_within⟩) (c_is_within : PySem.W.codeIn K cd_is_within "is_within" = true) (k_is_within : PySem.W.keepIn K (.ref f_is_within) = true)
    (a_common : PySem.W.nsIn K mainGlobals "common" = some (some (.ref f_common))) (l_common : K.lookup f_common = some ⟨oc_common, od_common, .func (PySem.W.fnOf "common" "common" (defArgs s_common) (defBody s_common) (defScope s_common) .none kV_common dc_common pm_common an_common cd_common ct_common), sl_common⟩) (c_common : PySem.W.codeIn K cd_common "common" = true) (k_common : PySem.W.keepIn K (.ref f_common) = true)
    (a_is_number : PySem.W.nsIn K mainGlobals "is_number" = some (some (.ref f_is_number))) (l_is_number : K.lookup f_is_number = some ⟨oc_is_number, od_is_number, .func (PySem.W.fnOf "is_number" "is_number" (defArgs s_is_number) (defBody s_is_number) (defScope s_is_number) .none kV_is_number dc_is_number pm_is_number an_is_number cd_is_number ct_is_number), sl_is_number⟩) (c_is_number : PySem.W.codeIn K cd_is_number "is_number" = true) (k_is_number : PySem.W.keepIn K (.ref f_is_number) = true)
    (a_is_spot : PySem.W.nsIn K mainGlobals "is_spot" = some (some (.ref f_is_spot))) (l_is_spot : K.lookup f_is_spot = some ⟨oc_is_spot, od_is_spot, .func (PySem.W.fnOf "is_spot" "is_spot" (defArgs s_is_spot) (defBody s_is_spot) (defScope s_is_spot) .none kV_is_spot dc_is_spot pm_is_spot an_is_spot cd_is_spot ct_is_spot), sl_is_spot⟩) (c_is_spot : PySem.W.codeIn K cd_is_spot "is_spot" = true) (k_is_spot : PySem.W.keepIn K (.ref f_is_spot) = true)
    (a__law_grit : PySem.W.nsIn K mainGlobals "_law_grit" = some (some (.ref f__law_grit))) (l__law_grit : K.lookup f__law_grit = some ⟨oc__law_grit, od__law_grit, .func (PySem.W.fnOf "_law_grit" "_law_grit" (defArgs s__law_grit) (defBody s__law_grit) (defScope s__law_grit) .none kV__law_grit dc__law_grit pm__law_grit an__law_grit cd__law_grit ct__law_grit), sl__law_grit⟩) (c__law_grit : PySem.W.codeIn K cd__law_grit "_law_grit" = true) (k__law_grit : PySem.W.keepIn K (.ref f__law_grit) = true)
    (a__law_sieve : PySem.W.nsIn K mainGlobals "_law_sieve" = some (some (.ref f__law_sieve))) (l__law_sieve : K.lookup f__law_sieve = some ⟨oc__law_sieve, od__law_sieve, .func (PySem.W.fnOf "_law_sieve" "_law_sieve" (defArgs s__law_sieve) (defBody s__law_sieve) (defScope s__law_sieve) .none kV__law_sieve dc__law_sieve pm__law_sieve an__law_sieve cd__law_sieve ct__law_sieve), sl__law_sieve⟩) (c__law_sieve : PySem.W.codeIn K cd__law_sieve "_law_sieve" = true) (k__law_sieve : PySem.W.keepIn K (.ref f__law_sieve) = true)
    (a__law_pick : PySem.W.nsIn K mainGlobals "_law_pick" = some (some (.ref f__law_pick))) (l__law_pick : K.lookup f__law_pick = some ⟨oc__law_pick, od__law_pick, .func (PySem.W.fnOf "_law_pick" "_law_pick" (defArgs s__law_pick) (defBody s__law_pick) (defScope s__law_pick) .none kV__law_pick dc__law_pick pm__law_pick an__law_pick cd__law_pick ct__law_pick), sl__law_pick⟩) (c__law_pick : PySem.W.codeIn K cd__law_pick "_law_pick" = true) (k__law_pick : PySem.W.keepIn K (.ref f__law_pick) = true)
    (a__law_part : PySem.W.nsIn K mainGlobals "_law_part" = some (some (.ref f__law_part))) (l__law_part : K.lookup f__law_part = some ⟨oc__law_part, od__law_part, .func (PySem.W.fnOf "_law_part" "_law_part" (defArgs s__law_part) (defBody s__law_part) (defScope s__law_part) .none kV__law_part dc__law_part pm__law_part an__law_part cd__law_part ct__law_part), sl__law_part⟩) (c__law_part : PySem.W.codeIn K cd__law_part "_law_part" = true) (k__law_part : PySem.W.keepIn K (.ref f__law_part) = true)
    (a__law_is_integer : PySem.W.nsIn K mainGlobals "_law_is_integer" = some (some (.ref f__law_is_integer))) (l__law_is_integer : K.lookup f__law_is_integer = some ⟨oc__law_is_integer, od__law_is_integer, .func (PySem.W.fnOf "_law_is_integer" "_law_is_integer" (defArgs s__law_is_integer) (defBody s__law_is_integer) (defScope s__law_is_integer) .none kV__law_is_integer dc__law_is_integer pm__law_is_integer an__law_is_integer cd__law_is_integer ct__law_is_integer), sl__law_is_integer⟩) (c__law_is_integer : PySem.W.codeIn K cd__law_is_integer "_law_is_integer" = true) (k__law_is_integer : PySem.W.keepIn K (.ref f__law_is_integer) = true)
    (a__law_is_number : PySem.W.nsIn K mainGlobals "_law_is_number" = some (some (.ref f__law_is_number))) (l__law_is_number : K.lookup f__law_is_number = some ⟨oc__law_is_number, od__law_is_number, .func (PySem.W.fnOf "_law_is_number" "_law_is_number" (defArgs s__law_is_number) (defBody s__law_is_number) (defScope s__law_is_number) .none kV__law_is_number dc__law_is_number pm__law_is_number an__law_is_number cd__law_is_number ct__law_is_number), sl__law_is_number⟩) (c__law_is_number : PySem.W.codeIn K cd__law_is_number "_law_is_number" = true) (k__law_is_number : PySem.W.keepIn K (.ref f__law_is_number) = true)
    (a__law_integer : PySem.W.nsIn K mainGlobals "_law_integer" = some (some (.ref f__law_integer))) (l__law_integer : K.lookup f__law_integer = some ⟨oc__law_integer, od__law_integer, .func (PySem.W.fnOf "_law_integer" "_law_integer" (defArgs s__law_integer) (defBody s__law_integer) (defScope s__law_integer) .none kV__law_integer dc__law_integer pm__law_integer an__law_integer cd__law_integer ct__law_integer), sl__law_integer⟩) (c__law_integer : PySem.W.codeIn K cd__law_integer "_law_integer" = true) (k__law_integer : PySem.W.keepIn K (.ref f__law_integer) = true)
    (a__law_value : PySem.W.nsIn K mainGlobals "_law_value" = some (some (.ref f__law_value))) (l__law_value : K.lookup f__law_value = some ⟨oc__law_value, od__law_value, .func (PySem.W.fnOf "_law_value" "_law_value" (defArgs s__law_value) (defBody s__law_value) (defScope s__law_value) .none kV__law_value dc__law_value pm__law_value an__law_value cd__law_value ct__law_value), sl__law_value⟩) (c__law_value : PySem.W.codeIn K cd__law_value "_law_value" = true) (k__law_value : PySem.W.keepIn K (.ref f__law_value) = true)
    (a_law : PySem.W.nsIn K mainGlobals "law" = some (some (.ref f_law))) (l_law : K.lookup f_law = some ⟨oc_law, od_law, .func (PySem.W.fnOf "law" "law" (defArgs s_law) (defBody s_law) (defScope s_law) .none kV_law dc_law pm_law an_law cd_law ct_law), sl_law⟩) (c_law : PySem.W.codeIn K cd_law "law" = true) (k_law : PySem.W.keepIn K (.ref f_law) = true)
    (z_abs : PySem.W.nsIn K mainGlobals "abs" = some none)
    (z_all : PySem.W.nsIn K mainGlobals "all" = some none)
    (z_bool : PySem.W.nsIn K mainGlobals "bool" = some none)
    (z_int : PySem.W.nsIn K mainGlobals "int" = some none)
    (z_isinstance : PySem.W.nsIn K mainGlobals "isinstance" = some none)
    (z_len : PySem.W.nsIn K mainGlobals "len" = some none)
    (z_list : PySem.W.nsIn K mainGlobals "list" = some none)
    (z_range : PySem.W.nsIn K mainGlobals "range" = some none)
    (z_repr : PySem.W.nsIn K mainGlobals "repr" = some none)
    (z_tuple : PySem.W.nsIn K mainGlobals "tuple" = some none) :
    ∃ (cl : Nat → Addr) (fd : FuncData), (∀ (s : Shared) (v : Value), BindsTo s fd ⟨[v], []⟩ [("script", v)]) ∧ ∀ base : Heap, K.In base → base.Ns mainGlobals mg → GFn ⟨K, mg, cl⟩ l.prog w base 8 fa fd ["script"] m_law := by
  have e := hfa.symm.trans (PySem.W.mg_of X N a_law)
  cases e
  have T : Bl ⟨K, mg, fun _ => 0⟩ := ⟨PySem.W.mg_none_of X N z_abs, PySem.W.mg_none_of X N z_all, PySem.W.mg_none_of X N z_bool, PySem.W.mg_none_of X N z_int, PySem.W.mg_none_of X N z_isinstance, PySem.W.mg_none_of X N z_len, PySem.W.mg_none_of X N z_list, PySem.W.mg_none_of X N z_range, PySem.W.mg_none_of X N z_repr, PySem.W.mg_none_of X N z_tuple⟩
  have F_is_integer := funG_mk (st := s_is_integer) l_is_integer c_is_integer k_is_integer
  have D_is_integer : Df ⟨K, mg, fun _ => 0⟩ "is_integer" s_is_integer ["value"] f_is_integer _ := ⟨F_is_integer, PySem.W.mg_of X N a_is_integer, bdP_mk fun us hl => match us, hl with | [_], _ => rfl⟩
  have F_is_within := funG_mk (st := s_is_within) l_is_within c_is_within k_is_within
  have D_is_within : Df ⟨K, mg, fun _ => 0⟩ "is_within" s_is_within ["value", "least", "most"] f_is_within _ := ⟨F_is_within, PySem.W.mg_of X N a_is_within, bdP_mk fun us hl => match us, hl with | [_, _, _], _ => rfl⟩
  have F_common := funG_mk (st := s_common) l_common c_common k_common
  have D_common : Df ⟨K, mg, fun _ => 0⟩ "common" s_common ["one", "other"] f_common _ := ⟨F_common, PySem.W.mg_of X N a_common, bdP_mk fun us hl => match us, hl with | [_, _], _ => rfl⟩
  have F_is_number := funG_mk (st := s_is_number) l_is_number c_is_number k_is_number
  have D_is_number : Df ⟨K, mg, fun _ => 0⟩ "is_number" s_is_number ["value"] f_is_number _ := ⟨F_is_number, PySem.W.mg_of X N a_is_number, bdP_mk fun us hl => match us, hl with | [_], _ => rfl⟩
  have F_is_spot := funG_mk (st := s_is_spot) l_is_spot c_is_spot k_is_spot
  have D_is_spot : Df ⟨K, mg, fun _ => 0⟩ "is_spot" s_is_spot ["value"] f_is_spot _ := ⟨F_is_spot, PySem.W.mg_of X N a_is_spot, bdP_mk fun us hl => match us, hl with | [_], _ => rfl⟩
  have F__law_grit := funG_mk (st := s__law_grit) l__law_grit c__law_grit k__law_grit
  have D__law_grit : Df ⟨K, mg, fun _ => 0⟩ "_law_grit" s__law_grit ["script"] f__law_grit _ := ⟨F__law_grit, PySem.W.mg_of X N a__law_grit, bdP_mk fun us hl => match us, hl with | [_], _ => rfl⟩
  have F__law_sieve := funG_mk (st := s__law_sieve) l__law_sieve c__law_sieve k__law_sieve
  have D__law_sieve : Df ⟨K, mg, fun _ => 0⟩ "_law_sieve" s__law_sieve ["grit", "many"] f__law_sieve _ := ⟨F__law_sieve, PySem.W.mg_of X N a__law_sieve, bdP_mk fun us hl => match us, hl with | [_, _], _ => rfl⟩
  have F__law_pick := funG_mk (st := s__law_pick) l__law_pick c__law_pick k__law_pick
  have D__law_pick : Df ⟨K, mg, fun _ => 0⟩ "_law_pick" s__law_pick ["grit", "some"] f__law_pick _ := ⟨F__law_pick, PySem.W.mg_of X N a__law_pick, bdP_mk fun us hl => match us, hl with | [_, _], _ => rfl⟩
  have F__law_part := funG_mk (st := s__law_part) l__law_part c__law_part k__law_part
  have D__law_part : Df ⟨K, mg, fun _ => 0⟩ "_law_part" s__law_part ["one", "other"] f__law_part _ := ⟨F__law_part, PySem.W.mg_of X N a__law_part, bdP_mk fun us hl => match us, hl with | [_, _], _ => rfl⟩
  have F__law_is_integer := funG_mk (st := s__law_is_integer) l__law_is_integer c__law_is_integer k__law_is_integer
  have D__law_is_integer : Df ⟨K, mg, fun _ => 0⟩ "_law_is_integer" s__law_is_integer ["value"] f__law_is_integer _ := ⟨F__law_is_integer, PySem.W.mg_of X N a__law_is_integer, bdP_mk fun us hl => match us, hl with | [_], _ => rfl⟩
  have F__law_is_number := funG_mk (st := s__law_is_number) l__law_is_number c__law_is_number k__law_is_number
  have D__law_is_number : Df ⟨K, mg, fun _ => 0⟩ "_law_is_number" s__law_is_number ["value"] f__law_is_number _ := ⟨F__law_is_number, PySem.W.mg_of X N a__law_is_number, bdP_mk fun us hl => match us, hl with | [_], _ => rfl⟩
  have F__law_integer := funG_mk (st := s__law_integer) l__law_integer c__law_integer k__law_integer
  have D__law_integer : Df ⟨K, mg, fun _ => 0⟩ "_law_integer" s__law_integer ["grit"] f__law_integer _ := ⟨F__law_integer, PySem.W.mg_of X N a__law_integer, bdP_mk fun us hl => match us, hl with | [_], _ => rfl⟩
  have F__law_value := funG_mk (st := s__law_value) l__law_value c__law_value k__law_value
  have D__law_value : Df ⟨K, mg, fun _ => 0⟩ "_law_value" s__law_value ["grit", "deep"] f__law_value _ := ⟨F__law_value, PySem.W.mg_of X N a__law_value, bdP_mk fun us hl => match us, hl with | [_, _], _ => rfl⟩
  have F_law := funG_mk (st := s_law) l_law c_law k_law
  have D_law : Df ⟨K, mg, fun _ => 0⟩ "law" s_law ["script"] fa _ := ⟨F_law, PySem.W.mg_of X N a_law, bdP_mk fun us hl => match us, hl with | [_], _ => rfl⟩
  have bk_is_integer_0_value := bdK_mk F_is_integer (ps := ["value"]) (n := 0) (ks := ["value"]) (src := [.kw 0]) fun us ws r h1 h2 h3 => match us, ws, h1, h2, h3 with | [], [_], _, _, h3 => by cases h3; rfl
  have bk_is_within_0_most_least_value := bdK_mk F_is_within (ps := ["value", "least", "most"]) (n := 0) (ks := ["most", "least", "value"]) (src := [.kw 2, .kw 1, .kw 0]) fun us ws r h1 h2 h3 => match us, ws, h1, h2, h3 with | [], [_, _, _], _, _, h3 => by cases h3; rfl
  have bk_is_number_0_value := bdK_mk F_is_number (ps := ["value"]) (n := 0) (ks := ["value"]) (src := [.kw 0]) fun us ws r h1 h2 h3 => match us, ws, h1, h2, h3 with | [], [_], _, _, h3 => by cases h3; rfl
  have bk_is_spot_0_value := bdK_mk F_is_spot (ps := ["value"]) (n := 0) (ks := ["value"]) (src := [.kw 0]) fun us ws r h1 h2 h3 => match us, ws, h1, h2, h3 with | [], [_], _, _, h3 => by cases h3; rfl
  refine ⟨fun _ => 0, PySem.W.fnOf "law" "law" (defArgs s_law) (defBody s_law) (defScope s_law) .none kV_law dc_law pm_law an_law cd_law ct_law, fun s v => .of_eq rfl, fun base _ _ => ?_⟩
  have G_is_integer := gf_is_integer (P := l.prog) (w := w) (base := base) T tabL_ok D_is_integer  
  have G_is_within := gf_is_within (P := l.prog) (w := w) (base := base) T tabL_ok D_is_within D_is_integer G_is_integer 
  have G_common := gf_common (P := l.prog) (w := w) (base := base) T tabL_ok D_common  
  have G_is_number := gf_is_number (P := l.prog) (w := w) (base := base) T tabL_ok D_is_number D_is_integer G_is_integer D_is_within G_is_within D_common G_common 
  have G_is_spot := gf_is_spot (P := l.prog) (w := w) (base := base) T tabL_ok D_is_spot D_is_number G_is_number 
  have G__law_grit := gf__law_grit (P := l.prog) (w := w) (base := base) T tabL_ok D__law_grit  
  have G__law_sieve := gf__law_sieve (P := l.prog) (w := w) (base := base) T tabL_ok D__law_sieve  
  have G__law_pick := gf__law_pick (P := l.prog) (w := w) (base := base) T tabL_ok D__law_pick D__law_sieve G__law_sieve 
  have G__law_part := gf__law_part (P := l.prog) (w := w) (base := base) T tabL_ok D__law_part  
  have G__law_is_integer := gf__law_is_integer (P := l.prog) (w := w) (base := base) T tabL_ok D__law_is_integer  
  have G__law_is_number := gf__law_is_number (P := l.prog) (w := w) (base := base) T tabL_ok D__law_is_number D__law_is_integer G__law_is_integer D__law_part G__law_part 
  have G__law_integer := gf__law_integer (P := l.prog) (w := w) (base := base) T tabL_ok D__law_integer D__law_pick G__law_pick D__law_sieve G__law_sieve 
  have G__law_value := gf__law_value (P := l.prog) (w := w) (base := base) T tabL_ok D__law_value D__law_sieve G__law_sieve D__law_integer G__law_integer D__law_pick G__law_pick 
  have G_law := gf_law (P := l.prog) (w := w) (base := base) T tabL_ok D_law D__law_grit G__law_grit D__law_value G__law_value D__law_pick G__law_pick D__law_integer G__law_integer D__law_is_integer G__law_is_integer D__law_is_number G__law_is_number D_is_integer G_is_integer D_is_within G_is_within D_is_number G_is_number D_is_spot G_is_spot bk_is_integer_0_value bk_is_within_0_most_least_value bk_is_number_0_value bk_is_spot_0_value
  exact G_law
end Z
open PySem PySem.W PyProof.Rows
set_option maxRecDepth 100000 in
set_option maxHeartbeats 0 in
theorem PySem.Challenge.cw_lanecross_k02_integers_numbers_spots_jud_holds : PySem.Challenge.rw_lanecross_k02_integers_numbers_spots_jud.Holds := by
  w_on; o_law; k_head; (case hw => w_witness2)
  k_fill
  refine Z.walk_G (l := PySem.Challenge.rw_lanecross_k02_integers_numbers_spots_jud) (n := 63) (k := 8) (x := "script") (mf := Z.m_law) rfl (by decide) rfl ⟨rfl, by decide, by decide⟩ (fun w h Y => PySem.W.kIn_of Y) ?F Z.law_holds
  case F =>
    intro w mg fa h KX G hmg
    refine' Z.all_mk (l := PySem.Challenge.rw_lanecross_k02_integers_numbers_spots_jud) KX G hmg ?a_is_integer ?l_is_integer ?c_is_integer ?k_is_integer ?a_is_within ?l_is_within ?c_is_within ?k_is_within ?a_common ?l_common ?c_common ?k_common ?a_is_number ?l_is_number ?c_is_number ?k_is_number ?a_is_spot ?l_is_spot ?c_is_spot ?k_is_spot ?a__law_grit ?l__law_grit ?c__law_grit ?k__law_grit ?a__law_sieve ?l__law_sieve ?c__law_sieve ?k__law_sieve ?a__law_pick ?l__law_pick ?c__law_pick ?k__law_pick ?a__law_part ?l__law_part ?c__law_part ?k__law_part ?a__law_is_integer ?l__law_is_integer ?c__law_is_integer ?k__law_is_integer ?a__law_is_number ?l__law_is_number ?c__law_is_number ?k__law_is_number ?a__law_integer ?l__law_integer ?c__law_integer ?k__law_integer ?a__law_value ?l__law_value ?c__law_value ?k__law_value ?a_law ?l_law ?c_law ?k_law ?z_abs ?z_all ?z_bool ?z_int ?z_isinstance ?z_len ?z_list ?z_range ?z_repr ?z_tuple
    (case a_is_integer => k_is)
    (case l_is_integer => k_is)
    (case c_is_integer => k_is)
    (case k_is_integer => k_is)
    (case a_is_within => k_is)
    (case l_is_within => k_is)
    (case c_is_within => k_is)
    (case k_is_within => k_is)
    (case a_common => k_is)
    (case l_common => k_is)
    (case c_common => k_is)
    (case k_common => k_is)
    (case a_is_number => k_is)
    (case l_is_number => k_is)
    (case c_is_number => k_is)
    (case k_is_number => k_is)
    (case a_is_spot => k_is)
    (case l_is_spot => k_is)
    (case c_is_spot => k_is)
    (case k_is_spot => k_is)
    (case a__law_grit => k_is)
    (case l__law_grit => k_is)
    (case c__law_grit => k_is)
    (case k__law_grit => k_is)
    (case a__law_sieve => k_is)
    (case l__law_sieve => k_is)
    (case c__law_sieve => k_is)
    (case k__law_sieve => k_is)
    (case a__law_pick => k_is)
    (case l__law_pick => k_is)
    (case c__law_pick => k_is)
    (case k__law_pick => k_is)
    (case a__law_part => k_is)
    (case l__law_part => k_is)
    (case c__law_part => k_is)
    (case k__law_part => k_is)
    (case a__law_is_integer => k_is)
    (case l__law_is_integer => k_is)
    (case c__law_is_integer => k_is)
    (case k__law_is_integer => k_is)
    (case a__law_is_number => k_is)
    (case l__law_is_number => k_is)
    (case c__law_is_number => k_is)
    (case k__law_is_number => k_is)
    (case a__law_integer => k_is)
    (case l__law_integer => k_is)
    (case c__law_integer => k_is)
    (case k__law_integer => k_is)
    (case a__law_value => k_is)
    (case l__law_value => k_is)
    (case c__law_value => k_is)
    (case k__law_value => k_is)
    (case a_law => k_is)
    (case l_law => k_is)
    (case c_law => k_is)
    (case k_law => k_is)
    (case z_abs => k_is)
    (case z_all => k_is)
    (case z_bool => k_is)
    (case z_int => k_is)
    (case z_isinstance => k_is)
    (case z_len => k_is)
    (case z_list => k_is)
    (case z_range => k_is)
    (case z_repr => k_is)
    (case z_tuple => k_is)

