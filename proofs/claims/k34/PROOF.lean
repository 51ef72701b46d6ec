import PyProof.Rows.All
import Wide.All
import OpenK.AllK
import Wide.FinOn
import HandS.ForMost
import HandS.Exc
import HandS.Lambda
import HandS.TupAny
import HandS.Flow
import HandS.Conv
import HandS.Wide
import HandS.Gcd
import HandS.TryOnly
import HandS.Small
import HandS.Style
import HandS.Comp
import HandS.List
import HandS.Dict
import HandS.IsInst
import HandS.Codes
import HandS.Deep
import HandS.RaiseMore
import HandS.CallSlots
import HandS.WordsExc
import HandS.Defaults
import KE.KExcSuper
import HandS.ExcInit
import HandS.Nested
import HandS.TryMany
import HandS.ExcField
import PyProof.Rows.NestShow
import HandS.Iter
import KE.GoesMore
import KE.GoesEnum
import KE.KOpsOwn
import HandS.HeadWalk
import HandS.WideBits
import HandS.SortOrd
import HandS.SortRule
import HandS.SortInts
import HandS.TupSets
import KE.KMathG
import HandS.EndTab
import HandS.Words
import HandS.HeadHook4
import HandS.Head2
import HandS.Head3
import PySem.Challenge.RW_chordsums_k34_whole_points_ahead_and_bef
set_option Elab.async false
set_option linter.all false
set_option maxRecDepth 100000
namespace Ev
open PySem PySem.Spec L2
/-! ### data -/
inductive D where
  | non | bl (b : Bool) | int (i : Int) | str (x : Str)
  | tup (xs : List D) | lst (xs : List D) | scr (xs : List D)
  | obj (c : Nat) (fs : List (Nat × D))
  | fn (i : Nat) | cls (c : Nat) | ty (n : String)
  | lam (id : Nat) | lams (ids : List Nat) | clo (id : Nat) (caps : List D) | ref (i : Nat)
/-- a function made by the run: it stands in no row -/
def D.isFun : D → Bool
  | .lam _ | .lams _ | .clo _ _ => true
  | _ => false
inductive Cell where
  | lst (xs : List D) | fls (xs : List D) | dct (kvs : List (Key × D)) | ins (c : Nat) (fs : List (Nat × D)) | tbl (i : Nat)
abbrev Store := List Cell
abbrev Env := List (Option D)
inductive Ou (α : Type) where
  | ok (a : α) (st : Store) | exc (c : Nat) (fs : List (Nat × D)) (st : Store) | stuck
abbrev Oe := Ou D
/-- where the program's things stand -/
structure Tb where
  K : PySem.W.Frag
  cls : Nat → Option Addr
  fn : Nat → Option Addr
  att : Nat → Option Str
  tab : Nat → Option (Addr × Str)
  lam : Hp → D → V → Prop
  lamUp : ∀ (F G : Hp) (d : D) (v : V), (∀ a o, F a = some o → G a = some o) → lam F d v → lam G d v
mutual
inductive Rp (T : Tb) (F : Hp) : D → V → Prop
  | non : Rp T F .non .non
  | bl (b : Bool) : Rp T F (.bl b) (.bl b)
  | int (i : Int) : Rp T F (.int i) (.int i)
  | str (x : Str) : Rp T F (.str x) (.str x)
  | ty (n : String) : Rp T F (.ty n) (.ty n)
  | tup {a : Addr} {vs : List V} {xs : List D} : SqT T.K F a vs → Rps T F xs vs → Rp T F (.tup xs) (.ref a)
  | lst {a : Addr} {vs : List V} {xs : List D} : F a = some (.lst vs) → Rps T F xs vs → Rp T F (.lst xs) (.ref a)
  | scr {a : Addr} {vs : List V} {xs : List D} : SqL T.K F a vs → Rps T F xs vs → Rp T F (.scr xs) (.ref a)
  | obj {a C dx : Addr} {fvs : List (Str × V)} {c : Nat} {fs : List (Nat × D)} : T.cls c = some C → F a = some (.ins C dx fvs) → Rpf T F fs fvs → Rp T F (.obj c fs) (.ref a)
  | fn {i : Nat} {a : Addr} : T.fn i = some a → Rp T F (.fn i) (.ref a)
  | cls {c : Nat} {a : Addr} : T.cls c = some a → Rp T F (.cls c) (.ref a)
inductive Rps (T : Tb) (F : Hp) : List D → List V → Prop
  | nil : Rps T F [] []
  | cons {d : D} {v : V} {ds : List D} {vs : List V} : Rp T F d v → Rps T F ds vs → Rps T F (d :: ds) (v :: vs)
inductive Rpf (T : Tb) (F : Hp) : List (Nat × D) → List (Str × V) → Prop
  | nil : Rpf T F [] []
  | cons {f : Nat} {x : Str} {d : D} {v : V} {fs : List (Nat × D)} {fvs : List (Str × V)} : T.att f = some x → Rp T F d v → Rpf T F fs fvs → Rpf T F ((f, d) :: fs) ((x, v) :: fvs)
end
/-- an extension of a heap -/
def Sub (F H : Hp) : Prop := ∀ a o, F a = some o → H a = some o
theorem Sub.rfl' (F : Hp) : Sub F F := fun _ _ h => h
theorem Sub.tr {F G H : Hp} (a : Sub F G) (b : Sub G H) : Sub F H := fun x o h => b x o (a x o h)
theorem Sub.sqt {K : PySem.W.Frag} {F H : Hp} {a : Addr} {vs : List V} (e : Sub F H) (h : SqT K F a vs) : SqT K H a vs := by
  rcases h with (h | ⟨o, h⟩) | h
  · exact .inl (.inl (e _ _ h))
  · exact .inl (.inr ⟨o, e _ _ h⟩)
  · exact .inr h
theorem Sub.sql {K : PySem.W.Frag} {F H : Hp} {a : Addr} {vs : List V} (e : Sub F H) (h : SqL K F a vs) : SqL K H a vs := by
  rcases h with (h | ⟨o, h⟩) | h
  · exact .inl (.inl (e _ _ h))
  · exact .inl (.inr ⟨o, e _ _ h⟩)
  · exact .inr h
theorem Sub.new {H : Hp} {p : Addr} {o : HO} (h : H p = none) : Sub H (upd H p o) := fun a u e => by
  rw [upd_ne (ne_of_none e h)]
  exact e
mutual
theorem Rp.up {T : Tb} {F G : Hp} (e : Sub F G) : ∀ {d : D} {v : V}, Rp T F d v → Rp T G d v
  | _, _, .non => .non
  | _, _, .bl b => .bl b
  | _, _, .int i => .int i
  | _, _, .str x => .str x
  | _, _, .ty n => .ty n
  | _, _, .tup h r => .tup (e.sqt h) (Rps.up e r)
  | _, _, .lst h r => .lst (e _ _ h) (Rps.up e r)
  | _, _, .scr h r => .scr (e.sql h) (Rps.up e r)
  | _, _, .obj h1 h2 r => .obj h1 (e _ _ h2) (Rpf.up e r)
  | _, _, .fn h => .fn h
  | _, _, .cls h => .cls h
theorem Rps.up {T : Tb} {F G : Hp} (e : Sub F G) : ∀ {ds : List D} {vs : List V}, Rps T F ds vs → Rps T G ds vs
  | _, _, .nil => .nil
  | _, _, .cons h r => .cons (Rp.up e h) (Rps.up e r)
theorem Rpf.up {T : Tb} {F G : Hp} (e : Sub F G) : ∀ {fs : List (Nat × D)} {vs : List (Str × V)}, Rpf T F fs vs → Rpf T G fs vs
  | _, _, .nil => .nil
  | _, _, .cons h1 h r => .cons h1 (Rp.up e h) (Rpf.up e r)
end
theorem Rps.len {T : Tb} {F : Hp} : ∀ {ds : List D} {vs : List V}, Rps T F ds vs → ds.length = vs.length
  | _, _, .nil => rfl
  | _, _, .cons _ r => by simp [Rps.len r]
theorem Rps.get {T : Tb} {F : Hp} : ∀ {ds : List D} {vs : List V} {i : Nat} {d : D}, Rps T F ds vs → ds[i]? = some d → ∃ v, vs[i]? = some v ∧ Rp T F d v
  | _, _, _, _, .nil, h => by simp at h
  | _, _, 0, _, .cons h _, e => by simp at e; subst e; exact ⟨_, by simp, h⟩
  | _, _, i + 1, _, .cons _ r, e => by
    obtain ⟨v, h1, h2⟩ := Rps.get (i := i) r (by simpa using e)
    exact ⟨v, by simpa using h1, h2⟩
theorem Rps.get' {T : Tb} {F : Hp} : ∀ {ds : List D} {vs : List V} {i : Nat} {v : V}, Rps T F ds vs → vs[i]? = some v → ∃ d, ds[i]? = some d ∧ Rp T F d v
  | _, _, _, _, .nil, h => by simp at h
  | _, _, 0, _, .cons h _, e => by simp at e; subst e; exact ⟨_, by simp, h⟩
  | _, _, i + 1, _, .cons _ r, e => by
    obtain ⟨v, h1, h2⟩ := Rps.get' (i := i) r (by simpa using e)
    exact ⟨v, by simpa using h1, h2⟩
theorem Rps.app {T : Tb} {F : Hp} : ∀ {ds es : List D} {vs us : List V}, Rps T F ds vs → Rps T F es us → Rps T F (ds ++ es) (vs ++ us)
  | _, _, _, _, .nil, s => s
  | _, _, _, _, .cons h r, s => .cons h (Rps.app r s)
theorem Rps.take {T : Tb} {F : Hp} : ∀ {ds : List D} {vs : List V} (n : Nat), Rps T F ds vs → Rps T F (ds.take n) (vs.take n)
  | _, _, 0, _ => .nil
  | _, _, _ + 1, .nil => .nil
  | _, _, n + 1, .cons h r => .cons h (Rps.take n r)
theorem Rps.drop {T : Tb} {F : Hp} : ∀ {ds : List D} {vs : List V} (n : Nat), Rps T F ds vs → Rps T F (ds.drop n) (vs.drop n)
  | _, _, 0, r => r
  | _, _, _ + 1, .nil => .nil
  | _, _, n + 1, .cons _ r => Rps.drop n r
theorem Rps.set {T : Tb} {F : Hp} {d : D} {v : V} (h : Rp T F d v) : ∀ {ds : List D} {vs : List V} (n : Nat), Rps T F ds vs → Rps T F (ds.set n d) (vs.set n v)
  | _, _, _, .nil => .nil
  | _, _, 0, .cons _ r => .cons h r
  | _, _, n + 1, .cons q r => .cons q (Rps.set h n r)
/-- a field by its name -/
def getF (f : Nat) : List (Nat × D) → Option D
  | [] => none
  | (g, d) :: r => if g = f then some d else getF f r
/-- a field stored -/
def setF (f : Nat) (d : D) : List (Nat × D) → List (Nat × D)
  | [] => [(f, d)]
  | (g, e) :: r => if g = f then (g, d) :: r else (g, e) :: setF f d r
/-! ### worlds -/
structure Wd where
  F : Hp
  ρ : List Addr
structure Le (w u : Wd) : Prop where
  F : Sub w.F u.F
  ρ : ∃ s, u.ρ = w.ρ ++ s
theorem Le.rfl' (w : Wd) : Le w w := ⟨Sub.rfl' _, [], by simp⟩
theorem Le.tr {w u x : Wd} (a : Le w u) (b : Le u x) : Le w x := by
  obtain ⟨s, h1⟩ := a.ρ
  obtain ⟨t, h2⟩ := b.ρ
  exact ⟨a.F.tr b.F, s ++ t, by rw [h2, h1, List.append_assoc]⟩
theorem Le.at {w u : Wd} (l : Le w u) {i : Nat} {a : Addr} (h : w.ρ[i]? = some a) : u.ρ[i]? = some a := by
  obtain ⟨s, e⟩ := l.ρ
  rw [e, List.getElem?_append_left (List.getElem?_eq_some_iff.mp h).1]
  exact h
inductive Rv (T : Tb) (w : Wd) : D → V → Prop
  | d {d : D} {v : V} : Rp T w.F d v → Rv T w d v
  | ref {i : Nat} {a : Addr} : w.ρ[i]? = some a → Rv T w (.ref i) (.ref a)
  | fun_ {d : D} {v : V} : d.isFun = true → T.lam w.F d v → Rv T w d v
theorem Rv.up {T : Tb} {w u : Wd} (l : Le w u) {d : D} {v : V} : Rv T w d v → Rv T u d v
  | .d h => .d (h.up l.F)
  | .ref h => .ref (l.at h)
  | .fun_ h1 h2 => .fun_ h1 (T.lamUp _ _ _ _ l.F h2)
inductive Rvs (T : Tb) (w : Wd) : List D → List V → Prop
  | nil : Rvs T w [] []
  | cons {d : D} {v : V} {ds : List D} {vs : List V} : Rv T w d v → Rvs T w ds vs → Rvs T w (d :: ds) (v :: vs)
theorem Rvs.up {T : Tb} {w u : Wd} (l : Le w u) : ∀ {ds : List D} {vs : List V}, Rvs T w ds vs → Rvs T u ds vs
  | _, _, .nil => .nil
  | _, _, .cons h r => .cons (h.up l) (Rvs.up l r)
theorem Rvs.len {T : Tb} {w : Wd} : ∀ {ds : List D} {vs : List V}, Rvs T w ds vs → ds.length = vs.length
  | _, _, .nil => rfl
  | _, _, .cons _ r => by simp [Rvs.len r]
theorem Rvs.app {T : Tb} {w : Wd} : ∀ {ds es : List D} {vs us : List V}, Rvs T w ds vs → Rvs T w es us → Rvs T w (ds ++ es) (vs ++ us)
  | _, _, _, _, .nil, s => s
  | _, _, _, _, .cons h r, s => .cons h (Rvs.app r s)
theorem Rvs.get {T : Tb} {w : Wd} : ∀ {ds : List D} {vs : List V} {i : Nat} {d : D}, Rvs T w ds vs → ds[i]? = some d → ∃ v, vs[i]? = some v ∧ Rv T w d v
  | _, _, _, _, .nil, h => by simp at h
  | _, _, 0, _, .cons h _, e => by simp at e; subst e; exact ⟨_, by simp, h⟩
  | _, _, i + 1, _, .cons _ r, e => by
    obtain ⟨v, h1, h2⟩ := Rvs.get (i := i) r (by simpa using e)
    exact ⟨v, by simpa using h1, h2⟩
def CellOk (T : Tb) (F H : Hp) (a : Addr) : Cell → Prop
  | .lst xs => F a = none ∧ ∃ vs, H a = some (.lst vs) ∧ Rps T F xs vs
  | .fls xs => ∃ vs, F a = some (.lst vs) ∧ Rps T F xs vs
  | .dct kvs => F a = none ∧ ∃ vs : List (Key × V), (vs.map (·.1)).Nodup ∧ H a = some (.dK vs) ∧ Paired (fun (p : Key × D) (q : Key × V) => p.1 = q.1 ∧ Rp T F p.2 q.2) kvs vs
  | .ins c fs => F a = none ∧ ∃ C dx fvs, T.cls c = some C ∧ H a = some (.ins C dx fvs) ∧ Rpf T F fs fvs
  | .tbl i => F a = none ∧ ∃ q ps, T.tab i = some (a, q) ∧ H a = some (.tbl ps) ∧ TriplesOk ps.toList ∧ ∀ (pos : Pos) (cv : Value), codeAmong pos ps.toList = some cv → ∃ c, cv = .ref c ∧ F c = some (LamX.CodeO c q)
structure StOk (T : Tb) (w : Wd) (st : Store) (H : Hp) : Prop where
  sub : Sub w.F H
  len : st.length = w.ρ.length
  nd : w.ρ.Nodup
  cell : ∀ (i : Nat) (c : Cell) (a : Addr), st[i]? = some c → w.ρ[i]? = some a → CellOk T w.F H a c
structure EnvOk (T : Tb) (w : Wd) (env : Env) (σ : L2.St) : Prop where
  len : env.length = σ.length
  at_ : ∀ (i : Nat) (d : D), env[i]? = some (some d) → ∃ v, σ[i]? = some (some v) ∧ Rv T w d v
theorem EnvOk.up {T : Tb} {w u : Wd} (l : Le w u) {env : Env} {σ : L2.St} (h : EnvOk T w env σ) : EnvOk T u env σ :=
  ⟨h.len, fun i d e => let ⟨v, a, b⟩ := h.at_ i d e; ⟨v, a, b.up l⟩⟩
theorem EnvOk.set {T : Tb} {w : Wd} {env : Env} {σ : L2.St} (h : EnvOk T w env σ) {i : Nat} {d : D} {v : V} (r : Rv T w d v) : EnvOk T w (env.set i (some d)) (σ.set i (some v)) := by
  refine ⟨by simp [h.len], fun j e hj => ?_⟩
  by_cases q : i = j
  · subst q
    by_cases l : i < env.length
    · rw [List.getElem?_set_self l] at hj
      cases hj
      exact ⟨v, List.getElem?_set_self (h.len ▸ l), r⟩
    · rw [List.getElem?_eq_none (by simpa using l)] at hj
      cases hj
  · rw [List.getElem?_set_ne q] at hj ⊢
    exact h.at_ j e hj
def ExOk (T : Tb) (w : Wd) (c : Nat) (fs : List (Nat × D)) (cls : Value) (d : Option Addr) : Prop :=
  ∃ C dd fvs, T.cls c = some C ∧ cls = Value.ref C ∧ d = some dd ∧ w.F dd = some (.xd fvs) ∧ Rpf T w.F fs fvs
/-- what is wanted behind an outcome -/
def Post {α β : Type} (T : Tb) (R : Wd → α → β → Prop) (w : Wd) (Q : β → Hp → Prop) (E : XK) : Ou α → Prop
  | .ok d st => ∀ u H v, Le w u → StOk T u st H → R u d v → Q v H
  | .exc c fs st => ∀ u H cls d, Le w u → StOk T u st H → ExOk T u c fs cls d → E cls d H
  | .stuck => False
theorem Post.up {α β : Type} {T : Tb} {R : Wd → α → β → Prop} {w u : Wd} {Q : β → Hp → Prop} {E : XK} (l : Le w u) : ∀ {o : Ou α}, Post T R w Q E o → Post T R u Q E o
  | .ok _ _, h => fun x H v e => h x H v (l.tr e)
  | .exc _ _ _, h => fun x H c d e => h x H c d (l.tr e)
  | .stuck, h => h
theorem Post.imp {α β : Type} {T : Tb} {R : Wd → α → β → Prop} {w : Wd} {Q Q' : β → Hp → Prop} {E E' : XK} (hQ : ∀ v H, Q v H → Q' v H) (hE : ∀ c d H, E c d H → E' c d H) : ∀ {o : Ou α}, Post T R w Q E o → Post T R w Q' E' o
  | .ok _ _, h => fun x H v a b c => hQ _ _ (h x H v a b c)
  | .exc _ _ _, h => fun x H c d a b e => hE _ _ _ (h x H c d a b e)
  | .stuck, h => h
def Ou.bind {α γ : Type} (o : Ou α) (k : α → Store → Ou γ) : Ou γ := match o with
  | .ok d st => k d st
  | .exc c fs st => .exc c fs st
  | .stuck => .stuck
abbrev Ou.map {α γ : Type} (o : Ou α) (f : α → γ) : Ou γ := o.bind fun a st => .ok (f a) st
theorem Post.bind {α β γ δ : Type} {T : Tb} {R : Wd → α → β → Prop} {S : Wd → γ → δ → Prop} {w : Wd} {Q : δ → Hp → Prop} {E : XK} {o : Ou α} {k : α → Store → Ou γ} (h : Post T S w Q E (o.bind k)) :
    Post T R w (fun v H => ∃ u d st, Le w u ∧ StOk T u st H ∧ R u d v ∧ Post T S u Q E (k d st)) E o := by
  cases o with
  | ok d st => exact fun u H v l s r => ⟨u, d, st, l, s, r, Post.up l h⟩
  | exc c fs st => exact h
  | stuck => exact h
abbrev PostE (T : Tb) := Post T (Rv T)
abbrev PostA (T : Tb) := Post T (Rvs T)
abbrev PostB (T : Tb) := Post (α := Bool) (β := Bool) T (fun _ a b => a = b)
abbrev Fx := Env → Store → Oe
abbrev Fa := Env → Store → Ou (List D)
abbrev Fb := Env → Store → Ou Bool
def tE (T : Tb) (f : Fx) (W : WX) : TE := fun σ H Q => ∃ w env st, StOk T w st H ∧ EnvOk T w env σ ∧ PostE T w Q (fun c d H' => W c d σ H') (f env st)
def tA (T : Tb) (f : Fa) (W : WX) : TA := fun σ H Q => ∃ w env st, StOk T w st H ∧ EnvOk T w env σ ∧ PostA T w Q (fun c d H' => W c d σ H') (f env st)
def tT (T : Tb) (f : Fb) (W : WX) : TT := fun σ H Q => ∃ w env st, StOk T w st H ∧ EnvOk T w env σ ∧ PostB T w Q (fun c d H' => W c d σ H') (f env st)
theorem PE.imp {X : Cx} {e : Expr} {t t' : TE} (h : PE X e t) (i : ∀ σ H Q, t' σ H Q → t σ H Q) : PE X e t' := ⟨fun pins s σ H Q I q => h.run pins s σ H Q I (i _ _ _ q)⟩
theorem PT.imp {X : Cx} {e : Expr} {t t' : TT} (h : PT X e t) (i : ∀ σ H Q, t' σ H Q → t σ H Q) : PT X e t' := ⟨fun pins s σ H Q I q => h.run pins s σ H Q I (i _ _ _ q)⟩
theorem PA.imp {X : Cx} {e : List Expr} {t t' : TA} (h : PA X e t) (i : ∀ σ H Q, t' σ H Q → t σ H Q) : PA X e t' := ⟨fun pos pins s σ H Q I q => h.run pos pins s σ H Q I (i _ _ _ q)⟩
section
variable {T : Tb} {w : Wd} {env : Env} {st : Store} {σ : L2.St} {H : Hp} {W : WX}
theorem tE.bind {β γ : Type} {S : Wd → γ → β → Prop} {Q : β → Hp → Prop} {f : Fx} {k : D → Store → Ou γ} (hs : StOk T w st H) (he : EnvOk T w env σ) (h : Post T S w Q (fun c d H' => W c d σ H') ((f env st).bind k)) :
    tE T f W σ H (fun x H1 => ∃ u d st1, Le w u ∧ StOk T u st1 H1 ∧ EnvOk T u env σ ∧ Rv T u d x ∧ Post T S u Q (fun c d H' => W c d σ H') (k d st1)) :=
  ⟨w, env, st, hs, he, (Post.bind h).imp (fun _ _ ⟨u, d, st1, l, a, b, c⟩ => ⟨u, d, st1, l, a, he.up l, b, c⟩) fun _ _ _ x => x⟩
theorem tA.bind {β γ : Type} {S : Wd → γ → β → Prop} {Q : β → Hp → Prop} {f : Fa} {k : List D → Store → Ou γ} (hs : StOk T w st H) (he : EnvOk T w env σ) (h : Post T S w Q (fun c d H' => W c d σ H') ((f env st).bind k)) :
    tA T f W σ H (fun x H1 => ∃ u d st1, Le w u ∧ StOk T u st1 H1 ∧ EnvOk T u env σ ∧ Rvs T u d x ∧ Post T S u Q (fun c d H' => W c d σ H') (k d st1)) :=
  ⟨w, env, st, hs, he, (Post.bind h).imp (fun _ _ ⟨u, d, st1, l, a, b, c⟩ => ⟨u, d, st1, l, a, he.up l, b, c⟩) fun _ _ _ x => x⟩
theorem tT.bind {β γ : Type} {S : Wd → γ → β → Prop} {Q : β → Hp → Prop} {f : Fb} {k : Bool → Store → Ou γ} (hs : StOk T w st H) (he : EnvOk T w env σ) (h : Post T S w Q (fun c d H' => W c d σ H') ((f env st).bind k)) :
    tT T f W σ H (fun b H1 => ∃ u st1, Le w u ∧ StOk T u st1 H1 ∧ EnvOk T u env σ ∧ Post T S u Q (fun c d H' => W c d σ H') (k b st1)) :=
  ⟨w, env, st, hs, he, (Post.bind (R := fun _ a b => a = b) h).imp (fun _ _ ⟨u, d, st1, l, a, b, c⟩ => by subst b; exact ⟨u, st1, l, a, he.up l, c⟩) fun _ _ _ x => x⟩
end
/-! ### stores -/
section
variable {T : Tb} {w : Wd} {st : Store} {H : Hp} {p : Addr} {o : HO}
theorem CellOk.upF {F G H : Hp} {a : Addr} (e : Sub F G) (n : F a = none → G a = none) : ∀ {c : Cell}, CellOk T F H a c → CellOk T G H a c
  | .lst _, ⟨h1, vs, h2, h3⟩ => ⟨n h1, vs, h2, h3.up e⟩
  | .fls _, ⟨vs, h2, h3⟩ => ⟨vs, e _ _ h2, h3.up e⟩
  | .dct _, ⟨h1, vs, h0, h2, h3⟩ => ⟨n h1, vs, h0, h2, Paired.mapP h3 fun _ _ q => ⟨q.1, q.2.up e⟩⟩
  | .ins _ _, ⟨h1, C, dx, fvs, h2, h3, h4⟩ => ⟨n h1, C, dx, fvs, h2, h3, h4.up e⟩
  | .tbl _, ⟨h1, q, ps, h2, h3, h4, h5⟩ => ⟨n h1, q, ps, h2, h3, h4, fun pos cv z => let ⟨c, z1, z2⟩ := h5 pos cv z; ⟨c, z1, e _ _ z2⟩⟩
theorem CellOk.at_ {F H G : Hp} {a : Addr} (e : ∀ o, H a = some o → G a = some o) : ∀ {c : Cell}, CellOk T F H a c → CellOk T F G a c
  | .lst _, ⟨h1, vs, h2, h3⟩ => ⟨h1, vs, e _ h2, h3⟩
  | .fls _, ⟨vs, h2, h3⟩ => ⟨vs, h2, h3⟩
  | .dct _, ⟨h1, vs, h0, h2, h3⟩ => ⟨h1, vs, h0, e _ h2, h3⟩
  | .ins _ _, ⟨h1, C, dx, fvs, h2, h3, h4⟩ => ⟨h1, C, dx, fvs, h2, e _ h3, h4⟩
  | .tbl _, ⟨h1, q, ps, h2, h3, h4, h5⟩ => ⟨h1, q, ps, h2, e _ h3, h4, h5⟩
/-- a cell's object stands in the heap -/
theorem CellOk.there {F H : Hp} {a : Addr} (s : Sub F H) : ∀ {c : Cell}, CellOk T F H a c → ∃ o, H a = some o
  | .lst _, ⟨_, vs, h2, _⟩ => ⟨_, h2⟩
  | .fls _, ⟨vs, h2, _⟩ => ⟨_, s _ _ h2⟩
  | .dct _, ⟨_, vs, _, h2, _⟩ => ⟨_, h2⟩
  | .ins _ _, ⟨_, C, dx, fvs, _, h3, _⟩ => ⟨_, h3⟩
  | .tbl _, ⟨_, q, ps, _, h3, _, _⟩ => ⟨_, h3⟩
theorem StOk.at_ (s : StOk T w st H) {i : Nat} {c : Cell} (h : st[i]? = some c) : ∃ a, w.ρ[i]? = some a ∧ CellOk T w.F H a c := by
  have hl : i < w.ρ.length := by rw [← s.len]; exact (List.getElem?_eq_some_iff.mp h).1
  exact ⟨w.ρ[i], List.getElem?_eq_getElem hl, s.cell i c _ h (List.getElem?_eq_getElem hl)⟩
/-- a new thing that never changes -/
def Wd.frz (w : Wd) (p : Addr) (o : HO) : Wd := ⟨upd w.F p o, w.ρ⟩
theorem Wd.fF {w : Wd} {p : Addr} {o : HO} : (w.frz p o).F = upd w.F p o := rfl
theorem StOk.freeF (s : StOk T w st H) (n : H p = none) : w.F p = none := by
  cases q : w.F p with
  | none => rfl
  | some u => rw [s.sub _ _ q] at n; cases n
theorem StOk.nC (s : StOk T w st H) (n : H p = none) {i : Nat} {a : Addr} (h : w.ρ[i]? = some a) : a ≠ p := by
  have hl : i < st.length := by rw [s.len]; exact (List.getElem?_eq_some_iff.mp h).1
  obtain ⟨o, q⟩ := (s.cell i _ a (List.getElem?_eq_getElem hl) h).there s.sub
  exact ne_of_none q n
theorem Le.frz (s : StOk T w st H) (n : H p = none) : Le w (w.frz p o) := ⟨Sub.new (s.freeF n), [], by simp [Wd.frz]⟩
theorem StOk.newF (s : StOk T w st H) (n : H p = none) : StOk T (w.frz p o) st (upd H p o) where
  sub := fun a u h => by
    by_cases q : a = p
    · subst q
      rw [Wd.fF, upd_same] at h
      cases h
      exact upd_same
    · rw [Wd.fF, upd_ne q] at h
      rw [upd_ne q]
      exact s.sub _ _ h
  len := s.len
  nd := s.nd
  cell := fun i c a h1 h2 => by
    have na := s.nC n h2
    exact CellOk.at_ (fun o h => by rw [upd_ne na]; exact h) (CellOk.upF (F := w.F) (G := (w.frz p o).F) (Sub.new (s.freeF n)) (fun h => (upd_ne na).trans h) (s.cell i c a h1 h2))
/-- a thing that is new in the heap, of no cell -/
theorem StOk.skip (s : StOk T w st H) (n : H p = none) : StOk T w st (upd H p o) where
  sub := fun a u h => by
    rw [upd_ne (ne_of_none (s.sub _ _ h) n)]
    exact s.sub _ _ h
  len := s.len
  nd := s.nd
  cell := fun i c a h1 h2 => CellOk.at_ (fun o h => by rw [upd_ne (ne_of_none h n)]; exact h) (s.cell i c a h1 h2)
/-- a new cell -/
def Wd.cell (w : Wd) (p : Addr) : Wd := ⟨w.F, w.ρ ++ [p]⟩
theorem Le.cell (w : Wd) (p : Addr) : Le w (w.cell p) := ⟨Sub.rfl' _, [p], rfl⟩
theorem StOk.newC (s : StOk T w st H) (n : H p = none) {c : Cell} (hc : CellOk T w.F (upd H p o) p c) : StOk T (w.cell p) (st ++ [c]) (upd H p o) where
  sub := (s.skip n).sub
  len := by simp [Wd.cell, s.len]
  nd := by
    rw [Wd.cell, List.nodup_append]
    refine ⟨s.nd, by simp, fun a h1 b h2 => ?_⟩
    obtain ⟨i, e⟩ := List.getElem?_of_mem h1
    have e2 : b = p := by simpa using h2
    rw [e2]
    exact s.nC n e
  cell := fun i d a h1 h2 => by
    by_cases hi : i < st.length
    · rw [List.getElem?_append_left hi] at h1
      rw [Wd.cell, List.getElem?_append_left (s.len ▸ hi)] at h2
      exact (s.skip n).cell i d a h1 h2
    · have e : i = st.length := by
        have := (List.getElem?_eq_some_iff.mp h1).1
        simp at this
        omega
      subst e
      rw [Wd.cell, s.len] at h2
      simp at h1 h2
      subst h1
      subst h2
      exact hc
theorem nodup_get {l : List Addr} (h : l.Nodup) {i j : Nat} {a : Addr} (h1 : l[i]? = some a) (h2 : l[j]? = some a) : i = j := by
  obtain ⟨x, e1⟩ := List.getElem?_eq_some_iff.mp h1
  obtain ⟨y, e2⟩ := List.getElem?_eq_some_iff.mp h2
  exact (List.getElem_inj h).mp (e1.trans e2.symm)
/-- a cell changed -/
theorem StOk.wr (s : StOk T w st H) {i : Nat} {a : Addr} (ha : w.ρ[i]? = some a) (hF : w.F a = none) {c : Cell} (hc : CellOk T w.F (upd H a o) a c) : StOk T w (st.set i c) (upd H a o) where
  sub := fun b u h => by
    rw [upd_ne (fun q => by subst q; rw [hF] at h; cases h)]
    exact s.sub _ _ h
  len := by simp [s.len]
  nd := s.nd
  cell := fun j d b h1 h2 => by
    by_cases q : i = j
    · subst q
      rw [ha] at h2
      cases h2
      have hl := (List.getElem?_eq_some_iff.mp ha).1
      rw [List.getElem?_set_self (s.len ▸ hl)] at h1
      cases h1
      exact hc
    · rw [List.getElem?_set_ne q] at h1
      have nb : b ≠ a := fun e => q (nodup_get s.nd ha (e ▸ h2))
      exact CellOk.at_ (fun o h => by rw [upd_ne nb]; exact h) (s.cell j d b h1 h2)
/-- a list's cell is laid fast -/
theorem StOk.fast (s : StOk T w st H) {i : Nat} {xs : List D} (h : st[i]? = some (.lst xs)) : ∃ a vs, w.ρ[i]? = some a ∧ H a = some (.lst vs) ∧ Rps T w.F xs vs ∧ Le w (w.frz a (.lst vs)) ∧ StOk T (w.frz a (.lst vs)) (st.set i (.fls xs)) H := by
  obtain ⟨a, ha, hF, vs, hH, r⟩ := s.at_ h
  have e : Sub w.F (w.frz a (.lst vs)).F := Sub.new hF
  refine ⟨a, vs, ha, hH, r, ⟨e, [], by simp [Wd.frz]⟩, fun b u q => ?_, by simp [Wd.frz, s.len], s.nd, fun j c b h1 h2 => ?_⟩
  · by_cases z : b = a
    · subst z
      rw [Wd.fF, upd_same] at q
      cases q
      exact hH
    · rw [Wd.fF, upd_ne z] at q
      exact s.sub _ _ q
  · have h2 : w.ρ[j]? = some b := h2
    by_cases q : i = j
    · subst q
      rw [ha] at h2
      cases h2
      rw [List.getElem?_set_self (List.getElem?_eq_some_iff.mp h).1] at h1
      cases h1
      exact ⟨vs, upd_same, r.up e⟩
    · rw [List.getElem?_set_ne q] at h1
      have nb : b ≠ a := fun z => q (nodup_get s.nd ha (z ▸ h2))
      exact CellOk.upF e (fun z => by rw [Wd.fF, upd_ne nb]; exact z) (s.cell j c b h1 h2)
end
/-- a value laid fast -/
def frz : D → Store → Option (D × Store)
  | .ref i, st => match st[i]? with
    | some (.lst xs) => some (.lst xs, st.set i (.fls xs))
    | some (.fls xs) => some (.lst xs, st)
    | _ => none
  | d, st => if d.isFun = true then none else some (d, st)
theorem Rv.rp {T : Tb} {w : Wd} {d : D} {v : V} (h : Rv T w d v) (hn : ∀ i, d ≠ .ref i) (hf : d.isFun = false) : Rp T w.F d v := by
  cases h with
  | d h => exact h
  | ref h => exact absurd rfl (hn _)
  | fun_ h _ => rw [hf] at h; cases h
theorem frz_ok {T : Tb} {w : Wd} {st st' : Store} {H : Hp} {d e : D} {v : V} (s : StOk T w st H) (r : Rv T w d v) (h : frz d st = some (e, st')) : ∃ u, Le w u ∧ StOk T u st' H ∧ Rp T u.F e v := by
  by_cases q : ∃ i, d = .ref i
  · obtain ⟨i, rfl⟩ := q
    cases r with
    | d r => cases r
    | fun_ h _ => cases h
    | ref r =>
      unfold frz at h
      simp only at h
      split at h
      · rename_i xs hx
        cases h
        obtain ⟨a, vs, ha, hH, hr, l, s'⟩ := s.fast hx
        rw [ha] at r
        cases r
        exact ⟨_, l, s', .lst (by rw [Wd.fF, upd_same]) (hr.up l.F)⟩
      · rename_i xs hx
        cases h
        obtain ⟨a, ha, vs, hF, hr⟩ := s.at_ hx
        rw [ha] at r
        cases r
        exact ⟨w, Le.rfl' _, s, .lst hF hr⟩
      · cases h
  · have hn : ∀ i, d ≠ .ref i := fun i z => q ⟨i, z⟩
    have z : frz d st = if d.isFun = true then none else some (d, st) := by
      cases d <;> first | rfl | exact absurd rfl (hn _)
    rw [z] at h
    split at h
    · cases h
    · rename_i hf
      cases h
      exact ⟨w, Le.rfl' _, s, r.rp hn (by simpa using hf)⟩
def frzs : List D → Store → Option (List D × Store)
  | [], st => some ([], st)
  | d :: ds, st => (frz d st).bind fun p => (frzs ds p.2).map fun q => (p.1 :: q.1, q.2)
theorem frzs_ok {T : Tb} {H : Hp} : ∀ {ds es : List D} {vs : List V} {w : Wd} {st st' : Store}, StOk T w st H → Rvs T w ds vs → frzs ds st = some (es, st') → ∃ u, Le w u ∧ StOk T u st' H ∧ Rps T u.F es vs
  | [], _, _, w, st, st', s, .nil, h => by
    unfold frzs at h
    cases h
    exact ⟨w, Le.rfl' _, s, .nil⟩
  | d :: ds, es, v :: vs, w, st, st', s, .cons r rs, h => by
    unfold frzs at h
    cases h1 : frz d st with
    | none => rw [h1] at h; cases h
    | some p =>
      rw [h1, Option.bind_some] at h
      cases h2 : frzs ds p.2 with
      | none => rw [h2] at h; cases h
      | some q =>
        rw [h2, Option.map_some] at h
        cases h
        obtain ⟨u, l, s1, r1⟩ := frz_ok s r h1
        obtain ⟨x, l2, s2, r2⟩ := frzs_ok s1 (rs.up l) h2
        exact ⟨x, l.tr l2, s2, .cons (r1.up l2.F) r2⟩
/-- a tracked list of no cell is laid fast -/
theorem StOk.fastP {T : Tb} {w : Wd} {st : Store} {H : Hp} {p : Addr} {o : HO} (s : StOk T w st H) (hp : H p = some o) (hF : w.F p = none) (hn : p ∉ w.ρ) : Le w (w.frz p o) ∧ StOk T (w.frz p o) st H := by
  have e : Sub w.F (w.frz p o).F := Sub.new hF
  refine ⟨⟨e, [], by simp [Wd.frz]⟩, fun b u q => ?_, s.len, s.nd, fun j c b h1 h2 => ?_⟩
  · by_cases z : b = p
    · subst z
      rw [Wd.fF, upd_same] at q
      cases q
      exact hp
    · rw [Wd.fF, upd_ne z] at q
      exact s.sub _ _ q
  · have h2 : w.ρ[j]? = some b := h2
    have nb : b ≠ p := fun z => hn (z ▸ List.mem_of_getElem? h2)
    exact CellOk.upF e (fun z => (upd_ne nb).trans z) (s.cell j c b h1 h2)
/-- .. becomes a cell -/
theorem StOk.cellP {T : Tb} {w : Wd} {st : Store} {H : Hp} {p : Addr} (s : StOk T w st H) (hn : p ∉ w.ρ) {c : Cell} (hc : CellOk T w.F H p c) : StOk T (w.cell p) (st ++ [c]) H where
  sub := s.sub
  len := by simp [Wd.cell, s.len]
  nd := by
    rw [Wd.cell, List.nodup_append]
    refine ⟨s.nd, by simp, fun a h1 b h2 => ?_⟩
    have e2 : b = p := by simpa using h2
    rw [e2]
    exact fun z => hn (z ▸ h1)
  cell := fun i d a h1 h2 => by
    by_cases hi : i < st.length
    · rw [List.getElem?_append_left hi] at h1
      rw [Wd.cell, List.getElem?_append_left (s.len ▸ hi)] at h2
      exact s.cell i d a h1 h2
    · have e : i = st.length := by
        have := (List.getElem?_eq_some_iff.mp h1).1
        simp at this
        omega
      subst e
      rw [Wd.cell, s.len] at h2
      simp at h1 h2
      subst h1
      subst h2
      exact hc
/-- the last cells are dropped -/
theorem StOk.take {T : Tb} {w u : Wd} {st : Store} {H : Hp} {n : Nat} (s : StOk T u st H) (l : Le w u) (hn : w.ρ.length = n) : StOk T ⟨u.F, w.ρ⟩ (st.take n) H := by
  obtain ⟨r, e⟩ := l.ρ
  have hl : st.length = w.ρ.length + r.length := by rw [s.len, e, List.length_append]
  refine ⟨s.sub, by rw [List.length_take]; show _ = w.ρ.length; omega, ?_, fun i c a h1 h2 => ?_⟩
  · have := s.nd
    rw [e, List.nodup_append] at this
    exact this.1
  · have hi : i < w.ρ.length := (List.getElem?_eq_some_iff.mp h2).1
    rw [List.getElem?_take_of_lt (by omega)] at h1
    refine s.cell i c a h1 ?_
    rw [e, List.getElem?_append_left hi]
    exact h2
theorem Le.take {w u : Wd} (l : Le w u) : Le w ⟨u.F, w.ρ⟩ := ⟨l.F, [], by simp⟩
end Ev
set_option Elab.async false
set_option linter.all false
set_option maxRecDepth 100000
namespace Ev
open PySem PySem.Spec L2
section
variable {T : Tb} {X : Cx} {W : WX}
/-! ### names, constants -/
def fV (i : Nat) : Fx := fun env st => match env[i]? with
  | some (some d) => .ok d st
  | _ => .stuck
def fK (d : D) : Fx := fun _ st => .ok d st
theorem de_v {i : Nat} {x : Str} {pos : Pos} (hN : X.N[i]? = some x) (hv : Vis X.env.scope x) (hd : (x == ("__debug__" : Str)) = false) (hcd : (x == ("__classdict__" : Str)) = false) : PE X (.Name x pos) (tE T (fV i) W) :=
  PE.imp (pe_var hN hv hd hcd) fun σ H Q ⟨w, env, st, hs, he, hp⟩ => by
    unfold fV at hp
    split at hp
    · rename_i d hd'
      obtain ⟨v, h1, h2⟩ := he.at_ i d hd'
      exact ⟨v, h1, hp w H v (Le.rfl' _) hs h2⟩
    · exact hp.elim
theorem fK_post {w : Wd} {st : Store} {H : Hp} {d : D} {v : V} {Q : VK} {E : XK} (hs : StOk T w st H) (r : Rv T w d v) (h : PostE T w Q E (.ok d st)) : Q v H := h w H v (Le.rfl' _) hs r
theorem de_k {e : Expr} {v : V} {d : D} (h : PE X e (tC v)) (r : ∀ F, Rp T F d v) : PE X e (tE T (fK d) W) :=
  PE.imp h fun σ H Q ⟨w, env, st, hs, he, hp⟩ => hp w H v (Le.rfl' _) hs (.d (r _))
theorem de_int {i : Int} {j : Nat} {pos : Pos} : PE X (.Constant (.int i) j pos) (tE T (fK (.int i)) W) := de_k pe_int fun _ => .int i
theorem de_bl {b : Bool} {j : Nat} {pos : Pos} : PE X (.Constant (.bool b) j pos) (tE T (fK (.bl b)) W) := de_k pe_bl fun _ => .bl b
theorem de_non {j : Nat} {pos : Pos} : PE X (.Constant .none j pos) (tE T (fK .non) W) := de_k pe_non fun _ => .non
theorem de_str {x : Str} {j : Nat} {pos : Pos} : PE X (.Constant (.str x) j pos) (tE T (fK (.str x)) W) := de_k pe_str fun _ => .str x
/-! ### argument lists -/
def aNil : Fa := fun _ st => .ok [] st
def aCons (a : Fx) (r : Fa) : Fa := fun env st => (a env st).bind fun x st1 => (r env st1).bind fun xs st2 => .ok (x :: xs) st2
theorem da_nil : PA X [] (tA T aNil W) := PA.imp pa_nil fun σ H Q ⟨w, env, st, hs, he, hp⟩ => hp w H [] (Le.rfl' _) hs .nil
theorem da_cons {e : Expr} {es : List Expr} {a : Fx} {r : Fa} (ha : PE X e (tE T a W)) (hr : PA X es (tA T r W)) (hst : starEach (e :: es) X.env = (false, eval e X.env) :: starEach es X.env) : PA X (e :: es) (tA T (aCons a r) W) :=
  PA.imp (pa_cons ha hr hst) fun σ H Q ⟨w, env, st, hs, he, hp⟩ => by
    obtain ⟨w1, env1, st1, a1, a2, a3⟩ := tE.bind hs he hp
    refine ⟨w1, env1, st1, a1, a2, a3.imp (fun x H1 ⟨u, d, st2, l, s2, e2, rx, hp2⟩ => ?_) fun _ _ _ z => z⟩
    obtain ⟨w3, env3, st3, b1, b2, b3⟩ := tA.bind s2 e2 hp2
    exact ⟨w3, env3, st3, b1, b2, b3.imp (fun xs H2 ⟨u2, ds, st4, l2, s4, e4, rxs, hp4⟩ => hp4 u2 H2 (x :: xs) (Le.rfl' _) s4 (.cons (rx.up l2) rxs)) fun _ _ _ z => z⟩
/-! ### operators by values -/
def OpD (T : Tb) (X : Cx) (W : WX) (f : Value → Value → Sem Value) (g : D → D → Store → Oe) : Prop :=
  ∀ (pins : List (Addr × Obj)) (s : Shared) (σ : L2.St) (H : Hp) (w : Wd) (st : Store) (dx dy : D) (vx vy : V) (ux uy : Value) (Q : VK), Inv X pins σ H s → StOk T w st H → Rv T w dx vx → Rv T w dy vy → RelV vx ux → RelV vy uy →
    PostE T w Q (fun c d H' => W c d σ H') (g dx dy st) → wpAny (model X.prog X.w) X.A (f ux uy) (EP X pins σ Q) X.xe s
def f2 (g : D → D → Store → Oe) (a b : Fx) : Fx := fun env st => (a env st).bind fun x st1 => (b env st1).bind fun y st2 => g x y st2
theorem OpD.run {f : Value → Value → Sem Value} {g : D → D → Store → Oe} (ho : OpD T X W f g) {a b : Expr} {fa fb : Fx} (ha : PE X a (tE T fa W)) (hb : PE X b (tE T fb W)) {pins : List (Addr × Obj)} {s : Shared} {σ : L2.St} {H : Hp} {Q : VK} (I : Inv X pins σ H s)
    (h : tE T (f2 g fa fb) W σ H Q) : wpAny (model X.prog X.w) X.A (eval a X.env) (fun v s₁ => wpAny (model X.prog X.w) X.A (eval b X.env) (fun u s₂ => wpAny (model X.prog X.w) X.A (f v u) (EP X pins σ Q) X.xe s₂) X.xe s₁) X.xe s := by
  obtain ⟨w, env, st, hs, he, hp⟩ := h
  refine bin ha hb I (R := fun x y H2 => ∃ u dx dy st2, StOk T u st2 H2 ∧ Rv T u dx x ∧ Rv T u dy y ∧ PostE T u Q (fun c d H' => W c d σ H') (g dx dy st2)) ?_ fun v u s2 x y H2 I2 rx ry q => ?_
  · obtain ⟨w1, env1, st1, a1, a2, a3⟩ := tE.bind hs he hp
    refine ⟨w1, env1, st1, a1, a2, a3.imp (fun x H1 ⟨u, d, st2, l, s2, e2, rx, hp2⟩ => ?_) fun _ _ _ z => z⟩
    obtain ⟨w3, env3, st3, b1, b2, b3⟩ := tE.bind s2 e2 hp2
    exact ⟨w3, env3, st3, b1, b2, b3.imp (fun y H2 ⟨u2, d2, st4, l2, s4, e4, ry, hp4⟩ => ⟨u2, d, d2, st4, s4, rx.up l2, ry, hp4⟩) fun _ _ _ z => z⟩
  · obtain ⟨w2, dx, dy, st2, s2', r1, r2, hq⟩ := q
    exact ho pins s2 σ H2 w2 st2 dx dy x y v u Q I2 s2' r1 r2 rx ry hq
theorem de_bin {op : Operator} {g : D → D → Store → Oe} (ho : OpD T X W (binaryOp op) g) {a b : Expr} {fa fb : Fx} {pos : Pos} (ha : PE X a (tE T fa W)) (hb : PE X b (tE T fb W)) : PE X (.BinOp a op b pos) (tE T (f2 g fa fb) W) :=
  ⟨fun pins s σ H Q I h => wpAny_BinOp (ho.run ha hb I h)⟩
theorem de_cmp {op : CmpOp} {g : D → D → Store → Oe} (ho : OpD T X W (compareOp op) g) {a b : Expr} {fa fb : Fx} {pos : Pos} (ha : PE X a (tE T fa W)) (hb : PE X b (tE T fb W)) (hm : behindInMarks op b = false) : PE X (.Compare a [op] [b] pos) (tE T (f2 g fa fb) W) :=
  ⟨fun pins s σ H Q I h => wpAny_Compare1 (ho.run ha hb I h) hm⟩
/-- from a rule by values -/
theorem OpD.of {f : Value → Value → Sem Value} {g : D → D → Store → Oe} {r : R2} (ho : OpR X f r) (h : ∀ (w : Wd) (st : Store) (H : Hp) (dx dy : D) (vx vy : V) (Q : VK) (E : XK), StOk T w st H → Rv T w dx vx → Rv T w dy vy → PostE T w Q E (g dx dy st) → r vx vy H Q) : OpD T X W f g :=
  fun pins s σ H w st dx dy vx vy ux uy Q I hs rx ry r1 r2 hp => ho pins s σ H vx vy ux uy Q I r1 r2 (h w st H dx dy vx vy Q _ hs rx ry hp)
/-! ### ints -/
def mulOk (i j : Int) : Prop := i.natAbs.log2 + j.natAbs.log2 < 1000000
def divOk (j : Int) : Prop := j ≠ 0 ∧ j.natAbs.log2 < 9000
def powOk (i j : Int) : Prop := 0 ≤ j ∧ (i.natAbs.log2 + 1) * j.toNat ≤ 1000000
def shlOk (i j : Int) : Prop := 0 ≤ j ∧ (i.natAbs.log2 + 1) + j.toNat ≤ 1000000
instance {i j : Int} : Decidable (mulOk i j) := by unfold mulOk; infer_instance
instance {j : Int} : Decidable (divOk j) := by unfold divOk; infer_instance
instance {i j : Int} : Decidable (powOk i j) := by unfold powOk; infer_instance
instance {i j : Int} : Decidable (shlOk i j) := by unfold shlOk; infer_instance
def binI : Operator → Int → Int → Option Int
  | .Add, i, j => some (i + j)
  | .Sub, i, j => some (i - j)
  | .Mult, i, j => if mulOk i j then some (i * j) else none
  | .FloorDiv, i, j => if divOk j then some (i.fdiv j) else none
  | .Mod, i, j => if j ≠ 0 then some (i.fmod j) else none
  | .Pow, i, j => if powOk i j then some (i ^ j.toNat) else none
  | .LShift, i, j => if shlOk i j then some (i * 2 ^ j.toNat) else none
  | .RShift, i, j => if 0 ≤ j then some (i / 2 ^ j.toNat) else none
  | .BitAnd, i, j => some (Builtin.bitAnd i j)
  | .BitOr, i, j => some (Builtin.bitOr i j)
  | .BitXor, i, j => some (Builtin.bitXor i j)
  | _, _, _ => none
theorem bits_le (i : Int) : Builtin.Int.intBits i ≤ i.natAbs.log2 + 1 := by
  unfold Builtin.Int.intBits
  split <;> omega
theorem binI_ok {op : Operator} : OpR X (binaryOp op) (fun x y H Q => ∃ i j k, x = .int i ∧ y = .int j ∧ binI op i j = some k ∧ Q (.int k) H) := by
  intro pins s σ H x y v u Q I rx ry h
  obtain ⟨i, j, k, rfl, rfl, e, q⟩ := h
  cases op with
  | Add => cases e; exact op_add pins s σ H _ _ v u Q I rx ry ⟨i, j, rfl, rfl, q⟩
  | Sub => cases e; exact op_sub pins s σ H _ _ v u Q I rx ry ⟨i, j, rfl, rfl, q⟩
  | Mult =>
    simp only [binI] at e
    split at e
    · rename_i hc
      cases e
      exact op_mulW pins s σ H _ _ v u Q I rx ry ⟨i, j, rfl, rfl, hc, q⟩
    · cases e
  | FloorDiv =>
    simp only [binI] at e
    split at e
    · rename_i hc
      cases e
      obtain ⟨t, rfl⟩ := rx
      obtain ⟨t', rfl⟩ := ry
      exact PyProof.Rows.floordiv_int hc.1 ⟨.int _, H, I.tok _, ⟨_, rfl⟩, q⟩ (.inl (PyProof.noPylong_of_log2 hc.2))
    · cases e
  | Mod =>
    simp only [binI] at e
    split at e
    · rename_i hc
      cases e
      exact op_modN pins s σ H _ _ v u Q I rx ry ⟨i, j, rfl, rfl, hc, q⟩
    · cases e
  | Pow =>
    simp only [binI] at e
    split at e
    · rename_i hc
      cases e
      obtain ⟨t, rfl⟩ := rx
      obtain ⟨t', rfl⟩ := ry
      refine PyProof.Rows.pow_int hc.1 ?_ ⟨.int _, H, I.tok _, ⟨_, rfl⟩, q⟩
      have h1 := bits_le i
      have h2 := hc.2
      have h3 : Builtin.Int.intBits i * j.toNat ≤ (i.natAbs.log2 + 1) * j.toNat := Nat.mul_le_mul_right _ h1
      have h4 : ((j.toNat : Nat) : Int) = j := Int.toNat_of_nonneg hc.1
      rw [← h4, ← Int.natCast_mul]
      omega
    · cases e
  | LShift =>
    simp only [binI] at e
    split at e
    · rename_i hc
      cases e
      obtain ⟨t, rfl⟩ := rx
      obtain ⟨t', rfl⟩ := ry
      refine PyProof.Rows.lshift_int hc.1 ?_ ⟨.int _, H, I.tok _, ⟨_, rfl⟩, q⟩
      have h1 := bits_le i
      have h2 := hc.2
      have h4 : ((j.toNat : Nat) : Int) = j := Int.toNat_of_nonneg hc.1
      omega
    · cases e
  | RShift =>
    simp only [binI] at e
    split at e
    · rename_i hc
      cases e
      exact op_shr pins s σ H _ _ v u Q I rx ry ⟨i, j, rfl, rfl, hc, q⟩
    · cases e
  | BitAnd => cases e; exact op_and pins s σ H _ _ v u Q I rx ry ⟨i, j, rfl, rfl, q⟩
  | BitOr => cases e; exact op_or pins s σ H _ _ v u Q I rx ry ⟨i, j, rfl, rfl, q⟩
  | BitXor => cases e; exact op_xor pins s σ H _ _ v u Q I rx ry ⟨i, j, rfl, rfl, q⟩
  | _ => cases e
/-! ### rows -/
/-- a row's items; whether it is a tuple -/
def seqD (st : Store) : D → Option (Bool × List D)
  | .tup xs => some (true, xs)
  | .lst xs => some (false, xs)
  | .scr xs => some (false, xs)
  | .ref i => match st[i]? with
    | some (.lst xs) => some (false, xs)
    | some (.fls xs) => some (false, xs)
    | _ => none
  | _ => none
/-- .. a list that is the program's own -/
def lstD (st : Store) : D → Option (List D)
  | .lst xs => some xs
  | .ref i => match st[i]? with
    | some (.lst xs) => some xs
    | some (.fls xs) => some xs
    | _ => none
  | _ => none
theorem cell_lst {w : Wd} {st : Store} {H : Hp} {i : Nat} {a : Addr} {xs : List D} (hs : StOk T w st H) (ha : w.ρ[i]? = some a) (h : st[i]? = some (.lst xs) ∨ st[i]? = some (.fls xs)) : ∃ vs, H a = some (.lst vs) ∧ Rps T w.F xs vs := by
  rcases h with h | h
  · obtain ⟨_, vs, h1, h2⟩ := hs.cell i _ a h ha
    exact ⟨vs, h1, h2⟩
  · obtain ⟨vs, h1, h2⟩ := hs.cell i _ a h ha
    exact ⟨vs, hs.sub _ _ h1, h2⟩
theorem lst_at {w : Wd} {st : Store} {H : Hp} {d : D} {v : V} {xs : List D} (hs : StOk T w st H) (r : Rv T w d v) (h : lstD st d = some xs) : ∃ a vs, v = .ref a ∧ H a = some (.lst vs) ∧ Rps T w.F xs vs := by
  cases r with
  | fun_ h1 _ => cases d <;> first | (cases h; done) | (cases h1; done)
  | d r =>
    cases r with
    | lst h1 h2 => cases h; exact ⟨_, _, rfl, hs.sub _ _ h1, h2⟩
    | _ => cases h
  | ref ha =>
    simp only [lstD] at h
    split at h
    · rename_i hx
      cases h
      obtain ⟨vs, h1, h2⟩ := cell_lst hs ha (.inl hx)
      exact ⟨_, vs, rfl, h1, h2⟩
    · rename_i hx
      cases h
      obtain ⟨vs, h1, h2⟩ := cell_lst hs ha (.inr hx)
      exact ⟨_, vs, rfl, h1, h2⟩
    · cases h
theorem seq_at {w : Wd} {st : Store} {H : Hp} {d : D} {v : V} {b : Bool} {xs : List D} (hs : StOk T w st H) (r : Rv T w d v) (h : seqD st d = some (b, xs)) : ∃ a vs, v = .ref a ∧ Rps T w.F xs vs ∧ if b = true then SqT T.K H a vs else SqL T.K H a vs := by
  cases r with
  | fun_ h1 _ => cases d <;> first | (cases h; done) | (cases h1; done)
  | d r =>
    cases r with
    | tup h1 h2 => cases h; exact ⟨_, _, rfl, h2, by rw [if_pos rfl]; exact hs.sub.sqt h1⟩
    | lst h1 h2 => cases h; exact ⟨_, _, rfl, h2, by rw [if_neg Bool.false_ne_true]; exact SqL.of (hs.sub _ _ h1)⟩
    | scr h1 h2 => cases h; exact ⟨_, _, rfl, h2, by rw [if_neg Bool.false_ne_true]; exact hs.sub.sql h1⟩
    | _ => cases h
  | ref ha =>
    simp only [seqD] at h
    split at h
    · rename_i hx
      cases h
      obtain ⟨vs, h1, h2⟩ := cell_lst hs ha (.inl hx)
      exact ⟨_, vs, rfl, h2, by rw [if_neg Bool.false_ne_true]; exact SqL.of h1⟩
    · rename_i hx
      cases h
      obtain ⟨vs, h1, h2⟩ := cell_lst hs ha (.inr hx)
      exact ⟨_, vs, rfl, h2, by rw [if_neg Bool.false_ne_true]; exact SqL.of h1⟩
    · cases h
theorem seq_or {w : Wd} {st : Store} {H : Hp} {d : D} {v : V} {b : Bool} {xs : List D} (hs : StOk T w st H) (r : Rv T w d v) (h : seqD st d = some (b, xs)) : ∃ a vs, v = .ref a ∧ Rps T w.F xs vs ∧ (SqL T.K H a vs ∨ SqT T.K H a vs) := by
  obtain ⟨a, vs, h1, h2, h3⟩ := seq_at hs r h
  refine ⟨a, vs, h1, h2, ?_⟩
  cases b with
  | true => rw [if_pos rfl] at h3; exact .inr h3
  | false => rw [if_neg Bool.false_ne_true] at h3; exact .inl h3
/-- a new row that never changes -/
theorem post_tup {w : Wd} {st : Store} {H : Hp} {p : Addr} {xs : List D} {vs : List V} {Q : VK} {E : XK} (hs : StOk T w st H) (n : H p = none) (r : Rps T w.F xs vs) (h : PostE T w Q E (.ok (.tup xs) st)) : Q (.ref p) (upd H p (.tup vs)) :=
  h (w.frz p (.tup vs)) _ _ (Le.frz hs n) (hs.newF n) (.d (.tup (SqT.of upd_same) (r.up (Le.frz (o := .tup vs) hs n).F)))
theorem post_lst {w : Wd} {st : Store} {H : Hp} {p : Addr} {xs : List D} {vs : List V} {Q : VK} {E : XK} (hs : StOk T w st H) (n : H p = none) (r : Rps T w.F xs vs) (h : PostE T w Q E (.ok (.lst xs) st)) : Q (.ref p) (upd H p (.lst vs)) :=
  h (w.frz p (.lst vs)) _ _ (Le.frz hs n) (hs.newF n) (.d (.lst upd_same (r.up (Le.frz (o := .lst vs) hs n).F)))
/-- an operator on plain things -/
def strLen (a b : Str) : Bool := decide (a.length + b.length ≤ sizeLine)
def binP (op : Operator) : D → D → Store → Oe
  | .int i, .int j, st => match binI op i j with
    | some k => .ok (.int k) st
    | none => .stuck
  | .str a, .str b, st => if op = .Add ∧ strLen a b = true then .ok (.str (a ++ b)) st else .stuck
  | .tup xs, .tup ys, st => if op = .Add ∧ xs.length + ys.length ≤ sizeLine then .ok (.tup (xs ++ ys)) st else .stuck
  | x, .int k, st => match lstD st x with
    | some xs => if op = .Mult ∧ k < 2 ^ 40 ∧ -(2 ^ 40) < k ∧ xs.length * k.toNat ≤ sizeLine then .ok (.lst (List.replicate k.toNat xs).flatten) st else .stuck
    | none => .stuck
  | x, y, st => match lstD st x, lstD st y with
    | some xs, some ys => if op = .Add ∧ xs.length + ys.length ≤ sizeLine then .ok (.lst (xs ++ ys)) st else .stuck
    | _, _ => .stuck
theorem rps_flat {F : Hp} {xs : List D} {vs : List V} (r : Rps T F xs vs) : ∀ n : Nat, Rps T F (List.replicate n xs).flatten (List.replicate n vs).flatten
  | 0 => .nil
  | n + 1 => by
    rw [List.replicate_succ, List.replicate_succ, List.flatten_cons, List.flatten_cons]
    exact Rps.app r (rps_flat r n)
end
end Ev
set_option Elab.async false
set_option linter.all false
set_option maxRecDepth 100000
set_option maxHeartbeats 1000000
namespace Ev
open PySem PySem.Spec L2
section
variable {T : Tb} {X : Cx} {W : WX}
theorem Rv.int_inv {w : Wd} {i : Int} {v : V} (h : Rv T w (.int i) v) : v = .int i := by
  cases h with
  | d h => cases h; rfl
  | fun_ h _ => cases h
theorem Rv.str_inv {w : Wd} {i : Str} {v : V} (h : Rv T w (.str i) v) : v = .str i := by
  cases h with
  | d h => cases h; rfl
  | fun_ h _ => cases h
theorem Rv.bl_inv {w : Wd} {i : Bool} {v : V} (h : Rv T w (.bl i) v) : v = .bl i := by
  cases h with
  | d h => cases h; rfl
  | fun_ h _ => cases h
theorem Rv.non_inv {w : Wd} {v : V} (h : Rv T w .non v) : v = .non := by
  cases h with
  | d h => cases h; rfl
  | fun_ h _ => cases h
theorem Rv.ty_inv {w : Wd} {n : String} {v : V} (h : Rv T w (.ty n) v) : v = .ty n := by
  cases h with
  | d h => cases h; rfl
  | fun_ h _ => cases h
theorem Rv.tup_inv {w : Wd} {xs : List D} {v : V} (h : Rv T w (.tup xs) v) : ∃ a vs, v = .ref a ∧ SqT T.K w.F a vs ∧ Rps T w.F xs vs := by
  cases h with
  | d h => cases h with | tup h1 h2 => exact ⟨_, _, rfl, h1, h2⟩
  | fun_ h _ => cases h
/-- what stands fast -/
theorem post_same {w : Wd} {st : Store} {H : Hp} {d : D} {v : V} {Q : VK} {E : XK} (hs : StOk T w st H) (r : Rp T w.F d v) (h : PostE T w Q E (.ok d st)) : Q v H := h w H v (Le.rfl' _) hs (.d r)
theorem binP_ok {op : Operator} (hK : T.K = X.K) : OpD T X W (binaryOp op) (binP op) := by
  intro pins s σ H w st dx dy vx vy ux uy Q I hs rx ry r1 r2 hp
  -- ints
  by_cases h1 : ∃ i j, dx = .int i ∧ dy = .int j
  · obtain ⟨i, j, rfl, rfl⟩ := h1
    rw [rx.int_inv] at r1
    rw [ry.int_inv] at r2
    simp only [binP] at hp
    split at hp
    · rename_i k hk
      exact binI_ok pins s σ H _ _ ux uy Q I r1 r2 ⟨i, j, k, rfl, rfl, hk, post_same hs (.int k) hp⟩
    · exact hp.elim
  by_cases h2 : ∃ i j, dx = .str i ∧ dy = .str j
  · obtain ⟨i, j, rfl, rfl⟩ := h2
    rw [rx.str_inv] at r1
    rw [ry.str_inv] at r2
    simp only [binP] at hp
    split at hp
    · rename_i hk
      obtain ⟨rfl, hk⟩ := hk
      exact op_add_str pins s σ H _ _ ux uy Q I r1 r2 ⟨i, j, rfl, rfl, of_decide_eq_true hk, post_same hs (.str _) hp⟩
    · exact hp.elim
  by_cases h3 : ∃ i j, dx = .tup i ∧ dy = .tup j
  · obtain ⟨xs, ys, rfl, rfl⟩ := h3
    obtain ⟨a, vs, rfl, h4, h5⟩ := rx.tup_inv
    obtain ⟨b, us, rfl, h6, h7⟩ := ry.tup_inv
    simp only [binP] at hp
    split at hp
    · rename_i hk
      obtain ⟨rfl, hk⟩ := hk
      have l1 := h5.len
      have l2 := h7.len
      refine op_catA pins s σ H _ _ ux uy Q I r1 r2 ⟨a, b, vs, us, rfl, rfl, hK ▸ hs.sub.sqt h4, hK ▸ hs.sub.sqt h6, by omega, fun z => ?_, fun _ z => ?_, fun _ _ p n => ?_⟩
      · subst z
        cases h5
        exact post_same hs (.tup h6 h7) hp
      · subst z
        cases h7
        rw [List.append_nil] at hp
        exact post_same hs (.tup h4 h5) hp
      · exact post_tup hs n (h5.app h7) hp
    · exact hp.elim
  by_cases h8 : ∃ k, dy = .int k
  · obtain ⟨k, rfl⟩ := h8
    have e : binP op dx (.int k) st = match lstD st dx with
      | some xs => if op = .Mult ∧ k < 2 ^ 40 ∧ -(2 ^ 40) < k ∧ xs.length * k.toNat ≤ sizeLine then .ok (.lst (List.replicate k.toNat xs).flatten) st else .stuck
      | none => .stuck := by
      cases dx <;> first | rfl | exact absurd ⟨_, _, rfl, rfl⟩ h1
    rw [e] at hp
    split at hp
    · rename_i xs hx
      obtain ⟨a, vs, rfl, h4, h5⟩ := lst_at hs rx hx
      rw [ry.int_inv] at r2
      split at hp
      · rename_i hk
        obtain ⟨rfl, k1, k2, k3⟩ := hk
        refine op_rep pins s σ H _ _ ux uy Q I r1 r2 ⟨a, k, vs, rfl, rfl, h4, by omega, by omega, by rw [← h5.len]; exact k3, fun p n => ?_⟩
        exact post_lst hs n (rps_flat h5 _) hp
      · exact hp.elim
    · exact hp.elim
  · have e : binP op dx dy st = match lstD st dx, lstD st dy with
      | some xs, some ys => if op = .Add ∧ xs.length + ys.length ≤ sizeLine then .ok (.lst (xs ++ ys)) st else .stuck
      | _, _ => .stuck := by
      cases dx <;> cases dy <;> first | rfl | exact absurd ⟨_, rfl⟩ h8 | exact absurd ⟨_, _, rfl, rfl⟩ h2 | exact absurd ⟨_, _, rfl, rfl⟩ h3
    rw [e] at hp
    split at hp
    · rename_i xs ys hx hy
      obtain ⟨a, vs, rfl, h4, h5⟩ := lst_at hs rx hx
      obtain ⟨b, us, rfl, h6, h7⟩ := lst_at hs ry hy
      split at hp
      · rename_i hk
        obtain ⟨rfl, hk⟩ := hk
        have l1 := h5.len
        have l2 := h7.len
        exact op_cat pins s σ H _ _ ux uy Q I r1 r2 ⟨a, b, vs, us, rfl, rfl, h4, h6, by omega, fun p n => post_lst hs n (h5.app h7) hp⟩
      · exact hp.elim
    · exact hp.elim
/-! ### unary -/
def f1 (g : D → Store → Oe) (a : Fx) : Fx := fun env st => (a env st).bind g
def UnD (T : Tb) (X : Cx) (W : WX) (f : Value → Sem Value) (g : D → Store → Oe) : Prop :=
  ∀ (pins : List (Addr × Obj)) (s : Shared) (σ : L2.St) (H : Hp) (w : Wd) (st : Store) (dx : D) (vx : V) (ux : Value) (Q : VK), Inv X pins σ H s → StOk T w st H → Rv T w dx vx → RelV vx ux →
    PostE T w Q (fun c d H' => W c d σ H') (g dx st) → wpAny (model X.prog X.w) X.A (f ux) (EP X pins σ Q) X.xe s
def negP : D → Store → Oe
  | .int i, st => .ok (.int (-i)) st
  | _, _ => .stuck
theorem negP_ok : UnD T X W (unaryOp .USub) negP := by
  intro pins s σ H w st dx vx ux Q I hs rx r1 hp
  cases dx with
  | int i =>
    rw [rx.int_inv] at r1
    exact un_neg pins s σ H _ ux Q I r1 ⟨i, rfl, post_same hs (.int _) hp⟩
  | _ => exact hp.elim
theorem de_un {op : UnaryOp} {g : D → Store → Oe} (ho : UnD T X W (unaryOp op) g) {a : Expr} {fa : Fx} {pos : Pos} (ha : PE X a (tE T fa W)) : PE X (.UnaryOp op a pos) (tE T (f1 g fa) W) := by
  refine ⟨fun pins s σ H Q I h => ?_⟩
  obtain ⟨w, env, st, hs, he, hp⟩ := h
  refine wpAny_UnaryOp (thn (ha.run pins s σ H _ I (tE.bind hs he hp)) fun u s1 ⟨x, H1, I1, r1, w1, d, st1, l, hs1, he1, rx, hq⟩ => ?_)
  exact ho pins s1 σ H1 w1 st1 d x u Q I1 hs1 rx r1 hq
/-! ### truth -/
def truD (st : Store) : D → Option Bool
  | .non => some false
  | .bl b => some b
  | .int i => some (i != 0)
  | .str x => if x.length ≤ sizeLine then some ((x.length : Int) != 0) else none
  | d => (seqD st d).map fun p => !p.2.isEmpty
def bTr (f : Fx) : Fb := fun env st => (f env st).bind fun d st1 => match truD st1 d with
  | some b => .ok b st1
  | none => .stuck
theorem emp_of {F : Hp} {xs : List D} {vs : List V} (r : Rps T F xs vs) : xs.isEmpty = vs.isEmpty := by
  cases r <;> rfl
theorem tru_at (hK : T.K = X.K) {w : Wd} {st : Store} {H : Hp} {d : D} {v : V} {b : Bool} (hs : StOk T w st H) (r : Rv T w d v) (h : truD st d = some b) : TruV X.K v H b := by
  by_cases hq : ∃ p, seqD st d = some p
  · obtain ⟨⟨c, xs⟩, hq⟩ := hq
    have e : truD st d = (seqD st d).map fun p => !p.2.isEmpty := by
      cases d <;> first | rfl | (simp [seqD] at hq)
    rw [e, hq] at h
    cases h
    obtain ⟨a, vs, rfl, h2, h3⟩ := seq_or hs r hq
    rw [hK] at h3
    rcases h3 with h3 | h3
    · exact .inl ⟨vs, h3, by show (!xs.isEmpty) = _; rw [emp_of h2]⟩
    · exact .inr (.inl ⟨vs, h3, by show (!xs.isEmpty) = _; rw [emp_of h2]⟩)
  · have hn : seqD st d = none := by
      cases q : seqD st d with
      | none => rfl
      | some p => exact absurd ⟨p, q⟩ hq
    cases d with
    | non => cases h; rw [r.non_inv]; rfl
    | bl b => cases h; rw [r.bl_inv]; rfl
    | int i => cases h; rw [r.int_inv]; rfl
    | str x =>
      simp only [truD] at h
      split at h
      · rename_i hx
        cases h
        rw [r.str_inv]
        exact ⟨hx, rfl⟩
      · cases h
    | _ => simp [truD, hn] at h
theorem dt_tr (hK : T.K = X.K) {a : Expr} {fa : Fx} (ha : PE X a (tE T fa W)) (he : ∀ whole, isTrue a X.env whole = (do let v ← whole; standAt a.pos; holding [v] (truthy v))) : PT X a (tT T (bTr fa) W) :=
  PT.imp (pt_truth ha he) fun σ H Q ⟨w, env, st, hs, hE, hp⟩ => by
    obtain ⟨w1, env1, st1, a1, a2, a3⟩ := tE.bind hs hE hp
    refine ⟨w1, env1, st1, a1, a2, a3.imp (fun x H1 ⟨u, d, st2, l, s2, e2, rx, hp2⟩ => ?_) fun _ _ _ z => z⟩
    split at hp2
    · rename_i b hb
      exact ⟨b, tru_at hK s2 rx hb, hp2 u H1 b (Le.rfl' _) s2 rfl⟩
    · exact hp2.elim
/-- a comparison as a test -/
theorem dt_cmp {op : CmpOp} {g : D → D → Store → Oe} (hK : T.K = X.K) (ho : OpD T X W (compareOp op) g) {a b : Expr} {fa fb : Fx} {pos : Pos} (ha : PE X a (tE T fa W)) (hb : PE X b (tE T fb W)) (hm : behindInMarks op b = false) : PT X (.Compare a [op] [b] pos) (tT T (bTr (f2 g fa fb)) W) := by
  refine ⟨fun pins s σ H Q I h => ?_⟩
  obtain ⟨w, env, st, hs, he, hp⟩ := h
  have h2 := tE.bind hs he hp
  refine wpAny_isTrue_Compare1 (thn (ho.run ha hb I h2) fun v s1 h1 => thn h1 fun u s2 h2 => thn h2 fun c s3 ⟨x, H1, I1, r1, w1, d, st1, l, hs1, he1, rx, hq⟩ => ?_) hm
  split at hq
  · rename_i k hk
    exact thn (tru_ok pins s3 σ H1 x c Q I1 r1 ⟨k, tru_at hK hs1 rx hk, hq w1 H1 k (Le.rfl' _) hs1 rfl⟩) fun _ _ z => z
  · exact hq.elim
def bAnd (a b : Fb) : Fb := fun env st => (a env st).bind fun c st1 => if c = true then b env st1 else .ok false st1
def bOr (a b : Fb) : Fb := fun env st => (a env st).bind fun c st1 => if c = true then .ok true st1 else b env st1
def bNot (a : Fb) : Fb := fun env st => (a env st).bind fun c st1 => .ok (!c) st1
structure PWd (T : Tb) (X : Cx) (W : WX) (e : Expr) (f : Fb) : Prop where
  h : PW X e (tT T f W)
theorem PW.imp {e : Expr} {t t' : TT} (h : PW X e t) (i : ∀ σ H Q, t' σ H Q → t σ H Q) : PW X e t' := ⟨fun wh pins s σ H Q I q => h.run wh pins s σ H Q I (i _ _ _ q)⟩
theorem dw_and1 {a : Expr} {f : Fb} {pos : Pos} (h : PT X a (tT T f W)) : PW X (.BoolOp .And [a] pos) (tT T f W) := pw_and1 h
theorem dw_or1 {a : Expr} {f : Fb} {pos : Pos} (h : PT X a (tT T f W)) : PW X (.BoolOp .Or [a] pos) (tT T f W) := pw_or1 h
theorem dw_and {a b : Expr} {rest : List Expr} {f g : Fb} {pos : Pos} (h : PT X a (tT T f W)) (h2 : PW X (.BoolOp .And (b :: rest) pos) (tT T g W)) : PW X (.BoolOp .And (a :: b :: rest) pos) (tT T (bAnd f g) W) :=
  PW.imp (pw_and h h2) fun σ H Q ⟨w, env, st, hs, he, hp⟩ => by
    obtain ⟨w1, env1, st1, a1, a2, a3⟩ := tT.bind hs he hp
    refine ⟨w1, env1, st1, a1, a2, a3.imp (fun c H1 ⟨u, st2, l, s2, e2, hp2⟩ => ?_) fun _ _ _ z => z⟩
    cases c with
    | true => rw [if_pos rfl] at hp2 ⊢; exact ⟨u, env, st2, s2, e2, hp2⟩
    | false => rw [if_neg Bool.false_ne_true] at hp2 ⊢; exact hp2 u H1 false (Le.rfl' _) s2 rfl
theorem dw_or {a b : Expr} {rest : List Expr} {f g : Fb} {pos : Pos} (h : PT X a (tT T f W)) (h2 : PW X (.BoolOp .Or (b :: rest) pos) (tT T g W)) : PW X (.BoolOp .Or (a :: b :: rest) pos) (tT T (bOr f g) W) :=
  PW.imp (pw_or h h2) fun σ H Q ⟨w, env, st, hs, he, hp⟩ => by
    obtain ⟨w1, env1, st1, a1, a2, a3⟩ := tT.bind hs he hp
    refine ⟨w1, env1, st1, a1, a2, a3.imp (fun c H1 ⟨u, st2, l, s2, e2, hp2⟩ => ?_) fun _ _ _ z => z⟩
    cases c with
    | true => rw [if_pos rfl] at hp2 ⊢; exact hp2 u H1 true (Le.rfl' _) s2 rfl
    | false => rw [if_neg Bool.false_ne_true] at hp2 ⊢; exact ⟨u, env, st2, s2, e2, hp2⟩
theorem dt_not {a : Expr} {f : Fb} {pos : Pos} (h : PT X a (tT T f W)) : PT X (.UnaryOp .Not a pos) (tT T (bNot f) W) :=
  PT.imp (pt_not h) fun σ H Q ⟨w, env, st, hs, he, hp⟩ => by
    obtain ⟨w1, env1, st1, a1, a2, a3⟩ := tT.bind hs he hp
    exact ⟨w1, env1, st1, a1, a2, a3.imp (fun c H1 ⟨u, st2, l, s2, e2, hp2⟩ => hp2 u H1 (!c) (Le.rfl' _) s2 rfl) fun _ _ _ z => z⟩
/-! ### and, or, not as values -/
def fAnd (a b : Fx) : Fx := fun env st => (a env st).bind fun x st1 => match truD st1 x with
  | some true => b env st1
  | some false => .ok x st1
  | none => .stuck
def fOr (a b : Fx) : Fx := fun env st => (a env st).bind fun x st1 => match truD st1 x with
  | some true => .ok x st1
  | some false => b env st1
  | none => .stuck
def notP (st : Store) (d : D) : Oe := match truD st d with
  | some b => .ok (.bl (!b)) st
  | none => .stuck
def fNot (a : Fx) : Fx := fun env st => (a env st).bind fun x st1 => notP st1 x
theorem de_one {a : Expr} {op : BoolOp} {f : Fx} {pos : Pos} (h : PE X a (tE T f W)) : PE X (.BoolOp op [a] pos) (tE T f W) := pe_one h
theorem de_and (hK : T.K = X.K) {a b : Expr} {rest : List Expr} {f g : Fx} {pos : Pos} (h : PE X a (tE T f W)) (h2 : PE X (.BoolOp .And (b :: rest) pos) (tE T g W)) : PE X (.BoolOp .And (a :: b :: rest) pos) (tE T (fAnd f g) W) :=
  PE.imp (pe_andT h h2) fun σ H Q ⟨w, env, st, hs, he, hp⟩ => by
    obtain ⟨w1, env1, st1, a1, a2, a3⟩ := tE.bind hs he hp
    refine ⟨w1, env1, st1, a1, a2, a3.imp (fun x H1 ⟨u, d, st2, l, s2, e2, rx, hp2⟩ => ?_) fun _ _ _ z => z⟩
    split at hp2
    · rename_i hb
      exact ⟨true, tru_at hK s2 rx hb, by rw [if_pos rfl]; exact ⟨u, env, st2, s2, e2, hp2⟩⟩
    · rename_i hb
      exact ⟨false, tru_at hK s2 rx hb, by rw [if_neg Bool.false_ne_true]; exact hp2 u H1 x (Le.rfl' _) s2 rx⟩
    · exact hp2.elim
theorem de_or (hK : T.K = X.K) {a b : Expr} {rest : List Expr} {f g : Fx} {pos : Pos} (h : PE X a (tE T f W)) (h2 : PE X (.BoolOp .Or (b :: rest) pos) (tE T g W)) : PE X (.BoolOp .Or (a :: b :: rest) pos) (tE T (fOr f g) W) :=
  PE.imp (pe_orT h h2) fun σ H Q ⟨w, env, st, hs, he, hp⟩ => by
    obtain ⟨w1, env1, st1, a1, a2, a3⟩ := tE.bind hs he hp
    refine ⟨w1, env1, st1, a1, a2, a3.imp (fun x H1 ⟨u, d, st2, l, s2, e2, rx, hp2⟩ => ?_) fun _ _ _ z => z⟩
    split at hp2
    · rename_i hb
      exact ⟨true, tru_at hK s2 rx hb, by rw [if_pos rfl]; exact hp2 u H1 x (Le.rfl' _) s2 rx⟩
    · rename_i hb
      exact ⟨false, tru_at hK s2 rx hb, by rw [if_neg Bool.false_ne_true]; exact ⟨u, env, st2, s2, e2, hp2⟩⟩
    · exact hp2.elim
theorem de_not (hK : T.K = X.K) {a : Expr} {f : Fx} {pos : Pos} (h : PE X a (tE T f W)) : PE X (.UnaryOp .Not a pos) (tE T (fNot f) W) :=
  PE.imp (pe_notT h) fun σ H Q ⟨w, env, st, hs, he, hp⟩ => by
    obtain ⟨w1, env1, st1, a1, a2, a3⟩ := tE.bind hs he hp
    refine ⟨w1, env1, st1, a1, a2, a3.imp (fun x H1 ⟨u, d, st2, l, s2, e2, rx, hp2⟩ => ?_) fun _ _ _ z => z⟩
    unfold notP at hp2
    split at hp2
    · rename_i b hb
      exact ⟨b, tru_at hK s2 rx hb, post_same s2 (.bl _) hp2⟩
    · exact hp2.elim
def fIf (c : Fb) (a b : Fx) : Fx := fun env st => (c env st).bind fun k st1 => if k = true then a env st1 else b env st1
theorem de_if {c a b : Expr} {fc : Fb} {fa fb : Fx} {pos : Pos} (hc : PT X c (tT T fc W)) (ha : PE X a (tE T fa W)) (hb : PE X b (tE T fb W)) : PE X (.IfExp c a b pos) (tE T (fIf fc fa fb) W) :=
  PE.imp (pe_ifExp hc ha hb) fun σ H Q ⟨w, env, st, hs, he, hp⟩ => by
    obtain ⟨w1, env1, st1, a1, a2, a3⟩ := tT.bind hs he hp
    refine ⟨w1, env1, st1, a1, a2, a3.imp (fun c H1 ⟨u, st2, l, s2, e2, hp2⟩ => ?_) fun _ _ _ z => z⟩
    cases c with
    | true => rw [if_pos rfl] at hp2 ⊢; exact ⟨u, env, st2, s2, e2, hp2⟩
    | false => rw [if_neg Bool.false_ne_true] at hp2 ⊢; exact ⟨u, env, st2, s2, e2, hp2⟩
/-! ### displays -/
def fTup (a : Fa) : Fx := fun env st => (a env st).bind fun ds st1 => match frzs ds st1 with
  | some (es, st2) => if es.length ≤ sizeLine then .ok (.tup es) st2 else .stuck
  | none => .stuck
def fLst (a : Fa) : Fx := fun env st => (a env st).bind fun ds st1 => match frzs ds st1 with
  | some (es, st2) => if es.length ≤ sizeLine then .ok (.lst es) st2 else .stuck
  | none => .stuck
theorem de_tup {es : List Expr} {k : Nat} {f : Fa} {pos : Pos} (h : PA X es (tA T f W)) : PE X (.Tuple es k pos) (tE T (fTup f) W) :=
  PE.imp (pe_tup h) fun σ H Q ⟨w, env, st, hs, he, hp⟩ => by
    obtain ⟨w1, env1, st1, a1, a2, a3⟩ := tA.bind hs he hp
    refine ⟨w1, env1, st1, a1, a2, a3.imp (fun xs H1 ⟨u, ds, st2, l, s2, e2, rx, hp2⟩ => ?_) fun _ _ _ z => z⟩
    split at hp2
    · rename_i es' st3 hf
      obtain ⟨u2, l2, s3, r3⟩ := frzs_ok s2 rx hf
      split at hp2
      · rename_i hz
        exact ⟨by rw [← r3.len]; exact hz, fun p n => post_tup s3 n r3 (Post.up l2 hp2)⟩
      · exact hp2.elim
    · exact hp2.elim
theorem de_lst {es : List Expr} {f : Fa} {pos : Pos} (h : PA X es (tA T f W)) : PE X (.List es pos) (tE T (fLst f) W) :=
  PE.imp (pe_lst h) fun σ H Q ⟨w, env, st, hs, he, hp⟩ => by
    obtain ⟨w1, env1, st1, a1, a2, a3⟩ := tA.bind hs he hp
    refine ⟨w1, env1, st1, a1, a2, a3.imp (fun xs H1 ⟨u, ds, st2, l, s2, e2, rx, hp2⟩ => ?_) fun _ _ _ z => z⟩
    split at hp2
    · rename_i es' st3 hf
      obtain ⟨u2, l2, s3, r3⟩ := frzs_ok s2 rx hf
      split at hp2
      · rename_i hz
        exact ⟨by rw [← r3.len]; exact hz, fun p n => post_lst s3 n r3 (Post.up l2 hp2)⟩
      · exact hp2.elim
    · exact hp2.elim
end
end Ev
set_option Elab.async false
set_option linter.all false
set_option maxRecDepth 100000
set_option maxHeartbeats 1000000
namespace Ev
open PySem PySem.Spec L2
/-! ### statements -/
inductive Os where
  | nx (env : Env) (st : Store) | rt (d : D) (st : Store) | bk (env : Env) (st : Store) | ct (env : Env) (st : Store)
  | exc (c : Nat) (fs : List (Nat × D)) (env : Env) (st : Store) | stuck
abbrev Fs := Env → Store → Os
def PostS (T : Tb) (w : Wd) (Dn : Ends) (W : WX) : Os → Prop
  | .nx env st => ∀ u σ H, Le w u → StOk T u st H → EnvOk T u env σ → Dn.nx σ H
  | .rt d st => ∀ u H v, Le w u → StOk T u st H → Rv T u d v → Dn.rt v H
  | .bk env st => ∀ u σ H, Le w u → StOk T u st H → EnvOk T u env σ → Dn.bk σ H
  | .ct env st => ∀ u σ H, Le w u → StOk T u st H → EnvOk T u env σ → Dn.ct σ H
  | .exc c fs env st => ∀ u σ H cls d, Le w u → StOk T u st H → EnvOk T u env σ → ExOk T u c fs cls d → W cls d σ H
  | .stuck => False
theorem PostS.up {T : Tb} {w u : Wd} {Dn : Ends} {W : WX} (l : Le w u) : ∀ {o : Os}, PostS T w Dn W o → PostS T u Dn W o
  | .nx _ _, h => fun x σ H a => h x σ H (l.tr a)
  | .rt _ _, h => fun x H v a => h x H v (l.tr a)
  | .bk _ _, h => fun x σ H a => h x σ H (l.tr a)
  | .ct _ _, h => fun x σ H a => h x σ H (l.tr a)
  | .exc _ _ _ _, h => fun x σ H c d a => h x σ H c d (l.tr a)
  | .stuck, h => h
def tS (T : Tb) (f : Fs) (W : WX) : TS := fun Dn σ H => ∃ w env st, StOk T w st H ∧ EnvOk T w env σ ∧ PostS T w Dn W (f env st)
theorem PS.imp {X : Cx} {s : Stmt} {t t' : TS} (h : PS X s t) (i : ∀ Dn σ H, t' Dn σ H → t Dn σ H) : PS X s t' := ⟨fun pins s σ H Dn I q => h.run pins s σ H Dn I (i _ _ _ q)⟩
theorem PSs.imp {X : Cx} {s : List Stmt} {t t' : TS} (h : PSs X s t) (i : ∀ Dn σ H, t' Dn σ H → t Dn σ H) : PSs X s t' := ⟨fun pins s σ H Dn I q => h.run pins s σ H Dn I (i _ _ _ q)⟩
/-- an expression's outcome, then a statement's end -/
def Ou.thn {α : Type} (o : Ou α) (env : Env) (k : α → Store → Os) : Os := match o with
  | .ok d st => k d st
  | .exc c fs st => .exc c fs env st
  | .stuck => .stuck
section
variable {T : Tb} {X : Cx} {W : WX}
theorem PostS.bind {α β : Type} {R : Wd → α → β → Prop} {w : Wd} {Dn : Ends} {o : Ou α} {env : Env} {σ : L2.St} {k : α → Store → Os} (he : EnvOk T w env σ) (h : PostS T w Dn W (o.thn env k)) :
    Post T R w (fun v H => ∃ u d st, Le w u ∧ StOk T u st H ∧ EnvOk T u env σ ∧ R u d v ∧ PostS T u Dn W (k d st)) (fun c d H' => W c d σ H') o := by
  cases o with
  | ok d st => exact fun u H v l s r => ⟨u, d, st, l, s, he.up l, r, PostS.up l h⟩
  | exc c fs st => exact fun u H cls d l s x => h u σ H cls d l s (he.up l) x
  | stuck => exact h
theorem sE {w : Wd} {env : Env} {st : Store} {σ : L2.St} {H : Hp} {Dn : Ends} {f : Fx} {k : D → Store → Os} (hs : StOk T w st H) (he : EnvOk T w env σ) (h : PostS T w Dn W ((f env st).thn env k)) :
    tE T f W σ H (fun v H => ∃ u d st, Le w u ∧ StOk T u st H ∧ EnvOk T u env σ ∧ Rv T u d v ∧ PostS T u Dn W (k d st)) := ⟨w, env, st, hs, he, PostS.bind he h⟩
theorem sT {w : Wd} {env : Env} {st : Store} {σ : L2.St} {H : Hp} {Dn : Ends} {f : Fb} {k : Bool → Store → Os} (hs : StOk T w st H) (he : EnvOk T w env σ) (h : PostS T w Dn W ((f env st).thn env k)) :
    tT T f W σ H (fun b H => ∃ u st, Le w u ∧ StOk T u st H ∧ EnvOk T u env σ ∧ PostS T u Dn W (k b st)) :=
  ⟨w, env, st, hs, he, (PostS.bind (R := fun _ a b => a = b) he h).imp (fun _ _ ⟨u, d, st, l, a, b, e, c⟩ => by subst e; exact ⟨u, st, l, a, b, c⟩) fun _ _ _ z => z⟩
def sNil : Fs := fun env st => .nx env st
def sSeq (a b : Fs) : Fs := fun env st => match a env st with
  | .nx env1 st1 => b env1 st1
  | o => o
theorem ds_nil : PSs X [] (tS T sNil W) := PSs.imp pss_nil fun Dn σ H ⟨w, env, st, hs, he, hp⟩ => hp w σ H (Le.rfl' _) hs he
theorem ds_pass {pos : Pos} : PS X (.Pass pos) (tS T sNil W) := PS.imp ps_pass fun Dn σ H ⟨w, env, st, hs, he, hp⟩ => hp w σ H (Le.rfl' _) hs he
theorem ds_brk {pos : Pos} : PS X (.Break pos) (tS T (fun env st => .bk env st) W) := PS.imp ps_break fun Dn σ H ⟨w, env, st, hs, he, hp⟩ => hp w σ H (Le.rfl' _) hs he
theorem ds_cont {pos : Pos} : PS X (.Continue pos) (tS T (fun env st => .ct env st) W) := PS.imp ps_continue fun Dn σ H ⟨w, env, st, hs, he, hp⟩ => hp w σ H (Le.rfl' _) hs he
theorem ds_cons {s : Stmt} {r : List Stmt} {a b : Fs} (h : PS X s (tS T a W)) (h2 : PSs X r (tS T b W)) : PSs X (s :: r) (tS T (sSeq a b) W) :=
  PSs.imp (pss_cons h h2) fun Dn σ H ⟨w, env, st, hs, he, hp⟩ => by
    refine ⟨w, env, st, hs, he, ?_⟩
    unfold sSeq at hp
    cases q : a env st with
    | nx e1 s1 =>
      rw [q] at hp
      exact fun u σ1 H1 l a1 a2 => ⟨u, e1, s1, a1, a2, PostS.up l hp⟩
    | rt d s1 => rw [q] at hp; exact hp
    | bk e1 s1 => rw [q] at hp; exact hp
    | ct e1 s1 => rw [q] at hp; exact hp
    | exc c fs e1 s1 => rw [q] at hp; exact hp
    | stuck => rw [q] at hp; exact hp
def sRet (f : Fx) : Fs := fun env st => (f env st).thn env fun d st1 => .rt d st1
theorem ds_ret {e : Expr} {f : Fx} {pos : Pos} (h : PE X e (tE T f W)) : PS X (.Return (some e) pos) (tS T (sRet f) W) :=
  PS.imp (ps_ret h) fun Dn σ H ⟨w, env, st, hs, he, hp⟩ => by
    obtain ⟨w1, env1, st1, a1, a2, a3⟩ := sE hs he hp
    exact ⟨w1, env1, st1, a1, a2, a3.imp (fun v H1 ⟨u, d, st2, l, s2, e2, rv, hp2⟩ => hp2 u H1 v (Le.rfl' _) s2 rv) fun _ _ _ z => z⟩
theorem ds_retN {pos : Pos} : PS X (.Return none pos) (tS T (fun env st => .rt .non st) W) := PS.imp ps_retN fun Dn σ H ⟨w, env, st, hs, he, hp⟩ => hp w H .non (Le.rfl' _) hs (.d .non)
def sDrop (f : Fx) : Fs := fun env st => (f env st).thn env fun _ st1 => .nx env st1
theorem ds_expr {e : Expr} {f : Fx} {pos : Pos} (h : PE X e (tE T f W)) (hsw : swapsWith e none pos.line X.env = pure false) : PS X (.Expr e pos) (tS T (sDrop f) W) :=
  PS.imp (ps_expr h hsw) fun Dn σ H ⟨w, env, st, hs, he, hp⟩ => by
    obtain ⟨w1, env1, st1, a1, a2, a3⟩ := sE hs he hp
    exact ⟨w1, env1, st1, a1, a2, a3.imp (fun v H1 ⟨u, d, st2, l, s2, e2, rv, hp2⟩ => hp2 u σ H1 (Le.rfl' _) s2 e2) fun _ _ _ z => z⟩
def sIf (c : Fb) (a b : Fs) : Fs := fun env st => (c env st).thn env fun k st1 => if k = true then a env st1 else b env st1
theorem ds_if {c : Expr} {a b : List Stmt} {fc : Fb} {fa fb : Fs} {pos : Pos} (hc : PT X c (tT T fc W)) (ha : PSs X a (tS T fa W)) (hb : PSs X b (tS T fb W)) : PS X (.If c a b pos) (tS T (sIf fc fa fb) W) :=
  PS.imp (ps_if hc ha hb) fun Dn σ H ⟨w, env, st, hs, he, hp⟩ => by
    obtain ⟨w1, env1, st1, a1, a2, a3⟩ := sT hs he hp
    refine ⟨w1, env1, st1, a1, a2, a3.imp (fun k H1 ⟨u, st2, l, s2, e2, hp2⟩ => ?_) fun _ _ _ z => z⟩
    cases k with
    | true => rw [if_pos rfl] at hp2 ⊢; exact ⟨u, env, st2, s2, e2, hp2⟩
    | false => rw [if_neg Bool.false_ne_true] at hp2 ⊢; exact ⟨u, env, st2, s2, e2, hp2⟩
/-! ### targets -/
abbrev Fg := D → Env → Store → Os
def tG (T : Tb) (g : Fg) (W : WX) : TG := fun v σ H Q => ∃ w env st d, StOk T w st H ∧ EnvOk T w env σ ∧ Rv T w d v ∧ PostS T w { nx := Q, rt := fun _ _ => False } W (g d env st)
theorem PG.imp {tg : Expr} {t t' : TG} (h : PG X tg t) (i : ∀ v σ H Q, t' v σ H Q → t v σ H Q) : PG X tg t' := ⟨fun pins s σ H v u Q I r q => h.run pins s σ H v u Q I r (i _ _ _ _ q)⟩
theorem PGs.imp {tg : List Expr} {t t' : TGs} (h : PGs X tg t) (i : ∀ v σ H Q, t' v σ H Q → t v σ H Q) : PGs X tg t' := ⟨fun pins s σ H v u Q I r q => h.run pins s σ H v u Q I r (i _ _ _ _ q)⟩
def gV (i : Nat) : Fg := fun d env st => .nx (env.set i (some d)) st
theorem dg_v {i : Nat} {x : Str} {pos : Pos} (hN : X.N.Nodup) (hi : X.N[i]? = some x) (hx : Loc X.env.scope x) (hf : X.fn x = true ∨ X.env.scope.names.lookup x = some .local) : PG X (.Name x pos) (tG T (gV i) W) :=
  PG.imp (pg_name hN hi hx hf) fun v σ H Q ⟨w, env, st, d, hs, he, r, hp⟩ => hp w _ H (Le.rfl' _) hs (he.set r)
abbrev Fgs := List D → Env → Store → Os
def tGs (T : Tb) (g : Fgs) (W : WX) : TGs := fun vs σ H Q => ∃ w env st ds, StOk T w st H ∧ EnvOk T w env σ ∧ Rps T w.F ds vs ∧ PostS T w { nx := Q, rt := fun _ _ => False } W (g ds env st)
def gNil' : Fgs := fun ds env st => match ds with
  | [] => .nx env st
  | _ => .stuck
def gCons' (g : Fg) (r : Fgs) : Fgs := fun ds env st => match ds with
  | d :: ds => (match g d env st with
    | .nx env1 st1 => r ds env1 st1
    | o => o)
  | [] => .stuck
theorem dgs_nil : PGs X [] (tGs T gNil' W) := PGs.imp pgs_nil fun vs σ H Q ⟨w, env, st, ds, hs, he, r, hp⟩ => by
  cases r with
  | nil => exact ⟨rfl, hp w σ H (Le.rfl' _) hs he⟩
  | cons _ _ => exact hp.elim
theorem dgs_cons {e : Expr} {es : List Expr} {g : Fg} {r : Fgs} (h1 : PG X e (tG T g W)) (h2 : PGs X es (tGs T r W)) (hs : (assignEach (e :: es) X.env).map (·.2) = assign e X.env :: (assignEach es X.env).map (·.2)) : PGs X (e :: es) (tGs T (gCons' g r) W) :=
  PGs.imp (pgs_cons h1 h2 hs) fun vs σ H Q ⟨w, env, st, ds, hs, he, rr, hp⟩ => by
    cases rr with
    | nil => exact hp.elim
    | @cons d v ds vs r1 r2 =>
      refine ⟨v, vs, rfl, w, env, st, d, hs, he, .d r1, ?_⟩
      simp only [gCons'] at hp
      cases q : g d env st with
      | nx e1 s1 =>
        rw [q] at hp
        exact fun u σ1 H1 l a1 a2 => ⟨u, e1, s1, ds, a1, a2, r2.up l.F, PostS.up l hp⟩
      | rt d s1 => rw [q] at hp; exact hp
      | bk e1 s1 => rw [q] at hp; exact hp
      | ct e1 s1 => rw [q] at hp; exact hp
      | exc c fs e1 s1 => rw [q] at hp; exact hp
      | stuck => rw [q] at hp; exact hp
/-- a row taken apart; n: how many targets there are -/
def gRow (n : Nat) (g : Fgs) : Fg := fun d env st => match seqD st d with
  | some (_, xs) => if xs.length = n then g xs env st else .stuck
  | none => .stuck
theorem dg_row {es : List Expr} {k : Nat} {n : Nat} {g : Fgs} {pos : Pos} (hK : T.K = X.K) (hc : X.calm = true) (h : PGs X es (tGs T g W)) (hn : (assignEach es X.env).length = n) (hst : (assignEach es X.env).findIdx? (·.1) = none) : PG X (.Tuple es k pos) (tG T (gRow n g) W) := by
  refine ⟨fun pins s σ H v u Q I r hw => ?_⟩
  obtain ⟨w, env, st, d, hs, he, rv, hp⟩ := hw
  unfold gRow at hp
  split at hp
  · rename_i b xs hq
    split at hp
    · rename_i hl
      obtain ⟨a, vs, rfl, h2, h3⟩ := seq_at hs rv hq
      have h4 : tGs T g W vs σ H Q := ⟨w, env, st, xs, hs, he, h2, hp⟩
      rw [hK] at h3
      cases b with
      | true =>
        rw [if_pos rfl] at h3
        exact (pg_tup hc h hn hst).run pins s σ H _ u Q I r ⟨a, vs, rfl, h3, by rw [← h2.len]; exact hl, h4⟩
      | false =>
        rw [if_neg Bool.false_ne_true] at h3
        exact (pg_lst hc h hn hst).run pins s σ H _ u Q I r ⟨a, vs, rfl, h3, by rw [← h2.len]; exact hl, h4⟩
    · exact hp.elim
  · exact hp.elim
end
end Ev
set_option Elab.async false
set_option linter.all false
set_option maxRecDepth 100000
set_option maxHeartbeats 1000000
namespace Ev
open PySem PySem.Spec L2
section
variable {T : Tb} {X : Cx} {W : WX}
/-! ### subscripts -/
theorem rps_atI {F : Hp} {xs : List D} {vs : List V} {i : Int} {d : D} (r : Rps T F xs vs) (h : atI xs i = some d) : ∃ v, atI vs i = some v ∧ Rp T F d v := by
  unfold atI at h ⊢
  rw [← r.len]
  cases e : ixN xs.length i with
  | none => rw [e] at h; cases h
  | some j => rw [e] at h; exact r.get h
/-- a dict's entry -/
def getK (k : Key) : List (Key × D) → Option D
  | [] => none
  | (g, d) :: r => if g = k then some d else getK k r
def setK (k : Key) (d : D) : List (Key × D) → List (Key × D)
  | [] => [(k, d)]
  | (g, e) :: r => if g = k then (g, d) :: r else (g, e) :: setK k d r
def keyD : D → Option Key
  | .int i => some (.inl i)
  | .str x => some (.inr x)
  | _ => none
def dctD (st : Store) : D → Option (List (Key × D))
  | .ref i => match st[i]? with
    | some (.dct kvs) => some kvs
    | _ => none
  | _ => none
abbrev PK' (T : Tb) (F : Hp) : List (Key × D) → List (Key × V) → Prop := Paired fun (p : Key × D) (q : Key × V) => p.1 = q.1 ∧ Rp T F p.2 q.2
theorem pk_get {F : Hp} {k : Key} {d : D} : ∀ {kvs : List (Key × D)} {vs : List (Key × V)}, PK' T F kvs vs → getK k kvs = some d → ∃ v, valV vs k = some v ∧ Rp T F d v
  | _, _, .nil, h => by simp [getK] at h
  | (g, e) :: r, (g', v) :: r', .cons ⟨h1, h2⟩ t, h => by
    have h1 : g = g' := h1
    subst h1
    simp only [getK] at h
    split at h
    · rename_i hk
      cases h
      exact ⟨v, valV_pos hk, h2⟩
    · rename_i hk
      obtain ⟨v', a, b⟩ := pk_get t h
      exact ⟨v', (valV_neg hk).trans a, b⟩
theorem pk_any {F : Hp} {k : Key} : ∀ {kvs : List (Key × D)} {vs : List (Key × V)}, PK' T F kvs vs → (vs.any fun kv => decide (kv.1 = k)) = (kvs.any fun kv => decide (kv.1 = k))
  | _, _, .nil => rfl
  | (g, e) :: r, (g', v) :: r', .cons ⟨h1, h2⟩ t => by
    have h1 : g = g' := h1
    subst h1
    rw [List.any_cons, List.any_cons, pk_any t]
theorem pk_set {F : Hp} {k : Key} {d : D} {v : V} (r : Rp T F d v) : ∀ {kvs : List (Key × D)} {vs : List (Key × V)}, PK' T F kvs vs → (vs.map (·.1)).Nodup → PK' T F (setK k d kvs) (putK vs k v)
  | _, _, .nil, _ => .cons ⟨rfl, r⟩ .nil
  | (g, e) :: kr, (g', u) :: r', .cons ⟨h1, h2⟩ t, nd => by
    have h1 : g = g' := h1
    subst h1
    have nd' : (r'.map (·.1)).Nodup := (List.nodup_cons.mp nd).2
    by_cases hk : g = k
    · subst hk
      have hn : ∀ p ∈ r', ¬ p.1 = g := fun p hp e => (List.nodup_cons.mp nd).1 (by rw [← e]; exact List.mem_map_of_mem (f := (·.1)) hp)
      have e1 : r'.map (fun kv => if kv.1 = g then (kv.1, v) else kv) = r' := by
        conv => rhs; rw [← List.map_id r']
        exact List.map_congr_left fun p hp => if_neg (hn p hp)
      have e2 : putK ((g, u) :: r') g v = (g, v) :: r' := by
        unfold putK
        rw [if_pos (by simp), List.map_cons, e1]
        simp
      rw [e2]
      have e3 : setK g d ((g, e) :: kr) = (g, d) :: kr := if_pos rfl
      rw [e3]
      exact .cons ⟨rfl, r⟩ t
    · have e2 : putK ((g, u) :: r') k v = (g, u) :: putK r' k v := by
        unfold putK
        by_cases ha : (r'.any fun kv => decide (kv.1 = k)) = true
        · rw [if_pos ha, if_pos (by rw [List.any_cons, ha]; simp), List.map_cons, if_neg hk]
        · rw [if_neg ha, if_neg (by rw [List.any_cons, Bool.eq_false_iff.mpr ha, decide_eq_false hk]; simp)]
          rfl
      rw [e2]
      have e3 : setK k d ((g, e) :: kr) = (g, e) :: setK k d kr := if_neg hk
      rw [e3]
      exact .cons ⟨rfl, h2⟩ (pk_set r t nd')
theorem keyD_kV {w : Wd} {d : D} {v : V} {k : Key} (r : Rv T w d v) (h : keyD d = some k) : v = kV k := by
  cases d with
  | int i => cases h; rw [r.int_inv]; rfl
  | str x => cases h; rw [r.str_inv]; rfl
  | _ => cases h
theorem dct_at {w : Wd} {st : Store} {H : Hp} {d : D} {v : V} {kvs : List (Key × D)} (hs : StOk T w st H) (r : Rv T w d v) (h : dctD st d = some kvs) : ∃ i a vs, d = .ref i ∧ v = .ref a ∧ w.ρ[i]? = some a ∧ st[i]? = some (.dct kvs) ∧ w.F a = none ∧ (vs.map (·.1)).Nodup ∧ H a = some (.dK vs) ∧ PK' T w.F kvs vs := by
  cases r with
  | d r => cases r <;> cases h
  | fun_ h1 _ => cases d <;> first | (cases h; done) | (cases h1; done)
  | @ref i a ha =>
    simp only [dctD] at h
    split at h
    · rename_i hx
      cases h
      obtain ⟨h1, vs, h0, h2, h3⟩ := hs.cell i _ _ hx ha
      exact ⟨i, a, vs, rfl, rfl, ha, hx, h1, h0, h2, h3⟩
    · cases h
/-- o[i], by values -/
def ixP (o i : D) (st : Store) : Oe := match seqD st o, i with
  | some (_, xs), .int k => (match atI xs k with
    | some d => .ok d st
    | none => .stuck)
  | some _, _ => .stuck
  | none, i => match o, i with
    | .str z, .int k => if z.length ≤ sizeLine then (match atI z.cps.toList k with
      | some c => .ok (.str ⟨#[c]⟩) st
      | none => .stuck) else .stuck
    | o, i => match dctD st o, keyD i with
      | some kvs, some k => (match getK k kvs with
        | some d => .ok d st
        | none => .stuck)
      | _, _ => .stuck
theorem ixP_ok (hK : T.K = X.K) (hu : X.A.units + 1 < cLine) {value slice : Expr} {pins : List (Addr × Obj)} {s : Shared} {σ : L2.St} {H : Hp} {w : Wd} {st : Store} {dx dy : D} {vx vy : V} {ux uy : Value} {Q : VK} {E : XK} (I : Inv X pins σ H s) (hs : StOk T w st H) (rx : Rv T w dx vx) (ry : Rv T w dy vy)
    (r1 : RelV vx ux) (r2 : RelV vy uy) (hp : PostE T w Q E (ixP dx dy st)) (hsub : subscripted slice false ux uy = operate [ux, uy] (getItem ux uy)) : wpAny (model X.prog X.w) X.A (PyProof.Rows.subscriptTail value slice ux uy) (EP X pins σ Q) X.xe s := by
  unfold ixP at hp
  split at hp
  · rename_i b xs k hq
    split at hp
    · rename_i d hd
      rw [ry.int_inv] at r2
      obtain ⟨a, vs, rfl, h2, h3⟩ := seq_at hs rx hq
      obtain ⟨v, h4, h5⟩ := rps_atI h2 hd
      rw [hK] at h3
      cases b with
      | true => rw [if_pos rfl] at h3; exact ix_tup value slice pins s σ H _ _ ux uy Q I r1 r2 ⟨a, vs, k, v, rfl, rfl, h3, h4, post_same hs h5 hp⟩ hsub
      | false => rw [if_neg Bool.false_ne_true] at h3; exact ix_list value slice pins s σ H _ _ ux uy Q I r1 r2 ⟨a, vs, k, v, rfl, rfl, h3, h4, post_same hs h5 hp⟩ hsub
    · exact hp.elim
  · exact hp.elim
  · split at hp
    · rename_i o' i' z k hnone
      split at hp
      · rename_i hz
        split at hp
        · rename_i c hc
          rw [rx.str_inv] at r1
          rw [ry.int_inv] at r2
          exact ix_str value slice pins s σ H _ _ ux uy Q I r1 r2 ⟨z, k, c, rfl, rfl, hz, hc, post_same hs (.str _) hp⟩ hsub
        · exact hp.elim
      · exact hp.elim
    · split at hp
      · rename_i kvs k hd hk
        split at hp
        · rename_i d hg
          obtain ⟨i, a, vs, rfl, rfl, _, _, _, _, h4, h5⟩ := dct_at hs rx hd
          obtain ⟨v, h6, h7⟩ := pk_get h5 hg
          rw [keyD_kV ry hk] at r2
          obtain rfl : ux = Value.ref a := r1
          have g : DGet H a (kV k) (some v) := by
            rw [← h6]
            exact DGet.k h4
          exact PyProof.Rows.tail_any (dict_typeIs I g) PySem.F.slot_dict_getitem.lookup (d_getItem hu I g r2 fun w' s' I' rw' => ⟨v, H, I', rw', post_same hs h7 hp⟩) hsub
        · exact hp.elim
      · exact hp.elim
theorem de_ix (hK : T.K = X.K) (hu : X.A.units + 1 < cLine) {a b : Expr} {fa fb : Fx} {pos : Pos} (ha : PE X a (tE T fa W)) (hb : PE X b (tE T fb W)) (hsl : PlainIx b) : PE X (.Subscript a b pos) (tE T (f2 ixP fa fb) W) := by
  refine ⟨fun pins s σ H Q I h => ?_⟩
  obtain ⟨w, env, st, hs, he, hp⟩ := h
  refine PyProof.Rows.Subscript_ (binT ha hb I (R := fun x y H2 => ∃ u dx dy st2, StOk T u st2 H2 ∧ Rv T u dx x ∧ Rv T u dy y ∧ PostE T u Q (fun c d H' => W c d σ H') (ixP dx dy st2)) ?_ fun v u s2 x y H2 I2 rx ry q => ?_)
  · obtain ⟨w1, env1, st1, a1, a2, a3⟩ := tE.bind hs he hp
    refine ⟨w1, env1, st1, a1, a2, a3.imp (fun x H1 ⟨u, d, st2, l, s2, e2, rx, hp2⟩ => ?_) fun _ _ _ z => z⟩
    obtain ⟨w3, env3, st3, b1, b2, b3⟩ := tE.bind s2 e2 hp2
    exact ⟨w3, env3, st3, b1, b2, b3.imp (fun y H2 ⟨u2, d2, st4, l2, s4, e4, ry, hp4⟩ => ⟨u2, d, d2, st4, s4, rx.up l2, ry, hp4⟩) fun _ _ _ z => z⟩
  · obtain ⟨w2, dx, dy, st2, s2', q1, q2, hq⟩ := q
    exact ixP_ok hK hu I2 s2' q1 q2 rx ry hq (hsl _ _)
/-! ### slices -/
abbrev Fo := Env → Store → Ou (Option Int)
def oNone : Fo := fun _ st => .ok none st
def oSome (f : Fx) : Fo := fun env st => (f env st).bind fun d st1 => match d with
  | .int i => .ok (some i) st1
  | _ => .stuck
def tO (T : Tb) (f : Fo) (W : WX) : TO := fun σ H Q => ∃ w env st, StOk T w st H ∧ EnvOk T w env σ ∧ Post T (fun _ (a b : Option Int) => a = b) w Q (fun c d H' => W c d σ H') (f env st)
theorem PO.imp {e : Option Expr} {t t' : TO} (h : PO X e t) (i : ∀ σ H Q, t' σ H Q → t σ H Q) : PO X e t' := ⟨fun pins s σ H Q I q => h.run pins s σ H Q I (i _ _ _ q)⟩
theorem do_none : PO X none (tO T oNone W) := PO.imp po_none fun σ H Q ⟨w, env, st, hs, he, hp⟩ => hp w H none (Le.rfl' _) hs rfl
theorem do_some {e : Expr} {f : Fx} (h : PE X e (tE T f W)) : PO X (some e) (tO T (oSome f) W) := PO.imp (po_some h) fun σ H Q ⟨w, env, st, hs, he, hp⟩ => by
  obtain ⟨w1, env1, st1, a1, a2, a3⟩ := tE.bind hs he hp
  refine ⟨w1, env1, st1, a1, a2, a3.imp (fun x H1 ⟨u, d, st2, l, s2, e2, rx, hp2⟩ => ?_) fun _ _ _ z => z⟩
  split at hp2
  · rename_i i
    exact ⟨i, rx.int_inv, hp2 u H1 (some i) (Le.rfl' _) s2 rfl⟩
  · exact hp2.elim
def cutL {α : Type} (xs : List α) (lo hi : Option Int) : List α := (xs.drop (HT.sIx xs.length 0 lo)).take (HT.sIx xs.length xs.length hi - HT.sIx xs.length 0 lo)
def slP (o : D) (lo hi : Option Int) (st : Store) : Oe := match seqD st o with
  | some (true, xs) => .ok (.tup (cutL xs lo hi)) st
  | some (false, xs) => .ok (.lst (cutL xs lo hi)) st
  | none => match o with
    | .str z => if z.length ≤ sizeLine then .ok (.str (cutS z lo hi)) st else .stuck
    | _ => .stuck
def fSl (f : Fx) (lo hi : Fo) : Fx := fun env st => (f env st).bind fun o st1 => (lo env st1).bind fun l st2 => (hi env st2).bind fun h st3 => slP o l h st3
theorem rps_cut {F : Hp} {xs : List D} {vs : List V} {lo hi : Option Int} (r : Rps T F xs vs) : Rps T F (cutL xs lo hi) (cutV vs lo hi) := by
  unfold cutL cutV
  rw [r.len]
  exact (r.drop _).take _
theorem tO.bind {β γ : Type} {S : Wd → γ → β → Prop} {w : Wd} {env : Env} {st : Store} {σ : L2.St} {H : Hp} {Q : β → Hp → Prop} {f : Fo} {k : Option Int → Store → Ou γ} (hs : StOk T w st H) (he : EnvOk T w env σ) (h : Post T S w Q (fun c d H' => W c d σ H') ((f env st).bind k)) :
    tO T f W σ H (fun b H1 => ∃ u st1, Le w u ∧ StOk T u st1 H1 ∧ EnvOk T u env σ ∧ Post T S u Q (fun c d H' => W c d σ H') (k b st1)) :=
  ⟨w, env, st, hs, he, (Post.bind (R := fun _ a b => a = b) h).imp (fun _ _ ⟨u, d, st1, l, a, b, c⟩ => by subst b; exact ⟨u, st1, l, a, he.up l, c⟩) fun _ _ _ x => x⟩
def rSlAll (K : PySem.W.Frag) : V → Option Int → Option Int → Hp → VK → Prop := fun x lo hi H Q => (rSlA K x lo hi H Q ∨ rSlL K x lo hi H Q) ∨ rSlS x lo hi H Q
theorem cut_whole {α : Type} {xs : List α} {lo hi : Option Int} (h : HT.sIx xs.length 0 lo = 0 ∧ HT.sIx xs.length xs.length hi = xs.length) : cutL xs lo hi = xs := by
  unfold cutL
  rw [h.1, h.2]
  simp
theorem de_sl (hK : T.K = X.K) {e : Expr} {lo hi : Option Expr} {f : Fx} {fl fh : Fo} {pos p2 : Pos} (h : PE X e (tE T f W)) (hl : PO X lo (tO T fl W)) (hh : PO X hi (tO T fh W)) : PE X (.Subscript e (.Slice lo hi none p2) pos) (tE T (fSl f fl fh) W) :=
  PE.imp (pe_slice (SlR.or (SlR.or sl_tupA sl_list) sl_str) h hl hh) fun σ H Q ⟨w, env, st, hs, he, hp⟩ => by
    obtain ⟨w1, env1, st1, a1, a2, a3⟩ := tE.bind hs he hp
    refine ⟨w1, env1, st1, a1, a2, a3.imp (fun x H1 ⟨u, d, st2, l, s2, e2, rx, hp2⟩ => ?_) fun _ _ _ z => z⟩
    obtain ⟨w3, env3, st3, b1, b2, b3⟩ := tO.bind s2 e2 hp2
    refine ⟨w3, env3, st3, b1, b2, b3.imp (fun lo' H2 ⟨u2, st4, l2, s4, e4, hp4⟩ => ?_) fun _ _ _ z => z⟩
    obtain ⟨w5, env5, st5, c1, c2, c3⟩ := tO.bind s4 e4 hp4
    refine ⟨w5, env5, st5, c1, c2, c3.imp (fun hi' H3 ⟨u3, st6, l3, s6, e6, hp6⟩ => ?_) fun _ _ _ z => z⟩
    have rx3 := (rx.up l2).up l3
    unfold slP at hp6
    split at hp6
    · rename_i xs hq
      obtain ⟨a, vs, rfl, h2, h3⟩ := seq_at s6 rx3 hq
      rw [if_pos rfl, hK] at h3
      refine .inl (.inl ⟨a, vs, rfl, h3, fun z => ?_, fun _ p n => post_tup s6 n (rps_cut h2) hp6⟩)
      rw [← h2.len] at z
      rw [cut_whole z] at hp6
      cases rx3 with
      | fun_ h1 _ => cases d <;> first | (cases hq; done) | (cases h1; done)
      | d r =>
        cases r with
        | tup g1 g2 => cases hq; exact post_same s6 (.tup g1 g2) hp6
        | _ => cases hq
      | ref ha =>
        simp only [seqD] at hq
        split at hq <;> cases hq
    · rename_i xs hq
      obtain ⟨a, vs, rfl, h2, h3⟩ := seq_at s6 rx3 hq
      rw [if_neg Bool.false_ne_true, hK] at h3
      exact .inl (.inr ⟨a, vs, rfl, h3, fun p n => post_lst s6 n (rps_cut h2) hp6⟩)
    · split at hp6
      · split at hp6
        · rename_i hz
          exact .inr ⟨_, rx3.str_inv, hz, post_same s6 (.str _) hp6⟩
        · exact hp6.elim
      · exact hp6.elim
/-! ### assignments -/
/-- behind a target -/
def Os.tgt : Os → Os
  | .nx e s => .nx e s
  | .exc c fs e s => .exc c fs e s
  | _ => .stuck
theorem PostS.tgt {w : Wd} {Dn : Ends} : ∀ {o : Os}, PostS T w Dn W o.tgt → PostS T w { nx := Dn.nx, rt := fun _ _ => False } W o
  | .nx _ _, h => h
  | .exc _ _ _ _, h => h
  | .rt _ _, h => h.elim
  | .bk _ _, h => h.elim
  | .ct _ _, h => h.elim
  | .stuck, h => h.elim
def sAsg (f : Fx) (g : Fg) : Fs := fun env st => (f env st).thn env fun d st1 => (g d env st1).tgt
theorem ds_asg {tg e : Expr} {f : Fx} {g : Fg} {pos : Pos} (h : PE X e (tE T f W)) (hg : PG X tg (tG T g W)) (hs : swapsWithSole [tg] e pos.line X.env = pure false) (hw : swappedStores [tg] e X.env = pure none)
    (h1 : (assignEach [tg] X.env).map (·.2) = [assign tg X.env]) : PS X (.Assign [tg] e pos) (tS T (sAsg f g) W) :=
  PS.imp (ps_asg h hg hs hw h1) fun Dn σ H ⟨w, env, st, hs, he, hp⟩ => by
    obtain ⟨w1, env1, st1, a1, a2, a3⟩ := sE hs he hp
    exact ⟨w1, env1, st1, a1, a2, a3.imp (fun v H1 ⟨u, d, st2, l, s2, e2, rv, hp2⟩ => ⟨u, env, st2, d, s2, e2, rv, PostS.tgt hp2⟩) fun _ _ _ z => z⟩
def sSet (i : Nat) (f : Fx) : Fs := fun env st => (f env st).thn env fun d st1 => .nx (env.set i (some d)) st1
theorem ds_set {i : Nat} {x : Str} {e : Expr} {f : Fx} {pos pos' : Pos} (hN : X.N.Nodup) (hi : X.N[i]? = some x) (hx : Loc X.env.scope x) (h : PE X e (tE T f W)) (hs : swapsWith e (some (.Name x pos')) pos.line X.env = pure false) (hf : X.fn x = true ∨ X.env.scope.names.lookup x = some .local) : PS X (.Assign [.Name x pos'] e pos) (tS T (sSet i f) W) :=
  PS.imp (ps_set hN hi hx h hs hf) fun Dn σ H ⟨w, env, st, hs, he, hp⟩ => by
    obtain ⟨w1, env1, st1, a1, a2, a3⟩ := sE hs he hp
    exact ⟨w1, env1, st1, a1, a2, a3.imp (fun v H1 ⟨u, d, st2, l, s2, e2, rv, hp2⟩ => hp2 u _ H1 (Le.rfl' _) s2 (e2.set rv)) fun _ _ _ z => z⟩
/-- a, b = x, y -/
def sPar2 (i j : Nat) (a : Fa) : Fs := fun env st => (a env st).thn env fun ds st1 => match ds with
  | [d, e] => .nx ((env.set i (some d)).set j (some e)) st1
  | _ => .stuck
def sPar3 (i j k : Nat) (a : Fa) : Fs := fun env st => (a env st).thn env fun ds st1 => match ds with
  | [d, e, f] => .nx (((env.set i (some d)).set j (some e)).set k (some f)) st1
  | _ => .stuck
theorem sA {w : Wd} {env : Env} {st : Store} {σ : L2.St} {H : Hp} {Dn : Ends} {f : Fa} {k : List D → Store → Os} (hs : StOk T w st H) (he : EnvOk T w env σ) (h : PostS T w Dn W ((f env st).thn env k)) :
    tA T f W σ H (fun v H => ∃ u d st, Le w u ∧ StOk T u st H ∧ EnvOk T u env σ ∧ Rvs T u d v ∧ PostS T u Dn W (k d st)) := ⟨w, env, st, hs, he, PostS.bind he h⟩
theorem ds_par2 {i j : Nat} {x y : Str} {a b : Expr} {f : Fa} {px py pt pos : Pos} {kt k2 : Nat} {pt2 : Pos} (hc : X.calm = true) (hN : X.N.Nodup) (hi : X.N[i]? = some x) (hj : X.N[j]? = some y) (hij : i ≠ j) (hx : X.env.scope.names.lookup x = some .local) (hy : X.env.scope.names.lookup y = some .local) (ha : PA X [a, b] (tA T f W))
    (hw : swappedStores [.Tuple [.Name x px, .Name y py] kt pt] (.Tuple [a, b] k2 pt2) X.env = pure (some [x, y])) (hs : swapsWithSole [.Tuple [.Name x px, .Name y py] kt pt] (.Tuple [a, b] k2 pt2) pos.line X.env = pure false) :
    PS X (.Assign [.Tuple [.Name x px, .Name y py] kt pt] (.Tuple [a, b] k2 pt2) pos) (tS T (sPar2 i j f) W) :=
  PS.imp (ps_par hc hN hi hj hij hx hy ha hw hs) fun Dn σ H ⟨w, env, st, hs, he, hp⟩ => by
    obtain ⟨w1, env1, st1, a1, a2, a3⟩ := sA hs he hp
    refine ⟨w1, env1, st1, a1, a2, a3.imp (fun vs H1 ⟨u, ds, st2, l, s2, e2, rv, hp2⟩ => ?_) fun _ _ _ z => z⟩
    split at hp2
    · cases rv with
      | cons r1 rr => cases rr with
        | cons r2 rr => cases rr; exact ⟨_, _, rfl, hp2 u _ H1 (Le.rfl' _) s2 ((e2.set r1).set r2)⟩
    · exact hp2.elim
theorem ds_par3 {i j k : Nat} {x y z : Str} {a b c : Expr} {f : Fa} {px py pz pt pos : Pos} {kt k2 : Nat} {pt2 : Pos} (hc : X.calm = true) (hN : X.N.Nodup) (hi : X.N[i]? = some x) (hj : X.N[j]? = some y) (hk : X.N[k]? = some z) (hij : i ≠ j) (hik : i ≠ k) (hjk : j ≠ k)
    (hx : X.env.scope.names.lookup x = some .local) (hy : X.env.scope.names.lookup y = some .local) (hz : X.env.scope.names.lookup z = some .local) (ha : PA X [a, b, c] (tA T f W))
    (hw : swappedStores [.Tuple [.Name x px, .Name y py, .Name z pz] kt pt] (.Tuple [a, b, c] k2 pt2) X.env = pure (some [x, y, z])) (hs : swapsWithSole [.Tuple [.Name x px, .Name y py, .Name z pz] kt pt] (.Tuple [a, b, c] k2 pt2) pos.line X.env = pure false) :
    PS X (.Assign [.Tuple [.Name x px, .Name y py, .Name z pz] kt pt] (.Tuple [a, b, c] k2 pt2) pos) (tS T (sPar3 i j k f) W) :=
  PS.imp (ps_par3 hc hN hi hj hk hij hik hjk hx hy hz ha hw hs) fun Dn σ H ⟨w, env, st, hs, he, hp⟩ => by
    obtain ⟨w1, env1, st1, a1, a2, a3⟩ := sA hs he hp
    refine ⟨w1, env1, st1, a1, a2, a3.imp (fun vs H1 ⟨u, ds, st2, l, s2, e2, rv, hp2⟩ => ?_) fun _ _ _ z => z⟩
    split at hp2
    · cases rv with
      | cons r1 rr => cases rr with
        | cons r2 rr => cases rr with
          | cons r3 rr => cases rr; exact ⟨_, _, _, rfl, hp2 u _ H1 (Le.rfl' _) s2 (((e2.set r1).set r2).set r3)⟩
    · exact hp2.elim
end
end Ev
set_option Elab.async false
set_option linter.all false
set_option maxRecDepth 100000
set_option maxHeartbeats 1000000
namespace Ev
open PySem PySem.Spec L2
/-! ### patterns of names -/
inductive Pt where
  | nm (i : Nat) | tp (ps : List Pt)
mutual
def ptSet : Pt → D → Env → Store → Option Env
  | .nm i, d, env, _ => some (env.set i (some d))
  | .tp ps, d, env, st => match seqD st d with
    | some (_, xs) => if xs.length = ps.length then ptSets ps xs env st else none
    | none => none
def ptSets : List Pt → List D → Env → Store → Option Env
  | [], [], env, _ => some env
  | p :: ps, d :: ds, env, st => (ptSet p d env st).bind fun e => ptSets ps ds e st
  | _, _, _, _ => none
end
mutual
def Pt.slots : Pt → List Nat
  | .nm i => [i]
  | .tp ps => slotss ps
def slotss : List Pt → List Nat
  | [] => []
  | p :: ps => p.slots ++ slotss ps
end
/-- two rows of slots agree but at some -/
def Agr (l : List Nat) (σ τ : L2.St) : Prop := σ.length = τ.length ∧ ∀ i, i ∉ l → σ[i]? = τ[i]?
theorem Agr.rfl' (l : List Nat) (σ : L2.St) : Agr l σ σ := ⟨rfl, fun _ _ => rfl⟩
theorem Agr.tr {l m : List Nat} {σ τ υ : L2.St} (a : Agr l σ τ) (b : Agr m τ υ) : Agr (l ++ m) σ υ :=
  ⟨a.1.trans b.1, fun i hi => (a.2 i fun z => hi (List.mem_append_left _ z)).trans (b.2 i fun z => hi (List.mem_append_right _ z))⟩
theorem Agr.set (σ : L2.St) (i : Nat) (v : Option V) : Agr [i] σ (σ.set i v) := ⟨by simp, fun j hj => by rw [List.getElem?_set_ne (fun z => hj (by simp [z]))]⟩
section
variable {T : Tb} {X : Cx} {W : WX}
def tPt (T : Tb) (p : Pt) : TG := fun v σ H Q => ∃ w env st d env', StOk T w st H ∧ EnvOk T w env σ ∧ Rv T w d v ∧ ptSet p d env st = some env' ∧ ∀ τ, EnvOk T w env' τ → Agr p.slots σ τ → Q τ H
def tPts (T : Tb) (ps : List Pt) : TGs := fun vs σ H Q => ∃ w env st ds env', StOk T w st H ∧ EnvOk T w env σ ∧ Rps T w.F ds vs ∧ ptSets ps ds env st = some env' ∧ ∀ τ, EnvOk T w env' τ → Agr (slotss ps) σ τ → Q τ H
theorem dp_nm {i : Nat} {x : Str} {pos : Pos} (hN : X.N.Nodup) (hi : X.N[i]? = some x) (hx : Loc X.env.scope x) (hf : X.fn x = true ∨ X.env.scope.names.lookup x = some .local) : PG X (.Name x pos) (tPt T (.nm i)) :=
  PG.imp (pg_name hN hi hx hf) fun v σ H Q ⟨w, env, st, d, env', hs, he, r, hp, q⟩ => by
    simp only [ptSet] at hp
    cases hp
    exact q _ (he.set r) (Agr.set _ _ _)
theorem dps_nil : PGs X [] (tPts T []) := PGs.imp pgs_nil fun vs σ H Q ⟨w, env, st, ds, env', hs, he, r, hp, q⟩ => by
  cases r with
  | nil =>
    simp only [ptSets] at hp
    cases hp
    exact ⟨rfl, q σ he (Agr.rfl' _ _)⟩
  | cons _ _ => simp only [ptSets] at hp; cases hp
theorem dps_cons {e : Expr} {es : List Expr} {p : Pt} {ps : List Pt} (h1 : PG X e (tPt T p)) (h2 : PGs X es (tPts T ps)) (hs : (assignEach (e :: es) X.env).map (·.2) = assign e X.env :: (assignEach es X.env).map (·.2)) : PGs X (e :: es) (tPts T (p :: ps)) :=
  PGs.imp (pgs_cons h1 h2 hs) fun vs σ H Q ⟨w, env, st, ds, env', hs, he, rr, hp, q⟩ => by
    cases rr with
    | nil => simp only [ptSets] at hp; cases hp
    | @cons d v ds vs r1 r2 =>
      simp only [ptSets] at hp
      cases hq : ptSet p d env st with
      | none => rw [hq] at hp; cases hp
      | some e1 =>
        rw [hq, Option.bind_some] at hp
        refine ⟨v, vs, rfl, w, env, st, d, e1, hs, he, .d r1, hq, fun τ ht ag => ?_⟩
        exact ⟨w, e1, st, ds, env', hs, ht, r2, hp, fun υ hu ag2 => q υ hu (ag.tr ag2)⟩
theorem dp_tp {es : List Expr} {k : Nat} {ps : List Pt} {pos : Pos} (hK : T.K = X.K) (hc : X.calm = true) (h : PGs X es (tPts T ps)) (hn : (assignEach es X.env).length = ps.length) (hst : (assignEach es X.env).findIdx? (·.1) = none) : PG X (.Tuple es k pos) (tPt T (.tp ps)) := by
  refine ⟨fun pins s σ H v u Q I r hw => ?_⟩
  obtain ⟨w, env, st, d, env', hs, he, rv, hp, q⟩ := hw
  simp only [ptSet] at hp
  split at hp
  · rename_i b xs hq
    split at hp
    · rename_i hl
      obtain ⟨a, vs, rfl, h2, h3⟩ := seq_at hs rv hq
      have h4 : tPts T ps vs σ H Q := ⟨w, env, st, xs, env', hs, he, h2, hp, q⟩
      rw [hK] at h3
      cases b with
      | true =>
        rw [if_pos rfl] at h3
        exact (pg_tup hc h hn hst).run pins s σ H _ u Q I r ⟨a, vs, rfl, h3, by rw [← h2.len]; exact hl, h4⟩
      | false =>
        rw [if_neg Bool.false_ne_true] at h3
        exact (pg_lst hc h hn hst).run pins s σ H _ u Q I r ⟨a, vs, rfl, h3, by rw [← h2.len]; exact hl, h4⟩
    · cases hp
  · cases hp
/-- a pattern as a target of an assignment -/
def gPt (p : Pt) : Fg := fun d env st => match ptSet p d env st with
  | some env' => .nx env' st
  | none => .stuck
theorem dg_pt {tg : Expr} {p : Pt} (h : PG X tg (tPt T p)) : PG X tg (tG T (gPt p) W) := PG.imp h fun v σ H Q ⟨w, env, st, d, hs, he, r, hp⟩ => by
  unfold gPt at hp
  split at hp
  · rename_i env' hq
    exact ⟨w, env, st, d, env', hs, he, r, hq, fun τ ht _ => hp w τ H (Le.rfl' _) hs ht⟩
  · exact hp.elim
/-! ### while -/
def wLoop (c : Fb) (b : Fs) : Nat → Env → Store → Os
  | 0, _, _ => .stuck
  | n + 1, env, st => (c env st).thn env fun k st1 => if k = true then (match b env st1 with
      | .nx e s => wLoop c b n e s
      | .ct e s => wLoop c b n e s
      | .bk e s => .nx e s
      | o => o) else .nx env st1
theorem ds_while {c : Expr} {body : List Stmt} {fc : Fb} {fb : Fs} {pos : Pos} (n : Nat) (hp : PassesOwn (model X.prog X.w) X.A X.env X.xe) (hc : PT X c (tT T fc W)) (hb : PSs X body (tS T fb W)) : PS X (.While c body [] pos) (tS T (wLoop fc fb n) W) :=
  PS.imp (ps_while hp hc hb) fun Dn σ H ⟨w, env, st, hs, he, hq⟩ => by
    refine ⟨fun m σ H => ∃ u env st, StOk T u st H ∧ EnvOk T u env σ ∧ PostS T u Dn W (wLoop fc fb m env st), ⟨n, w, env, st, hs, he, hq⟩, fun m σ H ⟨u, env, st, hs, he, hq⟩ => ?_⟩
    cases m with
    | zero => exact hq.elim
    | succ m =>
      unfold wLoop at hq
      obtain ⟨w1, env1, st1, a1, a2, a3⟩ := sT hs he hq
      refine ⟨w1, env1, st1, a1, a2, a3.imp (fun k H1 ⟨u2, st2, l, s2, e2, hp2⟩ => ?_) fun _ _ _ z => z⟩
      cases k with
      | false => rw [if_neg Bool.false_ne_true] at hp2 ⊢; exact hp2 u2 σ H1 (Le.rfl' _) s2 e2
      | true =>
        rw [if_pos rfl] at hp2 ⊢
        refine ⟨fun σ' H' => ∃ u env st, StOk T u st H' ∧ EnvOk T u env σ' ∧ PostS T u Dn W (wLoop fc fb m env st), fun σ' H' h => ⟨m, Nat.lt_succ_self _, h⟩, u2, env, st2, s2, e2, ?_⟩
        cases q : fb env st2 with
        | nx e s => rw [q] at hp2; exact fun x σ1 H2 l a b => ⟨x, e, s, a, b, PostS.up l hp2⟩
        | ct e s => rw [q] at hp2; exact fun x σ1 H2 l a b => ⟨x, e, s, a, b, PostS.up l hp2⟩
        | bk e s => rw [q] at hp2; exact hp2
        | rt d s => rw [q] at hp2; exact hp2
        | exc c fs e s => rw [q] at hp2; exact hp2
        | stuck => rw [q] at hp2; exact hp2
/-! ### what is walked -/
def gEq : D → D → Bool
  | .non, .non => true
  | .bl a, .bl b => decide (a = b)
  | .int a, .int b => decide (a = b)
  | .str a, .str b => decide (a = b)
  | _, _ => false
def gEqs : List D → List D → Bool
  | [], [] => true
  | a :: as, b :: bs => gEq a b && gEqs as bs
  | _, _ => false
theorem gEq_ok {F G : Hp} {a b : D} {v u : V} (h : gEq a b = true) (ra : Rp T F a v) (rb : Rp T G b u) : v = u := by
  cases ra <;> cases rb <;> first | rfl | (simp [gEq] at h; done) | (simp only [gEq, decide_eq_true_eq] at h; rw [h])
theorem gEqs_ok {F G : Hp} : ∀ {as bs : List D} {vs us : List V}, gEqs as bs = true → Rps T F as vs → Rps T G bs us → vs = us
  | [], [], _, _, _, .nil, .nil => rfl
  | a :: as, b :: bs, _, _, h, .cons r rr, .cons q qq => by
    simp only [gEqs, Bool.and_eq_true] at h
    rw [gEq_ok h.1 r q, gEqs_ok h.2 rr qq]
  | [], b :: bs, _, _, h, _, _ => by cases h
  | a :: as, [], _, _, h, _, _ => by cases h
/-- what is walked: the items; the cell whose list must keep them meanwhile -/
abbrev Wk := List D × Option Nat
def wB (p : Wk) (st : Store) : Bool := match p.2 with
  | none => true
  | some i => match st[i]? with
    | some (.lst ys) => gEqs ys p.1
    | _ => false
abbrev Fi := Env → Store → Ou Wk
def ItOk (T : Tb) (w : Wd) (ds : Wk) (J : It) : Prop := ∀ u st H, Le w u → StOk T u st H → wB ds st = true →
  (∀ (i : Nat) (d : D), ds.1[i]? = some d → J.go i H ∧ ∀ x H', J.yld i H x H' → ∃ x', Le u x' ∧ StOk T x' st H' ∧ Rp T x'.F d x) ∧ J.stop ds.1.length H
theorem ItOk.up {w u : Wd} {ds : Wk} {J : It} (l : Le w u) (h : ItOk T w ds J) : ItOk T u ds J := fun x st H a => h x st H (l.tr a)
def tI (T : Tb) (f : Fi) (W : WX) : TI := fun σ H R => ∃ w env st, StOk T w st H ∧ EnvOk T w env σ ∧ Post T (ItOk T) w (fun J H' => R J H') (fun c d H' => W c d σ H') (f env st)
theorem PI.imp {tg e : Expr} {t t' : TI} (h : PI X tg e t) (i : ∀ σ H Q, t' σ H Q → t σ H Q) : PI X tg e t' := ⟨fun pins s σ H Q I q => h.run pins s σ H Q I (i _ _ _ q)⟩
theorem tI.bind {β γ : Type} {S : Wd → γ → β → Prop} {w : Wd} {env : Env} {st : Store} {σ : L2.St} {H : Hp} {Q : β → Hp → Prop} {f : Fi} {k : Wk → Store → Ou γ} (hs : StOk T w st H) (he : EnvOk T w env σ) (h : Post T S w Q (fun c d H' => W c d σ H') ((f env st).bind k)) :
    tI T f W σ H (fun J H1 => ∃ u ds st1, Le w u ∧ StOk T u st1 H1 ∧ EnvOk T u env σ ∧ ItOk T u ds J ∧ Post T S u Q (fun c d H' => W c d σ H') (k ds st1)) :=
  ⟨w, env, st, hs, he, (Post.bind h).imp (fun _ _ ⟨u, d, st1, l, a, b, c⟩ => ⟨u, d, st1, l, a, he.up l, b, c⟩) fun _ _ _ x => x⟩
theorem sI {w : Wd} {env : Env} {st : Store} {σ : L2.St} {H : Hp} {Dn : Ends} {f : Fi} {k : Wk → Store → Os} (hs : StOk T w st H) (he : EnvOk T w env σ) (h : PostS T w Dn W ((f env st).thn env k)) :
    tI T f W σ H (fun v H => ∃ u d st, Le w u ∧ StOk T u st H ∧ EnvOk T u env σ ∧ ItOk T u d v ∧ PostS T u Dn W (k d st)) := ⟨w, env, st, hs, he, PostS.bind he h⟩
theorem it_list' {w : Wd} {a : Addr} {vs : List V} {ds : List D} (h : ∀ u st H, Le w u → StOk T u st H → SqL X.K H a vs) (r : Rps T w.F ds vs) : ItOk T w (ds, none) (Itl X.K a) := fun u st H l hs _ => by
  have hq := h u st H l hs
  refine ⟨fun i d hd => ?_, vs, hq, Nat.le_of_eq r.len.symm⟩
  obtain ⟨v, h1, h2⟩ := r.get hd
  refine ⟨⟨vs, v, hq, h1⟩, fun x H' ⟨e, q⟩ => ?_⟩
  subst e
  have z := q vs hq
  rw [h1] at z
  cases z
  exact ⟨u, Le.rfl' _, hs, h2.up l.F⟩
theorem it_tup {w : Wd} {a : Addr} {vs : List V} {ds : List D} (h : SqT X.K w.F a vs) (r : Rps T w.F ds vs) : ItOk T w (ds, none) (Itt X.K a) := fun u st H l hs _ => by
  have hq : SqT X.K H a vs := hs.sub.sqt (l.F.sqt h)
  refine ⟨fun i d hd => ?_, vs, hq, Nat.le_of_eq r.len.symm⟩
  obtain ⟨v, h1, h2⟩ := r.get hd
  refine ⟨⟨vs, v, hq, h1⟩, fun x H' ⟨e, q⟩ => ?_⟩
  subst e
  have z := q vs hq
  rw [h1] at z
  cases z
  exact ⟨u, Le.rfl' _, hs, h2.up l.F⟩
theorem it_live {w : Wd} {a : Addr} {vs : List V} {ds : List D} {k : Nat} (ha : w.ρ[k]? = some a) (r : Rps T w.F ds vs) : ItOk T w (ds, some k) (Itl X.K a) := fun u st H l hs hw => by
  have hq : SqL X.K H a vs := by
    simp only [wB] at hw
    split at hw
    · rename_i ys hy
      obtain ⟨_, us, g1, g2⟩ := hs.cell k _ a hy (l.at ha)
      rw [← gEqs_ok hw g2 r]
      exact SqL.of g1
    · cases hw
  refine ⟨fun i d hd => ?_, vs, hq, Nat.le_of_eq r.len.symm⟩
  obtain ⟨v, h1, h2⟩ := r.get hd
  refine ⟨⟨vs, v, hq, h1⟩, fun x H' ⟨e, q⟩ => ?_⟩
  subst e
  have z := q vs hq
  rw [h1] at z
  cases z
  exact ⟨u, Le.rfl' _, hs, h2.up l.F⟩
/-- the items of a row (a list is laid fast), the signs of a text -/
def signsD (z : Str) : List D := z.cps.toList.map fun c => .str ⟨#[c]⟩
def liveD (st : Store) : D → Option (Nat × List D)
  | .ref i => match st[i]? with
    | some (.lst xs) => if gEqs xs xs = true then some (i, xs) else none
    | _ => none
  | _ => none
def itemsD (d : D) (st : Store) : Ou Wk := match liveD st d with
  | some (i, xs) => .ok (xs, some i) st
  | none => match frz d st with
    | some (.str z, st1) => .ok (signsD z, none) st1
    | some (e, st1) => (match seqD st1 e with
      | some (_, xs) => .ok (xs, none) st1
      | none => .stuck)
    | none => .stuck
def iSeq (f : Fx) : Fi := fun env st => (f env st).bind itemsD
theorem it_str {w : Wd} {z : Str} : ItOk T w (signsD z, none) (Its z) := fun u st H l hs _ => by
  refine ⟨fun i d hd => ?_, by show z.cps.size ≤ _; simp [signsD]⟩
  unfold signsD at hd
  rw [List.getElem?_map] at hd
  cases e : z.cps.toList[i]? with
  | none => rw [e] at hd; cases hd
  | some c =>
    rw [e] at hd
    cases hd
    have hi : i < z.cps.size := by
      have := (List.getElem?_eq_some_iff.mp e).1
      simpa using this
    have e' : z.cps[i]? = some c := by simpa using e
    refine ⟨hi, fun x H' ⟨eH, c', h1, h2⟩ => ?_⟩
    subst eH
    rw [e'] at h1
    cases h1
    subst h2
    exact ⟨u, Le.rfl' _, hs, .str _⟩
theorem di_seq (hK : T.K = X.K) {tg e : Expr} {f : Fx} (h : PE X e (tE T f W)) : PI X tg e (tI T (iSeq f) W) := by
  refine ⟨fun pins s σ H R I hh => ?_⟩
  obtain ⟨w, env, st, hs, he, hp⟩ := hh
  refine thn (h.run pins s σ H _ I (tE.bind hs he hp)) fun v s1 ⟨x, H1, I1, r1, u, d, st1, l, s2, e2, rx, hp2⟩ => ?_
  unfold itemsD at hp2
  split at hp2
  · rename_i k xs hl
    unfold liveD at hl
    split at hl
    · rename_i i
      split at hl
      · rename_i xs' hx
        split at hl
        · cases hl
          cases rx with
          | d r => cases r
          | fun_ h _ => cases h
          | @ref _ a ha =>
            obtain rfl : v = Value.ref a := r1
            obtain ⟨hF, vs, hH, rr⟩ := s2.cell _ _ a hx ha
            have hR := hp2 u H1 (Itl X.K a) (Le.rfl' _) s2 (it_live ha rr)
            obtain ⟨its, rv, p, hz⟩ := I1.list (SqL.of hH)
            exact wpAny_pyIter_list p.isList (pi_one (tk := s1.toks) I1 _ (turn_list _ _) ⟨_, Heap.get?_push_size _ rfl, rfl, rfl⟩ hR)
        · cases hl
      · cases hl
    · cases hl
  split at hp2
  · rename_i z st2 hf
    obtain ⟨u2, l2, s3, r3⟩ := frz_ok s2 rx hf
    have hq := hp2 u2 H1 (Its z) l2 s3 it_str
    have ex : x = .str z := by cases r3; rfl
    subst ex
    obtain ⟨t, rfl⟩ := r1
    cases ha : z.cps.all (· < 128) with
    | false => exact wpAny_pyIter_wide ha (pi_one (tk := s1.toks) I1 _ (turn_str _ z t "str_iterator" (.inr rfl)) ⟨_, Heap.get?_push_size _ rfl, rfl, rfl⟩ hq)
    | true => exact wpAny_pyIter_ascii ha (pi_one (tk := s1.toks) I1 _ (turn_str _ z t "str_ascii_iterator" (.inl rfl)) ⟨_, Heap.get?_push_size _ rfl, rfl, rfl⟩ hq)
  · rename_i e1 st2 hne hf
    split at hp2
    · rename_i b xs hq
      obtain ⟨u2, l2, s3, r3⟩ := frz_ok s2 rx hf
      cases r3 with
      | tup h1 h2 =>
        cases hq
        obtain rfl : v = Value.ref _ := r1
        rw [hK] at h1
        have hR := hp2 u2 H1 (Itt X.K _) l2 s3 (it_tup h1 h2)
        obtain ⟨its, rv, p, hz⟩ := I1.tuple (s3.sub.sqt h1)
        exact wpAny_pyIter_tuple (show s1.heap.IsTuple _ its.toArray from p) (pi_one (tk := s1.toks) I1 _ (turn_tuple _ _) ⟨_, Heap.get?_push_size _ rfl, rfl, rfl⟩ hR)
      | @lst a vs xs h1 h2 =>
        cases hq
        obtain rfl : v = Value.ref _ := r1
        have hR := hp2 u2 H1 (Itl X.K _) l2 s3 (it_list' (fun u st H l hs => SqL.of (hs.sub _ _ (l.F _ _ h1))) h2)
        obtain ⟨its, rv, p, hz⟩ := I1.list (SqL.of (s3.sub _ _ h1))
        exact wpAny_pyIter_list p.isList (pi_one (tk := s1.toks) I1 _ (turn_list _ _) ⟨_, Heap.get?_push_size _ rfl, rfl, rfl⟩ hR)
      | @scr a vs xs h1 h2 =>
        cases hq
        obtain rfl : v = Value.ref _ := r1
        rw [hK] at h1
        have hR := hp2 u2 H1 (Itl X.K _) l2 s3 (it_list' (fun u st H l hs => hs.sub.sql (l.F.sql h1)) h2)
        obtain ⟨its, rv, p, hz⟩ := I1.list (s3.sub.sql h1)
        exact wpAny_pyIter_list p.isList (pi_one (tk := s1.toks) I1 _ (turn_list _ _) ⟨_, Heap.get?_push_size _ rfl, rfl, rfl⟩ hR)
      | _ => cases hq
    · exact hp2.elim
  · exact hp2.elim
/-- lo, lo + 1, .. -/
def intsD (lo : Int) (n : Nat) : List D := (List.range n).map fun (i : Nat) => .int (lo + (i : Int))
def smallR (i : Int) : Prop := -(2 ^ 62) ≤ i ∧ i < 2 ^ 62
instance {i : Int} : Decidable (smallR i) := by unfold smallR; infer_instance
theorem it_rng {w : Wd} {lo : Int} {n : Nat} : ItOk T w (intsD lo n, none) (Itr lo n) := fun u st H l hs _ => by
  refine ⟨fun i d hd => ?_, by show n ≤ _; simp [intsD]⟩
  unfold intsD at hd
  rw [List.getElem?_map] at hd
  cases e : (List.range n)[i]? with
  | none => rw [e] at hd; cases hd
  | some c =>
    rw [e] at hd
    cases hd
    obtain ⟨hi, e2⟩ := List.getElem?_eq_some_iff.mp e
    simp at hi e2
    subst e2
    refine ⟨hi, fun x H' ⟨eH, e3⟩ => ?_⟩
    subst eH e3
    exact ⟨u, Le.rfl' _, hs, .int _⟩
def iR1 (a : Fx) : Fi := fun env st => (a env st).bind fun d st1 => match d with
  | .int j => if smallR j then .ok (intsD 0 j.toNat, none) st1 else .stuck
  | _ => .stuck
def iR2 (a b : Fx) : Fi := fun env st => (a env st).bind fun d st1 => (b env st1).bind fun e st2 => match d, e with
  | .int i, .int j => if smallR i ∧ smallR j then .ok (intsD i (j - i).toNat, none) st2 else .stuck
  | _, _ => .stuck
/-- by steps -/
def intsC (lo c : Int) (n : Nat) : List D := (List.range n).map fun (i : Nat) => .int (lo + (i : Int) * c)
def rngC (i j c : Int) : Bool := decide (c ≠ 0) && decide (c.natAbs < 1073741824) && Builtin.Range.small i j c && decide (0 ≤ Builtin.Range.rangeSize i j c)
def iR3 (a b c : Fx) : Fi := fun env st => (a env st).bind fun d st1 => (b env st1).bind fun e st2 => (c env st2).bind fun k st3 => match d, e, k with
  | .int i, .int j, .int c => if rngC i j c = true then .ok (intsC i c (Builtin.Range.rangeSize i j c).toNat, none) st3 else .stuck
  | _, _, _ => .stuck
theorem tA1 {w : Wd} {env : Env} {st : Store} {σ : L2.St} {H : Hp} {β γ : Type} {S : Wd → γ → β → Prop} {Q : β → Hp → Prop} {a : Expr} {t : TE} {f : Fx} {k : D → Store → Ou γ} (hs : StOk T w st H) (he : EnvOk T w env σ) (hp : Post T S w Q (fun c d H' => W c d σ H') ((f env st).bind k)) :
    tCons (tE T f W) tNil σ H (fun vs H1 => ∃ x u d st1, vs = [x] ∧ Le w u ∧ StOk T u st1 H1 ∧ EnvOk T u env σ ∧ Rv T u d x ∧ Post T S u Q (fun c d H' => W c d σ H') (k d st1)) := by
  obtain ⟨w1, env1, st1, a1, a2, a3⟩ := tE.bind hs he hp
  exact ⟨w1, env1, st1, a1, a2, a3.imp (fun x H1 ⟨u, d, st2, l, s2, e2, rx, hp2⟩ => ⟨x, u, d, st2, rfl, l, s2, e2, rx, hp2⟩) fun _ _ _ z => z⟩
theorem tA2 {w : Wd} {env : Env} {st : Store} {σ : L2.St} {H : Hp} {β γ : Type} {S : Wd → γ → β → Prop} {Q : β → Hp → Prop} {f g : Fx} {k : D → D → Store → Ou γ} (hs : StOk T w st H) (he : EnvOk T w env σ) (hp : Post T S w Q (fun c d H' => W c d σ H') ((f env st).bind fun d st1 => (g env st1).bind fun e st2 => k d e st2)) :
    tCons (tE T f W) (tCons (tE T g W) tNil) σ H (fun vs H1 => ∃ x y u d e st1, vs = [x, y] ∧ Le w u ∧ StOk T u st1 H1 ∧ EnvOk T u env σ ∧ Rv T u d x ∧ Rv T u e y ∧ Post T S u Q (fun c d H' => W c d σ H') (k d e st1)) := by
  obtain ⟨w1, env1, st1, a1, a2, a3⟩ := tE.bind hs he hp
  refine ⟨w1, env1, st1, a1, a2, a3.imp (fun x H1 ⟨u, d, st2, l, s2, e2, rx, hp2⟩ => ?_) fun _ _ _ z => z⟩
  obtain ⟨w2, env2, st3, b1, b2, b3⟩ := tE.bind s2 e2 hp2
  exact ⟨w2, env2, st3, b1, b2, b3.imp (fun y H2 ⟨u2, e, st4, l2, s4, e4, ry, hp4⟩ => ⟨x, y, u2, d, e, st4, rfl, l.tr l2, s4, e4, rx.up l2, ry, hp4⟩) fun _ _ _ z => z⟩
theorem tA3 {w : Wd} {env : Env} {st : Store} {σ : L2.St} {H : Hp} {β γ : Type} {S : Wd → γ → β → Prop} {Q : β → Hp → Prop} {f g h : Fx} {k : D → D → D → Store → Ou γ} (hs : StOk T w st H) (he : EnvOk T w env σ) (hp : Post T S w Q (fun c d H' => W c d σ H') ((f env st).bind fun d st1 => (g env st1).bind fun e st2 => (h env st2).bind fun a st3 => k d e a st3)) :
    tCons (tE T f W) (tCons (tE T g W) (tCons (tE T h W) tNil)) σ H (fun vs H1 => ∃ x y z u d e a st1, vs = [x, y, z] ∧ Le w u ∧ StOk T u st1 H1 ∧ EnvOk T u env σ ∧ Rv T u d x ∧ Rv T u e y ∧ Rv T u a z ∧ Post T S u Q (fun c d H' => W c d σ H') (k d e a st1)) := by
  obtain ⟨w1, env1, st1, a1, a2, a3⟩ := tE.bind hs he hp
  refine ⟨w1, env1, st1, a1, a2, a3.imp (fun x H1 ⟨u, d, st2, l, s2, e2, rx, hp2⟩ => ?_) fun _ _ _ z => z⟩
  obtain ⟨w2, env2, st3, b1, b2, b3⟩ := tE.bind s2 e2 hp2
  refine ⟨w2, env2, st3, b1, b2, b3.imp (fun y H2 ⟨u2, e, st4, l2, s4, e4, ry, hp4⟩ => ?_) fun _ _ _ z => z⟩
  obtain ⟨w5, env5, st5, c1, c2, c3⟩ := tE.bind s4 e4 hp4
  exact ⟨w5, env5, st5, c1, c2, c3.imp (fun z H3 ⟨u3, a, st6, l3, s6, e6, rz, hp6⟩ => ⟨x, y, z, u3, d, e, a, st6, rfl, (l.tr l2).tr l3, s6, e6, (rx.up l2).up l3, ry.up l3, rz, hp6⟩) fun _ _ _ z => z⟩
theorem di_rng1 {tg a : Expr} {f : Fx} {p pos : Pos} (hg : Gl X "range") (hm : X.mg "range" = none) (ha : PE X a (tE T f W)) (hs : starEach [a] X.env = [(false, eval a X.env)]) : PI X tg (.Call (.Name "range" p) [a] [] pos) (tI T (iR1 f) W) :=
  PI.imp (pi_range1 hg hm (pa_cons ha pa_nil hs) hs) fun σ H R ⟨w, env, st, hs, he, hp⟩ => by
    obtain ⟨w1, env1, st1, a1, a2, a3⟩ := tE.bind hs he hp
    refine ⟨w1, env1, st1, a1, a2, a3.imp (fun x H1 ⟨u, d, st2, l, s2, e2, rx, hp2⟩ => ?_) fun _ _ _ z => z⟩
    split at hp2
    · rename_i j
      split at hp2
      · rename_i hj
        exact ⟨j, by rw [rx.int_inv], hj.1, hj.2, hp2 u H1 (Itr 0 j.toNat) (Le.rfl' _) s2 it_rng⟩
      · exact hp2.elim
    · exact hp2.elim
theorem di_rng2 {tg a b : Expr} {f g : Fx} {p pos : Pos} (hg : Gl X "range") (hm : X.mg "range" = none) (ha : PE X a (tE T f W)) (hb : PE X b (tE T g W)) (hs1 : starEach [b] X.env = [(false, eval b X.env)]) (hs : starEach [a, b] X.env = (false, eval a X.env) :: starEach [b] X.env) :
    PI X tg (.Call (.Name "range" p) [a, b] [] pos) (tI T (iR2 f g) W) :=
  PI.imp (pi_range2 hg hm (pa_cons ha (pa_cons hb pa_nil hs1) hs) (by rw [hs, hs1]) hs1) fun σ H R ⟨w, env, st, hs, he, hp⟩ => by
    obtain ⟨w1, env1, st1, a1, a2, a3⟩ := tE.bind hs he hp
    refine ⟨w1, env1, st1, a1, a2, a3.imp (fun x H1 ⟨u, d, st2, l, s2, e2, rx, hp2⟩ => ?_) fun _ _ _ z => z⟩
    obtain ⟨w2, env2, st3, b1, b2, b3⟩ := tE.bind s2 e2 hp2
    refine ⟨w2, env2, st3, b1, b2, b3.imp (fun y H2 ⟨u2, e, st4, l2, s4, e4, ry, hp4⟩ => ?_) fun _ _ _ z => z⟩
    split at hp4
    · split at hp4
      · rename_i hj
        exact ⟨_, _, by rw [(rx.up l2).int_inv, ry.int_inv], ⟨hj.1.1, hj.1.2, hj.2.1, hj.2.2⟩, hp4 u2 H2 (Itr _ _) (Le.rfl' _) s4 it_rng⟩
      · exact hp4.elim
    · exact hp4.elim
theorem it_rngC {w : Wd} {lo c : Int} {n : Nat} : ItOk T w (intsC lo c n, none) (Itc lo c n) := fun u st H l hs _ => by
  refine ⟨fun i d hd => ?_, by show n ≤ _; simp [intsC]⟩
  unfold intsC at hd
  rw [List.getElem?_map] at hd
  cases e : (List.range n)[i]? with
  | none => rw [e] at hd; cases hd
  | some c =>
    rw [e] at hd
    cases hd
    obtain ⟨hi, e2⟩ := List.getElem?_eq_some_iff.mp e
    simp at hi e2
    subst e2
    refine ⟨hi, fun x H' ⟨eH, e3⟩ => ?_⟩
    subst eH e3
    exact ⟨u, Le.rfl' _, hs, .int _⟩
theorem di_rng3 {tg a b c : Expr} {f g h : Fx} {p pos : Pos} (hg : Gl X "range") (hm : X.mg "range" = none) (ha : PE X a (tE T f W)) (hb : PE X b (tE T g W)) (hc : PE X c (tE T h W)) (hs2 : starEach [c] X.env = [(false, eval c X.env)]) (hs1 : starEach [b, c] X.env = (false, eval b X.env) :: starEach [c] X.env)
    (hs : starEach [a, b, c] X.env = (false, eval a X.env) :: starEach [b, c] X.env) : PI X tg (.Call (.Name "range" p) [a, b, c] [] pos) (tI T (iR3 f g h) W) :=
  PI.imp (pi_range3 hg hm (pa_cons ha (pa_cons hb (pa_cons hc pa_nil hs2) hs1) hs) hs (by rw [hs1, hs2]; rfl)) fun σ H R ⟨w, env, st, hs, he, hp⟩ => by
    obtain ⟨w1, env1, st1, a1, a2, a3⟩ := tE.bind hs he hp
    refine ⟨w1, env1, st1, a1, a2, a3.imp (fun x H1 ⟨u, d, st2, l, s2, e2, rx, hp2⟩ => ?_) fun _ _ _ z => z⟩
    obtain ⟨w2, env2, st3, b1, b2, b3⟩ := tE.bind s2 e2 hp2
    refine ⟨w2, env2, st3, b1, b2, b3.imp (fun y H2 ⟨u2, e, st4, l2, s4, e4, ry, hp4⟩ => ?_) fun _ _ _ z => z⟩
    obtain ⟨w5, env5, st5, c1, c2, c3⟩ := tE.bind s4 e4 hp4
    refine ⟨w5, env5, st5, c1, c2, c3.imp (fun z H3 ⟨u3, k, st6, l3, s6, e6, rz, hp6⟩ => ?_) fun _ _ _ z => z⟩
    split at hp6
    · split at hp6
      · rename_i hj
        simp only [rngC, Bool.and_eq_true, decide_eq_true_eq] at hj
        obtain ⟨⟨⟨h1, h2⟩, h3⟩, h4⟩ := hj
        exact ⟨_, _, _, _, by rw [((rx.up l2).up l3).int_inv, (ry.up l3).int_inv, rz.int_inv], ⟨h1, h2, h3, (Int.toNat_of_nonneg h4).symm⟩, hp6 u3 H3 (Itc _ _ _) (Le.rfl' _) s6 it_rngC⟩
      · exact hp6.elim
    · exact hp6.elim
/-! ### for -/
def fLoop (p : Pt) (b : Fs) (wk : Wk) : List D → Env → Store → Os
  | [], env, st => if wB wk st = true then .nx env st else .stuck
  | d :: ds, env, st => if wB wk st = true then (match ptSet p d env st with
    | none => .stuck
    | some env1 => match b env1 st with
      | .nx e s => fLoop p b wk ds e s
      | .ct e s => fLoop p b wk ds e s
      | .bk e s => .nx e s
      | o => o) else .stuck
theorem fLoop_wB {p : Pt} {b : Fs} {wk : Wk} {ds : List D} {env : Env} {st : Store} {w : Wd} {Dn : Ends} (h : PostS T w Dn W (fLoop p b wk ds env st)) : wB wk st = true := by
  cases ds with
  | nil => simp only [fLoop] at h; split at h <;> first | assumption | exact h.elim
  | cons d ds => simp only [fLoop] at h; split at h <;> first | assumption | exact h.elim
def sFor (p : Pt) (i : Fi) (b : Fs) : Fs := fun env st => (i env st).thn env fun wk st1 => fLoop p b wk wk.1 env st1
theorem ds_for {tg iter : Expr} {body : List Stmt} {p : Pt} {fi : Fi} {fb : Fs} {pos : Pos} (hp : PassesOwn (model X.prog X.w) X.A X.env X.xe) (hc : X.calm = true) (hi : PI X tg iter (tI T fi W)) (hg : PG X tg (tPt T p)) (hb : PSs X body (tS T fb W)) (hsf : ∀ x, foldedSetIterable iter X.env x = pure x) :
    PS X (.For tg iter body [] pos) (tS T (sFor p fi fb) W) :=
  PS.imp (ps_for hp hc hi hg hb hsf) fun Dn σ H ⟨w, env, st, hs, he, hq⟩ => by
    obtain ⟨w1, env1, st1, a1, a2, a3⟩ := sI hs he hq
    refine ⟨w1, env1, st1, a1, a2, a3.imp (fun J H1 ⟨u0, ds, st2, l, s2, e2, hJ, hp2⟩ => ?_) fun _ _ _ z => z⟩
    refine ⟨fun i m σ H => m = ds.1.length - i ∧ i ≤ ds.1.length ∧ ∃ u env st, Le u0 u ∧ StOk T u st H ∧ EnvOk T u env σ ∧ PostS T u Dn W (fLoop p fb ds (ds.1.drop i) env st), ⟨ds.1.length, rfl, Nat.zero_le _, u0, env, st2, Le.rfl' _, s2, e2, hp2⟩, ?_⟩
    rintro i m σ H ⟨rfl, hi, u, env, st, l1, hs1, he1, hq1⟩
    have hwb := fLoop_wB hq1
    obtain ⟨g1, g2⟩ := hJ u st H l1 hs1 hwb
    by_cases hlt : i < ds.1.length
    · obtain ⟨g3, g4⟩ := g1 i _ (List.getElem?_eq_getElem hlt)
      refine .inr ⟨g3, fun σ' H' => ∃ u env st, Le u0 u ∧ StOk T u st H' ∧ EnvOk T u env σ' ∧ PostS T u Dn W (fLoop p fb ds (ds.1.drop (i + 1)) env st), fun σ' H' h => ⟨ds.1.length - (i + 1), by omega, rfl, hlt, h⟩, fun x H' hy => ?_⟩
      obtain ⟨u2, l2, s3, r3⟩ := g4 x H' hy
      rw [List.drop_eq_getElem_cons hlt] at hq1
      simp only [fLoop, hwb, if_true] at hq1
      split at hq1
      · exact hq1.elim
      · rename_i env2 hset
        refine ⟨u2, env, st, ds.1[i], env2, s3, he1.up l2, .d r3, hset, fun τ ht _ => ⟨u2, env2, st, s3, ht, ?_⟩⟩
        have hq2 := PostS.up l2 hq1
        cases q : fb env2 st with
        | nx e s => rw [q] at hq2; exact fun x σ1 H2 l a b => ⟨x, e, s, (l1.tr l2).tr l, a, b, PostS.up l hq2⟩
        | ct e s => rw [q] at hq2; exact fun x σ1 H2 l a b => ⟨x, e, s, (l1.tr l2).tr l, a, b, PostS.up l hq2⟩
        | bk e s => rw [q] at hq2; exact hq2
        | rt d s => rw [q] at hq2; exact hq2
        | exc c fs e s => rw [q] at hq2; exact hq2
        | stuck => rw [q] at hq2; exact hq2
    · have e : i = ds.1.length := by omega
      subst e
      rw [List.drop_length] at hq1
      simp only [fLoop, hwb, if_true] at hq1
      exact .inl ⟨g2, hq1 u σ H (Le.rfl' _) hs1 he1⟩
end
end Ev
set_option Elab.async false
set_option linter.all false
set_option maxRecDepth 100000
set_option maxHeartbeats 1000000
namespace Ev
open PySem PySem.Spec L2
/-! ### new lists -/
abbrev FL := Env → Store → Ou (List D)
def PostL (T : Tb) (w : Wd) (Q : VK) (E : XK) : Ou (List D) → Prop
  | .ok xs st => ∀ u H p vs, Le w u → StOk T u st H → u.F p = none → p ∉ u.ρ → H p = some (.lst vs) → Rps T u.F xs vs → Q (.ref p) H
  | .exc c fs st => ∀ u H cls d, Le w u → StOk T u st H → ExOk T u c fs cls d → E cls d H
  | .stuck => False
theorem PostL.up {T : Tb} {w u : Wd} {Q : VK} {E : XK} (l : Le w u) : ∀ {o : Ou (List D)}, PostL T w Q E o → PostL T u Q E o
  | .ok _ _, h => fun x H p vs e => h x H p vs (l.tr e)
  | .exc _ _ _, h => fun x H c d e => h x H c d (l.tr e)
  | .stuck, h => h
def tL (T : Tb) (f : FL) (W : WX) : TE := fun σ H Q => ∃ w env st, StOk T w st H ∧ EnvOk T w env σ ∧ PostL T w Q (fun c d H' => W c d σ H') (f env st)
def fFrz (f : FL) : Fx := fun env st => (f env st).bind fun xs st1 => .ok (.lst xs) st1
def fNew (f : FL) : Fx := fun env st => (f env st).bind fun xs st1 => .ok (.ref st1.length) (st1 ++ [.lst xs])
section
variable {T : Tb} {X : Cx} {W : WX}
theorem de_frz {e : Expr} {f : FL} (h : PE X e (tL T f W)) : PE X e (tE T (fFrz f) W) :=
  PE.imp h fun σ H Q ⟨w, env, st, hs, he, hp⟩ => by
    refine ⟨w, env, st, hs, he, ?_⟩
    unfold fFrz at hp
    cases q : f env st with
    | ok xs st1 =>
      rw [q] at hp
      intro u H1 p vs l s1 hF hn hp1 r
      obtain ⟨l2, s2⟩ := s1.fastP hp1 hF hn
      exact hp _ H1 _ (l.tr l2) s2 (.d (.lst (by rw [Wd.fF, upd_same]) (r.up l2.F)))
    | exc c fs st1 => rw [q] at hp; exact hp
    | stuck => rw [q] at hp; exact hp
theorem de_new {e : Expr} {f : FL} (h : PE X e (tL T f W)) : PE X e (tE T (fNew f) W) :=
  PE.imp h fun σ H Q ⟨w, env, st, hs, he, hp⟩ => by
    refine ⟨w, env, st, hs, he, ?_⟩
    unfold fNew at hp
    cases q : f env st with
    | ok xs st1 =>
      rw [q] at hp
      intro u H1 p vs l s1 hF hn hp1 r
      refine hp (u.cell p) H1 _ (l.tr (Le.cell u p)) (s1.cellP hn ⟨hF, vs, hp1, r⟩) (.ref ?_)
      rw [Wd.cell, s1.len]
      simp
    | exc c fs st1 => rw [q] at hp; exact hp
    | stuck => rw [q] at hp; exact hp
/-- a new list laid down -/
theorem post_new {w : Wd} {st : Store} {H : Hp} {p : Addr} {xs : List D} {vs : List V} {Q : VK} {E : XK} (hs : StOk T w st H) (n : H p = none) (r : Rps T w.F xs vs) (h : PostL T w Q E (.ok xs st)) : Q (.ref p) (upd H p (.lst vs)) :=
  h w _ p vs (Le.rfl' _) (hs.skip n) (hs.freeF n) (fun z => by
    obtain ⟨i, e⟩ := List.getElem?_of_mem z
    exact hs.nC n e rfl) upd_same r
def lDisp (a : Fa) : FL := fun env st => (a env st).bind fun ds st1 => match frzs ds st1 with
  | some (es, st2) => if es.length ≤ sizeLine then .ok es st2 else .stuck
  | none => .stuck
theorem tA.bindL {w : Wd} {env : Env} {st : Store} {σ : L2.St} {H : Hp} {Q : VK} {f : Fa} {k : List D → Store → Ou (List D)} (hs : StOk T w st H) (he : EnvOk T w env σ) (h : PostL T w Q (fun c d H' => W c d σ H') ((f env st).bind k)) :
    tA T f W σ H (fun x H1 => ∃ u d st1, Le w u ∧ StOk T u st1 H1 ∧ EnvOk T u env σ ∧ Rvs T u d x ∧ PostL T u Q (fun c d H' => W c d σ H') (k d st1)) := by
  refine ⟨w, env, st, hs, he, ?_⟩
  cases q : f env st with
  | ok d st1 => rw [q] at h; exact fun u H1 v l s r => ⟨u, d, st1, l, s, he.up l, r, PostL.up l h⟩
  | exc c fs st1 => rw [q] at h; exact h
  | stuck => rw [q] at h; exact h
theorem tE.bindL {w : Wd} {env : Env} {st : Store} {σ : L2.St} {H : Hp} {Q : VK} {f : Fx} {k : D → Store → Ou (List D)} (hs : StOk T w st H) (he : EnvOk T w env σ) (h : PostL T w Q (fun c d H' => W c d σ H') ((f env st).bind k)) :
    tE T f W σ H (fun x H1 => ∃ u d st1, Le w u ∧ StOk T u st1 H1 ∧ EnvOk T u env σ ∧ Rv T u d x ∧ PostL T u Q (fun c d H' => W c d σ H') (k d st1)) := by
  refine ⟨w, env, st, hs, he, ?_⟩
  cases q : f env st with
  | ok d st1 => rw [q] at h; exact fun u H1 v l s r => ⟨u, d, st1, l, s, he.up l, r, PostL.up l h⟩
  | exc c fs st1 => rw [q] at h; exact h
  | stuck => rw [q] at h; exact h
theorem tI.bindL {w : Wd} {env : Env} {st : Store} {σ : L2.St} {H : Hp} {Q : VK} {f : Fi} {k : Wk → Store → Ou (List D)} (hs : StOk T w st H) (he : EnvOk T w env σ) (h : PostL T w Q (fun c d H' => W c d σ H') ((f env st).bind k)) :
    tI T f W σ H (fun J H1 => ∃ u ds st1, Le w u ∧ StOk T u st1 H1 ∧ EnvOk T u env σ ∧ ItOk T u ds J ∧ PostL T u Q (fun c d H' => W c d σ H') (k ds st1)) := by
  refine ⟨w, env, st, hs, he, ?_⟩
  cases q : f env st with
  | ok d st1 => rw [q] at h; exact fun u H1 v l s r => ⟨u, d, st1, l, s, he.up l, r, PostL.up l h⟩
  | exc c fs st1 => rw [q] at h; exact h
  | stuck => rw [q] at h; exact h
theorem dl_disp {es : List Expr} {f : Fa} {pos : Pos} (h : PA X es (tA T f W)) : PE X (.List es pos) (tL T (lDisp f) W) :=
  PE.imp (pe_lst h) fun σ H Q ⟨w, env, st, hs, he, hp⟩ => by
    obtain ⟨w1, env1, st1, a1, a2, a3⟩ := tA.bindL hs he hp
    refine ⟨w1, env1, st1, a1, a2, a3.imp (fun xs H1 ⟨u, ds, st2, l, s2, e2, rx, hp2⟩ => ?_) fun _ _ _ z => z⟩
    split at hp2
    · rename_i es' st3 hf
      obtain ⟨u2, l2, s3, r3⟩ := frzs_ok s2 rx hf
      split at hp2
      · rename_i hz
        exact ⟨by rw [← r3.len]; exact hz, fun p n => post_new s3 n r3 (PostL.up l2 hp2)⟩
      · exact hp2.elim
    · exact hp2.elim
/-! ### comprehensions -/
def wipeD (env : Env) : List Nat → Env
  | [] => env
  | v :: vs => (wipeD env vs).set v none
theorem EnvOk.none_ {w : Wd} {env : Env} {σ : L2.St} (h : EnvOk T w env σ) (i : Nat) : EnvOk T w (env.set i none) (σ.set i none) := by
  refine ⟨by simp [h.len], fun j e hj => ?_⟩
  by_cases q : i = j
  · subst q
    by_cases l : i < env.length
    · rw [List.getElem?_set_self l] at hj
      cases hj
    · rw [List.getElem?_eq_none (by simpa using l)] at hj
      cases hj
  · rw [List.getElem?_set_ne q] at hj ⊢
    exact h.at_ j e hj
theorem EnvOk.wipe {w : Wd} {env : Env} {σ : L2.St} (h : EnvOk T w env σ) : ∀ vs : List Nat, EnvOk T w (wipeD env vs) (L2.wipe σ vs)
  | [] => h
  | v :: vs => (EnvOk.wipe h vs).none_ v
theorem wipe_get (σ : L2.St) (vs : List Nat) (i : Nat) : (L2.wipe σ vs)[i]? = if i ∈ vs then (if i < σ.length then some none else none) else σ[i]? := by
  induction vs with
  | nil => simp [L2.wipe]
  | cons v vs ih =>
    unfold L2.wipe
    by_cases h : v = i
    · subst h
      by_cases hl : v < σ.length
      · rw [List.getElem?_set_self (by rw [wipe_length]; exact hl)]
        simp [hl]
      · rw [List.getElem?_eq_none (by simpa [wipe_length] using hl)]
        simp [hl]
    · rw [List.getElem?_set_ne h, ih]
      have : i ∈ v :: vs ↔ i ∈ vs := by simp [Ne.symm h]
      simp only [this]
theorem Agr.wiped {l vs : List Nat} {σ τ : L2.St} (a : Agr l (L2.wipe σ vs) τ) (hl : ∀ i ∈ l, i ∈ vs) : L2.wipe τ vs = L2.wipe σ vs := by
  have len : τ.length = σ.length := by rw [← a.1, wipe_length]
  refine List.ext_getElem? fun i => ?_
  rw [wipe_get, wipe_get, len]
  by_cases h : i ∈ vs
  · rw [if_pos h, if_pos h]
  · rw [if_neg h, if_neg h, ← a.2 i (fun z => h (hl i z)), wipe_get, if_neg h]
/-- the turns: the new list is the cell n -/
def cGo (p : Pt) (t : Fb) (e : Fx) (n : Nat) (wk : Wk) : List D → Env → Store → Option Store
  | [], _, st => if wB wk st = true then some st else none
  | d :: ds, env, st => if wB wk st = true then (match ptSet p d env st with
    | none => none
    | some env1 => match t env1 st with
      | .ok true st1 => (match e env1 st1 with
        | .ok y st2 => (match frz y st2 with
          | some (z, st3) => (match st3[n]? with
            | some (.lst acc) => if acc.length < sizeLine then cGo p t e n wk ds env (st3.set n (.lst (acc ++ [z]))) else none
            | _ => none)
          | none => none)
        | _ => none)
      | .ok false st1 => cGo p t e n wk ds env st1
      | _ => none) else none
def lComp (p : Pt) (vs : List Nat) (i : Fi) (t : Fb) (e : Fx) : FL := fun env st => (i env st).bind fun wk st1 => match cGo p t e st1.length wk wk.1 (wipeD env vs) (st1 ++ [.lst []]) with
  | some st2 => (match st2[st1.length]? with
    | some (.lst acc) => .ok acc (st2.take st1.length)
    | _ => .stuck)
  | none => .stuck
def W0 : WX := fun _ _ _ _ => False
def bYes : Fb := fun _ st => .ok true st
theorem dts_nil : PTs X [] (tT T bYes W) := ⟨fun pins s σ H Q I ⟨w, env, st, hs, he, hp⟩ => pts_nil.run pins s σ H Q I (hp w H true (Le.rfl' _) hs rfl)⟩
theorem dts_one {c : Expr} {f : Fb} (h : PT X c (tT T f W)) : PTs X [c] (tT T f W) := pts_one h
def cEnd (T : Tb) (W : WX) (u : Wd) (Q : VK) (σ : L2.St) (n : Nat) : Option Store → Prop
  | some st => match st[n]? with
    | some (.lst acc) => PostL T u Q (fun c d H' => W c d σ H') (.ok acc (st.take n))
    | _ => False
  | none => False
theorem cGo_wB {p : Pt} {t : Fb} {e : Fx} {n : Nat} {wk : Wk} {ds : List D} {env : Env} {st : Store} {u : Wd} {Q : VK} {σ : L2.St} {m : Nat} (h : cEnd T W u Q σ m (cGo p t e n wk ds env st)) : wB wk st = true := by
  cases ds with
  | nil => simp only [cGo] at h; split at h <;> first | assumption | exact h.elim
  | cons d ds => simp only [cGo] at h; split at h <;> first | assumption | exact h.elim
theorem lc_imp {p : Pt} {fi : Fi} {ft : Fb} {fe : Fx} {vs : List Nat} {σ : L2.St} {H : Hp} {Q : VK} (hsl : ∀ i ∈ p.slots, i ∈ vs) (h : tL T (lComp p vs fi ft fe) W σ H Q) : tLc (tI T fi W) (tPt T p) (tT T ft W0) (tE T fe W0) vs σ H Q := by
    obtain ⟨w, env, st, hs, he, hp⟩ := h
    obtain ⟨w1, env1, st1, a1, a2, a3⟩ := tI.bindL hs he hp
    refine ⟨w1, env1, st1, a1, a2, a3.imp (fun J H1 ⟨u, ds, st2, l, s2, e2, hJ, hp2⟩ => ?_) fun _ _ _ z => z⟩
    intro D' hD
    generalize hn : st2.length = n at hp2
    have hcell : StOk T (u.cell D') (st2 ++ [.lst []]) (upd H1 D' (.lst [])) := s2.newC hD ⟨s2.freeF hD, [], upd_same, .nil⟩
    have hρ : (u.cell D').ρ[n]? = some D' := by
      rw [Wd.cell, ← hn, s2.len]
      simp
    have hul : u.ρ.length = n := by rw [← hn, s2.len]
    refine ⟨fun i m H => m = ds.1.length - i ∧ i ≤ ds.1.length ∧ ∃ x st, Le (u.cell D') x ∧ StOk T x st H ∧ cEnd T W u Q σ n (cGo p ft fe n ds (ds.1.drop i) (wipeD env vs) st), ⟨ds.1.length, rfl, Nat.zero_le _, _, _, Le.rfl' _, hcell, ?_⟩, ?_⟩
    · rw [List.drop_zero]
      cases q : cGo p ft fe n ds ds.1 (wipeD env vs) (st2 ++ [.lst []]) with
      | none => rw [q] at hp2; exact hp2
      | some st3 =>
        rw [q] at hp2
        have hp2 : PostL T u Q (fun c d H' => W c d σ H') (match st3[n]? with | some (.lst acc) => .ok acc (st3.take n) | _ => .stuck) := hp2
        unfold cEnd
        split at hp2
        · rename_i hx
          simp only [hx]
          exact hp2
        · exact hp2.elim
    rintro i m H ⟨rfl, hi, x, st, lx, hsx, hq⟩
    have hwb := cGo_wB hq
    obtain ⟨g1, g2⟩ := hJ.up (Le.cell u D') x st H lx hsx hwb
    have hx : x.ρ[n]? = some D' := lx.at hρ
    by_cases hlt : i < ds.1.length
    · obtain ⟨g3, g4⟩ := g1 i _ (List.getElem?_eq_getElem hlt)
      refine .inr ⟨g3, fun H' => ∃ x st, Le (u.cell D') x ∧ StOk T x st H' ∧ cEnd T W u Q σ n (cGo p ft fe n ds (ds.1.drop (i + 1)) (wipeD env vs) st), fun H' h => ⟨ds.1.length - (i + 1), by omega, rfl, hlt, h⟩, fun y H' hy => ?_⟩
      obtain ⟨x2, l2, s3, r3⟩ := g4 y H' hy
      rw [List.drop_eq_getElem_cons hlt] at hq
      cases h1 : ptSet p ds.1[i] (wipeD env vs) st with
      | none => simp only [cGo, hwb, if_true, h1] at hq; exact hq.elim
      | some env2 =>
        simp only [cGo, hwb, if_true, h1] at hq
        refine ⟨x2, wipeD env vs, st, ds.1[i], env2, s3, (e2.up ((Le.cell u D').tr (lx.tr l2))).wipe vs, .d r3, h1, fun τ ht ag => ⟨ag.wiped hsl, x2, env2, st, s3, ht, ?_⟩⟩
        cases h2 : ft env2 st with
        | stuck => simp only [h2] at hq; exact hq.elim
        | exc c fs st4 => simp only [h2] at hq; exact hq.elim
        | ok b st4 =>
          intro x4 H4 b' l4 s4 eb
          have eb : b = b' := eb
          subst eb
          cases b with
          | false =>
            simp only [h2] at hq
            rw [if_neg Bool.false_ne_true]
            exact ⟨x4, st4, lx.tr (l2.tr l4), s4, hq⟩
          | true =>
            simp only [h2] at hq
            rw [if_pos rfl]
            refine ⟨x4, env2, st4, s4, ht.up l4, ?_⟩
            cases h3 : fe env2 st4 with
            | stuck => simp only [h3] at hq; exact hq.elim
            | exc c fs st5 => simp only [h3] at hq; exact hq.elim
            | ok d st5 =>
              simp only [h3] at hq
              intro x5 H5 v l5 s5 rv
              cases h4 : frz d st5 with
              | none => simp only [h4] at hq; exact hq.elim
              | some pr =>
                obtain ⟨z, st6⟩ := pr
                simp only [h4] at hq
                obtain ⟨x6, l6, s6, r6⟩ := frz_ok s5 rv h4
                have lall : Le (u.cell D') x6 := lx.tr (l2.tr (l4.tr (l5.tr l6)))
                have hx6 : x6.ρ[n]? = some D' := lall.at hρ
                cases h5 : st6[n]? with
                | none => simp only [h5] at hq; exact hq.elim
                | some c =>
                  cases c with
                  | lst acc =>
                    simp only [h5] at hq
                    obtain ⟨hF, us, hH, ru⟩ := s6.cell n _ D' h5 hx6
                    split at hq
                    · rename_i hz
                      refine ⟨us, hH, by rw [← ru.len]; exact hz, x6, _, lall, s6.wr (c := .lst (acc ++ [z])) hx6 hF ⟨hF, _, upd_same, ru.app (.cons r6 .nil)⟩, hq⟩
                    · exact hq.elim
                  | _ => simp only [h5] at hq; exact hq.elim
    · have e : i = ds.1.length := by omega
      subst e
      rw [List.drop_length] at hq
      refine .inl ⟨g2, ?_⟩
      simp only [cGo, hwb, if_true, cEnd] at hq
      split at hq
      · rename_i acc h5
        obtain ⟨hF, us, hH, ru⟩ := hsx.cell n _ D' h5 hx
        have hs' := hsx.take ((Le.cell u D').tr lx) hul
        refine hq ⟨x.F, u.ρ⟩ H D' us (((Le.cell u D').tr lx).take) hs' hF ?_ hH ru
        intro z
        obtain ⟨j, hj⟩ := List.getElem?_of_mem z
        have h6 : x.ρ[j]? = some D' := ((Le.cell u D').tr lx).at hj
        have h7 := nodup_get hsx.nd h6 hx
        rw [h7, ← hul] at hj
        simp at hj
      · exact hq.elim
theorem dl_comp {elt tg iter : Expr} {ifs : List Expr} {scope : Scope} {own : List (Str × Nat)} {pos : Pos} {p : Pt} {fi : Fi} {ft : Fb} {fe : Fx} (hc : X.calm = true) (hN : X.N.Nodup) (hi : PI X tg iter (tI T fi W)) (ok : BlkOk X.N X.env.scope scope own)
    (hg : ∀ (s : Shared) (H : Hp) (C : Addr) (cl : List (Str × Addr)) (fp : List Addr), PG (X.blk s H scope (compEnvC scope cl C X.env) fp) tg (tPt T p)) (ht : ∀ (s : Shared) (H : Hp) (C : Addr) (cl : List (Str × Addr)) (fp : List Addr), PTs (X.blk s H scope (compEnvC scope cl C X.env) fp) ifs (tT T ft W0))
    (he : ∀ (s : Shared) (H : Hp) (C : Addr) (cl : List (Str × Addr)) (fp : List Addr), PE (X.blk s H scope (compEnvC scope cl C X.env) fp) elt (tE T fe W0)) (hs : ∀ x, foldedSetIterable iter X.env x = pure x) (hsl : ∀ i ∈ p.slots, i ∈ own.map (·.2)) :
    PE X (.ListComp elt [⟨tg, iter, ifs, 0⟩] scope pos) (tL T (lComp p (own.map (·.2)) fi ft fe) W) :=
  PE.imp (pe_lc hc hN hi ok hg ht he hs) fun σ H Q h => lc_imp hsl h
/-- name = [..] on one line -/
def sSetF (i : Nat) (f : FL) : Fs := fun env st => (f env st).thn env fun xs st1 => .nx (env.set i (some (.lst xs))) st1
def sSetN (i : Nat) (f : FL) : Fs := fun env st => (f env st).thn env fun xs st1 => .nx (env.set i (some (.ref st1.length))) (st1 ++ [.lst xs])
section
variable {i : Nat} {y : Str} {py spos : Pos} {elt tg iter : Expr} {ifs : List Expr} {scope : Scope} {own : List (Str × Nat)} {pos : Pos} {p : Pt} {fi : Fi} {ft : Fb} {fe : Fx} (hc : X.calm = true) (hN : X.N.Nodup) (hy : X.N[i]? = some y) (hyl : X.env.scope.names.lookup y = some .local)
    (hsw : swapsWith (.ListComp elt [⟨tg, iter, ifs, 0⟩] scope pos) (some (.Name y py)) spos.line X.env = pure true) (hi : PI X tg iter (tI T fi W)) (ok : BlkOk X.N X.env.scope scope own)
    (hg : ∀ (s : Shared) (H : Hp) (C : Addr) (cl : List (Str × Addr)) (fp : List Addr), PG (X.blk s H scope (compEnvC scope cl C X.env) fp) tg (tPt T p)) (ht : ∀ (s : Shared) (H : Hp) (C : Addr) (cl : List (Str × Addr)) (fp : List Addr), PTs (X.blk s H scope (compEnvC scope cl C X.env) fp) ifs (tT T ft W0))
    (he : ∀ (s : Shared) (H : Hp) (C : Addr) (cl : List (Str × Addr)) (fp : List Addr), PE (X.blk s H scope (compEnvC scope cl C X.env) fp) elt (tE T fe W0)) (hs : ∀ x, foldedSetIterable iter X.env x = pure x) (hsl : ∀ i ∈ p.slots, i ∈ own.map (·.2))
include hc hN hy hyl hsw hi ok hg ht he hs hsl
theorem ds_setF : PS X (.Assign [.Name y py] (.ListComp elt [⟨tg, iter, ifs, 0⟩] scope pos) spos) (tS T (sSetF i (lComp p (own.map (·.2)) fi ft fe)) W) :=
  PS.imp (ps_setLc hc hN hy hyl hsw hi ok hg ht he hs) fun Dn σ H ⟨w, env, st, hs, hE, hp⟩ => by
    refine lc_imp hsl ⟨w, env, st, hs, hE, ?_⟩
    unfold sSetF at hp
    cases q : lComp p (own.map (·.2)) fi ft fe env st with
    | ok xs st1 =>
      rw [q] at hp
      intro u H1 pa vs l s1 hF hn hp1 r
      obtain ⟨l2, s2⟩ := s1.fastP hp1 hF hn
      exact hp _ _ H1 (l.tr l2) s2 (((hE.up l).up l2).set (.d (.lst (by rw [Wd.fF, upd_same]) (r.up l2.F))))
    | exc c fs st1 => rw [q] at hp; exact fun u H1 cls d l s x => hp u σ H1 cls d l s (hE.up l) x
    | stuck => rw [q] at hp; exact hp
theorem ds_setN : PS X (.Assign [.Name y py] (.ListComp elt [⟨tg, iter, ifs, 0⟩] scope pos) spos) (tS T (sSetN i (lComp p (own.map (·.2)) fi ft fe)) W) :=
  PS.imp (ps_setLc hc hN hy hyl hsw hi ok hg ht he hs) fun Dn σ H ⟨w, env, st, hs, hE, hp⟩ => by
    refine lc_imp hsl ⟨w, env, st, hs, hE, ?_⟩
    unfold sSetN at hp
    cases q : lComp p (own.map (·.2)) fi ft fe env st with
    | ok xs st1 =>
      rw [q] at hp
      intro u H1 pa vs l s1 hF hn hp1 r
      refine hp (u.cell pa) _ H1 (l.tr (Le.cell u pa)) (s1.cellP hn ⟨hF, vs, hp1, r⟩) (((hE.up l).up (Le.cell u pa)).set (.ref ?_))
      rw [Wd.cell, s1.len]
      simp
    | exc c fs st1 => rw [q] at hp; exact fun u H1 cls d l s x => hp u σ H1 cls d l s (hE.up l) x
    | stuck => rw [q] at hp; exact hp
end
end
end Ev
set_option Elab.async false
set_option linter.all false
set_option maxRecDepth 100000
set_option maxHeartbeats 1000000
namespace Ev
open PySem PySem.Spec L2
/-! ### attributes -/
structure AttOk (T : Tb) (ao : Nat → Nat → Bool) : Prop where
  inj : ∀ f g x, T.att f = some x → T.att g = some x → f = g
  ok : ∀ c f C x, ao c f = true → T.cls c = some C → T.att f = some x → Cls T.K C ∧ NoAttr T.K C x
def objD (st : Store) : D → Option (Nat × List (Nat × D))
  | .obj c fs => some (c, fs)
  | .ref i => match st[i]? with
    | some (.ins c fs) => some (c, fs)
    | _ => none
  | _ => none
section
variable {T : Tb} {X : Cx} {W : WX}
theorem obj_at {w : Wd} {st : Store} {H : Hp} {d : D} {v : V} {c : Nat} {fs : List (Nat × D)} (hs : StOk T w st H) (r : Rv T w d v) (h : objD st d = some (c, fs)) : ∃ a C dx fvs, v = .ref a ∧ T.cls c = some C ∧ H a = some (.ins C dx fvs) ∧ Rpf T w.F fs fvs := by
  cases r with
  | fun_ h1 _ => cases d <;> first | (cases h; done) | (cases h1; done)
  | d r =>
    cases r with
    | obj h1 h2 h3 => cases h; exact ⟨_, _, _, _, rfl, h1, hs.sub _ _ h2, h3⟩
    | _ => cases h
  | ref ha =>
    simp only [objD] at h
    split at h
    · rename_i hx
      cases h
      obtain ⟨h1, C, dx, fvs, h2, h3, h4⟩ := hs.cell _ _ _ hx ha
      exact ⟨_, C, dx, fvs, rfl, h2, h3, h4⟩
    · cases h
theorem rpf_get {ao : Nat → Nat → Bool} (A : AttOk T ao) {F : Hp} {f : Nat} {x : Str} (hx : T.att f = some x) : ∀ {fs : List (Nat × D)} {fvs : List (Str × V)} {d : D}, Rpf T F fs fvs → getF f fs = some d → ∃ v, fvs.lookup x = some v ∧ Rp T F d v
  | _, _, _, .nil, h => by simp [getF] at h
  | (g, e) :: r, (y, u) :: r', d, .cons h1 h2 t, h => by
    simp only [getF] at h
    split at h
    · rename_i hg
      subst hg
      cases h
      rw [hx] at h1
      cases h1
      exact ⟨u, by simp [List.lookup], h2⟩
    · rename_i hg
      obtain ⟨v, a, b⟩ := rpf_get A hx t h
      refine ⟨v, ?_, b⟩
      have : ¬ x = y := fun e => hg (A.inj g f x (e ▸ h1) hx)
      rw [List.lookup_cons, show (x == y) = false by simpa using this]
      exact a
theorem rpf_put {ao : Nat → Nat → Bool} (A : AttOk T ao) {F : Hp} {f : Nat} {x : Str} {d : D} {v : V} (hx : T.att f = some x) (r : Rp T F d v) : ∀ {fs : List (Nat × D)} {fvs : List (Str × V)}, Rpf T F fs fvs → Rpf T F (setF f d fs) (putF x v fvs)
  | _, _, .nil => .cons hx r .nil
  | (g, e) :: fr, (y, u) :: r', .cons h1 h2 t => by
    unfold setF putF
    by_cases hg : g = f
    · subst hg
      rw [hx] at h1
      cases h1
      rw [if_pos rfl, if_pos rfl]
      exact .cons hx r t
    · have hy : ¬ y = x := fun e => hg (A.inj g f x (e ▸ h1) hx)
      rw [if_neg hg, if_neg hy]
      exact .cons h1 h2 (rpf_put A hx r t)
theorem Rpf.len {F : Hp} : ∀ {fs : List (Nat × D)} {fvs : List (Str × V)}, Rpf T F fs fvs → fs.length = fvs.length
  | _, _, .nil => rfl
  | _, _, .cons _ _ r => by simp [Rpf.len r]
def attP (ao : Nat → Nat → Bool) (f : Nat) (d : D) (st : Store) : Oe := match objD st d with
  | some (c, fs) => (match getF f fs with
    | some y => if ao c f = true then .ok y st else .stuck
    | none => .stuck)
  | none => .stuck
theorem de_att {ao : Nat → Nat → Bool} (A : AttOk T ao) (hK : T.K = X.K) {e : Expr} {fe : Fx} {f : Nat} {x : Str} {pos : Pos} (hx : T.att f = some x) (h : PE X e (tE T fe W)) (hb : attributeBase e x X.env (eval e X.env) = eval e X.env) : PE X (.Attribute e x pos) (tE T (f1 (attP ao f) fe) W) :=
  PE.imp (pe_fld h hb) fun σ H Q ⟨w, env, st, hs, he, hp⟩ => by
    obtain ⟨w1, env1, st1, a1, a2, a3⟩ := tE.bind hs he hp
    refine ⟨w1, env1, st1, a1, a2, a3.imp (fun v H1 ⟨u, d, st2, l, s2, e2, rx, hp2⟩ => ?_) fun _ _ _ z => z⟩
    unfold attP at hp2
    split at hp2
    · rename_i c fs ho
      split at hp2
      · rename_i y hg
        split at hp2
        · rename_i hao
          obtain ⟨a, C, dx, fvs, rfl, h1, h2, h3⟩ := obj_at s2 rx ho
          obtain ⟨v', h4, h5⟩ := rpf_get A hx h3 hg
          obtain ⟨h6, h7⟩ := A.ok c f C x hao h1 hx
          rw [hK] at h6 h7
          exact ⟨a, C, dx, fvs, v', rfl, h2, h6, h7, h4, post_same s2 h5 hp2⟩
        · exact hp2.elim
      · exact hp2.elim
    · exact hp2.elim
/-- o.f = e -/
def sAtt (ao : Nat → Nat → Bool) (f : Nat) (o e : Fx) : Fs := fun env st => (e env st).thn env fun y st1 => (o env st1).thn env fun d st2 => match d, frz y st2 with
  | .ref i, some (z, st3) => (match st3[i]? with
    | some (.ins c fs) => if ao c f = true ∧ fs.length < 1000 then .nx env (st3.set i (.ins c (setF f z fs))) else .stuck
    | _ => .stuck)
  | _, _ => .stuck
theorem ds_att {ao : Nat → Nat → Bool} (A : AttOk T ao) (hK : T.K = X.K) {o e : Expr} {fo fe : Fx} {f : Nat} {x : Str} {pos pos' : Pos} (hx : T.att f = some x) (ho : PE X o (tE T fo W)) (h : PE X e (tE T fe W)) (hsw : swapsWith e (some (.Attribute o x pos')) pos.line X.env = pure false) :
    PS X (.Assign [.Attribute o x pos'] e pos) (tS T (sAtt ao f fo fe) W) :=
  PS.imp (ps_fld ho h hsw) fun Dn σ H ⟨w, env, st, hs, he, hp⟩ => by
    obtain ⟨w1, env1, st1, a1, a2, a3⟩ := sE hs he hp
    refine ⟨w1, env1, st1, a1, a2, a3.imp (fun y H1 ⟨u, d, st2, l, s2, e2, ry, hp2⟩ => ?_) fun _ _ _ z => z⟩
    obtain ⟨w3, env3, st3, b1, b2, b3⟩ := sE s2 e2 hp2
    refine ⟨w3, env3, st3, b1, b2, b3.imp (fun v H2 ⟨u2, dd, st4, l2, s4, e4, rv, hp4⟩ => ?_) fun _ _ _ z => z⟩
    split at hp4
    · rename_i i z st5 hf
      obtain ⟨u3, l3, s5, r5⟩ := frz_ok s4 (ry.up l2) hf
      split at hp4
      · rename_i c fs hc
        split at hp4
        · rename_i hao
          cases rv with
          | d r => cases r
          | fun_ h _ => cases h
          | @ref _ a ha =>
            have ha3 := l3.at ha
            obtain ⟨hF, C, dx, fvs, h1, h2, h3⟩ := s5.cell _ _ a hc ha3
            obtain ⟨h6, h7⟩ := A.ok c f C x hao.1 h1 hx
            rw [hK] at h6 h7
            have h8 := hao.2
            rw [h3.len] at h8
            refine ⟨a, C, dx, fvs, rfl, h2, h6, h7, h8, ?_⟩
            exact hp4 u3 σ _ l3 (s5.wr (c := .ins c (setF f z fs)) ha3 hF ⟨hF, C, dx, _, h1, upd_same, rpf_put A hx r5 h3⟩) (e4.up l3)
        · exact hp4.elim
      · exact hp4.elim
    · exact hp4.elim
/-! ### o[i] = v -/
/-- the store behind o[i] = v (v laid fast) -/
def setP (o i v : D) (st : Store) : Option Store := match frz v st with
  | some (z, st1) => (match o with
    | .ref a => (match st1[a]?, i with
      | some (.lst xs), .int k => (match ixN xs.length k with
        | some j => some (st1.set a (.lst (xs.set j z)))
        | none => none)
      | some (.dct kvs), i => (match keyD i with
        | some k => if kvs.length < sizeLine then some (st1.set a (.dct (setK k z kvs))) else none
        | none => none)
      | _, _ => none)
    | _ => none)
  | none => none
theorem pk_len {F : Hp} : ∀ {kvs : List (Key × D)} {vs : List (Key × V)}, PK' T F kvs vs → kvs.length = vs.length
  | _, _, .nil => rfl
  | _, _, .cons _ t => by simp [pk_len t]
theorem nodup_put {k : Key} {v : V} {vs : List (Key × V)} (nd : (vs.map (·.1)).Nodup) : ((putK vs k v).map (·.1)).Nodup := by
  unfold putK
  split
  · rename_i h
    rw [List.map_map]
    have : ((fun kv : Key × V => kv.1) ∘ fun kv => if kv.1 = k then (kv.1, v) else kv) = (·.1) := by
      funext kv
      simp only [Function.comp]
      split <;> rfl
    rw [this]
    exact nd
  · rename_i h
    rw [List.map_append, List.nodup_append]
    refine ⟨nd, by simp, fun a ha b hb e => ?_⟩
    simp only [List.map_cons, List.map_nil, List.mem_singleton] at hb
    obtain ⟨p, hp, e2⟩ := List.mem_map.mp ha
    exact h (List.any_eq_true.mpr ⟨p, hp, by simp [e2, e, hb]⟩)
theorem setP_ok (hu : X.A.units + 1 < cLine) {pins : List (Addr × Obj)} {s : Shared} {σ : L2.St} {H : Hp} {w : Wd} {st st' : Store} {o i v : D} {vo vi vv : V} {uo ui uv : Value} {Q : Hp → Prop} {Φ : Unit → Shared → Prop} (I : Inv X pins σ H s) (hs : StOk T w st H) (ro : Rv T w o vo) (ri : Rv T w i vi) (rv : Rv T w v vv)
    (r1 : RelV vo uo) (r2 : RelV vi ui) (r3 : RelV vv uv) (hp : setP o i v st = some st') (q : ∀ u H', Le w u → StOk T u st' H' → Q H') :
    wpAny (model X.prog X.w) X.A (setItem uo ui uv) (fun _ s' => ∃ H', Inv X pins σ H' s' ∧ Q H') X.xe s := by
  unfold setP at hp
  split at hp
  · rename_i z st1 hf
    obtain ⟨u, l, s1, rz⟩ := frz_ok hs rv hf
    split at hp
    · rename_i a
      cases ro with
      | d r => cases r
      | fun_ h _ => cases h
      | @ref _ p ha =>
        have ha1 := l.at ha
        split at hp
        · rename_i xs k hx
          split at hp
          · rename_i j hj
            cases hp
            obtain ⟨hF, vs, hH, rr⟩ := s1.cell _ _ p hx ha1
            rw [ri.int_inv] at r2
            exact set_list pins s σ H _ _ _ uo ui uv Q I r1 r2 r3 ⟨p, vs, k, j, rfl, rfl, hH, by rw [← rr.len]; exact hj, q u _ l (s1.wr (c := .lst (xs.set j z)) ha1 hF ⟨hF, _, upd_same, rr.set rz j⟩)⟩
          · cases hp
        · rename_i i' kvs hx
          split at hp
          · rename_i k hk
            split at hp
            · rename_i hz
              cases hp
              obtain ⟨hF, vs, h0, hH, rr⟩ := s1.cell _ _ p hx ha1
              obtain rfl : uo = Value.ref p := r1
              rw [keyD_kV ri hk] at r2
              refine d_setItem hu I (DPut.k hH (by rw [← pk_len rr]; exact hz)) r2 r3 fun s' I' => ⟨_, I', q u _ l (s1.wr (c := .dct (setK k z kvs)) ha1 hF ⟨hF, _, nodup_put h0, upd_same, pk_set rz rr h0⟩)⟩
            · cases hp
          · cases hp
        · cases hp
    · cases hp
  · cases hp
/-- o[i] = e -/
def sSub (o i e : Fx) : Fs := fun env st => (e env st).thn env fun v st1 => (o env st1).thn env fun a st2 => (i env st2).thn env fun k st3 => match setP a k v st3 with
  | some st4 => .nx env st4
  | none => .stuck
def gSubD (o i : Fx) : Fg := fun v env st1 => (o env st1).thn env fun a st2 => (i env st2).thn env fun k st3 => match setP a k v st3 with
  | some st4 => .nx env st4
  | none => .stuck
theorem dg_sub (hu : X.A.units + 1 < cLine) {o i : Expr} {fo fi : Fx} {pos : Pos} (ho : PE X o (tE T fo W)) (hi : PE X i (tE T fi W)) (ha : ∀ v, assign (.Subscript o i pos) X.env v = (do
      let ov ← holding [v] (eval o X.env)
      let iv ← holding [v, ov] (eval i X.env)
      standAt pos
      holding [v, ov, iv] (setItem ov iv v)
      release [v, ov, iv] [])) : PG X (.Subscript o i pos) (tG T (gSubD fo fi) W) := by
  refine ⟨fun pins s σ H v u Q I r hw => ?_⟩
  obtain ⟨w, env, st, d, hs, he, rv, hp⟩ := hw
  rw [ha]
  obtain ⟨w1, env1, st1, a1, a2, a3⟩ := sE hs he hp
  refine wpAny_bind (wpAny_holding (thn (ho.run pins s σ H _ I ⟨w1, env1, st1, a1, a2, a3⟩) fun ov s1 ⟨x, H1, I1, r1, u1, dx, st2, l1, s2, e2, rx, hp2⟩ => ?_))
  obtain ⟨w3, env3, st3, b1, b2, b3⟩ := sE s2 e2 hp2
  refine wpAny_bind (wpAny_holding (thn (hi.run pins s1 σ H1 _ I1 ⟨w3, env3, st3, b1, b2, b3⟩) fun iv s2' ⟨y, H2, I2, r2, u2, dy, st4, l2, s4, e4, ry, hp4⟩ => ?_))
  split at hp4
  · rename_i st5 hset
    refine wpAny_bind (wpAny_standAt (wpAny_bind (wpAny_holding (thn (setP_ok (Φ := fun _ _ => True) (Q := fun H' => Q σ H') hu I2 s4 (rx.up l2) ry ((rv.up l1).up l2) r1 r2 r hset fun x H' l s' => ?_) fun _ s3 ⟨H3, I3, q3⟩ => ?_))))
    · exact hp4 x σ H' l s' (e4.up l)
    · exact wpAny_release ⟨σ, H3, I3, q3⟩
  · exact hp4.elim
/-! ### dict displays -/
abbrev Fp := Env → Store → Ou (List (Key × D))
def pNil : Fp := fun _ st => .ok [] st
def pCons (k v : Fx) (r : Fp) : Fp := fun env st => (k env st).bind fun a st1 => (v env st1).bind fun b st2 => match keyD a, frz b st2 with
  | some k, some (z, st3) => (r env st3).bind fun ps st4 => .ok ((k, z) :: ps) st4
  | _, _ => .stuck
def PostP (T : Tb) (w : Wd) (Q : List (V × V) → Hp → Prop) (E : XK) : Ou (List (Key × D)) → Prop
  | .ok ps st => ∀ u H vs, Le w u → StOk T u st H → PK' T u.F ps vs → Q (vs.map fun kv => (kV kv.1, kv.2)) H
  | .exc c fs st => ∀ u H cls d, Le w u → StOk T u st H → ExOk T u c fs cls d → E cls d H
  | .stuck => False
structure PPd (T : Tb) (X : Cx) (W : WX) (pos : Pos) (keys : List (Option Expr)) (vals : List Expr) (f : Fp) : Prop where
  run : ∃ trs, PPs X pos keys vals trs ∧ ∀ (σ : L2.St) (H : Hp) (Q : List (V × V) → Hp → Prop) (w : Wd) (env : Env) (st : Store), StOk T w st H → EnvOk T w env σ → PostP T w Q (fun c d H' => W c d σ H') (f env st) → tPairs trs σ H Q
theorem dpp_nil {pos : Pos} : PPd T X W pos [] [] pNil := ⟨[], pps_nil, fun σ H Q w env st hs he hp => hp w H [] (Le.rfl' _) hs .nil⟩
theorem dpp_cons {pos : Pos} {k v : Expr} {ks : List (Option Expr)} {vs : List Expr} {fk fv : Fx} {r : Fp} (hk : PE X k (tE T fk W)) (hv : PE X v (tE T fv W)) (hr : PPd T X W pos ks vs r) : PPd T X W pos (some k :: ks) (v :: vs) (pCons fk fv r) := by
  obtain ⟨trs, h1, h2⟩ := hr.run
  refine ⟨_, pps_cons hk hv h1, fun σ H Q w env st hs he hp => ?_⟩
  refine ⟨w, env, st, hs, he, ?_⟩
  simp only [pCons] at hp
  cases q : fk env st with
  | stuck => rw [q] at hp; exact hp
  | exc c fs st1 => rw [q] at hp; exact hp
  | ok a st1 =>
    rw [q] at hp
    intro u H1 x l s1 rx
    refine ⟨u, env, st1, s1, he.up l, ?_⟩
    simp only [Ou.bind] at hp
    cases q2 : fv env st1 with
    | stuck => rw [q2] at hp; exact hp
    | exc c fs st2 => rw [q2] at hp; exact fun u2 H2 cls d l2 => hp u2 H2 cls d (l.tr l2)
    | ok b st2 =>
      rw [q2] at hp
      intro u2 H2 y l2 s2 ry
      simp only at hp
      cases hkk : keyD a with
      | none => simp only [hkk] at hp; exact hp.elim
      | some kk =>
        cases hf : frz b st2 with
        | none => simp only [hkk, hf] at hp; exact hp.elim
        | some pr =>
          obtain ⟨z, st3⟩ := pr
          simp only [hkk, hf] at hp
          obtain ⟨u3, l3, s3, r3⟩ := frz_ok s2 ry hf
          have ex := keyD_kV rx hkk
          refine h2 σ H2 _ u3 env st3 s3 (((he.up l).up l2).up l3) ?_
          cases q3 : r env st3 with
          | stuck => rw [q3] at hp; exact hp
          | exc c fs st4 => rw [q3] at hp; exact fun u4 H4 cls d l4 => hp u4 H4 cls d (((l.tr l2).tr l3).tr l4)
          | ok ps st4 =>
            rw [q3] at hp
            intro u4 H4 vs4 l4 s4 r4
            have := hp u4 H4 ((kk, y) :: vs4) (((l.tr l2).tr l3).tr l4) s4 (.cons ⟨rfl, r3.up l4.F⟩ r4)
            rw [ex]
            exact this
def mergeD (more : List (Key × D)) : List (Key × D) := more.foldl (fun acc kv => setK kv.1 kv.2 acc) []
theorem pk_merge {F : Hp} : ∀ {ps : List (Key × D)} {vs : List (Key × V)} {acc : List (Key × D)} {va : List (Key × V)}, PK' T F ps vs → PK' T F acc va → (va.map (·.1)).Nodup → PK' T F (ps.foldl (fun acc kv => setK kv.1 kv.2 acc) acc) (mergeK va vs) ∧ ((mergeK va vs).map (·.1)).Nodup
  | [], _, _, _, .nil, h, nd => ⟨h, nd⟩
  | (k, d) :: ps, (k', v) :: vs, acc, va, .cons ⟨h1, h2⟩ t, h, nd => by
    have h1 : k = k' := h1
    subst h1
    exact pk_merge (ps := ps) (vs := vs) (acc := setK k d acc) (va := putK va k v) t (pk_set h2 h nd) (nodup_put nd)
/-- {k: v, ..}: a new dict's cell -/
def fDict (p : Fp) : Fx := fun env st => (p env (st ++ [.dct []])).bind fun ps st1 => match st1[st.length]? with
  | some (.dct []) => if ps.length ≤ 15 then .ok (.ref st.length) (st1.set st.length (.dct (mergeD ps))) else .stuck
  | _ => .stuck
theorem de_dict {pos : Pos} {keys : List (Option Expr)} {vals : List Expr} {f : Fp} (h : PPd T X W pos keys vals f) (hall : keys.all (·.isSome) = true) (hl : keys.length = vals.length) (h0 : keys ≠ []) (h15 : keys.length ≤ 15) : PE X (.Dict keys vals pos) (tE T (fDict f) W) := by
  obtain ⟨trs, h1, h2⟩ := h.run
  refine PE.imp (pe_disp h1 hall hl h0 h15) fun σ H Q ⟨w, env, st, hs, he, hp⟩ p hn => ?_
  have s0 : StOk T (w.cell p) (st ++ [.dct []]) (upd H p (.dK [])) := hs.newC hn ⟨hs.freeF hn, [], List.nodup_nil, upd_same, .nil⟩
  have hρ : (w.cell p).ρ[st.length]? = some p := by
    rw [Wd.cell, hs.len]
    simp
  refine h2 σ _ _ (w.cell p) env _ s0 (he.up (Le.cell w p)) ?_
  unfold fDict at hp
  cases q : f env (st ++ [.dct []]) with
  | stuck => rw [q] at hp; exact hp
  | exc c fs st1 => rw [q] at hp; exact fun u2 H2 cls d l2 => hp u2 H2 cls d ((Le.cell w p).tr l2)
  | ok ps st1 =>
    rw [q] at hp
    intro u H1 vs l s1 r
    simp only [Ou.bind] at hp
    have hu1 := l.at hρ
    split at hp
    · rename_i hc
      split at hp
      · rename_i h15
        obtain ⟨hF, vs0, nd, hH, r0⟩ := s1.cell _ _ p hc hu1
        cases r0
        refine ⟨hH, vs, rfl, by rw [← pk_len r]; exact h15, ?_⟩
        obtain ⟨rm, nm⟩ := pk_merge r (.nil : PK' T u.F [] []) List.nodup_nil
        exact hp u _ _ ((Le.cell w p).tr l) (s1.wr (c := .dct (mergeD ps)) hu1 hF ⟨hF, _, nm, upd_same, rm⟩) (.ref hu1)
      · exact hp.elim
    · exact hp.elim
def fDict0 : Fx := fun _ st => .ok (.ref st.length) (st ++ [.dct []])
theorem de_dict0 {pos : Pos} : PE X (.Dict [] [] pos) (tE T fDict0 W) := PE.imp pe_dnewK fun σ H Q ⟨w, env, st, hs, he, hp⟩ p hn => by
  refine hp (w.cell p) _ _ (Le.cell w p) (hs.newC hn ⟨hs.freeF hn, [], List.nodup_nil, upd_same, .nil⟩) (.ref ?_)
  rw [Wd.cell, hs.len]
  simp
end
end Ev
set_option Elab.async false
set_option linter.all false
set_option maxRecDepth 100000
set_option maxHeartbeats 1000000
namespace Ev
open PySem PySem.Spec L2
/-! ### plain data -/
mutual
def pd : D → Option PyData
  | .non => some .none
  | .bl b => some (.bool b)
  | .int i => some (.int i)
  | .str x => some (.str x)
  | .tup xs => (pds xs).map .tuple
  | .lst xs => (pds xs).map .list
  | .scr xs => (pds xs).map .list
  | _ => none
def pds : List D → Option (List PyData)
  | [] => some []
  | d :: ds => match pd d, pds ds with
    | some p, some ps => some (p :: ps)
    | _, _ => none
end
def pdR (st : Store) : D → Option PyData
  | .ref i => match st[i]? with
    | some (.lst xs) => (pds xs).map .list
    | some (.fls xs) => (pds xs).map .list
    | _ => none
  | d => pd d
section
variable {T : Tb} {X : Cx} {W : WX}
mutual
theorem dp_of {K : PySem.W.Frag} (hK : T.K = K) {F H : Hp} (e : Sub F H) : ∀ {d : D} {v : V} {p : PyData}, Rp T F d v → pd d = some p → Dp K H v p
  | _, _, _, .non, h => by simp only [pd] at h; cases h; exact .non
  | _, _, _, .bl b, h => by simp only [pd] at h; cases h; exact .bl b
  | _, _, _, .int b, h => by simp only [pd] at h; cases h; exact .int b
  | _, _, _, .str b, h => by simp only [pd] at h; cases h; exact .str b
  | .tup xs, _, _, .tup h1 r, h => by
    simp only [pd] at h
    cases q : pds xs with
    | none => rw [q] at h; cases h
    | some ps => rw [q] at h; cases h; exact .tup (hK ▸ e.sqt h1) (dps_of hK e r q)
  | .lst xs, _, _, .lst h1 r, h => by
    simp only [pd] at h
    cases q : pds xs with
    | none => rw [q] at h; cases h
    | some ps => rw [q] at h; cases h; exact .lst (SqL.of (e _ _ h1)) (dps_of hK e r q)
  | .scr xs, _, _, .scr h1 r, h => by
    simp only [pd] at h
    cases q : pds xs with
    | none => rw [q] at h; cases h
    | some ps => rw [q] at h; cases h; exact .lst (hK ▸ e.sql h1) (dps_of hK e r q)
  | _, _, _, .obj _ _ _, h => by simp only [pd] at h; cases h
  | _, _, _, .fn _, h => by simp only [pd] at h; cases h
  | _, _, _, .cls _, h => by simp only [pd] at h; cases h
  | _, _, _, .ty _, h => by simp only [pd] at h; cases h
theorem dps_of {K : PySem.W.Frag} (hK : T.K = K) {F H : Hp} (e : Sub F H) : ∀ {ds : List D} {vs : List V} {ps : List PyData}, Rps T F ds vs → pds ds = some ps → DpAll K H vs ps
  | _, _, _, .nil, h => by simp only [pds] at h; cases h; exact .nil
  | d :: ds, _, _, .cons r rr, h => by
    simp only [pds] at h
    cases q : pd d with
    | none => simp only [q] at h; cases h
    | some p =>
      cases q2 : pds ds with
      | none => simp only [q, q2] at h; cases h
      | some ps => simp only [q, q2] at h; cases h; exact .cons (dp_of hK e r q) (dps_of hK e rr q2)
end
theorem dp_at (hK : T.K = X.K) {w : Wd} {st : Store} {H : Hp} {d : D} {v : V} {p : PyData} (hs : StOk T w st H) (r : Rv T w d v) (h : pdR st d = some p) : Dp X.K H v p := by
  cases r with
  | ref ha =>
    simp only [pdR] at h
    split at h
    · rename_i xs hx
      obtain ⟨vs, h1, h2⟩ := cell_lst hs ha (.inl hx)
      cases q : pds xs with
      | none => rw [q] at h; cases h
      | some ps => rw [q] at h; cases h; exact .lst (SqL.of h1) (dps_of hK hs.sub h2 q)
    · rename_i xs hx
      obtain ⟨vs, h1, h2⟩ := cell_lst hs ha (.inr hx)
      cases q : pds xs with
      | none => rw [q] at h; cases h
      | some ps => rw [q] at h; cases h; exact .lst (SqL.of h1) (dps_of hK hs.sub h2 q)
    · cases h
  | d r =>
    have e : pdR st d = pd d := by cases d <;> first | rfl | cases r
    rw [e] at h
    exact dp_of hK hs.sub r h
  | fun_ hf _ => cases d <;> first | (cases hf; done) | (simp [pdR, pd] at h)
def eqP (a b : D) (st : Store) : Oe := match pdR st a, pdR st b with
  | some p, some q => if SeqAt.shaped p = true ∧ SeqAt.shaped q = true then .ok (.bl (PyData.eqv p q)) st else .stuck
  | _, _ => .stuck
def neP (a b : D) (st : Store) : Oe := match pdR st a, pdR st b with
  | some p, some q => if SeqAt.shaped p = true ∧ SeqAt.shaped q = true then .ok (.bl (!PyData.eqv p q)) st else .stuck
  | _, _ => .stuck
theorem eqP_ok (hK : T.K = X.K) (hu : X.A.units + 64 < cLine) : OpD T X W (compareOp .Eq) eqP := OpD.of (op_eqD hu) fun w st H dx dy vx vy Q E hs rx ry hp => by
  unfold eqP at hp
  split at hp
  · rename_i p q h1 h2
    split at hp
    · rename_i hz
      exact ⟨p, q, dp_at hK hs rx h1, dp_at hK hs ry h2, hz.1, hz.2, post_same hs (.bl _) hp⟩
    · exact hp.elim
  · exact hp.elim
theorem neP_ok (hK : T.K = X.K) (hu : X.A.units + 64 < cLine) : OpD T X W (compareOp .NotEq) neP := OpD.of (op_neD hu) fun w st H dx dy vx vy Q E hs rx ry hp => by
  unfold neP at hp
  split at hp
  · rename_i p q h1 h2
    split at hp
    · rename_i hz
      exact ⟨p, q, dp_at hK hs rx h1, dp_at hK hs ry h2, hz.1, hz.2, post_same hs (.bl _) hp⟩
    · exact hp.elim
  · exact hp.elim
def ltP (a b : D) (st : Store) : Oe := match a, b with
  | .int i, .int j => .ok (.bl (decide (i < j))) st
  | _, _ => .stuck
def leP (a b : D) (st : Store) : Oe := match a, b with
  | .int i, .int j => .ok (.bl (decide (i ≤ j))) st
  | _, _ => .stuck
def gtP (a b : D) (st : Store) : Oe := match a, b with
  | .int i, .int j => .ok (.bl (decide (j < i))) st
  | _, _ => .stuck
def geP (a b : D) (st : Store) : Oe := match a, b with
  | .int i, .int j => .ok (.bl (decide (j ≤ i))) st
  | _, _ => .stuck
theorem ltP_ok : OpD T X W (compareOp .Lt) ltP := OpD.of op_lt fun w st H dx dy vx vy Q E hs rx ry hp => by
  unfold ltP at hp
  split at hp
  · exact ⟨_, _, rx.int_inv, ry.int_inv, post_same hs (.bl _) hp⟩
  · exact hp.elim
theorem leP_ok : OpD T X W (compareOp .LtE) leP := OpD.of op_le fun w st H dx dy vx vy Q E hs rx ry hp => by
  unfold leP at hp
  split at hp
  · exact ⟨_, _, rx.int_inv, ry.int_inv, post_same hs (.bl _) hp⟩
  · exact hp.elim
theorem gtP_ok : OpD T X W (compareOp .Gt) gtP := OpD.of op_gt fun w st H dx dy vx vy Q E hs rx ry hp => by
  unfold gtP at hp
  split at hp
  · exact ⟨_, _, rx.int_inv, ry.int_inv, post_same hs (.bl _) hp⟩
  · exact hp.elim
theorem geP_ok : OpD T X W (compareOp .GtE) geP := OpD.of op_ge fun w st H dx dy vx vy Q E hs rx ry hp => by
  unfold geP at hp
  split at hp
  · exact ⟨_, _, rx.int_inv, ry.int_inv, post_same hs (.bl _) hp⟩
  · exact hp.elim
/-- is None -/
def nonD : D → Option Bool
  | .non => some true
  | .lam _ | .lams _ | .clo _ _ => none
  | _ => some false
def isP (a b : D) (st : Store) : Oe := match b, nonD a with
  | .non, some k => .ok (.bl k) st
  | _, _ => .stuck
def isnP (a b : D) (st : Store) : Oe := match b, nonD a with
  | .non, some k => .ok (.bl (!k)) st
  | _, _ => .stuck
theorem nonD_ok {w : Wd} {d : D} {v : V} {k : Bool} (r : Rv T w d v) (h : nonD d = some k) : decide (v = .non) = k := by
  cases r with
  | d r => cases r <;> (cases h; simp)
  | ref _ => cases h; simp
  | fun_ hf _ => cases d <;> first | (cases hf; done) | (cases h; done)
theorem isP_ok : OpD T X W (compareOp .Is) isP := OpD.of op_isN fun w st H dx dy vx vy Q E hs rx ry hp => by
  unfold isP at hp
  split at hp
  · rename_i k hk
    rw [nonD_ok rx hk]
    exact ⟨ry.non_inv, post_same hs (.bl _) hp⟩
  · exact hp.elim
theorem isnP_ok : OpD T X W (compareOp .IsNot) isnP := OpD.of op_notN fun w st H dx dy vx vy Q E hs rx ry hp => by
  unfold isnP at hp
  split at hp
  · rename_i k hk
    rw [nonD_ok rx hk]
    exact ⟨ry.non_inv, post_same hs (.bl _) hp⟩
  · exact hp.elim
/-- x in a row -/
def inP (a b : D) (st : Store) : Oe := match pdR st a, pdR st b with
  | some p, some (.list qs) => if SeqAt.shaped p = true ∧ SeqAt.shaped (.list qs) = true then .ok (.bl (qs.any fun q => PyData.eqv q p)) st else .stuck
  | _, _ => .stuck
/-! ### built-in calls -/
abbrev Gb := List D → Store → Oe
def CbD (T : Tb) (X : Cx) (W : WX) (f : Value) (g : Gb) : Prop := ∀ (pins : List (Addr × Obj)) (s : Shared) (σ : L2.St) (H : Hp) (w : Wd) (st : Store) (ds : List D) (vs : List V) (us : List Value) (Q : VK), Inv X pins σ H s → StOk T w st H → Rvs T w ds vs → Vals vs us →
    PostE T w Q (fun c d H' => W c d σ H') (g ds st) → wpAny (model X.prog X.w) X.A (call f us) (EP X pins σ Q) X.xe s
def fB (g : Gb) (a : Fa) : Fx := fun env st => (a env st).bind fun ds st1 => g ds st1
theorem CbD.of {f : Value} {g : Gb} {r : List V → Hp → VK → Prop} (hc : CallR X f r) (h : ∀ (w : Wd) (st : Store) (H : Hp) (ds : List D) (vs : List V) (Q : VK) (E : XK), StOk T w st H → Rvs T w ds vs → PostE T w Q E (g ds st) → r vs H Q) : CbD T X W f g :=
  fun pins s σ H w st ds vs us Q I hs rv ru hp => hc pins s σ H vs us Q I ru (h w st H ds vs Q _ hs rv hp)
theorem CbD.or {f : Value} {g g1 g2 : Gb} (h1 : CbD T X W f g1) (h2 : CbD T X W f g2) (hg : ∀ ds st, g ds st = g1 ds st ∨ g ds st = g2 ds st) : CbD T X W f g := fun pins s σ H w st ds vs us Q I hs rv ru hp => by
  rcases hg ds st with e | e
  · rw [e] at hp; exact h1 pins s σ H w st ds vs us Q I hs rv ru hp
  · rw [e] at hp; exact h2 pins s σ H w st ds vs us Q I hs rv ru hp
section
variable {x : Str} {p pos : Pos} {e : Expr} {es : List Expr} {f : Fa} {g : Gb} {id Ty : String}
theorem de_B (hc : CbD T X W (.builtin id) g) (hg : Gl X x) (hm : X.mg x = none) (hv : bootBuiltins x = some (.builtin id)) (ha : PA X (e :: es) (tA T f W)) (hn : x ≠ "__name__") (hdb : (x == ("__debug__" : Str)) = false)
    (he : starEach (e :: es) X.env = (false, eval e X.env) :: starEach es X.env) (hpl : (backTo pos (starEach es X.env)).any (·.1) = false) : PE X (.Call (.Name x p) (e :: es) [] pos) (tE T (fB g f) W) := by
  refine ⟨fun pins s σ H Q I h => ?_⟩
  obtain ⟨w, env, st, hs, hE, hp⟩ := h
  refine wpAny_Call_Name_kw (ld_blt I hg hm hv ?_ hn hdb)
  exact PyProof.Rows.callWith_builtin1 (thn (ha.run pos pins s σ H _ I (tA.bind hs hE hp)) fun us s1 ⟨vs, H1, I1, r1, u, ds, st1, l, hs1, he1, rx, hq⟩ => hc pins s1 σ H1 u st1 ds vs us Q I1 hs1 rx r1 hq) he hpl
theorem de_Ty (hc : CbD T X W (.type Ty) g) (hg : Gl X x) (hm : X.mg x = none) (hv : bootBuiltins x = some (.type Ty)) (ha : PA X (e :: es) (tA T f W)) (hn : x ≠ "__name__") (hdb : (x == ("__debug__" : Str)) = false)
    (he : starEach (e :: es) X.env = (false, eval e X.env) :: starEach es X.env) (hpl : (backTo pos (starEach es X.env)).any (·.1) = false) : PE X (.Call (.Name x p) (e :: es) [] pos) (tE T (fB g f) W) := by
  refine ⟨fun pins s σ H Q I h => ?_⟩
  obtain ⟨w, env, st, hs, hE, hp⟩ := h
  refine wpAny_Call_Name_kw (ld_blt I hg hm hv ?_ hn hdb)
  exact PyProof.Rows.callWith_type1 (thn (ha.run pos pins s σ H _ I (tA.bind hs hE hp)) fun us s1 ⟨vs, H1, I1, r1, u, ds, st1, l, hs1, he1, rx, hq⟩ => hc pins s1 σ H1 u st1 ds vs us Q I1 hs1 rx r1 hq) he hpl
/-- a built-in that was imported -/
theorem de_Bi (hc : CbD T X W (.builtin id) g) (hg : Gl X x) (hm : X.mg x = some (.builtin id)) (ha : PA X (e :: es) (tA T f W)) (hdb : (x == ("__debug__" : Str)) = false)
    (he : starEach (e :: es) X.env = (false, eval e X.env) :: starEach es X.env) (hpl : (backTo pos (starEach es X.env)).any (·.1) = false) : PE X (.Call (.Name x p) (e :: es) [] pos) (tE T (fB g f) W) := by
  refine ⟨fun pins s σ H Q I h => ?_⟩
  obtain ⟨w, env, st, hs, hE, hp⟩ := h
  refine wpAny_Call_Name_kw (ld_glob I hg hm ?_ hdb)
  exact PyProof.Rows.callWith_builtin1 (thn (ha.run pos pins s σ H _ I (tA.bind hs hE hp)) fun us s1 ⟨vs, H1, I1, r1, u, ds, st1, l, hs1, he1, rx, hq⟩ => hc pins s1 σ H1 u st1 ds vs us Q I1 hs1 rx r1 hq) he hpl
end
theorem Rvs.one {w : Wd} {d : D} {vs : List V} (h : Rvs T w [d] vs) : ∃ v, vs = [v] ∧ Rv T w d v := by
  cases h with | cons r rr => cases rr; exact ⟨_, rfl, r⟩
theorem Rvs.two {w : Wd} {d e : D} {vs : List V} (h : Rvs T w [d, e] vs) : ∃ v u, vs = [v, u] ∧ Rv T w d v ∧ Rv T w e u := by
  cases h with | cons r rr => cases rr with | cons r2 rr => cases rr; exact ⟨_, _, rfl, r, r2⟩
/-- len -/
def lenD (st : Store) : D → Option Int
  | .str x => if x.length ≤ sizeLine then some x.length else none
  | d => (seqD st d).map fun p => (p.2.length : Int)
def gLen : Gb := fun ds st => match ds with
  | [d] => (match lenD st d with
    | some n => .ok (.int n) st
    | none => .stuck)
  | _ => .stuck
theorem gLen_ok (hK : T.K = X.K) : CbD T X W (.builtin "len") gLen := CbD.of call_len fun w st H ds vs Q E hs rv hp => by
  unfold gLen at hp
  split at hp
  · rename_i d
    obtain ⟨v, rfl, r⟩ := rv.one
    split at hp
    · rename_i n hn
      by_cases hq : ∃ p, seqD st d = some p
      · obtain ⟨⟨b, xs⟩, hq⟩ := hq
        have e : lenD st d = (seqD st d).map fun p => (p.2.length : Int) := by cases d <;> first | rfl | (simp [seqD] at hq)
        rw [e, hq] at hn
        cases hn
        obtain ⟨a, vs, rfl, h2, h3⟩ := seq_or hs r hq
        rw [hK] at h3
        refine ⟨_, vs.length, rfl, ?_, ?_⟩
        · rcases h3 with h3 | h3
          · exact .inl ⟨vs, h3, rfl⟩
          · exact .inr ⟨vs, h3, rfl⟩
        · rw [← h2.len]; exact post_same hs (.int _) hp
      · have hn0 : seqD st d = none := by
          cases q : seqD st d with
          | none => rfl
          | some p => exact absurd ⟨p, q⟩ hq
        cases d with
        | str z =>
          simp only [lenD] at hn
          split at hn
          · rename_i hz
            cases hn
            exact ⟨_, z.length, rfl, by rw [r.str_inv]; exact ⟨hz, rfl⟩, post_same hs (.int _) hp⟩
          · cases hn
        | _ => simp [lenD, hn0] at hn
    · exact hp.elim
  · exact hp.elim
/-- int, abs, gcd, min, max of two -/
def gInt : Gb := fun ds st => match ds with
  | [.int i] => .ok (.int i) st
  | [.bl b] => .ok (.int (if b = true then 1 else 0)) st
  | _ => .stuck
theorem gInt_ok : CbD T X W (.type "int") gInt := CbD.of call_int1 fun w st H ds vs Q E hs rv hp => by
  unfold gInt at hp
  split at hp
  · obtain ⟨v, rfl, r⟩ := rv.one
    exact .inl ⟨_, by rw [r.int_inv], post_same hs (.int _) hp⟩
  · obtain ⟨v, rfl, r⟩ := rv.one
    exact .inr ⟨_, by rw [r.bl_inv], post_same hs (.int _) hp⟩
  · exact hp.elim
def gAbs : Gb := fun ds st => match ds with
  | [.int i] => .ok (.int (if i < 0 then -i else i)) st
  | _ => .stuck
theorem gAbs_ok : CbD T X W (.builtin "abs") gAbs := CbD.of call_abs fun w st H ds vs Q E hs rv hp => by
  unfold gAbs at hp
  split at hp
  · obtain ⟨v, rfl, r⟩ := rv.one
    exact ⟨_, by rw [r.int_inv], post_same hs (.int _) hp⟩
  · exact hp.elim
def gGcd : Gb := fun ds st => match ds with
  | [.int i, .int j] => .ok (.int ((Nat.gcd i.natAbs j.natAbs : Nat) : Int)) st
  | _ => .stuck
theorem gGcd_ok : CbD T X W (.builtin "math.gcd") gGcd := CbD.of cr_gcd fun w st H ds vs Q E hs rv hp => by
  unfold gGcd at hp
  split at hp
  · obtain ⟨v, u, rfl, r, r2⟩ := rv.two
    exact ⟨_, _, by rw [r.int_inv, r2.int_inv], post_same hs (.int _) hp⟩
  · exact hp.elim
def gMax2 : Gb := fun ds st => match ds with
  | [.int i, .int j] => .ok (.int (if j > i then j else i)) st
  | _ => .stuck
theorem gMax2_ok (hc : X.calm = true) : CbD T X W (.builtin "max") gMax2 := CbD.of (call_max2 hc) fun w st H ds vs Q E hs rv hp => by
  unfold gMax2 at hp
  split at hp
  · obtain ⟨v, u, rfl, r, r2⟩ := rv.two
    exact ⟨_, _, by rw [r.int_inv, r2.int_inv], post_same hs (.int _) hp⟩
  · exact hp.elim
def gMin2 : Gb := fun ds st => match ds with
  | [.int i, .int j] => .ok (.int (if j < i then j else i)) st
  | _ => .stuck
theorem gMin2_ok (hc : X.calm = true) : CbD T X W (.builtin "min") gMin2 := CbD.of (call_min2 hc) fun w st H ds vs Q E hs rv hp => by
  unfold gMin2 at hp
  split at hp
  · obtain ⟨v, u, rfl, r, r2⟩ := rv.two
    exact ⟨_, _, by rw [r.int_inv, r2.int_inv], post_same hs (.int _) hp⟩
  · exact hp.elim
/-- str -/
def gStr : Gb := fun ds st => match ds with
  | [.int i] => if i.natAbs.log2 < 1920 then .ok (.str (toString i)) st else .stuck
  | _ => .stuck
theorem gStr_ok : CbD T X W (.type "str") gStr := CbD.of call_str_int fun w st H ds vs Q E hs rv hp => by
  unfold gStr at hp
  split at hp
  · split at hp
    · rename_i hz
      obtain ⟨v, rfl, r⟩ := rv.one
      exact ⟨_, by rw [r.int_inv], hz, post_same hs (.str _) hp⟩
    · exact hp.elim
  · exact hp.elim
/-- all, any of bools -/
def bools : List D → Option (List Bool)
  | [] => some []
  | .bl b :: r => (bools r).map (b :: ·)
  | _ => none
theorem bools_ok {F : Hp} : ∀ {ds : List D} {vs : List V} {bs : List Bool}, Rps T F ds vs → bools ds = some bs → vs = bs.map V.bl
  | _, _, _, .nil, h => by simp only [bools] at h; cases h; rfl
  | d :: ds, _, _, .cons r rr, h => by
    cases d with
    | bl b =>
      simp only [bools] at h
      cases q : bools ds with
      | none => rw [q] at h; cases h
      | some bs =>
        rw [q] at h
        cases h
        cases r
        rw [bools_ok rr q]
        rfl
    | _ => simp only [bools] at h; cases h
def gAll : Gb := fun ds st => match ds with
  | [d] => (match seqD st d with
    | some (false, xs) => (match bools xs with
      | some bs => .ok (.bl (bs.all id)) st
      | none => .stuck)
    | _ => .stuck)
  | _ => .stuck
def gAny : Gb := fun ds st => match ds with
  | [d] => (match seqD st d with
    | some (false, xs) => (match bools xs with
      | some bs => .ok (.bl (bs.any id)) st
      | none => .stuck)
    | _ => .stuck)
  | _ => .stuck
theorem gAll_ok (hK : T.K = X.K) (hc : X.calm = true) : CbD T X W (.builtin "all") gAll := CbD.of (cr_all hc) fun w st H ds vs Q E hs rv hp => by
  unfold gAll at hp
  split at hp
  · obtain ⟨v, rfl, r⟩ := rv.one
    split at hp
    · rename_i xs hq
      split at hp
      · rename_i bs hb
        obtain ⟨a, vs, rfl, h2, h3⟩ := seq_at hs r hq
        rw [if_neg Bool.false_ne_true, hK] at h3
        exact ⟨a, bs, rfl, by rw [← bools_ok h2 hb]; exact h3, post_same hs (.bl _) hp⟩
      · exact hp.elim
    · exact hp.elim
  · exact hp.elim
theorem gAny_ok (hK : T.K = X.K) (hc : X.calm = true) : CbD T X W (.builtin "any") gAny := CbD.of (cr_any hc) fun w st H ds vs Q E hs rv hp => by
  unfold gAny at hp
  split at hp
  · obtain ⟨v, rfl, r⟩ := rv.one
    split at hp
    · rename_i xs hq
      split at hp
      · rename_i bs hb
        obtain ⟨a, vs, rfl, h2, h3⟩ := seq_at hs r hq
        rw [if_neg Bool.false_ne_true, hK] at h3
        exact ⟨a, bs, rfl, by rw [← bools_ok h2 hb]; exact h3, post_same hs (.bl _) hp⟩
      · exact hp.elim
    · exact hp.elim
  · exact hp.elim
/-- tuple(row), list(row) -/
def gTup : Gb := fun ds st => match ds with
  | [d] => (match seqD st d with
    | some (_, xs) => .ok (.tup xs) st
    | none => .stuck)
  | _ => .stuck
theorem gTup_ok (hK : T.K = X.K) : CbD T X W (.type "tuple") gTup := CbD.of call_tuple_of fun w st H ds vs Q E hs rv hp => by
  unfold gTup at hp
  split at hp
  · rename_i d
    obtain ⟨v, rfl, r⟩ := rv.one
    split at hp
    · rename_i b xs hq
      obtain ⟨a, vs, rfl, h2, h3⟩ := seq_at hs r hq
      refine ⟨a, vs, rfl, ?_⟩
      cases b with
      | false =>
        rw [if_neg Bool.false_ne_true, hK] at h3
        exact .inl ⟨h3, fun l n => post_tup hs n h2 hp⟩
      | true =>
        rw [if_pos rfl, hK] at h3
        refine .inr ⟨h3, ?_⟩
        cases r with
        | fun_ h1 _ => cases d <;> first | (cases hq; done) | (cases h1; done)
        | d r =>
          cases r with
          | tup g1 g2 => cases hq; exact post_same hs (.tup g1 g2) hp
          | _ => cases hq
        | ref ha =>
          simp only [seqD] at hq
          split at hq <;> cases hq
    · exact hp.elim
  · exact hp.elim
/-- list(row): a new list -/
def lList (f : Fx) : FL := fun env st => (f env st).bind fun d st1 => match seqD st1 d with
  | some (_, xs) => .ok xs st1
  | none => .stuck
theorem dl_list (hK : T.K = X.K) {x : Str} {p pos : Pos} {e : Expr} {f : Fx} (hx : x = "list") (hg : Gl X x) (hm : X.mg x = none) (ha : PE X e (tE T f W)) (he : starEach [e] X.env = (false, eval e X.env) :: starEach [] X.env) : PE X (.Call (.Name x p) [e] [] pos) (tL T (lList f) W) := by
  subst hx
  refine PE.imp (pe_callTy call_list_of hg hm PyProof.Rows.Boot.«list» (pa_cons ha pa_nil he) (by decide) (by decide) he (by rfl)) fun σ H Q ⟨w, env, st, hs, hE, hp⟩ => ?_
  obtain ⟨w1, env1, st1, a1, a2, a3⟩ := tE.bindL hs hE hp
  refine ⟨w1, env1, st1, a1, a2, a3.imp (fun v H1 ⟨u, d, st2, l, s2, e2, rx, hp2⟩ => ?_) fun _ _ _ z => z⟩
  split at hp2
  · rename_i b xs hq
    obtain ⟨a, vs, rfl, h2, h3⟩ := seq_or s2 rx hq
    rw [hK] at h3
    exact ⟨a, vs, rfl, h3, fun q n => post_new s2 n h2 hp2⟩
  · exact hp2.elim
end
end Ev
set_option Elab.async false
set_option linter.all false
set_option maxRecDepth 100000
set_option maxHeartbeats 1000000
namespace Ev
open PySem PySem.Spec L2
/-! ### isinstance -/
inductive Kd where
  | non | bl | int | str | tup | lst | dct | cls (c : Nat)
deriving DecidableEq
inductive Ck where
  | bl | int | str | tup | lst | dct | own (c : Nat)
deriving DecidableEq
def kdOf (st : Store) : D → Option Kd
  | .non => some .non
  | .bl _ => some .bl
  | .int _ => some .int
  | .str _ => some .str
  | .tup _ => some .tup
  | .lst _ => some .lst
  | .scr _ => some .lst
  | .obj c _ => some (.cls c)
  | .ref i => match st[i]? with
    | some (.lst _) => some .lst
    | some (.fls _) => some .lst
    | some (.dct _) => some .dct
    | some (.ins c _) => some (.cls c)
    | _ => none
  | _ => none
def Ck.name : Ck → String
  | .bl => "bool" | .int => "int" | .str => "str" | .tup => "tuple" | .lst => "list" | .dct => "dict" | .own _ => ""
def Kd.name : Kd → String
  | .non => "NoneType" | .bl => "bool" | .int => "int" | .str => "str" | .tup => "tuple" | .lst => "list" | .dct => "dict" | .cls _ => ""
inductive KdV (T : Tb) : Kd → Value → Prop
  | b (k : Kd) (h : ∀ c, k ≠ .cls c) : KdV T k (.type k.name)
  | o {c : Nat} {C : Addr} (h : T.cls c = some C) : KdV T (.cls c) (.ref C)
inductive CkV (T : Tb) : Ck → Value → Prop
  | b (k : Ck) (h : ∀ c, k ≠ .own c) : CkV T k (.type k.name)
  | o {c : Nat} {C : Addr} (h : T.cls c = some C) : CkV T (.own c) (.ref C)
/-- the answers of the own classes: io -/
structure IsOk (T : Tb) (io : Kd → Ck → Option Bool) : Prop where
  kit : ∀ k c b t u, io k c = some b → KdV T k t → CkV T c u → PySem.W.kitOne T.K t u = some b
  ins : ∀ c k b C, io (.cls c) k = some b → T.cls c = some C → C8.InsC T.K C
def isB (io : Kd → Ck → Option Bool) (k : Kd) (c : Ck) : Option Bool := match k, c with
  | .cls n, c => io (.cls n) c
  | k, .own n => io k (.own n)
  | .bl, .int => some true
  | k, c => some (k.name == c.name)
theorem isB_ok {T : Tb} {io : Kd → Ck → Option Bool} (J : IsOk T io) {k : Kd} {c : Ck} {b : Bool} {t u : Value} (h : isB io k c = some b) (hk : KdV T k t) (hc : CkV T c u) : PySem.W.kitOne T.K t u = some b := by
  have bb : ∀ (k : Kd) (c : Ck), (∀ n, k ≠ .cls n) → (∀ n, c ≠ .own n) → ∀ b, isB io k c = some b → PySem.W.kitOne T.K (.type k.name) (.type c.name) = some b := by
    intro k c h1 h2 b h
    cases k <;> first | exact absurd rfl (h1 _) | (cases c <;> first | exact absurd rfl (h2 _) | (simp [isB, Kd.name, Ck.name] at h; subst h; exact kit_ty (by decide +kernel)))
  cases hk with
  | @o n C h1 =>
    have h : io (.cls n) c = some b := by cases c <;> exact h
    exact J.kit _ _ _ _ _ h (.o h1) hc
  | b k h1 =>
    cases hc with
    | b c h2 => exact bb _ _ h1 h2 b h
    | @o n C h2 =>
      have h : io k (.own n) = some b := by cases k <;> first | exact h | exact absurd rfl (h1 _)
      exact J.kit _ _ _ _ _ h (.b k h1) (.o h2)
section
variable {T : Tb} {X : Cx} {W : WX} {io : Kd → Ck → Option Bool}
theorem kd_at (J : IsOk T io) (hK : T.K = X.K) {w : Wd} {st : Store} {H : Hp} {d : D} {v : V} {k : Kd} {c : Ck} {b : Bool} (hs : StOk T w st H) (r : Rv T w d v) (h : kdOf st d = some k) (hb : isB io k c = some b) : ∃ t, TyX X.K H v t ∧ KdV T k t := by
  have own : ∀ n C a dx fvs, k = .cls n → T.cls n = some C → H a = some (.ins C dx fvs) → TyX X.K H (.ref a) (.ref C) := fun n C a dx fvs e h1 h2 => by
    subst e
    have q : io (.cls n) c = some b := by cases c <;> exact hb
    obtain ⟨i1, i2, i3, i4, i5, _⟩ := J.ins n c b C q h1
    rw [hK] at i1 i2 i3 i4 i5
    exact .base (.ins h2 i1 i2 i3 i4 i5)
  have tupx : ∀ a vs, SqT T.K H a vs → TyX X.K H (.ref a) (.type "tuple") := fun a vs q => by
    rcases q with (q | ⟨o, q⟩) | ⟨o, _, _, q, q2, _⟩
    · exact .base (.tup q)
    · exact .fTuple q
    · exact .kTuple (hK ▸ q) q2
  have lstx : ∀ a vs, SqL T.K H a vs → TyX X.K H (.ref a) (.type "list") := fun a vs q => by
    rcases q with (q | ⟨o, q⟩) | ⟨o, _, _, q, q2, _⟩
    · exact .base (.lst q)
    · exact .base (.frz q)
    · exact .kList (hK ▸ q) q2
  cases r with
  | fun_ hf _ => cases d <;> first | (cases hf; done) | (cases h; done)
  | d r =>
    cases r with
    | non => cases h; exact ⟨_, .base .non, .b .non (by simp)⟩
    | bl x => cases h; exact ⟨_, .base (.bl x), .b .bl (by simp)⟩
    | int x => cases h; exact ⟨_, .base (.int x), .b .int (by simp)⟩
    | str x => cases h; exact ⟨_, .base (.str x), .b .str (by simp)⟩
    | tup h1 _ => cases h; exact ⟨_, tupx _ _ (hs.sub.sqt h1), .b .tup (by simp)⟩
    | lst h1 _ => cases h; exact ⟨_, lstx _ _ (SqL.of (hs.sub _ _ h1)), .b .lst (by simp)⟩
    | scr h1 _ => cases h; exact ⟨_, lstx _ _ (hs.sub.sql h1), .b .lst (by simp)⟩
    | obj h1 h2 _ => cases h; exact ⟨_, own _ _ _ _ _ rfl h1 (hs.sub _ _ h2), .o h1⟩
    | fn _ => cases h
    | cls _ => cases h
    | ty _ => cases h
  | ref ha =>
    simp only [kdOf] at h
    split at h
    · rename_i hx
      cases h
      obtain ⟨vs, h1, _⟩ := cell_lst hs ha (.inl hx)
      exact ⟨_, .base (.lst h1), .b .lst (by simp)⟩
    · rename_i hx
      cases h
      obtain ⟨vs, h1, _⟩ := cell_lst hs ha (.inr hx)
      exact ⟨_, .base (.lst h1), .b .lst (by simp)⟩
    · rename_i hx
      cases h
      obtain ⟨_, vs, _, h1, _⟩ := hs.cell _ _ _ hx ha
      exact ⟨_, .base (.dK h1), .b .dct (by simp)⟩
    · rename_i hx
      cases h
      obtain ⟨_, C, dx, fvs, h1, h2, _⟩ := hs.cell _ _ _ hx ha
      exact ⟨_, own _ _ _ _ _ rfl h1 h2, .o h1⟩
    · cases h
/-- a class that is asked for, and its value -/
def ckD : Ck → D
  | .own c => .cls c
  | k => .ty k.name
/-- isinstance(x, c) -/
def isaP (io : Kd → Ck → Option Bool) (c : Ck) (d : D) (st : Store) : Oe := match kdOf st d with
  | some k => (match isB io k c with
    | some b => .ok (.bl b) st
    | none => .stuck)
  | none => .stuck
def isAny (io : Kd → Ck → Option Bool) (k : Kd) : List Ck → Option Bool
  | [] => some false
  | c :: r => match isB io k c with
    | some true => some true
    | some false => isAny io k r
    | none => none
def isaT (io : Kd → Ck → Option Bool) (cs : List Ck) (d : D) (st : Store) : Oe := match kdOf st d with
  | some k => (match isB io k (cs.headD .bl) with
    | some _ => (match isAny io k cs with
      | some b => .ok (.bl b) st
      | none => .stuck)
    | none => .stuck)
  | none => .stuck
/-- an expression that is a class -/
structure CkE (T : Tb) (X : Cx) (e : Expr) (c : Ck) : Prop where
  ex : ∃ v u, PE X e (tC v) ∧ ClsV v u ∧ CkV T c u
theorem ck_ty {x : Str} {c : Ck} {pos : Pos} (hc : ∀ n, c ≠ .own n) (hg : Gl X x) (hm : X.mg x = none) (hv : bootBuiltins x = some (.type c.name)) (hn : x ≠ "__name__") (hd : (x == ("__debug__" : Str)) = false) : CkE T X (.Name x pos) c :=
  ⟨.ty c.name, .type c.name, ⟨fun _ _ _ H _ I h => ld_blt I hg hm hv ⟨.ty c.name, H, I, rfl, h⟩ hn hd⟩, .ty _, .b c hc⟩
theorem ck_own {x : Str} {c : Nat} {C : Addr} {pos : Pos} (hT : T.cls c = some C) (hg : Gl X x) (hm : X.mg x = some (.ref C)) (hd : (x == ("__debug__" : Str)) = false) : CkE T X (.Name x pos) (.own c) :=
  ⟨.ref C, .ref C, pe_glob hg hm rfl hd, .own C, .o hT⟩
theorem de_isa (J : IsOk T io) (hK : T.K = X.K) {x : Str} {p pos : Pos} {e ce : Expr} {f : Fx} {c : Ck} (hx : x = "isinstance") (hg : Gl X x) (hm : X.mg x = none) (he : PE X e (tE T f W)) (hc : CkE T X ce c)
    (h1 : starEach [e, ce] X.env = (false, eval e X.env) :: starEach [ce] X.env) (h2 : starEach [ce] X.env = (false, eval ce X.env) :: starEach [] X.env) (hpl : (backTo pos (starEach [ce] X.env)).any (·.1) = false) : PE X (.Call (.Name x p) [e, ce] [] pos) (tE T (f1 (isaP io c) f) W) := by
  subst hx
  obtain ⟨v, u, h3, h4, h5⟩ := hc.ex
  refine PE.imp (pe_callB call_isi hg hm PyProof.Rows.Boot.«isinstance» (pa_cons he (pa_cons h3 pa_nil h2) h1) (by decide) (by decide) h1 hpl) fun σ H Q ⟨w, env, st, hs, hE, hp⟩ => ?_
  obtain ⟨w1, env1, st1, a1, a2, a3⟩ := tE.bind hs hE hp
  refine ⟨w1, env1, st1, a1, a2, a3.imp (fun y H1 ⟨w2, d, st2, l, s2, e2, rx, hp2⟩ => ?_) fun _ _ _ z => z⟩
  unfold isaP at hp2
  split at hp2
  · rename_i k hk
    split at hp2
    · rename_i b hb
      obtain ⟨t, h6, h7⟩ := kd_at J hK s2 rx hk hb
      exact ⟨y, v, t, u, b, rfl, h4, h6, by rw [← hK]; exact isB_ok J hb h7 h5, post_same s2 (.bl _) hp2⟩
    · exact hp2.elim
  · exact hp2.elim
/-- the classes of a tuple -/
structure CkEs (T : Tb) (X : Cx) (es : List Expr) (cs : List Ck) : Prop where
  ex : ∃ (t : TA) (vs : List V) (us : List Value), PA X es t ∧ (∀ σ H Q, Q vs H → t σ H Q) ∧ Paired ClsV vs us ∧ Paired (CkV T) cs us
theorem cks_nil : CkEs T X [] [] := ⟨_, [], [], pa_nil, fun σ H Q q => q, .nil, .nil⟩
theorem cks_cons {e : Expr} {es : List Expr} {c : Ck} {cs : List Ck} (h : CkE T X e c) (hr : CkEs T X es cs) (hst : starEach (e :: es) X.env = (false, eval e X.env) :: starEach es X.env) : CkEs T X (e :: es) (c :: cs) := by
  obtain ⟨v, u, h1, h2, h3⟩ := h.ex
  obtain ⟨t, vs, us, g1, g2, g3, g4⟩ := hr.ex
  exact ⟨_, v :: vs, u :: us, pa_cons h1 g1 hst, fun σ H Q q => g2 σ H _ q, .cons h2 g3, .cons h3 g4⟩
theorem any_ok (J : IsOk T io) {k : Kd} {t : Value} (hk : KdV T k t) : ∀ {cs : List Ck} {us : List Value} {b : Bool}, Paired (CkV T) cs us → isAny io k cs = some b → PySem.W.kitAny T.K t us = some b
  | _, _, _, .nil, h => h
  | c :: cs, u :: us, b, .cons hc r, h => by
    simp only [isAny] at h
    split at h
    · rename_i hb
      cases h
      exact kitAny_cons (isB_ok J hb hk hc) (fun z => by cases z) fun _ => rfl
    · rename_i hb
      exact kitAny_cons (isB_ok J hb hk hc) (fun _ => any_ok J hk r h) fun z => by cases z
    · cases h
theorem de_isaT (J : IsOk T io) (hK : T.K = X.K) {x : Str} {p pos tpos : Pos} {k0 : Nat} {e : Expr} {ces : List Expr} {f : Fx} {cs : List Ck} (hx : x = "isinstance") (hg : Gl X x) (hm : X.mg x = none) (he : PE X e (tE T f W)) (hc : CkEs T X ces cs) (hz : cs.length ≤ 100)
    (h1 : starEach [e, .Tuple ces k0 tpos] X.env = (false, eval e X.env) :: starEach [.Tuple ces k0 tpos] X.env) (h2 : starEach [.Tuple ces k0 tpos] X.env = (false, eval (.Tuple ces k0 tpos) X.env) :: starEach [] X.env) (hpl : (backTo pos (starEach [.Tuple ces k0 tpos] X.env)).any (·.1) = false) :
    PE X (.Call (.Name x p) [e, .Tuple ces k0 tpos] [] pos) (tE T (f1 (isaT io cs) f) W) := by
  subst hx
  obtain ⟨t, vs, us, h3, h4, h5, h6⟩ := hc.ex
  refine PE.imp (pe_callB call_isiT hg hm PyProof.Rows.Boot.«isinstance» (pa_cons he (pa_cons (pe_tup h3) pa_nil h2) h1) (by decide) (by decide) h1 hpl) fun σ H Q ⟨w, env, st, hs, hE, hp⟩ => ?_
  obtain ⟨w1, env1, st1, a1, a2, a3⟩ := tE.bind hs hE hp
  refine ⟨w1, env1, st1, a1, a2, a3.imp (fun y H1 ⟨w2, d, st2, l, s2, e2, rx, hp2⟩ => ?_) fun _ _ _ z => z⟩
  unfold isaT at hp2
  split at hp2
  · rename_i k hk
    split at hp2
    · rename_i b0 hb0
      split at hp2
      case h_2 => exact hp2.elim
      rename_i b hb
      have e1 := Paired.length h5
      have e2 := Paired.length h6
      refine h4 σ H1 _ ⟨by rw [sizeLine_eq]; omega, fun q n => ?_⟩
      have s3 : StOk T w2 st2 (upd H1 q (.tup vs)) := s2.skip n
      obtain ⟨tv, h7, h8⟩ := kd_at J hK s3 rx hk hb0
      exact ⟨y, q, vs, tv, us, b, rfl, upd_same, h5, h7, by rw [← hK]; exact any_ok J h8 h6 hb, post_same s3 (.bl _) hp2⟩
    · exact hp2.elim
  · exact hp2.elim
/-! ### repr of plain data -/
end
end Ev
set_option Elab.async false
set_option linter.all false
set_option maxRecDepth 100000
set_option maxHeartbeats 1000000
namespace Ev
open PySem PySem.Spec L2
/-! ### calls -/
/-- what a def gives back, at its caller: a new list is laid fast (kp: it stays a cell), a new dict or instance stays a cell -/
def retP (kp : Bool) (n : Nat) (d : D) (st : Store) : Oe := match d with
  | .ref i => if i < n then .ok (.ref i) (st.take n) else (match st[i]? with
    | some (.lst xs) => if kp = true then .ok (.ref n) (st.take n ++ [.lst xs]) else .ok (.lst xs) (st.take n)
    | some (.fls xs) => .ok (.lst xs) (st.take n)
    | some (.dct kvs) => .ok (.ref n) (st.take n ++ [.dct kvs])
    | some (.ins c fs) => .ok (.ref n) (st.take n ++ [.ins c fs])
    | _ => .stuck)
  | d => if d.isFun = true then .stuck else .ok d (st.take n)
def endP (kp : Bool) (n : Nat) : Os → Oe
  | .rt d st => retP kp n d st
  | .nx _ st => .ok .non (st.take n)
  | .exc c fs _ st => .exc c fs (st.take n)
  | _ => .stuck
/-- a def: m slots, its body -/
def defP (kp : Bool) (m : Nat) (b : Fs) : Gb := fun ds st => if ds.length ≤ m then endP kp st.length (b (ds.map some ++ List.replicate (m - ds.length) none) st) else .stuck
def spOf (T : Tb) (n : Nat) (g : Gb) : Sp := fun vs H Q E => vs.length = n ∧ ∃ w st ds, StOk T w st H ∧ Rvs T w ds vs ∧ PostE T w Q E (g ds st)
section
variable {T : Tb}
theorem notin_take {w u : Wd} {st : Store} {H : Hp} {i : Nat} {a : Addr} (l : Le w u) (s : StOk T u st H) (h : u.ρ[i]? = some a) (hi : w.ρ.length ≤ i) : a ∉ w.ρ := fun z => by
  obtain ⟨j, e⟩ := List.getElem?_of_mem z
  have e2 := nodup_get s.nd (l.at e) h
  have := (List.getElem?_eq_some_iff.mp e).1
  omega
theorem cell_end {w u : Wd} {st : Store} {H : Hp} {n i : Nat} {a : Addr} {c : Cell} {Q : VK} {E : XK} (l : Le w u) (s : StOk T u st H) (hn : w.ρ.length = n) (ha : u.ρ[i]? = some a) (hi : ¬ i < n) (hc : CellOk T u.F H a c) (h : PostE T w Q E (.ok (.ref n) (st.take n ++ [c]))) : Q (.ref a) H := by
  have hna : a ∉ w.ρ := notin_take l s ha (by omega)
  have s2 : StOk T (Wd.cell ⟨u.F, w.ρ⟩ a) (st.take n ++ [c]) H := (s.take l hn).cellP hna hc
  refine h _ H _ (l.take.tr (Le.cell ⟨u.F, w.ρ⟩ a)) s2 (.ref ?_)
  show (w.ρ ++ [a])[n]? = some a
  rw [← hn]
  simp
theorem retP_ok {kp : Bool} {w u : Wd} {st : Store} {H : Hp} {n : Nat} {d : D} {v : V} {Q : VK} {E : XK} (l : Le w u) (s : StOk T u st H) (hn : w.ρ.length = n) (r : Rv T u d v) (h : PostE T w Q E (retP kp n d st)) : Q v H := by
  by_cases q : ∃ i, d = .ref i
  · obtain ⟨i, rfl⟩ := q
    cases r with
    | d r => cases r
    | fun_ h _ => cases h
    | @ref _ a ha =>
      simp only [retP] at h
      split at h
      · rename_i hi
        refine h ⟨u.F, w.ρ⟩ H _ l.take (s.take l hn) (.ref ?_)
        obtain ⟨t, e⟩ := l.ρ
        rw [e, List.getElem?_append_left (by omega)] at ha
        exact ha
      · rename_i hi
        split at h
        · rename_i xs hx
          have hc := s.cell i _ a hx ha
          split at h
          · exact cell_end l s hn ha hi hc h
          · obtain ⟨hF, vs, hH, rr⟩ := hc
            have hna : a ∉ w.ρ := notin_take l s ha (by omega)
            obtain ⟨l2, s2⟩ := (s.take l hn).fastP (p := a) (o := .lst vs) hH hF hna
            exact h _ H _ (l.take.tr l2) s2 (.d (.lst (by rw [Wd.fF, upd_same]) (rr.up l2.F)))
        · rename_i xs hx
          obtain ⟨vs, hF, rr⟩ := s.cell i _ a hx ha
          exact h ⟨u.F, w.ρ⟩ H _ l.take (s.take l hn) (.d (.lst hF rr))
        · rename_i kvs hx
          exact cell_end l s hn ha hi (s.cell i _ a hx ha) h
        · rename_i c fs hx
          exact cell_end l s hn ha hi (s.cell i _ a hx ha) h
        · exact h.elim
  · have hq : ∀ i, d ≠ .ref i := fun i z => q ⟨i, z⟩
    have e : retP kp n d st = if d.isFun = true then .stuck else .ok d (st.take n) := by
      cases d <;> first | rfl | exact absurd rfl (hq _)
    rw [e] at h
    split at h
    · exact h.elim
    · rename_i hf
      exact h ⟨u.F, w.ρ⟩ H v l.take (s.take l hn) (.d (r.rp hq (by simpa using hf)))
theorem exOk_take {w u : Wd} {c : Nat} {fs : List (Nat × D)} {cls : Value} {d : Option Addr} (h : ExOk T u c fs cls d) : ExOk T ⟨u.F, w.ρ⟩ c fs cls d := h
theorem endP_ok {kp : Bool} {w : Wd} {n : Nat} {o : Os} {Q : VK} {E : XK} (hn : w.ρ.length = n) (h : PostE T w Q E (endP kp n o)) : PostS T w { nx := fun _ H => Q .non H, rt := Q } (fun c d _ H => E c d H) o := by
  cases o with
  | rt d st => exact fun u H v l s r => retP_ok l s hn r h
  | nx env st => exact fun u σ H l s _ => h ⟨u.F, w.ρ⟩ H _ l.take (s.take l hn) (.d .non)
  | exc c fs env st => exact fun u σ H cls d l s _ x => h ⟨u.F, w.ρ⟩ H cls d l.take (s.take l hn) x
  | bk _ _ => exact h.elim
  | ct _ _ => exact h.elim
  | stuck => exact h.elim
theorem Rvs.get0 {w : Wd} : ∀ {ds : List D} {vs : List V} {i : Nat} {d : D}, Rvs T w ds vs → (ds.map some)[i]? = some (some d) → ∃ v, (vs.map some)[i]? = some (some v) ∧ Rv T w d v := fun {ds vs i d} r h => by
  rw [List.getElem?_map] at h
  cases e : ds[i]? with
  | none => rw [e] at h; cases h
  | some d' =>
    rw [e] at h
    cases h
    obtain ⟨v, h1, h2⟩ := r.get e
    exact ⟨v, by rw [List.getElem?_map, h1]; rfl, h2⟩
theorem env_start {w : Wd} {ds : List D} {vs : List V} {N : List Str} (r : Rvs T w ds vs) (hl : ds.length ≤ N.length) : EnvOk T w (ds.map some ++ List.replicate (N.length - ds.length) none) (L2.start N vs) := by
  unfold L2.start
  have l := r.len
  refine ⟨by simp [l], fun i d h => ?_⟩
  by_cases hi : i < ds.length
  · rw [List.getElem?_append_left (by simpa using hi)] at h
    obtain ⟨v, h1, h2⟩ := r.get0 h
    exact ⟨v, by rw [List.getElem?_append_left (by simp [← l]; exact hi)]; exact h1, h2⟩
  · rw [List.getElem?_append_right (by simpa using Nat.le_of_not_lt hi), List.getElem?_replicate] at h
    split at h <;> cases h
/-- as FnOk, where no guard of repr stands around -/
structure FnG (P : Program) (wo : World) (K : PySem.W.Frag) (mg : Str → Option Value) (base : Heap) (k : Nat) (f : Addr) (fd : FuncData) (ps : List Str) (sp : Sp) : Prop where
  len : ∀ vs H Q E, sp vs H Q E → vs.length = ps.length
  go : ∀ (A : Around) (outer : List PySem.Env) (s : Shared) (H : Hp) (args : Args) (us : List Value) (vs : List V) (Q : VK) (E : XK), Room k A → A.guards = some [] → Env0 P wo K mg base A outer s H → BindsTo s fd args (ps.zip us) → Vals vs us → sp vs H Q E →
    codeAny (model P wo) A (.call (.ref f) args) (CR (L2.CX P wo) outer P wo H s Q E) s
theorem FnG.of {P : Program} {wo : World} {K : PySem.W.Frag} {mg : Str → Option Value} {base : Heap} {k : Nat} {f : Addr} {fd : FuncData} {ps : List Str} {sp : Sp} (F : FnOk P wo K mg base (L2.CX P wo) k f fd ps sp) : FnG P wo K mg base k f fd ps sp :=
  ⟨F.len, fun A outer s H args us vs Q E hr _ => F.run A outer s H args us vs Q E hr⟩
theorem FnG.mono {P : Program} {wo : World} {K : PySem.W.Frag} {mg : Str → Option Value} {base : Heap} {j k : Nat} {f : Addr} {fd : FuncData} {ps : List Str} {sp : Sp} (F : FnG P wo K mg base j f fd ps sp) (h : j ≤ k) : FnG P wo K mg base k f fd ps sp :=
  ⟨F.len, fun A outer s H args us vs Q E hr => F.go A outer s H args us vs Q E (hr.mono h)⟩
/-- a def of the text keeps what its body does -/
theorem fn_ok {P : Program} {wo : World} {K : PySem.W.Frag} {mg : Str → Option Value} {base : Heap} {x qual : Str} {params : Arguments} {body : List Stmt} {scope : Scope} {dvs : List V} {f : Addr} {fd : FuncData} {N ps : List Str} {k n : Nat} {kp : Bool} {b : Fs}
    (F : FunD K x qual params body scope dvs [] f fd) (S : FnScope N ps scope) (hn : ps.length = n)
    (hb : ∀ (cdv : Value) (A : Around) (outer : List PySem.Env) (s : Shared) (H : Hp) (E : XK), PySem.W.codeIn K cdv qual = true → fd.code = cdv → (∃ oc od osl, K.lookup f = some ⟨oc, od, .func fd, osl⟩) → Room k (A.deeper (PyProof.Rows.envOfC qual scope s.heap.objs.size f cdv)) → (A.deeper (PyProof.Rows.envOfC qual scope s.heap.objs.size f cdv)).guards = some [] →
      PSs (cxOf (L2.CX P wo) P wo K mg base N qual scope f cdv A outer s H E) body (tS T b fun c d _ H' => E c d H')) :
    FnG P wo K mg base (k + 1) f fd ps (spOf T n (defP kp N.length b)) := by
  refine ⟨fun vs H Q E h => by rw [h.1, hn], fun A outer s H args us vs Q E hr hg e0 hbi rv h => ?_⟩
  obtain ⟨oc, od, dV, kV, doc, pm, an, cdv, ct, osl, rfl, lk, hcd, _, _⟩ := F.ex
  obtain ⟨hl, w, st, ds, hs, rvs, hp⟩ := h
  refine LamX.run_ofS lk hcd S hr e0 hbi rv (hl.trans hn.symm) fun hr2 => ⟨_, hb cdv A outer s H E hcd rfl ⟨_, _, _, lk⟩ hr2 hg, ?_⟩
  unfold defP at hp
  split at hp
  · rename_i hle
    exact ⟨w, _, st, hs, env_start rvs hle, endP_ok hs.len.symm hp⟩
  · exact hp.elim
/-! ### the callers' side -/
/-- the defs that stand: call their meanings, ar how many parameters, dfl (of how many given) the defaults that fill up -/
structure FnsOk (T : Tb) (P : Program) (wo : World) (K : PySem.W.Frag) (mg : Str → Option Value) (base : Heap) (call : Nat → Gb) (dfl : Nat → Nat → Option (List D)) (k : Nat) : Prop where
  ok : ∀ i n dv, dfl i n = some dv → ∃ f fd ps dvs ds, T.fn i = some f ∧ FnG P wo K mg base k f fd ps (spOf T (n + dv.length) (call i)) ∧ PySem.W.keepIn K (.ref f) = true ∧ (∀ F, Rps T F dv dvs) ∧ Vals dvs ds ∧ Binds K fd ps ds
theorem Rps.rvs {w : Wd} : ∀ {ds : List D} {vs : List V}, Rps T w.F ds vs → Rvs T w ds vs
  | _, _, .nil => .nil
  | _, _, .cons r rr => .cons (.d r) (Rps.rvs rr)
def callP (call : Nat → Gb) (dfl : Nat → Nat → Option (List D)) (i : Nat) : Gb := fun ds st => match dfl i ds.length with
  | some dv => call i (ds ++ dv) st
  | none => .stuck
variable {X : Cx} {W : WX}
theorem run_fnG {pins : List (Addr × Obj)} {σ : L2.St} {H : Hp} {s : Shared} {Q : VK} {us ds : List Value} {vs dvs : List V} {k : Nat} {f : Addr} {fd : FuncData} {ps : List Str} {sp : Sp} {E : St → XK} (F : FnG X.prog X.w X.K X.mg X.base k f fd ps sp) (hr : Room k X.A) (hg : X.A.guards = some []) (hb : L2.Binds X.K fd ps ds) (hd : Vals dvs ds)
    (hx : PassesAt (L2.CX X.prog X.w) X σ (E σ)) (I : Inv X pins σ H s) (r : Vals vs us) (h : sp (vs ++ dvs) H Q (E σ)) : wpAny (model X.prog X.w) X.A (call (.ref f) us) (EP X pins σ Q) X.xe s := by
  have rr := r.append hd
  have ll : (us ++ ds).length = ps.length := rr.length.symm.trans (F.len _ _ _ _ h)
  refine wpAny_call (codeAny_mono (F.go X.A X.stack s H ⟨us, []⟩ _ _ Q (E σ) hr hg I.env0 (hb s us I.kIn ll) rr h) fun z s2 hz => ?_)
  rcases z with e | (u | _ | _ | _)
  · exact hx pins H s e s2 I hz
  · first | exact I.after hz | exact hz.elim
  · first | exact I.after hz | exact hz.elim
  · first | exact I.after hz | exact hz.elim
  · first | exact I.after hz | exact hz.elim
theorem callP_ok {call : Nat → Gb} {dfl : Nat → Nat → Option (List D)} {k i : Nat} {f : Addr} (C : FnsOk T X.prog X.w X.K X.mg X.base call dfl k) (hr : Room k X.A) (hG : X.A.guards = some []) (tk : Takes X W) (hf : T.fn i = some f) : CbD T X W (.ref f) (callP call dfl i) := by
  intro pins s σ H w st ds vs us Q I hs rv ru hp
  unfold callP at hp
  split at hp
  · rename_i dv hd
    obtain ⟨f', fd, ps, dvs, dsv, h1, h2, h3, h4, h5, h6⟩ := C.ok i _ dv hd
    rw [hf] at h1
    cases h1
    have rr := rv.app (h4 w.F).rvs
    refine run_fnG (E := WE W) h2 hr hG h6 h5 (passAt tk σ) I ru ⟨?_, w, st, ds ++ dv, hs, rr, hp⟩
    rw [← rr.len, List.length_append]
  · exact hp.elim
theorem de_call {call : Nat → Gb} {dfl : Nat → Nat → Option (List D)} {k i : Nat} {f : Addr} {x : Str} {p pos : Pos} {e : Expr} {es : List Expr} {fa : Fa} (C : FnsOk T X.prog X.w X.K X.mg X.base call dfl k) (hr : Room k X.A) (hG : X.A.guards = some []) (tk : Takes X W) (hf : T.fn i = some f) (hk : PySem.W.keepIn X.K (.ref f) = true)
    (hg : Gl X x) (hm : X.mg x = some (.ref f)) (ha : PA X (e :: es) (tA T fa W)) (hdb : (x == ("__debug__" : Str)) = false) (he : starEach (e :: es) X.env = (false, eval e X.env) :: starEach es X.env) (hpl : (backTo pos (starEach es X.env)).any (·.1) = false) :
    PE X (.Call (.Name x p) (e :: es) [] pos) (tE T (fB (callP call dfl i) fa) W) := by
  refine ⟨fun pins s σ H Q I h => ?_⟩
  obtain ⟨w, env, st, hs, hE, hp⟩ := h
  refine wpAny_Call_Name_kw (ld_glob I hg hm ?_ hdb)
  refine PySem.W.callWith_K (h₀ := X.base) I.ok.mod.kin hk (thn (ha.run pos pins s σ H _ I (tA.bind hs hE hp)) fun us s1 ⟨vs, H1, I1, r1, u, ds, st1, l, hs1, he1, rx, hq⟩ => ⟨I1.kIn, ?_⟩) he hpl
  exact callP_ok C hr hG tk hf pins s1 σ H1 u st1 ds vs us Q I1 hs1 rx r1 hq
theorem de_call0 {call : Nat → Gb} {dfl : Nat → Nat → Option (List D)} {k i : Nat} {f : Addr} {x : Str} {p pos : Pos} (C : FnsOk T X.prog X.w X.K X.mg X.base call dfl k) (hr : Room k X.A) (hG : X.A.guards = some []) (tk : Takes X W) (hf : T.fn i = some f) (hk : PySem.W.keepIn X.K (.ref f) = true)
    (hg : Gl X x) (hm : X.mg x = some (.ref f)) (hdb : (x == ("__debug__" : Str)) = false) : PE X (.Call (.Name x p) [] [] pos) (tE T (fB (callP call dfl i) aNil) W) := by
  refine ⟨fun pins s σ H Q I h => ?_⟩
  obtain ⟨w, env, st, hs, hE, hp⟩ := h
  refine wpAny_Call_Name_kw (ld_glob I hg hm ?_ hdb)
  exact PySem.W.callWith_K0 I.kIn hk (callP_ok C hr hG tk hf pins s σ H w st [] [] [] Q I hs .nil .nil hp)
/-! ### instances made -/
/-- the classes that stand: i of a class its __init__'s id -/
structure MksOk (T : Tb) (K : PySem.W.Frag) (ini : Nat → Option Nat) : Prop where
  ok : ∀ c i C, ini c = some i → T.cls c = some C → ∃ f, T.fn i = some f ∧ Mk K C f
def makeP (call : Nat → Gb) (dfl : Nat → Nat → Option (List D)) (ini : Nat → Option Nat) (c : Nat) : Gb := fun ds st => match ini c with
  | some i => (match callP call dfl i (.ref st.length :: ds) (st ++ [.ins c []]) with
    | .ok .non st1 => (match st1[st.length]? with
      | some (.ins k fs) => if k = c then .ok (.obj c fs) (st1.take st.length) else .stuck
      | _ => .stuck)
    | .exc k fs st1 => .exc k fs (st1.take st.length)
    | _ => .stuck)
  | none => .stuck
/-- behind an instance's making -/
theorem made_end {w u : Wd} {st : Store} {H : Hp} {n c : Nat} {a C dx : Addr} {fs : List (Nat × D)} {fvs : List (Str × V)} {Q : VK} {E : XK} (l : Le w u) (s : StOk T u st H) (hn : w.ρ.length = n) (ha : u.ρ[n]? = some a) (hC : T.cls c = some C) (hF : u.F a = none) (hH : H a = some (.ins C dx fvs)) (r : Rpf T u.F fs fvs)
    (h : PostE T w Q E (.ok (.obj c fs) (st.take n))) : Q (.ref a) H := by
  have hna : a ∉ w.ρ := notin_take l s ha (by omega)
  obtain ⟨l2, s2⟩ := (s.take l hn).fastP (p := a) (o := .ins C dx fvs) hH hF hna
  exact h _ H _ (l.take.tr l2) s2 (.d (.obj hC (by rw [Wd.fF, upd_same]) (r.up l2.F)))
theorem guards_make {A : Around} {C : Addr} {us : List Value} (h : A.guards = some []) : (A.under (.builtin "type.__call__" ⟨.ref C :: us, []⟩)).guards = some [] := by
  have e : ("type.__call__" ∈ guardIds) = False := by simp [guardIds]
  simp [Around.under, Code.guards, Code.isGuard, pushGuards, h, e]
theorem makeP_ok {call : Nat → Gb} {dfl : Nat → Nat → Option (List D)} {ini : Nat → Option Nat} {k c : Nat} {C : Addr} (CF : FnsOk T X.prog X.w X.K X.mg X.base call dfl k) (M : MksOk T X.K ini) (hr : Room (k + 1) X.A) (hG : X.A.guards = some []) (tk : Takes X W) (hC : T.cls c = some C) : CbD T X W (.ref C) (makeP call dfl ini c) := by
  intro pins s σ H w st ds vs us Q I hs rv ru hp
  unfold makeP at hp
  cases hi : ini c with
  | none => rw [hi] at hp; exact hp.elim
  | some i =>
    simp only [hi] at hp
    obtain ⟨f, hf, mk⟩ := M.ok c i C hi hC
    -- the new instance
    have freshX : H (s.heap.objs.size + 1) = none := I.hok.fresh (Nat.le_succ s.heap.objs.size)
    have freshD := I.hok.fresh (Nat.le_refl s.heap.objs.size)
    have neD : s.heap.objs.size ≠ s.heap.objs.size + 1 := Nat.ne_of_lt (Nat.lt_succ_self _)
    have J := Inv.made (C := C) I
    generalize hox : s.heap.objs.size + 1 = ox at freshX neD J
    have nx : (upd H s.heap.objs.size (.own ox)) ox = none := by rw [upd_ne (Ne.symm neD)]; exact freshX
    have s1 : StOk T (w.cell ox) (st ++ [.ins c []]) (upd (upd H s.heap.objs.size (.own ox)) ox (.ins C s.heap.objs.size [])) :=
      (hs.skip freshD).newC nx ⟨hs.freeF freshX, C, s.heap.objs.size, [], hC, upd_same, .nil⟩
    have hρ : (w.cell ox).ρ[st.length]? = some ox := by
      rw [Wd.cell, hs.len]
      simp
    have rvs : Rvs T (w.cell ox) (.ref st.length :: ds) (.ref ox :: vs) := .cons (.ref hρ) (rv.up (Le.cell w ox))
    cases hd : dfl i (D.ref st.length :: ds).length with
    | none =>
      simp only [callP, hd] at hp
      exact hp.elim
    | some dv =>
      simp only [callP, hd] at hp
      obtain ⟨f', fd, ps, dvs, dsv, h1, h2, h3, h4, h5, h6⟩ := CF.ok i _ dv hd
      rw [hf] at h1
      cases h1
      have rr := rvs.app (h4 (w.cell ox).F).rvs
      have hsp : spOf T ((D.ref st.length :: ds).length + dv.length) (call i) (V.ref ox :: (vs ++ dvs)) (upd (upd H s.heap.objs.size (.own ox)) ox (.ins C s.heap.objs.size [])) (fun v H2 => v = .non ∧ Q (.ref ox) H2) (WE W σ) := by
        refine ⟨by rw [← List.cons_append, ← rr.len, List.length_append], w.cell ox, _, _, s1, rr, ?_⟩
        cases q : call i (D.ref st.length :: ds ++ dv) (st ++ [.ins c []]) with
        | stuck => rw [q] at hp; exact hp
        | exc k' fs st1 =>
          rw [q] at hp
          intro u H1 cls d l s2 x
          exact hp ⟨u.F, w.ρ⟩ H1 cls d ((Le.cell w ox).tr l).take (s2.take ((Le.cell w ox).tr l) hs.len.symm) x
        | ok d st1 =>
          rw [q] at hp
          intro u H1 v l s2 rv2
          cases d with
          | non =>
            refine ⟨rv2.non_inv, ?_⟩
            simp only at hp
            have hu := l.at hρ
            cases hg : st1[st.length]? with
            | none => simp only [hg] at hp; exact hp.elim
            | some cl =>
              cases cl with
              | ins k' fs =>
                simp only [hg] at hp
                split at hp
                · rename_i ek
                  subst ek
                  obtain ⟨hF, C', dx, fvs, g1, g2, g3⟩ := s2.cell _ _ ox hg hu
                  rw [hC] at g1
                  cases g1
                  exact made_end ((Le.cell w ox).tr l) s2 hs.len.symm hu hC hF g2 g3 hp
                · exact hp.elim
              | _ => simp only [hg] at hp; exact hp.elim
          | _ => exact hp.elim
      have r2 : Vals (V.ref ox :: (vs ++ dvs)) (Value.ref ox :: (us ++ dsv)) := .cons rfl (ru.append h5)
      have hl : (Value.ref ox :: us ++ dsv).length = ps.length := by
        have e := r2.length
        rw [h2.len _ _ _ _ hsp] at e
        exact e.symm
      subst hox
      refine wpAny_call (make_map (f := f) I.kIn mk.makes mk.init (beq_iff_eq.mp mk.fn)
        (codeAny_mono (h2.go _ X.stack _ _ ⟨Value.ref (s.heap.objs.size + 1) :: us, []⟩ (Value.ref (s.heap.objs.size + 1) :: (us ++ dsv)) _ _ (WE W σ) (hr.make C us []) (guards_make hG) (J.env0.make C us []) (h6 _ (Value.ref (s.heap.objs.size + 1) :: us) J.kIn hl) r2 hsp) fun r s' hq' => ?_))
      cases r with
      | error e => exact passAt tk σ pins _ _ e s' J hq'
      | ok fl =>
        cases fl with
        | ret z =>
          obtain ⟨v, H', I3, rv3, ev, q3⟩ := J.after hq'
          subst ev
          exact ⟨rv3, ⟨V.ref (s.heap.objs.size + 1), H', I3, rfl, q3⟩⟩
        | next => exact hq'.elim
        | brk => exact hq'.elim
        | cont => exact hq'.elim
theorem de_make {call : Nat → Gb} {dfl : Nat → Nat → Option (List D)} {ini : Nat → Option Nat} {k c i : Nat} {C : Addr} {x : Str} {p pos : Pos} {e : Expr} {es : List Expr} {fa : Fa} (CF : FnsOk T X.prog X.w X.K X.mg X.base call dfl k) (M : MksOk T X.K ini) (hr : Room (k + 1) X.A) (hG : X.A.guards = some []) (tk : Takes X W) (hi : ini c = some i) (hC : T.cls c = some C)
    (hg : Gl X x) (hm : X.mg x = some (.ref C)) (ha : PA X (e :: es) (tA T fa W)) (hdb : (x == ("__debug__" : Str)) = false) (he : starEach (e :: es) X.env = (false, eval e X.env) :: starEach es X.env) (hpl : (backTo pos (starEach es X.env)).any (·.1) = false) :
    PE X (.Call (.Name x p) (e :: es) [] pos) (tE T (fB (makeP call dfl ini c) fa) W) := by
  obtain ⟨f, hf, mk⟩ := M.ok c i C hi hC
  refine ⟨fun pins s σ H Q I h => ?_⟩
  obtain ⟨w, env, st, hs, hE, hp⟩ := h
  refine wpAny_Call_Name_kw (ld_glob I hg hm ?_ hdb)
  refine PySem.W.callWith_K (h₀ := X.base) I.ok.mod.kin mk.kp (thn (ha.run pos pins s σ H _ I (tA.bind hs hE hp)) fun us s1 ⟨vs, H1, I1, r1, u, ds, st1, l, hs1, he1, rx, hq⟩ => ⟨I1.kIn, ?_⟩) he hpl
  exact makeP_ok CF M hr hG tk hC pins s1 σ H1 u st1 ds vs us Q I1 hs1 rx r1 hq
end
end Ev
set_option Elab.async false
set_option linter.all false
set_option maxRecDepth 100000
set_option maxHeartbeats 2000000
namespace Ev
open PySem PySem.Spec L2
/-! ### the built-in __init__, bound to an exception that is being made -/
section
open PySem.W PySem.Calls PyProof.Rows
variable {prog : Program} {w : World} {A : Around} {E : Value → Shared → Prop} {h : Heap} {g : Array GenState} {d : Drawn} {t : Nat} {os : OsState} {B newId ini : String} {bmB : List Value}
theorem call_mw (FB : ExcBaseFacts B newId ini bmB) {nm q : Str} {C N e u t0 : Addr} {bs bm : List Value} {hdct : Bool} {sn : List Str} {sub : List Value} {ab : Bool} {col : Option Bool} {dd : Option Addr} {k0 k1 k2 k3 k5 : Option Value} {rest : List Value} {Q : Value → Shared → Prop}
    (hC : h.get? C = some (excClassObj nm q C N bs bm hdct sn sub ab col dd k0 k1 k2 k3 k5 newId)) (he : h.get? e = some (HandSPX.excO C t0)) (hu : h.get? u = some (kxs_mw ini e)) (hz : rest.length ≤ sizeLine)
    (hq : ∀ h' t1, (∀ b o, b ≠ e → h.get? b = some o → h'.get? b = some o) → h'.get? e = some (HandSPX.excO C t1) → Q .none ⟨h', g, d, t, os⟩) : wpAny (model prog w) A (call (.ref u) rest) Q E ⟨h, g, d, t, os⟩ := by
  refine wpAny_call (codeAny_of_tree ?_)
  show wpAny _ A.in1 (callAny (.ref u) ⟨rest, []⟩) _ _ _
  simp only [callAny]
  refine wpAny_bind (wpAny_load hu ?_)
  have hw : (Value.type "method-wrapper" == Value.type "method" || Value.type "method-wrapper" == Value.type "builtin_function_or_method" || Value.type "method-wrapper" == Value.type "method-wrapper") = true := by decide
  simp only [kxs_mw, hw, if_true]
  refine KFB.if_so (by decide) (wpAny_bind (check_bound_init FB.toExcCallFacts hC he rfl ?_))
  refine wpAny_bind (wpAny_pure (wpAny_pure ⟨plainId_quiet FB.init.plain _, codeAny_builtin FB.initEntry ?_⟩))
  rw [Around.under_plainId FB.init.plain _]
  wp_walk
  refine hq _ h.objs.size (fun b o hb ho => ?_) ?_
  · rw [Heap.get?_update_other _ _ (Ne.symm hb)]
    exact Heap.get?_push_of_some _ ho
  · rw [Heap.get?_update_self _ (Heap.get?_push_of_some _ he) rfl]
    rfl
end
end Ev
namespace Ev
open PySem PySem.Spec L2
/-! ### an exception's __init__: super().__init__(..), then fields -/
/-- the names of such a def -/
structure ExS (N : List Str) (sc : Scope) : Prop where
  kind : sc.kind = .function
  co : sc.isCoroutine = false
  gen : sc.isGenerator = false
  nd : N.Nodup
  par : ∀ x ∈ N, sc.names.lookup x = some .local
  nocell : ∀ y ∈ sc.names, y.2 ≠ .cell
  frees : ∀ y ∈ sc.names, y.2 = .free → y.1 = "__class__"
  sup : sc.names.lookup ("super" : Str) = some .globalImplicit
  cls : sc.names.lookup ("__class__" : Str) = some .free
def exsB (N : List Str) (sc : Scope) : Bool :=
  decide (sc.kind = .function) && !sc.isCoroutine && !sc.isGenerator && decide N.Nodup && N.all (fun x => decide (sc.names.lookup x = some .local)) && sc.names.all (fun y => !decide (y.2 = .cell) && (!decide (y.2 = .free) || decide (y.1 = "__class__"))) &&
    decide (sc.names.lookup ("super" : Str) = some .globalImplicit) && decide (sc.names.lookup ("__class__" : Str) = some .free)
theorem exs_by {N : List Str} {sc : Scope} (h : exsB N sc = true) : ExS N sc := by
  unfold exsB at h
  simp only [Bool.and_eq_true, Bool.or_eq_true, Bool.not_eq_true', decide_eq_true_eq, decide_eq_false_iff_not, List.all_eq_true] at h
  obtain ⟨⟨⟨⟨⟨⟨⟨h1, h2⟩, h3⟩, h4⟩, h5⟩, h6⟩, h7⟩, h8⟩ := h
  exact ⟨h1, h2, h3, h4, h5, fun y hy => (h6 y hy).1, fun y hy e => (h6 y hy).2.resolve_left fun z => z e, h7, h8⟩
abbrev exEnv (qual : Str) (scope : Scope) (L f cda cc : Addr) : PySem.Env := PySem.W.envX qual scope L f (.ref cda) [("__class__", cc)]
def exCx (P : Program) (w : World) (K : PySem.W.Frag) (mg : Str → Option Value) (base : Heap) (N : List Str) (qual : Str) (scope : Scope) (f cda cc : Addr) (A : Around) (outer : List PySem.Env) (s : Shared) (H : Hp) (E : XK) : Cx where
  prog := P
  w := w
  K := K
  mg := mg
  base := base
  A := A.deeper (exEnv qual scope s.heap.objs.size f cda cc)
  N := N
  s_0 := s
  H_0 := H
  env := exEnv qual scope s.heap.objs.size f cda cc
  outer := outer
  stack := exEnv qual scope s.heap.objs.size f cda cc :: outer
  ex := []
  fn := fun _ => false
  calm := true
  pn := []
  xe := fun e s' => wpAny (model P w) (A.deeper (exEnv qual scope s.heap.objs.size f cda cc)) (leaving (exEnv qual scope s.heap.objs.size f cda cc) e) (fun _ s'' => L2.CX P w outer H s E e s'') (fun e' s'' => L2.CX P w outer H s E e' s'') s'
/-- what stands of such a class and its __init__ -/
structure ExI (P : Program) (K : PySem.W.Frag) (mg : Str → Option Value) (C cc cda : Addr) : Prop where
  oex : OexC K C
  code : ∃ (ccl : Value) (cdd : Option Addr) (vs : Array Value) (ccs : Array (Option Value)) (file : Str) (tf : Tok), K.lookup cda = some ⟨ccl, cdd, .fields vs, ccs⟩ ∧ vs[2]? = some (.str file tf) ∧ ((P.main.file : Str) == file) = true
  cell : ∃ (cl : Value) (cld : Option Addr) (csl : Array (Option Value)), K.lookup cc = some ⟨cl, cld, .cell (some (.ref C)), csl⟩
  mro : PySem.W.mroIn K C (.ref C) = some true
  sup : PySem.W.ks_superIn K C C "__init__" = some (some (.builtin "ValueError.__init__"))
  opq : PySem.W.nsIn K cStatics "thirdparty.any" = some none
  ve : PySem.W.subIn K (.ref C) (.type "ValueError") = some true
  noSuper : mg "super" = none
  top : (P.main.scope.names.lookup ("super" : Str)).isSome = false
section
variable {P : Program} {w : World} {K : PySem.W.Frag} {mg : Str → Option Value} {base : Heap} {N : List Str} {qual : Str} {scope : Scope} {f cda cc C : Addr} {A : Around} {outer : List PySem.Env} {s : Shared} {H : Hp} {E : XK}
theorem ex_start (S : ExS N scope) (J : ExI P K mg C cc cda) (e0 : Env0 P w K mg base A outer s H) (hd : A.handled = none) {us : List Value} {vs : List V} (r : Vals vs us) (hl : vs.length = N.length) {h₁ : Heap} {tk : Nat}
    (hns : h₁.Ns s.heap.objs.size fun y => (N.zip us).reverse.lookup y) (kp : ∀ b o, s.heap.get? b = some o → h₁.get? b = some o) : Inv (exCx P w K mg base N qual scope f cda cc A outer s H E) [] (vs.map some) H { s with heap := h₁, toks := tk } := by
  have KX : K.In s.heap := e0.mod.kin.keeps fun b o e => (e0.bs b o e).1
  obtain ⟨cl, cld, csl, hcell⟩ := J.cell
  have cm : ∀ {y c}, ([(("__class__" : Str), cc)] : List (Str × Addr)).lookup y = some c → y = "__class__" ∧ c = cc := fun {y c} e => by
    rw [List.lookup_cons] at e
    cases hb : y == ("__class__" : Str) with
    | true => rw [hb] at e; cases e; exact ⟨by simpa using hb, rfl⟩
    | false => rw [hb] at e; cases e
  have noA : ∀ b : Addr, b ∉ (exCx P w K mg base N qual scope f cda cc A outer s H E).ex := fun b z => absurd (show b ∈ ([] : List Addr) from z) (by simp)
  have hH : H cc = none := (e0.bs cc _ (e0.mod.kin _ _ hcell)).2
  refine ⟨⟨e0.mod, S.kind, rfl, rfl, Nat.le_refl _, fun y z c e1 e2 => ?_, fun y hy => ?_, fun y c z _ => ?_, fun _ => hd, Around.frames_deeper e0.frames, .inr ⟨rfl, rfl⟩, fun b z => absurd z (noA b), e0.bs, e0.bsz, fun b _ _ => noA b, fun b z => absurd z (noA b), e0.funs, e0.frf⟩,
    rfl, e0.bare, Un.kept kp, ⟨_, hns, fun i y v e1 e2 e3 => ?_⟩, fun y c e => ?_, e0.hok.fresh (Nat.le_refl _), fun y c e => ?_, fun q hq => absurd (show q ∈ ([] : List (Addr × Obj)) ++ [] from hq) (by simp), e0.hok.kept kp, by rw [List.length_map]; exact hl⟩
  · rw [(cm e1).1, (cm e2).1]
  · have hy : scope.names.lookup y = some .cell ∨ scope.names.lookup y = some .free := hy
    rcases hy with hy | hy
    · exact absurd rfl (S.nocell _ (PySem.mem_of_lookup hy))
    · have e := S.frees _ (PySem.mem_of_lookup hy) rfl
      have e : y = "__class__" := e
      rw [e]
      exact ⟨cc, by show ([(("__class__" : Str), cc)] : List (Str × Addr)).lookup ("__class__" : Str) = some cc; simp [List.lookup]⟩
  · have z : false = true := z
    cases z
  · have e1 : N[i]? = some y := e1
    rw [List.getElem?_map] at e2
    cases hv : vs[i]? with
    | none => rw [hv] at e2; cases e2
    | some v' =>
      rw [hv] at e2
      cases e2
      obtain ⟨u, hu, ru⟩ := r.get hv
      have loc : scope.names.lookup y = some .local := S.par y (List.mem_of_getElem? e1)
      refine ⟨u, ru, .inl ⟨loc, ?_⟩⟩
      exact NdefX.zip_look S.nd e1 hu
  · obtain ⟨e1, e2⟩ := cm e
    subst e2
    exact ⟨_, _, kp _ _ (KX _ _ hcell), rfl⟩
  · rw [(cm e).2]
    exact hH
end
end Ev
namespace Ev
open PySem PySem.Spec L2
section
variable {P : Program} {w : World} {K : PySem.W.Frag} {mg : Str → Option Value} {base : Heap} {N : List Str} {qual : Str} {scope : Scope} {f cda cc C : Addr}
/-- what super().__init__(..) and the stores behind it promise; fs: the fields by the values -/
def spEx (C : Addr) (n : Nat) (fs : List V → List (Str × V)) : Sp := fun vs H Q _ => ∃ a ws, vs = .ref a :: ws ∧ ws.length = n ∧ H a = some (exo a C none) ∧ ∀ d, H d = none → d ≠ a → Q .non (upd (upd H d (exd d (fs ws))) a (exo a C (some d)))
theorem ex_fn {x : Str} {params : Arguments} {rest : List Stmt} {dV kV doc pm ct oc : Value} {an od : Option Addr} {osl : Array (Option Value)} {k n : Nat} {p0 p1 p2 p3 p4 : Pos} {e : Expr} {es : List Expr} {ta : Cx → TA} {tr : Cx → TS} {fs : List V → List (Str × V)} {ar : Arg} (J : ExI P K mg C cc cda) (S : ExS N scope)
    (lk : K.lookup f = some ⟨oc, od, .func (PySem.W.fnX x qual params (.Expr (.Call (.Attribute (.Call (.Name "super" p0) [] [] p1) "__init__" p2) (e :: es) [] p3) p4 :: rest) scope [("__class__", cc)] dV kV doc pm an (.ref cda) ct), osl⟩) (hcd : PySem.W.codeIn K (.ref cda) qual = true)
    (har : (params.posonlyargs ++ params.args).head? = some ar) (h0 : N[0]? = some ar.arg) (hN : N.length = n + 1) (hn : n ≤ 1000)
    (hsw : ∀ env : PySem.Env, env.scope = scope → swapsWith (.Call (.Attribute (.Call (.Name "super" p0) [] [] p1) "__init__" p2) (e :: es) [] p3) none p4.line env = pure false)
    (hev : ∀ env : PySem.Env, ∃ pl : Sem Bool, eval (.Call (.Attribute (.Call (.Name "super" p0) [] [] p1) "__init__" p2) (e :: es) [] p3) env = (do
      let ov ← attributeBase (.Call (.Name "super" p0) [] [] p1) "__init__" env (eval (.Call (.Name "super" p0) [] [] p1) env)
      standAt p2.atName
      let (f, first) ← holding [ov] (getMethod ov "__init__" pl)
      callWith p3 f first (backTo p3 (starEach (e :: es) env)) []))
    (he : ∀ env : PySem.Env, starEach (e :: es) env = (false, eval e env) :: starEach es env) (hpl : ∀ env : PySem.Env, (backTo p3 (starEach es env)).any (·.1) = false)
    (hA : ∀ X : Cx, X.N = N → X.env.scope = scope → X.K = K → PA X (e :: es) (ta X)) (hta : ∀ X a ws H (Q : List V → Hp → Prop), ws.length = n → (∀ vs, vs.length ≤ 1000 → Q vs H) → ta X ((V.ref a :: ws).map some) H Q)
    (hR : ∀ X : Cx, X.N = N → X.env.scope = scope → X.K = K → PSs X rest (tr X)) (htr : ∀ X a ws H (D : Ends), X.K = K → ws.length = n → OexC K C → H a = some (exo a C none) → (∀ d, H d = none → d ≠ a → ∀ σ, D.nx σ (upd (upd H d (exd d (fs ws))) a (exo a C (some d)))) → tr X D ((V.ref a :: ws).map some) H) :
    FnOk P w K mg base (L2.CX P w) k f (PySem.W.fnX x qual params (.Expr (.Call (.Attribute (.Call (.Name "super" p0) [] [] p1) "__init__" p2) (e :: es) [] p3) p4 :: rest) scope [("__class__", cc)] dV kV doc pm an (.ref cda) ct) N (spEx C n fs) := by
  refine ⟨fun vs H Q E ⟨a, ws, ev, hl, _⟩ => by rw [ev, hN, List.length_cons, hl], fun A outer s H args us vs Q E hr e0 hb r hsp => ?_⟩
  obtain ⟨a, ws, rfl, hl, hH, hq⟩ := hsp
  have KX : K.In s.heap := e0.mod.kin.keeps fun b o e => (e0.bs b o e).1
  have lim : s.heap.NoLimit := e0.mod.nolimit.keeps fun b o e => (e0.bs b o e).1
  have hlen : (V.ref a :: ws).length = N.length := by rw [hN, List.length_cons, hl]
  refine PySem.ks_codeAny_call_defAt hr.depth (KX _ _ lk) rfl lim (PySem.W.codeRec_of KX hcd) rfl hb S.nocell (fun y hy => S.par _ (List.of_mem_zip (show (y.1, y.2) ∈ N.zip us from hy)).1) (fun h₁ hns kp => ?_) S.co S.gen S.kind
  have I : Inv (exCx P w K mg base N qual scope f cda cc A outer s H E) [] ((V.ref a :: ws).map some) H { s with heap := h₁, toks := s.toks + (N.zip us).length } := ex_start S J e0 hr.hd r hlen hns kp
  generalize hX : exCx P w K mg base N qual scope f cda cc A outer s H E = X at I
  have xA : X.A = A.deeper (exEnv qual scope s.heap.objs.size f cda cc) := by rw [← hX]; rfl
  have xe : X.env = exEnv qual scope s.heap.objs.size f cda cc := by rw [← hX]; rfl
  have xP : X.prog = P := by rw [← hX]; rfl
  have xw : X.w = w := by rw [← hX]; rfl
  have xK : X.K = K := by rw [← hX]; rfl
  have xN : X.N = N := by rw [← hX]; rfl
  have xmg : X.mg = mg := by rw [← hX]; rfl
  have xsc : X.env.scope = scope := by rw [xe]
  have xout : X.outer = outer := by rw [← hX]; rfl
  have xs0 : X.s_0 = s := by rw [← hX]; rfl
  have xH0 : X.H_0 = H := by rw [← hX]; rfl
  have xxe : X.xe = fun e s' => wpAny (model P w) (A.deeper (exEnv qual scope s.heap.objs.size f cda cc)) (leaving (exEnv qual scope s.heap.objs.size f cda cc) e) (fun _ s'' => L2.CX P w outer H s E e s'') (fun e' s'' => L2.CX P w outer H s E e' s'') s' := by rw [← hX]; rfl
  show wpAt (model P w) (A.deeper (exEnv qual scope s.heap.objs.size f cda cc)) (.func _ (exEnv qual scope s.heap.objs.size f cda cc)) (execs _ (exEnv qual scope s.heap.objs.size f cda cc)) _ _ _
  rw [← xA, ← xe]
  have goal : wpAt (model P w) X.A (.func (.Expr (.Call (.Attribute (.Call (.Name "super" p0) [] [] p1) "__init__" p2) (e :: es) [] p3) p4 :: rest) X.env) (execs (.Expr (.Call (.Attribute (.Call (.Name "super" p0) [] [] p1) "__init__" p2) (e :: es) [] p3) p4 :: rest) X.env)
      (SP X [] { nx := fun _ H' => Q .non H', rt := Q }) X.xe { s with heap := h₁, toks := s.toks + (N.zip us).length } := by
    obtain ⟨pl, hev1⟩ := hev X.env
    have hi : interactive X.env = false := by
      unfold interactive
      rw [xe]
      simp [S.kind]
    refine PySem.ks_wpAt_execs_cons (PySem.ks_wpAt_Expr_any (prog := P) (w := w) (PySem.ks_wpAt_MethodCall (pl := pl) ?_ hev1) hi (hsw X.env xsc))
    obtain ⟨ccl, cdd, cvs, ccs, file, tf, hcode, hvs, hfile⟩ := J.code
    obtain ⟨cl, cld, csl, hcell⟩ := J.cell
    have KX1 : X.K.In h₁ := I.kIn
    rw [xK] at KX1
    obtain ⟨nm, q0, N0, bs, bm, sn, sub, ab, col, dd, k0, k1, k2, k3, k5, hC, hbm⟩ := J.oex.cls
    have hD := KX1 _ _ hC
    obtain ⟨t1, hoa⟩ := exo_at I.hok hH
    have kS : X.env.kindOf "super" = some .globalImplicit := by unfold PySem.Env.kindOf; rw [xsc]; exact S.sup
    have kC : X.env.kindOf "__class__" = some .free := by unfold PySem.Env.kindOf; rw [xsc]; exact S.cls
    have kX : X.env.scope.kind = .function := by rw [xsc]; exact S.kind
    have ha0 : X.env.kindOf ar.arg = some .local := by unfold PySem.Env.kindOf; rw [xsc]; exact S.par _ (List.mem_of_getElem? h0)
    refine PySem.ks_wpAt_super_base (env := X.env) (f := f) (cc := cda) kS kC (by decide +kernel) (by rw [xe]) (KX1 _ _ lk) rfl har (by rw [xe]) (KX1 _ _ hcode) rfl hvs hfile J.top ?_
    obtain ⟨mb, hb1, hb2⟩ := I.mod.blt
    have hg1 : h₁.Ns X.env.globals X.mg := by rw [I.ok.glob]; exact I.mod.glob.keeps I.bk
    have hb3 : h₁.Ns X.env.builtins mb := by rw [I.ok.blt]; exact hb1.keeps I.bk
    refine PySem.W.ks_loadName_global kX kS (Calls.loadGlobal_builtin (env := X.env) hg1 (by rw [xmg]; exact J.noSuper) hb3 ((hb2 _ (by decide +kernel)).trans (by decide +kernel)) ⟨rfl, ?_⟩)
    refine wpAny_loadName_free kX kC (c := cc) (v := .ref C) (by rw [xe]; show ([(("__class__" : Str), cc)] : List (Str × Addr)).lookup ("__class__" : Str) = some cc; simp [List.lookup]) ⟨_, KX1 _ _ hcell, rfl⟩ ?_
    obtain ⟨m, hm1, hm2⟩ := I.loc
    obtain ⟨ua, ru, lo⟩ := hm2 0 ar.arg (.ref a) (by rw [xN]; exact h0) rfl (.inl ha0)
    cases (show ua = Value.ref a from ru)
    have hma : m ar.arg = some (.ref a) := by
      rcases lo with ⟨_, z⟩ | ⟨z, _⟩
      · exact z
      · rw [ha0] at z
        rcases z with z | z <;> cases z
    refine wpAny_loadName_local kX ha0 hm1 hma ?_
    refine PySem.ks_wpAny_isType_cls hD rfl ⟨rfl, ?_⟩
    refine PySem.ks_wpAny_call_super hD rfl hoa rfl (fun c z => by cases z) (PySem.W.looks_mroIn KX1 J.mro) (fun h2 hso k2 => ?_)
    -- the method
    have KX2 : K.In h2 := KX1.keeps k2
    have hoa2 := k2 _ _ hoa
    have hac : a ≠ C := fun z => by
      rw [z] at hoa
      rw [hD] at hoa
      cases hoa
    have hcd1 : PySem.W.clsIn K C = some { name := nm, bases := bs, mro := .ref C :: bm, ns := N0, qualname := q0, hasDict := true, slotNames := sn, subclasses := sub, abstract := ab, collection := col, hasDel := false } := by unfold PySem.W.clsIn; rw [hC] <;> rfl
    have hsup := J.sup
    unfold PySem.W.ks_superIn at hsup
    rw [hcd1, Option.bind_some] at hsup
    have It : PySem.W.InstAt h2 a (HandSPX.excO C t1) C none := ⟨hoa2, rfl, rfl, trivial⟩
    refine PySem.W.kxs_getMethod PySem.W.kxs_ValueError hso (PySem.W.looks_opaque KX2 J.opq) (l₀ := .ref C :: bm) (fun A Q E s k q => wpAny_bind ((PySem.W.looks_clsIn KX2 hcd1) A _ E s k (wpAny_pure q))) rfl KX2 hsup (It.type.andThen (PySem.W.looks_subIn KX2 J.ve)) hac (by decide +kernel) ?_
    -- the arguments
    show wpAny _ _ (callWith p3 (.ref h2.objs.size) [] (backTo p3 (starEach (e :: es) X.env)) []) _ _ _
    have k3 : ∀ b o, h₁.get? b = some o → (h2.push (PySem.W.kxs_mw "ValueError.__init__" a)).get? b = some o := fun b o z => Heap.get?_push_of_some _ (k2 b o z)
    have I3 : Inv X [] ((V.ref a :: ws).map some) H { heap := h2.push (PySem.W.kxs_mw "ValueError.__init__" a), gens := s.gens, drawn := s.drawn, toks := s.toks + (N.zip us).length + 1, os := s.os } := I.kept k3
    have hlt : h₁.objs.size ≤ h2.objs.size := Nat.le_of_lt (Heap.lt_size hso)
    have hu0 : (h2.push (PySem.W.kxs_mw "ValueError.__init__" a)).get? h2.objs.size = some (PySem.W.kxs_mw "ValueError.__init__" a) := Heap.get?_push_size _ rfl
    have I4 : Inv X [(h2.objs.size, PySem.W.kxs_mw "ValueError.__init__" a)] ((V.ref a :: ws).map some) H { heap := h2.push (PySem.W.kxs_mw "ValueError.__init__" a), gens := s.gens, drawn := s.drawn, toks := s.toks + (N.zip us).length + 1, os := s.os } := by
      refine { I3 with pin := fun p hp => ?_ }
      rcases List.mem_append.mp hp with hp | hp
      · exact I3.pin p (List.mem_append_left _ hp)
      · rw [List.mem_singleton.mp hp]
        exact ⟨hu0, I.hok.fresh hlt, Nat.ne_of_gt (Nat.lt_of_lt_of_le I.lt hlt), I.nofs hlt, fun v z => by cases z⟩
    have ra := (hA X xN xsc xK).run p3 _ _ _ H (fun vs H1 => vs.length ≤ 1000 ∧ H1 = H) I4 (hta X a ws H _ hl fun vs hvs => ⟨hvs, rfl⟩)
    rw [xP, xw] at ra
    have hpl1 := hpl X.env
    have he1 := he X.env
    rw [he1] at ra ⊢
    refine PySem.W.kxs_callWith (i := "ValueError.__init__") (x := a) (by show (false || (backTo p3 (starEach es X.env)).any (·.1)) = false; rw [hpl1]; rfl) (Calls.evalArgs_plain (thn ra fun vs s4 ⟨zs, H4, I5, r5, hz5, eH⟩ => ?_))
    subst eH
    have hm4 := (I5.pin (h2.objs.size, PySem.W.kxs_mw "ValueError.__init__" a) (List.mem_append_right _ (List.mem_singleton.mpr rfl))).1
    obtain ⟨t4, ho4⟩ := exo_at I5.hok hH
    have KX5 : K.In s4.heap := by rw [← xK]; exact I5.kIn
    refine ⟨hm4, ?_⟩
    obtain ⟨hp4, g4, d4, t4', os4⟩ := s4
    refine call_mw (B := "ValueError") (newId := "ValueError.__new__") F.excBase_ValueError (KX5 _ _ hC) ho4 hm4 (by show vs.length ≤ sizeLine; rw [← Paired.length r5, sizeLine_eq]; omega) fun h6 t6 k6 hx6 => ?_
    have I6 := I5.write (t' := t4') (x := a) (e := a) (o := exo a C none) (by rw [hH]; exact True.intro) (.inl rfl) k6 ⟨_, hx6⟩ (exo_ok hx6)
    have eu : upd H4 a (exo a C none) = H4 := by
      funext b
      by_cases hb : b = a
      · rw [hb, upd_same, hH]
      · rw [upd_ne hb]
    rw [eu] at I6
    have I7 : Inv X [] ((V.ref a :: ws).map some) H4 { heap := h6, gens := g4, drawn := d4, toks := t4', os := os4 } := { I6 with pin := fun p hp => I6.pin p (List.mem_append_left _ (by simpa using hp)) }
    have rr := (hR X xN xsc xK).run [] _ _ H4 { nx := fun _ H' => Q .non H', rt := Q } I7 (htr X a ws H4 _ xK hl J.oex hH fun d hd hda σ => hq d hd hda)
    rw [xP, xw] at rr
    exact PySem.wpAt_of_wpAny rr
  refine PySem.ks_wpAt_mono goal (fun fl s' hs => ?_) fun er s' hs => ?_
  · have fin : ∀ {σ' : L2.St} {H' : Hp} {v : V} {u : Value}, Inv X [] σ' H' s' → RelV v u → Q v H' → CE outer P w H s Q u s' := fun {σ' H' v u} J rv q => by
      have b := J.base
      have o := J.os
      have hk := J.hok
      rw [xs0] at o
      rw [xP, xw] at hk
      rw [xH0, xs0] at b
      rw [show X.fs = frs outer by rw [← xout]] at b
      have hex : X.ex = [] := by rw [← hX]; rfl
      rw [hex] at b
      exact ⟨v, H', o, J.bare, b, hk, rv, q⟩
    cases fl with
    | ret u =>
      obtain ⟨v, σ', H', J, rv, q⟩ := hs
      exact fin J rv q
    | next =>
      obtain ⟨σ', H', J, q⟩ := hs
      exact fin (v := V.non) (u := Value.none) J rfl q
    | brk =>
      obtain ⟨_, _, _, q⟩ := hs
      exact q.elim
    | cont =>
      obtain ⟨_, _, _, q⟩ := hs
      exact q.elim
  · rw [xxe] at hs
    exact hs
end
end Ev
set_option Elab.async false
set_option linter.all false
set_option maxRecDepth 100000
set_option maxHeartbeats 1000000
namespace Ev
open PySem PySem.Spec L2
/-! ### raise C(..) -/
structure ExsOk (T : Tb) (P : Program) (wo : World) (K : PySem.W.Frag) (mg : Str → Option Value) (base : Heap) (exf : Nat → Option (List Nat)) (k : Nat) : Prop where
  ok : ∀ c fl C, exf c = some fl → T.cls c = some C → ∃ fI fd ps xs, OexC K C ∧ PySem.W.findIn K (.ref C) "__init__" = some (some (.ref fI)) ∧ PySem.W.typeIn K (.ref fI) = some (.type "function") ∧
    FnOk P wo K mg base (L2.CX P wo) k fI fd ps (spEx C fl.length fun ws => (xs.zip ws).reverse) ∧ L2.Binds K fd ps [] ∧ Paired (fun f x => T.att f = some x) fl xs
section
variable {T : Tb} {X : Cx} {W : WX}
theorem rpf_zip {F : Hp} : ∀ {fl : List Nat} {xs : List Str} {ds : List D} {vs : List V}, Paired (fun f x => T.att f = some x) fl xs → Rps T F ds vs → Rpf T F (fl.zip ds) (xs.zip vs)
  | _, _, _, _, .nil, _ => by simp only [List.zip_nil_left]; exact .nil
  | _, _, _, _, .cons _ _, .nil => by simp only [List.zip_nil_right]; exact .nil
  | _, _, _, _, .cons h r, .cons q rr => .cons h q (rpf_zip r rr)
theorem rpf_app {F : Hp} : ∀ {fs gs : List (Nat × D)} {xs ys : List (Str × V)}, Rpf T F fs xs → Rpf T F gs ys → Rpf T F (fs ++ gs) (xs ++ ys)
  | _, _, _, _, .nil, s => s
  | _, _, _, _, .cons h q r, s => .cons h q (rpf_app r s)
theorem rpf_rev {F : Hp} : ∀ {fs : List (Nat × D)} {xs : List (Str × V)}, Rpf T F fs xs → Rpf T F fs.reverse xs.reverse
  | _, _, .nil => .nil
  | _, _, .cons h q r => by
    rw [List.reverse_cons, List.reverse_cons]
    exact rpf_app (rpf_rev r) (.cons h q .nil)
def sRaise (exf : Nat → Option (List Nat)) (c : Nat) (a : Fa) : Fs := fun env st => (a env st).thn env fun ds st1 => match exf c, frzs ds st1 with
  | some fl, some (es, st2) => if es.length = fl.length ∧ es.length ≤ 1000 then .exc c (fl.zip es).reverse env st2 else .stuck
  | _, _ => .stuck
theorem ds_raise {exf : Nat → Option (List Nat)} {k c : Nat} {C : Addr} {fl : List Nat} {x : Str} {p pos pos2 : Pos} {e : Expr} {es : List Expr} {fa : Fa} (J : ExsOk T X.prog X.w X.K X.mg X.base exf k) (hr : Room (k + 1) X.A) (hc : X.calm = true) (tk : Takes X W) (hC : T.cls c = some C) (hfl : exf c = some fl)
    (hg : Gl X x) (hm : X.mg x = some (.ref C)) (ha : PA X (e :: es) (tA T fa W)) (hdb : (x == ("__debug__" : Str)) = false) (he : starEach (e :: es) X.env = (false, eval e X.env) :: starEach es X.env) (hpl : (backTo pos (starEach es X.env)).any (·.1) = false) :
    PS X (.Raise (some (.Call (.Name x p) (e :: es) [] pos)) none pos2) (tS T (sRaise exf c fa) W) := by
  obtain ⟨fI, fd, ps, xs, oex, hi, ty, F1, hb, pr⟩ := J.ok c fl C hfl hC
  refine PS.imp (ps_raise hc tk (pmk_oex oex hi ty F1 hr hb .nil passL hg hm ha hdb he hpl)) fun Dn σ H ⟨w, env, st, hs, hE, hp⟩ => ?_
  obtain ⟨w1, env1, st1, a1, a2, a3⟩ := sA hs hE hp
  refine ⟨w1, env1, st1, a1, a2, a3.imp (fun vs H1 ⟨u, ds, st2, l, s2, e2, rv, hp2⟩ => ?_) fun _ _ _ z => z⟩
  split at hp2
  · rename_i fl' es' st3 hfl' hf
    rw [hfl] at hfl'
    cases hfl'
    obtain ⟨u2, l2, s3, r3⟩ := frzs_ok s2 rv hf
    split at hp2
    · rename_i hz
      have e1 := r3.len
      refine ⟨by omega, fun a hn => ⟨a, vs, by rw [List.append_nil], by rw [← e1]; exact hz.1, upd_same, fun d hd hda => ?_⟩⟩
      have hd1 : H1 d = none := by rw [upd_ne hda] at hd; exact hd
      refine ⟨rfl, d, (xs.zip vs).reverse, upd_same, by rw [upd_ne hda, upd_same], hd1, ?_⟩
      have eH : upd (del (upd (upd (upd H1 a (exo a C none)) d (exd d (xs.zip vs).reverse)) a (exo a C (some d))) a) d (.xd (xs.zip vs).reverse) = upd H1 d (.xd (xs.zip vs).reverse) := by
        funext b
        by_cases hb : b = d
        · rw [hb, upd_same, upd_same]
        · rw [upd_ne hb, upd_ne hb]
          by_cases hba : b = a
          · rw [hba, del_same, hn]
          · rw [del_ne hba, upd_ne hba, upd_ne hb, upd_ne hba]
      rw [eH]
      have l3 : Le u2 (u2.frz d (.xd (xs.zip vs).reverse)) := Le.frz s3 hd1
      exact hp2 (u2.frz d (.xd (xs.zip vs).reverse)) σ _ _ _ (l2.tr l3) (s3.newF hd1) ((e2.up l2).up l3) ⟨C, d, _, hC, rfl, rfl, by rw [Wd.fF, upd_same], rpf_rev (rpf_zip pr (r3.up l3.F))⟩
    · exact hp2.elim
  · exact hp2.elim
end
end Ev
namespace Ev
open PySem PySem.Spec L2
section
variable {P : Program} {w : World} {K : PySem.W.Frag} {mg : Str → Option Value} {base : Heap} {qual : Str} {scope : Scope} {f cda cc C : Addr}
theorem ex_var {N : List Str} {X : Cx} (S : ExS N scope) (xN : X.N = N) (xs : X.env.scope = scope) {i : Nat} {x : Str} {pos : Pos} (hi : N[i]? = some x) (hd : (x == ("__debug__" : Str)) = false) (hcd : (x == ("__classdict__" : Str)) = false) : PE X (.Name x pos) (tVar i) :=
  pe_var (by rw [xN]; exact hi) (by rw [xs]; exact .inl (S.par x (List.mem_of_getElem? hi))) hd hcd
theorem ex_fn1 {x sf p1 f1 : Str} {params : Arguments} {dV kV doc pm ct oc : Value} {an od : Option Addr} {osl : Array (Option Value)} {k : Nat} {q0 q1 q2 q3 q4 q5 q6 q7 q8 q9 : Pos} {ar : Arg} (J : ExI P K mg C cc cda) (S : ExS [sf, p1] scope)
    (lk : K.lookup f = some ⟨oc, od, .func (PySem.W.fnX x qual params [.Expr (.Call (.Attribute (.Call (.Name "super" q0) [] [] q1) "__init__" q2) [.Name p1 q3] [] q4) q5, .Assign [.Attribute (.Name sf q6) f1 q7] (.Name p1 q8) q9] scope [("__class__", cc)] dV kV doc pm an (.ref cda) ct), osl⟩) (hcd : PySem.W.codeIn K (.ref cda) qual = true)
    (har : (params.posonlyargs ++ params.args).head? = some ar) (h0 : ar.arg = sf) (hs1 : (sf == ("__debug__" : Str)) = false) (hs2 : (sf == ("__classdict__" : Str)) = false) (hp1 : (p1 == ("__debug__" : Str)) = false) (hp2 : (p1 == ("__classdict__" : Str)) = false)
    (hf : PySem.W.findIn K (.ref C) f1 = some none) (hev : ∀ env : PySem.Env, ∃ pl : Sem Bool, eval (.Call (.Attribute (.Call (.Name "super" q0) [] [] q1) "__init__" q2) [.Name p1 q3] [] q4) env = (do
      let ov ← attributeBase (.Call (.Name "super" q0) [] [] q1) "__init__" env (eval (.Call (.Name "super" q0) [] [] q1) env)
      standAt q2.atName
      let (f, first) ← holding [ov] (getMethod ov "__init__" pl)
      callWith q4 f first (backTo q4 (starEach [.Name p1 q3] env)) [])) :
    FnOk P w K mg base (L2.CX P w) k f (PySem.W.fnX x qual params [.Expr (.Call (.Attribute (.Call (.Name "super" q0) [] [] q1) "__init__" q2) [.Name p1 q3] [] q4) q5, .Assign [.Attribute (.Name sf q6) f1 q7] (.Name p1 q8) q9] scope [("__class__", cc)] dV kV doc pm an (.ref cda) ct) [sf, p1] (spEx C 1 fun ws => ([f1].zip ws).reverse) := by
  refine ex_fn (ta := fun X => tCons (tVar 1) tNil) (tr := fun X => tSeq (tOst X.K f1 (tVar 0) (tVar 1)) tNext) J S lk hcd har (by rw [h0]; rfl) rfl (by decide) (fun env h => rfl) hev (fun env => rfl) (fun env => rfl) (fun X xN xs xK => ?_) (fun X a ws H Q hl q => ?_) (fun X xN xs xK => ?_) fun X a ws H D xK hl T hH q => ?_
  · exact pa_cons (ex_var S xN xs rfl hp1 hp2) pa_nil rfl
  · match ws, hl with
    | [y], _ => exact ⟨y, rfl, q [y] (by show 1 ≤ 1000; decide)⟩
  · exact pss_cons (ps_ost (ex_var S xN xs rfl hs1 hs2) (ex_var S xN xs rfl hp1 hp2)) pss_nil
  · match ws, hl with
    | [y], _ => exact ⟨y, rfl, _, rfl, a, C, rfl, xK ▸ T, xK ▸ hf, .inl ⟨hH, fun d hd hda => q d hd hda _⟩⟩
theorem ex_fn2 {x sf p1 p2 f1 f2 : Str} {params : Arguments} {dV kV doc pm ct oc : Value} {an od : Option Addr} {osl : Array (Option Value)} {k : Nat} {q0 q1 q2 q3 q4 q5 q6 q7 q8 q9 q10 q11 q12 q13 q14 : Pos} {ar : Arg} (J : ExI P K mg C cc cda) (S : ExS [sf, p1, p2] scope)
    (lk : K.lookup f = some ⟨oc, od, .func (PySem.W.fnX x qual params [.Expr (.Call (.Attribute (.Call (.Name "super" q0) [] [] q1) "__init__" q2) [.Name p1 q3, .Name p2 q10] [] q4) q5, .Assign [.Attribute (.Name sf q6) f1 q7] (.Name p1 q8) q9, .Assign [.Attribute (.Name sf q11) f2 q12] (.Name p2 q13) q14] scope [("__class__", cc)] dV kV doc pm an (.ref cda) ct), osl⟩) (hcd : PySem.W.codeIn K (.ref cda) qual = true)
    (har : (params.posonlyargs ++ params.args).head? = some ar) (h0 : ar.arg = sf) (hs1 : (sf == ("__debug__" : Str)) = false) (hs2 : (sf == ("__classdict__" : Str)) = false) (hp1 : (p1 == ("__debug__" : Str)) = false) (hp2 : (p1 == ("__classdict__" : Str)) = false) (hp3 : (p2 == ("__debug__" : Str)) = false) (hp4 : (p2 == ("__classdict__" : Str)) = false)
    (hf : PySem.W.findIn K (.ref C) f1 = some none) (hf2 : PySem.W.findIn K (.ref C) f2 = some none) (hev : ∀ env : PySem.Env, ∃ pl : Sem Bool, eval (.Call (.Attribute (.Call (.Name "super" q0) [] [] q1) "__init__" q2) [.Name p1 q3, .Name p2 q10] [] q4) env = (do
      let ov ← attributeBase (.Call (.Name "super" q0) [] [] q1) "__init__" env (eval (.Call (.Name "super" q0) [] [] q1) env)
      standAt q2.atName
      let (f, first) ← holding [ov] (getMethod ov "__init__" pl)
      callWith q4 f first (backTo q4 (starEach [.Name p1 q3, .Name p2 q10] env)) [])) :
    FnOk P w K mg base (L2.CX P w) k f (PySem.W.fnX x qual params [.Expr (.Call (.Attribute (.Call (.Name "super" q0) [] [] q1) "__init__" q2) [.Name p1 q3, .Name p2 q10] [] q4) q5, .Assign [.Attribute (.Name sf q6) f1 q7] (.Name p1 q8) q9, .Assign [.Attribute (.Name sf q11) f2 q12] (.Name p2 q13) q14] scope [("__class__", cc)] dV kV doc pm an (.ref cda) ct)
      [sf, p1, p2] (spEx C 2 fun ws => ([f1, f2].zip ws).reverse) := by
  refine ex_fn (ta := fun X => tCons (tVar 1) (tCons (tVar 2) tNil)) (tr := fun X => tSeq (tOst X.K f1 (tVar 0) (tVar 1)) (tSeq (tOst X.K f2 (tVar 0) (tVar 2)) tNext)) J S lk hcd har (by rw [h0]; rfl) rfl (by decide) (fun env h => rfl) hev (fun env => rfl) (fun env => rfl) (fun X xN xs xK => ?_) (fun X a ws H Q hl q => ?_) (fun X xN xs xK => ?_) fun X a ws H D xK hl T hH q => ?_
  · exact pa_cons (ex_var S xN xs rfl hp1 hp2) (pa_cons (ex_var S xN xs rfl hp3 hp4) pa_nil rfl) rfl
  · match ws, hl with
    | [y, z], _ => exact ⟨y, rfl, z, rfl, q [y, z] (by show 2 ≤ 1000; decide)⟩
  · exact pss_cons (ps_ost (ex_var S xN xs rfl hs1 hs2) (ex_var S xN xs rfl hp1 hp2)) (pss_cons (ps_ost (ex_var S xN xs rfl hs1 hs2) (ex_var S xN xs rfl hp3 hp4)) pss_nil)
  · match ws, hl with
    | [y, z], _ =>
      refine ⟨y, rfl, _, rfl, a, C, rfl, xK ▸ T, xK ▸ hf, .inl ⟨hH, fun d hd hda => ?_⟩⟩
      refine ⟨z, rfl, _, rfl, a, C, rfl, xK ▸ T, xK ▸ hf2, .inr ⟨d, [(f1, y)], upd_same, by rw [upd_ne hda, upd_same], (by show 1 ≤ 900; decide), ?_⟩⟩
      have e : upd (upd (upd H d (exd d [(f1, y)])) a (exo a C (some d))) d (exd d [(f2, z), (f1, y)]) = upd (upd H d (exd d [(f2, z), (f1, y)])) a (exo a C (some d)) := by
        funext b
        by_cases hb : b = d
        · rw [hb, upd_same, upd_ne hda, upd_same]
        · by_cases hba : b = a
          · rw [upd_ne hb, hba, upd_same, upd_same]
          · rw [upd_ne hb, upd_ne hba, upd_ne hb, upd_ne hba, upd_ne hb]
      rw [e]
      exact q d hd hda _
end
end Ev
set_option Elab.async false
set_option linter.all false
set_option maxRecDepth 100000
set_option maxHeartbeats 2000000
namespace Ev
open PySem PySem.Spec L2
/-! ### repr of plain data -/
def shownOk (p : PyData) : Bool := p.showable && !p.hasDict && decide (p.depth ≤ 60) && decide (p.shown.length ≤ sizeLine)
section
variable {T : Tb} {X : Cx} {W : WX}
theorem call_repr (hG : X.A.guards = some []) (hu : X.A.units + 64 < cLine) : CallR X (.builtin "repr") (fun vs H Q => ∃ v p, vs = [v] ∧ Dp X.K H v p ∧ shownOk p = true ∧ Q (.str p.shown) H) := by
  intro pins s σ H vs us Q I r h
  obtain ⟨v, p, rfl, hd, hs, q⟩ := h
  simp only [shownOk, Bool.and_eq_true, Bool.not_eq_true', decide_eq_true_eq] at hs
  obtain ⟨⟨⟨h1, h2⟩, h3⟩, h4⟩ := hs
  cases r with
  | @cons _ u _ _ r rr =>
    cases rr
    have fin : ∀ (h' : Heap) (uu tk : Tok), (∀ b o, s.heap.get? b = some o → h'.get? b = some o) → EP X pins σ Q (.str p.shown uu) { s with heap := h', toks := tk } := fun h' uu tk k => ⟨.str p.shown, H, I.kept (t' := tk) k, ⟨uu, rfl⟩, q⟩
    obtain ⟨as, rd⟩ := Dp.reads I p v u hd r
    cases hd with
    | non => cases r; exact PySem.P.repr_of_none (fin s.heap _ _ fun _ _ e => e)
    | bl b => cases r; exact PySem.P.repr_of_bool (fin s.heap _ _ fun _ _ e => e)
    | int i =>
      obtain ⟨t, rfl⟩ := r
      simp only [PyData.showable, decide_eq_true_eq] at h1
      exact PySem.P.repr_of_int h1 (fin s.heap _ _ fun _ _ e => e)
    | str x =>
      obtain ⟨t, rfl⟩ := r
      exact PySem.P.repr_of_str (fin s.heap _ _ fun _ _ e => e) (by simpa [PyData.shown] using h4)
    | @lst a xs ds hq ha =>
      obtain rfl : u = Value.ref a := r
      exact repr_of_reads' rd h1 (fun e => by rw [h2] at e; cases e) hG (by omega) (fun _ _ e => e) (fun h' uu tk k => fin h' uu tk k) h4
    | @tup a xs ds hq ha =>
      obtain rfl : u = Value.ref a := r
      exact repr_of_reads' rd h1 (fun e => by rw [h2] at e; cases e) hG (by omega) (fun _ _ e => e) (fun h' uu tk k => fin h' uu tk k) h4
def gRepr : Gb := fun ds st => match ds with
  | [d] => (match pdR st d with
    | some p => if shownOk p = true then .ok (.str p.shown) st else .stuck
    | none => .stuck)
  | _ => .stuck
theorem gRepr_ok (hK : T.K = X.K) (hG : X.A.guards = some []) (hu : X.A.units + 64 < cLine) : CbD T X W (.builtin "repr") gRepr := CbD.of (call_repr hG hu) fun w st H ds vs Q E hs rv hp => by
  unfold gRepr at hp
  split at hp
  · obtain ⟨v, rfl, r⟩ := rv.one
    split at hp
    · rename_i p hpd
      split at hp
      · rename_i hz
        exact ⟨v, p, rfl, dp_at hK hs r hpd, hz, post_same hs (.str _) hp⟩
      · exact hp.elim
    · exact hp.elim
  · exact hp.elim
end
/-! ### several clauses, with names or without -/
structure Clz where
  c : Value
  nm : Option Nat
  ts : Addr → Value → Option Addr → TS
def goneEnds (i : Nat) (D : Ends) : Ends := { nx := fun σ H => D.nx (σ.set i none) H, rt := D.rt, bk := fun σ H => D.bk (σ.set i none) H, ct := fun σ H => D.ct (σ.set i none) H }
def wClz (K : PySem.W.Frag) (Wo : WX) (D : Ends) : List Clz → WX
  | [] => Wo
  | ⟨c, none, ts⟩ :: r => fun cls d σ H => ∃ b, PySem.W.exmOne K cls c = some b ∧ (b = true → ∀ a, H a = none → ts a cls d D σ H) ∧ (b = false → wClz K Wo D r cls d σ H)
  | ⟨c, some i, ts⟩ :: r => fun cls d σ H => ∃ b, PySem.W.exmOne K cls c = some b ∧ (b = true → ∀ a, H a = none → ts a cls d (goneEnds i D) (σ.set i (some (.ref a))) H) ∧ (b = false → wClz K Wo D r cls d σ H)
def SuiteOk (X : Cx) (su : List Stmt) (ts : Addr → Value → Option Addr → TS) : Prop := ∀ (a : Addr) (oe : Obj) (cls : Value) (d : Option Addr) (pn : List (Addr × Obj)), Zc cls d oe → (∃ vs, oe.data = .fields vs) → PSs (X.suite a ((a, oe) :: pn)) su (ts a cls d)
inductive ClzOk (X : Cx) : List ExceptHandler → List Clz → Prop
  | nil : ClzOk X [] []
  | bare {x : Str} {c : Value} {ts : Addr → Value → Option Addr → TS} {b₀ : Stmt} {su : List Stmt} {np pos' : Pos} {hds : List ExceptHandler} {l : List Clz} (hc : Names X x c) (hsu : SuiteOk X (b₀ :: su) ts) (r : ClzOk X hds l) :
      ClzOk X (.ExceptHandler (some (.Name x np)) none (b₀ :: su) pos' :: hds) (⟨c, none, ts⟩ :: l)
  | named {x n : Str} {i : Nat} {c : Value} {ts : Addr → Value → Option Addr → TS} {b₀ : Stmt} {su : List Stmt} {np pos' : Pos} {hds : List ExceptHandler} {l : List Clz} (hc : Names X x c) (hi : X.N[i]? = some n) (hl : X.env.kindOf n = some .local) (hsu : SuiteOk X (b₀ :: su) ts)
      (r : ClzOk X hds l) : ClzOk X (.ExceptHandler (some (.Name x np)) (some n) (b₀ :: su) pos' :: hds) (⟨c, some i, ts⟩ :: l)
section
variable {X : Cx} {body : List Stmt} {h₀ : ExceptHandler} {hds : List ExceptHandler} {l : List Clz} {pos : Pos} {tb : WX → TS} {Wo : WX}
theorem ps_try_clz (hst : X.stack = X.env :: X.outer) (hfr0 : X.env.frame = some X.env.locals) (hN : X.N.Nodup) (tk : Takes X Wo)
    (hb : ∀ (W : WX) (pn : List (Addr × Obj)) (xe : Value → Shared → Prop), Takes (X.tr pn xe) W → PassesOwn (model X.prog X.w) X.A X.env xe → PSs (X.tr pn xe) body (tb W)) (hh : ClzOk X (h₀ :: hds) l) :
    PS X (.Try body (h₀ :: hds) [] [] pos) (fun D σ H => tb (wClz X.K Wo D l) D σ H) := by
  refine ⟨fun pins s σ H D I hw => ?_⟩
  have okX := I.ok
  have fr2 : X.A.frames = some (X.env :: X.outer) := by rw [okX.frames, hst]
  refine wpAny_Try_except (wpAny_mono ((hb (wClz X.K Wo D l) (X.pn ++ pins) (fun e s₁ => wpAny (model X.prog X.w) X.A (noteFrame e X.env) (fun _ s₂ => wpAny (model X.prog X.w) X.A (setFlight e none) (fun _ s₃ =>
    wpAny (model X.prog X.w) X.A (handleBy e X.env (h₀ :: hds)) (SP X pins D) X.xe s₃) X.xe s₂) X.xe s₁) (fun u s' xx => ?_) PassesOwn.looking).run [] s σ H D (I.toTry _) hw) (fun fl s1 hsp => ?_) (fun _ _ z => z))
  · obtain ⟨a, B, sI, pins', τ, G, cls, d, rfl, J', nb, up, sky, na, os, ag, wish⟩ := xx
    have J : Inv X pins τ G sI := J'.ofTry okX
    show wpAny (model X.prog X.w) X.A (noteFrame (.ref a) X.env) _ _ _
    refine Sky.land Zc.steady fr2 hfr0 (by rw [← hst]; exact sky) fun g3 fl3 up3 => ?_
    have J3 : Inv X pins τ G { s' with heap := g3 } := J.landed nb fl3.1 (up.trans up3) os ag
    obtain ⟨oe3, vs3, he3, hz3, hd3⟩ := fl3.there
    have out : a ∉ frs (X.env :: X.outer) := fun hm => by
      obtain ⟨_, o', e', hnf⟩ := fl3.2.2.1.mem hm
      rw [he3] at e'
      cases e'
      exact hnf _ hd3
    have nL : a ≠ X.env.locals := fun z => out (List.mem_filterMap.mpr ⟨X.env, List.mem_cons_self, by rw [hfr0, z]⟩)
    have nF : a ∉ X.fs := fun hm => by
      obtain ⟨e, he, q⟩ := List.mem_filterMap.mp hm
      exact out (List.mem_filterMap.mpr ⟨e, List.mem_cons_of_mem _ he, q⟩)
    have S3 := J3.suite he3 hd3 na nL nF
    have LT : PySem.W.Looks (model X.prog X.w) g3 (typeOf (.ref a)) cls := fun _ _ _ _ k q => wpAny_typeOf_ref (k _ _ he3) (by rw [hz3.1]; exact q)
    have test : ∀ {x : Str} {c : Value} {np : Pos} {Q : Value → Shared → Prop} {E : Value → Shared → Prop}, Names X x c → Q c { s' with heap := g3 } → wpAny (model X.prog X.w) (X.A.mark (some (.ref a))) (eval (.Name x np) X.env) Q E { s' with heap := g3 } := fun {x c np Q E} hc q => by
      obtain ⟨hg, hdbg, hm | ⟨hm, hv, hnn⟩⟩ := hc
      · exact ld_glob (X := X.suite a ((a, oe3) :: (X.pn ++ pins))) S3 hg hm q hdbg
      · exact ld_blt (X := X.suite a ((a, oe3) :: (X.pn ++ pins))) S3 hg hm hv q hnn hdbg
    have all : ∀ {ha : List ExceptHandler} {la : List Clz}, ClzOk X ha la → wClz X.K Wo D la cls d τ G → wpAny (model X.prog X.w) X.A (handleBy (.ref a) X.env ha) (SP X pins D) X.xe { s' with heap := g3 } := by
      intro ha la hk
      induction hk with
      | nil =>
        intro wi
        refine wpAny_handleBy_nil ?_
        obtain ⟨_, _, _, oe, vs, TT, oT, ts', he, hz, hd, h1, hr⟩ := id fl3
        unfold PySem.passOn
        refine wpAny_bind (wpAny_field he hd h1 ?_)
        rw [if_neg (show ¬ ((Value.ref TT == Value.none) = true) from by simp)]
        have on : wpAny (model X.prog X.w) X.A (setFlight (.ref a) X.env.frame) (fun _ s4 => wpAny (model X.prog X.w) X.A (throw (.ref a) : Sem Flow) (SP X pins D) X.xe s4) X.xe { s' with heap := g3 } := by
          rw [hfr0]
          exact HandSPX.setFlight_upZ fl3 fun g4 hh4 up4 => wpAny_throw (tk _ _ ⟨a, B, sI, pins, τ, G, cls, d, rfl, J, nb, (up.trans up3).trans up4, .inr (.inr (by rw [hst]; exact hh4)), na, os, ag, wi⟩)
        first
          | exact wpAny_bind (wpAny_pure (wpAny_bind on))
          | exact wpAny_bind on
      | @bare x c ts b₀ su np pos' hd2 l2 hc hsu r ih =>
        intro wi
        obtain ⟨b, hb1, hyes, hno⟩ := wi
        refine wpAny_handleBy_cons (codeAny_handlers_test (test hc ((PySem.W.exm_one (M := model X.prog X.w) J3.kIn LT hb1).here ?_))) (by intro q; cases q)
        cases b with
        | false => exact ih (hno rfl)
        | true =>
          refine codeAny_handlers_suite (HandSPX.lands_againZ fl3 fun g4 fl4 up4 => ?_)
          have J4 : Inv X pins τ G { s' with heap := g4 } := J.landed nb fl4.1 ((up.trans up3).trans up4) os ag
          obtain ⟨oe4, vs4, he4, hz4, hd4⟩ := fl4.there
          refine wpAny_mono ((hsu a oe4 cls d (X.pn ++ pins) hz4 ⟨_, hd4⟩).run [] _ _ G _ (J4.suite he4 hd4 na nL nF) (hyes rfl a na)) (fun fl s6 hq => ?_) (fun _ _ z => z.elim)
          rcases fl with _ | _ | _ | u
          all_goals first
            | (obtain ⟨v6, σ6, H6, S6, r6, q6⟩ := hq; exact ⟨_, _, _, S6.unsuite okX, r6, q6⟩)
            | (obtain ⟨σ6, H6, S6, q6⟩ := hq; exact ⟨_, _, S6.unsuite okX, q6⟩)
      | @named x n i c ts b₀ su np pos' hd2 l2 hc hi hl hsu r ih =>
        intro wi
        obtain ⟨b, hb1, hyes, hno⟩ := wi
        refine wpAny_handleBy_cons (codeAny_handlers_test (test hc ((PySem.W.exm_one (M := model X.prog X.w) J3.kIn LT hb1).here ?_))) (by intro q; cases q)
        cases b with
        | false => exact ih (hno rfl)
        | true =>
          refine codeAny_handlers_suite_as (HandSPX.lands_againZ fl3 fun g4 fl4 up4 => ?_)
          have J4 : Inv X pins τ G { s' with heap := g4 } := J.landed nb fl4.1 ((up.trans up3).trans up4) os ag
          obtain ⟨oe4, vs4, he4, hz4, hd4⟩ := fl4.there
          refine store_ok (X := X.suite a ((a, oe4) :: (X.pn ++ pins))) (v := .ref a) (J4.suite he4 hd4 na nL nF) hN hi (.inl hl) rfl (fun s5 S5 => ?_) (.inr hl)
          refine wpAny_mono ((hsu a oe4 cls d (X.pn ++ pins) hz4 ⟨_, hd4⟩).run [] s5 _ G _ S5 (hyes rfl a na)) (fun fl s6 hq => ?_) (fun _ _ z => z.elim)
          have gone : ∀ {σ6 : L2.St} {H6 : Hp} {Q : Shared → Prop}, Inv (X.suite a ((a, oe4) :: (X.pn ++ pins))) [] σ6 H6 s6 → (∀ s7, Inv X pins (σ6.set i none) H6 s7 → Q s7) →
              wpAny (model X.prog X.w) X.A (do bindName X.env n .none; unbindBehindTheSuite X.env n pos') (fun _ s7 => Q s7) X.xe s6 := fun {σ6 H6 Q} S6 hQ => gone_ok (S6.unsuite okX) hN hi hl hQ
          rcases fl with _ | _ | _ | u
          all_goals first
            | (obtain ⟨v6, σ6, H6, S6, r6, q6⟩ := hq; exact gone S6 fun s7 J7 => ⟨_, _, _, J7, r6, q6⟩)
            | (obtain ⟨σ6, H6, S6, q6⟩ := hq; exact gone S6 fun s7 J7 => ⟨_, _, J7, q6⟩)
    exact all hh wish
  · rcases fl with _ | _ | _ | u
    all_goals first
      | (obtain ⟨v, τ, G, J', r, q⟩ := hsp; exact ⟨v, τ, G, J'.ofTry okX, r, q⟩)
      | (obtain ⟨τ, G, J', q⟩ := hsp; exact wpAny_execs_nil ⟨τ, G, J'.ofTry okX, q⟩)
      | (obtain ⟨τ, G, J', q⟩ := hsp; exact ⟨τ, G, J'.ofTry okX, q⟩)
end
end Ev
set_option Elab.async false
set_option linter.all false
set_option maxRecDepth 100000
set_option maxHeartbeats 2000000
namespace Ev
open PySem PySem.Spec L2
/-! ### what a clause gives back: constants, fields of the exception, their repr, tuples of these -/
inductive Hx where
  | k (d : D) | fl (f : Nat) | rp (f : Nat) | tp (es : List Hx)
mutual
def hxV (fs : List (Nat × D)) : Hx → Option D
  | .k d => some d
  | .fl f => getF f fs
  | .rp f => match getF f fs with
    | some d => (match pd d with
      | some p => if shownOk p = true then some (.str p.shown) else none
      | none => none)
    | none => none
  | .tp es => match hxVs fs es with
    | some ds => if ds.length ≤ sizeLine then some (.tup ds) else none
    | none => none
def hxVs (fs : List (Nat × D)) : List Hx → Option (List D)
  | [] => some []
  | h :: r => match hxV fs h, hxVs fs r with
    | some d, some ds => some (d :: ds)
    | _, _ => none
end
/-- a clause: its class, the name's slot, what it gives back -/
structure Hc where
  k : Nat
  nm : Option Nat
  hx : Hx
def nmOk (nm : Option Nat) (c k n : Nat) : Bool := match nm with
  | none => true
  | some j => decide (c = k) && decide (j < n)
def hGo (xm : Nat → Nat → Option Bool) (c : Nat) (fs : List (Nat × D)) (env : Env) (st : Store) : List Hc → Os
  | [] => .exc c fs env st
  | h :: r => match xm c h.k with
    | some true => if nmOk h.nm c h.k env.length = true then (match hxV fs h.hx with
      | some d => .rt d st
      | none => .stuck) else .stuck
    | some false => hGo xm c fs env st r
    | none => .stuck
def sTry (xm : Nat → Nat → Option Bool) (b : Fs) (hs : List Hc) : Fs := fun env st => match b env st with
  | .exc c fs env1 st1 => hGo xm c fs env1 st1 hs
  | o => o
section
variable {T : Tb} {X : Cx} {W : WX}
def tHx (T : Tb) (a : Addr) (i : Option Nat) (cls : Value) (d : Option Addr) (k : Nat) (h : Hx) : TE := fun σ H Q => ∃ w st c fs r, StOk T w st H ∧ (∀ j, i = some j → σ[j]? = some (some (.ref a)) ∧ c = k) ∧ ExOk T w c fs cls d ∧ hxV fs h = some r ∧ ∀ u H' v, Le w u → StOk T u st H' → Rp T u.F r v → Q v H'
def tHxs (T : Tb) (a : Addr) (i : Option Nat) (cls : Value) (d : Option Addr) (k : Nat) (h : List Hx) : TA := fun σ H Q => ∃ w st c fs r, StOk T w st H ∧ (∀ j, i = some j → σ[j]? = some (some (.ref a)) ∧ c = k) ∧ ExOk T w c fs cls d ∧ hxVs fs h = some r ∧ ∀ u H' v, Le w u → StOk T u st H' → Rps T u.F r v → Q v H'
structure HxP (T : Tb) (X : Cx) (i : Option Nat) (k : Nat) (e : Expr) (h : Hx) : Prop where
  run : ∀ (a : Addr) (oe : Obj) (cls : Value) (d : Option Addr) (pn : List (Addr × Obj)), Zc cls d oe → (∃ vs, oe.data = .fields vs) → PE (X.suite a ((a, oe) :: pn)) e (tHx T a i cls d k h)
structure HxsP (T : Tb) (X : Cx) (i : Option Nat) (k : Nat) (es : List Expr) (hs : List Hx) : Prop where
  run : ∀ (a : Addr) (oe : Obj) (cls : Value) (d : Option Addr) (pn : List (Addr × Obj)), Zc cls d oe → (∃ vs, oe.data = .fields vs) → PA (X.suite a ((a, oe) :: pn)) es (tHxs T a i cls d k hs)
theorem ExOk.up {w u : Wd} (l : Le w u) {c : Nat} {fs : List (Nat × D)} {cls : Value} {d : Option Addr} (h : ExOk T w c fs cls d) : ExOk T u c fs cls d := by
  obtain ⟨C, dd, fvs, h1, h2, h3, h4, h5⟩ := h
  exact ⟨C, dd, fvs, h1, h2, h3, l.F _ _ h4, h5.up l.F⟩
theorem hx_k {i : Option Nat} {k : Nat} {e : Expr} {v : V} {d : D} (h : ∀ X : Cx, PE X e (tC v)) (r : ∀ F, Rp T F d v) : HxP T X i k e (.k d) := ⟨fun a oe cls dd pn hz hf => PE.imp (h _) fun σ H Q ⟨w, st, c, fs, r0, hs, hi, hx, e1, q⟩ => by
  simp only [hxV] at e1
  cases e1
  exact q w H v (Le.rfl' _) hs (r _)⟩
/-- the exceptions' fields may be read -/
structure XfOk (T : Tb) (K : PySem.W.Frag) (exf : Nat → Option (List Nat)) : Prop where
  ok : ∀ k fl C, exf k = some fl → T.cls k = some C → XfC K C ∧ ∀ f ∈ fl, ∀ x, T.att f = some x → PySem.W.findIn K (.ref C) x = some none
theorem hx_fld {ao : Nat → Nat → Bool} {exf : Nat → Option (List Nat)} (A : AttOk T ao) (J : XfOk T X.K exf) {i k f : Nat} {fl : List Nat} {C : Addr} {n x : Str} {p pos : Pos} (hk : exf k = some fl) (hf : f ∈ fl) (hC : T.cls k = some C) (hx : T.att f = some x) (hi : X.N[i]? = some n) (hv : Vis X.env.scope n)
    (hd : (n == ("__debug__" : Str)) = false) (hcd : (n == ("__classdict__" : Str)) = false) : HxP T X (some i) k (.Attribute (.Name n p) x pos) (.fl f) := by
  obtain ⟨xf, nf⟩ := J.ok k fl C hk hC
  refine ⟨fun a oe cls d pn hz ho => PE.imp (pe_xf xf (nf f hf x hx) hz ho (pe_var (X := X.suite a ((a, oe) :: pn)) hi hv hd hcd) rfl) fun σ H Q ⟨w, st, c, fs, r0, hs, hj, hE, e1, q⟩ => ?_⟩
  obtain ⟨h1, rfl⟩ := hj i rfl
  obtain ⟨C', dd, fvs, g1, g2, g3, g4, g5⟩ := hE
  rw [hC] at g1
  cases g1
  simp only [hxV] at e1
  obtain ⟨v, g6, g7⟩ := rpf_get A hx g5 e1
  exact ⟨.ref a, h1, rfl, g2, dd, fvs, v, g3, hs.sub _ _ g4, g6, q w H v (Le.rfl' _) hs g7⟩
theorem hx_rpr {ao : Nat → Nat → Bool} {exf : Nat → Option (List Nat)} (A : AttOk T ao) (J : XfOk T X.K exf) (hK : T.K = X.K) (hG : X.A.guards = some []) (hu : X.A.units + 64 < cLine) {i k f : Nat} {fl : List Nat} {C : Addr} {n x : Str} {p p2 p3 pos : Pos} (hgr : Gl X "repr") (hmr : X.mg "repr" = none) (hk : exf k = some fl) (hf : f ∈ fl) (hC : T.cls k = some C) (hx : T.att f = some x)
    (hi : X.N[i]? = some n) (hv : Vis X.env.scope n) (hd : (n == ("__debug__" : Str)) = false) (hcd : (n == ("__classdict__" : Str)) = false) : HxP T X (some i) k (.Call (.Name "repr" p2) [.Attribute (.Name n p) x p3] [] pos) (.rp f) := by
  obtain ⟨xf, nf⟩ := J.ok k fl C hk hC
  refine ⟨fun a oe cls d pn hz ho => PE.imp (pe_callB (X := X.suite a ((a, oe) :: pn)) (call_repr hG hu) hgr hmr PyProof.Rows.Boot.«repr» (pa_cons (pe_xf xf (nf f hf x hx) hz ho (pe_var (X := X.suite a ((a, oe) :: pn)) hi hv hd hcd) rfl) pa_nil rfl) (by decide) (by decide) rfl rfl) fun σ H Q ⟨w, st, c, fs, r0, hs, hj, hE, e1, q⟩ => ?_⟩
  obtain ⟨h1, rfl⟩ := hj i rfl
  obtain ⟨C', dd, fvs, g1, g2, g3, g4, g5⟩ := hE
  rw [hC] at g1
  cases g1
  simp only [hxV] at e1
  split at e1
  · rename_i y hy
    split at e1
    · rename_i pp hp
      split at e1
      · rename_i hsh
        cases e1
        obtain ⟨v, g6, g7⟩ := rpf_get A hx g5 hy
        exact ⟨.ref a, h1, rfl, g2, dd, fvs, v, g3, hs.sub _ _ g4, g6, v, pp, rfl, dp_of (K := X.K) hK hs.sub g7 hp, hsh, q w H _ (Le.rfl' _) hs (.str _)⟩
      · cases e1
    · cases e1
  · cases e1
theorem hxs_nil {i : Option Nat} {k : Nat} : HxsP T X i k [] [] := ⟨fun a oe cls d pn _ _ => PA.imp pa_nil fun σ H Q ⟨w, st, c, fs, r0, hs, hj, hE, e1, q⟩ => by
  simp only [hxVs] at e1
  cases e1
  exact q w H [] (Le.rfl' _) hs .nil⟩
theorem hxs_cons {i : Option Nat} {k : Nat} {e : Expr} {es : List Expr} {h : Hx} {r : List Hx} (h1 : HxP T X i k e h) (h2 : HxsP T X i k es r) (hst : ∀ env : PySem.Env, starEach (e :: es) env = (false, eval e env) :: starEach es env) : HxsP T X i k (e :: es) (h :: r) := by
  refine ⟨fun a oe cls d pn hz ho => PA.imp (pa_cons (h1.run a oe cls d pn hz ho) (h2.run a oe cls d pn hz ho) (hst _)) fun σ H Q ⟨w, st, c, fs, r0, hs, hj, hE, e1, q⟩ => ?_⟩
  simp only [hxVs] at e1
  cases q1 : hxV fs h with
  | none => simp only [q1] at e1; cases e1
  | some d1 =>
    cases q2 : hxVs fs r with
    | none => simp only [q1, q2] at e1; cases e1
    | some ds =>
      simp only [q1, q2] at e1
      cases e1
      exact ⟨w, st, c, fs, d1, hs, hj, hE, q1, fun u H' v l s rv => ⟨u, st, c, fs, ds, s, hj, hE.up l, q2, fun u2 H2 vs l2 s2 rvs => q u2 H2 _ (l.tr l2) s2 (.cons (rv.up l2.F) rvs)⟩⟩
theorem hx_tp {i : Option Nat} {k : Nat} {es : List Expr} {hs : List Hx} {k0 : Nat} {pos : Pos} (h : HxsP T X i k es hs) : HxP T X i k (.Tuple es k0 pos) (.tp hs) := by
  refine ⟨fun a oe cls d pn hz ho => PE.imp (pe_tup (h.run a oe cls d pn hz ho)) fun σ H Q ⟨w, st, c, fs, r0, hs, hj, hE, e1, q⟩ => ?_⟩
  simp only [hxV] at e1
  split at e1
  · rename_i ds hds
    split at e1
    · rename_i hz
      cases e1
      refine ⟨w, st, c, fs, ds, hs, hj, hE, hds, fun u H' vs l s rv => ⟨by rw [← rv.len]; exact hz, fun p n => ?_⟩⟩
      have l2 : Le u (u.frz p (.tup vs)) := Le.frz s n
      exact q _ _ _ (l.tr l2) (s.newF n) (.tup (SqT.of upd_same) (rv.up l2.F))
    · cases e1
  · cases e1
/-- the clauses' text and what is known of it -/
structure XmOk (T : Tb) (K : PySem.W.Frag) (xm : Nat → Nat → Option Bool) : Prop where
  ok : ∀ c k b C C', xm c k = some b → T.cls c = some C → T.cls k = some C' → PySem.W.exmOne K (.ref C) (.ref C') = some b
inductive HcsOk (T : Tb) (X : Cx) : List ExceptHandler → List Hc → Prop
  | nil : HcsOk T X [] []
  | bare {x : Str} {k : Nat} {C : Addr} {e : Expr} {h : Hx} {np p1 p2 : Pos} {hds : List ExceptHandler} {hs : List Hc} (hC : T.cls k = some C) (hn : Names X x (.ref C)) (hx : HxP T X none k e h) (r : HcsOk T X hds hs) :
      HcsOk T X (.ExceptHandler (some (.Name x np)) none [.Return (some e) p1] p2 :: hds) (⟨k, none, h⟩ :: hs)
  | named {x n : Str} {k i : Nat} {C : Addr} {e : Expr} {h : Hx} {np p1 p2 : Pos} {hds : List ExceptHandler} {hs : List Hc} (hC : T.cls k = some C) (hn : Names X x (.ref C)) (hi : X.N[i]? = some n) (hl : X.env.kindOf n = some .local) (hx : HxP T X (some i) k e h) (r : HcsOk T X hds hs) :
      HcsOk T X (.ExceptHandler (some (.Name x np)) (some n) [.Return (some e) p1] p2 :: hds) (⟨k, some i, h⟩ :: hs)
theorem clz_of {xm : Nat → Nat → Option Bool} (J : XmOk T X.K xm) : ∀ {hds : List ExceptHandler} {hs : List Hc}, HcsOk T X hds hs → ∃ l, ClzOk X hds l ∧ ∀ (w : Wd) (Dn : Ends) (c : Nat) (fs : List (Nat × D)) (env : Env) (st : Store), PostS T w Dn W (hGo xm c fs env st hs) →
    ∀ u σ H cls d, Le w u → StOk T u st H → EnvOk T u env σ → ExOk T u c fs cls d → wClz X.K W Dn l cls d σ H := by
  intro hds hs h
  induction h with
  | nil => exact ⟨[], .nil, fun w Dn c fs env st hp u σ H cls d l s e x => hp u σ H cls d l s e x⟩
  | @bare x k C e h np p1 p2 hds hs hC hn hx r ih =>
    obtain ⟨l, g1, g2⟩ := ih
    refine ⟨⟨.ref C, none, fun a cls d => fun Dn σ H => tHx T a none cls d k h σ H Dn.rt⟩ :: l, .bare hn (fun a oe cls d pn hz ho => pss_one (ps_ret (hx.run a oe cls d pn hz ho))) g1, fun w Dn c fs env st hp u σ H cls d lw s e x => ?_⟩
    obtain ⟨C', dd, fvs, y1, y2, y3, y4, y5⟩ := id x
    simp only [hGo] at hp
    cases hm : xm c k with
    | none => simp only [hm] at hp; exact hp.elim
    | some b =>
      have hb := J.ok c k b C' C hm y1 hC
      refine ⟨b, by rw [y2]; exact hb, fun eb a ha => ?_, fun eb => ?_⟩
      · subst eb
        simp only [hm] at hp
        rw [if_pos (show nmOk none c k env.length = true from rfl)] at hp
        cases hv : hxV fs h with
        | none => simp only [hv] at hp; exact hp.elim
        | some r0 =>
          simp only [hv] at hp
          exact ⟨u, st, c, fs, r0, s, (fun j z => by cases z), x, hv, fun u2 H2 v l2 s2 rv => hp u2 H2 v (lw.tr l2) s2 (.d rv)⟩
      · subst eb
        simp only [hm] at hp
        exact g2 w Dn c fs env st hp u σ H cls d lw s e x
  | @named x n k i C e h np p1 p2 hds hs hC hn hi hl hx r ih =>
    obtain ⟨l, g1, g2⟩ := ih
    refine ⟨⟨.ref C, some i, fun a cls d => fun Dn σ H => tHx T a (some i) cls d k h σ H Dn.rt⟩ :: l, .named hn hi hl (fun a oe cls d pn hz ho => pss_one (ps_ret (hx.run a oe cls d pn hz ho))) g1, fun w Dn c fs env st hp u σ H cls d lw s e x => ?_⟩
    obtain ⟨C', dd, fvs, y1, y2, y3, y4, y5⟩ := id x
    simp only [hGo] at hp
    cases hm : xm c k with
    | none => simp only [hm] at hp; exact hp.elim
    | some b =>
      have hb := J.ok c k b C' C hm y1 hC
      refine ⟨b, by rw [y2]; exact hb, fun eb a ha => ?_, fun eb => ?_⟩
      · subst eb
        simp only [hm] at hp
        split at hp
        · rename_i hck
          simp only [nmOk, Bool.and_eq_true, decide_eq_true_eq] at hck
          cases hv : hxV fs h with
          | none => simp only [hv] at hp; exact hp.elim
          | some r0 =>
            simp only [hv] at hp
            refine ⟨u, st, c, fs, r0, s, fun j z => ?_, x, hv, fun u2 H2 v l2 s2 rv => hp u2 H2 v (lw.tr l2) s2 (.d rv)⟩
            cases z
            exact ⟨List.getElem?_set_self (by rw [← e.len]; exact hck.2), hck.1⟩
        · exact hp.elim
      · subst eb
        simp only [hm] at hp
        exact g2 w Dn c fs env st hp u σ H cls d lw s e x
theorem ds_try {xm : Nat → Nat → Option Bool} {body : List Stmt} {h0 : ExceptHandler} {hds : List ExceptHandler} {hs : List Hc} {fb : Fs} {pos : Pos} (J : XmOk T X.K xm) (hst : X.stack = X.env :: X.outer) (hf0 : X.env.frame = some X.env.locals) (hN : X.N.Nodup) (tk : Takes X W)
    (hb : ∀ (W' : WX) (pn : List (Addr × Obj)) (xe : Value → Shared → Prop), Takes (X.tr pn xe) W' → PassesOwn (model X.prog X.w) X.A X.env xe → PSs (X.tr pn xe) body (tS T fb W')) (hh : HcsOk T X (h0 :: hds) hs) :
    PS X (.Try body (h0 :: hds) [] [] pos) (tS T (sTry xm fb hs) W) := by
  obtain ⟨l, g1, g2⟩ := clz_of (W := W) J hh
  refine PS.imp (ps_try_clz (tb := fun W' => tS T fb W') hst hf0 hN tk hb g1) fun Dn σ H ⟨w, env, st, hs1, he, hp⟩ => ⟨w, env, st, hs1, he, ?_⟩
  unfold sTry at hp
  cases q : fb env st with
  | exc c fs env1 st1 =>
    rw [q] at hp
    exact fun u σ1 H1 cls d lw s e x => g2 w Dn c fs env1 st1 hp u σ1 H1 cls d lw s e x
  | nx _ _ => rw [q] at hp; exact hp
  | rt _ _ => rw [q] at hp; exact hp
  | bk _ _ => rw [q] at hp; exact hp
  | ct _ _ => rw [q] at hp; exact hp
  | stuck => rw [q] at hp; exact hp
end
end Ev
set_option Elab.async false
set_option linter.all false
set_option maxRecDepth 100000
set_option maxHeartbeats 2000000
namespace Ev
open PySem PySem.Spec L2
/-! ### a lambda is made -/
/-- the function of a lambda, its defaults at dV -/
abbrev lmFn (qual : Str) (params : Arguments) (body : Expr) (scope : Scope) (cl : List (Str × Addr)) (dV pm cdv ct : Value) : FuncData :=
  { name := "<lambda>", qualname := qual, params, body := .expr body, scope, globals := mainGlobals, closure := cl, defaults := dV, kwdefaults := .none, doc := .none, pyModule := pm, annotations := none, code := cdv, closureTuple := ct, builtins := builtinsNs }
abbrev lmObj (qual : Str) (params : Arguments) (body : Expr) (scope : Scope) (cl : List (Str × Addr)) (dV pm cdv ct : Value) : Obj := { cls := .type "function", data := .func (lmFn qual params body scope cl dV pm cdv ct) }
section
open PySem.W PySem.Calls PyProof.Rows
variable {M : Model} {A : Around} {E : Value → Shared → Prop} {s : Shared} {qual : Str} {params : Arguments} {body : Expr} {scope : Scope} {env : PySem.Env} {pos : Pos} {fl : Nat} {mg : Str → Option Value} {clos : List (Str × Addr)} {Q : Value → Shared → Prop} {dV : Value}
/-- what stands of the code object told by the making: the globals, the builtins -/
def CodeMade (mg : Str → Option Value) (h : Heap) : Prop := h.Ns mainGlobals mg ∧ ∃ P, h.BuiltinsAt mg P
theorem lm_tail (hcl : closureFor scope env = pure clos) (hge0 : env.globals = mainGlobals)
    (hc : ∀ s1 : Shared, (∀ b o, s.heap.get? b = some o → s1.heap.get? b = some o) → s.heap.objs.size ≤ s1.heap.objs.size → s1.os = s.os → s1.gens = s.gens → s1.drawn = s.drawn → wpAny M A (functionCode env pos fl "<lambda>" qual params scope (.expr body))
      (fun cdv s2 => CodeMade mg s2.heap ∧ ∀ ctv : Value, Q (.ref s2.heap.objs.size) { s2 with heap := s2.heap.push (lmObj qual params body scope clos dV ((mg "__name__").getD .none) cdv ctv) }) E s1) :
    wpAny M A (makeTail "<lambda>" qual params (.expr body) scope env dV .none none pos fl) Q E s := by
  unfold makeTail
  rw [hcl, hge0]
  refine wpAny_bind (wpAny_pure ?_)
  have fin : ∀ (ctv : Value) (s1 : Shared), (∀ b o, s.heap.get? b = some o → s1.heap.get? b = some o) → s.heap.objs.size ≤ s1.heap.objs.size → s1.os = s.os → s1.gens = s.gens → s1.drawn = s.drawn →
      wpAny M A (functionCode env pos fl "<lambda>" qual params scope (.expr body)) (fun cdv s2 => wpAny M A (builtinsFor mainGlobals env.builtins) (fun bl s3 => wpAny M A (nsGet mainGlobals "__name__") (fun nm s4 => bl = builtinsNs ∧ s4 = s2 ∧ nm = mg "__name__" ∧
        Q (.ref s2.heap.objs.size) { s2 with heap := s2.heap.push (lmObj qual params body scope clos dV ((mg "__name__").getD .none) cdv ctv) }) E s3) E s2) E s1 := fun ctv s1 k z e1 e2 e3 => by
    refine wpAny_mono (hc s1 k z e1 e2 e3) (fun cdv s2 h2 => ?_) fun _ _ y => y
    obtain ⟨⟨hg, P, bm, ob, hbm, hne0, _, hneP, hbo, hcls, hdict, hdata⟩, hq⟩ := h2
    exact wpAny_builtinsFor hg hbm hne0 hbo hcls hdict hdata (wpAny_nsGet hg ⟨rfl, rfl, rfl, hq ctv⟩)
  cases clos with
  | nil =>
    simp only [List.isEmpty_nil, if_true]
    refine wpAny_bind (wpAny_pure (wpAny_bind (wpAny_mono (fin .none s (fun _ _ y => y) (Nat.le_refl _) rfl rfl rfl) (fun cdv s2 h2 => ?_) fun _ _ y => y)))
    refine wpAny_bind (wpAny_mono h2 (fun bl s3 h3 => ?_) fun _ _ y => y)
    refine wpAny_bind (wpAny_mono h3 (fun nm s4 h4 => ?_) fun _ _ y => y)
    obtain ⟨rfl, rfl, rfl, hq⟩ := h4
    exact wpAny_bind (wpAny_pure (wpAny_newObj_type hq (by size_fits)))
  | cons q r =>
    simp only [List.isEmpty_cons, Bool.false_eq_true, if_false]
    refine wpAny_bind (wpAny_newTextTuple (wpAny_bind (wpAny_mono (fin (.ref s.heap.objs.size) _ (fun b o y => Heap.get?_push_of_some _ y) (by rw [Heap.size_push]; omega) rfl rfl rfl) (fun cdv s2 h2 => ?_) fun _ _ y => y)))
    refine wpAny_bind (wpAny_mono h2 (fun bl s3 h3 => ?_) fun _ _ y => y)
    refine wpAny_bind (wpAny_mono h3 (fun nm s4 h4 => ?_) fun _ _ y => y)
    obtain ⟨rfl, rfl, rfl, hq⟩ := h4
    exact wpAny_bind (wpAny_pure (wpAny_newObj_type hq (by size_fits)))
end
section
variable {T : Tb} {X : Cx} {pins : List (Addr × Obj)} {σ : L2.St} {H : Hp} {s : Shared} {w : Wd} {st : Store}
/-- the maker's code object is looked up in its table, or a new one is laid in it -/
theorem lm_code {i j : Nat} {c P : Addr} {q : Str} {params : Arguments} {body : Expr} {scope : Scope} {pos : Pos} {E : Value → Shared → Prop} {Q : Value → Shared → Prop} (I : Inv X pins σ H s) (hs : StOk T w st H) (TB : LamX.TabB X.base X.mg c P) (hcode : X.env.code = .ref c) (hj : st[j]? = some (.tbl i)) (hT : T.tab i = some (P, q))
    (h : ∀ (c' : Addr) (H1 : Hp) (u : Wd) (s1 : Shared), Inv X pins σ H1 s1 → Le w u → StOk T u st H1 → (∀ b o, H b = none → s.heap.get? b = some o → s1.heap.get? b = some o) → s.heap.objs.size ≤ s1.heap.objs.size → (∀ b, H b = none → b < s.heap.objs.size → H1 b = none) → (∀ b, s1.heap.objs.size ≤ b → H1 b = none) → u.F c' = some (LamX.CodeO c' q) → Q (.ref c') s1) :
    wpAny (model X.prog X.w) X.A (functionCode X.env pos pos.line "<lambda>" q params scope (.expr body)) Q E s := by
  obtain ⟨a, ha, hF, q', ps, hT', hP, ht, hcs⟩ := hs.at_ hj
  rw [hT] at hT'
  cases hT'
  have hP' : s.heap.get? P = some { cls := .none, data := .fields ps } := I.hok P _ hP
  cases hc : codeAmong pos ps.toList with
  | some cv =>
    obtain ⟨c', rfl, hco⟩ := hcs pos cv hc
    refine wpAny_functionCode_hit hcode ((TB.code.keeps I.bk).code hP' ht) hc ?_
    exact h c' H w s I (Le.rfl' _) hs (fun _ _ _ e => e) (Nat.le_refl _) (fun _ n _ => n) (fun b hb => I.hok.fresh hb) hco
  | none =>
    refine wpAny_functionCodeX hcode ((TB.code.keeps I.bk).code hP' ht) ((TB.code.keeps I.bk).tab hP') hc fun c' h' tk hx hge hlt _ hrec htb _ => ?_
    obtain ⟨c2, oc, vs, t, e2, hoc, hd, hv⟩ := hrec
    cases e2
    have nC : H c' = none := I.hok.fresh hge
    have nPc : P ≠ c' := ne_of_none hP nC
    have I1 := LamX.inv_table (q := q) (t' := tk) (more := #[rawInt pos.line, rawInt pos.col, .ref c']) (h' := h') I hP (fun b o hb e => hx b o hb e) htb.2 hge ⟨oc, vs, t, hoc, hd, hv⟩
    have eH : upd (upd H P (.tbl (ps ++ #[rawInt pos.line, rawInt pos.col, .ref c']))) c' (LamX.CodeO c' q) = upd (upd H c' (LamX.CodeO c' q)) P (.tbl (ps ++ #[rawInt pos.line, rawInt pos.col, .ref c'])) := by
      funext b
      by_cases hb : b = c'
      · rw [hb, upd_same, upd_ne (Ne.symm nPc), upd_same]
      · by_cases hb2 : b = P
        · rw [upd_ne hb, hb2, upd_same, upd_same]
        · rw [upd_ne hb, upd_ne hb2, upd_ne hb2, upd_ne hb]
    rw [eH] at I1
    have l1 : Le w (w.frz c' (LamX.CodeO c' q)) := Le.frz hs nC
    have s1 : StOk T (w.frz c' (LamX.CodeO c' q)) st (upd H c' (LamX.CodeO c' q)) := hs.newF nC
    have hF1 : (w.frz c' (LamX.CodeO c' q)).F P = none := by rw [Wd.fF, upd_ne nPc]; exact hF
    have eL : (ps ++ #[rawInt pos.line, rawInt pos.col, .ref c']).toList = ps.toList ++ [rawInt pos.line, rawInt pos.col, .ref c'] := by simp
    have s2 : StOk T (w.frz c' (LamX.CodeO c' q)) (st.set j (.tbl i)) (upd (upd H c' (LamX.CodeO c' q)) P (.tbl (ps ++ #[rawInt pos.line, rawInt pos.col, .ref c']))) := by
      refine s1.wr (c := .tbl i) (l1.at ha) hF1 ⟨hF1, q, _, hT, upd_same, by rw [eL]; exact PySem.TriplesOk_snoc _ _ _ _ ht, fun p' cv hcv => ?_⟩
      rw [eL] at hcv
      rcases LamX.among_app _ ht hcv with z | z
      · obtain ⟨c0, e1, e2⟩ := hcs p' cv z
        exact ⟨c0, e1, l1.F _ _ e2⟩
      · exact ⟨c', z, by rw [Wd.fF, upd_same]⟩
    have est : st.set j (.tbl i) = st := by
      refine List.ext_getElem? fun k => ?_
      by_cases hk : j = k
      · subst hk
        rw [List.getElem?_set_self (List.getElem?_eq_some_iff.mp hj).1, hj]
      · rw [List.getElem?_set_ne hk]
    rw [est] at s2
    refine h c' _ _ _ I1 l1 s2 (fun b o hn e => hx b o (fun z => by rw [z, hP] at hn; cases hn) e) (Nat.le_trans hge (Nat.le_of_lt hlt)) (fun b n hb => ?_) (fun b hb => ?_) (by rw [Wd.fF, upd_same])
    · rw [upd_ne (fun z => by rw [z, hP] at n; cases n), upd_ne (fun z => by rw [z] at hb; exact Nat.lt_irrefl _ (Nat.lt_of_lt_of_le hb hge))]
      exact n
    have hb1 : s.heap.objs.size ≤ b := Nat.le_trans (Nat.le_trans hge (Nat.le_of_lt hlt)) hb
    have n1 : b ≠ P := fun z => by
      rw [z] at hb1
      exact Nat.lt_irrefl _ (Nat.lt_of_lt_of_le (Heap.lt_size hP') hb1)
    have n2 : b ≠ c' := fun z => by
      rw [z] at hb
      exact Nat.lt_irrefl _ (Nat.lt_of_lt_of_le hlt hb)
    rw [upd_ne n1, upd_ne n2]
    exact I.hok.fresh hb1
end
end Ev
namespace Ev
open PySem PySem.Spec L2
/-! ### a lambda is called -/
/-- its names: captured ones, globals, and own ones that are no names of the maker's -/
structure LmS (N : List Str) (sc scope : Scope) : Prop where
  kind : scope.kind = .function
  co : scope.isCoroutine = false
  gen : scope.isGenerator = false
  nocell : ∀ y ∈ scope.names, y.2 ≠ .cell
  own : ∀ y ∈ scope.names, y.2 = .local → y.1 ∉ N
  free : ∀ y ∈ scope.names, y.2 = .free → sc.names.lookup y.1 = some .cell ∨ sc.names.lookup y.1 = some .free
def lmsB (N : List Str) (sc scope : Scope) : Bool :=
  decide (scope.kind = .function) && !scope.isCoroutine && !scope.isGenerator && scope.names.all fun y => !decide (y.2 = .cell) && (!decide (y.2 = .local) || decide (y.1 ∉ N)) && (!decide (y.2 = .free) || decide (sc.names.lookup y.1 = some .cell) || decide (sc.names.lookup y.1 = some .free))
theorem lms_by {N : List Str} {sc scope : Scope} (h : lmsB N sc scope = true) : LmS N sc scope := by
  unfold lmsB at h
  simp only [Bool.and_eq_true, Bool.or_eq_true, Bool.not_eq_true', decide_eq_true_eq, decide_eq_false_iff_not, List.all_eq_true] at h
  obtain ⟨⟨⟨h1, h2⟩, h3⟩, h4⟩ := h
  refine ⟨h1, h2, h3, fun y hy => (h4 y hy).1.1, fun y hy e => ((h4 y hy).1.2).resolve_left fun z => z e, fun y hy e => ?_⟩
  rcases (h4 y hy).2 with (z | z) | z
  · exact absurd e z
  · exact .inl z
  · exact .inr z
section
variable {X : Cx} {pins : List (Addr × Obj)} {σ : L2.St} {H HZ : Hp} {s s1 : Shared}
theorem LmS.has {scope : Scope} (L : LmS X.N X.env.scope scope) (ok : X.Ok) : ∀ y ∈ scope.names, y.2 = .free → ∃ c, X.env.cells.lookup y.1 = some c := fun y hy e => by
  rcases L.free y hy e with k | k
  · exact ok.has _ (.inl k)
  · exact ok.has _ (.inr k)
theorem lm_start {A : Around} {outer : List PySem.Env} {E : XK} {scope : Scope} {f c' : Addr} {h₁ : Heap} {tk : Nat} {m1 : Str → Option Value} (I : Inv X pins σ H s) (L : LmS X.N X.env.scope scope) (e0 : Env0 X.prog X.w X.K X.mg X.base A outer s1 HZ) (hd : A.handled = none)
    (un : Un (frs X.stack) [] H HZ s.heap s1.heap) (hns : h₁.Ns s1.heap.objs.size m1) (kp : ∀ b o, s1.heap.get? b = some o → h₁.get? b = some o) :
    Inv (LamX.lamCx X A outer s1 HZ E scope f c') [] σ HZ { s1 with heap := h₁, toks := tk } := by
  have hfr := L.has I.ok
  have inX : ∀ {y c}, (cloFrom X.env.cells scope.names []).lookup y = some c → X.env.cells.lookup y = some c := fun {y c} e => by
    rcases cloFrom_mem (PySem.mem_of_lookup e) with hm | ⟨g1, g2⟩
    · cases hm
    · obtain ⟨c1, hc⟩ := hfr _ g1 rfl
      have hc : X.env.cells.lookup y = some c1 := hc
      have e2 : c = c1 := by
        rw [g2, hc] <;> rfl
      rw [e2]
      exact hc
  have look : ∀ {y}, scope.names.lookup y = some .free → ∃ c, (cloFrom X.env.cells scope.names []).lookup y = some c := fun {y} hl => mem_lookup (cloFrom_has (cells := X.env.cells) (acc := []) (PySem.mem_of_lookup hl))
  have cellK : ∀ {c : Addr} {v : Option Value}, H c = none → s.heap.IsCell c v → h₁.IsCell c v := fun {c v} n ⟨o, ho, hd⟩ => by
    obtain ⟨sl, q⟩ := un.any ho n (by simp)
    exact ⟨_, kp _ _ q, hd⟩
  have noX : ∀ b : Addr, b ∉ (LamX.lamCx X A outer s1 HZ E scope f c').ex := fun b z => absurd (show b ∈ ([] : List Addr) from z) (by simp)
  refine ⟨⟨e0.mod, L.kind, rfl, rfl, Nat.le_refl _, fun y z c e1 e2 => I.ok.inj y z c (inX e1) (inX e2), fun y hy => ?_, fun y c z _ => ?_, fun _ => hd, Around.frames_deeper e0.frames, .inr ⟨rfl, rfl⟩, fun b z => absurd z (noX b), e0.bs, e0.bsz, fun b _ _ => noX b,
      fun b z => absurd z (noX b), e0.funs, e0.frf⟩,
    rfl, e0.bare, Un.kept kp, ⟨_, hns, fun i y v e1 e2 e3 => ?_⟩, fun y c e => ?_, e0.hok.fresh (Nat.le_refl _), fun y c e => ?_, fun q hq => absurd (show q ∈ ([] : List (Addr × Obj)) ++ [] from hq) (by simp), e0.hok.kept kp, I.len⟩
  · have hy : scope.names.lookup y = some .cell ∨ scope.names.lookup y = some .free := hy
    rcases hy with hy | hy
    · exact absurd rfl (L.nocell _ (PySem.mem_of_lookup hy))
    · exact look hy
  · have z : false = true := z
    cases z
  · have e3 : Vis scope y := e3
    rcases e3 with k | k | k
    · exact absurd (List.mem_of_getElem? e1) (L.own _ (PySem.mem_of_lookup k) rfl)
    · exact absurd rfl (L.nocell _ (PySem.mem_of_lookup k))
    · obtain ⟨mX, _, hl⟩ := I.loc
      have vis : Vis X.env.scope y := (L.free _ (PySem.mem_of_lookup k) rfl).elim (fun z => .inr (.inl z)) (fun z => .inr (.inr z))
      obtain ⟨u, ru, lo⟩ := hl i y v e1 e2 vis
      obtain ⟨c2, h2⟩ := look k
      refine ⟨u, ru, .inr ⟨.inr k, c2, h2, ?_⟩⟩
      rcases lo with ⟨k', _⟩ | ⟨_, c3, e', z⟩
      · have k' : X.env.scope.names.lookup y = some .local := k'
        rcases L.free _ (PySem.mem_of_lookup k) rfl with k2 | k2 <;> (rw [show X.env.scope.names.lookup y = _ from k2] at k'; cases k')
      · rw [inX h2] at e'
        cases e'
        exact cellK (I.freeC y _ (inX h2)) z
  · obtain ⟨v, z⟩ := I.cell y c (inX e)
    exact ⟨v, cellK (I.freeC y c (inX e)) z⟩
  · obtain ⟨v, o, ho, hd⟩ := I.cell y c (inX e)
    exact un.free c o ho (I.freeC y c (inX e)) (by simp)
/-- a(): the lambda at f, from the def that got it; Z: that def's context, entered at s from X -/
theorem lm_act {CXg : CXT} {Eg : XK} {Ng : List Str} {qg : Str} {sg : Scope} {g f c' : Addr} {cdg dV pm ctv : Value} {params : Arguments} {body : Expr} {scope : Scope} {k i : Nat} {a : Str} {pn : List (Addr × Obj)} {xe : Value → Shared → Prop} {W : WX} {tb : XK → TE} {p1 p2 : Pos}
    (I : Inv X pins σ H s) (L : LmS X.N X.env.scope scope) (hf : s.heap.get? f = some (lmObj (X.env.qual ++ "<lambda>") params body scope (cloFrom X.env.cells scope.names []) dV pm (.ref c') ctv)) (hfn : H f = none) (hfr : f ∉ frs X.stack)
    (hbind : ∀ s1 : Shared, (∀ b o, H b = none → b ∉ frs X.stack → s.heap.get? b = some o → s1.heap.get? b = some o) → ∃ binds, BindsTo s1 (lmFn (X.env.qual ++ "<lambda>") params body scope (cloFrom X.env.cells scope.names []) dV pm (.ref c') ctv) ⟨[], []⟩ binds ∧ ∀ y ∈ binds, scope.names.lookup y.1 = some .local)
    (tk : Takes ((cxOf CXg X.prog X.w X.K X.mg X.base Ng qg sg g cdg X.A X.stack s H Eg).tr pn xe) W) (hr : Room (k + 1) (X.A.deeper (PyProof.Rows.envOfC qg sg s.heap.objs.size g cdg)))
    (hbody : ∀ (A : Around) (outer : List PySem.Env) (s : Shared) (H : Hp) (E : XK), Room k (A.deeper (LamX.lamEnv X scope s.heap.objs.size f c')) → A.guards = X.A.guards → PE (LamX.lamCx X A outer s H E scope f c') body (tb E))
    (hN : Ng[i]? = some a) (hv : Vis sg a) (hd : (a == ("__debug__" : Str)) = false) (hcd : (a == ("__classdict__" : Str)) = false) :
    PE ((cxOf CXg X.prog X.w X.K X.mg X.base Ng qg sg g cdg X.A X.stack s H Eg).tr pn xe) (.Call (.Name a p1) [] [] p2)
      (fun σZ HZ Q => σZ[i]? = some (some (.ref f)) ∧ HZ c' = some (LamX.CodeO c' (X.env.qual ++ "<lambda>")) ∧ tb (WE W σZ) σ HZ Q) := by
  refine ⟨fun pinsZ sZ σZ HZ Q IZ h => ?_⟩
  obtain ⟨hs, hc, ht⟩ := h
  refine wpAny_Call_Name_kw (thn ((pe_var (pos := p1) (i := i) hN hv hd hcd).run pinsZ sZ σZ HZ (fun v H1 => v = .ref f ∧ H1 = HZ) IZ ⟨.ref f, hs, rfl, rfl⟩) fun u s1 ⟨v, H1, I1, r1, q1⟩ => ?_)
  obtain ⟨rfl, rfl⟩ := q1
  obtain rfl : u = Value.ref f := r1
  have un : Un (frs X.stack) [] H H1 s.heap s1.heap := I1.base
  have kp1 : ∀ b o, H b = none → b ∉ frs X.stack → s.heap.get? b = some o → s1.heap.get? b = some o := fun b o n nf e => I1.base.keep b o e n nf (fun z => nomatch (show b ∈ ([] : List Addr) from z))
  have of1 := kp1 f _ hfn hfr hf
  refine PySem.W.callWith_F0 ⟨_, _, _, _, of1⟩ ?_
  obtain ⟨⟨oc, vs, t, hoc, hdc, hvc⟩, _, _⟩ := I1.hok c' _ hc
  obtain ⟨binds, hb1, hb2⟩ := hbind s1 kp1
  have rc : codeAny (model X.prog X.w) (X.A.deeper (PyProof.Rows.envOfC qg sg s.heap.objs.size g cdg)) (.call (.ref f) ⟨[], []⟩) (CR (L2.CX X.prog X.w) (PyProof.Rows.envOfC qg sg s.heap.objs.size g cdg :: X.stack) X.prog X.w H1 s1 Q (WE W σZ)) s1 := by
    refine PySem.W.kla_callFunE hr.depth of1 rfl L.co L.gen rfl ⟨c', oc, vs, t, rfl, hoc, hdc, hvc⟩ (hb1 _ _ _ _ ?_)
    refine wpAny_newFunctionEnv L.nocell hb2 (fun h₁ hns hsb => ⟨I1.nolimit.fresh _ hsb, ?_⟩) L.kind
    show codeAny _ _ (.expr body (LamX.lamEnv X scope s1.heap.objs.size f c')) _ _
    have kp : ∀ b o, s1.heap.get? b = some o → h₁.get? b = some o := fun b o e => hsb.extBut b o (Nat.ne_of_lt (Heap.lt_size e)) (Heap.get?_push_of_some _ e)
    have J := lm_start (E := WE W σZ) (f := f) (c' := c') (tk := s1.toks + binds.length) I L I1.env0 hr.hd un hns kp
    refine PySem.W.kla_codeExpr (wpAny_mono ((hbody _ _ s1 H1 _ (hr.deeper _) rfl).run [] _ _ H1 Q J ht) (fun v s' hq => ?_) fun e s' hq => hq)
    obtain ⟨w', H', J', rv, q⟩ := hq
    exact ⟨w', H', J'.os, J'.bare, J'.base, J'.hok, rv, q⟩
  refine wpAny_call (codeAny_mono rc fun r s' hq => ?_)
  rcases r with e | (u | _ | _ | _)
  · exact passAt tk σZ pinsZ H1 s1 e s' I1 hq
  all_goals first
    | exact I1.after hq
    | exact hq.elim
end
end Ev
namespace Ev
open PySem PySem.Spec L2
/-- a lambda's defaults: none, or one int for a name of its own -/
inductive LmDef (params : Arguments) (body : Expr) (scope : Scope) : Prop
  | none (h1 : ∀ env : PySem.Env, defaultsOf params env = ([], [])) (h2 : ∀ (q : Str) (cl : List (Str × Addr)) (pm cv ct : Value), bindArgs (lmFn q params body scope cl .none pm cv ct) ⟨[], []⟩ = pure [])
  | one (k : Int) (x : Str) (j : Nat) (p : Pos) (h1 : ∀ env : PySem.Env, defaultsOf params env = ([eval (.Constant (.int k) j p) env], [])) (h2 : ∀ (q : Str) (cl : List (Str × Addr)) (T : Addr) (pm cv ct : Value), ∃ kk, bindArgs (lmFn q params body scope cl (.ref T) pm cv ct) ⟨[], []⟩ = seqItems? (.ref T) >>= kk ∧ ∀ v, kk (some #[v]) = pure [(x, v)])
      (h3 : scope.names.lookup x = some .local)
section
variable {T : Tb} {X : Cx} {W : WX}
theorem lm_make {pins : List (Addr × Obj)} {σ : L2.St} {H : Hp} {s : Shared} {w : Wd} {st : Store} {i j : Nat} {c P : Addr} {params : Arguments} {body : Expr} {scope : Scope} {pos : Pos} {Q : Value → Shared → Prop} (I : Inv X pins σ H s) (hs : StOk T w st H) (TB : LamX.TabB X.base X.mg c P) (hcode : X.env.code = .ref c)
    (hj : st[j]? = some (.tbl i)) (hT : T.tab i = some (P, X.env.qual ++ "<lambda>")) (D : LmDef params body scope) (L : LmS X.N X.env.scope scope)
    (h : ∀ (f c' : Addr) (dV pm ctv : Value) (H1 : Hp) (u : Wd) (s1 : Shared), Inv X pins σ H1 s1 → Le w u → StOk T u st H1 → s1.heap.get? f = some (lmObj (X.env.qual ++ "<lambda>") params body scope (cloFrom X.env.cells scope.names []) dV pm (.ref c') ctv) → H1 f = none → f ∉ frs X.stack → u.F c' = some (LamX.CodeO c' (X.env.qual ++ "<lambda>")) →
      (∀ s2 : Shared, (∀ b o, H1 b = none → b ∉ frs X.stack → s1.heap.get? b = some o → s2.heap.get? b = some o) → ∃ binds, BindsTo s2 (lmFn (X.env.qual ++ "<lambda>") params body scope (cloFrom X.env.cells scope.names []) dV pm (.ref c') ctv) ⟨[], []⟩ binds ∧ ∀ y ∈ binds, scope.names.lookup y.1 = some .local) → Q (.ref f) s1) :
    wpAny (model X.prog X.w) X.A (eval (.Lambda params body scope pos) X.env) Q X.xe s := by
  have nofr : ∀ {s1 : Shared} {H1 : Hp} {f : Addr}, Inv X pins σ H1 s1 → s1.heap.objs.size ≤ f → f ∉ frs X.stack := fun {s1 H1 f} J hf z => by
    rcases List.mem_cons.mp (J.stkSub _ z) with e | e
    · have h1 := J.lt
      rw [← e] at h1
      exact Nat.lt_irrefl _ (Nat.lt_of_lt_of_le h1 hf)
    · exact J.nofs hf e
  have tail : ∀ (dV : Value) (s0 : Shared), Inv X pins σ H s0 →
      (∀ (H1 : Hp) (s1 : Shared) (pm cv ctv : Value), (∀ b o, H b = none → s0.heap.get? b = some o → s1.heap.get? b = some o) → (∀ b, H b = none → b < s0.heap.objs.size → H1 b = none) → ∀ s2 : Shared, (∀ b o, H1 b = none → b ∉ frs X.stack → s1.heap.get? b = some o → s2.heap.get? b = some o) →
        ∃ binds, BindsTo s2 (lmFn (X.env.qual ++ "<lambda>") params body scope (cloFrom X.env.cells scope.names []) dV pm cv ctv) ⟨[], []⟩ binds ∧ ∀ y ∈ binds, scope.names.lookup y.1 = some .local) →
      wpAny (model X.prog X.w) X.A (makeTail "<lambda>" (X.env.qual ++ "<lambda>") params (.expr body) scope X.env dV .none none pos pos.line) Q X.xe s0 := fun dV s0 I0 hb => by
    refine lm_tail (mg := X.mg) (closure_ok (L.has I0.ok)) I0.ok.glob fun s1 k1 z1 e1 e2 e3 => ?_
    obtain ⟨g1, n1, d1, t1, o1⟩ := s1
    cases e1
    cases e2
    cases e3
    have I1 : Inv X pins σ H ⟨g1, s0.gens, s0.drawn, t1, s0.os⟩ := I0.kept k1
    refine lm_code I1 hs TB hcode hj hT fun c' H1 u s2 I2 l s2' k2 z2 nn2 fr2 hco => ?_
    refine ⟨⟨by rw [← I2.ok.glob]; rw [I2.ok.glob]; exact I2.mod.glob.keeps I2.bk, P, TB.bm.keeps I2.bk⟩, fun ctv => ?_⟩
    have kpush : ∀ b o, s2.heap.get? b = some o → (s2.heap.push (lmObj (X.env.qual ++ "<lambda>") params body scope (cloFrom X.env.cells scope.names []) dV ((X.mg "__name__").getD .none) (.ref c') ctv)).get? b = some o := fun b o e => Heap.get?_push_of_some _ e
    refine h s2.heap.objs.size c' dV _ ctv H1 u _ (I2.kept kpush) l s2' (Heap.get?_push_size _ rfl) (fr2 _ (Nat.le_refl _)) (nofr I2 (Nat.le_refl _)) hco (hb H1 _ _ _ _ (fun b o n e => kpush b o (k2 b o n (k1 b o e))) fun b n hb => nn2 b n (Nat.lt_of_lt_of_le hb z1))
  cases D with
  | none h1 h2 =>
    show wpAny _ _ (do
      let dv ← evalAll (defaultsOf params X.env).1
      let kdv ← holding dv (evalAllOpt (defaultsOf params X.env).2)
      makeFunction "<lambda>" (X.env.qual ++ "<lambda>") params (.expr body) scope X.env dv kdv [] pos pos.line) _ _ _
    rw [h1]
    refine wpAny_bind (wpAny_evalAll_nil (wpAny_bind (wpAny_holding (wpAny_of_eq (a := []) (by rfl) ?_))))
    rw [makeFunction_eq]
    simp only [List.zip_nil_right, List.filterMap_nil, List.isEmpty_nil, if_true, pure_bind]
    exact tail .none s I fun H1 s1 pm cv ctv _ _ s2 _ => ⟨[], .of_eq (h2 _ _ _ _ _), fun y hy => absurd hy (by simp)⟩
  | one k x jj p h1 h2 h3 =>
    show wpAny _ _ (do
      let dv ← evalAll (defaultsOf params X.env).1
      let kdv ← holding dv (evalAllOpt (defaultsOf params X.env).2)
      makeFunction "<lambda>" (X.env.qual ++ "<lambda>") params (.expr body) scope X.env dv kdv [] pos pos.line) _ _ _
    rw [h1]
    refine wpAny_bind (wpAny_evalAll_cons (thn ((pe_int (X := X) (i := k) (j := jj) (pos := p)).run pins s σ H (fun v H' => v = .int k ∧ H' = H) I ⟨rfl, rfl⟩) fun u s1 ⟨v, H1, I1, r1, e1, e2⟩ => wpAny_evalAll_nil (wpAny_bind (wpAny_holding (wpAny_of_eq (a := []) (by rfl) ?_)))))
    subst e1
    subst e2
    obtain ⟨t, rfl⟩ := r1
    rw [makeFunction_eq]
    simp only [List.zip_nil_right, List.filterMap_nil, List.isEmpty_nil, List.isEmpty_cons, Bool.false_eq_true, if_true, if_false, pure_bind]
    refine wpAny_bind (PySem.wpAny_newTextTuple ?_)
    refine tail _ _ (I1.kept fun b o e => Heap.get?_push_of_some _ e) fun H2 s2 pm cv ctv kk nn s3 k3 => ?_
    obtain ⟨kf, g1, g2⟩ := h2 (X.env.qual ++ "<lambda>") (cloFrom X.env.cells scope.names []) s1.heap.objs.size pm cv ctv
    have hT0 := I1.hok.fresh (Nat.le_refl s1.heap.objs.size)
    have hT1 : (s1.heap.push { cls := .type "tuple", data := .seq [Value.int k t].toArray }).get? s1.heap.objs.size = some { cls := .type "tuple", data := .seq [Value.int k t].toArray } := Heap.get?_push_size _ rfl
    have hT3 := k3 _ _ (nn _ hT0 (Heap.lt_size hT1)) (nofr I1 (Nat.le_refl _)) (kk _ _ hT0 hT1)
    refine ⟨[(x, .int k t)], fun M A E Q hq => ?_, fun y hy => by rw [List.mem_singleton.mp hy]; exact h3⟩
    rw [g1]
    refine wpAny_bind (wpAny_seqItems hT3 rfl ?_)
    rw [show ([Value.int k t].toArray : Array Value) = #[.int k t] from rfl, g2]
    exact wpAny_pure hq
end
end Ev
set_option Elab.async false
set_option linter.all false
set_option maxRecDepth 100000
set_option maxHeartbeats 2000000
namespace Ev
open PySem PySem.Spec L2
/-! ### f(lambda: e), f a def that gives back ('ok', call()) or what its clauses tell -/
def cmpOut (ok : Str) (env : Env) : Oe → Os
  | .ok d st => (match frz d st with
    | some (z, st1) => .rt (.tup [.str ok, z]) st1
    | none => .stuck)
  | .exc c fs st => .exc c fs env st
  | .stuck => .stuck
def caught (xm : Nat → Nat → Option Bool) (hs : List Hc) : Os → Os
  | .exc c fs e s => hGo xm c fs e s hs
  | o => o
def cmpP (xm : Nat → Nat → Option Bool) (ok : Str) (hs : List Hc) (m : Nat) (th : Store → Oe) (st : Store) : Oe := endP false st.length (caught xm hs (cmpOut ok (([D.lam 0].map some) ++ List.replicate (m - [D.lam 0].length) none) (th st)))
def fLamC (xm : Nat → Nat → Option Bool) (ok : Str) (hs : List Hc) (m j i : Nat) (fe : Fx) : Fx := fun env st => match st[j]? with
  | some (.tbl k) => if k = i then cmpP xm ok hs m (fun s => fe env s) st else .stuck
  | _ => .stuck
/-- the text of such a def -/
def cmpBody (ok a : Str) (j k0 : Nat) (p1 p2 p3 p4 p5 p6 : Pos) (hds : List ExceptHandler) : List Stmt := [.Try [.Return (some (.Tuple [.Constant (.str ok) j p1, .Call (.Name a p2) [] [] p3] k0 p4)) p5] hds [] [] p6]
section
variable {T : Tb} {X : Cx} {W : WX}
theorem de_lamcall {xm : Nat → Nat → Option Bool} {ok a x : Str} {hs : List Hc} {i j jj k0 k : Nat} {p1 p2 p3 p4 p5 p6 p pos lpos : Pos} {h0 : ExceptHandler} {hds : List ExceptHandler} {g c P : Addr} {pg : Arguments} {sg : Scope} {fd : FuncData} {Ng : List Str} {params : Arguments} {body : Expr} {scope : Scope} {fe : Fx}
    (J : XmOk T X.K xm) (hlam : ∀ F b, T.lam F (.lam 0) (.ref b)) (Fg : FunD X.K x x pg (cmpBody ok a jj k0 p1 p2 p3 p4 p5 p6 (h0 :: hds)) sg [] [] g fd) (Sg : FnScope Ng [a] sg) (hb : L2.Binds X.K fd [a] [])
    (hH : ∀ (cdv : Value) (A : Around) (outer : List PySem.Env) (s : Shared) (H : Hp) (E : XK), Room (k + 1) (A.deeper (PyProof.Rows.envOfC x sg s.heap.objs.size g cdv)) → (A.deeper (PyProof.Rows.envOfC x sg s.heap.objs.size g cdv)).guards = some [] →
      HcsOk T (cxOf (L2.CX X.prog X.w) X.prog X.w X.K X.mg X.base Ng x sg g cdv A outer s H E) (h0 :: hds) hs)
    (hg : Gl X x) (hm : X.mg x = some (.ref g)) (hG : X.A.guards = some []) (tk : Takes X W) (TB : LamX.TabB X.base X.mg c P) (hcode : X.env.code = .ref c) (hT : T.tab i = some (P, X.env.qual ++ "<lambda>")) (DF : LmDef params body scope) (L : LmS X.N X.env.scope scope) (hr : Room (k + 2) X.A)
    (hbody : ∀ (A : Around) (outer : List PySem.Env) (s : Shared) (H : Hp) (E : XK) (f c' : Addr), Room k (A.deeper (LamX.lamEnv X scope s.heap.objs.size f c')) → A.guards = some [] → PE (LamX.lamCx X A outer s H E scope f c') body (tE T fe fun c d _ H' => E c d H'))
    (hdb : (x == ("__debug__" : Str)) = false) (hd : (a == ("__debug__" : Str)) = false) (hcd : (a == ("__classdict__" : Str)) = false) : PE X (.Call (.Name x p) [.Lambda params body scope lpos] [] pos) (tE T (fLamC xm ok hs Ng.length j i fe) W) := by
  refine ⟨fun pins s σ H Q I h => ?_⟩
  obtain ⟨w0, cenv, st, hs0, hE0, hp⟩ := h
  unfold fLamC at hp
  split at hp
  case h_2 => exact hp.elim
  rename_i kk hj
  split at hp
  case isFalse => exact hp.elim
  rename_i ek
  subst ek
  have hNg0 : Ng[0]? = some a := by
    have e := Sg.pre
    match Ng, e with
    | b :: r, e =>
      simp only [List.length_singleton, List.take_succ_cons, List.take_zero, List.cons.injEq, and_true] at e
      rw [e]
      rfl
  have hva : Vis sg a := (Sg.par a (by simp)).elim .inl fun z => .inr (.inl z)
  have hNl : 1 ≤ Ng.length := (List.getElem?_eq_some_iff.mp hNg0).1
  refine wpAny_Call_Name_kw (ld_glob I hg hm ?_ hdb)
  refine PySem.W.callWith_K (h₀ := X.base) I.ok.mod.kin Fg.kp ?_ (by rfl) (by rfl)
  show wpAny _ _ (spliced ((false, eval (.Lambda params body scope lpos) X.env) :: backTo pos (starEach [] X.env))) _ _ s
  refine Calls.spliced_cons (lm_make I hs0 TB hcode hj hT DF L fun f c' dV pm ctv H1 u0 s1 I1 l0 s10 hf hfn hfr hco hbind => ?_)
  refine Calls.spliced_nil ⟨I1.kIn, ?_⟩
  obtain ⟨oc, od, dVg, kV, doc, pmg, an, cdv, ct, osl, rfl, lk, hcg, _, _⟩ := Fg.ex
  have hE1 : EnvOk T u0 cenv σ := hE0.up l0
  have rv0 : Rvs T u0 [D.lam 0] [V.ref f] := .cons (.fun_ rfl (hlam _ f)) .nil
  have hp1 := PostS.up l0 (endP_ok (w := w0) (n := st.length) hs0.len.symm hp)
  have rc : codeAny (model X.prog X.w) X.A (.call (.ref g) ⟨[.ref f], []⟩) (CR (L2.CX X.prog X.w) X.stack X.prog X.w H1 s1 Q (WE W σ)) s1 := by
    refine LamX.run_ofS (N := Ng) (ps := [a]) (us := [.ref f]) (vs := [.ref f]) lk hcg Sg hr I1.env0 (hb s1 [.ref f] I1.kIn rfl) (.cons rfl .nil) rfl fun hr2 => ?_
    have hz := hH cdv X.A X.stack s1 H1 (WE W σ) hr2 hG
    generalize hZ : cxOf (L2.CX X.prog X.w) X.prog X.w X.K X.mg X.base Ng x sg g cdv X.A X.stack s1 H1 (WE W σ) = Z at hz
    have zK : Z.K = X.K := by rw [← hZ]; rfl
    have zst : Z.stack = Z.env :: Z.outer := by rw [← hZ]; rfl
    have zfr : Z.env.frame = some Z.env.locals := by rw [← hZ]; rfl
    have zN : Z.N = Ng := by rw [← hZ]; rfl
    have zprog : Z.prog = X.prog := by rw [← hZ]; rfl
    have zw : Z.w = X.w := by rw [← hZ]; rfl
    have ztk : Takes Z (fun cls d _ H' => WE W σ cls d H') := by
      subst hZ
      exact takes_of rfl rfl rfl rfl
    obtain ⟨l, g1, g2⟩ := clz_of (W := fun cls d _ H' => WE W σ cls d H') (by rw [zK]; exact J) hz
    refine ⟨_, pss_one (ps_try_clz (tb := fun W' Dn τ HZ => τ[0]? = some (some (.ref f)) ∧ HZ c' = some (LamX.CodeO c' (X.env.qual ++ "<lambda>")) ∧ ∃ w1 st1 env1, Le u0 w1 ∧ StOk T w1 st1 HZ ∧ EnvOk T w1 env1 τ ∧ PostS T w1 Dn W' (cmpOut ok env1 (fe cenv st1)))
      zst zfr (by rw [zN]; exact Sg.nd) ztk (fun W' pn xe tk' _ => ?_) g1), ?_⟩
    · subst hZ
      have act := lm_act (i := 0) (tb := fun E => tE T fe fun c d _ H' => E c d H') (p1 := p2) (p2 := p3) I1 L hf hfn hfr hbind tk' hr2 (fun A outer s2 H2 E2 hr3 hgu => hbody A outer s2 H2 E2 f c' hr3 (hgu.trans hG)) hNg0 hva hd hcd
      refine PSs.imp (pss_one (ps_ret (pe_tup (pa_cons pe_str (pa_cons act pa_nil rfl) rfl)))) fun Dn τ HZ ⟨q1, q2, w1, st1, env1, lw, hs1, he1, hpo⟩ => ?_
      refine ⟨q1, q2, w1, cenv, st1, hs1, hE1.up lw, ?_⟩
      cases q : fe cenv st1 with
      | stuck => rw [q] at hpo; exact hpo
      | exc c1 fs st2 => rw [q] at hpo; exact fun u HY cls d lu su xu => hpo u τ HY cls d lu su (he1.up lu) xu
      | ok d st2 =>
        rw [q] at hpo
        intro u HY v lu su rv
        simp only [cmpOut] at hpo
        split at hpo
        · rename_i z st3 hfz
          obtain ⟨u2, l2, s3, r3⟩ := frz_ok su rv hfz
          refine ⟨by show 2 ≤ sizeLine; decide, fun pp n => ?_⟩
          have l3 : Le u2 (u2.frz pp (.tup [.str ok, v])) := Le.frz s3 n
          exact hpo _ _ _ ((lu.tr l2).tr l3) (s3.newF n) (.d (.tup (SqT.of upd_same) (.cons (.str _) (.cons (r3.up l3.F) .nil))))
        · exact hpo.elim
    · have st0 : (L2.start Ng [V.ref f])[0]? = some (some (V.ref f)) := rfl
      refine ⟨st0, s10.sub _ _ hco, u0, st, _, Le.rfl' _, s10, env_start rv0 (by show 1 ≤ _; exact hNl), ?_⟩
      cases q : cmpOut ok ([D.lam 0].map some ++ List.replicate (Ng.length - [D.lam 0].length) none) (fe cenv st) with
      | exc c1 fs env1 st1 =>
        rw [q] at hp1
        intro u τ HY cls d lu su eu xu
        exact g2 u0 _ c1 fs env1 st1 hp1 u τ HY cls d lu su eu xu
      | nx _ _ => rw [q] at hp1; exact hp1
      | rt _ _ => rw [q] at hp1; exact hp1
      | bk _ _ => rw [q] at hp1; exact hp1
      | ct _ _ => rw [q] at hp1; exact hp1
      | stuck => rw [q] at hp1; exact hp1
  refine wpAny_call (codeAny_mono rc fun r s2 hq => ?_)
  rcases r with e | (u | _ | _ | _)
  · exact passAt tk σ pins H1 s1 e s2 I1 hq
  all_goals first
    | exact I1.after hq
    | exact hq.elim
end
end Ev
set_option Elab.async false
set_option linter.all false
set_option maxRecDepth 100000
set_option maxHeartbeats 2000000
namespace Ev
open PySem PySem.Spec L2
/-! ### != by an own __eq__ -/
section
open PySem.W PySem.Calls PyProof.Rows
variable {prog : Program} {w : World} {A : Around} {E : Value → Shared → Prop} {s : Shared} {K : Frag} {x C f : Addr} {ox : Obj} {od : Option Obj} {b tb : Value}
theorem bound_ne {M : Model} {Q : Option Value → Shared → Prop} (X : K.In s.heap) (I : InstAt s.heap x ox C od) (hn : findIn K (.ref C) "__ne__" = some (some (.builtin "object.__ne__"))) (h : wpAny M A (call (.builtin "object.__ne__") [.ref x, b]) (fun v => Q (some v)) E s) :
    wpAny M A (callSpecialIfBound? (.ref x) "__ne__" [b]) Q E s := by
  simp only [callSpecialIfBound?, bindSpecialIfBound?]
  refine wpAny_holding (wpAny_bind (wpAny_bind (wpAny_bind (I.type.here ((looks_findIn X hn).here ?_)))))
  refine wpAny_bind (wpAny_askSetting (wpAny_ite ?_))
  have fin : wpAny M A (call (.builtin "object.__ne__") ([.ref x] ++ [b]) >>= fun v => pure (some v)) Q E s := wpAny_bind (wpAny_mono h (fun v s' h' => wpAny_pure h') fun _ _ h' => h')
  split
  · exact wpAny_bind (wpAny_of_eq (PySem.F.cmp_object.ne.bind _) (wpAny_pure (by exact fin)))
  · exact wpAny_tryCatch (wpAny_bind (wpAny_of_eq (PySem.F.cmp_object.ne.bind _) (wpAny_pure (by exact fin))))
theorem entry_ne {Q : Fin → Shared → Prop} (hu : A.units < cLine) (X : K.In s.heap) (I : InstAt s.heap x ox C od) (hs : findIn K (.ref C) "__eq__" = some (some (.ref f))) (hf : isFn K (.ref f) = true)
    (h : wpAny (model prog w) A (call (.ref f) [.ref x, b]) (fun v s' => ∃ r, v = .bool r ∧ Q (.done (.ret (.bool (!r)))) s') E s) : wpAny (model prog w) A (Builtin.«object.__ne__» ⟨[.ref x, b], []⟩) Q E s := by
  unfold Builtin.«object.__ne__»
  repeat (first
    | with_reducible refine wpAny_cRoomFor hu ?_
    | (refine wpAny_bind (m := callSpecialIfBound? (.ref x) (Str.ofString "__eq__") [b])
        (ifBound_K X I hs hf (wpAny_mono h (fun r s' hr => by
          obtain ⟨k, rfl, hq⟩ := hr
          repeat (first | exact hq | exact wpAny_pure hq | exact wpAny_truthy_bool hq | (refine wpAny_bind (m := truthy (.bool _)) (wpAny_truthy_bool ?_)) | wp_step)) fun _ _ e => e)))
    | wp_step)
theorem ne_own {Q : Value → Shared → Prop} (hu : A.units + 1 < cLine) (X : K.In s.heap) (I : InstAt s.heap x ox C od) (hb : Looks (model prog w) s.heap (typeOf b) tb) (hn : notFirst K C tb = true) (hs : findIn K (.ref C) "__eq__" = some (some (.ref f))) (hf : isFn K (.ref f) = true)
    (hne : findIn K (.ref C) "__ne__" = some (some (.builtin "object.__ne__"))) (hob : mroIn K C (.type "object") = some true) (h : wpAny (model prog w) A.in1 (call (.ref f) [.ref x, b]) (fun v s' => ∃ r, v = .bool r ∧ Q (.bool (!r)) s') E s) :
    wpAny (model prog w) A (richCompare .NotEq (.ref x) b) Q E s := by
  have one : wpAny (model prog w) A (tryCompare (.ref x) "__ne__" b) (fun r s' => ∃ v, r = some v ∧ Q v s') E s := by
    unfold tryCompare
    have sub : Looks (model prog w) s.heap (isInstance (.ref x) (.type "object")) true := I.type.andThen (looks_mroIn X hob)
    refine wpAny_bind (bound_ne X I hne (wpAny_call (codeAny_call_builtin PySem.F.cmp_object.ne.plain PySem.F.cmpEntry_ne (@check_slot (model prog w) _ _ s "object.__ne__" "object" "__ne__" (.ref x) [b] [] _ PySem.F.cmpKind_ne PySem.F.cmpSplit_ne sub (PySem.F.cmpArgs_ne _ _) ?_))))
    refine entry_ne (A := A.in1) hu X I hs hf (wpAny_mono h (fun v s' hv => ?_) fun _ _ e => e)
    obtain ⟨r, rfl, hq⟩ := hv
    first | exact ⟨r, rfl, wpAny_pure ⟨_, rfl, hq⟩⟩ | exact ⟨r, rfl, wpAny_pure (wpAny_pure ⟨_, rfl, hq⟩)⟩
  unfold richCompare
  simp only [oneThing_ref]
  refine wpAny_holding (wpAny_bind (wpAny_cRoomFor (Nat.lt_of_succ_lt hu) ?_))
  rw [cmpInfo_NotEq]
  dsimp only
  refine wpAny_bind (I.type.here (wpAny_bind (hb.here ?_)))
  split
  · rename_i q
    have e : subIn K tb (.ref C) = some false := by
      rcases Bool.or_eq_true_iff.mp hn with e | e
      · rw [beq_iff_eq.mp e] at q
        simp at q
      · exact beq_iff_eq.mp e
    refine wpAny_bind ((looks_subIn X e).here ?_)
    simp only [Bool.false_eq_true, if_false]
    refine wpAny_bind (wpAny_mono one (fun r s' z => ?_) fun _ _ e => e)
    obtain ⟨v, rfl, hq⟩ := z
    exact wpAny_pure hq
  · refine wpAny_bind (wpAny_pure ?_)
    simp only [Bool.false_eq_true, if_false]
    refine wpAny_bind (wpAny_mono one (fun r s' z => ?_) fun _ _ e => e)
    obtain ⟨v, rfl, hq⟩ := z
    exact wpAny_pure hq
end
end Ev
namespace Ev
open PySem PySem.Spec L2
section
variable {T : Tb} {X : Cx} {W : WX}
/-- what a value's type looks like -/
theorem typ_at {io : Kd → Ck → Option Bool} (hK : T.K = X.K) {pins : List (Addr × Obj)} {σ : L2.St} {H : Hp} {s : Shared} {w : Wd} {st : Store} {d : D} {v : V} {u : Value} {k : Kd} (I : Inv X pins σ H s) (hs : StOk T w st H) (r : Rv T w d v) (ru : RelV v u) (h : kdOf st d = some k) :
    ∃ t, KdV T k t ∧ PySem.W.Looks (model X.prog X.w) s.heap (typeOf u) t := by
  have at_ : ∀ (a : Addr) (o : Obj), s.heap.get? a = some o → PySem.W.Looks (model X.prog X.w) s.heap (typeOf (.ref a)) o.cls := fun a o e A Q E s2 kk q => wpAny_typeOf_ref (kk _ _ e) q
  have tupx : ∀ a vs, SqT T.K H a vs → PySem.W.Looks (model X.prog X.w) s.heap (typeOf (.ref a)) (.type "tuple") := fun a vs q => by
    rw [hK] at q
    obtain ⟨its, _, ⟨o, e, ec, _⟩, _⟩ := I.tuple q
    exact ec ▸ at_ a o e
  have lstx : ∀ a vs, SqL T.K H a vs → PySem.W.Looks (model X.prog X.w) s.heap (typeOf (.ref a)) (.type "list") := fun a vs q => by
    rw [hK] at q
    obtain ⟨its, _, ⟨o, n, e, ec, _⟩, _⟩ := I.list q
    exact ec ▸ at_ a o e
  have insx : ∀ a C dx fvs, H a = some (.ins C dx fvs) → PySem.W.Looks (model X.prog X.w) s.heap (typeOf (.ref a)) (.ref C) := fun a C dx fvs q => by
    obtain ⟨mA, J, _⟩ := ins_get I.hok q
    obtain ⟨od, J, _⟩ := J.look
    exact J.type
  cases r with
  | fun_ hf _ => cases d <;> first | (cases hf; done) | (cases h; done)
  | d r =>
    cases r with
    | non => cases h; cases ru; exact ⟨_, .b .non (by simp), .of_pure (by rfl)⟩
    | bl x => cases h; cases ru; exact ⟨_, .b .bl (by simp), .of_pure (by rfl)⟩
    | int x => cases h; obtain ⟨t, rfl⟩ := ru; exact ⟨_, .b .int (by simp), .of_pure (by rfl)⟩
    | str x => cases h; obtain ⟨t, rfl⟩ := ru; exact ⟨_, .b .str (by simp), .of_pure (by rfl)⟩
    | tup h1 _ => cases h; cases ru; exact ⟨_, .b .tup (by simp), tupx _ _ (hs.sub.sqt h1)⟩
    | lst h1 _ => cases h; cases ru; exact ⟨_, .b .lst (by simp), lstx _ _ (SqL.of (hs.sub _ _ h1))⟩
    | scr h1 _ => cases h; cases ru; exact ⟨_, .b .lst (by simp), lstx _ _ (hs.sub.sql h1)⟩
    | obj h1 h2 _ => cases h; cases ru; exact ⟨_, .o h1, insx _ _ _ _ (hs.sub _ _ h2)⟩
    | fn _ => cases h
    | cls _ => cases h
    | ty _ => cases h
  | ref ha =>
    cases ru
    simp only [kdOf] at h
    split at h
    · rename_i hx
      cases h
      obtain ⟨vs, h1, _⟩ := cell_lst hs ha (.inl hx)
      exact ⟨_, .b .lst (by simp), lstx _ _ (SqL.of h1)⟩
    · rename_i hx
      cases h
      obtain ⟨vs, h1, _⟩ := cell_lst hs ha (.inr hx)
      exact ⟨_, .b .lst (by simp), lstx _ _ (SqL.of h1)⟩
    · rename_i hx
      cases h
      obtain ⟨_, vs, _, h1, _⟩ := hs.cell _ _ _ hx ha
      obtain ⟨_, _, _, _, o, _, _, e, ec, _⟩ := (show ObjOk X.prog X.w H s.heap _ (.dK vs) from I.hok _ _ h1)
      exact ⟨_, .b .dct (by simp), ec.1 ▸ at_ _ o e⟩
    · rename_i hx
      cases h
      obtain ⟨_, C, dx, fvs, h1, h2, _⟩ := hs.cell _ _ _ hx ha
      exact ⟨_, .o h1, insx _ _ _ _ h2⟩
    · cases h
/-- classes with an own __eq__: eqf their def, eqk what may stand at the right -/
structure EqOk (T : Tb) (K : PySem.W.Frag) (eqf : Nat → Option Nat) (eqk : Nat → Kd → Bool) : Prop where
  ok : ∀ c i C, eqf c = some i → T.cls c = some C → ∃ f, T.fn i = some f ∧ PySem.W.findIn K (.ref C) "__eq__" = some (some (.ref f)) ∧ PySem.W.isFn K (.ref f) = true ∧ PySem.W.findIn K (.ref C) "__ne__" = some (some (.builtin "object.__ne__")) ∧ PySem.W.mroIn K C (.type "object") = some true
  nf : ∀ c k C t, eqk c k = true → T.cls c = some C → KdV T k t → PySem.W.notFirst K C t = true
def cmpR (neg : Bool) : Oe → Oe
  | .ok (.bl r) st => .ok (.bl (if neg = true then !r else r)) st
  | .exc c fs st => .exc c fs st
  | _ => .stuck
def eqO (call : Nat → Gb) (dfl : Nat → Nat → Option (List D)) (eqf : Nat → Option Nat) (eqk : Nat → Kd → Bool) (neg : Bool) (a b : D) (st : Store) : Oe := match objD st a with
  | some (c, _) => (match eqf c, kdOf st b with
    | some i, some k => if eqk c k = true then cmpR neg (callP call dfl i [a, b] st) else .stuck
    | _, _ => .stuck)
  | none => if neg = true then neP a b st else eqP a b st
theorem cmpR_post {w : Wd} {neg : Bool} {Q : VK} {E : XK} {o : Oe} (h : PostE T w Q E (cmpR neg o)) : PostE T w (fun v H => ∃ r, v = .bl r ∧ Q (.bl (if neg = true then !r else r)) H) E o := by
  cases o with
  | stuck => exact h
  | exc c fs st => exact h
  | ok d st =>
    cases d with
    | bl r => exact fun u H v l s rv => ⟨r, rv.bl_inv, h u H _ l s (.d (.bl _))⟩
    | _ => exact h.elim
theorem eqO_ok {call : Nat → Gb} {dfl : Nat → Nat → Option (List D)} {k : Nat} {eqf : Nat → Option Nat} {eqk : Nat → Kd → Bool} {neg : Bool} (CF : FnsOk T X.prog X.w X.K X.mg X.base call dfl k) (EQ : EqOk T X.K eqf eqk) (hK : T.K = X.K) (hr : Room (k + 1) X.A) (hG : X.A.guards = some []) (tk : Takes X W) :
    OpD T X W (compareOp (if neg = true then .NotEq else .Eq)) (eqO call dfl eqf eqk neg) := by
  have hu : X.A.units + 64 < cLine := by have := hr.un; omega
  intro pins s σ H w st dx dy vx vy ux uy Q I hs rx ry r1 r2 hp
  unfold eqO at hp
  split at hp
  · rename_i c fs ho
    split at hp
    · rename_i i kd hi hkd
      split at hp
      · rename_i hek
        obtain ⟨a, C, dx', fvs, rfl, h1, h2, _⟩ := obj_at hs rx ho
        obtain ⟨f, hf, e1, e2, e3, e4⟩ := EQ.ok c i C hi h1
        obtain ⟨t, ht, lt⟩ := typ_at (io := fun _ _ => none) hK I hs ry r2 hkd
        have hnf := EQ.nf c kd C t hek h1 ht
        obtain rfl : ux = Value.ref a := r1
        obtain ⟨mA, O, _⟩ := ins_get I.hok h2
        obtain ⟨od, J, _⟩ := O.look
        have hp2 := cmpR_post hp
        cases hd : dfl i [dx, dy].length with
        | none => simp only [callP, hd] at hp2; exact hp2.elim
        | some dv =>
        simp only [callP, hd] at hp2
        obtain ⟨f', fd, ps, dvs, dsv, g1, g2, g3, g4, g5, g6⟩ := CF.ok i _ dv hd
        rw [hf] at g1
        cases g1
        have rr : Rvs T w ([dx, dy] ++ dv) ([V.ref a, vy] ++ dvs) := (Rvs.cons rx (.cons ry .nil)).app (g4 w.F).rvs
        have vv : Vals ([V.ref a, vy] ++ dvs) ([Value.ref a, uy] ++ dsv) := L2.Vals.append (.cons rfl (.cons r2 .nil)) g5
        have hsp : spOf T ([dx, dy].length + dv.length) (call i) ([V.ref a, vy] ++ dvs) H (fun v H => ∃ r, v = .bl r ∧ Q (.bl (if neg = true then !r else r)) H) (WE W σ) := ⟨by rw [← rr.len, List.length_append], w, st, _, hs, rr, hp2⟩
        have ll : ([Value.ref a, uy] ++ dsv).length = ps.length := vv.length.symm.trans (g2.len _ _ _ _ hsp)
        have go : ∀ (A : Around), Room k A → A.guards = some [] → Env0 X.prog X.w X.K X.mg X.base A X.stack s H → wpAny (model X.prog X.w) A (PySem.call (.ref f) [.ref a, uy]) (fun v s' => ∃ r, v = .bool r ∧ EP X pins σ Q (.bool (if neg = true then !r else r)) s') X.xe s := fun A hrA hgA e0 => by
          refine wpAny_call (codeAny_mono (g2.go A X.stack s H ⟨[.ref a, uy], []⟩ _ _ _ (WE W σ) hrA hgA e0 (g6 s [.ref a, uy] I.kIn ll) vv hsp) fun z s2 hz => ?_)
          rcases z with e | (u | _ | _ | _)
          · exact passAt tk σ pins H s e s2 I hz
          all_goals first
            | (obtain ⟨v, H', J2, rv, r, ev, q⟩ := I.after hz; subst ev; cases rv; exact ⟨r, rfl, .bl _, H', J2, rfl, q⟩)
            | exact hz.elim
        cases neg with
        | false =>
          obtain ⟨m, hF⟩ := I.fr
          refine PySem.W.cmp_K (op := .Eq) (tb := t) (by omega) hF I.ok.mod.kin J lt hnf e1 e2 (wpAny_mono (go X.A (hr.mono (Nat.le_succ k)) hG I.env0) (fun v s2 hv => ?_) fun _ _ z => z)
          obtain ⟨r, rfl, q⟩ := hv
          exact q
        | true =>
          exact ne_own (by omega) I.kIn J lt hnf e1 e2 e3 e4 (go X.A.in1 hr.in1 hG I.env0.in1)
      · exact hp.elim
    · exact hp.elim
  · cases neg with
    | false => exact eqP_ok hK hu pins s σ H w st dx dy vx vy ux uy Q I hs rx ry r1 r2 hp
    | true => exact neP_ok hK hu pins s σ H w st dx dy vx vy ux uy Q I hs rx ry r1 r2 hp
end
end Ev
set_option Elab.async false
set_option linter.all false
set_option maxRecDepth 100000
set_option maxHeartbeats 2000000
namespace Ev
open PySem PySem.Spec L2
section
variable {T : Tb} {X : Cx} {W : WX}
/-! ### bools told apart -/
theorem sub_bools (a b : Bool) : Gives (Builtin.«int.__sub__» ⟨[.bool a, .bool b], []⟩) (.int ((if a = true then (1 : Int) else 0) - if b = true then (1 : Int) else 0)) :=
  .of_wp fun M A E s Q h => by obtain ⟨hp, g, d, tk, os⟩ := s; wp_walk; exact ⟨_, rfl, h⟩
theorem op_sub_bb : OpR X (binaryOp .Sub) (fun x y H Q => ∃ i j, x = .bl i ∧ y = .bl j ∧ Q (.int ((if i = true then (1 : Int) else 0) - if j = true then (1 : Int) else 0)) H) := by
  intro pins s σ H x y v u Q I rx ry h
  obtain ⟨i, j, rfl, rfl, q⟩ := h
  cases rx
  cases ry
  exact binaryOp_gives (op := .Sub) (T := "bool") rfl rfl PySem.F.fills_bool_sub PySem.F.slot_bool_sub PySem.F.entry_int_sub (PySem.F.args_int_sub_2 _ _) (sub_bools i j) trivial ⟨.int _, H, I.tok _, ⟨_, rfl⟩, q⟩
/-- an operator on values: bools under - too -/
def binQ (op : Operator) (a b : D) (st : Store) : Oe := match a, b with
  | .bl i, .bl j => if op = .Sub then .ok (.int ((if i = true then (1 : Int) else 0) - if j = true then (1 : Int) else 0)) st else .stuck
  | a, b => binP op a b st
theorem binQ_ok {op : Operator} (hK : T.K = X.K) : OpD T X W (binaryOp op) (binQ op) := by
  intro pins s σ H w st dx dy vx vy ux uy Q I hs rx ry r1 r2 hp
  by_cases hb : ∃ i j, dx = .bl i ∧ dy = .bl j
  · obtain ⟨i, j, rfl, rfl⟩ := hb
    simp only [binQ] at hp
    split at hp
    · rename_i e
      subst e
      rw [rx.bl_inv] at r1
      rw [ry.bl_inv] at r2
      exact op_sub_bb pins s σ H _ _ ux uy Q I r1 r2 ⟨i, j, rfl, rfl, post_same hs (.int _) hp⟩
    · exact hp.elim
  · have e : binQ op dx dy st = binP op dx dy st := by
      cases dx <;> cases dy <;> first | rfl | exact absurd ⟨_, _, rfl, rfl⟩ hb
    rw [e] at hp
    exact binP_ok hK pins s σ H w st dx dy vx vy ux uy Q I hs rx ry r1 r2 hp
/-! ### chains of comparisons -/
def fChain (g g' : D → D → Store → Oe) (a b c : Fx) : Fx := fun env st => (a env st).bind fun x st1 => (b env st1).bind fun y st2 => (g x y st2).bind fun k st3 => match k with
  | .bl true => (c env st3).bind fun z st4 => g' y z st4
  | .bl false => .ok (.bl false) st3
  | _ => .stuck
theorem de_chain {op op' : CmpOp} {g g' : D → D → Store → Oe} (ho : OpD T X W (compareOp op) g) (ho' : OpD T X W (compareOp op') g') {a b c : Expr} {fa fb fc : Fx} {pos : Pos} (ha : PE X a (tE T fa W)) (hb : PE X b (tE T fb W)) (hc : PE X c (tE T fc W))
    (hm : lastMarks [op, op'] [b, c] = false) : PE X (.Compare a [op, op'] [b, c] pos) (tE T (fChain g g' fa fb fc) W) := by
  refine ⟨fun pins s σ H Q I h => ?_⟩
  obtain ⟨w, env, st, hs, he, hp⟩ := h
  refine PyProof.Rows.Compare_chain (thn (ha.run pins s σ H _ I (tE.bind hs he hp)) fun v s1 ⟨x, H1, I1, r1, u1, d1, st1, l1, hs1, he1, rx, hp1⟩ => PyProof.Rows.chain_link (thn (hb.run pins s1 σ H1 _ I1 (tE.bind hs1 he1 hp1)) fun u s2 ⟨y, H2, I2, r2, u2, d2, st2, l2, hs2, he2, ry, hp2⟩ => ?_)) hm
  refine thn (ho pins s2 σ H2 u2 st2 d1 d2 x y v u _ I2 hs2 (rx.up l2) ry r1 r2 (Post.bind hp2)) fun z s3 ⟨zv, H3, I3, r3, u3, d3, st3, l3, hs3, rz, hp3⟩ => ?_
  cases d3 with
  | bl k =>
    rw [rz.bl_inv] at r3
    cases r3
    refine wpAny_truthy_bool ?_
    cases k with
    | false => exact PyProof.Rows.ite_ff (post_same (Q := Q) hs3 (.bl false) hp3 |> fun q => ⟨.bl false, H3, I3, rfl, q⟩)
    | true =>
      refine PyProof.Rows.ite_tt (PyProof.Rows.chain_last (thn (hc.run pins s3 σ H3 _ I3 (tE.bind hs3 (he2.up l3) hp3)) fun w' s4 ⟨zv', H4, I4, r4, u4, d4, st4, l4, hs4, he4, rz', hp4⟩ => ?_))
      exact ho' pins s4 σ H4 u4 st4 d2 d4 y zv' u w' Q I4 hs4 ((ry.up l3).up l4) rz' r2 r4 hp4
  | _ => exact hp3.elim
/-! ### a += e -/
def sAug (i : Nat) (f : Fx) : Fs := fun env st => match env[i]? with
  | some (some (.int a)) => (f env st).thn env fun d st1 => (match d with
    | .int b => .nx (env.set i (some (.int (a + b)))) st1
    | _ => .stuck)
  | _ => .stuck
theorem ds_aug {i : Nat} {x : Str} {e : Expr} {f : Fx} {pos pos' : Pos} (hN : X.N.Nodup) (hi : X.N[i]? = some x) (hx : Loc X.env.scope x) (he : PE X e (tE T f W)) (hf : X.fn x = true ∨ X.env.scope.names.lookup x = some .local) : PS X (.AugAssign (.Name x pos') .Add e pos) (tS T (sAug i f) W) :=
  PS.imp (ps_aug hN hi hx he ip_add hf) fun Dn σ H ⟨w, env, st, hs, hE, hp⟩ => by
    unfold sAug at hp
    split at hp
    · rename_i a ha
      obtain ⟨v, h1, h2⟩ := hE.at_ i _ ha
      rw [h2.int_inv] at h1
      refine ⟨_, h1, ?_⟩
      obtain ⟨w1, env1, st1, a1, a2, a3⟩ := sE hs hE hp
      refine ⟨w1, env1, st1, a1, a2, a3.imp (fun y H1 ⟨u, d, st2, l, s2, e2, ry, hp2⟩ => ?_) fun _ _ _ z => z⟩
      split at hp2
      · rename_i b
        exact ⟨a, b, rfl, ry.int_inv, hp2 u _ H1 (Le.rfl' _) s2 (e2.set (.d (.int _)))⟩
      · exact hp2.elim
    · exact hp.elim
/-- o[i] += e, an own list of ints -/
def rGetL (K : PySem.W.Frag) : V → V → Hp → VK → Prop := fun o i H Q => ∃ a vs k v, o = .ref a ∧ i = .int k ∧ SqL K H a vs ∧ atI vs k = some v ∧ Q v H
theorem get_listP : PGet X (rGetL X.K) := by
  intro pins s σ H o i ov iv Q I ro ri h
  obtain ⟨p, xs, k, z, rfl, rfl, hq, he, q⟩ := h
  cases ro
  obtain ⟨t, rfl⟩ := ri
  obtain ⟨its, r, pl, hz⟩ := I.list hq
  obtain ⟨j, h1, h2, h3, h4, h5⟩ := atI_get he
  obtain ⟨w, ew, rw'⟩ := r.get h2
  have hl := r.length
  have hn := line63
  have fin : EP X pins σ Q w s := ⟨z, H, I, rw', q⟩
  by_cases h0 : 0 ≤ k
  · have hj : k.toNat = j := by
      rw [seqIndex_of h0 h5] at h1
      exact Option.some.inj h1
    exact wpAny_getItem_list pl.isList h0 (by omega) (by rw [hj]; simpa using ew) fin
  · have hj : (k + (its.toArray.size : Int)).toNat = j := by
      rw [seqIndex_neg (by omega) h4] at h1
      rw [List.size_toArray, ← hl]
      exact Option.some.inj h1
    exact wpAny_getItem_list_neg (Q := EP X pins σ Q) pl.isList (by omega) (by rw [List.size_toArray] <;> omega) (by omega) (by rw [hj]; simpa using ew) fin
def sAugS (o i e : Fx) : Fs := fun env st => (o env st).thn env fun a st1 => (i env st1).thn env fun k st2 => match seqD st2 a, k with
  | some (false, xs), .int kk => (match atI xs kk with
    | some (.int x) => (e env st2).thn env fun y st3 => (match y with
      | .int yy => (match setP a (.int kk) (.int (x + yy)) st3 with
        | some st4 => .nx env st4
        | none => .stuck)
      | _ => .stuck)
    | _ => .stuck)
  | _, _ => .stuck
theorem ds_augS (hK : T.K = X.K) (hu : X.A.units + 1 < cLine) {o i e : Expr} {fo fi fe : Fx} {pos tpos : Pos} (ho : PE X o (tE T fo W)) (hi : PE X i (tE T fi W)) (he : PE X e (tE T fe W))
    (ha : ∀ ov iv new, augStore i ov iv new = (do holding [new, ov, iv] (setItem ov iv new); release [new, ov, iv] []; pure .next)) : PS X (.AugAssign (.Subscript o i tpos) .Add e pos) (tS T (sAugS fo fi fe) W) := by
  refine ⟨fun pins s σ H Dn I h => ?_⟩
  obtain ⟨w, env, st, hs, hE, hp⟩ := h
  obtain ⟨w1, env1, st1, a1, a2, a3⟩ := sE hs hE hp
  refine wpAny_AugAssign_SubscriptAny (thn (ho.run pins s σ H _ I ⟨w1, env1, st1, a1, a2, a3⟩) fun ov s1 ⟨x1, H1, I1, r1, u1, d1, st2, l1, hs1, he1, rx1, hp1⟩ => ?_) ha
  obtain ⟨w2, env2, st3, b1, b2, b3⟩ := sE hs1 he1 hp1
  refine thn (hi.run pins s1 σ H1 _ I1 ⟨w2, env2, st3, b1, b2, b3⟩) fun iv s2 ⟨x2, H2, I2, r2, u2, d2, st4, l2, hs2, he2, rx2, hp2⟩ => ?_
  split at hp2
  · rename_i xs kk hq
    split at hp2
    · rename_i x hx
      obtain ⟨a, vs, rfl, g1, g2⟩ := seq_at hs2 (rx1.up l2) hq
      rw [if_neg Bool.false_ne_true, hK] at g2
      obtain ⟨v, g3, g4⟩ := rps_atI g1 hx
      have ev : v = .int x := by cases g4; rfl
      subst ev
      have e2 := rx2.int_inv
      subst e2
      refine thn (get_listP pins s2 σ H2 (.ref a) (.int kk) ov iv (fun v H' => v = .int x ∧ H' = H2) I2 r1 r2 ⟨a, vs, kk, _, rfl, rfl, g2, g3, rfl, rfl⟩) fun old s3 ⟨x3, H3, I3, r3, e3, e4⟩ => ?_
      subst e3
      subst e4
      obtain ⟨w5, env5, st5, c1, c2, c3⟩ := sE hs2 he2 hp2
      refine thn (he.run pins s3 σ H3 _ I3 ⟨w5, env5, st5, c1, c2, c3⟩) fun yv s4 ⟨x4, H4, I4, r4, u4, d4, st6, l4, hs4, he4, rx4, hp4⟩ => ?_
      split at hp4
      · rename_i yy
        rw [rx4.int_inv] at r4
        refine thn (ip_add pins s4 σ H4 (.int x) (.int yy) old yv (fun v H' => v = .int (x + yy) ∧ H' = H4) I4 r3 r4 ⟨x, yy, rfl, rfl, rfl, rfl⟩) fun new s5 ⟨x5, H5, I5, r5, e5, e6⟩ => ?_
        subst e5
        subst e6
        split at hp4
        · rename_i st7 hset
          refine thn (setP_ok (Φ := fun _ _ => True) (Q := fun H' => Dn.nx σ H') hu I5 hs4 ((rx1.up l2).up l4) (.d (.int kk)) (.d (.int _)) r1 r2 r5 hset fun x H' l s' => ?_) fun _ s6 ⟨H6, I6, q6⟩ => ⟨σ, H6, I6, q6⟩
          exact hp4 x σ H' l s' (he4.up l)
        · exact hp4.elim
      · exact hp4.elim
    · exact hp2.elim
  · exact hp2.elim
/-! ### methods of lists -/
def lstC (st : Store) : D → Option (Nat × List D)
  | .ref i => match st[i]? with
    | some (.lst xs) => some (i, xs)
    | _ => none
  | _ => none
theorem lstC_at {w : Wd} {st : Store} {H : Hp} {d : D} {v : V} {i : Nat} {xs : List D} (hs : StOk T w st H) (r : Rv T w d v) (h : lstC st d = some (i, xs)) : ∃ a vs, v = .ref a ∧ w.ρ[i]? = some a ∧ st[i]? = some (.lst xs) ∧ w.F a = none ∧ H a = some (.lst vs) ∧ Rps T w.F xs vs := by
  cases r with
  | d r => cases r <;> cases h
  | fun_ hf _ => cases d <;> first | (cases hf; done) | (cases h; done)
  | @ref j a ha =>
    simp only [lstC] at h
    split at h
    · rename_i hx
      cases h
      obtain ⟨h1, vs, h2, h3⟩ := hs.cell _ _ _ hx ha
      exact ⟨a, vs, rfl, ha, hx, h1, h2, h3⟩
    · cases h
/-- o.append(e) -/
def fApp (o e : Fx) : Fx := fun env st => (o env st).bind fun a st1 => match lstC st1 a with
  | some _ => (e env st1).bind fun d st2 => (match frz d st2 with
    | some (z, st3) => (match lstC st3 a with
      | some (i, xs) => if xs.length < sizeLine then .ok .non (st3.set i (.lst (xs ++ [z]))) else .stuck
      | none => .stuck)
    | none => .stuck)
  | none => .stuck
theorem de_app (hK : T.K = X.K) {o e : Expr} {fo fe : Fx} {apos cpos : Pos} (ho : PE X o (tE T fo W)) (he : PE X e (tE T fe W)) (hbase : attributeBase o "append" X.env (eval o X.env) = eval o X.env)
    (hfew : ((backTo cpos (starEach [e] X.env)).all (fun x => !x.1) && (backToKw cpos (keywordEach [] X.env)).all (fun x => x.1.isSome) && decide ([e].length + ([] : List Keyword).length + (if ([] : List Keyword).isEmpty then 0 else 1) < 30)) = true)
    (hline : (apos.endLine == cpos.line) = true) (h1 : starEach [e] X.env = (false, eval e X.env) :: starEach [] X.env) : PE X (.Call (.Attribute o "append" apos) [e] [] cpos) (tE T (fApp fo fe) W) :=
  PE.imp (pe_bm PySem.F.plainAttrs_list PySem.F.slot_list_append PySem.F.type_list_append mt_append ho (pa_cons he pa_nil h1) hbase hfew hline h1 (by rfl)) fun σ H Q ⟨w, env, st, hs, hE, hp⟩ => by
    obtain ⟨w1, env1, st1, a1, a2, a3⟩ := tE.bind hs hE hp
    refine ⟨w1, env1, st1, a1, a2, a3.imp (fun v H1 ⟨u, d, st2, l, s2, e2, rv, hp2⟩ => ?_) fun _ _ _ z => z⟩
    split at hp2
    · rename_i pr hpr
      obtain ⟨i0, xs0⟩ := pr
      obtain ⟨a, vs, rfl, g1, g2, g3, g4, g5⟩ := lstC_at s2 rv hpr
      refine ⟨.inl ⟨rfl, vs, SqL.of g4⟩, ?_⟩
      obtain ⟨w3, env3, st3, b1, b2, b3⟩ := tE.bind s2 e2 hp2
      refine ⟨w3, env3, st3, b1, b2, b3.imp (fun y H2 ⟨u2, d2, st4, l2, s4, e4, ry, hp4⟩ => ?_) fun _ _ _ z => z⟩
      split at hp4
      · rename_i z st5 hf
        obtain ⟨u3, l3, s5, r5⟩ := frz_ok s4 ry hf
        split at hp4
        · rename_i i xs hq
          split at hp4
          · rename_i hz
            obtain ⟨a', vs', e', g1', g2', g3', g4', g5'⟩ := lstC_at s5 ((rv.up l2).up l3) hq
            cases e'
            refine ⟨a, vs', y, rfl, rfl, g4', by rw [← g5'.len]; exact hz, ?_⟩
            exact hp4 u3 _ _ l3 (s5.wr (c := .lst (xs ++ [z])) g1' g3' ⟨g3', _, upd_same, g5'.app (.cons r5 .nil)⟩) (.d .non)
          · exact hp4.elim
        · exact hp4.elim
      · exact hp4.elim
    · exact hp2.elim
end
end Ev
set_option Elab.async false
set_option linter.all false
set_option maxRecDepth 100000
set_option maxHeartbeats 2000000
namespace Ev
open PySem PySem.Spec L2
/-! ### zip of two rows, each a list or a tuple -/
/-- a row's iterator; b: the row is a tuple -/
def rowIt (b : Bool) (h : Heap) (it l : Addr) (i : Nat) : Prop := if b = true then h.IsTupleIter it l i else h.IsListIter it l i
def rowAt (b : Bool) (h : Heap) (l : Addr) (items : Array Value) : Prop := if b = true then h.IsTuple l items else h.IsList l items
def rowSq (K : PySem.W.Frag) (b : Bool) (H : Hp) (a : Addr) (vs : List V) : Prop := if b = true then SqT K H a vs else SqL K H a vs
def rowObj (b : Bool) (l : Addr) : Obj := if b = true then { cls := .type "tuple_iterator", data := .fields #[.ref l, .int 0 0] } else { cls := .type "list_iterator", data := .fields #[.ref l, .int 0 0] }
theorem row_draws {P : Program} {w : World} {A : Around} (hh : A.handled = none) (b : Bool) (it l : Addr) (hne : l ≠ it) (items : Array Value) : Draws P w A it [it, l] items.size (fun i v => items[i]? = some v) (fun i h => rowIt b h it l i ∧ rowAt b h l items) := by
  cases b with
  | true => exact Draws.tuple hh it l hne items
  | false => exact Draws.list hh it l hne items
theorem row_begins (b : Bool) (l : Addr) (items : Array Value) : Begins (.ref l) (rowObj b l) (fun h => rowAt b h l items) := by
  cases b with
  | true => exact begins_tuple l items
  | false => exact begins_list l items
theorem row_it0 {b : Bool} {h : Heap} {it l : Addr} (e : h.get? it = some (rowObj b l)) : rowIt b h it l 0 := by
  cases b with
  | true => exact ⟨_, e, rfl, rfl⟩
  | false => exact ⟨_, e, rfl, rfl⟩
theorem rowIt_at {b : Bool} {h h' : Heap} {it l : Addr} {i : Nat} (x : rowIt b h it l i) (k : ∀ o, h.get? it = some o → h'.get? it = some o) : rowIt b h' it l i := by
  cases b with
  | true => exact Heap.IsTupleIter.at x k
  | false => exact Heap.IsListIter.at x k
theorem rowIt_obj {b : Bool} {h : Heap} {it l : Addr} {i : Nat} (x : rowIt b h it l i) : ∃ o, h.get? it = some o ∧ ∀ v, o.data ≠ .cell v := by
  cases b with
  | true => obtain ⟨o, e, _, d⟩ := x; exact ⟨o, e, fun v q => by rw [d] at q; cases q⟩
  | false => obtain ⟨o, e, _, d⟩ := x; exact ⟨o, e, fun v q => by rw [d] at q; cases q⟩
section
variable {X : Cx}
theorem row_its {pins : List (Addr × Obj)} {σ : L2.St} {H : Hp} {s : Shared} {b : Bool} {a : Addr} {vs : List V} (I : Inv X pins σ H s) (h : rowSq X.K b H a vs) : ∃ its : List Value, Vals vs its ∧ rowAt b s.heap a its.toArray ∧ ∃ o, s.heap.get? a = some o := by
  cases b with
  | true =>
    obtain ⟨its, r, p, _⟩ := I.tuple h
    obtain ⟨o, e, _⟩ := id p
    exact ⟨its, r, p, o, e⟩
  | false =>
    obtain ⟨its, r, p, _⟩ := I.list h
    obtain ⟨o, n, e, _⟩ := id p
    exact ⟨its, r, p.isList, o, e⟩
end
/-- the pairs of two rows that stay, as far as both go -/
def ItP (K : PySem.W.Frag) (b b2 : Bool) (a c : Addr) (xs ys : List V) : It :=
  ⟨fun i H => rowSq K b H a xs ∧ rowSq K b2 H c ys ∧ i < xs.length ∧ i < ys.length,
    fun i H v H' => ∃ T x y, v = .ref T ∧ H T = none ∧ H' = upd H T (.tup [x, y]) ∧ xs[i]? = some x ∧ ys[i]? = some y,
    fun i H => rowSq K b H a xs ∧ rowSq K b2 H c ys ∧ min xs.length ys.length = i⟩
theorem turn_pairs {P : Program} {w : World} {K : PySem.W.Frag} {elts : List Expr} {kk : Nat} {tpos : Pos} {a c z TI TO i1 i2 : Addr} {b b2 : Bool} {xs ys : List V} (S : ZipSep2 z TI TO i1 i2 [i1, a] [i2, c]) (na : a ≠ i1) (nc : c ≠ i2) :
    Turn P w K (.Tuple elts kk tpos) (ItP K b b2 a c xs ys) [z, TI, TO, i1, i2] z (fun i h => IsZip h z TI TO .none ∧ IsTupOf2 h TI (.ref i1) (.ref i2) ∧ (∃ x y, IsTupOf2 h TO x y) ∧ rowIt b h i1 a i ∧ rowIt b2 h i2 c i) where
  mem := by simp
  obj := fun i h st d hd => by
    obtain ⟨hz, hTI, ⟨x, y, hTO⟩, h1, h2⟩ := st
    have e' : d = z ∨ d = TI ∨ d = TO ∨ d = i1 ∨ d = i2 := by simpa using hd
    rcases e' with rfl | rfl | rfl | rfl | rfl
    · exact ⟨_, hz, fun v q => nomatch q⟩
    · exact ⟨_, hTI, fun v q => nomatch q⟩
    · exact ⟨_, hTO, fun v q => nomatch q⟩
    · exact rowIt_obj h1
    · exact rowIt_obj h2
  keep := fun i h h' st k => by
    obtain ⟨hz, hTI, ⟨x, y, hTO⟩, h1, h2⟩ := st
    exact ⟨k z (by simp) _ hz, k TI (by simp) _ hTI, ⟨x, y, k TO (by simp) _ hTO⟩, rowIt_at h1 fun o q => k i1 (by simp) o q, rowIt_at h2 fun o q => k i2 (by simp) o q⟩
  item := by
    intro X hP hw hK hc i pins s σ H E I hf st hg
    subst hP hw hK
    obtain ⟨hz, hTI, hTO, h1, h2⟩ := st
    obtain ⟨hx, hy, l1, l2⟩ := hg
    obtain ⟨its, rv, p1, _⟩ := row_its I hx
    obtain ⟨its2, rv2, p2, _⟩ := row_its I hy
    have hh := I.ok.hd hc
    have W := WalksT.zipD2 S (row_draws (P := X.prog) (w := X.w) (A := X.A.in1) hh b i1 a na its.toArray) (row_draws (P := X.prog) (w := X.w) (A := X.A.in1) hh b2 i2 c nc its2.toArray)
    have e1 := rv.length
    have e2 := rv2.length
    refine W.item i s _ _ (by rw [List.size_toArray, List.size_toArray]; omega) ⟨hz, hTI, hTO, ⟨h1, p1⟩, ⟨h2, p2⟩⟩ fun T vals h' tk hv hT hTup mid k1 => ⟨_, rfl, W.go elts kk tpos i T { s with heap := h', toks := tk } _ _ mid fun h2' st2 k2 => ?_⟩
    obtain ⟨x1, x2, q1, q2, rfl⟩ := hv
    have q1 : its.toArray[i]? = some x1 := q1
    have q2 : its2.toArray[i]? = some x2 := q2
    obtain ⟨x, g1, g2⟩ : ∃ x, xs[i]? = some x ∧ RelV x x1 := by
      obtain ⟨u, g, r⟩ := rv.get (List.getElem?_eq_getElem l1)
      have q1' : its[i]? = some x1 := by simpa using q1
      rw [q1'] at g
      cases g
      exact ⟨_, List.getElem?_eq_getElem l1, r⟩
    obtain ⟨y, g3, g4⟩ : ∃ y, ys[i]? = some y ∧ RelV y x2 := by
      obtain ⟨u, g, r⟩ := rv2.get (List.getElem?_eq_getElem l2)
      have q2' : its2[i]? = some x2 := by simpa using q2
      rw [q2'] at g
      cases g
      exact ⟨_, List.getElem?_eq_getElem l2, r⟩
    obtain ⟨oT, t1, t2, nT, t3⟩ := hTup
    have t4 := k2 T oT (W.apart i T h' mid) t1
    have new : ObjOk X.prog X.w (upd H T (.tup [x, y])) h2' T (.tup [x, y]) := ⟨by show 2 ≤ sizeLine; decide, [x1, x2], .cons g2 (.cons g4 .nil), ⟨oT, t4, t2, nT, t3⟩⟩
    have sub : ∀ d, d ∉ [z, TI, TO, i1, i2] → d ∉ [z, TO, i1, i2] := fun d hd q => hd (by simp only [List.mem_cons, List.not_mem_nil, or_false] at q ⊢; rcases q with q | q | q | q <;> simp [q])
    have I1 : Inv X pins σ (upd H T (.tup [x, y])) { s with heap := h2', toks := tk } := I.turnedNew (ch := [z, TI, TO, i1, i2]) (fun d o hd e => k2 d o (sub d hd) (k1 d o (sub d hd) e)) hf hT new
    obtain ⟨s1, s2, s3, s4, s5⟩ := st2
    refine ⟨.ref T, _, I1, rfl, ⟨T, x, y, rfl, I.hok.fresh hT, rfl, g1, g3⟩, ⟨s1, s2, s3, s4.1, s5.1⟩, fun d hd => ?_⟩
    obtain ⟨od, ed⟩ : ∃ o, s.heap.get? d = some o := by
      have e' : d = z ∨ d = TI ∨ d = TO ∨ d = i1 ∨ d = i2 := by simpa using hd
      obtain ⟨_, _, hTO'⟩ := hTO
      obtain ⟨o1, w1, _⟩ := rowIt_obj h1
      obtain ⟨o2, w2, _⟩ := rowIt_obj h2
      rcases e' with rfl | rfl | rfl | rfl | rfl
      · exact ⟨_, hz⟩
      · exact ⟨_, hTI⟩
      · exact ⟨_, hTO'⟩
      · exact ⟨_, w1⟩
      · exact ⟨_, w2⟩
    rw [upd_ne (Nat.ne_of_lt (Nat.lt_of_lt_of_le (Heap.lt_size ed) hT))]
    exact (hf d hd).1
  done := by
    intro X hP hw hK hc i pins s σ H E I hf st hg
    subst hP hw hK
    obtain ⟨hz, hTI, hTO, h1, h2⟩ := st
    obtain ⟨hx, hy, hmin⟩ := hg
    obtain ⟨its, rv, p1, _⟩ := row_its I hx
    obtain ⟨its2, rv2, p2, _⟩ := row_its I hy
    have hh := I.ok.hd hc
    have W := WalksT.zipD2 S (row_draws (P := X.prog) (w := X.w) (A := X.A.in1) hh b i1 a na its.toArray) (row_draws (P := X.prog) (w := X.w) (A := X.A.in1) hh b2 i2 c nc its2.toArray)
    have e1 := rv.length
    have e2 := rv2.length
    have en : min its.toArray.size its2.toArray.size = i := by
      rw [List.size_toArray, List.size_toArray]
      omega
    have sub : ∀ d, d ∉ [z, TI, TO, i1, i2] → d ∉ [z, TO, i1, i2] := fun d hd q => hd (by simp only [List.mem_cons, List.not_mem_nil, or_false] at q ⊢; rcases q with q | q | q | q <;> simp [q])
    exact W.done s _ _ (by rw [en]; exact ⟨hz, hTI, hTO, ⟨h1, p1⟩, ⟨h2, p2⟩⟩) fun h' tk k => ⟨rfl, I.turnedL (t' := tk) (ch := [z, TI, TO, i1, i2]) (fun d o hd e => k d o (sub d hd) e) hf⟩
  self := fun A i s Q E st h => wpAny_pyIter_zip st.1 h
section
variable {T : Tb} {X : Cx} {W : WX}
theorem it_pairs {w : Wd} {b b2 : Bool} {a c : Addr} {vs us : List V} {ds es : List D} (hK : T.K = X.K) (h1 : rowSq T.K b w.F a vs) (h2 : rowSq T.K b2 w.F c us) (r1 : Rps T w.F ds vs) (r2 : Rps T w.F es us) : ItOk T w (List.zipWith (fun x y => D.tup [x, y]) ds es, none) (ItP X.K b b2 a c vs us) := fun u st H l hs _ => by
  have up : ∀ {b : Bool} {a : Addr} {vs : List V}, rowSq T.K b w.F a vs → rowSq X.K b H a vs := fun {b a vs} h => by
    rw [← hK]
    cases b with
    | true => exact hs.sub.sqt (l.F.sqt h)
    | false => exact hs.sub.sql (l.F.sql h)
  have e1 := r1.len
  have e2 := r2.len
  refine ⟨fun i d hd => ?_, up h1, up h2, by rw [List.length_zipWith]; omega⟩
  rw [List.getElem?_zipWith] at hd
  cases q1 : ds[i]? with
  | none => rw [q1] at hd; cases hd
  | some d1 =>
    cases q2 : es[i]? with
    | none => rw [q1, q2] at hd; cases hd
    | some d2 =>
      rw [q1, q2] at hd
      cases hd
      obtain ⟨v1, g1, g2⟩ := r1.get q1
      obtain ⟨v2, g3, g4⟩ := r2.get q2
      refine ⟨⟨up h1, up h2, (List.getElem?_eq_some_iff.mp g1).1, (List.getElem?_eq_some_iff.mp g3).1⟩, fun x H' ⟨TT, x1, x2, e3, e4, e5, e6, e7⟩ => ?_⟩
      subst e3 e5
      rw [g1] at e6
      rw [g3] at e7
      cases e6
      cases e7
      have l2 : Le u (u.frz TT (.tup [v1, v2])) := Le.frz hs e4
      exact ⟨_, l2, hs.newF e4, .tup (SqT.of (by rw [Wd.fF, upd_same])) (.cons (g2.up (l.tr l2).F) (.cons (g4.up (l.tr l2).F) .nil))⟩
def iZip (f g : Fx) : Fi := fun env st => (f env st).bind fun a st1 => (g env st1).bind fun c st2 => match frzs [a, c] st2 with
  | some ([x, y], st3) => (match seqD st3 x, seqD st3 y with
    | some (_, xs), some (_, ys) => .ok (List.zipWith (fun x y => D.tup [x, y]) xs ys, none) st3
    | _, _ => .stuck)
  | _ => .stuck
theorem seq_rp {w : Wd} {st : Store} {d : D} {v : V} {b : Bool} {xs : List D} (r : Rp T w.F d v) (h : seqD st d = some (b, xs)) : ∃ a vs, v = .ref a ∧ rowSq T.K b w.F a vs ∧ Rps T w.F xs vs := by
  cases r with
  | tup h1 h2 => cases h; exact ⟨_, _, rfl, h1, h2⟩
  | lst h1 h2 => cases h; exact ⟨_, _, rfl, SqL.of h1, h2⟩
  | scr h1 h2 => cases h; exact ⟨_, _, rfl, h1, h2⟩
  | _ => cases h
theorem di_zip (hK : T.K = X.K) {e e2 : Expr} {f g : Fx} {p pos tpos : Pos} {elts : List Expr} {kk : Nat} (hg : Gl X "zip") (hm : X.mg "zip" = none) (he : PE X e (tE T f W)) (he2 : PE X e2 (tE T g W))
    (h1 : starEach [e, e2] X.env = (false, eval e X.env) :: starEach [e2] X.env) (h2 : starEach [e2] X.env = (false, eval e2 X.env) :: starEach [] X.env) (hpl : (backTo pos (starEach [e2] X.env)).any (·.1) = false) : PI X (.Tuple elts kk tpos) (.Call (.Name "zip" p) [e, e2] [] pos) (tI T (iZip f g) W) := by
  refine ⟨fun pins s σ H R I h => ?_⟩
  obtain ⟨w, env, st, hs, hE, hp⟩ := h
  have ha := pa_cons he (pa_cons he2 pa_nil h2) h1
  refine PyProof.Rows.Call_ (ld_blt I hg hm PyProof.Rows.boot_zip (PyProof.Rows.callWith_type1 (thn (ha.run pos pins s σ H _ I (tA2 hs hE hp)) fun us s1 ⟨vs, H1, I1, r1, x, y, u, d, d2, st1, ev, l, hs1, he1, rx, ry, hq⟩ => ?_) h1 hpl))
  subst ev
  split at hq
  case h_2 => exact hq.elim
  rename_i a c st3 hf
  obtain ⟨u2, l2, hs3, rr⟩ := frzs_ok hs1 (.cons rx (.cons ry .nil)) hf
  cases rr with
  | cons ra rr =>
  cases rr with
  | cons rc rr =>
  cases rr
  split at hq
  case h_2 => exact hq.elim
  rename_i b xs b2 ys q1 q2
  obtain ⟨a', vs, rfl, g1, g2⟩ := seq_rp ra q1
  obtain ⟨c', us, rfl, g3, g4⟩ := seq_rp rc q2
  cases r1 with
  | @cons _ v1 _ _ ra1 rr =>
  cases rr with
  | @cons _ v2 _ _ rc1 rr =>
  cases rr
  obtain rfl : v1 = Value.ref a' := ra1
  obtain rfl : v2 = Value.ref c' := rc1
  have upS : ∀ {b : Bool} {a : Addr} {vs : List V}, rowSq T.K b u2.F a vs → rowSq X.K b H1 a vs := fun {b a vs} h => by
    rw [← hK]
    cases b with
    | true => exact hs3.sub.sqt h
    | false => exact hs3.sub.sql h
  obtain ⟨its, rv, p1, o1, ho1⟩ := row_its I1 (upS g1)
  obtain ⟨its2, rv2, p2, o2, ho2⟩ := row_its I1 (upS g3)
  refine zip_begins2 (row_begins b a' its.toArray) (row_begins b2 c' its2.toArray) p1 p2 fun h' hz hTI hTO k1 k2 hsz hk => wpAny_pyIter_zip hz ?_
  have I2 : Inv X pins σ H1 { s1 with heap := h' } := I1.kept (t' := s1.toks) hk
  have la : a' < s1.heap.objs.size := Heap.lt_size ho1
  have lc : c' < s1.heap.objs.size := Heap.lt_size ho2
  have S := zip_sep2 (N := s1.heap.objs.size) (fp1 := [a']) (fp2 := [c']) (fun d hd => by rw [List.mem_singleton.mp hd]; exact la) (fun d hd => by rw [List.mem_singleton.mp hd]; exact lc)
  refine ⟨s1.heap.objs.size + 4, [s1.heap.objs.size + 4, s1.heap.objs.size + 2, s1.heap.objs.size + 3, s1.heap.objs.size, s1.heap.objs.size + 1], _, _, H1, rfl, I2, turn_pairs (b := b) (b2 := b2) (xs := vs) (ys := us) S (Nat.ne_of_lt la) (Nat.ne_of_lt (Nat.lt_succ_of_lt lc)), ⟨hz, hTI, ⟨_, _, hTO⟩, row_it0 k1, row_it0 k2⟩, fun d hd => ?_, ?_⟩
  · have e' : d = s1.heap.objs.size + 4 ∨ d = s1.heap.objs.size + 2 ∨ d = s1.heap.objs.size + 3 ∨ d = s1.heap.objs.size ∨ d = s1.heap.objs.size + 1 := by simpa using hd
    have hle : s1.heap.objs.size ≤ d := by
      rcases e' with z | z | z | z | z <;> (rw [z]; first | exact Nat.le_refl _ | exact Nat.le_add_right _ _)
    exact I1.fpOk hle (I1.hok.fresh hle)
  · exact hq u2 H1 _ l2 hs3 (it_pairs hK g1 g3 g2 g4)
end
end Ev
set_option Elab.async false
set_option linter.all false
set_option maxRecDepth 100000
set_option maxHeartbeats 2000000
namespace Ev
open PySem PySem.Spec L2
section
variable {T : Tb} {X : Cx} {W : WX}
/-! ### is of truth values, in of plain values -/
theorem op_isB : OpR X (compareOp .Is) (fun x y H Q => ∃ i j, x = V.bl i ∧ y = V.bl j ∧ Q (.bl (decide (i = j))) H) := by
  intro pins s σ H x y v u Q I rx ry h
  obtain ⟨i, j, rfl, rfl, q⟩ := h
  cases rx
  cases ry
  by_cases e : i = j
  · subst e
    exact wpAny_is_self rfl ⟨.bl true, H, I, rfl, by simpa using q⟩
  · exact wpAny_is_other rfl (fun z => e (Value.bool.inj z)) ⟨.bl false, H, I, rfl, by simpa [e] using q⟩
theorem op_notB : OpR X (compareOp .IsNot) (fun x y H Q => ∃ i j, x = V.bl i ∧ y = V.bl j ∧ Q (.bl (!decide (i = j))) H) := by
  intro pins s σ H x y v u Q I rx ry h
  obtain ⟨i, j, rfl, rfl, q⟩ := h
  cases rx
  cases ry
  by_cases e : i = j
  · subst e
    exact wpAny_isNot_self rfl ⟨.bl false, H, I, rfl, by simpa using q⟩
  · exact wpAny_isNot_other rfl (fun z => e (Value.bool.inj z)) ⟨.bl true, H, I, rfl, by simpa [e] using q⟩
def isQ (a b : D) (st : Store) : Oe := match a, b with
  | .bl i, .bl j => .ok (.bl (decide (i = j))) st
  | a, b => isP a b st
def isnQ (a b : D) (st : Store) : Oe := match a, b with
  | .bl i, .bl j => .ok (.bl (!decide (i = j))) st
  | a, b => isnP a b st
theorem isQ_ok : OpD T X W (compareOp .Is) isQ := by
  intro pins s σ H w st dx dy vx vy ux uy Q I hs rx ry r1 r2 hp
  by_cases hb : ∃ i j, dx = .bl i ∧ dy = .bl j
  · obtain ⟨i, j, rfl, rfl⟩ := hb
    rw [rx.bl_inv] at r1
    rw [ry.bl_inv] at r2
    exact op_isB pins s σ H _ _ ux uy Q I r1 r2 ⟨i, j, rfl, rfl, post_same hs (.bl _) hp⟩
  · have e : isQ dx dy st = isP dx dy st := by
      cases dx <;> cases dy <;> first | rfl | exact absurd ⟨_, _, rfl, rfl⟩ hb
    rw [e] at hp
    exact isP_ok pins s σ H w st dx dy vx vy ux uy Q I hs rx ry r1 r2 hp
theorem isnQ_ok : OpD T X W (compareOp .IsNot) isnQ := by
  intro pins s σ H w st dx dy vx vy ux uy Q I hs rx ry r1 r2 hp
  by_cases hb : ∃ i j, dx = .bl i ∧ dy = .bl j
  · obtain ⟨i, j, rfl, rfl⟩ := hb
    rw [rx.bl_inv] at r1
    rw [ry.bl_inv] at r2
    exact op_notB pins s σ H _ _ ux uy Q I r1 r2 ⟨i, j, rfl, rfl, post_same hs (.bl _) hp⟩
  · have e : isnQ dx dy st = isnP dx dy st := by
      cases dx <;> cases dy <;> first | rfl | exact absurd ⟨_, _, rfl, rfl⟩ hb
    rw [e] at hp
    exact isnP_ok pins s σ H w st dx dy vx vy ux uy Q I hs rx ry r1 r2 hp
/-- a plain value -/
def flV : D → Option V
  | .non => some .non
  | .bl b => some (.bl b)
  | .int i => some (.int i)
  | .str x => some (.str x)
  | _ => none
def flVs : List D → Option (List V)
  | [] => some []
  | d :: ds => match flV d, flVs ds with
    | some x, some xs => some (x :: xs)
    | _, _ => none
theorem flV_rp {F : Hp} {d : D} {v x : V} (r : Rp T F d v) (h : flV d = some x) : v = x ∧ flatV x = true := by
  cases r <;> first | (cases h; done) | (cases h; exact ⟨rfl, rfl⟩)
theorem flV_rv {w : Wd} {d : D} {v x : V} (r : Rv T w d v) (h : flV d = some x) : v = x ∧ flatV x = true := by
  cases r with
  | d r => exact flV_rp r h
  | ref _ => cases h
  | fun_ hf _ => cases d <;> first | (cases hf; done) | (cases h; done)
theorem flVs_rps {F : Hp} : ∀ {ds : List D} {vs ys : List V}, Rps T F ds vs → flVs ds = some ys → vs = ys ∧ ys.all flatV = true
  | _, _, _, .nil, h => by cases h; exact ⟨rfl, rfl⟩
  | d :: ds, _, ys, .cons r rr, h => by
    unfold flVs at h
    split at h
    · rename_i x xs h1 h2
      cases h
      obtain ⟨e1, f1⟩ := flV_rp r h1
      obtain ⟨e2, f2⟩ := flVs_rps rr h2
      subst e1 e2
      exact ⟨rfl, by rw [List.all_cons, f1, f2]; rfl⟩
    · cases h
/-- x in a row of plain values -/
def inQ (neg : Bool) (a b : D) (st : Store) : Oe := match flV a, seqD st b with
  | some x, some (_, xs) => (match flVs xs with
    | some ys => .ok (.bl (if neg = true then !inV x ys else inV x ys)) st
    | none => .stuck)
  | _, _ => .stuck
theorem inQ_pre (hK : T.K = X.K) {neg : Bool} {w : Wd} {st : Store} {H : Hp} {dx dy : D} {vx vy : V} {Q : VK} {E : XK} (hs : StOk T w st H) (rx : Rv T w dx vx) (ry : Rv T w dy vy) (hp : PostE T w Q E (inQ neg dx dy st)) : rIn X.K neg vx vy H Q := by
  unfold inQ at hp
  split at hp
  · rename_i x b xs h1 h2
    split at hp
    · rename_i ys h3
      obtain ⟨p, vs, rfl, rr, hq⟩ := seq_or hs ry h2
      obtain ⟨rfl, f1⟩ := flV_rv rx h1
      obtain ⟨rfl, f2⟩ := flVs_rps rr h3
      rw [hK] at hq
      exact ⟨p, _, rfl, hq, f1, f2, post_same hs (.bl _) hp⟩
    · exact hp.elim
  · exact hp.elim
theorem inQ_ok (hK : T.K = X.K) : OpD T X W (compareOp .In) (inQ false) := OpD.of op_in_seq fun w st H dx dy vx vy Q E hs rx ry hp => inQ_pre hK hs rx ry hp
theorem notinQ_ok (hK : T.K = X.K) : OpD T X W (compareOp .NotIn) (inQ true) := OpD.of op_notIn_seq fun w st H dx dy vx vy Q E hs rx ry hp => inQ_pre hK hs rx ry hp
end
end Ev
set_option Elab.async false
set_option linter.all false
set_option maxRecDepth 100000
set_option maxHeartbeats 2000000
namespace Ev
open PySem PySem.Spec L2
/-! ### own operators, own methods -/
/-- classes with own operators: opf their defs -/
structure OpOk (T : Tb) (K : PySem.W.Frag) (opf : Nat → Operator → Option Nat) : Prop where
  ok : ∀ c o i C, opf c o = some i → T.cls c = some C → ∃ f, T.fn i = some f ∧ PySem.W.findIn K (.ref C) (PySem.dunder o.info.2) = some (some (.ref f)) ∧ PySem.W.isFn K (.ref f) = true ∧ PySem.W.selfFirst K C = true ∧
    (∃ rc, PySem.W.findIn K (.ref C) (dunderR o.info.2) = some rc ∧ (rc = none ∨ ∃ g : Addr, rc = some (.ref g))) ∧ (∃ fo, PySem.W.findIn K (.type "int") (PySem.dunder o.info.2) = some fo) ∧ (∃ ro, PySem.W.findIn K (.type "int") (dunderR o.info.2) = some ro) ∧ PySem.W.subIn K (.type "int") (.ref C) = some false
structure NgOk (T : Tb) (K : PySem.W.Frag) (ngf : Nat → Option Nat) : Prop where
  ok : ∀ c i C, ngf c = some i → T.cls c = some C → ∃ f, T.fn i = some f ∧ PySem.W.findIn K (.ref C) "__neg__" = some (some (.ref f)) ∧ PySem.W.isFn K (.ref f) = true
structure MtOk (T : Tb) (K : PySem.W.Frag) (mtf : Nat → Str → Option Nat) : Prop where
  ok : ∀ c m i C, mtf c m = some i → T.cls c = some C → ∃ f, T.fn i = some f ∧ Cls K C ∧ Meth K C m f ∧ ∀ g, T.att g ≠ some m
/-- what stands at the right of an own operator -/
def opKd (c : Nat) : Option Kd → Bool
  | some .int => true
  | some (.cls k) => decide (k = c)
  | _ => false
def binO (call : Nat → Gb) (dfl : Nat → Nat → Option (List D)) (opf : Nat → Operator → Option Nat) (op : Operator) (a b : D) (st : Store) : Oe := match objD st a with
  | some (c, _) => (match opf c op with
    | some i => if opKd c (kdOf st b) = true then callP call dfl i [a, b] st else .stuck
    | none => .stuck)
  | none => binQ op a b st
def negO (call : Nat → Gb) (dfl : Nat → Nat → Option (List D)) (ngf : Nat → Option Nat) (a : D) (st : Store) : Oe := match objD st a with
  | some (c, _) => (match ngf c with
    | some i => callP call dfl i [a] st
    | none => .stuck)
  | none => negP a st
def fMth (call : Nat → Gb) (dfl : Nat → Nat → Option (List D)) (mtf : Nat → Str → Option Nat) (m : Str) (o : Fx) (as : Fa) : Fx := fun env st => (o env st).bind fun a st1 => match objD st1 a with
  | some (c, _) => (match mtf c m with
    | some i => (as env st1).bind fun ds st2 => callP call dfl i (a :: ds) st2
    | none => .stuck)
  | none => .stuck
section
variable {T : Tb} {X : Cx} {W : WX}
end
end Ev
namespace Ev
open PySem PySem.Spec L2
section
variable {T : Tb} {X : Cx} {W : WX}
theorem cmpBack_ep {pins : List (Addr × Obj)} {σ : L2.St} {Q : VK} : ∀ (v : Value) (s : Shared), EP X pins σ Q v s → PySem.W.CmpBack (EP X pins σ Q) v s := by
  intro v s h
  obtain ⟨x, H, I, r, q⟩ := h
  cases v <;> first | exact ⟨x, H, I, r, q⟩ | (cases x <;> first | (cases r; done) | (obtain ⟨_, r⟩ := r; cases r))
theorem binO_ok {call : Nat → Gb} {dfl : Nat → Nat → Option (List D)} {k : Nat} {opf : Nat → Operator → Option Nat} {op : Operator} (CF : FnsOk T X.prog X.w X.K X.mg X.base call dfl k) (OP : OpOk T X.K opf) (hK : T.K = X.K) (hr : Room k X.A) (hG : X.A.guards = some []) (tk : Takes X W) :
    OpD T X W (binaryOp op) (binO call dfl opf op) := by
  intro pins s σ H w st dx dy vx vy ux uy Q I hs rx ry r1 r2 hp
  unfold binO at hp
  split at hp
  · rename_i c fs ho
    split at hp
    · rename_i i hi
      split at hp
      · rename_i hk
        obtain ⟨a, C, dx', fvs, rfl, h1, h2, _⟩ := obj_at hs rx ho
        obtain ⟨f, hf, e1, e2, e3, ⟨rc, e4, e5⟩, ⟨fo, e6⟩, ⟨ro, e7⟩, e8⟩ := OP.ok c op i C hi h1
        obtain rfl : ux = Value.ref a := r1
        obtain ⟨mA, O, _⟩ := ins_get I.hok h2
        obtain ⟨od, J, _⟩ := O.look
        obtain ⟨m, hF⟩ := I.fr
        have go := wpAny_mono (callP_ok CF hr hG tk hf pins s σ H w st _ _ _ Q I hs (.cons rx (.cons ry .nil)) (.cons rfl (.cons r2 .nil)) hp) cmpBack_ep fun _ _ z => z
        unfold opKd at hk
        split at hk
        · rename_i hkd
          obtain ⟨t, ht, lt⟩ := typ_at (io := fun _ _ => none) hK I hs ry r2 hkd
          have hu : ∃ (j : Int) (tk : Tok), uy = .int j tk := by
            cases dy with
            | int j =>
              rw [ry.int_inv] at r2
              obtain ⟨t, rfl⟩ := r2
              exact ⟨j, t, rfl⟩
            | ref n =>
              simp only [kdOf] at hkd
              split at hkd <;> cases hkd
            | _ => cases hkd
          obtain ⟨j, t', rfl⟩ := hu
          exact PySem.W.ksp_binT (T := "int") hF I.ok.mod.kin J rfl e3 e1 e2 e4 e5 e6 e7 e8 go
        · rename_i kk hkd
          have hk := of_decide_eq_true hk
          subst hk
          obtain ⟨t, ht, lt⟩ := typ_at (io := fun _ _ => none) hK I hs ry r2 hkd
          cases ht with
          | b k hn => exact absurd rfl (hn _)
          | o hC =>
            rw [h1] at hC
            cases hC
            exact PySem.W.binop_K hF I.ok.mod.kin J lt e3 e1 e2 go
        · cases hk
      · exact hp.elim
    · exact hp.elim
  · exact binQ_ok hK pins s σ H w st dx dy vx vy ux uy Q I hs rx ry r1 r2 hp
theorem negO_ok {call : Nat → Gb} {dfl : Nat → Nat → Option (List D)} {k : Nat} {ngf : Nat → Option Nat} (CF : FnsOk T X.prog X.w X.K X.mg X.base call dfl k) (NG : NgOk T X.K ngf) (hr : Room k X.A) (hG : X.A.guards = some []) (tk : Takes X W) :
    UnD T X W (unaryOp .USub) (negO call dfl ngf) := by
  intro pins s σ H w st dx vx ux Q I hs rx r1 hp
  unfold negO at hp
  split at hp
  · rename_i c fs ho
    split at hp
    · rename_i i hi
      obtain ⟨a, C, dx', fvs, rfl, h1, h2, _⟩ := obj_at hs rx ho
      obtain ⟨f, hf, e1, e2⟩ := NG.ok c i C hi h1
      obtain rfl : ux = Value.ref a := r1
      obtain ⟨mA, O, _⟩ := ins_get I.hok h2
      obtain ⟨od, J, _⟩ := O.look
      obtain ⟨m, hF⟩ := I.fr
      exact PySem.W.ksp_neg hF I.ok.mod.kin J e1 e2 (callP_ok CF hr hG tk hf pins s σ H w st _ _ _ Q I hs (.cons rx .nil) (.cons rfl .nil) hp)
    · exact hp.elim
  · exact negP_ok pins s σ H w st dx vx ux Q I hs rx r1 hp
theorem rpf_none {F : Hp} {m : Str} (hm : ∀ g, T.att g ≠ some m) : ∀ {fs : List (Nat × D)} {fvs : List (Str × V)}, Rpf T F fs fvs → fvs.lookup m = none
  | _, _, .nil => rfl
  | _, _, .cons (x := y) h1 h2 t => by
    rw [List.lookup_cons, show (m == y) = false by
      rw [beq_eq_false_iff_ne]
      intro e
      subst e
      exact hm _ h1]
    exact rpf_none hm t
theorem mcall_tree {o : Expr} {m : Str} {apos cpos : Pos} {args : List Expr} {env : PySem.Env} (hb : attributeBase o m env (eval o env) = eval o env) (hl : args.length < 30) (hline : (apos.endLine == cpos.line) = true)
    (hst : (backTo cpos (starEach args env)).any (·.1) = false) :
    eval (.Call (.Attribute o m apos) args [] cpos) env = (do
      let ov ← eval o env
      standAt apos.atName
      let (f, first) ← holding [ov] (getMethod ov m (plainOf o env))
      callWith cpos f first (backTo cpos (starEach args env)) (backToKw cpos (keywordEach [] env))) := by
  refine mcall_of hb fun ov => mcall_line ?_ hline
  unfold methodCallForm
  rw [Bool.and_eq_true, Bool.and_eq_true]
  refine ⟨⟨?_, rfl⟩, ?_⟩
  · rw [List.all_eq_not_any_not]
    simp only [Bool.not_not]
    rw [hst]
    rfl
  · simp
    exact hl
theorem de_mth {call : Nat → Gb} {dfl : Nat → Nat → Option (List D)} {k : Nat} {mtf : Nat → Str → Option Nat} (CF : FnsOk T X.prog X.w X.K X.mg X.base call dfl k) (MT : MtOk T X.K mtf) (hr : Room k X.A) (hG : X.A.guards = some []) (tk : Takes X W) {o : Expr} {m : Str} {apos cpos : Pos} {e : Expr} {es : List Expr} {fo : Fx} {fa : Fa}
    (ho : PE X o (tE T fo W)) (ha : PA X (e :: es) (tA T fa W)) (hb : attributeBase o m X.env (eval o X.env) = eval o X.env) (hline : (apos.endLine == cpos.line) = true) (hl : (e :: es).length < 30)
    (z1 : starEach (e :: es) X.env = (false, eval e X.env) :: starEach es X.env) (z2 : (backTo cpos (starEach es X.env)).any (·.1) = false) :
    PE X (.Call (.Attribute o m apos) (e :: es) [] cpos) (tE T (fMth call dfl mtf m fo fa) W) := by
  refine ⟨fun pins s σ H Q I h => ?_⟩
  obtain ⟨w, env, st, hs, hE, hp⟩ := h
  have hst : (backTo cpos (starEach (e :: es) X.env)).any (·.1) = false := by rw [z1]; show (false || (backTo cpos (starEach es X.env)).any (·.1)) = false; rw [z2]; rfl
  refine PySem.W.methodCall_KW (pl := plainOf o X.env) (thn (ho.run pins s σ H _ I (tE.bind hs hE hp)) fun u s1 ⟨x, H1, I1, rx, u1, d1, st1, l1, hs1', he1, rd, hp1⟩ => ?_) (mcall_tree hb hl hline hst)
  split at hp1
  · rename_i c fs hob
    split at hp1
    · rename_i i hi
      obtain ⟨a, C, dx', fvs, rfl, h1, h2, h3⟩ := obj_at hs1' rd hob
      obtain ⟨f, hf, hc, hm, hna⟩ := MT.ok c m i C hi h1
      obtain rfl : u = Value.ref a := rx
      refine getmeth_ok I1 h2 hc hm (rpf_none hna h3) ?_
      refine PySem.W.callWith_K (first := [.ref a]) (h₀ := X.base) I.ok.mod.kin hm.kp (thn (ha.run cpos pins s1 σ H1 _ I1 (tA.bind hs1' he1 hp1)) fun us s2 ⟨vs, H2, I2, r, u2, ds, st2, l2, hs2, he2, rx2, hp2⟩ => ⟨I2.kIn, ?_⟩) z1 z2
      exact callP_ok CF hr hG tk hf pins s2 σ H2 u2 st2 (d1 :: ds) (.ref a :: vs) (.ref a :: us) Q I2 hs2 (.cons (rd.up l2) rx2) (.cons rfl r) hp2
    · exact hp1.elim
  · exact hp1.elim
theorem de_mth0 {call : Nat → Gb} {dfl : Nat → Nat → Option (List D)} {k : Nat} {mtf : Nat → Str → Option Nat} (CF : FnsOk T X.prog X.w X.K X.mg X.base call dfl k) (MT : MtOk T X.K mtf) (hr : Room k X.A) (hG : X.A.guards = some []) (tk : Takes X W) {o : Expr} {m : Str} {apos cpos : Pos} {fo : Fx}
    (ho : PE X o (tE T fo W)) (hb : attributeBase o m X.env (eval o X.env) = eval o X.env) (hline : (apos.endLine == cpos.line) = true) :
    PE X (.Call (.Attribute o m apos) [] [] cpos) (tE T (fMth call dfl mtf m fo aNil) W) := by
  refine ⟨fun pins s σ H Q I h => ?_⟩
  obtain ⟨w, env, st, hs, hE, hp⟩ := h
  refine PySem.W.methodCall_KW (pl := plainOf o X.env) (thn (ho.run pins s σ H _ I (tE.bind hs hE hp)) fun u s1 ⟨x, H1, I1, rx, u1, d1, st1, l1, hs1', he1, rd, hp1⟩ => ?_) (mcall_tree hb (by simp) hline rfl)
  split at hp1
  · rename_i c fs hob
    split at hp1
    · rename_i i hi
      obtain ⟨a, C, dx', fvs, rfl, h1, h2, h3⟩ := obj_at hs1' rd hob
      obtain ⟨f, hf, hc, hm, hna⟩ := MT.ok c m i C hi h1
      obtain rfl : u = Value.ref a := rx
      refine getmeth_ok I1 h2 hc hm (rpf_none hna h3) ?_
      exact PySem.W.callWith_K0 (first := [.ref a]) I1.kIn hm.kp (callP_ok CF hr hG tk hf pins s1 σ H1 u1 st1 [d1] [.ref a] [.ref a] Q I1 hs1' (.cons rd .nil) (.cons rfl .nil) hp1)
    · exact hp1.elim
  · exact hp1.elim
/-- x.bit_length() -/
def fBits (a : Fx) : Fx := fun env st => (a env st).bind fun d st1 => match d with
  | .int i => .ok (.int (Builtin.Int.intBits i : Nat)) st1
  | _ => .stuck
theorem de_bits {o : Expr} {fo : Fx} {apos pos : Pos} (ho : PE X o (tE T fo W)) (hbase : attributeBase o "bit_length" X.env (eval o X.env) = eval o X.env) (hline : (apos.endLine == pos.line) = true) : PE X (.Call (.Attribute o "bit_length" apos) [] [] pos) (tE T (fBits fo) W) :=
  PE.imp (pe_bits ho hbase hline) fun σ H Q ⟨w, env, st, hs, hE, hp⟩ => by
    obtain ⟨w1, env1, st1, a1, a2, a3⟩ := tE.bind hs hE hp
    refine ⟨w1, env1, st1, a1, a2, a3.imp (fun y H1 ⟨u, d, st2, l, s2, e2, ry, hp2⟩ => ?_) fun _ _ _ z => z⟩
    cases d with
    | int i => exact ⟨i, ry.int_inv, post_same s2 (.int _) hp2⟩
    | _ => exact hp2.elim
end
end Ev
set_option Elab.async false
set_option linter.all false
set_option maxRecDepth 100000
set_option maxHeartbeats 2000000
namespace Ev
open PySem PySem.Spec PyProof.Rows L2
/-! ### sorted: ints, tuples of ints -/
section
variable {α : Type}
/-- an item put into a sorted row, behind its equals -/
def insS (lt : α → α → Bool) (y : α) : List α → List α
  | [] => [y]
  | x :: l => if lt y x = true then y :: x :: l else x :: insS lt y l
def srtS (lt : α → α → Bool) (l : List α) : List α := l.foldl (fun acc y => insS lt y acc) []
variable {lt : α → α → Bool}
theorem insS_at (O : SrtO.Swo lt) {y : α} : ∀ {l : List α}, SrtO.Srtd lt l → ∃ M N, l = M ++ N ∧ insS lt y l = M ++ y :: N ∧ (∀ x ∈ M, lt y x = false) ∧ ∀ x ∈ N, lt y x = true
  | [], _ => ⟨[], [], rfl, rfl, fun _ h => by simp at h, fun _ h => by simp at h⟩
  | x :: l, h => by
    unfold insS
    by_cases hx : lt y x = true
    · rw [if_pos hx]
      refine ⟨[], x :: l, rfl, rfl, fun _ h => by simp at h, fun z hz => ?_⟩
      exact O.lt_all h hx z hz
    · rw [if_neg hx]
      obtain ⟨M, N, e1, e2, h1, h2⟩ := insS_at O (y := y) (List.pairwise_cons.mp h).2
      refine ⟨x :: M, N, by rw [e1]; rfl, by rw [e2]; rfl, fun z hz => ?_, h2⟩
      rcases List.mem_cons.mp hz with rfl | hz
      · simpa using hx
      · exact h1 z hz
theorem srtS_go (O : SrtO.Swo lt) : ∀ (l acc O1 : List α), SrtO.Srtd lt acc → SrtO.Stb lt acc O1 → SrtO.Srtd lt (l.foldl (fun acc y => insS lt y acc) acc) ∧ SrtO.Stb lt (l.foldl (fun acc y => insS lt y acc) acc) (O1 ++ l)
  | [], acc, O1, hs, hb => ⟨hs, by rw [List.append_nil]; exact hb⟩
  | y :: l, acc, O1, hs, hb => by
    obtain ⟨M, N, e1, e2, h1, h2⟩ := insS_at O (y := y) hs
    subst e1
    rw [List.foldl_cons, e2]
    have z := srtS_go O l (M ++ y :: N) (O1 ++ [y]) (SrtO.ins_srtd O hs h1 h2) (SrtO.ins_stb O h2 hb)
    rw [List.append_assoc] at z
    exact z
theorem srtS_ok (O : SrtO.Swo lt) (l : List α) : SrtO.Srtd lt (srtS lt l) ∧ SrtO.Stb lt (srtS lt l) l := srtS_go O l [] [] List.Pairwise.nil (SrtO.Stb.refl [])
theorem srtS_map {β : Type} {lt : β → β → Bool} {f : α → β} : ∀ l : List α, (srtS (fun x y => lt (f x) (f y)) l).map f = srtS lt (l.map f) := by
  have ins : ∀ (y : α) (l : List α), (insS (fun x y => lt (f x) (f y)) y l).map f = insS lt (f y) (l.map f) := by
    intro y l
    induction l with
    | nil => rfl
    | cons x l ih =>
      unfold insS
      by_cases h : lt (f y) (f x) = true
      · rw [if_pos h]
        show _ = insS lt (f y) (f x :: l.map f)
        unfold insS
        rw [if_pos h]; rfl
      · rw [if_neg h, List.map_cons, ih]
        show _ = insS lt (f y) (f x :: l.map f)
        conv => rhs; unfold insS
        rw [if_neg h]
  have go : ∀ l acc : List α, (l.foldl (fun acc y => insS (fun x y => lt (f x) (f y)) y acc) acc).map f = (l.map f).foldl (fun acc y => insS lt y acc) (acc.map f) := by
    intro l
    induction l with
    | nil => intro acc; rfl
    | cons y l ih => intro acc; rw [List.foldl_cons, ih, ins]; rfl
  exact fun l => go l []
end
/-- rows of ints, one before the other -/
def lexL : List Int → List Int → Bool
  | [], [] => false
  | [], _ :: _ => true
  | _ :: _, [] => false
  | x :: xs, y :: ys => if x = y then lexL xs ys else decide (x < y)
theorem lexL_asym : ∀ xs ys : List Int, lexL xs ys = true → lexL ys xs = false
  | [], [], h => by cases h
  | [], _ :: _, _ => rfl
  | _ :: _, [], h => by cases h
  | x :: xs, y :: ys, h => by
    unfold lexL at h ⊢
    by_cases e : x = y
    · rw [if_pos e] at h
      rw [if_pos e.symm]
      exact lexL_asym xs ys h
    · rw [if_neg e, decide_eq_true_eq] at h
      rw [if_neg (Ne.symm e), decide_eq_false_iff_not]
      omega
theorem lexL_tr : ∀ xs ys zs : List Int, lexL xs ys = false → lexL ys zs = false → lexL xs zs = false
  | [], [], [], _, _ => rfl
  | [], [], _ :: _, _, h => by cases h
  | [], _ :: _, _, h, _ => by cases h
  | _ :: _, [], [], _, _ => rfl
  | _ :: _, [], _ :: _, _, h => by cases h
  | _ :: _, _ :: _, [], _, _ => rfl
  | x :: xs, y :: ys, z :: zs, h1, h2 => by
    unfold lexL at h1 h2 ⊢
    by_cases e : x = y
    · rw [if_pos e] at h1
      by_cases e2 : y = z
      · rw [if_pos e2] at h2
        rw [if_pos (e.trans e2)]
        exact lexL_tr xs ys zs h1 h2
      · rw [if_neg e2, decide_eq_false_iff_not] at h2
        rw [if_neg (fun q => e2 (e.symm.trans q)), decide_eq_false_iff_not]
        omega
    · rw [if_neg e, decide_eq_false_iff_not] at h1
      by_cases e2 : y = z
      · rw [if_neg (fun q => e (q.trans e2.symm)), decide_eq_false_iff_not]
        omega
      · rw [if_neg e2, decide_eq_false_iff_not] at h2
        by_cases e3 : x = z
        · omega
        · rw [if_neg e3, decide_eq_false_iff_not]
          omega
theorem swo_lexL : SrtO.Swo lexL := ⟨lexL_asym, fun x y z h1 h2 => lexL_tr z y x h2 h1⟩
section
variable {prog : Program} {w : World} {A : Around} {E : Value → Shared → Prop} {s : Shared} {Q : Bool → Shared → Prop}
theorem lex_any {b : Bool} {xs ys : List Value} {ns ms : List Int} (i : Nat) (hx : IntsAre xs ns) (hy : IntsAre ys ms) (hl : ns.length = ms.length) (h : Q (lexL ns ms) s) : PySem.W.KatLex prog w A b false Q (xs.zip ys) i s := by
  induction hx generalizing ys ms i with
  | nil =>
    cases hy with
    | nil => exact PySem.W.kat_nil h
    | cons q u hy => simp at hl
  | @cons p t xs ns hx ih =>
    cases hy with
    | nil => simp at hl
    | @cons q u ys ms hy =>
      show PySem.W.KatLex prog w A b false Q ((Value.int p t, Value.int q u) :: xs.zip ys) i s
      refine PySem.W.kat_cons (wpAny_eqBool_int ?_)
      unfold lexL at h
      by_cases e : p = q
      · subst e
        rw [if_pos rfl] at h
        rw [beq_self_eq_true]
        exact PySem.W.kat_yes (ih (i + 1) hy (by simpa using hl) h)
      · rw [if_neg e] at h
        rw [show (p == q) = false from beq_eq_false_iff_ne.mpr e]
        exact PySem.W.kat_no (TS.oneLt_ints _ h)
theorem tups_cmp {vs : List Value} {k : Value → List Int} {d : Nat} (hp : ∀ v ∈ vs, TS.TupInts s.heap v (k v) ∧ (k v).length = d) : SrtO.Cmp prog w A s (tuples' true) (fun p => p.1 ∈ vs) (SrtO.lt2 fun v u => lexL (k v) (k u)) := by
  intro p q hm hm'
  obtain ⟨⟨a, xs, e, ⟨o, ho, _, n, hd⟩, i⟩, l⟩ := hp _ hm
  obtain ⟨⟨a2, xs2, e2, ⟨o2, ho2, hc2, n2, hd2⟩, i2⟩, l2⟩ := hp _ hm'
  show wpAny (model prog w) A (keyLt' (tuples' true) p.1 q.1) (fun r s' => s' = s ∧ r = lexL (k p.1) (k q.1)) (fun _ _ => False) s
  generalize k p.1 = ns at i l ⊢
  generalize k q.1 = ms at i2 l2 ⊢
  rw [e, e2]
  refine PySem.W.kat_lt ho hd ho2 hd2 ?_
  have z : decide (xs.size < xs2.size) = false := by
    have h1 := i.length
    have h2 := i2.length
    rw [Array.length_toList] at h1 h2
    rw [decide_eq_false_iff_not]
    omega
  rw [z]
  exact lex_any 0 i i2 (l.trans l2.symm) ⟨rfl, rfl⟩
theorem tups_firsts {h : Heap} {k : Value → List Int} {d : Nat} (hd : 1 ≤ d) : ∀ vs : List Value, (∀ v ∈ vs, TS.TupInts h v (k v) ∧ (k v).length = d) → ∃ fs, PySem.W.KatTups h vs fs ∧ fs.length = vs.length ∧ ∀ f ∈ fs, ∃ n t, f = Value.int n t
  | [], _ => ⟨[], PySem.W.KatTups.nil, rfl, fun f hf => by simp at hf⟩
  | v :: vs, x => by
    obtain ⟨fs, z, hl, hi⟩ := tups_firsts hd vs fun u hu => x u (List.mem_cons_of_mem _ hu)
    obtain ⟨⟨a, xs, rfl, ⟨o, ho, hc, n, hdt⟩, i⟩, hn⟩ := x v (List.mem_cons_self ..)
    have l := i.length
    cases q : xs.toList with
    | nil => rw [q] at l; simp at l; omega
    | cons y ys =>
      obtain ⟨m, t, hy⟩ := i.all y (by rw [q]; exact List.mem_cons_self ..)
      refine ⟨y :: fs, PySem.W.KatTups.cons ho hc hdt (by rw [← Array.getElem?_toList, q]; rfl) z, by simp [hl], fun f hf => ?_⟩
      rcases List.mem_cons.mp hf with rfl | hf
      · exact ⟨m, t, hy⟩
      · exact hi f hf
theorem sorted_rows {l : Addr} {vs : List Value} {k : Value → List Int} {d : Nat} {Q : Value → Shared → Prop} (hd : 1 ≤ d) (hl : s.heap.IsList l vs.toArray) (hz : vs.length ≤ sizeLine) (hp : ∀ v ∈ vs, TS.TupInts s.heap v (k v) ∧ (k v).length = d)
    (h : ∀ (h' : Heap) (p : Addr) (out : List Value), SrtO.Srtd (fun v u => lexL (k v) (k u)) out → SrtO.Stb (fun v u => lexL (k v) (k u)) out vs → (∀ b o, s.heap.get? b = some o → h'.get? b = some o) → s.heap.objs.size ≤ p → (∃ n, h'.get? p = some (seqObj "list" out.toArray n)) → Q (.ref p) { s with heap := h' }) :
    wpAny (model prog w) A (PySem.call (.builtin "sorted") [.ref l]) Q E s := by
  refine SrtO.sorted_ord (ltv := fun v u => lexL (k v) (k u)) ⟨fun x y => lexL_asym _ _, fun x y z h1 h2 => lexL_tr _ _ _ h2 h1⟩ hl hz (fun h2 h₁ a ha kk => ?_) fun out hs hb => h _ _ out hs hb (fun b o e => sortedAll_old e) (Nat.le_succ _) (sortedAll_at s.heap vs out.toArray)
  intro h' keep
  have hp' : ∀ v ∈ vs, TS.TupInts h' v (k v) ∧ (k v).length = d := fun v hm => ⟨(hp v hm).1.keeps fun b o e _ => keep b o (kk b o e).1 (kk b o e).2, (hp v hm).2⟩
  obtain ⟨fs, h1, h4, h3⟩ := tups_firsts hd vs hp'
  refine ⟨tuples' true, fun Q E hq => ?_, tups_cmp hp'⟩
  refine PySem.W.kat_kind (T := .type "int") h1 (by omega) (fun f hm => ?_) (by rfl) ?_
  · obtain ⟨x, t, rfl⟩ := h3 f hm
    exact PySem.W.Looks.now
  · have e : (Value.type "int" != Value.type "tuple") = true := by decide +kernel
    rw [e]
    exact hq
end
end Ev
namespace Ev
open PySem PySem.Spec PyProof.Rows L2
section
variable {X : Cx}
/-- sorted(xs), xs a list of tuples of d ints each, k their ints -/
def rSortR (K : PySem.W.Frag) : List V → Hp → VK → Prop := fun vs H Q => ∃ (a : Addr) (xs : List V) (rows : List (List Int)) (d : Nat), vs = [V.ref a] ∧ SqL K H a xs ∧ 1 ≤ d ∧ Paired (fun x ns => TupI K H x ns ∧ ns.length = d) xs rows ∧
  ∀ (k : V → List Int) (ys : List V) (p : Addr), xs.map k = rows → ys.Perm xs → ys.map k = srtS lexL rows → H p = none → Q (.ref p) (upd H p (.lst ys))
theorem paired_mem {α β : Type} {R : α → β → Prop} : ∀ {xs : List α} {ys : List β}, Paired R xs ys → ∀ x ∈ xs, ∃ y, R x y
  | _, _, .cons r t, x, h => by
    rcases List.mem_cons.mp h with rfl | h
    · exact ⟨_, r⟩
    · exact paired_mem t x h
theorem paired_map {α β : Type} {R : α → β → Prop} {k : α → β} (h : ∀ x y, R x y → k x = y) : ∀ {xs : List α} {ys : List β}, Paired R xs ys → xs.map k = ys
  | _, _, .nil => rfl
  | _, _, .cons r t => by rw [List.map_cons, h _ _ r, paired_map h t]
theorem cr_sortR : CallR X (.builtin "sorted") (rSortR X.K) := by
  intro pins s σ H vs us Q I r h
  obtain ⟨a, xs, rows, d, rfl, hs, hd, hx, q⟩ := h
  obtain ⟨its, rv, hl, hz⟩ := I.list hs
  rw [Vals.ref1 r]
  obtain ⟨e1, e2⟩ := refs_back rv fun x m => by
    obtain ⟨ns, ⟨t, e, _⟩, _⟩ := paired_mem hx x m
    exact ⟨t, e⟩
  have raw : ∀ v ns, TupI X.K H (backV v) ns → (∃ b, v = Value.ref b) → TS.TupInts s.heap v ns := fun v ns ⟨t, et, ht⟩ ⟨b, hb⟩ => by
    subst hb
    cases et
    exact tupI_raw I ht
  refine sorted_rows (k := fun v => TS.intsOf s.heap v) hd hl.isList (by rw [← rv.length]; exact hz) (fun v hv => ?_) fun h' p out h1 h2 kp hp hn => ?_
  · obtain ⟨ns, t, ln⟩ := paired_mem hx (backV v) (by rw [e1]; exact List.mem_map.mpr ⟨v, hv, rfl⟩)
    have z := raw v ns t (e2 v hv)
    rw [z.ints]
    exact ⟨z, ln⟩
  · have h3 : ∀ u ∈ out, ∃ a, u = Value.ref a := fun u hu => e2 u (h2.perm.mem_iff.mp hu)
    obtain ⟨n, hn⟩ := hn
    have hb : (out.map backV).Perm xs := by rw [e1]; exact h2.perm.map backV
    let k : V → List Int := fun v => match v with
      | .ref b => TS.intsOf s.heap (.ref b)
      | _ => []
    have ek : xs.map k = rows := paired_map (fun x ns ⟨⟨t, et, ht⟩, _⟩ => by
      subst et
      exact (tupI_raw I ht).ints) hx
    have eb : ∀ l : List Value, (∀ u ∈ l, ∃ a, u = Value.ref a) → (l.map backV).map k = l.map fun v => TS.intsOf s.heap v := fun l hl => by
      rw [List.map_map]
      refine List.map_congr_left fun u hu => ?_
      obtain ⟨b, rfl⟩ := hl u hu
      rfl
    have es : (out.map backV).map k = srtS lexL rows := by
      rw [eb out h3]
      have z1 := SrtO.srtd_map (lt := lexL) (f := fun v => TS.intsOf s.heap v) h1
      have z2 := SrtO.Stb.map swo_lexL (fun v => TS.intsOf s.heap v) h2
      have er : its.map (fun v => TS.intsOf s.heap v) = rows := by rw [← eb its e2, ← e1, ek]
      rw [er] at z2
      obtain ⟨y1, y2⟩ := srtS_ok swo_lexL rows
      exact SrtO.stb_uniq swo_lexL z1 y1 (z2.trans ⟨y2.perm.symm, fun x => (y2.cls x).symm⟩)
    refine ⟨.ref p, upd H p (.lst (out.map backV)), I.laid (t' := s.toks) kp hp ⟨?_, out, n, vals_back h3, hn⟩, rfl, q k _ p ek hb es (I.hok.fresh hp)⟩
    rw [hb.length_eq]
    exact hz
end
/-! ### at the data -/
def intsO : List D → Option (List Int)
  | [] => some []
  | .int i :: r => (intsO r).map (i :: ·)
  | _ => none
def rowsO : List D → Option (List (List Int))
  | [] => some []
  | .tup xs :: r => match intsO xs, rowsO r with
    | some ns, some rs => some (ns :: rs)
    | _, _ => none
  | _ => none
theorem intsO_eq : ∀ {xs : List D} {ns : List Int}, intsO xs = some ns → xs = ns.map .int
  | [], _, h => by cases h; rfl
  | d :: r, ns, h => by
    cases d with
    | int i =>
      simp only [intsO] at h
      obtain ⟨ms, h1, rfl⟩ := Option.map_eq_some_iff.mp h
      rw [intsO_eq h1]
      rfl
    | _ => cases h
@[simp] theorem intsO_map : ∀ ns : List Int, intsO (ns.map .int) = some ns
  | [] => rfl
  | n :: ns => by
    show (intsO (ns.map .int)).map (n :: ·) = _
    rw [intsO_map ns]
    rfl
theorem rowsO_eq : ∀ {xs : List D} {rs : List (List Int)}, rowsO xs = some rs → xs = rs.map fun ns => .tup (ns.map .int)
  | [], _, h => by cases h; rfl
  | d :: r, rs, h => by
    cases d with
    | tup xs =>
      simp only [rowsO] at h
      split at h
      · rename_i ns rs' h1 h2
        cases h
        rw [intsO_eq h1, rowsO_eq h2]
        rfl
      · cases h
    | _ => cases h
def sortD (xs : List D) : Option (List D) := match intsO xs with
  | some ns => some ((srtS (fun i j => decide (i < j)) ns).map .int)
  | none => match rowsO xs with
    | some rows => (match rows with
      | [] => none
      | r :: _ => if 1 ≤ r.length ∧ (rows.all fun q => decide (q.length = r.length)) = true then some ((srtS lexL rows).map fun ns => .tup (ns.map .int)) else none)
    | none => none
def gSort : Gb := fun ds st => match ds with
  | [d] => (match seqD st d with
    | some (false, xs) => (match sortD xs with
      | some ys => .ok (.lst ys) st
      | none => .stuck)
    | _ => .stuck)
  | _ => .stuck
theorem swo_ints : SrtO.Swo (fun i j : Int => decide (i < j)) := ⟨fun x y h => by simp at h ⊢; omega, fun x y z h1 h2 => by simp at h1 h2 ⊢; omega⟩
section
variable {T : Tb} {X : Cx} {W : WX}
theorem rps_rows {F : Hp} : ∀ {rows : List (List Int)} {vs : List V}, Rps T F (rows.map fun ns => D.tup (ns.map .int)) vs → Paired (fun v ns => (∃ t us, v = V.ref t ∧ SqT T.K F t us ∧ Rps T F (ns.map .int) us)) vs rows
  | [], _, .nil => .nil
  | ns :: rows, _, .cons r t => by
    refine .cons ?_ (rps_rows t)
    cases r with
    | tup h1 h2 => exact ⟨_, _, rfl, h1, h2⟩
theorem rps_ints {F : Hp} : ∀ {ns : List Int} {us : List V}, Rps T F (ns.map .int) us → us = ns.map V.int
  | [], _, .nil => rfl
  | n :: ns, _, .cons r t => by
    cases r
    rw [rps_ints t]
    rfl
theorem rps_all {F : Hp} {g : V → D} : ∀ {ys : List V}, (∀ y ∈ ys, Rp T F (g y) y) → Rps T F (ys.map g) ys
  | [], _ => .nil
  | y :: ys, h => .cons (h y (List.mem_cons_self ..)) (rps_all fun z hz => h z (List.mem_cons_of_mem _ hz))
theorem rps_mem {F : Hp} {g : V → D} : ∀ {ys : List V}, Rps T F (ys.map g) ys → ∀ y ∈ ys, Rp T F (g y) y
  | _ :: _, .cons r t, y, h => by
    rcases List.mem_cons.mp h with rfl | h
    · exact r
    · exact rps_mem t y h
theorem paired_imp {α β : Type} {R S : α → β → Prop} (h : ∀ x y, R x y → S x y) : ∀ {xs : List α} {ys : List β}, Paired R xs ys → Paired S xs ys
  | _, _, .nil => .nil
  | _, _, .cons r t => .cons (h _ _ r) (paired_imp h t)
theorem paired_all {α β : Type} {R : α → β → Prop} {p : β → Prop} : ∀ {xs : List α} {ys : List β}, Paired R xs ys → (∀ y ∈ ys, p y) → Paired (fun x y => R x y ∧ p y) xs ys
  | _, _, .nil, _ => .nil
  | _, _, .cons r t, h => .cons ⟨r, h _ (List.mem_cons_self ..)⟩ (paired_all t fun y hy => h y (List.mem_cons_of_mem _ hy))
/-- a new list given back -/
theorem post_lstN {w : Wd} {st : Store} {H : Hp} {p : Addr} {ds : List D} {vs : List V} {Q : VK} {E : XK} (hs : StOk T w st H) (n : H p = none) (r : Rps T w.F ds vs) (h : PostE T w Q E (.ok (.lst ds) st)) : Q (.ref p) (upd H p (.lst vs)) := by
  have l : Le w (w.frz p (.lst vs)) := Le.frz hs n
  exact h _ _ _ l (hs.newF n) (.d (.lst (by rw [Wd.fF, upd_same]) (r.up l.F)))
theorem gSort_ok (hK : T.K = X.K) : CbD T X W (.builtin "sorted") gSort := by
  intro pins s σ H w st ds vs us Q I hs rv ru hp
  unfold gSort at hp
  split at hp
  case h_2 => exact hp.elim
  rename_i d
  obtain ⟨v, rfl, r1⟩ := rv.one
  split at hp
  case h_2 => exact hp.elim
  rename_i xs hq
  obtain ⟨a, xvs, rfl, rx, hl⟩ := seq_at hs r1 hq
  rw [if_neg Bool.false_ne_true, hK] at hl
  split at hp
  case h_2 => exact hp.elim
  rename_i ys hy
  unfold sortD at hy
  split at hy
  · rename_i ns hns
    cases hy
    have e := intsO_eq hns
    subst e
    have e2 := rps_ints rx
    subst e2
    refine cr_sortedI pins s σ H _ us Q I ru ⟨a, ns, rfl, hl, fun ns' p hperm hpw hn => ?_⟩
    have es : ns' = srtS (fun i j : Int => decide (i < j)) ns := by
      obtain ⟨y1, y2⟩ := srtS_ok swo_ints ns
      have pw : SrtO.Srtd (fun i j : Int => decide (i < j)) ns' := List.Pairwise.imp (fun {x y} h => by simp; omega) hpw
      have eqv : ∀ (l m : List Int), l.Perm m → SrtO.Stb (fun i j : Int => decide (i < j)) l m := fun l m h => ⟨h, fun x => by
        have q : SrtO.eqv (fun i j : Int => decide (i < j)) x = fun y => decide (y = x) := by
          funext y
          unfold SrtO.eqv
          by_cases h1 : x < y <;> by_cases h2 : y < x <;> simp [h1, h2] <;> omega
        rw [q]
        have c : ∀ n : List Int, n.filter (fun y => decide (y = x)) = List.replicate (n.count x) x := fun n => by
          rw [← List.filter_beq]
          congr 1
        rw [c, c, h.count_eq]⟩
      exact SrtO.stb_uniq swo_ints pw y1 (eqv _ _ (hperm.trans y2.perm.symm))
    rw [es]
    refine post_lstN hs hn ?_ hp
    have h2 : ∀ n ∈ srtS (fun i j : Int => decide (i < j)) ns, True := fun _ _ => trivial
    have go : ∀ l : List Int, Rps T w.F (l.map .int) (l.map V.int) := fun l => by
      induction l with
      | nil => exact .nil
      | cons n l ih => exact .cons (.int n) ih
    exact go _
  · split at hy
    case h_2 => cases hy
    rename_i rows hrows
    split at hy
    · cases hy
    · rename_i r rows'
      split at hy
      · rename_i hc
        cases hy
        have e := rowsO_eq hrows
        subst e
        obtain ⟨hc1, hc2⟩ := hc
        have pr := rps_rows rx
        have lens : ∀ q ∈ r :: rows', q.length = r.length := fun q hq => by simpa using List.all_eq_true.mp hc2 q hq
        refine cr_sortR pins s σ H _ us Q I ru ⟨a, xvs, r :: rows', r.length, rfl, hl, hc1, paired_imp (fun x ns z => ?_) (paired_all pr lens), fun k ys p ek hperm es hn => ?_⟩
        · obtain ⟨⟨t, us2, rfl, h1, h2⟩, h3⟩ := z
          rw [rps_ints h2] at h1
          exact ⟨⟨t, rfl, hK ▸ hs.sub.sqt h1⟩, h3⟩
        · refine post_lstN hs hn (rps_all fun y hy => ?_) (by rw [← es, List.map_map] at hp; exact hp)
          have rx2 : Rps T w.F (xvs.map ((fun ns => D.tup (ns.map .int)) ∘ k)) xvs := by rw [← List.map_map, ek]; exact rx
          exact rps_mem rx2 y (hperm.mem_iff.mp hy)
      · cases hy
end
end Ev
set_option Elab.async false
set_option linter.all false
set_option maxRecDepth 100000
set_option maxHeartbeats 2000000
namespace Ev
open PySem PySem.Spec L2
/-! ### enumerate -/
def enumD : Nat → List D → List D
  | _, [] => []
  | n, d :: ds => .tup [.int (n : Int), d] :: enumD (n + 1) ds
theorem enumD_len : ∀ (n : Nat) (ds : List D), (enumD n ds).length = ds.length
  | _, [] => rfl
  | n, d :: ds => by simp [enumD, enumD_len (n + 1) ds]
theorem enumD_get : ∀ (n : Nat) (ds : List D) (i : Nat), (enumD n ds)[i]? = (ds[i]?).map fun d => .tup [.int ((n + i : Nat) : Int), d]
  | _, [], i => by simp [enumD]
  | n, d :: ds, 0 => by simp [enumD]
  | n, d :: ds, i + 1 => by
    show (enumD (n + 1) ds)[i]? = _
    rw [enumD_get (n + 1) ds i]
    simp only [List.getElem?_cons_succ]
    congr 1
    funext d
    rw [show n + 1 + i = n + (i + 1) by omega]
def iEnumF (f : Fx) : Fi := fun env st => (f env st).bind fun a st1 => match frz a st1 with
  | some (.lst xs, st2) => .ok (enumD 0 xs, none) st2
  | _ => .stuck
section
variable {T : Tb} {X : Cx} {W : WX}
theorem di_enum (hK : T.K = X.K) {e : Expr} {f : Fx} {p pos tpos : Pos} {elts : List Expr} {kk : Nat} (hg : Gl X "enumerate") (hm : X.mg "enumerate" = none) (he : PE X e (tE T f W)) (h1 : starEach [e] X.env = [(false, eval e X.env)]) :
    PI X (.Tuple elts kk tpos) (.Call (.Name "enumerate" p) [e] [] pos) (tI T (iEnumF f) W) :=
  PI.imp (pi_enum hg hm (pa_cons he pa_nil h1) h1) fun σ H R ⟨w, env, st, hs, hE, hp⟩ => by
    obtain ⟨w1, env1, st1, a1, a2, a3⟩ := tE.bind hs hE hp
    refine ⟨w1, env1, st1, a1, a2, a3.imp (fun y H1 ⟨u, d, st2, l, s2, e2, ry, hp2⟩ => ?_) fun _ _ _ z => z⟩
    split at hp2
    case h_2 => exact hp2.elim
    rename_i xs st3 hf
    obtain ⟨u2, l2, s3, r3⟩ := frz_ok s2 ry hf
    cases r3 with
    | @lst a vs _ hF rr =>
    have hq : ∀ x st H, Le u2 x → StOk T x st H → SqL X.K H a vs := fun x st H l hs => SqL.of (hs.sub _ _ (l.F _ _ hF))
    refine ⟨a, vs, rfl, hq u2 st3 H1 (Le.rfl' _) s3, hp2 u2 H1 _ l2 s3 ?_⟩
    intro x st H l hs _
    refine ⟨fun i d hd => ?_, vs, hq x st H l hs, by rw [enumD_len, rr.len]; exact Nat.le_refl _⟩
    rw [enumD_get] at hd
    obtain ⟨d1, h1, rfl⟩ := Option.map_eq_some_iff.mp hd
    obtain ⟨v1, g1, g2⟩ := rr.get h1
    refine ⟨⟨vs, v1, hq x st H l hs, g1⟩, fun y H' ⟨TT, x1, e3, e4, e5, e6⟩ => ?_⟩
    subst e3 e5
    have z := e6 vs (hq x st H l hs)
    rw [g1] at z
    cases z
    have l3 : Le x (x.frz TT (.tup [.int (i : Nat), v1])) := Le.frz hs e4
    rw [Nat.zero_add]
    exact ⟨_, l3, hs.newF e4, .tup (SqT.of (by rw [Wd.fF, upd_same])) (.cons (.int _) (.cons (g2.up (l.tr l3).F) .nil))⟩
/-! ### e[::-1] of a list -/
def fRev (f : Fx) : Fx := fun env st => (f env st).bind fun a st1 => match seqD st1 a with
  | some (false, xs) => .ok (.lst xs.reverse) st1
  | _ => .stuck
theorem rps_rev {F : Hp} : ∀ {ds : List D} {vs : List V}, Rps T F ds vs → Rps T F ds.reverse vs.reverse
  | _, _, .nil => .nil
  | _, _, .cons r t => by
    rw [List.reverse_cons, List.reverse_cons]
    exact (rps_rev t).app (.cons r .nil)
theorem de_rev (hK : T.K = X.K) {e : Expr} {f : Fx} {k : Nat} {p1 p2 p3 pos : Pos} (he : PE X e (tE T f W)) : PE X (.Subscript e (.Slice none none (some (.UnaryOp .USub (.Constant (.int 1) k p1) p2)) p3) pos) (tE T (fRev f) W) :=
  PE.imp (pe_revL he) fun σ H Q ⟨w, env, st, hs, hE, hp⟩ => by
    obtain ⟨w1, env1, st1, a1, a2, a3⟩ := tE.bind hs hE hp
    refine ⟨w1, env1, st1, a1, a2, a3.imp (fun y H1 ⟨u, d, st2, l, s2, e2, ry, hp2⟩ => ?_) fun _ _ _ z => z⟩
    split at hp2
    case h_2 => exact hp2.elim
    rename_i xs hq
    obtain ⟨a, vs, rfl, rr, hl⟩ := seq_at s2 ry hq
    rw [if_neg Bool.false_ne_true, hK] at hl
    exact ⟨a, vs, rfl, hl, fun p hn => post_lst s2 hn (rps_rev rr) hp2⟩
/-! ### math.isqrt -/
def gIsqrt : Gb := fun ds st => match ds with
  | [.int i] => if 0 ≤ i ∧ i.toNat.log2 < 13400 then .ok (.int (Float64.isqrt i.toNat : Nat)) st else .stuck
  | _ => .stuck
theorem gIsqrt_ok : CbD T X W (.builtin "math.isqrt") gIsqrt := by
  intro pins s σ H w st ds vs us Q I hs rv ru hp
  unfold gIsqrt at hp
  split at hp
  case h_2 => exact hp.elim
  rename_i i
  split at hp
  case isFalse => exact hp.elim
  rename_i hc
  obtain ⟨v, rfl, r1⟩ := rv.one
  rw [r1.int_inv] at ru
  obtain ⟨u, rfl, hu⟩ := vals1 ru
  obtain ⟨t, rfl⟩ := hu
  refine call_function_meets PySem.W.MGF.kind_isqrt PySem.W.MGF.plain_isqrt PySem.W.MGF.entry_isqrt (PySem.W.MGF.args_isqrt _) (PySem.W.mg_run_isqrt i t (by omega) (by omega) (by omega)).meets ?_
  exact ⟨.int _, H, I.tok _, ⟨_, rfl⟩, post_same hs (.int _) hp⟩
end
end Ev
set_option Elab.async false
set_option linter.all false
set_option maxRecDepth 100000
set_option maxHeartbeats 2000000
namespace Ev
open PySem PySem.Spec L2
/-! ### comprehensions of two clauses -/
def cGo2 (p : Pt) (t : Fb) (i1 : Fi) (p1 : Pt) (t1 : Fb) (e : Fx) (vs1 : List Nat) (n : Nat) (wk : Wk) : List D → Env → Store → Option Store
  | [], _, st => if wB wk st = true then some st else none
  | d :: ds, env, st => if wB wk st = true then (match ptSet p d env st with
    | none => none
    | some env1 => match t env1 st with
      | .ok true st1 => (match i1 env1 st1 with
        | .ok wk1 st2 => (match cGo p1 t1 e n wk1 wk1.1 (wipeD env1 vs1) st2 with
          | some st3 => cGo2 p t i1 p1 t1 e vs1 n wk ds env st3
          | none => none)
        | _ => none)
      | .ok false st1 => cGo2 p t i1 p1 t1 e vs1 n wk ds env st1
      | _ => none) else none
def lComp2 (p : Pt) (vs : List Nat) (i : Fi) (t : Fb) (p1 : Pt) (vs1 : List Nat) (i1 : Fi) (t1 : Fb) (e : Fx) : FL := fun env st => (i env st).bind fun wk st1 => match cGo2 p t i1 p1 t1 e vs1 st1.length wk wk.1 (wipeD env vs) (st1 ++ [.lst []]) with
  | some st2 => (match st2[st1.length]? with
    | some (.lst acc) => .ok acc (st2.take st1.length)
    | _ => .stuck)
  | none => .stuck
section
variable {T : Tb} {X : Cx} {W : WX}
/-- a turn of the inner clause: N is what is wanted of the store behind all turns -/
theorem go_turn {N : Option Store → Prop} (hN : ¬ N none) {p : Pt} {ft : Fb} {fe : Fx} {n : Nat} {wk : Wk} {env : Env} {vs : List Nat} {τ : L2.St} {D' : Addr} {u y : Wd} {J : It} (hu : u.ρ[n]? = some D') (hsl : ∀ i ∈ p.slots, i ∈ vs) (hE : EnvOk T y env τ) (hJ : ItOk T y wk J) (luy : Le u y)
    {i : Nat} {x : Wd} {st : Store} {H : Hp} (lx : Le y x) (hsx : StOk T x st H) (hi : i ≤ wk.1.length) (hq : N (cGo p ft fe n wk (wk.1.drop i) (wipeD env vs) st)) :
    (J.stop i H ∧ i = wk.1.length ∧ N (some st)) ∨ (J.go i H ∧ i < wk.1.length ∧ ∀ v H', J.yld i H v H' → tPt T p v (L2.wipe τ vs) H' fun σ2 H2 => L2.wipe σ2 vs = L2.wipe τ vs ∧ tT T ft W0 σ2 H2 fun b H3 =>
      if b = true then tE T fe W0 σ2 H3 fun z H4 => ∃ acc, H4 D' = some (.lst acc) ∧ acc.length < sizeLine ∧ ∃ x st, Le y x ∧ StOk T x st (upd H4 D' (.lst (acc ++ [z]))) ∧ N (cGo p ft fe n wk (wk.1.drop (i + 1)) (wipeD env vs) st)
      else ∃ x st, Le y x ∧ StOk T x st H3 ∧ N (cGo p ft fe n wk (wk.1.drop (i + 1)) (wipeD env vs) st)) := by
  have hwb : wB wk st = true := by
    cases hd : wk.1.drop i with
    | nil => rw [hd] at hq; simp only [cGo] at hq; split at hq <;> first | assumption | exact (hN hq).elim
    | cons d ds => rw [hd] at hq; simp only [cGo] at hq; split at hq <;> first | assumption | exact (hN hq).elim
  obtain ⟨g1, g2⟩ := hJ x st H lx hsx hwb
  have hx : x.ρ[n]? = some D' := lx.at (luy.at hu)
  by_cases hlt : i < wk.1.length
  · obtain ⟨g3, g4⟩ := g1 i _ (List.getElem?_eq_getElem hlt)
    refine .inr ⟨g3, hlt, fun v H' hv => ?_⟩
    obtain ⟨x2, l2, s3, r3⟩ := g4 v H' hv
    rw [List.drop_eq_getElem_cons hlt] at hq
    cases h1 : ptSet p wk.1[i] (wipeD env vs) st with
    | none => simp only [cGo, hwb, if_true, h1] at hq; exact (hN hq).elim
    | some env2 =>
      simp only [cGo, hwb, if_true, h1] at hq
      refine ⟨x2, wipeD env vs, st, wk.1[i], env2, s3, (hE.up (lx.tr l2)).wipe vs, .d r3, h1, fun υ ht ag => ⟨ag.wiped hsl, x2, env2, st, s3, ht, ?_⟩⟩
      cases h2 : ft env2 st with
      | stuck => simp only [h2] at hq; exact (hN hq).elim
      | exc c fs st4 => simp only [h2] at hq; exact (hN hq).elim
      | ok b st4 =>
        intro x4 H4 b' l4 s4 eb
        have eb : b = b' := eb
        subst eb
        cases b with
        | false =>
          simp only [h2] at hq
          rw [if_neg Bool.false_ne_true]
          exact ⟨x4, st4, lx.tr (l2.tr l4), s4, hq⟩
        | true =>
          simp only [h2] at hq
          rw [if_pos rfl]
          refine ⟨x4, env2, st4, s4, ht.up l4, ?_⟩
          cases h3 : fe env2 st4 with
          | stuck => simp only [h3] at hq; exact (hN hq).elim
          | exc c fs st5 => simp only [h3] at hq; exact (hN hq).elim
          | ok d st5 =>
            simp only [h3] at hq
            intro x5 H5 v5 l5 s5 rv
            cases h4 : frz d st5 with
            | none => simp only [h4] at hq; exact (hN hq).elim
            | some pr =>
              obtain ⟨z, st6⟩ := pr
              simp only [h4] at hq
              obtain ⟨x6, l6, s6, r6⟩ := frz_ok s5 rv h4
              have lall : Le y x6 := lx.tr (l2.tr (l4.tr (l5.tr l6)))
              have hx6 : x6.ρ[n]? = some D' := lall.at (luy.at hu)
              cases h5 : st6[n]? with
              | none => simp only [h5] at hq; exact (hN hq).elim
              | some c =>
                cases c with
                | lst acc =>
                  simp only [h5] at hq
                  obtain ⟨hF, us, hH, ru⟩ := s6.cell n _ D' h5 hx6
                  split at hq
                  · rename_i hz
                    exact ⟨us, hH, by rw [← ru.len]; exact hz, x6, _, lall, s6.wr (c := .lst (acc ++ [z])) hx6 hF ⟨hF, _, upd_same, ru.app (.cons r6 .nil)⟩, hq⟩
                  · exact (hN hq).elim
                | _ => simp only [h5] at hq; exact (hN hq).elim
  · have e : i = wk.1.length := by omega
    subst e
    rw [List.drop_length] at hq
    simp only [cGo, hwb, if_true] at hq
    exact .inl ⟨g2, rfl, hq⟩
theorem cGo2_wB {p p1 : Pt} {t t1 : Fb} {i1 : Fi} {e : Fx} {vs1 : List Nat} {n : Nat} {wk : Wk} {ds : List D} {env : Env} {st : Store} {N : Option Store → Prop} (hN : ¬ N none) (h : N (cGo2 p t i1 p1 t1 e vs1 n wk ds env st)) : wB wk st = true := by
  cases ds with
  | nil => simp only [cGo2] at h; split at h <;> first | assumption | exact (hN h).elim
  | cons d ds => simp only [cGo2] at h; split at h <;> first | assumption | exact (hN h).elim
theorem lc2_imp {p p1 : Pt} {fi fi1 : Fi} {ft ft1 : Fb} {fe : Fx} {vs vs1 : List Nat} {σ : L2.St} {H : Hp} {Q : VK} (hsl : ∀ i ∈ p.slots, i ∈ vs) (hsl1 : ∀ i ∈ p1.slots, i ∈ vs1) (h : tL T (lComp2 p vs fi ft p1 vs1 fi1 ft1 fe) W σ H Q) :
    tLc2 (tI T fi W) (tPt T p) (tT T ft W0) (tI T fi1 W0) (tPt T p1) (tT T ft1 W0) (tE T fe W0) vs vs1 σ H Q := by
  obtain ⟨w, env, st, hs, he, hp⟩ := h
  obtain ⟨w1, env1, st1, a1, a2, a3⟩ := tI.bindL hs he hp
  refine ⟨w1, env1, st1, a1, a2, a3.imp (fun J H1 ⟨u, ds, st2, l, s2, e2, hJ, hp2⟩ => ?_) fun _ _ _ z => z⟩
  intro D' hD
  generalize hn : st2.length = n at hp2
  have hcell : StOk T (u.cell D') (st2 ++ [.lst []]) (upd H1 D' (.lst [])) := s2.newC hD ⟨s2.freeF hD, [], upd_same, .nil⟩
  have hρ : (u.cell D').ρ[n]? = some D' := by
    rw [Wd.cell, ← hn, s2.len]
    simp
  have hul : u.ρ.length = n := by rw [← hn, s2.len]
  have hN : ¬ cEnd T W u Q σ n none := fun z => z
  refine ⟨fun i m H => m = ds.1.length - i ∧ i ≤ ds.1.length ∧ ∃ x st, Le (u.cell D') x ∧ StOk T x st H ∧ cEnd T W u Q σ n (cGo2 p ft fi1 p1 ft1 fe vs1 n ds (ds.1.drop i) (wipeD env vs) st), ⟨ds.1.length, rfl, Nat.zero_le _, _, _, Le.rfl' _, hcell, ?_⟩, ?_⟩
  · rw [List.drop_zero]
    cases q : cGo2 p ft fi1 p1 ft1 fe vs1 n ds ds.1 (wipeD env vs) (st2 ++ [.lst []]) with
    | none => rw [q] at hp2; exact hp2
    | some st3 =>
      rw [q] at hp2
      have hp2 : PostL T u Q (fun c d H' => W c d σ H') (match st3[n]? with | some (.lst acc) => .ok acc (st3.take n) | _ => .stuck) := hp2
      unfold cEnd
      split at hp2
      · rename_i hx
        simp only [hx]
        exact hp2
      · exact hp2.elim
  rintro i m H ⟨rfl, hi, x, st, lx, hsx, hq⟩
  have hwb := cGo2_wB hN hq
  obtain ⟨g1, g2⟩ := hJ.up (Le.cell u D') x st H lx hsx hwb
  have hx : x.ρ[n]? = some D' := lx.at hρ
  by_cases hlt : i < ds.1.length
  · obtain ⟨g3, g4⟩ := g1 i _ (List.getElem?_eq_getElem hlt)
    refine .inr ⟨g3, fun H' => ∃ x st, Le (u.cell D') x ∧ StOk T x st H' ∧ cEnd T W u Q σ n (cGo2 p ft fi1 p1 ft1 fe vs1 n ds (ds.1.drop (i + 1)) (wipeD env vs) st), fun H' h => ⟨ds.1.length - (i + 1), by omega, rfl, hlt, h⟩, fun y H' hy => ?_⟩
    obtain ⟨x2, l2, s3, r3⟩ := g4 y H' hy
    rw [List.drop_eq_getElem_cons hlt] at hq
    cases h1 : ptSet p ds.1[i] (wipeD env vs) st with
    | none => simp only [cGo2, hwb, if_true, h1] at hq; exact hq.elim
    | some env2 =>
      simp only [cGo2, hwb, if_true, h1] at hq
      refine ⟨x2, wipeD env vs, st, ds.1[i], env2, s3, (e2.up ((Le.cell u D').tr (lx.tr l2))).wipe vs, .d r3, h1, fun τ ht ag => ⟨ag.wiped hsl, x2, env2, st, s3, ht, ?_⟩⟩
      cases h2 : ft env2 st with
      | stuck => simp only [h2] at hq; exact hq.elim
      | exc c fs st4 => simp only [h2] at hq; exact hq.elim
      | ok b st4 =>
        intro x4 H4 b' l4 s4 eb
        have eb : b = b' := eb
        subst eb
        cases b with
        | false =>
          simp only [h2] at hq
          rw [if_neg Bool.false_ne_true]
          exact ⟨x4, st4, lx.tr (l2.tr l4), s4, hq⟩
        | true =>
          simp only [h2] at hq
          rw [if_pos rfl]
          refine ⟨x4, env2, st4, s4, ht.up l4, ?_⟩
          cases h3 : fi1 env2 st4 with
          | stuck => simp only [h3] at hq; exact hq.elim
          | exc c fs st5 => simp only [h3] at hq; exact hq.elim
          | ok wk1 st5 =>
            simp only [h3] at hq
            intro y5 H5 J1 l5 s5 hJ1
            have lall : Le (u.cell D') y5 := lx.tr (l2.tr (l4.tr l5))
            let N : Option Store → Prop := fun o => cEnd T W u Q σ n (match o with
              | some st6 => cGo2 p ft fi1 p1 ft1 fe vs1 n ds (ds.1.drop (i + 1)) (wipeD env vs) st6
              | none => none)
            have hN1 : ¬ N none := fun z => z
            refine ⟨fun j k H => k = wk1.1.length - j ∧ j ≤ wk1.1.length ∧ ∃ x st, Le y5 x ∧ StOk T x st H ∧ N (cGo p1 ft1 fe n wk1 (wk1.1.drop j) (wipeD env2 vs1) st), ⟨wk1.1.length, rfl, Nat.zero_le _, y5, st5, Le.rfl' _, s5, by rw [List.drop_zero]; exact hq⟩, ?_⟩
            rintro j k H6 ⟨rfl, hj, x6, st6, l6, s6, hq6⟩
            rcases go_turn (u := u.cell D') hN1 hρ hsl1 (ht.up (l4.tr l5)) hJ1 lall l6 s6 hj hq6 with ⟨z1, rfl, z2⟩ | ⟨z1, z2, z3⟩
            · exact .inl ⟨z1, x6, st6, lall.tr l6, s6, z2⟩
            · exact .inr ⟨z1, fun H' => ∃ x st, Le y5 x ∧ StOk T x st H' ∧ N (cGo p1 ft1 fe n wk1 (wk1.1.drop (j + 1)) (wipeD env2 vs1) st), fun H' h => ⟨wk1.1.length - (j + 1), by omega, rfl, z2, h⟩, fun v H' hv => z3 v H' hv⟩
  · have e : i = ds.1.length := by omega
    subst e
    rw [List.drop_length] at hq
    refine .inl ⟨g2, ?_⟩
    simp only [cGo2, hwb, if_true, cEnd] at hq
    split at hq
    · rename_i acc h5
      obtain ⟨hF, us, hH, ru⟩ := hsx.cell n _ D' h5 hx
      have hs' := hsx.take ((Le.cell u D').tr lx) hul
      refine hq ⟨x.F, u.ρ⟩ H D' us (((Le.cell u D').tr lx).take) hs' hF ?_ hH ru
      intro z
      obtain ⟨j, hj⟩ := List.getElem?_of_mem z
      have h6 : x.ρ[j]? = some D' := ((Le.cell u D').tr lx).at hj
      have h7 := nodup_get hsx.nd h6 hx
      rw [h7, ← hul] at hj
      simp at hj
    · exact hq.elim
end
end Ev
namespace Ev
open PySem PySem.Spec L2
section
variable {T : Tb} {X : Cx} {W : WX}
theorem dl_comp2 {elt tg iter tg1 iter1 : Expr} {ifs ifs1 : List Expr} {scope : Scope} {own : List (Str × Nat)} {pos : Pos} {p p1 : Pt} {fi fi1 : Fi} {ft ft1 : Fb} {fe : Fx} (hc : X.calm = true) (hN : X.N.Nodup) (hi : PI X tg iter (tI T fi W)) (ok : BlkOk X.N X.env.scope scope own)
    (hg : ∀ (s : Shared) (H : Hp) (C : Addr) (cl : List (Str × Addr)) (fp : List Addr), PG (X.blk s H scope (compEnvC scope cl C X.env) fp) tg (tPt T p)) (ht : ∀ (s : Shared) (H : Hp) (C : Addr) (cl : List (Str × Addr)) (fp : List Addr), PTs (X.blk s H scope (compEnvC scope cl C X.env) fp) ifs (tT T ft W0))
    (hi1 : ∀ (s : Shared) (H : Hp) (C : Addr) (cl : List (Str × Addr)) (fp : List Addr), PI (X.blk s H scope (compEnvC scope cl C X.env) fp) tg1 iter1 (tI T fi1 W0))
    (hg1 : ∀ (s : Shared) (H : Hp) (C : Addr) (cl : List (Str × Addr)) (fp : List Addr), PG (X.blk s H scope (compEnvC scope cl C X.env) fp) tg1 (tPt T p1)) (ht1 : ∀ (s : Shared) (H : Hp) (C : Addr) (cl : List (Str × Addr)) (fp : List Addr), PTs (X.blk s H scope (compEnvC scope cl C X.env) fp) ifs1 (tT T ft1 W0))
    (he : ∀ (s : Shared) (H : Hp) (C : Addr) (cl : List (Str × Addr)) (fp : List Addr), PE (X.blk s H scope (compEnvC scope cl C X.env) fp) elt (tE T fe W0)) (hs : ∀ x, foldedSetIterable iter X.env x = pure x) (hs1 : ∀ env x, foldedSetIterable iter1 env x = pure x)
    (hsl : ∀ i ∈ p.slots, i ∈ own.map (·.2)) (hsl1 : ∀ i ∈ p1.slots, i ∈ own.map (·.2)) :
    PE X (.ListComp elt [⟨tg, iter, ifs, 0⟩, ⟨tg1, iter1, ifs1, 0⟩] scope pos) (tL T (lComp2 p (own.map (·.2)) fi ft p1 p1.slots fi1 ft1 fe) W) :=
  PE.imp (pe_lc2 hc hN hi ok hsl1 hg ht hi1 hg1 ht1 he hs hs1) fun σ H Q h => lc2_imp hsl (fun _ h => h) h
/-! ### sum of ints -/
def gSum : Gb := fun ds st => match ds with
  | [d] => (match seqD st d with
    | some (false, xs) => (match intsO xs with
      | some ns => .ok (.int ns.sum) st
      | none => .stuck)
    | _ => .stuck)
  | _ => .stuck
theorem gSum_ok (hK : T.K = X.K) (hc : X.calm = true) : CbD T X W (.builtin "sum") gSum := CbD.of (cr_sum hc) fun w st H ds vs Q E hs rv hp => by
  unfold gSum at hp
  split at hp
  case h_2 => exact hp.elim
  obtain ⟨v, rfl, r1⟩ := rv.one
  split at hp
  case h_2 => exact hp.elim
  rename_i xs hq
  obtain ⟨a, xvs, rfl, rx, hl⟩ := seq_at hs r1 hq
  rw [if_neg Bool.false_ne_true, hK] at hl
  split at hp
  case h_2 => exact hp.elim
  rename_i ns hns
  have e := intsO_eq hns
  subst e
  rw [rps_ints rx] at hl
  exact ⟨a, ns, rfl, hl, post_same hs (.int _) hp⟩
end
end Ev
set_option Elab.async false
set_option linter.all false
set_option maxRecDepth 100000
set_option maxHeartbeats 2000000
namespace Ev
open PySem PySem.Spec L2
/-! ### the evaluator: what a global name is, the tables, a block's statics -/
inductive Gk where
  | fn (i : Nat) | cls (c : Nat) | bi (id : String) | k (d : D)
structure Cmp where
  x : Str
  ok : Str
  hs : List Hc
  m : Nat
structure Gm where
  gk : Str → Option Gk
  free : Str → Bool
  att : Str → Option Nat
  call : Nat → Gb
  dfl : Nat → Nat → Option (List D)
  ini : Nat → Option Nat
  ao : Nat → Nat → Bool
  io : Kd → Ck → Option Bool
  exf : Nat → Option (List Nat)
  xm : Nat → Nat → Option Bool
  eqf : Nat → Option Nat
  eqk : Nat → Kd → Bool
  cmp : Nat → Option Cmp
  fuel : Nat
  opf : Nat → Operator → Option Nat
  ngf : Nat → Option Nat
  mtf : Nat → Str → Option Nat
structure Sc where
  N : List Str
  sc : Scope
  fn : Str → Bool
  calm : Bool
  rm : Nat
  lam : Option Nat
  new : List Str
/-! what does not work out -/
def fX : Fx := fun _ _ => .stuck
def aX : Fa := fun _ _ => .stuck
def bX : Fb := fun _ _ => .stuck
def iX : Fi := fun _ _ => .stuck
def lX : FL := fun _ _ => .stuck
def sX : Fs := fun _ _ => .stuck
section
variable {T : Tb} {X : Cx} {W : WX}
theorem de_x {e : Expr} : PE X e (tE T fX W) := ⟨fun _ _ _ _ _ _ ⟨_, _, _, _, _, hp⟩ => hp.elim⟩
theorem dt_x {e : Expr} : PT X e (tT T bX W) := ⟨fun _ _ _ _ _ _ ⟨_, _, _, _, _, hp⟩ => hp.elim⟩
theorem da_x {es : List Expr} : PA X es (tA T aX W) := ⟨fun _ _ _ _ _ _ _ ⟨_, _, _, _, _, hp⟩ => hp.elim⟩
theorem di_x {tg e : Expr} : PI X tg e (tI T iX W) := ⟨fun _ _ _ _ _ _ ⟨_, _, _, _, _, hp⟩ => hp.elim⟩
theorem dl_x {e : Expr} : PE X e (tL T lX W) := ⟨fun _ _ _ _ _ _ ⟨_, _, _, _, _, hp⟩ => hp.elim⟩
theorem ds_x {s : Stmt} : PS X s (tS T sX W) := ⟨fun _ _ _ _ _ _ ⟨_, _, _, _, _, hp⟩ => hp.elim⟩
theorem dss_x {s : List Stmt} : PSs X s (tS T sX W) := ⟨fun _ _ _ _ _ _ ⟨_, _, _, _, _, hp⟩ => hp.elim⟩
end
/-! ### plain facts of the text -/
def isStar : Expr → Bool
  | .Starred .. => true
  | _ => false
def isCall0 : Expr → Bool
  | .Call (.Name _ _) [] [] _ => true
  | _ => false
def isSet : Expr → Bool
  | .Set .. => true
  | _ => false
def isComp : Expr → Bool
  | .ListComp .. | .SetComp .. | .DictComp .. => true
  | _ => false
def isSlice : Expr → Bool
  | .Slice .. => true
  | _ => false
def isRow : Expr → Bool
  | .Tuple .. | .List .. => true
  | _ => false
def isTest : Expr → Bool
  | .UnaryOp .Not _ _ | .BoolOp .. | .IfExp .. | .Compare .. => true
  | _ => false
theorem star_cons {e : Expr} {es : List Expr} {env : PySem.Env} (h : isStar e = false) : starEach (e :: es) env = (false, eval e env) :: starEach es env := by
  cases e <;> first | rfl | (cases h; done)
theorem star_any {pos : Pos} {env : PySem.Env} : ∀ {es : List Expr}, es.any isStar = false → (backTo pos (starEach es env)).any (·.1) = false
  | [], _ => rfl
  | e :: es, h => by
    rw [List.any_cons, Bool.or_eq_false_iff] at h
    rw [star_cons h.1]
    show (false || (backTo pos (starEach es env)).any (·.1)) = false
    rw [star_any h.2]
    rfl
theorem base_ok {e : Expr} {x : Str} {env : PySem.Env} {w : Sem Value} (h : isCall0 e = false) : attributeBase e x env w = w := by
  unfold attributeBase
  split
  · cases h
  · rfl
theorem fset_ok {e : Expr} {env : PySem.Env} (h : isSet e = false) : ∀ x, foldedSetIterable e env x = pure x := fun x => by
  unfold foldedSetIterable
  split
  · cases h
  · rfl
theorem swap_ok {e : Expr} {t : Option Expr} {l : Nat} {env : PySem.Env} (h : isComp e = false) : swapsWith e t l env = pure false := by
  unfold swapsWith
  cases e <;> first | rfl | (cases h; done)
theorem plain_ok {b : Expr} (h : isSlice b = false) : PlainIx b := fun o i => by
  cases b <;> first | rfl | (cases h; done)
theorem asgs_cons {e : Expr} {es : List Expr} {env : PySem.Env} (h : isStar e = false) : assignEach (e :: es) env = (false, assign e env) :: assignEach es env := by
  cases e <;> first | rfl | (cases h; done)
theorem asgs_len {env : PySem.Env} : ∀ {es : List Expr}, (assignEach es env).length = es.length
  | [] => rfl
  | e :: es => by
    have ih := asgs_len (env := env) (es := es)
    cases e <;> exact congrArg (· + 1) ih
theorem asgs_star {env : PySem.Env} : ∀ {es : List Expr}, es.any isStar = false → (assignEach es env).findIdx? (·.1) = none
  | [], _ => rfl
  | e :: es, h => by
    rw [List.any_cons, Bool.or_eq_false_iff] at h
    rw [asgs_cons h.1, List.findIdx?_cons]
    simp [asgs_star h.2]
theorem test_ok {a : Expr} {env : PySem.Env} (h : isTest a = false) : ∀ whole, isTrue a env whole = (do let v ← whole; standAt a.pos; holding [v] (truthy v)) := fun whole => by
  cases a with
  | UnaryOp op x p => cases op <;> first | rfl | (cases h; done)
  | BoolOp _ _ _ => cases h
  | IfExp _ _ _ _ => cases h
  | Compare _ _ _ _ => cases h
  | _ => rfl
theorem stores_ok {tg e : Expr} {env : PySem.Env} (h : isRow tg = false ∨ (match e with | .Tuple .. => false | _ => true) = true) : swappedStores [tg] e env = pure none := by
  unfold swappedStores
  rcases h with h | h
  · cases tg <;> first | rfl | (cases h; done)
  · cases e <;> first | (cases h; done) | (cases tg <;> rfl)
def idx (x : Str) : List Str → Option Nat
  | [] => none
  | y :: r => if y = x then some 0 else (idx x r).map (· + 1)
theorem idx_ok {x : Str} : ∀ {N : List Str} {i : Nat}, idx x N = some i → N[i]? = some x
  | [], _, h => by cases h
  | y :: r, i, h => by
    unfold idx at h
    split at h
    · rename_i e
      cases h
      subst e
      rfl
    · cases q : idx x r with
      | none => rw [q] at h; cases h
      | some j =>
        rw [q] at h
        cases h
        show r[j]? = some x
        exact idx_ok q
/-! ### names -/
def Sc.kd (c : Sc) (x : Str) : Option NameKind := c.sc.names.lookup x
def nmPlain (x : Str) : Bool := !(x == ("__debug__" : Str)) && !(x == ("__classdict__" : Str))
def Sc.slot (c : Sc) (x : Str) : Option Nat := if nmPlain x = true then (match c.kd x with
  | some .local => idx x c.N
  | some .cell => idx x c.N
  | some .free => idx x c.N
  | _ => none) else none
def Sc.glo (c : Sc) (x : Str) : Bool := nmPlain x && decide (c.kd x = some .globalImplicit)
def Sc.own (c : Sc) (x : Str) : Option Nat := match c.kd x with
  | some .local => idx x c.N
  | some .cell => if c.fn x = true then idx x c.N else none
  | _ => none
def ownOf (N : List Str) (l : List (Str × NameKind)) : List (Str × Nat) := l.filterMap fun y => match y.2 with
  | .local => (idx y.1 N).map fun i => (y.1, i)
  | .cell => (idx y.1 N).map fun i => (y.1, i)
  | _ => none
def Sc.blk (c : Sc) (scope : Scope) : Sc := { c with sc := relS scope c.sc, fn := fun x => scope.names.lookup x == some .cell, lam := none, new := [] }
def Sc.lamS (c : Sc) (scope : Scope) : Sc := { N := c.N, sc := scope, fn := fun _ => false, calm := true, rm := c.rm - 2, lam := none, new := [] }
/-! ### targets -/
def ptL (f : Expr → Option Pt) : List Expr → Option (List Pt)
  | [] => some []
  | e :: es => if isStar e = true then none else match f e, ptL f es with
    | some p, some ps => some (p :: ps)
    | _, _ => none
def ptX (c : Sc) : Nat → Expr → Option Pt
  | 0, _ => none
  | n + 1, .Name x _ => (c.own x).map .nm
  | n + 1, .Tuple es _ _ => (ptL (ptX c n) es).map .tp
  | _, _ => none
/-! ### expressions -/
structure Er where
  x : Sc → Expr → Fx
  t : Sc → Expr → Fb
def evA (f : Expr → Fx) : List Expr → Fa
  | [] => aNil
  | e :: es => if isStar e = true then aX else aCons (f e) (evA f es)
def boX (o : BoolOp) (f : Expr → Fx) : List Expr → Fx
  | [] => fX
  | [a] => f a
  | a :: b :: r => match o with
    | .And => fAnd (f a) (boX o f (b :: r))
    | .Or => fOr (f a) (boX o f (b :: r))
def boT (o : BoolOp) (f : Expr → Fb) : List Expr → Fb
  | [] => bX
  | [a] => f a
  | a :: b :: r => match o with
    | .And => bAnd (f a) (boT o f (b :: r))
    | .Or => bOr (f a) (boT o f (b :: r))
def cmpG (Γ : Gm) (c : Sc) : CmpOp → Option (D → D → Store → Oe)
  | .Eq => if 1 ≤ c.rm then some (eqO Γ.call Γ.dfl Γ.eqf Γ.eqk false) else none
  | .NotEq => if 1 ≤ c.rm then some (eqO Γ.call Γ.dfl Γ.eqf Γ.eqk true) else none
  | .Lt => some ltP
  | .LtE => some leP
  | .Gt => some gtP
  | .GtE => some geP
  | .Is => some isQ
  | .IsNot => some isnQ
  | .In => some (inQ false)
  | .NotIn => some (inQ true)
/-- what is walked -/
def iterX (Γ : Gm) (r : Er) (c : Sc) (tg : Expr) (e : Expr) : Fi := match e with
  | .Call (.Name x _) args [] _ => if (c.glo x && Γ.free x) = true then (if x = "range" then (if args.any isStar = true then iX else match args with
      | [a] => iR1 (r.x c a)
      | [a, b] => iR2 (r.x c a) (r.x c b)
      | [a, b, d] => iR3 (r.x c a) (r.x c b) (r.x c d)
      | _ => iX)
    else if x = "zip" then (if args.any isStar = true then iX else match tg, args with
      | .Tuple _ _ _, [a, b] => iZip (r.x c a) (r.x c b)
      | _, _ => iX)
    else if x = "enumerate" then (if args.any isStar = true then iX else match tg, args with
      | .Tuple _ _ _, [a] => iEnumF (r.x c a)
      | _, _ => iX)
    else iSeq (r.x c e)) else iSeq (r.x c e)
  | _ => iSeq (r.x c e)
def lcX (Γ : Gm) (r : Er) (c : Sc) (elt tg iter : Expr) (ifs : List Expr) (scope : Scope) : FL :=
  if (c.calm && blkC c.N c.sc scope (ownOf c.N scope.names) && !isSet iter) = true then (match ptX (c.blk scope) 5 tg with
    | some p => if (p.slots.all fun i => decide (i ∈ (ownOf c.N scope.names).map (·.2))) = true then (match ifs with
      | [] => lComp p ((ownOf c.N scope.names).map (·.2)) (iterX Γ r c tg iter) bYes (r.x (c.blk scope) elt)
      | [t] => lComp p ((ownOf c.N scope.names).map (·.2)) (iterX Γ r c tg iter) (r.t (c.blk scope) t) (r.x (c.blk scope) elt)
      | _ => lX) else lX
    | none => lX) else lX
def ifB (f : Expr → Fb) : List Expr → Option Fb
  | [] => some bYes
  | [t] => some (f t)
  | _ => none
def lcX2 (Γ : Gm) (r : Er) (c : Sc) (elt tg iter : Expr) (ifs : List Expr) (tg1 iter1 : Expr) (ifs1 : List Expr) (scope : Scope) : FL :=
  if (c.calm && blkC c.N c.sc scope (ownOf c.N scope.names) && !isSet iter && !isSet iter1) = true then (match ptX (c.blk scope) 5 tg, ptX (c.blk scope) 5 tg1, ifB (r.t (c.blk scope)) ifs, ifB (r.t (c.blk scope)) ifs1 with
    | some p, some p1, some ft, some ft1 => if ((p.slots.all fun i => decide (i ∈ (ownOf c.N scope.names).map (·.2))) && (p1.slots.all fun i => decide (i ∈ (ownOf c.N scope.names).map (·.2)))) = true then
        lComp2 p ((ownOf c.N scope.names).map (·.2)) (iterX Γ r c tg iter) ft p1 p1.slots (iterX Γ r (c.blk scope) tg1 iter1) ft1 (r.x (c.blk scope) elt) else lX
    | _, _, _, _ => lX) else lX
/-- a new list -/
def newX (Γ : Gm) (r : Er) (c : Sc) : Expr → Option FL
  | .List es _ => some (lDisp (evA (r.x c) es))
  | .ListComp elt [⟨tg, iter, ifs, 0⟩] scope _ => some (lcX Γ r c elt tg iter ifs scope)
  | .ListComp elt [⟨tg, iter, ifs, 0⟩, ⟨tg1, iter1, ifs1, 0⟩] scope _ => some (lcX2 Γ r c elt tg iter ifs tg1 iter1 ifs1 scope)
  | .Call (.Name x _) [e] [] _ => if (c.glo x && Γ.free x && decide (x = "list") && !isStar e) = true then some (lList (r.x c e)) else none
  | _ => none
def ckX (Γ : Gm) (c : Sc) : Expr → Option Ck
  | .Name x _ => if c.glo x = true then (match Γ.gk x with
    | some (.cls k) => some (.own k)
    | some _ => none
    | none => if Γ.free x = true then (if x = "int" then some .int else if x = "bool" then some .bl else if x = "str" then some .str else if x = "tuple" then some .tup else if x = "list" then some .lst else if x = "dict" then some .dct else none) else none) else none
  | _ => none
def ckL (Γ : Gm) (c : Sc) : List Expr → Option (List Ck)
  | [] => some []
  | e :: es => match ckX Γ c e, ckL Γ c es with
    | some k, some ks => some (k :: ks)
    | _, _ => none
def bltX2 (c : Sc) (x : Str) (a : Fa) : Fx := if x = "sorted" then fB gSort a else if x = "sum" then (if c.calm = true then fB gSum a else fX) else fX
def bltX (c : Sc) (x : Str) (a : Fa) : Fx :=
  if x = "len" then fB gLen a else if x = "int" then fB gInt a else if x = "abs" then fB gAbs a else if x = "str" then fB gStr a
  else if x = "max" then (if c.calm = true then fB gMax2 a else fX) else if x = "min" then (if c.calm = true then fB gMin2 a else fX) else if x = "all" then (if c.calm = true then fB gAll a else fX) else if x = "any" then (if c.calm = true then fB gAny a else fX)
  else if x = "tuple" then fB gTup a else if x = "repr" then fB gRepr a else bltX2 c x a
/-- a lambda's parameters: none, or one with an int for its default -/
def lmDB (params : Arguments) (scope : Scope) : Bool := match params with
  | ⟨[], [], none, [], [], none, []⟩ => true
  | ⟨[], [⟨x, none, _⟩], none, [], [], none, [.Constant (.int _) _ _]⟩ => decide (scope.names.lookup x = some .local)
  | _ => false
def callX (Γ : Gm) (r : Er) (c : Sc) (x : Str) (args : List Expr) : Fx := if c.glo x = true then (match Γ.gk x with
    | some (.fn i) => (match args with
      | [] => fB (callP Γ.call Γ.dfl i) aNil
      | [.Lambda params body scope _] => (match c.lam, Γ.cmp i with
        | some j, some q => if (decide (q.x = x) && lmDB params scope && lmsB c.N c.sc scope && decide (3 ≤ c.rm)) = true then fLamC Γ.xm q.ok q.hs q.m j j (r.x (c.lamS scope) body) else fX
        | _, _ => fX)
      | e :: es => if (e :: es).any isStar = true then fX else fB (callP Γ.call Γ.dfl i) (evA (r.x c) (e :: es)))
    | some (.cls k) => (match args with
      | [] => fX
      | e :: es => if (e :: es).any isStar = true then fX else if (decide (1 ≤ c.rm) && (Γ.ini k).isSome) = true then fB (makeP Γ.call Γ.dfl Γ.ini k) (evA (r.x c) (e :: es)) else fX)
    | some (.bi id) => (match args with
      | [] => fX
      | e :: es => if (e :: es).any isStar = true then fX else if id = "math.gcd" then fB gGcd (evA (r.x c) (e :: es)) else if id = "math.isqrt" then fB gIsqrt (evA (r.x c) (e :: es)) else fX)
    | some (.k _) => fX
    | none => if Γ.free x = true then (if args.any isStar = true then fX else if x = "isinstance" then (match args with
        | [e, .Tuple ces _ _] => (match ckL Γ c ces with
          | some cs => if (decide (cs.length ≤ 100) && !ces.any isStar) = true then f1 (isaT Γ.io cs) (r.x c e) else fX
          | none => fX)
        | [e, ce] => (match ckX Γ c ce with
          | some k => f1 (isaP Γ.io k) (r.x c e)
          | none => fX)
        | _ => fX)
      else match args with
        | [] => fX
        | e :: es => bltX c x (evA (r.x c) (e :: es))) else fX) else fX
def optX (f : Expr → Fx) : Option Expr → Fo
  | none => oNone
  | some e => oSome (f e)
def pairX (f : Expr → Fx) : List (Option Expr) → List Expr → Option Fp
  | [], [] => some pNil
  | some k :: ks, v :: vs => (pairX f ks vs).map fun p => pCons (f k) (f v) p
  | _, _ => none
def evX0 (Γ : Gm) (r : Er) (c : Sc) : Expr → Fx
  | .Name x _ => (match c.slot x with
    | some i => fV i
    | none => if c.glo x = true then (match Γ.gk x with
      | some (.fn i) => fK (.fn i)
      | some (.cls k) => fK (.cls k)
      | some (.k d) => fK d
      | _ => fX) else fX)
  | .Constant (.int i) _ _ => fK (.int i)
  | .Constant (.bool b) _ _ => fK (.bl b)
  | .Constant .none _ _ => fK .non
  | .Constant (.str x) _ _ => fK (.str x)
  | .UnaryOp .Not a _ => fNot (r.x c a)
  | .UnaryOp .USub a _ => f1 (negO Γ.call Γ.dfl Γ.ngf) (r.x c a)
  | .BinOp a op b _ => f2 (binO Γ.call Γ.dfl Γ.opf op) (r.x c a) (r.x c b)
  | .BoolOp o es _ => boX o (r.x c) es
  | .IfExp t a b _ => fIf (r.t c t) (r.x c a) (r.x c b)
  | .Compare a [op] [b] _ => (match cmpG Γ c op with
    | some g => if behindInMarks op b = true then fX else f2 g (r.x c a) (r.x c b)
    | none => fX)
  | .Compare a [op, op'] [b, d] _ => (match cmpG Γ c op, cmpG Γ c op' with
    | some g, some g' => if lastMarks [op, op'] [b, d] = true then fX else fChain g g' (r.x c a) (r.x c b) (r.x c d)
    | _, _ => fX)
  | .Tuple es _ _ => fTup (evA (r.x c) es)
  | .Subscript e (.Slice none none (some (.UnaryOp .USub (.Constant (.int 1) _ _) _)) _) _ => fRev (r.x c e)
  | .Subscript e (.Slice lo hi none _) _ => fSl (r.x c e) (optX (r.x c) lo) (optX (r.x c) hi)
  | .Subscript a b _ => if isSlice b = true then fX else f2 ixP (r.x c a) (r.x c b)
  | .Dict [] [] _ => fDict0
  | .Dict (k :: ks) vs _ => (match pairX (r.x c) (k :: ks) vs with
    | some p => if ((k :: ks).all (·.isSome) && decide ((k :: ks).length = vs.length) && decide ((k :: ks).length ≤ 15)) = true then fDict p else fX
    | none => fX)
  | .Attribute e x _ => (match Γ.att x with
    | some f => if isCall0 e = true then fX else f1 (attP Γ.ao f) (r.x c e)
    | none => fX)
  | .Call (.Name x _) args [] _ => callX Γ r c x args
  | .Call (.Attribute o x apos) args [] cpos => if (isCall0 o || !(apos.endLine == cpos.line)) = true then fX else
      if x = "append" then (match args with
        | [e] => if isStar e = true then fX else fApp (r.x c o) (r.x c e)
        | _ => fX)
      else if x = "bit_length" then (match args with
        | [] => fBits (r.x c o)
        | _ => fX)
      else (match args with
        | [] => fMth Γ.call Γ.dfl Γ.mtf x (r.x c o) aNil
        | e :: es => if ((e :: es).any isStar || !decide ((e :: es).length < 30)) = true then fX else fMth Γ.call Γ.dfl Γ.mtf x (r.x c o) (evA (r.x c) (e :: es)))
  | _ => fX
def evX (Γ : Gm) (r : Er) (c : Sc) (e : Expr) : Fx := match newX Γ r c e with
  | some f => fFrz f
  | none => evX0 Γ r c e
def evT (Γ : Gm) (r : Er) (c : Sc) (e : Expr) : Fb := match e with
  | .UnaryOp .Not a _ => bNot (r.t c a)
  | .BoolOp o es _ => boT o (r.t c) es
  | .Compare a [op] [b] _ => (match cmpG Γ c op with
    | some g => if behindInMarks op b = true then bX else bTr (f2 g (r.x c a) (r.x c b))
    | none => bX)
  | .Compare a [op, op'] [b, d] _ => (match cmpG Γ c op, cmpG Γ c op' with
    | some g, some g' => if lastMarks [op, op'] [b, d] = true then bX else bTr (fChain g g' (r.x c a) (r.x c b) (r.x c d))
    | _, _ => bX)
  | e => if isTest e = true then bX else bTr (r.x c e)
def stepE (Γ : Gm) (r : Er) : Er := ⟨evX Γ r, evT Γ r⟩
def ev (Γ : Gm) : Nat → Er
  | 0 => ⟨fun _ _ => fX, fun _ _ => bX⟩
  | n + 1 => stepE Γ (ev Γ n)
end Ev
set_option Elab.async false
set_option linter.all false
set_option maxRecDepth 100000
set_option maxHeartbeats 2000000
namespace Ev
open PySem PySem.Spec L2
inductive GkOk (T : Tb) (K : PySem.W.Frag) (mg : Str → Option Value) (x : Str) : Gk → Prop
  | fn {i : Nat} {f : Addr} (h : T.fn i = some f) (k : PySem.W.keepIn K (.ref f) = true) (m : mg x = some (.ref f)) : GkOk T K mg x (.fn i)
  | cls {c : Nat} {C : Addr} (h : T.cls c = some C) (m : mg x = some (.ref C)) : GkOk T K mg x (.cls c)
  | bi {id : String} (m : mg x = some (.builtin id)) : GkOk T K mg x (.bi id)
  | k {d : D} {v : V} {u : Value} (m : mg x = some u) (r : RelV v u) (h : ∀ F, Rp T F d v) : GkOk T K mg x (.k d)
structure CmpOk (T : Tb) (P : Program) (w : World) (K : PySem.W.Frag) (mg : Str → Option Value) (base : Heap) (cmp : Nat → Option Cmp) : Prop where
  ok : ∀ i q, cmp i = some q → ∃ (g : Addr) (a : Str) (jj k0 : Nat) (p1 p2 p3 p4 p5 p6 : Pos) (h0 : ExceptHandler) (hds : List ExceptHandler) (pg : Arguments) (sg : Scope) (fd : FuncData) (Ng : List Str),
    T.fn i = some g ∧ FunD K q.x q.x pg (cmpBody q.ok a jj k0 p1 p2 p3 p4 p5 p6 (h0 :: hds)) sg [] [] g fd ∧ FnScope Ng [a] sg ∧ L2.Binds K fd [a] [] ∧ q.m = Ng.length ∧ nmPlain a = true ∧
    ∀ (cdv : Value) (A : Around) (outer : List PySem.Env) (s : Shared) (H : Hp) (E : XK), Room 0 (A.deeper (PyProof.Rows.envOfC q.x sg s.heap.objs.size g cdv)) → (A.deeper (PyProof.Rows.envOfC q.x sg s.heap.objs.size g cdv)).guards = some [] →
      HcsOk T (cxOf (L2.CX P w) P w K mg base Ng q.x sg g cdv A outer s H E) (h0 :: hds) q.hs
structure GmOk (T : Tb) (Γ : Gm) (P : Program) (w : World) (K : PySem.W.Frag) (mg : Str → Option Value) (base : Heap) (k : Nat) : Prop where
  hK : T.K = K
  gk : ∀ x g, Γ.gk x = some g → GkOk T K mg x g
  free : ∀ x, Γ.free x = true → mg x = none
  att : ∀ x f, Γ.att x = some f → T.att f = some x
  F : FnsOk T P w K mg base Γ.call Γ.dfl k
  M : MksOk T K Γ.ini
  A : AttOk T Γ.ao
  I : IsOk T Γ.io
  xf : XfOk T K Γ.exf
  xm : XmOk T K Γ.xm
  eq : EqOk T K Γ.eqf Γ.eqk
  ex : ExsOk T P w K mg base Γ.exf k
  cmp : CmpOk T P w K mg base Γ.cmp
  lam : ∀ F b, T.lam F (.lam 0) (.ref b)
  op : OpOk T K Γ.opf
  ng : NgOk T K Γ.ngf
  mt : MtOk T K Γ.mtf
structure CxOk (T : Tb) (Γ : Gm) (k : Nat) (c : Sc) (X : Cx) (W : WX) : Prop where
  F : GmOk T Γ X.prog X.w X.K X.mg X.base k
  N : X.N = c.N
  nd : c.N.Nodup
  sc : X.env.scope = c.sc
  fn : X.fn = c.fn
  calm : X.calm = c.calm
  tk : Takes X W
  G : X.A.guards = some []
  room : Room (k + c.rm) X.A
  lam : ∀ j, c.lam = some j → ∃ cc P, LamX.TabB X.base X.mg cc P ∧ X.env.code = .ref cc ∧ T.tab j = some (P, X.env.qual ++ "<lambda>")
section
variable {T : Tb} {Γ : Gm} {k : Nat} {c : Sc} {X : Cx} {W : WX}
theorem nm_plain {x : Str} (h : nmPlain x = true) : (x == ("__debug__" : Str)) = false ∧ (x == ("__classdict__" : Str)) = false := by
  unfold nmPlain at h
  rw [Bool.and_eq_true, Bool.not_eq_true', Bool.not_eq_true'] at h
  exact h
theorem CxOk.slot (C : CxOk T Γ k c X W) {x : Str} {i : Nat} (h : c.slot x = some i) : X.N[i]? = some x ∧ Vis X.env.scope x ∧ (x == ("__debug__" : Str)) = false ∧ (x == ("__classdict__" : Str)) = false := by
  unfold Sc.slot at h
  split at h
  · rename_i hp
    have e : X.env.scope.names.lookup x = c.kd x := by rw [C.sc]; rfl
    refine ⟨?_, ?_, nm_plain hp⟩
    · rw [C.N]
      split at h <;> first | exact idx_ok h | (cases h; done)
    · unfold Vis
      rw [e]
      split at h
      · rename_i q; exact .inl q
      · rename_i q; exact .inr (.inl q)
      · rename_i q; exact .inr (.inr q)
      · cases h
  · cases h
theorem CxOk.glo (C : CxOk T Γ k c X W) {x : Str} (h : c.glo x = true) : Gl X x ∧ (x == ("__debug__" : Str)) = false := by
  unfold Sc.glo at h
  rw [Bool.and_eq_true, decide_eq_true_eq] at h
  refine ⟨?_, (nm_plain h.1).1⟩
  show X.env.scope.names.lookup x = _
  rw [C.sc]
  exact h.2
theorem CxOk.own (C : CxOk T Γ k c X W) {x : Str} {i : Nat} (h : c.own x = some i) : X.N[i]? = some x ∧ L2.Loc X.env.scope x ∧ (X.fn x = true ∨ X.env.scope.names.lookup x = some .local) := by
  unfold Sc.own at h
  have e : X.env.scope.names.lookup x = c.kd x := by rw [C.sc]; rfl
  unfold L2.Loc
  rw [e, C.N, C.fn]
  split at h
  · rename_i q
    exact ⟨idx_ok h, .inl q, .inr q⟩
  · rename_i q
    split at h
    · rename_i q2
      exact ⟨idx_ok h, .inr q, .inl q2⟩
    · cases h
  · cases h
theorem CxOk.hK (C : CxOk T Γ k c X W) : T.K = X.K := C.F.hK
theorem CxOk.hu (C : CxOk T Γ k c X W) : X.A.units + 64 < cLine := C.room.units
theorem CxOk.nd' (C : CxOk T Γ k c X W) : X.N.Nodup := by rw [C.N]; exact C.nd
theorem ptL_ok (C : CxOk T Γ k c X W) {f : Expr → Option Pt} (hf : ∀ e p, f e = some p → PG X e (tPt T p)) : ∀ {es : List Expr} {ps : List Pt}, ptL f es = some ps → PGs X es (tPts T ps) ∧ es.length = ps.length ∧ es.any isStar = false
  | [], _, h => by cases h; exact ⟨dps_nil, rfl, rfl⟩
  | e :: es, _, h => by
    unfold ptL at h
    split at h
    · cases h
    · rename_i hs
      have hs : isStar e = false := by simpa using hs
      split at h
      · rename_i p ps h1 h2
        cases h
        obtain ⟨g1, g2, g3⟩ := ptL_ok C hf h2
        refine ⟨dps_cons (hf e p h1) g1 (by rw [asgs_cons hs]; rfl), by simp [g2], by rw [List.any_cons, hs, g3]; rfl⟩
      · cases h
theorem ptX_ok (C : CxOk T Γ k c X W) (hc : c.calm = true) : ∀ {n : Nat} {e : Expr} {p : Pt}, ptX c n e = some p → PG X e (tPt T p)
  | 0, _, _, h => by cases h
  | n + 1, .Name x _, p, h => by
    simp only [ptX] at h
    cases q : c.own x with
    | none => rw [q] at h; cases h
    | some i =>
      rw [q] at h
      cases h
      obtain ⟨h1, h2, h3⟩ := C.own q
      exact dp_nm C.nd' h1 h2 h3
  | n + 1, .Tuple es _ _, p, h => by
    simp only [ptX] at h
    cases q : ptL (ptX c n) es with
    | none => rw [q] at h; cases h
    | some ps =>
      rw [q] at h
      cases h
      obtain ⟨g1, g2, g3⟩ := ptL_ok C (fun e p h => ptX_ok C hc h) q
      exact dp_tp C.hK (by rw [C.calm]; exact hc) g1 (by rw [asgs_len]; exact g2) (asgs_star g3)
  | n + 1, .Constant .., _, h | n + 1, .Attribute .., _, h | n + 1, .Subscript .., _, h | n + 1, .List .., _, h | n + 1, .Starred .., _, h => by simp [ptX] at h
  | n + 1, .BoolOp .., _, h | n + 1, .NamedExpr .., _, h | n + 1, .BinOp .., _, h | n + 1, .UnaryOp .., _, h | n + 1, .Lambda .., _, h | n + 1, .IfExp .., _, h => by simp [ptX] at h
  | n + 1, .Dict .., _, h | n + 1, .Set .., _, h | n + 1, .ListComp .., _, h | n + 1, .SetComp .., _, h | n + 1, .DictComp .., _, h | n + 1, .GeneratorExp .., _, h => by simp [ptX] at h
  | n + 1, .Await .., _, h | n + 1, .Yield .., _, h | n + 1, .YieldFrom .., _, h | n + 1, .Compare .., _, h | n + 1, .Call .., _, h | n + 1, .FormattedValue .., _, h => by simp [ptX] at h
  | n + 1, .JoinedStr .., _, h | n + 1, .Slice .., _, h => by simp [ptX] at h
theorem CxOk.blk (C : CxOk T Γ k c X W) (s : Shared) (H : Hp) (scope : Scope) (cl : List (Str × Addr)) (cc : Addr) (fp : List Addr) : CxOk T Γ k (c.blk scope) (X.blk s H scope (compEnvC scope cl cc X.env) fp) W0 where
  F := C.F
  N := C.N
  nd := C.nd
  sc := by show relS scope X.env.scope = relS scope c.sc; rw [C.sc]
  fn := rfl
  calm := C.calm
  tk := fun u s' ⟨_, _, _, _, _, _, _, _, _, _, _, _, _, _, _, _, z⟩ => z.elim
  G := C.G
  room := C.room
  lam := fun j h => by cases h
theorem CxOk.lamS (C : CxOk T Γ k c X W) (hr : 3 ≤ c.rm) (A : Around) (outer : List PySem.Env) (s : Shared) (H : Hp) (E : XK) (scope : Scope) (f c' : Addr) (r : Room (k + (c.rm - 2)) (A.deeper (LamX.lamEnv X scope s.heap.objs.size f c'))) (g : A.guards = some []) :
    CxOk T Γ k (c.lamS scope) (LamX.lamCx X A outer s H E scope f c') (fun c d _ H' => E c d H') where
  F := C.F
  N := C.N
  nd := C.nd
  sc := rfl
  fn := rfl
  calm := rfl
  tk := takes_of rfl rfl rfl rfl
  G := g
  room := r
  lam := fun j h => by cases h
def ErOk (T : Tb) (Γ : Gm) (k : Nat) (r : Er) : Prop := ∀ (c : Sc) (X : Cx) (W : WX), CxOk T Γ k c X W → (∀ e, PE X e (tE T (r.x c e) W)) ∧ (∀ e, PT X e (tT T (r.t c e) W))
variable {r : Er}
theorem evA_ok {f : Expr → Fx} (hf : ∀ e, PE X e (tE T (f e) W)) : ∀ es, PA X es (tA T (evA f es) W)
  | [] => da_nil
  | e :: es => by
    unfold evA
    split
    · exact da_x
    · rename_i h
      exact da_cons (hf e) (evA_ok hf es) (star_cons (by simpa using h))
theorem boX_ok (hK : T.K = X.K) {f : Expr → Fx} (hf : ∀ e, PE X e (tE T (f e) W)) {o : BoolOp} {pos : Pos} : ∀ es, PE X (.BoolOp o es pos) (tE T (boX o f es) W)
  | [] => de_x
  | [a] => de_one (hf a)
  | a :: b :: rest => by
    cases o with
    | And => exact de_and hK (hf a) (boX_ok hK hf (b :: rest))
    | Or => exact de_or hK (hf a) (boX_ok hK hf (b :: rest))
theorem boT_ok {f : Expr → Fb} (hf : ∀ e, PT X e (tT T (f e) W)) {o : BoolOp} {pos : Pos} : ∀ es, es ≠ [] → PW X (.BoolOp o es pos) (tT T (boT o f es) W)
  | [], h => absurd rfl h
  | [a], _ => by
    cases o with
    | And => exact dw_and1 (hf a)
    | Or => exact dw_or1 (hf a)
  | a :: b :: rest, _ => by
    cases o with
    | And => exact dw_and (hf a) (boT_ok hf (b :: rest) (by simp))
    | Or => exact dw_or (hf a) (boT_ok hf (b :: rest) (by simp))
theorem cmpG_ok (C : CxOk T Γ k c X W) {op : CmpOp} {g : D → D → Store → Oe} (h : cmpG Γ c op = some g) : OpD T X W (compareOp op) g := by
  cases op with
  | Eq =>
    simp only [cmpG] at h
    split at h
    · rename_i h1
      cases h
      exact eqO_ok (neg := false) C.F.F C.F.eq C.hK (C.room.mono (by omega)) C.G C.tk
    · cases h
  | NotEq =>
    simp only [cmpG] at h
    split at h
    · rename_i h1
      cases h
      exact eqO_ok (neg := true) C.F.F C.F.eq C.hK (C.room.mono (by omega)) C.G C.tk
    · cases h
  | Lt => cases h; exact ltP_ok
  | LtE => cases h; exact leP_ok
  | Gt => cases h; exact gtP_ok
  | GtE => cases h; exact geP_ok
  | Is => cases h; exact isQ_ok
  | IsNot => cases h; exact isnQ_ok
  | In => cases h; exact inQ_ok C.hK
  | NotIn => cases h; exact notinQ_ok C.hK
theorem iterX_ok (R : ErOk T Γ k r) (C : CxOk T Γ k c X W) (tg e : Expr) : PI X tg e (tI T (iterX Γ r c tg e) W) := by
  have hx := (R c X W C).1
  have sq := di_seq C.hK (tg := tg) (hx e)
  unfold iterX
  split
  · rename_i x p args pos
    split
    · rename_i h
      rw [Bool.and_eq_true] at h
      have hg := (C.glo h.1).1
      have hm := C.F.free x h.2
      split
      · rename_i ex
        subst ex
        split
        · exact di_x
        · rename_i hs
          replace hs : args.any isStar = false := by simpa using hs
          split
          · rename_i a
            simp only [List.any_cons, List.any_nil, Bool.or_false] at hs
            exact di_rng1 hg hm (hx a) (by rw [star_cons hs]; rfl)
          · rename_i a b
            simp only [List.any_cons, List.any_nil, Bool.or_false, Bool.or_eq_false_iff] at hs
            exact di_rng2 hg hm (hx a) (hx b) (by rw [star_cons hs.2]; rfl) (star_cons hs.1)
          · rename_i a b d
            simp only [List.any_cons, List.any_nil, Bool.or_false, Bool.or_eq_false_iff] at hs
            exact di_rng3 hg hm (hx a) (hx b) (hx d) (by rw [star_cons hs.2.2]; rfl) (star_cons hs.2.1) (star_cons hs.1)
          · exact di_x
      · split
        · rename_i ex
          subst ex
          split
          · exact di_x
          · rename_i hs
            replace hs : args.any isStar = false := by simpa using hs
            split
            · rename_i a b
              simp only [List.any_cons, List.any_nil, Bool.or_false, Bool.or_eq_false_iff] at hs
              exact di_zip C.hK hg hm (hx a) (hx b) (star_cons hs.1) (star_cons hs.2) (star_any (by simp [hs.2]))
            · exact di_x
        · split
          · rename_i ex
            subst ex
            split
            · exact di_x
            · rename_i hs
              replace hs : args.any isStar = false := by simpa using hs
              split
              · rename_i a
                simp only [List.any_cons, List.any_nil, Bool.or_false] at hs
                exact di_enum C.hK hg hm (hx a) (by rw [star_cons hs]; rfl)
              · exact di_x
          · exact sq
    · exact sq
  · exact sq
theorem lcX_ok (R : ErOk T Γ k r) (C : CxOk T Γ k c X W) (elt tg iter : Expr) (ifs : List Expr) (scope : Scope) (pos : Pos) : PE X (.ListComp elt [⟨tg, iter, ifs, 0⟩] scope pos) (tL T (lcX Γ r c elt tg iter ifs scope) W) := by
  unfold lcX
  split
  · rename_i h
    rw [Bool.and_eq_true, Bool.and_eq_true, Bool.not_eq_true'] at h
    obtain ⟨⟨h1, h2⟩, h3⟩ := h
    have ok := blkOk_by h2
    rw [← C.N, ← C.sc] at ok
    have hc : X.calm = true := by rw [C.calm]; exact h1
    split
    · rename_i p hp
      split
      · rename_i hsl
        have hsl : ∀ i ∈ p.slots, i ∈ (ownOf c.N scope.names).map (·.2) := fun i hi => by simpa using List.all_eq_true.mp hsl i hi
        rw [← C.N] at hsl ⊢
        have B := fun s H cc cl fp => C.blk s H scope cl cc fp
        split
        · exact dl_comp hc C.nd' (iterX_ok R C tg iter) ok (fun s H cc cl fp => ptX_ok (B s H cc cl fp) h1 hp) (fun s H cc cl fp => dts_nil) (fun s H cc cl fp => (R _ _ _ (B s H cc cl fp)).1 elt) (fset_ok h3) hsl
        · rename_i t
          exact dl_comp hc C.nd' (iterX_ok R C tg iter) ok (fun s H cc cl fp => ptX_ok (B s H cc cl fp) h1 hp) (fun s H cc cl fp => dts_one ((R _ _ _ (B s H cc cl fp)).2 t)) (fun s H cc cl fp => (R _ _ _ (B s H cc cl fp)).1 elt) (fset_ok h3) hsl
        · exact dl_x
      · exact dl_x
    · exact dl_x
  · exact dl_x
theorem ifB_ok (R : ErOk T Γ k r) {c : Sc} {X : Cx} {W : WX} (C : CxOk T Γ k c X W) {ifs : List Expr} {f : Fb} (h : ifB (r.t c) ifs = some f) : PTs X ifs (tT T f W) := by
  unfold ifB at h
  split at h
  · cases h; exact dts_nil
  · rename_i t
    cases h
    exact dts_one ((R c X W C).2 t)
  · cases h
theorem lcX2_ok (R : ErOk T Γ k r) (C : CxOk T Γ k c X W) (elt tg iter : Expr) (ifs : List Expr) (tg1 iter1 : Expr) (ifs1 : List Expr) (scope : Scope) (pos : Pos) : PE X (.ListComp elt [⟨tg, iter, ifs, 0⟩, ⟨tg1, iter1, ifs1, 0⟩] scope pos) (tL T (lcX2 Γ r c elt tg iter ifs tg1 iter1 ifs1 scope) W) := by
  unfold lcX2
  split
  · rename_i h
    rw [Bool.and_eq_true, Bool.and_eq_true, Bool.and_eq_true, Bool.not_eq_true', Bool.not_eq_true'] at h
    obtain ⟨⟨⟨h1, h2⟩, h3⟩, h4⟩ := h
    have ok := blkOk_by h2
    rw [← C.N, ← C.sc] at ok
    have hc : X.calm = true := by rw [C.calm]; exact h1
    split
    · rename_i p p1 ft ft1 hp hp1 hf hf1
      split
      · rename_i hsl
        rw [Bool.and_eq_true] at hsl
        have hsl0 : ∀ i ∈ p.slots, i ∈ (ownOf c.N scope.names).map (·.2) := fun i hi => by simpa using List.all_eq_true.mp hsl.1 i hi
        have hsl1 : ∀ i ∈ p1.slots, i ∈ (ownOf c.N scope.names).map (·.2) := fun i hi => by simpa using List.all_eq_true.mp hsl.2 i hi
        rw [← C.N] at hsl0 hsl1 ⊢
        have B := fun s H cc cl fp => C.blk s H scope cl cc fp
        exact dl_comp2 hc C.nd' (iterX_ok R C tg iter) ok (fun s H cc cl fp => ptX_ok (B s H cc cl fp) h1 hp) (fun s H cc cl fp => ifB_ok R (B s H cc cl fp) hf) (fun s H cc cl fp => iterX_ok R (B s H cc cl fp) tg1 iter1)
          (fun s H cc cl fp => ptX_ok (B s H cc cl fp) h1 hp1) (fun s H cc cl fp => ifB_ok R (B s H cc cl fp) hf1) (fun s H cc cl fp => (R _ _ _ (B s H cc cl fp)).1 elt) (fset_ok h3) (fun env => fset_ok h4) hsl0 hsl1
      · exact dl_x
    · exact dl_x
  · exact dl_x
theorem newX_ok (R : ErOk T Γ k r) (C : CxOk T Γ k c X W) {e : Expr} {f : FL} (h : newX Γ r c e = some f) : PE X e (tL T f W) := by
  have hx := (R c X W C).1
  unfold newX at h
  split at h
  · cases h; exact dl_disp (evA_ok hx _)
  · cases h; exact lcX_ok R C _ _ _ _ _ _
  · cases h; exact lcX2_ok R C _ _ _ _ _ _ _ _ _
  · rename_i x p e pos
    split at h
    · rename_i hh
      cases h
      simp only [Bool.and_eq_true, Bool.not_eq_true', decide_eq_true_eq] at hh
      obtain ⟨⟨⟨h1, h2⟩, h3⟩, h4⟩ := hh
      exact dl_list C.hK h3 (C.glo h1).1 (C.F.free x h2) (hx e) (star_cons h4)
    · cases h
  · cases h
theorem ckX_ok (C : CxOk T Γ k c X W) {e : Expr} {q : Ck} (h : ckX Γ c e = some q) : CkE T X e q := by
  unfold ckX at h
  split at h
  · rename_i x pos
    split at h
    · rename_i hg
      obtain ⟨g1, g2⟩ := C.glo hg
      split at h
      · rename_i kk hk
        cases h
        have z := C.F.gk x _ hk
        cases z with
        | cls h m => exact ck_own h g1 m g2
      · cases h
      · rename_i hk
        split at h
        · rename_i hf
          have hm := C.F.free x hf
          split at h
          · rename_i ex; cases h; subst ex; exact ck_ty (by simp) g1 hm PyProof.Rows.Boot.«int» (by decide) g2
          split at h
          · rename_i ex; cases h; subst ex; exact ck_ty (by simp) g1 hm PyProof.Rows.Boot.«bool» (by decide) g2
          split at h
          · rename_i ex; cases h; subst ex; exact ck_ty (by simp) g1 hm PyProof.Rows.Boot.«str» (by decide) g2
          split at h
          · rename_i ex; cases h; subst ex; exact ck_ty (by simp) g1 hm PyProof.Rows.Boot.«tuple» (by decide) g2
          split at h
          · rename_i ex; cases h; subst ex; exact ck_ty (by simp) g1 hm PyProof.Rows.Boot.«list» (by decide) g2
          split at h
          · rename_i ex; cases h; subst ex; exact ck_ty (by simp) g1 hm PyProof.Rows.Boot.«dict» (by decide) g2
          · cases h
        · cases h
    · cases h
  · cases h
theorem ckL_ok (C : CxOk T Γ k c X W) : ∀ {es : List Expr} {qs : List Ck}, es.any isStar = false → ckL Γ c es = some qs → CkEs T X es qs
  | [], _, _, h => by cases h; exact cks_nil
  | e :: es, _, hs, h => by
    unfold ckL at h
    rw [List.any_cons, Bool.or_eq_false_iff] at hs
    split at h
    · rename_i q qs h1 h2
      cases h
      exact cks_cons (ckX_ok C h1) (ckL_ok C hs.2 h2) (star_cons hs.1)
    · cases h
end
end Ev
set_option Elab.async false
set_option linter.all false
set_option maxRecDepth 100000
set_option maxHeartbeats 2000000
namespace Ev
open PySem PySem.Spec L2
section
variable {T : Tb} {Γ : Gm} {k : Nat} {c : Sc} {X : Cx} {W : WX} {r : Er}
theorem Ou.assoc {α β γ : Type} (o : Ou α) (f : α → Store → Ou β) (g : β → Store → Ou γ) : (o.bind f).bind g = o.bind fun a st => (f a st).bind g := by
  cases o <;> rfl
theorem dt_chain {op op' : CmpOp} {g g' : D → D → Store → Oe} (hK : T.K = X.K) (ho : OpD T X W (compareOp op) g) (ho' : OpD T X W (compareOp op') g') {a b d : Expr} {fa fb fc : Fx} {pos : Pos} (ha : PE X a (tE T fa W)) (hb : PE X b (tE T fb W)) (hc : PE X d (tE T fc W))
    (hm : lastMarks [op, op'] [b, d] = false) : PT X (.Compare a [op, op'] [b, d] pos) (tT T (bTr (fChain g g' fa fb fc)) W) := by
  refine ⟨fun pins s σ H Q I h => ?_⟩
  obtain ⟨w, env, st, hs, he, hp⟩ := h
  unfold bTr fChain at hp
  simp only [Ou.assoc] at hp
  refine PyProof.Rows.isTrue_chain (thn (ha.run pins s σ H _ I (tE.bind hs he hp)) fun v s1 ⟨x, H1, I1, r1, u1, d1, st1, l1, hs1, he1, rx, hp1⟩ => PyProof.Rows.test_link (thn (hb.run pins s1 σ H1 _ I1 (tE.bind hs1 he1 hp1)) fun u s2 ⟨y, H2, I2, r2, u2, d2, st2, l2, hs2, he2, ry, hp2⟩ => ?_)) hm
  refine thn (ho pins s2 σ H2 u2 st2 d1 d2 x y v u _ I2 hs2 (rx.up l2) ry r1 r2 (Post.bind hp2)) fun z s3 ⟨zv, H3, I3, r3, u3, d3, st3, l3, hs3, rz, hp3⟩ => ?_
  cases d3 with
  | bl kk =>
    rw [rz.bl_inv] at r3
    cases r3
    refine wpAny_truthy_bool ?_
    cases kk with
    | false => exact PyProof.Rows.ite_ff ⟨H3, I3, hp3 u3 H3 false (Le.rfl' _) hs3 rfl⟩
    | true =>
      simp only [Ou.assoc] at hp3
      refine PyProof.Rows.ite_tt (PyProof.Rows.test_last (thn (hc.run pins s3 σ H3 _ I3 (tE.bind hs3 (he2.up l3) hp3)) fun w' s4 ⟨zv', H4, I4, r4, u4, d4, st4, l4, hs4, he4, rz', hp4⟩ => ?_))
      refine thn (ho' pins s4 σ H4 u4 st4 d2 d4 y zv' u w' _ I4 hs4 ((ry.up l3).up l4) rz' r2 r4 (Post.bind hp4)) fun z5 s5 ⟨zv5, H5, I5, r5, u5, d5, st5, l5, hs5, rz5, hp5⟩ => ?_
      split at hp5
      · rename_i kk hkk
        exact thn (tru_ok pins s5 σ H5 zv5 z5 Q I5 r5 ⟨kk, tru_at hK hs5 rz5 hkk, hp5 u5 H5 kk (Le.rfl' _) hs5 rfl⟩) fun _ _ z => z
      · exact hp5.elim
  | _ => exact hp3.elim
theorem lmD_ok {params : Arguments} {body : Expr} {scope : Scope} (h : lmDB params scope = true) : LmDef params body scope := by
  unfold lmDB at h
  split at h
  · exact .none (fun env => rfl) (fun q cl pm cv ct => rfl)
  · rename_i x p i j p2
    refine .one i x j p2 (fun env => rfl) (fun q cl TT pm cv ct => ?_) (of_decide_eq_true h)
    refine ⟨_, rfl, fun v => ?_⟩
    simp [PySem.W.fnOf, PySem.W.fnX]
  · cases h
theorem bltX2_ok (C : CxOk T Γ k c X W) {x : Str} {p pos : Pos} {e : Expr} {es : List Expr} {a : Fa} (hg : c.glo x = true) (hf : Γ.free x = true) (hs : (e :: es).any isStar = false) (ha : PA X (e :: es) (tA T a W)) : PE X (.Call (.Name x p) (e :: es) [] pos) (tE T (bltX2 c x a) W) := by
  have hm := C.F.free x hf
  obtain ⟨g1, g2⟩ := C.glo hg
  rw [List.any_cons, Bool.or_eq_false_iff] at hs
  have s1 := star_cons (es := es) (env := X.env) hs.1
  have s2 := star_any (pos := pos) (env := X.env) hs.2
  unfold bltX2
  split
  · rename_i ex; subst ex; exact de_B (gSort_ok C.hK) g1 hm PyProof.Rows.Boot.«sorted» ha (by decide) g2 s1 s2
  split
  · rename_i ex
    subst ex
    split
    · rename_i hc; exact de_B (gSum_ok C.hK (by rw [C.calm]; exact hc)) g1 hm PyProof.Rows.Boot.«sum» ha (by decide) g2 s1 s2
    · exact de_x
  · exact de_x
theorem bltX_ok (C : CxOk T Γ k c X W) {x : Str} {p pos : Pos} {e : Expr} {es : List Expr} {a : Fa} (hg : c.glo x = true) (hf : Γ.free x = true) (hs : (e :: es).any isStar = false) (ha : PA X (e :: es) (tA T a W)) : PE X (.Call (.Name x p) (e :: es) [] pos) (tE T (bltX c x a) W) := by
  have hm := C.F.free x hf
  have hs0 := hs
  obtain ⟨g1, g2⟩ := C.glo hg
  rw [List.any_cons, Bool.or_eq_false_iff] at hs
  have s1 := star_cons (es := es) (env := X.env) hs.1
  have s2 := star_any (pos := pos) (env := X.env) hs.2
  unfold bltX
  split
  · rename_i ex; subst ex; exact de_B (gLen_ok C.hK) g1 hm PyProof.Rows.Boot.«len» ha (by decide) g2 s1 s2
  split
  · rename_i ex; subst ex; exact de_Ty gInt_ok g1 hm PyProof.Rows.Boot.«int» ha (by decide) g2 s1 s2
  split
  · rename_i ex; subst ex; exact de_B gAbs_ok g1 hm PyProof.Rows.Boot.«abs» ha (by decide) g2 s1 s2
  split
  · rename_i ex; subst ex; exact de_Ty gStr_ok g1 hm PyProof.Rows.Boot.«str» ha (by decide) g2 s1 s2
  split
  · rename_i ex
    subst ex
    split
    · rename_i hc; exact de_B (gMax2_ok (by rw [C.calm]; exact hc)) g1 hm PyProof.Rows.Boot.«max» ha (by decide) g2 s1 s2
    · exact de_x
  split
  · rename_i ex
    subst ex
    split
    · rename_i hc; exact de_B (gMin2_ok (by rw [C.calm]; exact hc)) g1 hm PyProof.Rows.Boot.«min» ha (by decide) g2 s1 s2
    · exact de_x
  split
  · rename_i ex
    subst ex
    split
    · rename_i hc; exact de_B (gAll_ok C.hK (by rw [C.calm]; exact hc)) g1 hm PyProof.Rows.Boot.«all» ha (by decide) g2 s1 s2
    · exact de_x
  split
  · rename_i ex
    subst ex
    split
    · rename_i hc; exact de_B (gAny_ok C.hK (by rw [C.calm]; exact hc)) g1 hm PyProof.Rows.Boot.«any» ha (by decide) g2 s1 s2
    · exact de_x
  split
  · rename_i ex; subst ex; exact de_Ty (gTup_ok C.hK) g1 hm PyProof.Rows.Boot.«tuple» ha (by decide) g2 s1 s2
  split
  · rename_i ex; subst ex; exact de_B (gRepr_ok C.hK C.G C.hu) g1 hm PyProof.Rows.Boot.«repr» ha (by decide) g2 s1 s2
  · exact bltX2_ok C hg hf hs0 ha
theorem callX_ok (R : ErOk T Γ k r) (C : CxOk T Γ k c X W) (x : Str) (args : List Expr) (p pos : Pos) : PE X (.Call (.Name x p) args [] pos) (tE T (callX Γ r c x args) W) := by
  have hx := (R c X W C).1
  unfold callX
  split
  case isFalse => exact de_x
  rename_i hg
  obtain ⟨g1, g2⟩ := C.glo hg
  split
  · rename_i i hk
    cases C.F.gk x _ hk with
    | fn hf kp hm =>
      split
      · exact de_call0 C.F.F (C.room.mono (by omega)) C.G C.tk hf kp g1 hm g2
      · rename_i params body scope lpos
        split
        · rename_i j q hj hq
          split
          · rename_i hh
            simp only [Bool.and_eq_true, decide_eq_true_eq] at hh
            obtain ⟨⟨⟨e1, e2⟩, e3⟩, e4⟩ := hh
            obtain ⟨cc, P, z1, z2, z3⟩ := C.lam j hj
            obtain ⟨g, a, jj, k0, p1, p2, p3, p4, p5, p6, h0, hds, pg, sg, fd, Ng, q1, q2, q3, q4, q5, q6, q7⟩ := C.F.cmp.ok i q hq
            rw [hf] at q1
            cases q1
            rw [e1] at q2 q7
            obtain ⟨n1, n2⟩ := nm_plain q6
            rw [q5]
            have L := lms_by e3
            rw [← C.N, ← C.sc] at L
            have ek : k + c.rm = (k + (c.rm - 2)) + 2 := by omega
            exact de_lamcall (k := k + (c.rm - 2)) (W := W) C.F.xm C.F.lam q2 q3 q4 (fun cdv A outer s H E hr hgu => q7 cdv A outer s H E (hr.mono (Nat.zero_le _)) hgu) g1 hm C.G C.tk z1 z2 z3 (lmD_ok e2) L (by rw [← ek]; exact C.room)
              (fun A outer s H E f c' hr hgu => (R _ _ _ (C.lamS e4 A outer s H E scope f c' hr hgu)).1 body) g2 n1 n2
          · exact de_x
        · exact de_x
      · rename_i e es _
        split
        · exact de_x
        · rename_i hs
          replace hs : (e :: es).any isStar = false := by simpa using hs
          have hs2 := hs
          rw [List.any_cons, Bool.or_eq_false_iff] at hs2
          exact de_call C.F.F (C.room.mono (by omega)) C.G C.tk hf kp g1 hm (evA_ok hx _) g2 (star_cons hs2.1) (star_any hs2.2)
  · rename_i kk hk
    cases C.F.gk x _ hk with
    | cls hC hm =>
      split
      · exact de_x
      · rename_i e es
        split
        · exact de_x
        · rename_i hs
          replace hs : (e :: es).any isStar = false := by simpa using hs
          have hs2 := hs
          rw [List.any_cons, Bool.or_eq_false_iff] at hs2
          split
          · rename_i hh
            simp only [Bool.and_eq_true, decide_eq_true_eq, Option.isSome_iff_exists] at hh
            obtain ⟨h1, i, hi⟩ := hh
            exact de_make C.F.F C.F.M (C.room.mono (by omega)) C.G C.tk hi hC g1 hm (evA_ok hx _) g2 (star_cons hs2.1) (star_any hs2.2)
          · exact de_x
  · rename_i id hk
    cases C.F.gk x _ hk with
    | bi hm =>
      split
      · exact de_x
      · rename_i e es
        split
        · exact de_x
        · rename_i hs
          replace hs : (e :: es).any isStar = false := by simpa using hs
          have hs2 := hs
          rw [List.any_cons, Bool.or_eq_false_iff] at hs2
          split
          · rename_i hid
            subst hid
            exact de_Bi gGcd_ok g1 hm (evA_ok hx _) g2 (star_cons hs2.1) (star_any hs2.2)
          · split
            · rename_i hid
              subst hid
              exact de_Bi gIsqrt_ok g1 hm (evA_ok hx _) g2 (star_cons hs2.1) (star_any hs2.2)
            · exact de_x
  · exact de_x
  · split
    · rename_i hk hf
      have hm := C.F.free x hf
      split
      · exact de_x
      · rename_i hs
        replace hs : args.any isStar = false := by simpa using hs
        split
        · rename_i ex
          split
          · rename_i e ces k0 tpos
            simp only [List.any_cons, List.any_nil, Bool.or_false, Bool.or_eq_false_iff] at hs
            split
            · rename_i cs hcs
              split
              · rename_i hh
                simp only [Bool.and_eq_true, decide_eq_true_eq, Bool.not_eq_true'] at hh
                exact de_isaT C.F.I C.hK ex g1 hm (hx e) (ckL_ok C hh.2 hcs) hh.1 (star_cons hs.1) (star_cons hs.2) (star_any (by simp [hs.2]))
              · exact de_x
            · exact de_x
          · rename_i e ce hne
            simp only [List.any_cons, List.any_nil, Bool.or_false, Bool.or_eq_false_iff] at hs
            split
            · rename_i q hq
              exact de_isa C.F.I C.hK ex g1 hm (hx e) (ckX_ok C hq) (star_cons hs.1) (star_cons hs.2) (star_any (by simp [hs.2]))
            · exact de_x
          · exact de_x
        · split
          · exact de_x
          · rename_i e es
            exact bltX_ok C hg hf hs (evA_ok hx _)
    · exact de_x
theorem optX_ok {f : Expr → Fx} (hf : ∀ e, PE X e (tE T (f e) W)) : ∀ o, PO X o (tO T (optX f o) W)
  | none => do_none
  | some e => do_some (hf e)
theorem pairX_ok {f : Expr → Fx} (hf : ∀ e, PE X e (tE T (f e) W)) {pos : Pos} : ∀ {ks : List (Option Expr)} {vs : List Expr} {p : Fp}, pairX f ks vs = some p → PPd T X W pos ks vs p
  | [], [], _, h => by cases h; exact dpp_nil
  | some e :: ks, v :: vs, _, h => by
    simp only [pairX] at h
    cases q : pairX f ks vs with
    | none => rw [q] at h; cases h
    | some p =>
      rw [q] at h
      cases h
      exact dpp_cons (hf e) (hf v) (pairX_ok hf q)
  | none :: _, _, _, h => by simp [pairX] at h
  | [], _ :: _, _, h => by simp [pairX] at h
  | some _ :: _, [], _, h => by simp [pairX] at h
theorem evX0_ok (R : ErOk T Γ k r) (C : CxOk T Γ k c X W) (e : Expr) : PE X e (tE T (evX0 Γ r c e) W) := by
  have hx := (R c X W C).1
  have ht := (R c X W C).2
  unfold evX0
  split
  · rename_i x pos
    split
    · rename_i i hi
      obtain ⟨h1, h2, h3, h4⟩ := C.slot hi
      exact de_v h1 h2 h3 h4
    · split
      · rename_i hg
        obtain ⟨g1, g2⟩ := C.glo hg
        split
        · rename_i i hk
          cases C.F.gk x _ hk with
          | fn hf kp hm => exact de_k (v := .ref _) (pe_glob g1 hm rfl g2) fun F => .fn hf
        · rename_i i hk
          cases C.F.gk x _ hk with
          | cls hC hm => exact de_k (v := .ref _) (pe_glob g1 hm rfl g2) fun F => .cls hC
        · rename_i d hk
          cases C.F.gk x _ hk with
          | k hm hr hd => exact de_k (pe_glob g1 hm hr g2) hd
        · exact de_x
      · exact de_x
  · exact de_int
  · exact de_bl
  · exact de_non
  · exact de_str
  · exact de_not C.hK (hx _)
  · exact de_un (negO_ok C.F.F C.F.ng (C.room.mono (by omega)) C.G C.tk) (hx _)
  · exact de_bin (binO_ok C.F.F C.F.op C.hK (C.room.mono (by omega)) C.G C.tk) (hx _) (hx _)
  · exact boX_ok C.hK hx _
  · exact de_if (ht _) (hx _) (hx _)
  · split
    · rename_i g hg
      split
      · exact de_x
      · rename_i hb
        exact de_cmp (cmpG_ok C hg) (hx _) (hx _) (by simpa using hb)
    · exact de_x
  · split
    · rename_i g g' hg hg'
      split
      · exact de_x
      · rename_i hb
        exact de_chain (cmpG_ok C hg) (cmpG_ok C hg') (hx _) (hx _) (hx _) (by simpa using hb)
    · exact de_x
  · exact de_tup (evA_ok hx _)
  · exact de_rev C.hK (hx _)
  · exact de_sl C.hK (hx _) (optX_ok hx _) (optX_ok hx _)
  · split
    · exact de_x
    · rename_i hb
      have hu := C.hu
      exact de_ix C.hK (by omega) (hx _) (hx _) (plain_ok (by simpa using hb))
  · exact de_dict0
  · split
    · rename_i p hp
      split
      · rename_i hh
        simp only [Bool.and_eq_true, decide_eq_true_eq] at hh
        exact de_dict (pairX_ok hx hp) hh.1.1 hh.1.2 (by simp) hh.2
      · exact de_x
    · exact de_x
  · split
    · rename_i f hf
      split
      · exact de_x
      · rename_i hb
        exact de_att C.F.A C.hK (C.F.att _ _ hf) (hx _) (base_ok (by simpa using hb))
    · exact de_x
  · exact callX_ok R C _ _ _ _
  · rename_i o x apos args cpos
    split
    · exact de_x
    · rename_i hb
      simp only [Bool.not_eq_true, Bool.or_eq_false_iff, Bool.not_eq_false'] at hb
      obtain ⟨h1, h3⟩ := hb
      split
      · rename_i ex
        subst ex
        split
        · rename_i e
          split
          · exact de_x
          · rename_i h2
            have h2 : isStar e = false := by simpa using h2
            refine de_app C.hK (hx _) (hx _) (base_ok h1) ?_ h3 (star_cons h2)
            rw [star_cons h2]
            rfl
        · exact de_x
      · split
        · rename_i ex
          subst ex
          split
          · exact de_bits (hx _) (base_ok h1) h3
          · exact de_x
        · split
          · exact de_mth0 C.F.F C.F.mt (C.room.mono (by omega)) C.G C.tk (hx _) (base_ok h1) h3
          · rename_i e es
            split
            · exact de_x
            · rename_i hs
              simp only [Bool.not_eq_true, Bool.or_eq_false_iff, Bool.not_eq_false', decide_eq_true_eq] at hs
              obtain ⟨hs, hl⟩ := hs
              have hs2 := hs
              rw [List.any_cons, Bool.or_eq_false_iff] at hs2
              exact de_mth C.F.F C.F.mt (C.room.mono (by omega)) C.G C.tk (hx _) (evA_ok hx _) (base_ok h1) h3 hl (star_cons hs2.1) (star_any hs2.2)
  · exact de_x
theorem evX_ok (R : ErOk T Γ k r) (C : CxOk T Γ k c X W) (e : Expr) : PE X e (tE T (evX Γ r c e) W) := by
  unfold evX
  split
  · rename_i f hf
    exact de_frz (newX_ok R C hf)
  · exact evX0_ok R C e
theorem evT_ok (R : ErOk T Γ k r) (C : CxOk T Γ k c X W) (e : Expr) : PT X e (tT T (evT Γ r c e) W) := by
  have hx := (R c X W C).1
  have ht := (R c X W C).2
  unfold evT
  split
  · exact dt_not (ht _)
  · rename_i o es pos
    cases es with
    | nil => exact dt_x
    | cons a es => exact (boT_ok ht (a :: es) (by simp)).pt
  · split
    · rename_i g hg
      split
      · exact dt_x
      · rename_i hb
        exact dt_cmp C.hK (cmpG_ok C hg) (hx _) (hx _) (by simpa using hb)
    · exact dt_x
  · split
    · rename_i g g' hg hg'
      split
      · exact dt_x
      · rename_i hb
        exact dt_chain C.hK (cmpG_ok C hg) (cmpG_ok C hg') (hx _) (hx _) (hx _) (by simpa using hb)
    · exact dt_x
  · split
    · exact dt_x
    · rename_i hb
      exact dt_tr C.hK (hx _) (test_ok (by simpa using hb))
theorem ev_ok : ∀ n : Nat, ErOk T Γ k (ev Γ n)
  | 0 => fun c X W C => ⟨fun e => de_x, fun e => dt_x⟩
  | n + 1 => fun c X W C => ⟨fun e => evX_ok (ev_ok n) C e, fun e => evT_ok (ev_ok n) C e⟩
end
end Ev
set_option Elab.async false
set_option linter.all false
set_option maxRecDepth 100000
set_option maxHeartbeats 2000000
namespace Ev
open PySem PySem.Spec L2
/-! ### statements of the text -/
def swNames (c : Sc) (ts : List Expr) : List Str := ts.filterMap fun | .Name id pos => if (c.kd id == some .local && pos.line == (ts.head?.map (·.pos.line)).getD 0) = true then some id else none | _ => none
/-- which stores are swapped; none: the model does not say -/
def swB (c : Sc) (ts vs : List Expr) : Option (Option (List Str)) :=
  if decide (c.sc.kind = .function) = true then (
  if (!(ts.length == 2 || ts.length == 3) || vs.length != ts.length || (ScopeKind.function != ScopeKind.function)) = true then some none else
  if vs.any isStar = true then some none else
  if ((swNames c ts).length != ts.length || (swNames c ts).eraseDups.length != (swNames c ts).length) = true then some none else
  if vs.all (foldedForSure 8) = true then some none else
  if vs.all (constantsAlone 8) = true then none else some (some (swNames c ts))) else none
theorem any_star : ∀ vs : List Expr, (vs.any fun | .Starred .. => true | _ => false) = vs.any isStar
  | [] => rfl
  | v :: vs => by
    rw [List.any_cons, List.any_cons, any_star vs]
    cases v <;> rfl
theorem sw_gen {a b b' d e f : Bool} {N : List Str} {o : Option (List Str)} {u : Sem (Option (List Str))} (hb : b' = b) (h : (if a = true then some none else if b = true then some none else if d = true then some none else if e = true then some none else if f = true then none else some (some N)) = some o) :
    (if a = true then pure none else if b' = true then pure none else if d = true then pure none else if e = true then pure none else if f = true then u else pure (some N)) = (pure o : Sem (Option (List Str))) := by
  subst hb
  cases a <;> cases b' <;> cases d <;> cases e <;> cases f <;> simp at h ⊢ <;> exact congrArg pure h
theorem swB_ok {c : Sc} {ts vs : List Expr} {k k2 : Nat} {p p2 : Pos} {env : PySem.Env} {o : Option (List Str)} (he : env.scope = c.sc) (h : swB c ts vs = some o) : swappedStores [.Tuple ts k p] (.Tuple vs k2 p2) env = pure o := by
  have hkd : ∀ id, env.kindOf id = c.kd id := fun id => by show env.scope.names.lookup id = _; rw [he]; rfl
  unfold swB at h
  split at h
  · rename_i hf
    have hf := of_decide_eq_true hf
    have hb : env.blockKind = .function := by unfold PySem.Env.blockKind; rw [he, hf]; rfl
    unfold swappedStores
    simp only [hkd, hb]
    exact sw_gen (any_star vs) h
  · cases h
/-- a list comprehension stored under a name on its own line -/
def swL (c : Sc) (t : Str) (tpos vpos : Pos) (scope : Scope) : Bool := c.kd t == some .local && tpos.line == vpos.line && !(scope.names.any fun (n, k) => n == t && (k == .local || k == .cell))
theorem swL_ok {c : Sc} {t : Str} {tpos pos : Pos} {scope : Scope} {elt : Expr} {gs : List Comprehension} {l : Nat} {env : PySem.Env} (he : env.scope = c.sc) (hf : c.sc.kind = .function) : swapsWith (.ListComp elt gs scope pos) (some (.Name t tpos)) l env = pure (swL c t tpos pos scope) := by
  have hb : env.blockKind = .function := by unfold PySem.Env.blockKind; rw [he, hf]; rfl
  have hkd : env.kindOf t = c.kd t := by show env.scope.names.lookup t = _; rw [he]; rfl
  unfold swapsWith
  simp only [hkd, hb]
  rfl
def evNw (Γ : Gm) (r : Er) (c : Sc) (x : Str) (e : Expr) : Fx := if c.new.contains x = true then (match newX Γ r c e with
  | some f => fNew f
  | none => r.x c e) else r.x c e
/-! handlers -/
def hxL (f : Expr → Option Hx) : List Expr → Option (List Hx)
  | [] => some []
  | e :: es => if isStar e = true then none else match f e, hxL f es with
    | some h, some hs => some (h :: hs)
    | _, _ => none
def hxX (Γ : Gm) (c : Sc) (nm : Option Str) (k : Nat) : Nat → Expr → Option Hx
  | 0, _ => none
  | n + 1, e => match e with
    | .Constant (.int i) _ _ => some (.k (.int i))
    | .Constant (.bool b) _ _ => some (.k (.bl b))
    | .Constant .none _ _ => some (.k .non)
    | .Constant (.str x) _ _ => some (.k (.str x))
    | .Attribute (.Name y _) x _ => (match Γ.att x, Γ.exf k with
      | some f, some fl => if (decide (nm = some y) && decide (f ∈ fl)) = true then some (.fl f) else none
      | _, _ => none)
    | .Call (.Name rp _) [.Attribute (.Name y _) x _] [] _ => (match Γ.att x, Γ.exf k with
      | some f, some fl => if (decide (rp = "repr") && c.glo rp && Γ.free rp && decide (nm = some y) && decide (f ∈ fl)) = true then some (.rp f) else none
      | _, _ => none)
    | .Tuple es _ _ => (hxL (hxX Γ c nm k n) es).map .tp
    | _ => none
def hcX (Γ : Gm) (c : Sc) : ExceptHandler → Option Hc
  | .ExceptHandler (some (.Name x _)) nm [.Return (some e) _] _ => if c.glo x = true then (match Γ.gk x with
    | some (.cls k) => (match nm with
      | none => (hxX Γ c none k 6 e).map fun h => ⟨k, none, h⟩
      | some n => (match c.slot n with
        | some i => if decide (c.kd n = some .local) = true then (hxX Γ c (some n) k 6 e).map fun h => ⟨k, some i, h⟩ else none
        | none => none))
    | _ => none) else none
  | _ => none
def hcL (Γ : Gm) (c : Sc) : List ExceptHandler → Option (List Hc)
  | [] => some []
  | h :: hs => match hcX Γ c h, hcL Γ c hs with
    | some q, some qs => some (q :: qs)
    | _, _ => none
/-! one statement -/
def asgX (Γ : Gm) (E : Er) (c : Sc) (tg e : Expr) : Fs := match tg with
  | .Name x tpos => (match c.own x with
    | some i => (match e with
      | .ListComp elt [⟨tg2, iter, ifs, 0⟩] scope vpos => if decide (c.sc.kind = .function) = true then (if swL c x tpos vpos scope = true then (if c.new.contains x = true then sSetN i (lcX Γ E c elt tg2 iter ifs scope) else sSetF i (lcX Γ E c elt tg2 iter ifs scope)) else sSet i (evNw Γ E c x e)) else sX
      | e => if isComp e = true then sX else sSet i (evNw Γ E c x e))
    | none => sX)
  | .Tuple ts _ _ => (match e with
    | .Tuple vs _ _ => (match swB c ts vs with
      | some none => (match ptX c 5 tg with
        | some p => if c.calm = true then sAsg (E.x c e) (gPt p) else sX
        | none => sX)
      | some (some names) => (match ts, vs with
        | [.Name x _, .Name y _], [a, b] => (match c.own x, c.own y with
          | some i, some j => if (decide (names = [x, y]) && decide (i ≠ j) && !isStar a && !isStar b && decide (c.kd x = some .local) && decide (c.kd y = some .local) && c.calm) = true then sPar2 i j (aCons (evNw Γ E c x a) (aCons (evNw Γ E c y b) aNil)) else sX
          | _, _ => sX)
        | [.Name x _, .Name y _, .Name z _], [a, b, d] => (match c.own x, c.own y, c.own z with
          | some i, some j, some l => if (decide (names = [x, y, z]) && decide (i ≠ j) && decide (i ≠ l) && decide (j ≠ l) && !isStar a && !isStar b && !isStar d && decide (c.kd x = some .local) && decide (c.kd y = some .local) && decide (c.kd z = some .local) && c.calm) = true then
              sPar3 i j l (aCons (evNw Γ E c x a) (aCons (evNw Γ E c y b) (aCons (evNw Γ E c z d) aNil))) else sX
          | _, _, _ => sX)
        | _, _ => sX)
      | none => sX)
    | e => (match ptX c 5 tg with
      | some p => if c.calm = true then sAsg (E.x c e) (gPt p) else sX
      | none => sX))
  | .Attribute o x _ => (match Γ.att x with
    | some f => sAtt Γ.ao f (E.x c o) (E.x c e)
    | none => sX)
  | .Subscript o i _ => if isSlice i = true then sX else sAsg (E.x c e) (gSubD (E.x c o) (E.x c i))
  | _ => sX
abbrev Sr := Sc → List Stmt → Fs
def svX (Γ : Gm) (E : Er) (r : Sr) (c : Sc) : Stmt → Fs
  | .Return (some e) _ => sRet (evNw Γ E c "return" e)
  | .Return none _ => fun env st => .rt .non st
  | .Expr e _ => if isComp e = true then sX else sDrop (E.x c e)
  | .Pass _ => sNil
  | .Break _ => fun env st => .bk env st
  | .Continue _ => fun env st => .ct env st
  | .If t a b _ => sIf (E.t c t) (r c a) (r c b)
  | .While t body [] _ => wLoop (E.t c t) (r c body) Γ.fuel
  | .For tg iter body [] _ => if (c.calm && !isSet iter) = true then (match ptX c 5 tg with
    | some p => sFor p (iterX Γ E c tg iter) (r c body)
    | none => sX) else sX
  | .Assign [tg] e _ => asgX Γ E c tg e
  | .AugAssign (.Name x _) .Add e _ => (match c.own x with
    | some i => sAug i (E.x c e)
    | none => sX)
  | .AugAssign (.Subscript o i _) .Add e _ => if isSlice i = true then sX else sAugS (E.x c o) (E.x c i) (E.x c e)
  | .Raise (some (.Call (.Name x _) (e :: es) [] _)) none _ => if (c.glo x && c.calm && decide (1 ≤ c.rm) && !(e :: es).any isStar) = true then (match Γ.gk x with
    | some (.cls k) => if (Γ.exf k).isSome = true then sRaise Γ.exf k (evA (E.x c) (e :: es)) else sX
    | _ => sX) else sX
  | .Try body (h0 :: hds) [] [] _ => (match hcL Γ c (h0 :: hds) with
    | some hs => sTry Γ.xm (r c body) hs
    | none => sX)
  | _ => sX
def svL (Γ : Gm) (E : Er) (r : Sr) (c : Sc) : List Stmt → Fs
  | [] => sNil
  | s :: ss => sSeq (svX Γ E r c s) (svL Γ E r c ss)
def sv (Γ : Gm) (E : Er) : Nat → Sr
  | 0 => fun _ _ => sX
  | n + 1 => fun c ss => svL Γ E (sv Γ E n) c ss
end Ev
set_option Elab.async false
set_option linter.all false
set_option maxRecDepth 100000
set_option maxHeartbeats 2000000
namespace Ev
open PySem PySem.Spec L2
/-- what a handler's text needs -/
structure HxCx (T : Tb) (Γ : Gm) (c : Sc) (X : Cx) : Prop where
  hK : T.K = X.K
  gk : ∀ x g, Γ.gk x = some g → GkOk T X.K X.mg x g
  free : ∀ x, Γ.free x = true → X.mg x = none
  att : ∀ x f, Γ.att x = some f → T.att f = some x
  A : AttOk T Γ.ao
  xf : XfOk T X.K Γ.exf
  N : X.N = c.N
  sc : X.env.scope = c.sc
  G : X.A.guards = some []
  hu : X.A.units + 64 < cLine
/-- .. and a statement's -/
structure SxOk (T : Tb) (Γ : Gm) (k : Nat) (c : Sc) (X : Cx) (W : WX) : Prop extends CxOk T Γ k c X W where
  hst : X.stack = X.env :: X.outer
  hf0 : X.env.frame = some X.env.locals
  po : PassesOwn (model X.prog X.w) X.A X.env X.xe
section
variable {T : Tb} {Γ : Gm} {k : Nat} {c : Sc} {X : Cx} {W : WX} {E : Er} {r : Sr}
theorem CxOk.hx (C : CxOk T Γ k c X W) : HxCx T Γ c X := ⟨C.hK, C.F.gk, C.F.free, C.F.att, C.F.A, C.F.xf, C.N, C.sc, C.G, C.hu⟩
theorem HxCx.slot (C : HxCx T Γ c X) {x : Str} {i : Nat} (h : c.slot x = some i) : X.N[i]? = some x ∧ Vis X.env.scope x ∧ (x == ("__debug__" : Str)) = false ∧ (x == ("__classdict__" : Str)) = false := by
  unfold Sc.slot at h
  split at h
  · rename_i hp
    have e : X.env.scope.names.lookup x = c.kd x := by rw [C.sc]; rfl
    refine ⟨?_, ?_, nm_plain hp⟩
    · rw [C.N]
      split at h <;> first | exact idx_ok h | (cases h; done)
    · unfold Vis
      rw [e]
      split at h
      · rename_i q; exact .inl q
      · rename_i q; exact .inr (.inl q)
      · rename_i q; exact .inr (.inr q)
      · cases h
  · cases h
theorem HxCx.glo (C : HxCx T Γ c X) {x : Str} (h : c.glo x = true) : Gl X x ∧ (x == ("__debug__" : Str)) = false := by
  unfold Sc.glo at h
  rw [Bool.and_eq_true, decide_eq_true_eq] at h
  refine ⟨?_, (nm_plain h.1).1⟩
  show X.env.scope.names.lookup x = _
  rw [C.sc]
  exact h.2
theorem hxL_ok {f : Expr → Option Hx} {i : Option Nat} {kk : Nat} (hf : ∀ e h, f e = some h → HxP T X i kk e h) : ∀ {es : List Expr} {hs : List Hx}, hxL f es = some hs → HxsP T X i kk es hs
  | [], _, h => by cases h; exact hxs_nil
  | e :: es, _, h => by
    unfold hxL at h
    split at h
    · cases h
    · rename_i hs
      split at h
      · rename_i a b h1 h2
        cases h
        exact hxs_cons (hf e _ h1) (hxL_ok hf h2) fun env => star_cons (by simpa using hs)
      · cases h
theorem hxX_ok (C : HxCx T Γ c X) {nm : Option Str} {i : Option Nat} {kk : Nat} {CC : Addr} (hC : T.cls kk = some CC) (hi : ∀ n, nm = some n → ∃ j, i = some j ∧ c.slot n = some j) : ∀ {n : Nat} {e : Expr} {h : Hx}, hxX Γ c nm kk n e = some h → HxP T X i kk e h
  | 0, _, _, h => by cases h
  | n + 1, e, h, hh => by
    unfold hxX at hh
    split at hh
    · cases hh; exact hx_k (fun _ => pe_int) fun _ => .int _
    · cases hh; exact hx_k (fun _ => pe_bl) fun _ => .bl _
    · cases hh; exact hx_k (fun _ => pe_non) fun _ => .non
    · cases hh; exact hx_k (fun _ => pe_str) fun _ => .str _
    · rename_i y p x pos
      split at hh
      · rename_i f fl hf hfl
        split at hh
        · rename_i hb
          cases hh
          simp only [Bool.and_eq_true, decide_eq_true_eq] at hb
          obtain ⟨j, rfl, hj⟩ := hi y hb.1
          obtain ⟨h1, h2, h3, h4⟩ := C.slot hj
          exact hx_fld C.A C.xf hfl hb.2 hC (C.att _ _ hf) h1 h2 h3 h4
        · cases hh
      · cases hh
    · rename_i rp p2 y p x p3 pos
      split at hh
      · rename_i f fl hf hfl
        split at hh
        · rename_i hb
          cases hh
          simp only [Bool.and_eq_true, decide_eq_true_eq] at hb
          obtain ⟨⟨⟨⟨e1, e2⟩, e3⟩, e4⟩, e5⟩ := hb
          subst e1
          obtain ⟨j, rfl, hj⟩ := hi y e4
          obtain ⟨h1, h2, h3, h4⟩ := C.slot hj
          exact hx_rpr C.A C.xf C.hK C.G C.hu (C.glo e2).1 (C.free _ e3) hfl e5 hC (C.att _ _ hf) h1 h2 h3 h4
        · cases hh
      · cases hh
    · rename_i es k0 pos
      cases q : hxL (hxX Γ c nm kk n) es with
      | none => rw [q] at hh; cases hh
      | some hs =>
        rw [q] at hh
        cases hh
        exact hx_tp (hxL_ok (fun e h => hxX_ok C hC hi) q)
    · cases hh
theorem hcL_ok (C : HxCx T Γ c X) : ∀ {hds : List ExceptHandler} {hs : List Hc}, hcL Γ c hds = some hs → HcsOk T X hds hs
  | [], _, h => by cases h; exact .nil
  | hd :: hds, _, h => by
    unfold hcL at h
    split at h
    · rename_i q qs h1 h2
      cases h
      have ih := hcL_ok C h2
      unfold hcX at h1
      split at h1
      · rename_i x np nm e p1 p2
        split at h1
        · rename_i hg
          obtain ⟨g1, g2⟩ := C.glo hg
          split at h1
          · rename_i kk hk
            cases C.gk x _ hk with
            | @cls _ CC hC hm =>
              split at h1
              · cases z : hxX Γ c none kk 6 e with
                | none => rw [z] at h1; cases h1
                | some hx =>
                  rw [z] at h1
                  cases h1
                  exact .bare hC ⟨g1, g2, .inl hm⟩ (hxX_ok C hC (fun n h => by cases h) z) ih
              · rename_i n
                split at h1
                · rename_i i hi
                  split at h1
                  · rename_i hl
                    replace hl := of_decide_eq_true hl
                    cases z : hxX Γ c (some n) kk 6 e with
                    | none => rw [z] at h1; cases h1
                    | some hx =>
                      rw [z] at h1
                      cases h1
                      obtain ⟨h3, _, _, _⟩ := C.slot hi
                      exact .named hC ⟨g1, g2, .inl hm⟩ h3 (by show X.env.scope.names.lookup n = _; rw [C.sc]; exact hl) (hxX_ok C hC (fun n' h => by cases h; exact ⟨i, rfl, hi⟩) z) ih
                  · cases h1
                · cases h1
          · cases h1
        · cases h1
      · cases h1
    · cases h
theorem evNw_ok (R : ErOk T Γ k E) (C : CxOk T Γ k c X W) (x : Str) (e : Expr) : PE X e (tE T (evNw Γ E c x e) W) := by
  unfold evNw
  split
  · split
    · rename_i f hf
      exact de_new (newX_ok R C hf)
    · exact (R c X W C).1 e
  · exact (R c X W C).1 e
theorem ds_stk {s : Stmt} {f : Fs} (h : ∀ env st, f env st = .stuck) : PS X s (tS T f W) := ⟨fun _ _ _ _ _ _ ⟨_, _, _, _, _, hp⟩ => by rw [h] at hp; exact hp.elim⟩
theorem setLc_ok (R : ErOk T Γ k E) (C : CxOk T Γ k c X W) (nw : Bool) {x : Str} {i : Nat} {elt tg iter : Expr} {ifs : List Expr} {scope : Scope} {pos py spos : Pos} (hx : c.own x = some i) (hl : c.kd x = some .local) (hsw : swapsWith (.ListComp elt [⟨tg, iter, ifs, 0⟩] scope pos) (some (.Name x py)) spos.line X.env = pure true) :
    PS X (.Assign [.Name x py] (.ListComp elt [⟨tg, iter, ifs, 0⟩] scope pos) spos) (tS T (if nw = true then sSetN i (lcX Γ E c elt tg iter ifs scope) else sSetF i (lcX Γ E c elt tg iter ifs scope)) W) := by
  have hxl : X.env.scope.names.lookup x = some .local := by rw [C.sc]; exact hl
  have hxi := (C.own hx).1
  generalize hP : (fun f : FL => PS X (.Assign [.Name x py] (.ListComp elt [⟨tg, iter, ifs, 0⟩] scope pos) spos) (tS T (if nw = true then sSetN i f else sSetF i f) W)) = P
  have stk : ∀ {f : FL}, (∀ env st, f env st = .stuck) → P f := fun {f} hf => by
    subst hP
    cases nw
    · exact ds_stk fun env st => by show sSetF i f env st = _; unfold sSetF; rw [hf]; rfl
    · exact ds_stk fun env st => by show sSetN i f env st = _; unfold sSetN; rw [hf]; rfl
  suffices z : P (lcX Γ E c elt tg iter ifs scope) by subst hP; exact z
  unfold lcX
  split
  · rename_i h
    rw [Bool.and_eq_true, Bool.and_eq_true, Bool.not_eq_true'] at h
    obtain ⟨⟨h1, h2⟩, h3⟩ := h
    have ok := blkOk_by h2
    rw [← C.N, ← C.sc] at ok
    have hc : X.calm = true := by rw [C.calm]; exact h1
    split
    · rename_i p hp
      split
      · rename_i hsl
        have hsl : ∀ i ∈ p.slots, i ∈ (ownOf c.N scope.names).map (·.2) := fun i hi => by simpa using List.all_eq_true.mp hsl i hi
        rw [← C.N] at hsl ⊢
        have B := fun s H cc cl fp => C.blk s H scope cl cc fp
        split
        · subst hP
          cases nw
          · exact ds_setF hc C.nd' hxi hxl hsw (iterX_ok R C tg iter) ok (fun s H cc cl fp => ptX_ok (B s H cc cl fp) h1 hp) (fun s H cc cl fp => dts_nil) (fun s H cc cl fp => (R _ _ _ (B s H cc cl fp)).1 elt) (fset_ok h3) hsl
          · exact ds_setN hc C.nd' hxi hxl hsw (iterX_ok R C tg iter) ok (fun s H cc cl fp => ptX_ok (B s H cc cl fp) h1 hp) (fun s H cc cl fp => dts_nil) (fun s H cc cl fp => (R _ _ _ (B s H cc cl fp)).1 elt) (fset_ok h3) hsl
        · rename_i t
          subst hP
          cases nw
          · exact ds_setF hc C.nd' hxi hxl hsw (iterX_ok R C tg iter) ok (fun s H cc cl fp => ptX_ok (B s H cc cl fp) h1 hp) (fun s H cc cl fp => dts_one ((R _ _ _ (B s H cc cl fp)).2 t)) (fun s H cc cl fp => (R _ _ _ (B s H cc cl fp)).1 elt) (fset_ok h3) hsl
          · exact ds_setN hc C.nd' hxi hxl hsw (iterX_ok R C tg iter) ok (fun s H cc cl fp => ptX_ok (B s H cc cl fp) h1 hp) (fun s H cc cl fp => dts_one ((R _ _ _ (B s H cc cl fp)).2 t)) (fun s H cc cl fp => (R _ _ _ (B s H cc cl fp)).1 elt) (fset_ok h3) hsl
        · exact stk fun _ _ => rfl
      · exact stk fun _ _ => rfl
    · exact stk fun _ _ => rfl
  · exact stk fun _ _ => rfl
def isName : Expr → Bool
  | .Name .. => true
  | _ => false
theorem swap_tg {t e : Expr} {l : Nat} {env : PySem.Env} (h : isName t = false) : swapsWith e (some t) l env = pure false := by
  unfold swapsWith
  split
  · cases t <;> first | rfl | (cases h; done)
  · rfl
theorem sole_ok {t e : Expr} {l : Nat} {env : PySem.Env} (h : isName t = false) : swapsWithSole [t] e l env = pure false := swap_tg h
theorem asg1 {tg : Expr} {env : PySem.Env} (h : isStar tg = false) : (assignEach [tg] env).map (·.2) = [assign tg env] := by rw [asgs_cons h]; rfl
theorem asgPt_ok (R : ErOk T Γ k E) (C : CxOk T Γ k c X W) {tg e : Expr} {pos : Pos} (hs : isStar tg = false) (he : isName tg = false) (hw : swappedStores [tg] e X.env = pure none) :
    PS X (.Assign [tg] e pos) (tS T (match ptX c 5 tg with | some p => if c.calm = true then sAsg (E.x c e) (gPt p) else sX | none => sX) W) := by
  split
  · rename_i p hp
    split
    · rename_i hc
      exact ds_asg ((R c X W C).1 e) (dg_pt (ptX_ok C hc hp)) (sole_ok he) hw (asg1 hs)
    · exact ds_x
  · exact ds_x
theorem asgX_ok (R : ErOk T Γ k E) (C : CxOk T Γ k c X W) (tg e : Expr) (pos : Pos) : PS X (.Assign [tg] e pos) (tS T (asgX Γ E c tg e) W) := by
  have hx := (R c X W C).1
  unfold asgX
  split
  · rename_i x tpos
    split
    · rename_i i hi
      obtain ⟨h1, h2, h3⟩ := C.own hi
      split
      · rename_i elt tg2 iter ifs scope vpos
        split
        · rename_i hf
          have hsw := swL_ok (t := x) (tpos := tpos) (pos := vpos) (scope := scope) (elt := elt) (gs := [⟨tg2, iter, ifs, 0⟩]) (l := pos.line) C.sc (of_decide_eq_true hf)
          split
          · rename_i hb
            rw [hb] at hsw
            have hl : c.kd x = some .local := by
              unfold swL at hb
              simp only [Bool.and_eq_true, beq_iff_eq] at hb
              exact hb.1.1
            exact setLc_ok R C (c.new.contains x) hi hl hsw
          · rename_i hb
            have hb : swL c x tpos vpos scope = false := by simpa using hb
            rw [hb] at hsw
            exact ds_set C.nd' h1 h2 (evNw_ok R C x _) hsw h3
        · exact ds_x
      · split
        · exact ds_x
        · rename_i hb
          exact ds_set C.nd' h1 h2 (evNw_ok R C x _) (swap_ok (by simpa using hb)) h3
    · exact ds_x
  · rename_i ts k0 tpos
    · split
      · rename_i vs k2 p2
        split
        · rename_i hsw
          exact asgPt_ok R C rfl rfl (swB_ok C.sc hsw)
        · rename_i names hsw
          have hw := fun (kk kk2 : Nat) (pp pp2 : Pos) => swB_ok (k := kk) (k2 := kk2) (p := pp) (p2 := pp2) C.sc hsw
          split
          · rename_i x px y py a b
            split
            · rename_i i j hi hj
              split
              · rename_i hh
                simp only [Bool.and_eq_true, decide_eq_true_eq, Bool.not_eq_true'] at hh
                obtain ⟨⟨⟨⟨⟨⟨e1, e2⟩, e3⟩, e4⟩, e5⟩, e6⟩, e7⟩ := hh
                subst e1
                exact ds_par2 (by rw [C.calm]; exact e7) C.nd' (C.own hi).1 (C.own hj).1 e2 (by rw [C.sc]; exact e5) (by rw [C.sc]; exact e6) (da_cons (evNw_ok R C x a) (da_cons (evNw_ok R C y b) da_nil (star_cons e4)) (star_cons e3)) (hw _ _ _ _) (sole_ok rfl)
              · exact ds_x
            · exact ds_x
          · rename_i x px y py z pz a b d
            split
            · rename_i i j l hi hj hl
              split
              · rename_i hh
                simp only [Bool.and_eq_true, decide_eq_true_eq, Bool.not_eq_true'] at hh
                obtain ⟨⟨⟨⟨⟨⟨⟨⟨⟨⟨e1, e2⟩, e3⟩, e4⟩, e5⟩, e6⟩, e7⟩, e8⟩, e9⟩, e10⟩, e11⟩ := hh
                subst e1
                exact ds_par3 (by rw [C.calm]; exact e11) C.nd' (C.own hi).1 (C.own hj).1 (C.own hl).1 e2 e3 e4 (by rw [C.sc]; exact e8) (by rw [C.sc]; exact e9) (by rw [C.sc]; exact e10) (da_cons (evNw_ok R C x a) (da_cons (evNw_ok R C y b) (da_cons (evNw_ok R C z d) da_nil (star_cons e7)) (star_cons e6)) (star_cons e5)) (hw _ _ _ _) (sole_ok rfl)
              · exact ds_x
            · exact ds_x
          · exact ds_x
        · exact ds_x
      · rename_i hne
        refine asgPt_ok R C rfl rfl (stores_ok (.inr ?_))
        cases e <;> first | rfl | exact absurd rfl (hne _ _ _)
  · rename_i o x apos
    split
    · rename_i f hf
      exact ds_att C.F.A C.hK (C.F.att _ _ hf) (hx o) (hx e) (swap_tg rfl)
    · exact ds_x
  · rename_i o i ipos
    split
    · exact ds_x
    · rename_i hb
      have hu := C.hu
      refine ds_asg (hx e) (dg_sub (by omega) (hx o) (hx i) fun v => ?_) (sole_ok rfl) (stores_ok (.inl rfl)) rfl
      cases i <;> first | rfl | exact absurd hb (by simp [isSlice])
  · exact ds_x
def SrOk (T : Tb) (Γ : Gm) (k : Nat) (r : Sr) : Prop := ∀ (c : Sc) (X : Cx) (W : WX), SxOk T Γ k c X W → ∀ ss, PSs X ss (tS T (r c ss) W)
theorem svX_ok (R : ErOk T Γ k E) (S : SrOk T Γ k r) (C : SxOk T Γ k c X W) (s : Stmt) : PS X s (tS T (svX Γ E r c s) W) := by
  have hx := (R c X W C.toCxOk).1
  have ht := (R c X W C.toCxOk).2
  have hr := S c X W C
  unfold svX
  split
  · exact ds_ret (evNw_ok R C.toCxOk _ _)
  · exact ds_retN
  · split
    · exact ds_x
    · rename_i hb
      exact ds_expr (hx _) (swap_ok (by simpa using hb))
  · exact ds_pass
  · exact ds_brk
  · exact ds_cont
  · exact ds_if (ht _) (hr _) (hr _)
  · exact ds_while _ C.po (ht _) (hr _)
  · split
    · rename_i hb
      rw [Bool.and_eq_true, Bool.not_eq_true'] at hb
      split
      · rename_i p hp
        exact ds_for C.po (by rw [C.calm]; exact hb.1) (iterX_ok R C.toCxOk _ _) (ptX_ok C.toCxOk hb.1 hp) (hr _) (fset_ok hb.2)
      · exact ds_x
    · exact ds_x
  · exact asgX_ok R C.toCxOk _ _ _
  · split
    · rename_i i hi
      obtain ⟨h1, h2, h3⟩ := C.own hi
      exact ds_aug C.nd' h1 h2 (hx _) h3
    · exact ds_x
  · rename_i o i ipos e pos
    split
    · exact ds_x
    · rename_i hb
      have hu := C.hu
      refine ds_augS C.hK (by omega) (hx _) (hx _) (hx _) fun ov iv new => ?_
      cases i <;> first | rfl | exact absurd hb (by simp [isSlice])
  · rename_i x p e es pos pos2
    split
    · rename_i hb
      simp only [Bool.and_eq_true, decide_eq_true_eq, Bool.not_eq_true', List.any_cons, Bool.or_eq_false_iff] at hb
      obtain ⟨⟨⟨h1, h2⟩, h3⟩, h4, h5⟩ := hb
      obtain ⟨g1, g2⟩ := C.glo h1
      split
      · rename_i kk hk
        split
        · rename_i hex
          obtain ⟨fl, hfl⟩ := Option.isSome_iff_exists.mp hex
          cases C.F.gk x _ hk with
          | cls hC hm => exact ds_raise C.F.ex (C.room.mono (by omega)) (by rw [C.calm]; exact h2) C.tk hC hfl g1 hm (evA_ok hx _) g2 (star_cons h4) (star_any h5)
        · exact ds_x
      · exact ds_x
    · exact ds_x
  · split
    · rename_i hs hh
      refine ds_try C.F.xm C.hst C.hf0 C.nd' C.tk (fun W' pn xe tk po => S c (X.tr pn xe) W' ⟨⟨C.F, C.N, C.nd, C.sc, C.fn, C.calm, tk, C.G, C.room, C.lam⟩, C.hst, C.hf0, po⟩ _) (hcL_ok C.toCxOk.hx hh)
    · exact ds_x
  · exact ds_x
theorem svL_ok (R : ErOk T Γ k E) (S : SrOk T Γ k r) (C : SxOk T Γ k c X W) : ∀ ss : List Stmt, PSs X ss (tS T (svL Γ E r c ss) W)
  | [] => ds_nil
  | s :: ss => ds_cons (svX_ok R S C s) (svL_ok R S C ss)
theorem sv_ok (R : ErOk T Γ k E) : ∀ n : Nat, SrOk T Γ k (sv Γ E n)
  | 0 => fun c X W C ss => dss_x
  | n + 1 => fun c X W C ss => svL_ok R (sv_ok R n) C ss
end
end Ev
set_option Elab.async false
set_option linter.all false
set_option maxRecDepth 100000
set_option maxHeartbeats 2000000
namespace Ev
open PySem PySem.Spec L2
/-! ### the defs of the text, by depth -/
structure Fd where
  N : List Str
  sc : Scope
  body : List Stmt
  kp : Bool
  rm : Nat
  lam : Option Nat
  new : List Str
def Fd.ctx (f : Fd) : Sc := { N := f.N, sc := f.sc, fn := fun _ => true, calm := true, rm := f.rm, lam := f.lam, new := f.new }
def Gm.at_ (Γ : Gm) (call : Nat → Gb) : Gm := { Γ with call := call }
def fnBody (Γ : Gm) (f : Fd) : Fs := sv Γ (ev Γ 60) 30 f.ctx f.body
def fnAt (Γ : Gm) (f : Fd) : Gb := defP f.kp f.N.length (fnBody Γ f)
def callN (Γ : Gm) (fds : Nat → Option Fd) : Nat → Nat → Gb
  | 0, _ => fun _ _ => .stuck
  | n + 1, i => match fds i with
    | some f => fnAt (Γ.at_ (callN Γ fds n)) f
    | none => fun _ _ => .stuck
/-- the facts that hold at every depth -/
structure GmS (T : Tb) (Γ : Gm) (P : Program) (w : World) (K : PySem.W.Frag) (mg : Str → Option Value) (base : Heap) : Prop where
  hK : T.K = K
  gk : ∀ x g, Γ.gk x = some g → GkOk T K mg x g
  free : ∀ x, Γ.free x = true → mg x = none
  att : ∀ x f, Γ.att x = some f → T.att f = some x
  M : MksOk T K Γ.ini
  A : AttOk T Γ.ao
  I : IsOk T Γ.io
  xf : XfOk T K Γ.exf
  xm : XmOk T K Γ.xm
  eq : EqOk T K Γ.eqf Γ.eqk
  ex : ∀ k, ExsOk T P w K mg base Γ.exf k
  cmp : CmpOk T P w K mg base Γ.cmp
  lam : ∀ F b, T.lam F (.lam 0) (.ref b)
  op : OpOk T K Γ.opf
  ng : NgOk T K Γ.ngf
  mt : MtOk T K Γ.mtf
/-- a def stands in the text -/
structure FdOk (T : Tb) (Γ : Gm) (K : PySem.W.Frag) (mg : Str → Option Value) (base : Heap) (i : Nat) (f : Fd) : Prop where
  ex : ∃ (a : Addr) (x qual : Str) (params : Arguments) (dvs : List V) (fd : FuncData) (ps : List Str), T.fn i = some a ∧ FunD K x qual params f.body f.sc dvs [] a fd ∧ FnScope f.N ps f.sc ∧
    (∀ j, f.lam = some j → ∀ cdv, PySem.W.codeIn K cdv qual = true → fd.code = cdv → (∃ oc od osl, K.lookup a = some ⟨oc, od, .func fd, osl⟩) → ∃ cc PP, LamX.TabB base mg cc PP ∧ cdv = .ref cc ∧ T.tab j = some (PP, qual ++ ".<locals>." ++ "<lambda>")) ∧
    ∀ n dv, Γ.dfl i n = some dv → n + dv.length = ps.length ∧ ∃ (dws : List V) (ds : List Value), (∀ F, Rps T F dv dws) ∧ Vals dws ds ∧ Binds K fd ps ds
section
variable {T : Tb} {Γ : Gm} {P : Program} {w : World} {K : PySem.W.Frag} {mg : Str → Option Value} {base : Heap} {fds : Nat → Option Fd}
theorem body_ok {X : Cx} {W : WX} {k : Nat} {c : Sc} (C : SxOk T Γ k c X W) (nE nS : Nat) (ss : List Stmt) : PSs X ss (tS T (sv Γ (ev Γ nE) nS c ss) W) := sv_ok (ev_ok nE) nS c X W C ss
theorem GmS.at_ (S : GmS T Γ P w K mg base) {call : Nat → Gb} {k : Nat} (F : FnsOk T P w K mg base call Γ.dfl k) : GmOk T (Γ.at_ call) P w K mg base k :=
  ⟨S.hK, S.gk, S.free, S.att, F, S.M, S.A, S.I, S.xf, S.xm, S.eq, S.ex k, S.cmp, S.lam, S.op, S.ng, S.mt⟩
theorem fnAt_ok (S : GmS T Γ P w K mg base) {call : Nat → Gb} {k : Nat} (F : FnsOk T P w K mg base call Γ.dfl k) {i : Nat} {f : Fd} (hF : FdOk T Γ K mg base i f) (hr : f.rm ≤ 6) {n : Nat} {dv : List D} (hd : Γ.dfl i n = some dv) :
    ∃ a fd ps dvs ds, T.fn i = some a ∧ FnG P w K mg base (k + 8) a fd ps (spOf T (n + dv.length) (fnAt (Γ.at_ call) f)) ∧ PySem.W.keepIn K (.ref a) = true ∧ (∀ F, Rps T F dv dvs) ∧ Vals dvs ds ∧ Binds K fd ps ds := by
  obtain ⟨a, x, qual, params, dvs, fd, ps, h1, h2, h3, h4, h5⟩ := hF.ex
  obtain ⟨h6, dws, ds, h7, h8, h9⟩ := h5 n dv hd
  refine ⟨a, fd, ps, dws, ds, h1, ?_, h2.kp, h7, h8, h9⟩
  have G := S.at_ F
  unfold fnAt
  refine FnG.mono (fn_ok (k := k + f.rm) h2 h3 h6.symm fun cdv A outer s H E hcd hcode hlk hroom hg => ?_) (by omega)
  have C : SxOk T (Γ.at_ call) k f.ctx (cxOf (L2.CX P w) P w K mg base f.N qual f.sc a cdv A outer s H E) (fun c d _ H' => E c d H') := by
    refine ⟨⟨G, rfl, h3.nd, rfl, rfl, rfl, takes_of rfl rfl rfl rfl, hg, hroom, fun j hj => ?_⟩, rfl, rfl, passes_of rfl⟩
    obtain ⟨cc, PP, z1, z2, z3⟩ := h4 j hj cdv hcd hcode hlk
    exact ⟨cc, PP, z1, z2, z3⟩
  unfold fnBody
  exact body_ok C _ _ f.body
theorem fns_ok (S : GmS T Γ P w K mg base) (hD : ∀ i f, fds i = some f → FdOk T Γ K mg base i f ∧ f.rm ≤ 6) (hd : ∀ i n dv, Γ.dfl i n = some dv → ∃ f, fds i = some f) : ∀ n : Nat, FnsOk T P w K mg base (callN Γ fds n) Γ.dfl (8 * n)
  | 0 => ⟨fun i m dv h => by
    obtain ⟨f, hf⟩ := hd i m dv h
    obtain ⟨a, x, qual, params, dvs, fd, ps, h1, h2, h3, h4, h5⟩ := (hD i f hf).1.ex
    obtain ⟨h6, dws, ds, h7, h8, h9⟩ := h5 m dv h
    refine ⟨a, fd, ps, dws, ds, h1, ⟨fun vs H Q E z => z.1.trans h6, fun A outer s H args us vs Q E _ _ _ _ _ z => ?_⟩, h2.kp, h7, h8, h9⟩
    obtain ⟨_, w, st, ds, _, _, q⟩ := z
    exact q.elim⟩
  | n + 1 => ⟨fun i m dv h => by
    obtain ⟨f, hf⟩ := hd i m dv h
    obtain ⟨hF, hr⟩ := hD i f hf
    have z := fnAt_ok S (fns_ok S hD hd n) hF hr h
    have e : callN Γ fds (n + 1) i = fnAt (Γ.at_ (callN Γ fds n)) f := by
      show (match fds i with | some f => fnAt (Γ.at_ (callN Γ fds n)) f | none => fun _ _ => .stuck) = _
      rw [hf]
    rw [e]
    exact z⟩
end
end Ev
set_option Elab.async false
set_option linter.all false
set_option maxRecDepth 100000
set_option maxHeartbeats 1000000
namespace Ev
open PySem PySem.Spec PyProof.Rows L2 LamX
/-! ### the law is called -/
def dOk : Data → Bool
  | .seq _ _ => false
  | .fields f => !f.isEmpty
  | _ => true
/-- the law's def, called with the script from outside: fn a promise that holds where no guard stands -/
theorem entry {P : Program} {w : World} {K : PySem.W.Frag} {mg mb : Str → Option Value} {k : Nat} {fa a : Addr} {cs : List (Addr × Addr)} {sp : Sp} {s0 : Shared} {us : List Value} {ns : List Int}
    (kin : K.In s0.heap) (gl : s0.heap.Ns mainGlobals mg) (bl : s0.heap.Ns builtinsNs mb) (bb : ∀ x : Str, x ≠ "__name__" → mb x = bootBuiltins x) (nl : s0.heap.NoLimit) (ng : s0.gens = #[])
    (tT : ∀ p ∈ cs, s0.heap.get? p.2 = some { cls := .none, data := .fields #[] }) (tK : ∀ p ∈ cs, K.lookup p.2 = none) (tC : ∀ p ∈ cs, PySem.W.CodeHd s0.heap p.1 p.2)
    (mm : ∃ (bm : Addr) (ob : Obj), mg "__builtins__" = some (.ref bm) ∧ bm ≠ builtinsNs ∧ s0.heap.get? bm = some ob ∧ ob.cls = .type "module" ∧ ob.dict = some builtinsNs ∧ ob.data = .plain)
    (sc : s0.heap.get? a = some { cls := .type "list", data := .seq us.toArray }) (si : IntsAre us ns) (sl : ns.length ≤ sizeLine) (room : Room k callerA)
    (fn : ∀ base : Heap, K.In base → base.Ns mainGlobals mg → (∀ p ∈ cs, TabB base mg p.1 p.2) → ∃ fd ps, FnG P w K mg base k fa fd ps sp ∧ Binds K fd ps [])
    (hsp : ∀ H : Hp, (∀ p ∈ cs, H p.2 = some (.tbl #[])) → SqL K H a (ns.map V.int) → sp [.ref a] H (fun v _ => v = .bl true) fun _ _ _ => False) :
    codeAny (model P w) callerA (.call (.ref fa) ⟨[.ref a], []⟩) (fun r s' => r = .ok (.ret (.bool true)) ∧ OldK s0.heap s'.heap ∧ s'.os = s0.os ∧ AllBare s'.gens) s0 := by
  have tabs : ∀ b ∈ cs.map (·.2), s0.heap.get? b = some { cls := .none, data := .fields #[] } := fun b hb => by
    obtain ⟨p, hp, rfl⟩ := List.mem_map.mp hb
    exact tT p hp
  have na : a ∉ cs.map (·.2) := fun z => by
    have q := (tabs a z).symm.trans sc
    simp at q
  -- what is tracked: the tables, and the script where the head does not hold it
  obtain ⟨H, hA, hTb, hN⟩ : ∃ H : Hp, H a = (if (K.lookup a).isSome = true then none else some (.frz { cls := .type "list", data := .seq us.toArray } (.lst (ns.map V.int)))) ∧ (∀ b ∈ cs.map (·.2), H b = some (.tbl #[])) ∧ ∀ b, b ≠ a → b ∉ cs.map (·.2) → H b = none :=
    ⟨fun b => if b = a then (if (K.lookup a).isSome = true then none else some (.frz { cls := .type "list", data := .seq us.toArray } (.lst (ns.map V.int)))) else if b ∈ cs.map (·.2) then some (.tbl #[]) else none,
      if_pos rfl, fun b hb => (if_neg fun z : b = a => na (z ▸ hb)).trans (if_pos hb), fun b n1 n2 => (if_neg n1).trans (if_neg n2)⟩
  have hH : ∀ b u, H b = some u → (b = a ∧ K.lookup a = none ∧ u = .frz { cls := .type "list", data := .seq us.toArray } (.lst (ns.map V.int))) ∨ (b ∈ cs.map (·.2) ∧ u = .tbl #[]) := fun b u z => by
    by_cases h1 : b = a
    · subst h1
      rw [hA] at z
      split at z
      · cases z
      · rename_i hk
        cases z
        exact .inl ⟨rfl, Option.not_isSome_iff_eq_none.mp hk, rfl⟩
    · by_cases h2 : b ∈ cs.map (·.2)
      · rw [hTb b h2] at z
        cases z
        exact .inr ⟨h2, rfl⟩
      · rw [hN b h1 h2] at z
        cases z
  have nt : ∀ {b : Addr} {o : Obj}, s0.heap.get? b = some o → dOk o.data = true → H b = none := fun {b o} e d => by
    cases q : H b with
    | none => rfl
    | some u =>
      rcases hH b u q with ⟨rfl, _, _⟩ | ⟨h, _⟩
      · rw [sc] at e
        cases e
        cases d
      · rw [tabs b h] at e
        cases e
        cases d
  have up : ∀ {b : Addr} {o : Obj}, s0.heap.get? b = some o → dOk o.data = true → (hidT s0.heap H).get? b = some o := fun e d => hidT_get e (nt e d)
  have ns1 : ∀ {b : Addr} {m : Str → Option Value}, s0.heap.Ns b m → (hidT s0.heap H).Ns b m := fun {b m} ⟨o, es, ep, e, d, r⟩ => ⟨o, es, ep, up e (by rw [d]; rfl), d, r⟩
  have kin1 : K.In (hidT s0.heap H) := fun b o e => hidT_get (kin b o e) (by
    cases q : H b with
    | none => rfl
    | some u =>
      rcases hH b u q with ⟨rfl, h, _⟩ | ⟨h, _⟩
      · rw [h] at e
        cases e
      · obtain ⟨p, hp, rfl⟩ := List.mem_map.mp h
        rw [tK p hp] at e
        cases e)
  have hsq : SqL K H a (ns.map V.int) := by
    cases hk : K.lookup a with
    | some o =>
      have e := kin a o hk
      rw [sc] at e
      cases e
      exact .inr ⟨_, us.toArray, _, hk, rfl, rfl, rfl, by rw [List.size_toArray, si.length]; exact sl, by simpa using vals_ints si⟩
    | none => exact .inl (.inr ⟨{ cls := .type "list", data := .seq us.toArray }, by rw [hA, hk]; rfl⟩)
  have hok : HOk P w H s0.heap := fun b u z => by
    rcases hH b u z with ⟨rfl, _, rfl⟩ | ⟨h, rfl⟩
    · exact ⟨sc, by rw [List.length_map]; exact sl, us, _, vals_ints si, sc⟩
    · exact tabs b h
  have tb1 : ∀ p ∈ cs, TabB (hidT s0.heap H) mg p.1 p.2 := fun p hp => by
    have noNs : ∀ {b : Addr} {m : Str → Option Value}, s0.heap.Ns b m → b ≠ p.2 := fun {b m} ⟨o, es, ep, e, d, _⟩ z => by
      rw [z, tT p hp] at e
      cases e
      cases d
    obtain ⟨bm, ob, b1, b2, b3, b4, b5, b6⟩ := mm
    have nP : bm ≠ p.2 := fun z => by
      rw [z, tT p hp] at b3
      cases b3
      cases b6
    have nG : bm ≠ mainGlobals := fun z => by
      obtain ⟨o, es, ep, e, d, _⟩ := gl
      rw [← z, b3] at e
      cases e
      rw [b6] at d
      cases d
    obtain ⟨o, fs, file, tf, flags, tg, inF, text, tt, e1, r1, r2, r3, r4, r5, r6, r7, r8, hne⟩ := tC p hp
    refine ⟨⟨o, fs, file, tf, flags, tg, inF, text, tt, up e1 ?_, r1, r2, r3, r4, r5, r6, r7, r8, hne⟩, ⟨bm, ob, b1, b2, nG, nP, up b3 (by rw [b6]; rfl), b4, b5, b6⟩, noNs gl⟩
    rw [r2]
    cases hz : fs.isEmpty with
    | false => show (!fs.isEmpty) = true; rw [hz]; rfl
    | true =>
      rw [Array.isEmpty_iff] at hz
      subst hz
      simp at r3
  have mod : L2.Mod K mg (hidT s0.heap H) := ⟨kin1, ns1 gl, ⟨mb, ns1 bl, bb⟩, let ⟨mc, h1, h2⟩ := nl; ⟨mc, ns1 h1, h2⟩⟩
  have e0 : Env0 P w K mg (hidT s0.heap H) callerA [] s0 H := ⟨rfl, mod, fun b o e => of_hidT e, Nat.le_of_eq (hidT_size _ _), trivial, fun b hb => (nomatch (show b ∈ ([] : List Addr) from hb)), hok, .of_eq ng⟩
  obtain ⟨fd, ps, F, B⟩ := fn _ kin1 (ns1 gl) tb1
  have sat := hsp H (fun p hp => hTb _ (List.mem_map.mpr ⟨p, hp, rfl⟩)) hsq
  have run := F.go callerA [] s0 H ⟨[.ref a], []⟩ [.ref a] [.ref a] (fun v _ => v = .bl true) (fun _ _ _ => False) room rfl e0 (B s0 [.ref a] kin (F.len _ _ _ _ sat)) (.cons rfl .nil) sat
  refine codeAny_mono run fun r s' h => ?_
  cases r with
  | error e =>
    obtain ⟨_, _, _, _, _, _, _, _, _, _, _, _, z⟩ := h
    exact z.elim
  | ok fl =>
    cases fl with
    | next => exact False.elim h
    | brk => exact False.elim h
    | cont => exact False.elim h
    | ret u =>
      obtain ⟨v, H', os, bare, un, hok', rv, q⟩ := h
      obtain rfl : v = .bl true := q
      obtain rfl : u = Value.bool true := rv
      have more : ∀ b ∈ cs.map (·.2), ∃ m : Array Value, s'.heap.get? b = some { cls := .none, data := .fields m } := fun b hb => by
        obtain ⟨m, z⟩ := un.tbls b #[] (hTb b hb)
        exact ⟨_, hok' b _ z⟩
      have same : ∀ b o, b ∉ cs.map (·.2) → s0.heap.get? b = some o → s'.heap.get? b = some o := fun b o nb e => by
        cases q : H b with
        | none => exact un.keep b o e q (by intro z; exact (nomatch (show b ∈ ([] : List Addr) from z))) (by simp)
        | some u =>
          rcases hH b u q with ⟨rfl, _, rfl⟩ | ⟨h, _⟩
          · rw [sc] at e
            cases e
            exact (hok' b _ (un.frzs b _ _ q)).1
          · exact absurd h nb
      refine ⟨rfl, ⟨fun b o e => ?_, fun b o e => ?_⟩, os, bare⟩
      · by_cases hb : b ∈ cs.map (·.2)
        · obtain ⟨m, hm⟩ := more b hb
          obtain ⟨p, hp, rfl⟩ := List.mem_map.mp hb
          rw [tT p hp] at e
          cases e
          exact .inr (.inl ⟨((tC p hp).tab (tT p hp)).isCodeTable, rfl, #[], m, rfl, by rw [Array.empty_append]; exact hm⟩)
        · exact .inl (same b o hb e)
      · by_cases hb : b ∈ cs.map (·.2)
        · obtain ⟨m, hm⟩ := more b hb
          exact ⟨_, hm⟩
        · exact ⟨o, same b o hb e⟩
end Ev
set_option Elab.async false
set_option linter.all false
set_option maxRecDepth 100000
set_option maxHeartbeats 1000000
namespace Ev
open PySem PySem.Spec PyProof.Rows L2
/-! ### the law by its evaluator -/
/-- what the head knows: the tables of the lambdas' code objects (cs), the evaluator's facts over every base -/
structure Told (l : PySem.W.OpenLaw) (w : World) (K : PySem.W.Frag) (mg : Str → Option Value) (fa : Addr) (h : Heap) (Γ : Gm) (fds : Nat → Option Fd) (li m : Nat) : Prop where
  ex : ∃ (T : Tb) (cs : List (Addr × Addr)), (∀ p ∈ cs, h.get? p.2 = some { cls := .none, data := .fields #[] }) ∧ (∀ p ∈ cs, K.lookup p.2 = none) ∧ (∀ p ∈ cs, PySem.W.CodeHd h p.1 p.2) ∧ (cs.map (·.2)).Nodup ∧ cs.length = m ∧
    (∀ i p, cs[i]? = some p → ∃ q, T.tab i = some (p.2, q)) ∧ T.K = K ∧ T.fn li = some fa ∧ Γ.dfl li 1 = some [] ∧ (∀ i n dv, Γ.dfl i n = some dv → ∃ f, fds i = some f) ∧
    ∀ base : Heap, K.In base → base.Ns mainGlobals mg → (∀ p ∈ cs, LamX.TabB base mg p.1 p.2) → GmS T Γ l.prog w K mg base ∧ ∀ i f, fds i = some f → FdOk T Γ K mg base i f ∧ f.rm ≤ 6
theorem ints_rps {T : Tb} {F : Hp} : ∀ ns : List Int, Rps T F (ns.map D.int) (ns.map V.int)
  | [] => .nil
  | n :: ns => .cons (.int n) (ints_rps ns)
theorem no_code {pos : Pos} {cv : Value} (h : codeAmong pos (#[] : Array Value).toList = some cv) : False := by
  cases h
/-- the law's walk out of what its evaluator says -/
theorem walk_ev {l : PySem.W.OpenLaw} {n depth li m : Nat} {q : Program} {loose : List Str} {XP : (Str → Option Value) → Heap → Prop} {YP : World → Heap → Prop} {d : DefRec} {Γ : Gm} {fds : Nat → Option Fd}
    (hn : l.most = some n) (hz : n ≤ sizeLine) (hdf : d.params.defaults = []) (room : Room (8 * depth) callerA)
    (told : ∀ (w : World) (mg : Str → Option Value) (fa : Addr) (h : Heap), YP w h → h.Ns mainGlobals mg → mg d.name = some (.ref fa) → ∃ K : PySem.W.Frag, K.In h ∧ Told l w K mg fa h Γ fds li m)
    (law : ∀ ns : List Int, ns.length ≤ n → (∀ z ∈ ns, Builtin.Int.intBits z ≤ 1048576) → ∃ st, callN Γ fds depth li [.scr (ns.map .int)] ((List.range m).map .tbl) = .ok (.bl true) st) :
    PySem.W.WalkO q loose XP YP l.row.toRowW d [] (fun f vs => PySem.call f vs) := by
  refine Att.attach_callB hn hdf fun w s₀ s₁ mg mb fa o pm cd doc a us ns G Y _ _ _ hmg hobj hints hlen hbits hg => ?_
  obtain ⟨K, kin, td⟩ := told w mg fa _ Y G.T.g hmg
  obtain ⟨T, cs, t1, t2, t3, t4, t5, t6, t7, t8, t9, t10, t11⟩ := td.ex
  refine entry (sp := spOf T 1 (callN Γ fds depth li)) (cs := cs) kin G.T.g G.T.b G.T.builtins G.T.nolimit hg t1 t2 t3 G.T.bmain hobj hints (Nat.le_trans hlen hz) room (fun base kb nb tb => ?_) fun H hT hS => ?_
  · obtain ⟨S, hD⟩ := t11 base kb nb tb
    obtain ⟨f, fd, ps, dvs, ds, z1, z2, z3, z4, z5, z6⟩ := (fns_ok S hD t10 depth).ok li 1 [] t9
    rw [t8] at z1
    cases z1
    cases z4 (fun _ => none)
    cases z5
    exact ⟨fd, ps, z2, z6⟩
  · obtain ⟨st, hst⟩ := law ns hlen hbits
    have inT : ∀ p ∈ cs, p.2 ∈ cs.map (·.2) := fun p hp => List.mem_map.mpr ⟨p, hp, rfl⟩
    refine ⟨rfl, ⟨fun b => if b ∈ cs.map (·.2) then none else H b, cs.map (·.2)⟩, (List.range m).map .tbl, [.scr (ns.map .int)], ⟨fun b u z => ?_, by simp [t5], t4, fun i c b h1 h2 => ?_⟩, .cons (.d (.scr ?_ (ints_rps ns))) .nil, ?_⟩
    · have z : (if b ∈ cs.map (·.2) then none else H b) = some u := z
      split at z
      · cases z
      · exact z
    · obtain ⟨p, hp, rfl⟩ : ∃ p, cs[i]? = some p ∧ p.2 = b := by
        rw [List.getElem?_map] at h2
        cases q : cs[i]? with
        | none => rw [q] at h2; cases h2
        | some p => rw [q] at h2; cases h2; exact ⟨p, rfl, rfl⟩
      have hm := List.mem_of_getElem? hp
      have ec : c = .tbl i := by
        rw [List.getElem?_map] at h1
        cases q : (List.range m)[i]? with
        | none => rw [q] at h1; cases h1
        | some j =>
          rw [q] at h1
          have := (List.getElem?_eq_some_iff.mp q).2
          simp at this
          cases h1
          rw [this]
      subst ec
      obtain ⟨qq, hq⟩ := t6 i p hp
      refine ⟨if_pos (inT p hm), qq, #[], hq, hT p hm, ?_, fun pos cv z => (no_code z).elim⟩
      exact trivial
    · rcases hS with (z | ⟨ob, z⟩) | z
      · refine .inl (.inl ((if_neg fun y => ?_).trans z))
        obtain ⟨p, hp, e⟩ := List.mem_map.mp y
        rw [← e, hT p hp] at z
        cases z
      · refine .inl (.inr ⟨ob, (if_neg fun y => ?_).trans z⟩)
        obtain ⟨p, hp, e⟩ := List.mem_map.mp y
        rw [← e, hT p hp] at z
        cases z
      · rw [t7]
        exact .inr z
    · rw [hst]
      exact fun u H' v _ _ r => r.bl_inv
end Ev
set_option Elab.async false
set_option linter.all false
set_option maxRecDepth 100000
set_option maxHeartbeats 1000000
namespace Ev
open PySem PySem.Spec PyProof.Rows L2
/-! ### the head tells what stands -/
/-- what the module's names reach in n steps; the statics too -/
def reachN (g : Addr → Option Obj) : Nat → List Addr
  | 0 => [mainGlobals, cStatics]
  | n + 1 => He.growD g (reachN g n)
/-- a def as the heap has it: name, qualified name, parameters, body, scope, globals, the closure's names, builtins -/
abbrev FnU : Type := Option (Str × Str × Arguments × FuncBody × Scope × Addr × List Str × Addr)
def fnU (K : PySem.W.Frag) (p : Str × Option Str) : FnU := match K.lookup (He.fAd K p) with
  | some ⟨_, _, .func fd, _⟩ => some (fd.name, fd.qualname, fd.params, fd.body, fd.scope, fd.globals, fd.closure.map (·.1), fd.builtins)
  | _ => none
def valU (d : He.DefD) (cl : List Str) : FnU := some (d.name, d.qual, d.params, .stmts d.body, d.scope, mainGlobals, cl, builtinsNs)
/-- an exception class with an __init__ of its own: its id, the def, its fields' ids -/
structure Xd where
  c : Nat
  d : He.DefD
  fl : List Nat
/-- the law's tables -/
structure Tabs where
  ds : List He.DefD
  fd : List Fd
  cl : List Str
  at_ : List Str
  tf : List (Str × Str)
  gk : List (Str × Gk)
  fr : List Str
  ini : List (Nat × Nat)
  ao : List (Nat × Nat)
  io : List ((Kd × Ck) × Bool)
  ex : List Xd
  xm : List ((Nat × Nat) × Bool)
  eq : List (Nat × Nat)
  ek : List (Nat × Kd)
  cmp : List (Nat × Cmp)
  dfl : List ((Nat × Nat) × List D)
  fuel : Nat
  op : List ((Nat × Operator) × Nat)
  ng : List (Nat × Nat)
  mt : List ((Nat × Str) × Nat)
section
variable (L : Tabs)
def Tabs.fds (i : Nat) : Option Fd := L.fd[i]?
def Tabs.gm : Gm where
  gk := fun x => L.gk.lookup x
  free := fun x => L.fr.contains x
  att := fun x => idx x L.at_
  call := fun _ _ _ => .stuck
  dfl := fun i n => L.dfl.lookup (i, n)
  ini := fun c => L.ini.lookup c
  ao := fun c f => L.ao.contains (c, f)
  io := fun k c => L.io.lookup (k, c)
  exf := fun c => (L.ex.find? fun x => x.c == c).map (·.fl)
  xm := fun c k => L.xm.lookup (c, k)
  eqf := fun c => L.eq.lookup c
  eqk := fun c k => L.ek.contains (c, k)
  cmp := fun i => L.cmp.lookup i
  fuel := L.fuel
  opf := fun c o => L.op.lookup (c, o)
  ngf := fun c => L.ng.lookup c
  mtf := fun c m => L.mt.lookup (c, m)
def Tabs.fnA (K : PySem.W.Frag) (i : Nat) : Option Addr := (L.ds[i]?).map fun d => He.fAd K d.at_
def Tabs.clA (K : PySem.W.Frag) (c : Nat) : Option Addr := (L.cl[c]?).map (He.ga K)
/-- where things stand, by names -/
def Tabs.tb (K : PySem.W.Frag) : Tb where
  K := K
  cls := L.clA K
  fn := L.fnA K
  att := fun f => L.at_[f]?
  tab := fun j => (L.tf[j]?).map fun p => ((He.cT K (p.1, none)).2, p.2 ++ ".<locals>." ++ "<lambda>")
  lam := fun _ d v => d = .lam 0 ∧ ∃ b, v = .ref b
  lamUp := fun _ _ _ _ _ h => h
def kdVal (K : PySem.W.Frag) : Kd → Option Value
  | .cls c => (L.clA K c).map .ref
  | k => some (.type k.name)
def ckVal (K : PySem.W.Frag) : Ck → Option Value
  | .own c => (L.clA K c).map .ref
  | k => some (.type k.name)
def bO (a b : Option (Option Value)) : Bool := decide (a = b)
/-- of a global's name -/
def gkB (K : PySem.W.Frag) (p : Str × Gk) : Bool := match p.2 with
  | .fn i => (match L.ds[i]? with
    | some d => decide (d.at_ = (p.1, none)) && bO (PySem.W.nsIn K mainGlobals p.1) (some (some (.ref (He.ga K p.1))))
    | none => false)
  | .cls c => decide (L.cl[c]? = some p.1) && bO (PySem.W.nsIn K mainGlobals p.1) (some (some (.ref (He.ga K p.1))))
  | .bi id => bO (PySem.W.nsIn K mainGlobals p.1) (some (some (.builtin id)))
  | .k (.int i) => (match PySem.W.nsIn K mainGlobals p.1 with
    | some (some (.int j _)) => decide (j = i)
    | _ => false)
  | .k _ => false
def clsB (K : PySem.W.Frag) (C : Addr) : Bool := PySem.W.plainGet K C Str.empty && (PySem.W.hasDictIn K C && (PySem.W.plainOver K C && bO (PySem.W.findIn K (.ref C) "__setattr__") (some (some (.builtin "object.__setattr__")))))
def insB (K : PySem.W.Frag) (C : Addr) : Bool := clsB K C && (bO (PySem.W.findIn K (.ref C) "__class__") (some (some (.builtin "object.__class__"))) && (bO (PySem.W.specialIn K (.builtin "object.__class__") "__get__") (some (some (.builtin "getset_descriptor.__get__"))) &&
  (decide (PySem.W.takesIn K (.builtin "object.__class__") = some true) && (decide (PySem.W.mroIn K C (.type "object") = some true) && decide (PySem.W.kitOne K (.ref C) (.ref C) = some true)))))
theorem clsB_ok {K : PySem.W.Frag} {C : Addr} (h : clsB K C = true) : Cls K C := by
  simp only [clsB, bO, Bool.and_eq_true, decide_eq_true_eq] at h
  exact ⟨h.1, h.2.1, h.2.2.1, h.2.2.2⟩
theorem insB_ok {K : PySem.W.Frag} {C : Addr} (h : insB K C = true) : C8.InsC K C := by
  simp only [insB, bO, Bool.and_eq_true, decide_eq_true_eq] at h
  exact ⟨clsB_ok h.1, h.2.1, h.2.2.1, h.2.2.2.1, h.2.2.2.2.1, h.2.2.2.2.2⟩
end
/-! exception classes -/
def oexB (K : PySem.W.Frag) (C : Addr) : Bool := match K.lookup C with
  | some ⟨.type "type", _, .cls cd, sl⟩ => (match cd.mro, sl.toList with
    | .ref D :: bm, [_, _, _, _, some (.builtin n), _] => decide (D = C) && (decide (n = "ValueError.__new__") && (!cd.hasDel && (cd.hasDict && PySem.HandSPX.refsVE bm)))
    | _, _ => false)
  | _ => false
theorem oexB_ok {K : PySem.W.Frag} {C : Addr} (h : oexB K C = true) : ∃ nm q N bs bm sn sub ab col dd k0 k1 k2 k3 k5, K.lookup C = some (excClassObj nm q C N bs bm true sn sub ab col dd k0 k1 k2 k3 k5 "ValueError.__new__") ∧ PySem.HandSPX.refsVE bm = true := by
  unfold oexB at h
  split at h
  · rename_i dd cd sl hl
    split at h
    · rename_i D bm k0 k1 k2 k3 n k5 hm hs
      simp only [Bool.and_eq_true, decide_eq_true_eq, Bool.not_eq_true'] at h
      obtain ⟨rfl, rfl, h3, h4, h5⟩ := h
      obtain ⟨nm, bs, mro, ns, qn, hd, sn, sub, ab, col, del⟩ := cd
      obtain ⟨l⟩ := sl
      simp only at hm hs h3 h4
      subst hm hs h3 h4
      exact ⟨nm, qn, ns, bs, bm, sn, sub, ab, col, dd, k0, k1, k2, k3, k5, hl, h5⟩
    · cases h
  · cases h
def fileB (K : PySem.W.Frag) (c : Addr) (file : Str) : Bool := match K.lookup c with
  | some ⟨_, _, .fields vs, _⟩ => (match (vs[2]? : Option Value) with
    | some (.str f _) => file == f
    | _ => false)
  | _ => false
theorem fileB_ok {K : PySem.W.Frag} {c : Addr} {file : Str} (h : fileB K c file = true) : ∃ (ccl : Value) (cdd : Option Addr) (vs : Array Value) (ccs : Array (Option Value)) (f : Str) (tf : Tok), K.lookup c = some ⟨ccl, cdd, .fields vs, ccs⟩ ∧ vs[2]? = some (.str f tf) ∧ (file == f) = true := by
  unfold fileB at h
  split at h
  · rename_i vs _ hl
    split at h
    · rename_i f t hv
      exact ⟨_, _, vs, _, f, t, hl, hv, h⟩
    · cases h
  · cases h
def cellB (K : PySem.W.Frag) (c C : Addr) : Bool := match K.lookup c with
  | some ⟨_, _, .cell (some (.ref D)), _⟩ => decide (D = C)
  | _ => false
theorem cellB_ok {K : PySem.W.Frag} {c C : Addr} (h : cellB K c C = true) : ∃ (cl : Value) (cld : Option Addr) (csl : Array (Option Value)), K.lookup c = some ⟨cl, cld, .cell (some (.ref C)), csl⟩ := by
  unfold cellB at h
  split at h
  · rename_i D _ hl
    have e := of_decide_eq_true h
    subst e
    exact ⟨_, _, _, hl⟩
  · cases h
/-- the def's code and its one closure's cell -/
def clo1 (K : PySem.W.Frag) (f : Addr) : Option (Addr × Addr) := match K.lookup f with
  | some ⟨_, _, .func fd, _⟩ => (match fd.code, fd.closure with
    | .ref c, [(_, e)] => some (c, e)
    | _, _ => none)
  | _ => none
section
variable (L : Tabs)
def exB (file : Str) (K : PySem.W.Frag) (x : Xd) : Bool := match L.cl[x.c]?, clo1 K (He.fAd K x.d.at_) with
  | some nm, some (cda, cc) => oexB K (He.ga K nm) && (bO (PySem.W.findIn K (.ref (He.ga K nm)) "__setattr__") (some (some (.builtin "object.__setattr__"))) && (decide (PySem.W.subIn K (.ref (He.ga K nm)) (.type "BaseException") = some true) && (decide (PySem.W.typeIn K (.ref (He.ga K nm)) = some (.type "type")) &&
    (PySem.W.keepIn K (.ref (He.ga K nm)) && (xfB K (He.ga K nm) && (bO (PySem.W.findIn K (.ref (He.ga K nm)) "__init__") (some (some (.ref (He.fAd K x.d.at_)))) && (decide (PySem.W.typeIn K (.ref (He.fAd K x.d.at_)) = some (.type "function")) &&
    ((x.fl.all fun i => match L.at_[i]? with | some a => bO (PySem.W.findIn K (.ref (He.ga K nm)) a) (some none) | none => false) && (PySem.W.codeIn K (.ref cda) x.d.qual && (fileB K cda file && (cellB K cc (He.ga K nm) && (decide (PySem.W.mroIn K (He.ga K nm) (.ref (He.ga K nm)) = some true) &&
    (bO (PySem.W.ks_superIn K (He.ga K nm) (He.ga K nm) "__init__") (some (some (.builtin "ValueError.__init__"))) && decide (PySem.W.subIn K (.ref (He.ga K nm)) (.type "ValueError") = some true))))))))))))))
  | _, _ => false
def opB (K : PySem.W.Frag) (p : (Nat × Operator) × Nat) : Bool := match L.clA K p.1.1, L.fnA K p.2 with
  | some C, some f => bO (PySem.W.findIn K (.ref C) (PySem.dunder p.1.2.info.2)) (some (some (.ref f))) && (PySem.W.isFn K (.ref f) && (PySem.W.selfFirst K C && ((match PySem.W.findIn K (.ref C) (dunderR p.1.2.info.2) with
    | some none => true
    | some (some (.ref _)) => true
    | _ => false) && ((PySem.W.findIn K (.type "int") (PySem.dunder p.1.2.info.2)).isSome && ((PySem.W.findIn K (.type "int") (dunderR p.1.2.info.2)).isSome && decide (PySem.W.subIn K (.type "int") (.ref C) = some false))))))
  | _, _ => false
def ngB (K : PySem.W.Frag) (p : Nat × Nat) : Bool := match L.clA K p.1, L.fnA K p.2 with
  | some C, some f => bO (PySem.W.findIn K (.ref C) "__neg__") (some (some (.ref f))) && PySem.W.isFn K (.ref f)
  | _, _ => false
def mtB (K : PySem.W.Frag) (p : (Nat × Str) × Nat) : Bool := match L.clA K p.1.1, L.fnA K p.2 with
  | some C, some f => clsB K C && (bO (PySem.W.findIn K (.ref C) p.1.2) (some (some (.ref f))) && (PySem.W.isFn K (.ref f) && (PySem.W.keepIn K (.ref f) && !L.at_.contains p.1.2)))
  | _, _ => false
/-- all facts of K -/
def chk (file : Str) (K : PySem.W.Frag) : Bool :=
  (L.ex.all fun x => x.d.ok K) && ((L.gk.all (gkB L K)) && ((L.fr.all fun x => bO (PySem.W.nsIn K mainGlobals x) (some none)) && ((L.ds.all fun d => d.ok K) &&
  ((L.ini.all fun p => match L.cl[p.1]?, L.ds[p.2]? with
    | some nm, some d => PySem.W.makesIn K (He.ga K nm) && (bO (PySem.W.findIn K (.ref (He.ga K nm)) "__init__") (some (some (.ref (He.fAd K d.at_)))) && (PySem.W.isFn K (.ref (He.fAd K d.at_)) && PySem.W.keepIn K (.ref (He.ga K nm))))
    | _, _ => false) &&
  ((L.ao.all fun p => match L.cl[p.1]?, L.at_[p.2]? with
    | some nm, some a => clsB K (He.ga K nm) && bO (PySem.W.findIn K (.ref (He.ga K nm)) a) (some none)
    | _, _ => false) &&
  ((L.io.all fun p => match kdVal L K p.1.1, ckVal L K p.1.2 with
    | some t, some u => decide (PySem.W.kitOne K t u = some p.2) && (match p.1.1 with
      | .cls c => (match L.cl[c]? with
        | some nm => insB K (He.ga K nm)
        | none => false)
      | _ => true)
    | _, _ => false) &&
  ((L.ex.all (exB L file K)) &&
  ((L.xm.all fun p => match L.clA K p.1.1, L.clA K p.1.2 with
    | some C, some D => decide (PySem.W.exmOne K (.ref C) (.ref D) = some p.2)
    | _, _ => false) &&
  ((L.eq.all fun p => match L.clA K p.1, L.fnA K p.2 with
    | some C, some f => bO (PySem.W.findIn K (.ref C) "__eq__") (some (some (.ref f))) && (PySem.W.isFn K (.ref f) && (bO (PySem.W.findIn K (.ref C) "__ne__") (some (some (.builtin "object.__ne__"))) && decide (PySem.W.mroIn K C (.type "object") = some true)))
    | _, _ => false) &&
  ((L.ek.all fun p => match L.clA K p.1, kdVal L K p.2 with
    | some C, some t => PySem.W.notFirst K C t
    | _, _ => false) &&
  ((L.op.all (opB L K) && (L.ng.all (ngB L K) && L.mt.all (mtB L K))) &&
  (bO (PySem.W.nsIn K cStatics "thirdparty.any") (some none) && bO (PySem.W.nsIn K mainGlobals "super") (some none)))))))))))))
abbrev AlV : Type := Bool × List FnU × List FnU
def obsV (n : Nat) (file : Str) (g : Addr → Option Obj) : AlV :=
  (chk L file (He.frT g (reachN g n)) && He.tabsB g (L.tf.map fun p => (p.1, none)) (He.frT g (reachN g n)), L.ds.map fun d => fnU (He.frT g (reachN g n)) d.at_, L.ex.map fun x => fnU (He.frT g (reachN g n)) x.d.at_)
def valV : AlV := (true, L.ds.map fun d => valU d [], L.ex.map fun x => valU x.d ["__class__"])
/-- what is told -/
structure SaysV (file : Str) (h : Heap) (K : PySem.W.Frag) : Prop where
  ok : chk L file K = true
  fns : (L.ds.map fun d => fnU K d.at_) = L.ds.map fun d => valU d []
  exs : (L.ex.map fun x => fnU K x.d.at_) = L.ex.map fun x => valU x.d ["__class__"]
  hd : ∀ p ∈ L.tf, PySem.W.codeHdIn K (He.cT K (p.1, none)).1 (He.cT K (p.1, none)).2 = true
  out : ∀ p ∈ L.tf, K.lookup (He.cT K (p.1, none)).2 = none
  empty : ∀ p ∈ L.tf, h.get? (He.cT K (p.1, none)).2 = some { cls := .none, data := .fields #[] }
theorem saysV_of {n : Nat} {file : Str} {h : Heap} (e : obsV L n file h.get? = valV L) : SaysV L file h (He.frT h.get? (reachN h.get? n)) := by
  have e1 : (chk L file (He.frT h.get? (reachN h.get? n)) && He.tabsB h.get? (L.tf.map fun p => (p.1, none)) (He.frT h.get? (reachN h.get? n))) = true := congrArg (fun z : AlV => z.1) e
  obtain ⟨h1, h2⟩ := Bool.and_eq_true_iff.mp e1
  have key : ∀ p ∈ L.tf, PySem.W.codeHdIn (He.frT h.get? (reachN h.get? n)) (He.cT (He.frT h.get? (reachN h.get? n)) (p.1, none)).1 (He.cT (He.frT h.get? (reachN h.get? n)) (p.1, none)).2 = true ∧
      ∃ o, h.get? (He.cT (He.frT h.get? (reachN h.get? n)) (p.1, none)).2 = some o ∧ He.emptyTab o = true := fun p hp => by
    obtain ⟨h3, h4⟩ := Bool.and_eq_true_iff.mp (List.all_eq_true.mp h2 (p.1, none) (List.mem_map.mpr ⟨p, hp, rfl⟩))
    refine ⟨h3, ?_⟩
    split at h4
    · rename_i o ho
      exact ⟨o, ho, h4⟩
    · cases h4
  refine ⟨h1, congrArg (fun z : AlV => z.2.1) e, congrArg (fun z : AlV => z.2.2) e, fun p hp => (key p hp).1, fun p hp => ?_, fun p hp => ?_⟩
  · obtain ⟨_, o, q, z⟩ := key p hp
    exact He.frT_none q z
  · obtain ⟨_, o, q, z⟩ := key p hp
    rw [q, He.emptyTab_eq z]
def hookV (n : Nat) (file : Str) : PySem.W.Hook where
  α := AlV
  obs := fun s => obsV L n file s.heap.get?
  val := fun _ => valV L
  says := fun _ h => ∃ K : PySem.W.Frag, K.In h ∧ SaysV L file h K
  of := fun _ _ e => ⟨_, He.frT_in, saysV_of L e⟩
  keeps := fun _ _ _ ⟨K, hK, c⟩ k => ⟨K, PySem.W.Frag.In.keeps hK k, ⟨c.ok, c.fns, c.exs, c.hd, c.out, fun p hp => k _ _ (c.empty p hp)⟩⟩
theorem obsV_eq {n : Nat} {file : Str} {g : Addr → Option Obj} {s : Shared} (h : ∀ a, g a = s.heap.get? a) : obsV L n file g = (hookV L n file).obs s := by
  rw [show g = s.heap.get? from funext h] <;> rfl
end
end Ev
set_option Elab.async false
set_option linter.all false
set_option maxRecDepth 100000
set_option maxHeartbeats 1000000
namespace Ev
open PySem PySem.Spec PyProof.Rows L2
/-! ### the head's facts in parts: each its own kernel run -/
section
variable (L : Tabs)
def chkA (K : PySem.W.Frag) : Bool := (L.ex.all fun x => x.d.ok K) && ((L.gk.all (gkB L K)) && (L.fr.all fun x => bO (PySem.W.nsIn K mainGlobals x) (some none)))
def chkB (K : PySem.W.Frag) : Bool := L.ds.all fun d => d.ok K
def chkC (file : Str) (K : PySem.W.Frag) : Bool :=
  ((L.ini.all fun p => match L.cl[p.1]?, L.ds[p.2]? with
    | some nm, some d => PySem.W.makesIn K (He.ga K nm) && (bO (PySem.W.findIn K (.ref (He.ga K nm)) "__init__") (some (some (.ref (He.fAd K d.at_)))) && (PySem.W.isFn K (.ref (He.fAd K d.at_)) && PySem.W.keepIn K (.ref (He.ga K nm))))
    | _, _ => false) &&
  ((L.ao.all fun p => match L.cl[p.1]?, L.at_[p.2]? with
    | some nm, some a => clsB K (He.ga K nm) && bO (PySem.W.findIn K (.ref (He.ga K nm)) a) (some none)
    | _, _ => false) &&
  ((L.io.all fun p => match kdVal L K p.1.1, ckVal L K p.1.2 with
    | some t, some u => decide (PySem.W.kitOne K t u = some p.2) && (match p.1.1 with
      | .cls c => (match L.cl[c]? with
        | some nm => insB K (He.ga K nm)
        | none => false)
      | _ => true)
    | _, _ => false) &&
  ((L.ex.all (exB L file K)) &&
  ((L.xm.all fun p => match L.clA K p.1.1, L.clA K p.1.2 with
    | some C, some D => decide (PySem.W.exmOne K (.ref C) (.ref D) = some p.2)
    | _, _ => false) &&
  ((L.eq.all fun p => match L.clA K p.1, L.fnA K p.2 with
    | some C, some f => bO (PySem.W.findIn K (.ref C) "__eq__") (some (some (.ref f))) && (PySem.W.isFn K (.ref f) && (bO (PySem.W.findIn K (.ref C) "__ne__") (some (some (.builtin "object.__ne__"))) && decide (PySem.W.mroIn K C (.type "object") = some true)))
    | _, _ => false) &&
  ((L.ek.all fun p => match L.clA K p.1, kdVal L K p.2 with
    | some C, some t => PySem.W.notFirst K C t
    | _, _ => false) &&
  ((L.op.all (opB L K) && (L.ng.all (ngB L K) && L.mt.all (mtB L K))) &&
  (bO (PySem.W.nsIn K cStatics "thirdparty.any") (some none) && bO (PySem.W.nsIn K mainGlobals "super") (some none))))))))))
theorem chk_split {file : Str} {K : PySem.W.Frag} : chk L file K = (chkA L K && (chkB L K && chkC L file K)) := by
  unfold chk chkA chkB chkC
  simp only [Bool.and_assoc] <;> rfl
end
theorem map3 {α β γ δ : Type} {o : Option α} {f : α → β} {g : α → γ} {h : α → δ} {x : β} {y : γ} {z : δ} (h1 : o.map f = some x) (h2 : o.map g = some y) (h3 : o.map h = some z) : o.map (fun a => (f a, g a, h a)) = some (x, y, z) := by
  cases o with
  | none => cases h1
  | some a => cases h1; cases h2; cases h3; rfl
section
variable (L : Tabs)
/-- the hook over a told list of addresses -/
def obsL (as : List Addr) (file : Str) (g : Addr → Option Obj) : AlV :=
  (chk L file (He.frT g as) && He.tabsB g (L.tf.map fun p => (p.1, none)) (He.frT g as), L.ds.map fun d => fnU (He.frT g as) d.at_, L.ex.map fun x => fnU (He.frT g as) x.d.at_)
theorem saysL_of {as : List Addr} {file : Str} {h : Heap} (e : obsL L as file h.get? = valV L) : SaysV L file h (He.frT h.get? as) := by
  have e1 : (chk L file (He.frT h.get? as) && He.tabsB h.get? (L.tf.map fun p => (p.1, none)) (He.frT h.get? as)) = true := congrArg (fun z : AlV => z.1) e
  obtain ⟨h1, h2⟩ := Bool.and_eq_true_iff.mp e1
  have key : ∀ p ∈ L.tf, PySem.W.codeHdIn (He.frT h.get? as) (He.cT (He.frT h.get? as) (p.1, none)).1 (He.cT (He.frT h.get? as) (p.1, none)).2 = true ∧
      ∃ o, h.get? (He.cT (He.frT h.get? as) (p.1, none)).2 = some o ∧ He.emptyTab o = true := fun p hp => by
    obtain ⟨h3, h4⟩ := Bool.and_eq_true_iff.mp (List.all_eq_true.mp h2 (p.1, none) (List.mem_map.mpr ⟨p, hp, rfl⟩))
    refine ⟨h3, ?_⟩
    split at h4
    · rename_i o ho
      exact ⟨o, ho, h4⟩
    · cases h4
  refine ⟨h1, congrArg (fun z : AlV => z.2.1) e, congrArg (fun z : AlV => z.2.2) e, fun p hp => (key p hp).1, fun p hp => ?_, fun p hp => ?_⟩
  · obtain ⟨_, o, q, z⟩ := key p hp
    exact He.frT_none q z
  · obtain ⟨_, o, q, z⟩ := key p hp
    rw [q, He.emptyTab_eq z]
def hookL (as : List Addr) (file : Str) : PySem.W.Hook where
  α := AlV
  obs := fun s => obsL L as file s.heap.get?
  val := fun _ => valV L
  says := fun _ h => ∃ K : PySem.W.Frag, K.In h ∧ SaysV L file h K
  of := fun _ _ e => ⟨_, He.frT_in, saysL_of L e⟩
  keeps := fun _ _ _ ⟨K, hK, c⟩ k => ⟨K, PySem.W.Frag.In.keeps hK k, ⟨c.ok, c.fns, c.exs, c.hd, c.out, fun p hp => k _ _ (c.empty p hp)⟩⟩
theorem obsL_eq {as : List Addr} {file : Str} {g : Addr → Option Obj} {s : Shared} (h : ∀ a, g a = s.heap.get? a) : obsL L as file g = (hookL L as file).obs s := by
  rw [show g = s.heap.get? from funext h] <;> rfl
end
section
open HandSHeadRun PySem.W PySem.Calls
def P1 (r : OpenRow) (M : Nat) (w : World) : Prop := (wholeF (fun p => stepQ (denQ tabQ) p w) fenceQ M r.prog).map (fun x => looksF r.prog x.1.heap x.2.abs) = some true
def P2 (r : OpenRow) (q : Program) (M : Nat) (loose : List PySem.Str) (w : World) : Prop := (wholeF (fun p => stepQ (denQ tabQ) p w) fenceQ M r.prog).map (fun x => seenQ q loose (importedModules r.prog.main.body) (fun s => xlAt q [] s && recOk r.toRowW.records s) x.2.abs) = some (openGood q loose)
def PkA (L : Tabs) (as : List Addr) (r : OpenRow) (M : Nat) (w : World) : Prop := (wholeF (fun p => stepQ (denQ tabQ) p w) fenceQ M r.prog).map (fun x => chkA L (He.frT (getT x.2) as)) = some true
def PkB (L : Tabs) (as : List Addr) (r : OpenRow) (M : Nat) (w : World) : Prop := (wholeF (fun p => stepQ (denQ tabQ) p w) fenceQ M r.prog).map (fun x => chkB L (He.frT (getT x.2) as)) = some true
def PkC (L : Tabs) (as : List Addr) (file : Str) (r : OpenRow) (M : Nat) (w : World) : Prop := (wholeF (fun p => stepQ (denQ tabQ) p w) fenceQ M r.prog).map (fun x => chkC L file (He.frT (getT x.2) as) && He.tabsB (getT x.2) (L.tf.map fun p => (p.1, none)) (He.frT (getT x.2) as)) = some true
def PkD (L : Tabs) (as : List Addr) (r : OpenRow) (M : Nat) (w : World) : Prop := (wholeF (fun p => stepQ (denQ tabQ) p w) fenceQ M r.prog).map (fun x => (L.ds.map fun d => fnU (He.frT (getT x.2) as) d.at_, L.ex.map fun y => fnU (He.frT (getT x.2) as) y.d.at_)) = some (L.ds.map fun d => valU d [], L.ex.map fun x => valU x.d ["__class__"])
theorem run_of {L : Tabs} {as : List Addr} {file : Str} {r : OpenRow} {q : Program} {M : Nat} {loose : List PySem.Str} {w : World} (h1 : P1 r M w) (h2 : P2 r q M loose w) (hA : PkA L as r M w) (hB : PkB L as r M w) (hC : PkC L as file r M w) (hD : PkD L as r M w) :
    RunEqI r q (hookL L as file) (fun s => obsL L as file (getT s)) M loose w := by
  delta RunEqI
  refine map3 h1 h2 ?_
  unfold PkA PkB PkC PkD at *
  revert hA hB hC hD
  generalize wholeF (fun p => stepQ (denQ tabQ) p w) fenceQ M r.prog = o
  intro hA hB hC hD
  cases o with
  | none => cases hA
  | some a =>
    simp only [Option.map_some, Option.some.injEq] at hA hB hC hD
    show some (obsL L as file (getT a.2)) = some (valV L)
    refine congrArg some ?_
    unfold obsL valV
    rw [chk_split, hA, hB, Bool.true_and, Bool.true_and]
    exact Prod.ext hC hD
end
end Ev
set_option Elab.async false
set_option linter.all false
set_option maxRecDepth 100000
set_option maxHeartbeats 0
namespace K34
open PySem PySem.Spec PyProof.Rows L2 Ev
abbrev prg : Program := PySem.Challenge.rw_chordsums_k34_whole_points_ahead_and_bef.prog
def top (i : Nat) : Stmt := prg.main.body.getD i (.Pass ⟨0, 0, 0, 0⟩)
abbrev s0 : Stmt := top 9
def d0 : He.DefD := ⟨("is_integer", none), "is_integer", "is_integer", defArgs s0, defBody s0, defScope s0, [], []⟩
def f0 : Fd := ⟨["value"], defScope s0, defBody s0, false, 5, none, []⟩
abbrev s1 : Stmt := top 10
def d1 : He.DefD := ⟨("is_row", none), "is_row", "is_row", defArgs s1, defBody s1, defScope s1, [], []⟩
def f1 : Fd := ⟨["value"], defScope s1, defBody s1, false, 5, none, []⟩
abbrev s2 : Stmt := inClass (top 12) 0
def d2 : He.DefD := ⟨("Ratio", some "__init__"), "__init__", "Ratio.__init__", defArgs s2, defBody s2, defScope s2, [.int 1], []⟩
def f2 : Fd := ⟨["self", "top", "bottom", "shared"], defScope s2, defBody s2, false, 5, none, []⟩
abbrev s3 : Stmt := inClass (top 12) 1
def d3 : He.DefD := ⟨("Ratio", some "__eq__"), "__eq__", "Ratio.__eq__", defArgs s3, defBody s3, defScope s3, [], []⟩
def f3 : Fd := ⟨["self", "other"], defScope s3, defBody s3, false, 5, none, []⟩
abbrev s4 : Stmt := inClass (top 12) 3
def d4 : He.DefD := ⟨("Ratio", some "__neg__"), "__neg__", "Ratio.__neg__", defArgs s4, defBody s4, defScope s4, [], []⟩
def f4 : Fd := ⟨["self"], defScope s4, defBody s4, false, 5, none, []⟩
abbrev s5 : Stmt := inClass (top 12) 4
def d5 : He.DefD := ⟨("Ratio", some "__add__"), "__add__", "Ratio.__add__", defArgs s5, defBody s5, defScope s5, [], []⟩
def f5 : Fd := ⟨["self", "other"], defScope s5, defBody s5, false, 5, none, []⟩
abbrev s6 : Stmt := inClass (top 12) 6
def d6 : He.DefD := ⟨("Ratio", some "__sub__"), "__sub__", "Ratio.__sub__", defArgs s6, defBody s6, defScope s6, [], []⟩
def f6 : Fd := ⟨["self", "other"], defScope s6, defBody s6, false, 5, none, []⟩
abbrev s7 : Stmt := inClass (top 12) 8
def d7 : He.DefD := ⟨("Ratio", some "__mul__"), "__mul__", "Ratio.__mul__", defArgs s7, defBody s7, defScope s7, [], []⟩
def f7 : Fd := ⟨["self", "other"], defScope s7, defBody s7, false, 5, none, []⟩
abbrev s8 : Stmt := inClass (top 12) 12
def d8 : He.DefD := ⟨("Ratio", some "over"), "over", "Ratio.over", defArgs s8, defBody s8, defScope s8, [], []⟩
def f8 : Fd := ⟨["self", "other"], defScope s8, defBody s8, false, 5, none, []⟩
abbrev s9 : Stmt := top 13
def d9 : He.DefD := ⟨("is_number", none), "is_number", "is_number", defArgs s9, defBody s9, defScope s9, [], []⟩
def f9 : Fd := ⟨["value"], defScope s9, defBody s9, false, 5, none, []⟩
abbrev s10 : Stmt := top 14
def d10 : He.DefD := ⟨("plain_ratio", none), "plain_ratio", "plain_ratio", defArgs s10, defBody s10, defScope s10, [], []⟩
def f10 : Fd := ⟨["value"], defScope s10, defBody s10, false, 5, none, []⟩
abbrev s11 : Stmt := top 15
def d11 : He.DefD := ⟨("shared_bottom", none), "shared_bottom", "shared_bottom", defArgs s11, defBody s11, defScope s11, [], []⟩
def f11 : Fd := ⟨["ratios", "found", "item"], defScope s11, defBody s11, false, 5, none, []⟩
abbrev s12 : Stmt := top 16
def d12 : He.DefD := ⟨("root_of_ratio", none), "root_of_ratio", "root_of_ratio", defArgs s12, defBody s12, defScope s12, [], []⟩
def f12 : Fd := ⟨["ratio", "top", "bottom"], defScope s12, defBody s12, false, 5, none, []⟩
abbrev s13 : Stmt := inClass (top 18) 0
def d13 : He.DefD := ⟨("Curve", some "__init__"), "__init__", "Curve.__init__", defArgs s13, defBody s13, defScope s13, [], []⟩
def f13 : Fd := ⟨["self", "numbers", "item"], defScope s13, defBody s13, false, 5, none, []⟩
abbrev s14 : Stmt := inClass (top 18) 1
def d14 : He.DefD := ⟨("Curve", some "__eq__"), "__eq__", "Curve.__eq__", defArgs s14, defBody s14, defScope s14, [], []⟩
def f14 : Fd := ⟨["self", "other"], defScope s14, defBody s14, false, 5, none, []⟩
abbrev s15 : Stmt := top 19
def d15 : He.DefD := ⟨("b_numbers", none), "b_numbers", "b_numbers", defArgs s15, defBody s15, defScope s15, [], []⟩
def f15 : Fd := ⟨["numbers", "a1", "a2", "a3", "a4", "a6", "b8"], defScope s15, defBody s15, false, 5, none, []⟩
abbrev s16 : Stmt := top 20
def d16 : He.DefD := ⟨("c_numbers", none), "c_numbers", "c_numbers", defArgs s16, defBody s16, defScope s16, [], []⟩
def f16 : Fd := ⟨["b", "b2", "b4", "b6", "b8"], defScope s16, defBody s16, false, 5, none, []⟩
abbrev s17 : Stmt := top 21
def d17 : He.DefD := ⟨("discriminant_of", none), "discriminant_of", "discriminant_of", defArgs s17, defBody s17, defScope s17, [], []⟩
def f17 : Fd := ⟨["b", "b2", "b4", "b6", "b8"], defScope s17, defBody s17, false, 5, none, []⟩
abbrev s18 : Stmt := top 23
def d18 : He.DefD := ⟨("square_root_of", none), "square_root_of", "square_root_of", defArgs s18, defBody s18, defScope s18, [], []⟩
def f18 : Fd := ⟨["n", "root"], defScope s18, defBody s18, false, 5, none, []⟩
abbrev s19 : Stmt := top 25
def d19 : He.DefD := ⟨("is_form", none), "is_form", "is_form", defArgs s19, defBody s19, defScope s19, [], []⟩
def f19 : Fd := ⟨["value", "item"], defScope s19, defBody s19, false, 5, none, []⟩
abbrev s20 : Stmt := top 26
def d20 : He.DefD := ⟨("need_form", none), "need_form", "need_form", defArgs s20, defBody s20, defScope s20, [], []⟩
def f20 : Fd := ⟨["value"], defScope s20, defBody s20, false, 5, none, []⟩
abbrev s21 : Stmt := top 27
def d21 : He.DefD := ⟨("curve_of_form", none), "curve_of_form", "curve_of_form", defArgs s21, defBody s21, defScope s21, [], []⟩
def f21 : Fd := ⟨["form"], defScope s21, defBody s21, false, 5, none, []⟩
abbrev s22 : Stmt := top 29
def d22 : He.DefD := ⟨("lies_on", none), "lies_on", "lies_on", defArgs s22, defBody s22, defScope s22, [], []⟩
def f22 : Fd := ⟨["curve", "x", "y", "a1", "a2", "a3", "a4", "a6"], defScope s22, defBody s22, false, 5, none, []⟩
abbrev s23 : Stmt := top 30
def d23 : He.DefD := ⟨("pair_of", none), "pair_of", "pair_of", defArgs s23, defBody s23, defScope s23, [], []⟩
def f23 : Fd := ⟨["value", "item"], defScope s23, defBody s23, false, 5, none, []⟩
abbrev s24 : Stmt := top 31
def d24 : He.DefD := ⟨("need_point", none), "need_point", "need_point", defArgs s24, defBody s24, defScope s24, [], []⟩
def f24 : Fd := ⟨["curve", "value", "pair"], defScope s24, defBody s24, false, 5, none, []⟩
abbrev s25 : Stmt := top 32
def d25 : He.DefD := ⟨("ascending", none), "ascending", "ascending", defArgs s25, defBody s25, defScope s25, [], []⟩
def f25 : Fd := ⟨["points", "some", "point", "whole", "item", "rows", "k", "x", "y", "row"], defScope s25, defBody s25, false, 5, none, []⟩
abbrev s26 : Stmt := top 34
def d26 : He.DefD := ⟨("is_first", none), "is_first", "is_first", defArgs s26, defBody s26, defScope s26, [], []⟩
def f26 : Fd := ⟨["point"], defScope s26, defBody s26, false, 5, none, []⟩
abbrev s27 : Stmt := top 35
def d27 : He.DefD := ⟨("partner_of", none), "partner_of", "partner_of", defArgs s27, defBody s27, defScope s27, [], []⟩
def f27 : Fd := ⟨["form", "a", "b"], defScope s27, defBody s27, false, 5, none, []⟩
abbrev s28 : Stmt := top 36
def d28 : He.DefD := ⟨("there_of", none), "there_of", "there_of", defArgs s28, defBody s28, defScope s28, [], []⟩
def f28 : Fd := ⟨["form", "point", "x", "y", "square"], defScope s28, defBody s28, false, 5, none, []⟩
abbrev s29 : Stmt := top 37
def d29 : He.DefD := ⟨("there", none), "there", "there", defArgs s29, defBody s29, defScope s29, [], []⟩
def f29 : Fd := ⟨["form", "point"], defScope s29, defBody s29, false, 5, none, []⟩
abbrev s30 : Stmt := top 38
def d30 : He.DefD := ⟨("back_of", none), "back_of", "back_of", defArgs s30, defBody s30, defScope s30, [], []⟩
def f30 : Fd := ⟨["form", "point", "x", "y", "square"], defScope s30, defBody s30, false, 5, none, []⟩
abbrev s31 : Stmt := top 39
def d31 : He.DefD := ⟨("back", none), "back", "back", defArgs s31, defBody s31, defScope s31, [], []⟩
def f31 : Fd := ⟨["form", "point"], defScope s31, defBody s31, false, 5, none, []⟩
abbrev s32 : Stmt := top 40
def d32 : He.DefD := ⟨("ahead_of", none), "ahead_of", "ahead_of", defArgs s32, defBody s32, defScope s32, [], []⟩
def f32 : Fd := ⟨["form", "point", "a", "b", "root", "x", "y", "middle", "part", "one", "other"], defScope s32, defBody s32, false, 5, none, []⟩
abbrev s33 : Stmt := top 41
def d33 : He.DefD := ⟨("ahead", none), "ahead", "ahead", defArgs s33, defBody s33, defScope s33, [], []⟩
def f33 : Fd := ⟨["form", "point"], defScope s33, defBody s33, false, 5, none, []⟩
abbrev s34 : Stmt := top 42
def d34 : He.DefD := ⟨("before_of", none), "before_of", "before_of", defArgs s34, defBody s34, defScope s34, [], []⟩
def f34 : Fd := ⟨["form", "point", "a", "b", "root", "x", "y", "middle", "part", "one", "other"], defScope s34, defBody s34, false, 5, none, []⟩
abbrev s35 : Stmt := top 43
def d35 : He.DefD := ⟨("before", none), "before", "before", defArgs s35, defBody s35, defScope s35, [], []⟩
def f35 : Fd := ⟨["form", "point"], defScope s35, defBody s35, false, 5, none, []⟩
abbrev s36 : Stmt := top 45
def d36 : He.DefD := ⟨("_law_pen", none), "_law_pen", "_law_pen", defArgs s36, defBody s36, defScope s36, [], []⟩
def f36 : Fd := ⟨["script", "fold", "cell"], defScope s36, defBody s36, false, 5, none, []⟩
abbrev s37 : Stmt := top 46
def d37 : He.DefD := ⟨("_law_draw", none), "_law_draw", "_law_draw", defArgs s37, defBody s37, defScope s37, [], []⟩
def f37 : Fd := ⟨["pen", "many", "cell", "digit", "mixed"], defScope s37, defBody s37, false, 5, none, ["pen"]⟩
abbrev s38 : Stmt := top 47
def d38 : He.DefD := ⟨("_law_pick", none), "_law_pick", "_law_pick", defArgs s38, defBody s38, defScope s38, [], []⟩
def f38 : Fd := ⟨["pen", "some"], defScope s38, defBody s38, false, 5, none, []⟩
abbrev s39 : Stmt := top 48
def d39 : He.DefD := ⟨("_law_listed", none), "_law_listed", "_law_listed", defArgs s39, defBody s39, defScope s39, [], []⟩
def f39 : Fd := ⟨["pen", "row"], defScope s39, defBody s39, false, 5, none, []⟩
abbrev s40 : Stmt := top 49
def d40 : He.DefD := ⟨("_law_int", none), "_law_int", "_law_int", defArgs s40, defBody s40, defScope s40, [], []⟩
def f40 : Fd := ⟨["pen", "most"], defScope s40, defBody s40, false, 5, none, []⟩
abbrev s41 : Stmt := top 50
def d41 : He.DefD := ⟨("_law_gcd", none), "_law_gcd", "_law_gcd", defArgs s41, defBody s41, defScope s41, [], []⟩
def f41 : Fd := ⟨["a", "b"], defScope s41, defBody s41, false, 5, none, []⟩
abbrev s42 : Stmt := top 51
def d42 : He.DefD := ⟨("_law_isqrt", none), "_law_isqrt", "_law_isqrt", defArgs s42, defBody s42, defScope s42, [], []⟩
def f42 : Fd := ⟨["n", "here", "then"], defScope s42, defBody s42, false, 5, none, []⟩
abbrev s43 : Stmt := top 52
def d43 : He.DefD := ⟨("_law_root", none), "_law_root", "_law_root", defArgs s43, defBody s43, defScope s43, [], []⟩
def f43 : Fd := ⟨["n"], defScope s43, defBody s43, false, 5, none, []⟩
abbrev s44 : Stmt := top 53
def d44 : He.DefD := ⟨("_law_q", none), "_law_q", "_law_q", defArgs s44, defBody s44, defScope s44, [.int 1], []⟩
def f44 : Fd := ⟨["top", "bottom", "both"], defScope s44, defBody s44, false, 5, none, []⟩
abbrev s45 : Stmt := top 54
def d45 : He.DefD := ⟨("_law_q_add", none), "_law_q_add", "_law_q_add", defArgs s45, defBody s45, defScope s45, [], []⟩
def f45 : Fd := ⟨["a", "b"], defScope s45, defBody s45, false, 5, none, []⟩
abbrev s46 : Stmt := top 55
def d46 : He.DefD := ⟨("_law_q_neg", none), "_law_q_neg", "_law_q_neg", defArgs s46, defBody s46, defScope s46, [], []⟩
def f46 : Fd := ⟨["a"], defScope s46, defBody s46, false, 5, none, []⟩
abbrev s47 : Stmt := top 56
def d47 : He.DefD := ⟨("_law_q_sub", none), "_law_q_sub", "_law_q_sub", defArgs s47, defBody s47, defScope s47, [], []⟩
def f47 : Fd := ⟨["a", "b"], defScope s47, defBody s47, false, 5, none, []⟩
abbrev s48 : Stmt := top 57
def d48 : He.DefD := ⟨("_law_q_mul", none), "_law_q_mul", "_law_q_mul", defArgs s48, defBody s48, defScope s48, [], []⟩
def f48 : Fd := ⟨["a", "b"], defScope s48, defBody s48, false, 5, none, []⟩
abbrev s49 : Stmt := top 58
def d49 : He.DefD := ⟨("_law_q_over", none), "_law_q_over", "_law_q_over", defArgs s49, defBody s49, defScope s49, [], []⟩
def f49 : Fd := ⟨["a", "b"], defScope s49, defBody s49, false, 5, none, []⟩
abbrev s50 : Stmt := top 59
def d50 : He.DefD := ⟨("_law_q_less", none), "_law_q_less", "_law_q_less", defArgs s50, defBody s50, defScope s50, [], []⟩
def f50 : Fd := ⟨["a", "b"], defScope s50, defBody s50, false, 5, none, []⟩
abbrev s51 : Stmt := top 60
def d51 : He.DefD := ⟨("_law_q_root", none), "_law_q_root", "_law_q_root", defArgs s51, defBody s51, defScope s51, [], []⟩
def f51 : Fd := ⟨["a", "top", "bottom"], defScope s51, defBody s51, false, 5, none, []⟩
abbrev s52 : Stmt := top 61
def d52 : He.DefD := ⟨("_law_q_of", none), "_law_q_of", "_law_q_of", defArgs s52, defBody s52, defScope s52, [], []⟩
def f52 : Fd := ⟨["number"], defScope s52, defBody s52, false, 5, none, []⟩
abbrev s53 : Stmt := top 62
def d53 : He.DefD := ⟨("_law_q_sum", none), "_law_q_sum", "_law_q_sum", defArgs s53, defBody s53, defScope s53, [], []⟩
def f53 : Fd := ⟨["items", "found", "item"], defScope s53, defBody s53, false, 5, none, []⟩
abbrev s54 : Stmt := top 63
def d54 : He.DefD := ⟨("_law_lies", none), "_law_lies", "_law_lies", defArgs s54, defBody s54, defScope s54, [], []⟩
def f54 : Fd := ⟨["numbers", "point", "a1", "a2", "a3", "a4", "a6", "item", "x", "y", "left", "right"], defScope s54, defBody s54, false, 5, none, []⟩
abbrev s55 : Stmt := top 64
def d55 : He.DefD := ⟨("_law_opposite", none), "_law_opposite", "_law_opposite", defArgs s55, defBody s55, defScope s55, [], []⟩
def f55 : Fd := ⟨["numbers", "point"], defScope s55, defBody s55, false, 5, none, []⟩
abbrev s56 : Stmt := top 65
def d56 : He.DefD := ⟨("_law_sum", none), "_law_sum", "_law_sum", defArgs s56, defBody s56, defScope s56, [], []⟩
def f56 : Fd := ⟨["numbers", "one", "other", "a1", "a2", "a3", "a4", "a6", "item", "x", "y", "top", "slope", "at"], defScope s56, defBody s56, false, 5, none, []⟩
abbrev s57 : Stmt := top 66
def d57 : He.DefD := ⟨("_law_told", none), "_law_told", "_law_told", defArgs s57, defBody s57, defScope s57, [], []⟩
def f57 : Fd := ⟨["point"], defScope s57, defBody s57, false, 5, none, []⟩
abbrev s58 : Stmt := top 67
def d58 : He.DefD := ⟨("_law_is_told", none), "_law_is_told", "_law_is_told", defArgs s58, defBody s58, defScope s58, [], []⟩
def f58 : Fd := ⟨["point", "due"], defScope s58, defBody s58, false, 5, none, []⟩
abbrev s59 : Stmt := top 68
def d59 : He.DefD := ⟨("_law_in_order", none), "_law_in_order", "_law_in_order", defArgs s59, defBody s59, defScope s59, [], []⟩
def f59 : Fd := ⟨["points", "some", "point", "at", "one"], defScope s59, defBody s59, false, 5, none, []⟩
abbrev s60 : Stmt := top 69
def d60 : He.DefD := ⟨("_law_is_form", none), "_law_is_form", "_law_is_form", defArgs s60, defBody s60, defScope s60, [], []⟩
def f60 : Fd := ⟨["form"], defScope s60, defBody s60, false, 5, none, []⟩
abbrev s61 : Stmt := top 70
def d61 : He.DefD := ⟨("_law_form", none), "_law_form", "_law_form", defArgs s61, defBody s61, defScope s61, [], []⟩
def f61 : Fd := ⟨["pen", "most", "lap", "form"], defScope s61, defBody s61, false, 5, none, []⟩
abbrev s62 : Stmt := top 71
def d62 : He.DefD := ⟨("_law_form_points", none), "_law_form_points", "_law_form_points", defArgs s62, defBody s62, defScope s62, [], []⟩
def f62 : Fd := ⟨["form", "most", "found", "e", "m", "root", "x"], defScope s62, defBody s62, false, 5, none, ["found"]⟩
abbrev s63 : Stmt := top 72
def d63 : He.DefD := ⟨("_law_numbers_of", none), "_law_numbers_of", "_law_numbers_of", defArgs s63, defBody s63, defScope s63, [], []⟩
def f63 : Fd := ⟨["form"], defScope s63, defBody s63, false, 5, none, []⟩
abbrev s64 : Stmt := top 73
def d64 : He.DefD := ⟨("_law_there", none), "_law_there", "_law_there", defArgs s64, defBody s64, defScope s64, [], []⟩
def f64 : Fd := ⟨["form", "point", "square"], defScope s64, defBody s64, false, 5, none, []⟩
abbrev s65 : Stmt := top 74
def d65 : He.DefD := ⟨("_law_back", none), "_law_back", "_law_back", defArgs s65, defBody s65, defScope s65, [], []⟩
def f65 : Fd := ⟨["form", "point", "square", "last", "x"], defScope s65, defBody s65, false, 5, none, []⟩
abbrev s66 : Stmt := top 75
def d66 : He.DefD := ⟨("_law_ahead", none), "_law_ahead", "_law_ahead", defArgs s66, defBody s66, defScope s66, [], []⟩
def f66 : Fd := ⟨["form", "point", "a", "b", "root", "middle", "part", "one", "two", "twice"], defScope s66, defBody s66, false, 5, none, []⟩
abbrev s67 : Stmt := top 76
def d67 : He.DefD := ⟨("_law_before", none), "_law_before", "_law_before", defArgs s67, defBody s67, defScope s67, [], []⟩
def f67 : Fd := ⟨["form", "point", "a", "b", "root", "middle", "part", "one", "two"], defScope s67, defBody s67, false, 5, none, []⟩
abbrev s68 : Stmt := top 77
def d68 : He.DefD := ⟨("_law_complaint", none), "_law_complaint", "_law_complaint", defArgs s68, defBody s68, defScope s68, [], []⟩
def f68 : Fd := ⟨["call", "e"], defScope s68, defBody s68, false, 5, none, []⟩
abbrev s69 : Stmt := top 78
def d69 : He.DefD := ⟨("_law_point", none), "_law_point", "_law_point", defArgs s69, defBody s69, defScope s69, [], []⟩
def f69 : Fd := ⟨["point"], defScope s69, defBody s69, false, 5, none, []⟩
abbrev s70 : Stmt := top 79
def d70 : He.DefD := ⟨("_law_are_told", none), "_law_are_told", "_law_are_told", defArgs s70, defBody s70, defScope s70, [], []⟩
def f70 : Fd := ⟨["told", "due", "one", "here"], defScope s70, defBody s70, false, 5, none, []⟩
abbrev s71 : Stmt := top 80
def d71 : He.DefD := ⟨("law", none), "law", "law", defArgs s71, defBody s71, defScope s71, [], []⟩
def f71 : Fd := ⟨["script", "pen", "lap", "form", "other", "own", "led", "points", "one", "two", "far", "point", "due", "told", "here", "near", "odd"], defScope s71, defBody s71, false, 5, some 0, []⟩
abbrev x0 : Stmt := inClass (top 4) 0
def e0 : Xd := ⟨1, ⟨("BadNumber", some "__init__"), "__init__", "BadNumber.__init__", defArgs x0, defBody x0, defScope x0, [], []⟩, [0, 1]⟩
abbrev x1 : Stmt := inClass (top 5) 0
def e1 : Xd := ⟨2, ⟨("BadCurve", some "__init__"), "__init__", "BadCurve.__init__", defArgs x1, defBody x1, defScope x1, [], []⟩, [2]⟩
abbrev x2 : Stmt := inClass (top 6) 0
def e2 : Xd := ⟨3, ⟨("BadPoint", some "__init__"), "__init__", "BadPoint.__init__", defArgs x2, defBody x2, defScope x2, [], []⟩, [1]⟩
abbrev x3 : Stmt := inClass (top 7) 0
def e3 : Xd := ⟨4, ⟨("BadForm", some "__init__"), "__init__", "BadForm.__init__", defArgs x3, defBody x3, defScope x3, [], []⟩, [1]⟩
def tabs : Tabs where
  ds := d0 :: d1 :: d2 :: d3 :: d4 :: d5 :: d6 :: d7 :: d8 :: d9 :: d10 :: d11 :: d12 :: d13 :: d14 :: d15 :: d16 :: d17 :: d18 :: d19 :: d20 :: d21 :: d22 :: d23 :: d24 :: d25 :: d26 :: d27 :: d28 :: d29 :: d30 :: d31 :: d32 :: d33 :: d34 :: d35 :: d36 :: d37 :: d38 :: d39 :: d40 :: d41 :: d42 :: d43 :: d44 :: d45 :: d46 :: d47 :: d48 :: d49 :: d50 :: d51 :: d52 :: d53 :: d54 :: d55 :: d56 :: d57 :: d58 :: d59 :: d60 :: d61 :: d62 :: d63 :: d64 :: d65 :: d66 :: d67 :: d68 :: d69 :: d70 :: d71 :: []
  fd := f0 :: f1 :: f2 :: f3 :: f4 :: f5 :: f6 :: f7 :: f8 :: f9 :: f10 :: f11 :: f12 :: f13 :: f14 :: f15 :: f16 :: f17 :: f18 :: f19 :: f20 :: f21 :: f22 :: f23 :: f24 :: f25 :: f26 :: f27 :: f28 :: f29 :: f30 :: f31 :: f32 :: f33 :: f34 :: f35 :: f36 :: f37 :: f38 :: f39 :: f40 :: f41 :: f42 :: f43 :: f44 :: f45 :: f46 :: f47 :: f48 :: f49 :: f50 :: f51 :: f52 :: f53 :: f54 :: f55 :: f56 :: f57 :: f58 :: f59 :: f60 :: f61 :: f62 :: f63 :: f64 :: f65 :: f66 :: f67 :: f68 :: f69 :: f70 :: f71 :: []
  cl := ["ChordError", "BadNumber", "BadCurve", "BadPoint", "BadForm", "Ratio", "Curve"]
  at_ := ["what", "value", "why", "top", "bottom", "sign", "whole", "numbers", "b", "c", "discriminant"]
  tf := [("law", "law")]
  gk := ("is_integer", .fn 0) :: ("is_row", .fn 1) :: ("is_number", .fn 9) :: ("plain_ratio", .fn 10) :: ("shared_bottom", .fn 11) :: ("root_of_ratio", .fn 12) :: ("b_numbers", .fn 15) :: ("c_numbers", .fn 16) :: ("discriminant_of", .fn 17) :: ("square_root_of", .fn 18) :: ("is_form", .fn 19) :: ("need_form", .fn 20) :: ("curve_of_form", .fn 21) :: ("lies_on", .fn 22) :: ("pair_of", .fn 23) :: ("need_point", .fn 24) :: ("ascending", .fn 25) :: ("is_first", .fn 26) :: ("partner_of", .fn 27) :: ("there_of", .fn 28) :: ("there", .fn 29) :: ("back_of", .fn 30) :: ("back", .fn 31) :: ("ahead_of", .fn 32) :: ("ahead", .fn 33) :: ("before_of", .fn 34) :: ("before", .fn 35) :: ("_law_pen", .fn 36) :: ("_law_draw", .fn 37) :: ("_law_pick", .fn 38) :: ("_law_listed", .fn 39) :: ("_law_int", .fn 40) :: ("_law_gcd", .fn 41) :: ("_law_isqrt", .fn 42) :: ("_law_root", .fn 43) :: ("_law_q", .fn 44) :: ("_law_q_add", .fn 45) :: ("_law_q_neg", .fn 46) :: ("_law_q_sub", .fn 47) :: ("_law_q_mul", .fn 48) :: ("_law_q_over", .fn 49) :: ("_law_q_less", .fn 50) :: ("_law_q_root", .fn 51) :: ("_law_q_of", .fn 52) :: ("_law_q_sum", .fn 53) :: ("_law_lies", .fn 54) :: ("_law_opposite", .fn 55) :: ("_law_sum", .fn 56) :: ("_law_told", .fn 57) :: ("_law_is_told", .fn 58) :: ("_law_in_order", .fn 59) :: ("_law_is_form", .fn 60) :: ("_law_form", .fn 61) :: ("_law_form_points", .fn 62) :: ("_law_numbers_of", .fn 63) :: ("_law_there", .fn 64) :: ("_law_back", .fn 65) :: ("_law_ahead", .fn 66) :: ("_law_before", .fn 67) :: ("_law_complaint", .fn 68) :: ("_law_point", .fn 69) :: ("_law_are_told", .fn 70) :: ("law", .fn 71) :: ("ChordError", .cls 0) :: ("BadNumber", .cls 1) :: ("BadCurve", .cls 2) :: ("BadPoint", .cls 3) :: ("BadForm", .cls 4) :: ("Ratio", .cls 5) :: ("Curve", .cls 6) :: ("gcd", .bi "math.gcd") :: ("isqrt", .bi "math.isqrt") :: []
  fr := ["NotImplemented", "abs", "all", "bool", "enumerate", "int", "isinstance", "len", "list", "range", "repr", "sorted", "tuple", "zip"]
  ini := (5, 2) :: (6, 13) :: []
  ao := (5, 3) :: (5, 4) :: (5, 5) :: (5, 6) :: (6, 7) :: (6, 8) :: (6, 9) :: (6, 10) :: []
  io := ((.non, .own 5), false) :: ((.bl, .own 5), false) :: ((.int, .own 5), false) :: ((.str, .own 5), false) :: ((.tup, .own 5), false) :: ((.lst, .own 5), false) :: ((.dct, .own 5), false) :: ((.cls 5, .bl), false) :: ((.cls 5, .int), false) :: ((.cls 5, .str), false) :: ((.cls 5, .tup), false) :: ((.cls 5, .lst), false) :: ((.cls 5, .dct), false) :: ((.cls 5, .own 5), true) :: ((.cls 5, .own 6), false) :: ((.non, .own 6), false) :: ((.bl, .own 6), false) :: ((.int, .own 6), false) :: ((.str, .own 6), false) :: ((.tup, .own 6), false) :: ((.lst, .own 6), false) :: ((.dct, .own 6), false) :: ((.cls 6, .bl), false) :: ((.cls 6, .int), false) :: ((.cls 6, .str), false) :: ((.cls 6, .tup), false) :: ((.cls 6, .lst), false) :: ((.cls 6, .dct), false) :: ((.cls 6, .own 5), false) :: ((.cls 6, .own 6), true) :: []
  ex := e0 :: e1 :: e2 :: e3 :: []
  xm := ((1, 0), true) :: ((1, 1), true) :: ((1, 2), false) :: ((1, 3), false) :: ((1, 4), false) :: ((2, 0), true) :: ((2, 1), false) :: ((2, 2), true) :: ((2, 3), false) :: ((2, 4), false) :: ((3, 0), true) :: ((3, 1), false) :: ((3, 2), false) :: ((3, 3), true) :: ((3, 4), false) :: ((4, 0), true) :: ((4, 1), false) :: ((4, 2), false) :: ((4, 3), false) :: ((4, 4), true) :: []
  eq := (5, 3) :: (6, 14) :: []
  ek := (5, .non) :: (5, .bl) :: (5, .int) :: (5, .str) :: (5, .tup) :: (5, .lst) :: (5, .dct) :: (5, .cls 5) :: (5, .cls 6) :: (6, .non) :: (6, .bl) :: (6, .int) :: (6, .str) :: (6, .tup) :: (6, .lst) :: (6, .dct) :: (6, .cls 5) :: (6, .cls 6) :: []
  cmp := (68, ⟨"_law_complaint", "ok", [⟨3, some 1, .tp [.k (.str "point"), .rp 1]⟩], 2⟩) :: []
  dfl := ((0, 1), []) :: ((1, 1), []) :: ((2, 3), []) :: ((2, 2), [.int 1]) :: ((3, 2), []) :: ((4, 1), []) :: ((5, 2), []) :: ((6, 2), []) :: ((7, 2), []) :: ((8, 2), []) :: ((9, 1), []) :: ((10, 1), []) :: ((11, 1), []) :: ((12, 1), []) :: ((13, 2), []) :: ((14, 2), []) :: ((15, 1), []) :: ((16, 1), []) :: ((17, 1), []) :: ((18, 1), []) :: ((19, 1), []) :: ((20, 1), []) :: ((21, 1), []) :: ((22, 3), []) :: ((23, 1), []) :: ((24, 2), []) :: ((25, 1), []) :: ((26, 1), []) :: ((27, 1), []) :: ((28, 2), []) :: ((29, 2), []) :: ((30, 2), []) :: ((31, 2), []) :: ((32, 2), []) :: ((33, 2), []) :: ((34, 2), []) :: ((35, 2), []) :: ((36, 1), []) :: ((37, 2), []) :: ((38, 2), []) :: ((39, 2), []) :: ((40, 2), []) :: ((41, 2), []) :: ((42, 1), []) :: ((43, 1), []) :: ((44, 2), []) :: ((44, 1), [.int 1]) :: ((45, 2), []) :: ((46, 1), []) :: ((47, 2), []) :: ((48, 2), []) :: ((49, 2), []) :: ((50, 2), []) :: ((51, 1), []) :: ((52, 1), []) :: ((53, 1), []) :: ((54, 2), []) :: ((55, 2), []) :: ((56, 3), []) :: ((57, 1), []) :: ((58, 2), []) :: ((59, 1), []) :: ((60, 1), []) :: ((61, 2), []) :: ((62, 2), []) :: ((63, 1), []) :: ((64, 2), []) :: ((65, 2), []) :: ((66, 2), []) :: ((67, 2), []) :: ((68, 1), []) :: ((69, 1), []) :: ((70, 2), []) :: ((71, 1), []) :: []
  fuel := 10 ^ 3000
  op := ((5, .Add), 5) :: ((5, .Sub), 6) :: ((5, .Mult), 7) :: []
  ng := (5, 4) :: []
  mt := ((5, "over"), 8) :: []
def names0 : List Str := "gcd" :: "isqrt" :: "_wall" :: "__name__" :: "ChordError" :: "BadNumber" :: "BadCurve" :: "BadPoint" :: "BadForm" :: "is_integer" :: "is_row" :: "Ratio" :: "is_number" :: "plain_ratio" :: "shared_bottom" :: "root_of_ratio" :: "Curve" :: "b_numbers" :: "c_numbers" :: "discriminant_of" :: "square_root_of" :: "is_form" :: "need_form" :: "curve_of_form" :: "lies_on" :: "pair_of" :: "need_point" :: "ascending" :: "is_first" :: "partner_of" :: "there_of" :: "there" :: "back_of" :: "back" :: "ahead_of" :: []
def names1 : List Str := "ahead" :: "before_of" :: "before" :: "_law_pen" :: "_law_draw" :: "_law_pick" :: "_law_listed" :: "_law_int" :: "_law_gcd" :: "_law_isqrt" :: "_law_root" :: "_law_q" :: "_law_q_add" :: "_law_q_neg" :: "_law_q_sub" :: "_law_q_mul" :: "_law_q_over" :: "_law_q_less" :: "_law_q_root" :: "_law_q_of" :: "_law_q_sum" :: "_law_lies" :: "_law_opposite" :: "_law_sum" :: "_law_told" :: "_law_is_told" :: "_law_in_order" :: "_law_is_form" :: "_law_form" :: "_law_form_points" :: "_law_numbers_of" :: "_law_there" :: "_law_back" :: "_law_ahead" :: "_law_before" :: []
def names2 : List Str := "_law_complaint" :: "_law_point" :: "_law_are_told" :: []
def names : List Str := names0 ++ names1 ++ names2
-- law at 80, id 71, row chordsums_k34_whole_points_ahead_and_bef
abbrev G : Gm := tabs.gm
abbrev C (n : Nat) : Nat → Gb := callN G tabs.fds n
end K34
set_option Elab.async false
set_option linter.all false
set_option maxRecDepth 100000
set_option maxHeartbeats 0
namespace K34
open PySem PySem.Spec PyProof.Rows L2 Ev
abbrev R : PySem.W.OpenRow := PySem.W.OpenLaw.row PySem.Challenge.rw_chordsums_k34_whole_points_ahead_and_bef
def fileN : Str := prg.main.file
def asL : List Addr := [3, 2, 6, 4, 49, 59, 81, 102, 123, 144, 153, 160, 269, 280, 287, 294, 301, 323, 334, 341, 348, 355, 360, 367, 374, 381, 386, 393, 398, 405, 412, 419, 426, 433, 440, 447, 454, 461, 468, 475] ++ [482, 489, 496, 503, 510, 517, 524, 532, 539, 546, 553, 560, 567, 574, 581, 588, 595, 600, 607, 612, 619, 626, 631, 638, 645, 652, 659, 666, 673, 680, 687, 694, 701, 706, 711, 16, 20, 22, 27, 33] ++ [38, 0, 48, 58, 80, 101, 122, 143, 152, 159, 268, 279, 286, 293, 300, 322, 333, 340, 347, 354, 359, 366, 373, 380, 385, 392, 397, 404, 411, 418, 425, 432, 439, 446, 453, 460, 467, 474, 481, 488] ++ [495, 502, 509, 516, 523, 531, 525, 538, 545, 552, 559, 566, 573, 580, 587, 594, 599, 606, 611, 618, 625, 630, 637, 644, 651, 658, 665, 672, 679, 686, 693, 700, 705, 710, 15, 21, 26, 32, 43, 44] ++ [45, 46, 47, 57, 60, 78, 79, 99, 100, 120, 121, 141, 142, 147, 148, 149, 150, 151, 154, 155, 156, 157, 158, 175, 182, 189, 196, 203, 210, 217, 224, 231, 238, 245, 252, 259, 266, 267, 270, 271] ++ [274, 275, 276, 277, 278, 281, 282, 283, 284, 285, 288, 289, 290, 291, 292, 295, 296, 297, 298, 299, 313, 320, 321, 324, 325, 328, 329, 330, 331, 332, 335, 336, 337, 338, 339, 342, 343, 344, 345, 346] ++ [349, 350, 351, 352, 353, 356, 357, 358, 361, 362, 363, 364, 365, 368, 369, 370, 371, 372, 375, 376, 377, 378, 379, 382, 383, 384, 387, 388, 389, 390, 391, 394, 395, 396, 399, 400, 401, 402, 403, 406] ++ [407, 408, 409, 410, 413, 414, 415, 416, 417, 420, 421, 422, 423, 424, 427, 428, 429, 430, 431, 434, 435, 436, 437, 438, 441, 442, 443, 444, 445, 448, 449, 450, 451, 452, 455, 456, 457, 458, 459, 462] ++ [463, 464, 465, 466, 469, 470, 471, 472, 473, 476, 477, 478, 479, 480, 483, 484, 485, 486, 487, 490, 491, 492, 493, 494, 497, 498, 499, 500, 501, 504, 505, 506, 507, 508, 511, 512, 513, 514, 515, 518] ++ [519, 520, 521, 522, 526, 527, 528, 529, 530, 533, 534, 535, 536, 537, 540, 541, 542, 543, 544, 547, 548, 549, 550, 551, 554, 555, 556, 557, 558, 561, 562, 563, 564, 565, 568, 569, 570, 571, 572, 575] ++ [576, 577, 578, 579, 582, 583, 584, 585, 586, 589, 590, 591, 592, 593, 596, 597, 598, 601, 602, 603, 604, 605, 608, 609, 610, 613, 614, 615, 616, 617, 620, 621, 622, 623, 624, 627, 628, 629, 632, 633] ++ [634, 635, 636, 639, 640, 641, 642, 643, 646, 647, 648, 649, 650, 653, 654, 655, 656, 657, 660, 661, 662, 663, 664, 667, 668, 669, 670, 671, 674, 675, 676, 677, 678, 681, 682, 683, 684, 685, 688, 689] ++ [690, 691, 692, 695, 696, 697, 698, 699, 702, 703, 704, 707, 708, 709, 17, 18, 19, 23, 24, 25, 28, 34, 35, 36, 77, 66, 98, 87, 119, 108, 140, 129, 174, 168, 181, 188, 195, 202, 209, 216] ++ [223, 230, 237, 244, 251, 258, 265, 312, 319]
abbrev hk : PySem.W.Hook := hookL tabs asL fileN
def ob (s : PySem.W.SharedT) : AlV := obsL tabs asL fileN (HandSHeadRun.getT s)
theorem ob_eq (s : PySem.W.SharedT) : ob s = hk.obs s.abs := obsL_eq tabs (HandSHeadRun.getT_eq s)
theorem run1 (w : World) : P1 R 4500 w := by
  delta P1
  kernel_rfl
theorem run2 (w : World) : P2 R (PySem.W.view R.prog [0, 80]) 4500 names w := by
  delta P2
  kernel_rfl
theorem runA (w : World) : PkA tabs asL R 4500 w := by
  delta PkA
  kernel_rfl
theorem runB (w : World) : PkB tabs asL R 4500 w := by
  delta PkB
  kernel_rfl
theorem runC (w : World) : PkC tabs asL fileN R 4500 w := by
  delta PkC
  kernel_rfl
theorem runD (w : World) : PkD tabs asL R 4500 w := by
  delta PkD
  kernel_rfl
theorem run (w : World) : HandSHeadRun.RunEqI R (PySem.W.view R.prog [0, 80]) hk ob 4500 names w := run_of (run1 w) (run2 w) (runA w) (runB w) (runC w) (runD w)
end K34
set_option Elab.async false
set_option linter.all false
set_option maxRecDepth 100000
set_option maxHeartbeats 1000000
namespace Ev
open PySem PySem.Spec PyProof.Rows L2
/-! ### from what is told to the evaluator's facts -/
/-- the text of an exception's __init__, whatever heap -/
structure XOk (L : Tabs) (x : Xd) : Prop where
  ex : ∃ (ps xs : List Str), x.fl.map (fun i => L.at_[i]?) = xs.map some ∧ x.d.dfl = [] ∧ ∀ (P : Program) (w : World) (K : PySem.W.Frag) (mg : Str → Option Value) (base : Heap) (k : Nat) (f cda cc C : Addr) (oc kV doc pm ct : Value) (od an : Option Addr) (osl : Array (Option Value)), ExI P K mg C cc cda →
    K.lookup f = some ⟨oc, od, .func (PySem.W.fnX x.d.name x.d.qual x.d.params x.d.body x.d.scope [("__class__", cc)] .none kV doc pm an (.ref cda) ct), osl⟩ → PySem.W.codeIn K (.ref cda) x.d.qual = true → (∀ a ∈ xs, PySem.W.findIn K (.ref C) a = some none) →
    FnOk P w K mg base (L2.CX P w) k f (PySem.W.fnX x.d.name x.d.qual x.d.params x.d.body x.d.scope [("__class__", cc)] .none kV doc pm an (.ref cda) ct) ps (spEx C x.fl.length fun ws => (xs.zip ws).reverse) ∧
    Binds K (PySem.W.fnX x.d.name x.d.qual x.d.params x.d.body x.d.scope [("__class__", cc)] .none kV doc pm an (.ref cda) ct) ps []
/-- the text of a def -/
structure DOk (L : Tabs) (i : Nat) (f : Fd) : Prop where
  ex : ∃ (d : He.DefD) (ps : List Str), L.ds[i]? = some d ∧ f.body = d.body ∧ f.sc = d.scope ∧ d.kwd = [] ∧ FnScope f.N ps d.scope ∧ f.rm ≤ 6 ∧ (∀ j, f.lam = some j → ∃ x, L.tf[j]? = some (x, d.qual) ∧ d.at_ = (x, none)) ∧
    ∀ (K : PySem.W.Frag) (a : Addr) (fd : FuncData), FunD K d.name d.qual d.params d.body d.scope (d.dvs K) [] a fd → ∀ n dv, L.dfl.lookup (i, n) = some dv → n + dv.length = ps.length ∧ ∃ (dws : List V) (ds : List Value), (∀ T F, Rps T F dv dws) ∧ Vals dws ds ∧ Binds K fd ps ds
/-- the text of a complaint def -/
structure COk (L : Tabs) (i : Nat) (q : Cmp) : Prop where
  ex : ∃ (d : He.DefD) (a : Str) (jj k0 : Nat) (p1 p2 p3 p4 p5 p6 : Pos) (h0 : ExceptHandler) (hds : List ExceptHandler) (Ng : List Str), L.ds[i]? = some d ∧ d.name = q.x ∧ d.qual = q.x ∧ d.dfl = [] ∧ d.kwd = [] ∧ d.body = cmpBody q.ok a jj k0 p1 p2 p3 p4 p5 p6 (h0 :: hds) ∧ FnScope Ng [a] d.scope ∧ q.m = Ng.length ∧ nmPlain a = true ∧
    hcL L.gm { N := Ng, sc := d.scope, fn := fun _ => true, calm := true, rm := 0, lam := none, new := [] } (h0 :: hds) = some q.hs ∧ ∀ (K : PySem.W.Frag) (f : Addr) (fd : FuncData), FunD K d.name d.qual d.params d.body d.scope [] [] f fd → Binds K fd [a] []
section
variable {L : Tabs} {file : Str} {h : Heap} {K : PySem.W.Frag}
theorem mapEq_mem {α β : Type} {f g : α → β} : ∀ {l : List α}, l.map f = l.map g → ∀ x ∈ l, f x = g x
  | [], _, x, hx => by cases hx
  | a :: l, e, x, hx => by
    simp only [List.map_cons, List.cons.injEq] at e
    rcases List.mem_cons.mp hx with rfl | hx
    · exact e.1
    · exact mapEq_mem e.2 x hx
theorem fnU_at {p : Str × Option Str} {d : He.DefD} {cl : List Str} (e : fnU K p = valU d cl) : ∃ oc od fd osl, K.lookup (He.fAd K p) = some ⟨oc, od, .func fd, osl⟩ ∧ fd.name = d.name ∧ fd.qualname = d.qual ∧ fd.params = d.params ∧ fd.body = .stmts d.body ∧ fd.scope = d.scope ∧ fd.globals = mainGlobals ∧ fd.closure.map (·.1) = cl ∧ fd.builtins = builtinsNs := by
  unfold fnU valU at e
  split at e
  · rename_i oc od fd osl hl
    simp only [Option.some.injEq, Prod.mk.injEq] at e
    exact ⟨oc, od, fd, osl, hl, e.1, e.2.1, e.2.2.1, e.2.2.2.1, e.2.2.2.2.1, e.2.2.2.2.2.1, e.2.2.2.2.2.2.1, e.2.2.2.2.2.2.2⟩
  · cases e
theorem SaysV.fun_ (c : SaysV L file h K) {i : Nat} {d : He.DefD} (hd : L.ds[i]? = some d) : (∃ fd, FunD K d.name d.qual d.params d.body d.scope (d.dvs K) (d.kws K) (He.fAd K d.at_) fd) ∧ d.ok K = true := by
  have hm := List.mem_of_getElem? hd
  have hk : d.ok K = true := by
    have z := c.ok
    unfold chk at z
    simp only [Bool.and_eq_true, List.all_eq_true] at z
    exact z.2.2.2.1 d hm
  refine ⟨He.DefD.funD ?_ hk, hk⟩
  obtain ⟨oc, od, fd, osl, hl, e1, e2, e3, e4, e5, e6, e7, e8⟩ := fnU_at (mapEq_mem c.fns d hm)
  have e7 : fd.closure = [] := by simpa using e7
  unfold He.fnW He.DefD.val
  rw [hl]
  simp only [e1, e2, e3, e4, e5, e6, e7, e8]
theorem SaysV.tab (c : SaysV L file h K) {j : Nat} {x q : Str} (hj : L.tf[j]? = some (x, q)) : (L.tb K).tab j = some ((He.cT K (x, none)).2, q ++ ".<locals>." ++ "<lambda>") := by
  show (L.tf[j]?).map _ = _
  rw [hj]
  rfl
theorem SaysV.fd (c : SaysV L file h K) {mg : Str → Option Value} {base : Heap} (tb : ∀ p ∈ L.tf, LamX.TabB base mg (He.cT K (p.1, none)).1 (He.cT K (p.1, none)).2) {i : Nat} {f : Fd} (D : DOk L i f) : FdOk (L.tb K) L.gm K mg base i f ∧ f.rm ≤ 6 := by
  obtain ⟨d, ps, h1, h2, h3, h4, h5, h6, h7, h8⟩ := D.ex
  obtain ⟨⟨fd, F⟩, _⟩ := c.fun_ h1
  have ek : d.kws K = [] := by unfold He.DefD.kws; rw [h4]; rfl
  rw [ek] at F
  refine ⟨⟨He.fAd K d.at_, d.name, d.qual, d.params, d.dvs K, fd, ps, by show (L.ds[i]?).map _ = _; rw [h1]; rfl, by rw [h2, h3]; exact F, by rw [h3]; exact h5, fun j hj cdv hcd hcode hlk => ?_, fun n dv hdv => ?_⟩, h6⟩
  · obtain ⟨x, g1, g2⟩ := h7 j hj
    obtain ⟨cc, rfl⟩ := He.codeIn_ref hcd
    obtain ⟨oc, od, osl, lk⟩ := hlk
    have ec := He.codeOf_eq lk hcode
    rw [g2] at ec
    have tt := tb _ (List.mem_of_getElem? g1)
    refine ⟨cc, (He.cT K (x, none)).2, ?_, rfl, c.tab g1⟩
    have e1 : (He.cT K (x, none)).1 = cc := ec
    rw [← e1]
    exact tt
  · obtain ⟨z1, dws, dss, z2, z3, z4⟩ := h8 K _ fd F n dv hdv
    exact ⟨z1, dws, dss, z2 _, z3, z4⟩
end
end Ev
set_option Elab.async false
set_option linter.all false
set_option maxRecDepth 100000
set_option maxHeartbeats 1000000
namespace Ev
open PySem PySem.Spec PyProof.Rows L2
section
variable {L : Tabs} {file : Str} {h : Heap} {K : PySem.W.Frag} {mg : Str → Option Value} {base : Heap} {P : Program} {w : World}
theorem clA_at {c : Nat} {C : Addr} (hC : (L.tb K).cls c = some C) : ∃ nm, L.cl[c]? = some nm ∧ C = He.ga K nm := by
  have hC : (L.cl[c]?).map (He.ga K) = some C := hC
  obtain ⟨nm, h1, h2⟩ := Option.map_eq_some_iff.mp hC
  exact ⟨nm, h1, h2.symm⟩
theorem kdVal_at {k : Kd} {t : Value} (hk : KdV (L.tb K) k t) : kdVal L K k = some t := by
  cases hk with
  | b k hn => cases k <;> first | rfl | exact absurd rfl (hn _)
  | o hC =>
    have hC : L.clA K _ = some _ := hC
    simp only [kdVal, hC]
    rfl
theorem ckVal_at {k : Ck} {t : Value} (hk : CkV (L.tb K) k t) : ckVal L K k = some t := by
  cases hk with
  | b k hn => cases k <;> first | rfl | exact absurd rfl (hn _)
  | o hC =>
    have hC : L.clA K _ = some _ := hC
    simp only [ckVal, hC]
    rfl
/-- the parts of the one Bool -/
structure Parts (L : Tabs) (file : Str) (K : PySem.W.Frag) : Prop where
  gk : ∀ p ∈ L.gk, gkB L K p = true
  fr : ∀ x ∈ L.fr, PySem.W.nsIn K mainGlobals x = some none
  ini : ∀ p ∈ L.ini, ∃ nm d, L.cl[p.1]? = some nm ∧ L.ds[p.2]? = some d ∧ PySem.W.makesIn K (He.ga K nm) = true ∧ PySem.W.findIn K (.ref (He.ga K nm)) "__init__" = some (some (.ref (He.fAd K d.at_))) ∧ PySem.W.isFn K (.ref (He.fAd K d.at_)) = true ∧ PySem.W.keepIn K (.ref (He.ga K nm)) = true
  ao : ∀ p ∈ L.ao, ∃ nm a, L.cl[p.1]? = some nm ∧ L.at_[p.2]? = some a ∧ Cls K (He.ga K nm) ∧ PySem.W.findIn K (.ref (He.ga K nm)) a = some none
  io : ∀ p ∈ L.io, ∃ t u, kdVal L K p.1.1 = some t ∧ ckVal L K p.1.2 = some u ∧ PySem.W.kitOne K t u = some p.2 ∧ ∀ c, p.1.1 = .cls c → ∃ nm, L.cl[c]? = some nm ∧ C8.InsC K (He.ga K nm)
  ex : ∀ x ∈ L.ex, exB L file K x = true
  xm : ∀ p ∈ L.xm, ∃ C D, L.clA K p.1.1 = some C ∧ L.clA K p.1.2 = some D ∧ PySem.W.exmOne K (.ref C) (.ref D) = some p.2
  eq : ∀ p ∈ L.eq, ∃ C f, L.clA K p.1 = some C ∧ L.fnA K p.2 = some f ∧ PySem.W.findIn K (.ref C) "__eq__" = some (some (.ref f)) ∧ PySem.W.isFn K (.ref f) = true ∧ PySem.W.findIn K (.ref C) "__ne__" = some (some (.builtin "object.__ne__")) ∧ PySem.W.mroIn K C (.type "object") = some true
  ek : ∀ p ∈ L.ek, ∃ C t, L.clA K p.1 = some C ∧ kdVal L K p.2 = some t ∧ PySem.W.notFirst K C t = true
  opq : PySem.W.nsIn K cStatics "thirdparty.any" = some none
  sup : PySem.W.nsIn K mainGlobals "super" = some none
  exd : ∀ x ∈ L.ex, x.d.ok K = true
  op : ∀ p ∈ L.op, opB L K p = true
  ng : ∀ p ∈ L.ng, ngB L K p = true
  mt : ∀ p ∈ L.mt, mtB L K p = true
theorem parts_of (c : chk L file K = true) : Parts L file K := by
  unfold chk at c
  simp only [Bool.and_eq_true, List.all_eq_true] at c
  obtain ⟨h0, h1, h2, h3, h4, h5, h6, h7, h8, h9, h10, ⟨ho, hn, hm⟩, h11, h12⟩ := c
  refine ⟨h1, fun x hx => of_decide_eq_true (h2 x hx), fun p hp => ?_, fun p hp => ?_, fun p hp => ?_, h7, fun p hp => ?_, fun p hp => ?_, fun p hp => ?_, of_decide_eq_true h11, of_decide_eq_true h12, h0, ho, hn, hm⟩
  · have z := h4 p hp
    split at z
    · rename_i nm d e1 e2
      simp only [bO, Bool.and_eq_true, decide_eq_true_eq] at z
      exact ⟨nm, d, e1, e2, z⟩
    · cases z
  · have z := h5 p hp
    split at z
    · rename_i nm a e1 e2
      simp only [bO, Bool.and_eq_true, decide_eq_true_eq] at z
      exact ⟨nm, a, e1, e2, clsB_ok z.1, z.2⟩
    · cases z
  · have z := h6 p hp
    split at z
    · rename_i t u e1 e2
      simp only [Bool.and_eq_true, decide_eq_true_eq] at z
      refine ⟨t, u, e1, e2, z.1, fun c hc => ?_⟩
      have z2 := z.2
      rw [hc] at z2
      simp only at z2
      split at z2
      · rename_i nm e3
        exact ⟨nm, e3, insB_ok z2⟩
      · cases z2
    · cases z
  · have z := h8 p hp
    split at z
    · rename_i C D e1 e2
      exact ⟨C, D, e1, e2, of_decide_eq_true z⟩
    · cases z
  · have z := h9 p hp
    split at z
    · rename_i C f e1 e2
      simp only [bO, Bool.and_eq_true, decide_eq_true_eq] at z
      exact ⟨C, f, e1, e2, z⟩
    · cases z
  · have z := h10 p hp
    split at z
    · rename_i C t e1 e2
      exact ⟨C, t, e1, e2, z⟩
    · cases z
theorem gk_of (c : SaysV L file h K) (kb : K.In base) (nb : base.Ns mainGlobals mg) (x : Str) (g : Gk) (hg : L.gm.gk x = some g) : GkOk (L.tb K) K mg x g := by
  have hm : (x, g) ∈ L.gk := PySem.mem_of_lookup hg
  have z := (parts_of c.ok).gk _ hm
  unfold gkB at z
  split at z
  · rename_i i e
    have e : g = .fn i := e
    subst e
    split at z
    · rename_i d hd
      simp only [bO, Bool.and_eq_true, decide_eq_true_eq] at z
      have ea : He.fAd K d.at_ = He.ga K x := by rw [z.1]; rfl
      obtain ⟨_, hk⟩ := c.fun_ hd
      have kp : PySem.W.keepIn K (.ref (He.fAd K d.at_)) = true := (Bool.and_eq_true_iff.mp hk).1
      exact .fn (f := He.ga K x) (by show (L.ds[i]?).map _ = _; rw [hd]; exact congrArg some ea) (by rw [← ea]; exact kp) (PySem.W.mg_of kb nb z.2)
    · cases z
  · rename_i cc e
    have e : g = .cls cc := e
    subst e
    simp only [bO, Bool.and_eq_true, decide_eq_true_eq] at z
    exact .cls (C := He.ga K x) (by show (L.cl[cc]?).map _ = _; rw [z.1]; rfl) (PySem.W.mg_of kb nb z.2)
  · rename_i id e
    have e : g = .bi id := e
    subst e
    exact .bi (PySem.W.mg_of kb nb (of_decide_eq_true z))
  · rename_i i e
    have e : g = .k (.int i) := e
    subst e
    split at z
    · rename_i j t hj
      have ej := of_decide_eq_true z
      subst ej
      exact .k (v := .int j) (PySem.W.mg_of kb nb hj) ⟨t, rfl⟩ fun F => .int j
    · cases z
  · cases z
theorem ex_of (c : SaysV L file h K) (kb : K.In base) (nb : base.Ns mainGlobals mg) (hf : P.main.file = file) (ht : (P.main.scope.names.lookup ("super" : Str)).isSome = false) (hx : ∀ x ∈ L.ex, XOk L x) (k : Nat) : ExsOk (L.tb K) P w K mg base L.gm.exf k := by
  refine ⟨fun cc fl C hfl hC => ?_⟩
  have hfl : (L.ex.find? fun x => x.c == cc).map (·.fl) = some fl := hfl
  obtain ⟨x, hx1, rfl⟩ := Option.map_eq_some_iff.mp hfl
  have hm := List.mem_of_find?_eq_some hx1
  have hcx : x.c = cc := by simpa using List.find?_some hx1
  subst hcx
  have z := (parts_of c.ok).ex x hm
  unfold exB at z
  split at z
  case h_2 => cases z
  rename_i nm cda cc2 hcl hclo
  obtain ⟨nm', h1, rfl⟩ := clA_at hC
  rw [hcl] at h1
  cases h1
  simp only [bO, Bool.and_eq_true, decide_eq_true_eq, List.all_eq_true] at z
  obtain ⟨z1, z2, z3, z4, z5, z6, z7, z8, z9, z10, z11, z12, z13, z14, z15⟩ := z
  obtain ⟨ps, xs, g1, g0, g2⟩ := (hx x hm).ex
  obtain ⟨oc, od, fd, osl, lk, e1, e2, e3, e4, e5, e6, e7, e8⟩ := fnU_at (mapEq_mem c.exs x hm)
  have oex : OexC K (He.ga K nm) := ⟨oexB_ok z1, z2, z3, z4, z5⟩
  obtain ⟨ccl, cdd, vs, ccs, ff, tf, q1, q2, q3⟩ := fileB_ok z11
  have exI : ExI P K mg (He.ga K nm) cc2 cda := ⟨oex, ⟨ccl, cdd, vs, ccs, ff, tf, q1, q2, by rw [hf]; exact q3⟩, cellB_ok z12, z13, z14, (parts_of c.ok).opq, z15, PySem.W.mg_none_of kb nb (parts_of c.ok).sup, ht⟩
  unfold clo1 at hclo
  rw [lk] at hclo
  simp only at hclo
  split at hclo
  case h_2 => cases hclo
  rename_i cd nme ce q5 q6
  cases hclo
  rw [q6] at e7
  simp only [List.map_cons, List.map_nil, List.cons.injEq, and_true] at e7
  subst e7
  obtain ⟨n1, n2, n3, n4, n5, n6, n7, n8, n9, n10, n11, n12, n13, n14, n15⟩ := fd
  simp only at e1 e2 e3 e4 e5 e6 e8 q5 q6
  subst e1 e2 e3 e4 e5 e6 e8 q5 q6
  have nof : ∀ a ∈ xs, PySem.W.findIn K (.ref (He.ga K nm)) a = some none := fun a ha => by
    have : some a ∈ x.fl.map (fun i => L.at_[i]?) := by rw [g1]; exact List.mem_map.mpr ⟨a, ha, rfl⟩
    obtain ⟨i, hi, hia⟩ := List.mem_map.mp this
    have q := z9 i hi
    rw [hia] at q
    exact of_decide_eq_true q
  have hdv : n8 = .none := by
    have q := (parts_of c.ok).exd x hm
    unfold He.DefD.ok at q
    rw [lk] at q
    simp only [Bool.and_eq_true] at q
    have q2 := q.2.2.1
    have e0 : x.d.dvs K = [] := by unfold He.DefD.dvs; rw [g0]; rfl
    rw [e0] at q2
    rcases He.dflB_ok q2 with ⟨_, q3⟩ | ⟨q3, _⟩
    · exact q3
    · exact absurd rfl q3
  subst hdv
  obtain ⟨F, B⟩ := g2 P w K mg base k _ cda cc2 _ _ _ _ _ _ _ _ _ exI lk z10 nof
  refine ⟨_, _, ps, xs, oex, z7, z8, F, B, ?_⟩
  clear F B nof g2 z9 hm hx1 hC hfl
  generalize x.fl = fl at g1
  induction fl generalizing xs with
  | nil =>
    cases xs with
    | nil => exact .nil
    | cons _ _ => simp at g1
  | cons i fl ih =>
    cases xs with
    | nil => simp at g1
    | cons a xs =>
      simp only [List.map_cons, List.cons.injEq] at g1
      exact .cons g1.1 (ih xs g1.2)
end
end Ev
set_option Elab.async false
set_option linter.all false
set_option maxRecDepth 100000
set_option maxHeartbeats 1000000
namespace Ev
open PySem PySem.Spec PyProof.Rows L2
section
variable {L : Tabs} {file : Str} {h : Heap} {K : PySem.W.Frag} {mg : Str → Option Value} {base : Heap} {P : Program} {w : World}
theorem mem_lk {α β : Type} [BEq α] [LawfulBEq α] {a : α} {b : β} : ∀ {l : List (α × β)}, l.lookup a = some b → (a, b) ∈ l
  | [], e => by cases e
  | (x, y) :: l, e => by
    rw [List.lookup_cons] at e
    split at e
    · rename_i hx
      cases e
      rw [eq_of_beq hx]
      exact List.mem_cons_self ..
    · exact List.mem_cons_of_mem _ (mem_lk e)
theorem mks_of (c : SaysV L file h K) : MksOk (L.tb K) K L.gm.ini := ⟨fun cc i C hi hC => by
  obtain ⟨nm, d, h1, h2, h3, h4, h5, h6⟩ := (parts_of c.ok).ini _ (mem_lk (show L.ini.lookup cc = some i from hi))
  obtain ⟨nm', h7, rfl⟩ := clA_at hC
  rw [h7] at h1
  cases h1
  exact ⟨He.fAd K d.at_, by show (L.ds[i]?).map _ = _; rw [h2]; rfl, ⟨h3, h4, h5, h6⟩⟩⟩
theorem att_of (c : SaysV L file h K) (nd : L.at_.Nodup) : AttOk (L.tb K) L.gm.ao := by
  refine ⟨fun f g x e1 e2 => ?_, fun cc f C x ha hC hx => ?_⟩
  · obtain ⟨h1, q1⟩ := List.getElem?_eq_some_iff.mp e1
    obtain ⟨h2, q2⟩ := List.getElem?_eq_some_iff.mp e2
    exact (List.getElem_inj nd).mp (q1.trans q2.symm)
  · obtain ⟨nm, a, h1, h2, h3, h4⟩ := (parts_of c.ok).ao (cc, f) (List.contains_iff_mem.mp (show L.ao.contains (cc, f) = true from ha))
    obtain ⟨nm', h7, rfl⟩ := clA_at hC
    rw [h7] at h1
    cases h1
    have hx : L.at_[f]? = some x := hx
    rw [hx] at h2
    cases h2
    exact ⟨h3, h4⟩
theorem is_of (c : SaysV L file h K) : IsOk (L.tb K) L.gm.io := by
  refine ⟨fun k cc b t u hb hk hu => ?_, fun cc k b C hb hC => ?_⟩
  · obtain ⟨t', u', h1, h2, h3, _⟩ := (parts_of c.ok).io _ (mem_lk (show L.io.lookup (k, cc) = some b from hb))
    rw [kdVal_at hk] at h1
    rw [ckVal_at hu] at h2
    cases h1
    cases h2
    exact h3
  · obtain ⟨t', u', h1, h2, h3, h4⟩ := (parts_of c.ok).io _ (mem_lk (show L.io.lookup (Kd.cls cc, k) = some b from hb))
    obtain ⟨nm, h5, h6⟩ := h4 cc rfl
    obtain ⟨nm', h7, rfl⟩ := clA_at hC
    rw [h7] at h5
    cases h5
    exact h6
theorem xf_of (c : SaysV L file h K) : XfOk (L.tb K) K L.gm.exf := by
  refine ⟨fun cc fl C hfl hC => ?_⟩
  have hfl : (L.ex.find? fun x => x.c == cc).map (·.fl) = some fl := hfl
  obtain ⟨x, hx1, rfl⟩ := Option.map_eq_some_iff.mp hfl
  have hm := List.mem_of_find?_eq_some hx1
  have hcx : x.c = cc := by simpa using List.find?_some hx1
  subst hcx
  have z := (parts_of c.ok).ex x hm
  unfold exB at z
  split at z
  case h_2 => cases z
  rename_i nm cda cc2 hcl hclo
  obtain ⟨nm', h1, rfl⟩ := clA_at hC
  rw [hcl] at h1
  cases h1
  simp only [bO, Bool.and_eq_true, decide_eq_true_eq, List.all_eq_true] at z
  obtain ⟨z1, z2, z3, z4, z5, z6, z7, z8, z9, z10⟩ := z
  refine ⟨xfB_ok z6, fun f hf a ha => ?_⟩
  have ha : L.at_[f]? = some a := ha
  have q := z9 f hf
  rw [ha] at q
  exact of_decide_eq_true q
theorem xm_of (c : SaysV L file h K) : XmOk (L.tb K) K L.gm.xm := ⟨fun cc k b C D hb hC hD => by
  obtain ⟨C', D', h1, h2, h3⟩ := (parts_of c.ok).xm _ (mem_lk (show L.xm.lookup (cc, k) = some b from hb))
  have hC : L.clA K cc = some C := hC
  have hD : L.clA K k = some D := hD
  simp only [hC] at h1
  simp only [hD] at h2
  cases h1
  cases h2
  exact h3⟩
theorem eq_of (c : SaysV L file h K) : EqOk (L.tb K) K L.gm.eqf L.gm.eqk := by
  refine ⟨fun cc i C hi hC => ?_, fun cc k C t hk hC ht => ?_⟩
  · obtain ⟨C', f, h1, h2, h3, h4, h5, h6⟩ := (parts_of c.ok).eq _ (mem_lk (show L.eq.lookup cc = some i from hi))
    have hC : L.clA K cc = some C := hC
    simp only [hC] at h1
    cases h1
    exact ⟨f, h2, h3, h4, h5, h6⟩
  · obtain ⟨C', t', h1, h2, h3⟩ := (parts_of c.ok).ek (cc, k) (List.contains_iff_mem.mp (show L.ek.contains (cc, k) = true from hk))
    have hC : L.clA K cc = some C := hC
    simp only [hC] at h1
    cases h1
    rw [kdVal_at ht] at h2
    cases h2
    exact h3
theorem cmp_of (c : SaysV L file h K) (kb : K.In base) (nb : base.Ns mainGlobals mg) (nd : L.at_.Nodup) (hc : ∀ p ∈ L.cmp, COk L p.1 p.2) : CmpOk (L.tb K) P w K mg base L.gm.cmp := by
  refine ⟨fun i q hq => ?_⟩
  obtain ⟨d, a, jj, k0, p1, p2, p3, p4, p5, p6, h0, hds, Ng, g1, g2, g3, g4, g5, g6, g7, g8, g9, g10, g11⟩ := (hc _ (mem_lk (show L.cmp.lookup i = some q from hq))).ex
  obtain ⟨⟨fd, F⟩, _⟩ := c.fun_ g1
  have e1 : d.dvs K = [] := by unfold He.DefD.dvs; rw [g4]; rfl
  have e2 : d.kws K = [] := by unfold He.DefD.kws; rw [g5]; rfl
  rw [e1, e2] at F
  have B := g11 K _ fd F
  rw [g2, g3, g6] at F
  refine ⟨He.fAd K d.at_, a, jj, k0, p1, p2, p3, p4, p5, p6, h0, hds, d.params, d.scope, fd, Ng, by show (L.ds[i]?).map _ = _; rw [g1]; rfl, F, g7, B, g8, g9, fun cdv A outer s H E hr hg => ?_⟩
  exact hcL_ok (Γ := L.gm) (c := { N := Ng, sc := d.scope, fn := fun _ => true, calm := true, rm := 0, lam := none, new := [] })
    ⟨rfl, fun x g hx => gk_of c kb nb x g hx, fun x hx => PySem.W.mg_none_of kb nb ((parts_of c.ok).fr x (List.contains_iff_mem.mp (show L.fr.contains x = true from hx))), fun x f hx => idx_ok hx, att_of c nd, xf_of c, rfl, rfl, hg, hr.units⟩ g10
theorem op_of (c : SaysV L file h K) : OpOk (L.tb K) K L.gm.opf := ⟨fun cc o i C hi hC => by
  have z := (parts_of c.ok).op _ (mem_lk (show L.op.lookup (cc, o) = some i from hi))
  have hC : L.clA K cc = some C := hC
  unfold opB at z
  simp only [hC] at z
  split at z
  · rename_i C' f e1 e2
    cases e1
    simp only [bO, Bool.and_eq_true, decide_eq_true_eq] at z
    obtain ⟨z1, z2, z3, z4, z5, z6, z7⟩ := z
    refine ⟨f, e2, z1, z2, z3, ?_, Option.isSome_iff_exists.mp z5, Option.isSome_iff_exists.mp z6, z7⟩
    split at z4
    · rename_i hq
      exact ⟨_, hq, .inl rfl⟩
    · rename_i g hq
      exact ⟨_, hq, .inr ⟨g, rfl⟩⟩
    · cases z4
  · cases z⟩
theorem ng_of (c : SaysV L file h K) : NgOk (L.tb K) K L.gm.ngf := ⟨fun cc i C hi hC => by
  have z := (parts_of c.ok).ng _ (mem_lk (show L.ng.lookup cc = some i from hi))
  have hC : L.clA K cc = some C := hC
  unfold ngB at z
  simp only [hC] at z
  split at z
  · rename_i C' f e1 e2
    cases e1
    simp only [bO, Bool.and_eq_true, decide_eq_true_eq] at z
    exact ⟨f, e2, z.1, z.2⟩
  · cases z⟩
theorem mt_of (c : SaysV L file h K) : MtOk (L.tb K) K L.gm.mtf := ⟨fun cc m i C hi hC => by
  have z := (parts_of c.ok).mt _ (mem_lk (show L.mt.lookup (cc, m) = some i from hi))
  have hC : L.clA K cc = some C := hC
  unfold mtB at z
  simp only [hC] at z
  split at z
  · rename_i C' f e1 e2
    cases e1
    simp only [bO, Bool.and_eq_true, decide_eq_true_eq, Bool.not_eq_true'] at z
    obtain ⟨z1, z2, z3, z4, z5⟩ := z
    refine ⟨f, e2, clsB_ok z1, ⟨z2, z3, z4⟩, fun g hg => ?_⟩
    have hm : m ∈ L.at_ := List.mem_of_getElem? (show L.at_[g]? = some m from hg)
    rw [List.contains_iff_mem.mpr hm] at z5
    cases z5
  · cases z⟩
theorem gms_of (c : SaysV L file h K) (kb : K.In base) (nb : base.Ns mainGlobals mg) (nd : L.at_.Nodup) (hf : P.main.file = file) (ht : (P.main.scope.names.lookup ("super" : Str)).isSome = false) (hx : ∀ x ∈ L.ex, XOk L x) (hc : ∀ p ∈ L.cmp, COk L p.1 p.2) : GmS (L.tb K) L.gm P w K mg base where
  hK := rfl
  gk := gk_of c kb nb
  free := fun x hx => PySem.W.mg_none_of kb nb ((parts_of c.ok).fr x (List.contains_iff_mem.mp (show L.fr.contains x = true from hx)))
  att := fun x f hx => idx_ok hx
  M := mks_of c
  A := att_of c nd
  I := is_of c
  xf := xf_of c
  xm := xm_of c
  eq := eq_of c
  ex := ex_of c kb nb hf ht hx
  cmp := cmp_of c kb nb nd hc
  lam := fun F b => ⟨rfl, b, rfl⟩
  op := op_of c
  ng := ng_of c
  mt := mt_of c
/-- the tables of the lambdas stand apart -/
theorem told_of {l : PySem.W.OpenLaw} {fa : Addr} {li m : Nat} (c : SaysV L file h K) (kh : K.In h) (nh : h.Ns mainGlobals mg) (nd : L.at_.Nodup) (hf : l.prog.main.file = file) (ht : (l.prog.main.scope.names.lookup ("super" : Str)).isSome = false) (hx : ∀ x ∈ L.ex, XOk L x) (hc : ∀ p ∈ L.cmp, COk L p.1 p.2)
    (hD : ∀ i f, L.fd[i]? = some f → DOk L i f) (hdf : ∀ i n dv, L.dfl.lookup (i, n) = some dv → ∃ f, L.fd[i]? = some f) (hl : L.tf.length = m) (hm1 : m ≤ 1) (hli : L.gk.lookup ("law" : Str) = some (Gk.fn li)) (hd : L.dfl.lookup (li, 1) = some []) (hmg : mg ("law" : Str) = some (.ref fa)) : Told l w K mg fa h L.gm L.fds li m := by
  refine ⟨L.tb K, L.tf.map fun p => He.cT K (p.1, none), fun p hp => ?_, fun p hp => ?_, fun p hp => ?_, ?_, by simpa using hl, fun i p hp => ?_, rfl, ?_, hd, hdf, fun base kb nb tb => ⟨gms_of c kb nb nd hf ht hx hc, fun i f hf => c.fd (fun p hp => tb _ (List.mem_map.mpr ⟨p, hp, rfl⟩)) (hD i f hf)⟩⟩
  · obtain ⟨q, hq, rfl⟩ := List.mem_map.mp hp
    exact c.empty q hq
  · obtain ⟨q, hq, rfl⟩ := List.mem_map.mp hp
    exact c.out q hq
  · obtain ⟨q, hq, rfl⟩ := List.mem_map.mp hp
    exact PySem.W.codeHd_of_K kh (c.hd q hq)
  · match e : L.tf, hl with
    | [], _ => simp
    | [_], _ => simp
    | _ :: _ :: _, hl => simp at hl; omega
  · rw [List.getElem?_map] at hp
    obtain ⟨q, hq, rfl⟩ := Option.map_eq_some_iff.mp hp
    exact ⟨_, c.tab (x := q.1) (q := q.2) hq⟩
  · have z := gk_of c kh nh "law" _ hli
    cases z with
    | fn h1 h2 h3 =>
      rw [hmg] at h3
      cases h3
      exact h1
end
end Ev
set_option Elab.async false
set_option linter.all false
set_option maxRecDepth 100000
set_option maxHeartbeats 1000000
namespace Ev
open PySem PySem.Spec PyProof.Rows L2
/-! ### the per-def facts by looks -/
def dvB : List D → List He.Dv → Bool
  | [], [] => true
  | .int i :: r, .int j :: s => decide (i = j) && dvB r s
  | .bl i :: r, .bl j :: s => decide (i = j) && dvB r s
  | .non :: r, .non :: s => dvB r s
  | .str i :: r, .str j :: s => decide (i = j) && dvB r s
  | _, _ => false
theorem dvB_ok {K : PySem.W.Frag} : ∀ {ds : List D} {vs : List He.Dv}, dvB ds vs = true → ∀ T F, Rps T F ds (vs.map (He.Dv.v K))
  | [], [], _, _, _ => .nil
  | .int i :: r, .int j :: s, h, T, F => by
    have h : (decide (i = j) && dvB r s) = true := h
    simp only [Bool.and_eq_true, decide_eq_true_eq] at h
    obtain ⟨e, h'⟩ := h
    subst e
    exact .cons (.int i) (dvB_ok h' T F)
  | .bl i :: r, .bl j :: s, h, T, F => by
    have h : (decide (i = j) && dvB r s) = true := h
    simp only [Bool.and_eq_true, decide_eq_true_eq] at h
    obtain ⟨e, h'⟩ := h
    subst e
    exact .cons (.bl i) (dvB_ok h' T F)
  | .str i :: r, .str j :: s, h, T, F => by
    have h : (decide (i = j) && dvB r s) = true := h
    simp only [Bool.and_eq_true, decide_eq_true_eq] at h
    obtain ⟨e, h'⟩ := h
    subst e
    exact .cons (.str i) (dvB_ok h' T F)
  | .non :: r, .non :: s, h, T, F => .cons .non (dvB_ok (show dvB r s = true from h) T F)
section
variable {L : Tabs} {i : Nat} {f : Fd} {d : He.DefD} {ps : List Str}
/-- of a def's tables: what is filled up -/
def dflB (L : Tabs) (i : Nat) (d : He.DefD) (n : Nat) : Bool := L.dfl.all fun p => !decide (p.1.1 = i) || (decide (p.1.2 + p.2.length = n) && dvB p.2 (d.dfl.drop (d.dfl.length - p.2.length)) && decide (p.2.length ≤ d.dfl.length))
theorem dflB_ok {n m : Nat} {dv : List D} (h : dflB L i d n = true) (e : L.dfl.lookup (i, m) = some dv) : m + dv.length = n ∧ dvB dv (d.dfl.drop (d.dfl.length - dv.length)) = true ∧ dv.length ≤ d.dfl.length := by
  have z := List.all_eq_true.mp h _ (mem_lk e)
  simp only [decide_true, Bool.not_true, Bool.false_or, Bool.and_eq_true, decide_eq_true_eq] at z
  exact ⟨z.1.1, z.1.2, z.2⟩
theorem dok0 (hd : L.ds[i]? = some d) (h2 : f.body = d.body) (h3 : f.sc = d.scope) (h4 : d.kwd = []) (h5 : FnScope f.N ps d.scope) (h6 : f.rm ≤ 6) (h7 : ∀ j, f.lam = some j → ∃ x, L.tf[j]? = some (x, d.qual) ∧ d.at_ = (x, none)) (h8 : d.dfl = []) (h9 : dflB L i d ps.length = true)
    (h : ∀ (kV doc pm : Value) (an : Option Addr) (cdv ct : Value) (us : List Value), us.length = ps.length → bindArgs (PySem.W.fnOf d.name d.qual d.params d.body d.scope .none kV doc pm an cdv ct) ⟨us, []⟩ = pure (ps.zip us)) : DOk L i f := by
  refine ⟨d, ps, hd, h2, h3, h4, h5, h6, h7, fun K a fd F n dv e => ?_⟩
  obtain ⟨z1, z2, z3⟩ := dflB_ok h9 e
  have e1 : d.dvs K = [] := by unfold He.DefD.dvs; rw [h8]; rfl
  rw [e1] at F
  have e0 : dv = [] := by
    rw [h8] at z3
    exact List.eq_nil_of_length_eq_zero (Nat.le_zero.mp z3)
  subst e0
  exact ⟨z1, [], [], fun T F => .nil, .nil, F.bindsN h⟩
theorem dok1 (hd : L.ds[i]? = some d) (h2 : f.body = d.body) (h3 : f.sc = d.scope) (h4 : d.kwd = []) (h5 : FnScope f.N ps d.scope) (h6 : f.rm ≤ 6) (h7 : ∀ j, f.lam = some j → ∃ x, L.tf[j]? = some (x, d.qual) ∧ d.at_ = (x, none)) (h8 : d.dfl ≠ []) (h9 : dflB L i d ps.length = true) (hq : d.dfl.length ≤ ps.length)
    (h : ∀ j, j ≤ d.dfl.length → ∀ (T : Addr) (kV doc pm : Value) (an : Option Addr) (cdv ct : Value) (us its : List Value), us.length = ps.length - (d.dfl.length - j) → its.length = d.dfl.length →
      ∃ k, bindArgs (PySem.W.fnOf d.name d.qual d.params d.body d.scope (.ref T) kV doc pm an cdv ct) ⟨us, []⟩ = seqItems? (.ref T) >>= k ∧ k (some its.toArray) = pure (ps.zip (us ++ its.drop j))) : DOk L i f := by
  refine ⟨d, ps, hd, h2, h3, h4, h5, h6, h7, fun K a fd F n dv e => ?_⟩
  obtain ⟨z1, z2, z3⟩ := dflB_ok h9 e
  have el : (d.dvs K).length = d.dfl.length := by simp [He.DefD.dvs]
  obtain ⟨ds, b1, b2⟩ := FunD.binds1 (ps := ps) F n (d.dfl.length - dv.length) (by unfold He.DefD.dvs; intro z; exact h8 (List.map_eq_nil_iff.mp z)) (by rw [el]; omega) fun T kV doc pm an cdv ct us its l1 l2 =>
    h (d.dfl.length - dv.length) (by omega) T kV doc pm an cdv ct us its (by rw [l1]; omega) (by rw [l2, el])
  refine ⟨z1, _, ds, fun T F => ?_, b1, b2⟩
  have q := dvB_ok (K := K) z2 T F
  unfold He.DefD.dvs
  rw [← List.map_drop]
  exact q
end
end Ev
set_option Elab.async false
set_option linter.all false
set_option maxRecDepth 100000
set_option maxHeartbeats 1000000
namespace Ev
open PySem PySem.Spec L2
/-! ### plain laws: sizes -/
class Bd (i : Int) (k : outParam Nat) : Prop where
  h : i.natAbs < 2 ^ k
theorem Bd.log {i : Int} {k : Nat} (b : Bd i k) : i.natAbs.log2 ≤ k := by
  by_cases z : i.natAbs = 0
  · rw [z]; exact Nat.zero_le _
  · exact Nat.le_of_lt ((Nat.log2_lt z).mpr b.h)
theorem mulOk_bd {i j : Int} {k l : Nat} [a : Bd i k] [b : Bd j l] (h : k + l < 1000000) : mulOk i j := by
  have := a.log
  have := b.log
  unfold mulOk
  omega
theorem powOk_bd {i : Int} {n k : Nat} [a : Bd i k] (h : (k + 1) * n ≤ 1000000) : powOk i (n : Int) := by
  have := a.log
  refine ⟨Int.natCast_nonneg n, Nat.le_trans (Nat.mul_le_mul (Nat.succ_le_succ this) (Nat.le_refl _)) ?_⟩
  simpa using h
theorem divOk_bd {j : Int} {l : Nat} [b : Bd j l] (h0 : j ≠ 0) (h : l < 9000) : divOk j := ⟨h0, by have := b.log; omega⟩
instance bd_mul {i j : Int} {k l : Nat} [a : Bd i k] [b : Bd j l] : Bd (i * j) (k + l) := ⟨by
  rw [Int.natAbs_mul, Nat.pow_add]
  exact Nat.mul_lt_mul'' a.h b.h⟩
theorem pow_mx {k l : Nat} : 2 ^ k + 2 ^ l ≤ 2 ^ (max k l + 1) := by
  have h1 : 2 ^ k ≤ 2 ^ (max k l) := Nat.pow_le_pow_right (by decide) (Nat.le_max_left _ _)
  have h2 : 2 ^ l ≤ 2 ^ (max k l) := Nat.pow_le_pow_right (by decide) (Nat.le_max_right _ _)
  rw [Nat.pow_succ]
  omega
instance bd_add {i j : Int} {k l : Nat} [a : Bd i k] [b : Bd j l] : Bd (i + j) (max k l + 1) := ⟨by
  have h1 := a.h
  have h2 := b.h
  have h3 := pow_mx (k := k) (l := l)
  have h4 := Int.natAbs_add_le i j
  omega⟩
instance bd_sub {i j : Int} {k l : Nat} [a : Bd i k] [b : Bd j l] : Bd (i - j) (max k l + 1) := ⟨by
  have h1 := a.h
  have h2 := b.h
  have h3 := pow_mx (k := k) (l := l)
  have h4 := Int.natAbs_sub_le i j
  omega⟩
instance bd_neg {i : Int} {k : Nat} [a : Bd i k] : Bd (-i) k := ⟨by rw [Int.natAbs_neg]; exact a.h⟩
instance bd_pow {i : Int} {k n : Nat} [a : Bd i k] : Bd (i ^ n) (k * n + 1) := ⟨by
  rw [Int.natAbs_pow]
  refine Nat.lt_of_le_of_lt (Nat.pow_le_pow_left (Nat.le_of_lt a.h) n) ?_
  rw [← Nat.pow_mul]
  exact Nat.pow_lt_pow_right (by decide) (Nat.lt_succ_self _)⟩
instance bd_nat {n : Nat} : Bd ((n : Nat) : Int) (n.log2 + 1) := ⟨by rw [Int.natAbs_natCast]; exact Nat.lt_log2_self⟩
theorem bd_le {i : Int} {k : Nat} (h1 : -(2 ^ k) < i) (h2 : i < 2 ^ k) : Bd i k := ⟨by
  have e : ((2 : Int) ^ k) = ((2 ^ k : Nat) : Int) := by simp
  rw [e] at h1 h2
  omega⟩
theorem fdiv_abs (i j : Int) : (i.fdiv j).natAbs ≤ i.natAbs := Int.natAbs_fdiv_le_natAbs i j
instance bd_fdiv {i j : Int} {k : Nat} [a : Bd i k] : Bd (i.fdiv j) k := ⟨Nat.lt_of_le_of_lt (fdiv_abs i j) a.h⟩
end Ev
set_option Elab.async false
set_option linter.all false
set_option maxRecDepth 100000
set_option maxHeartbeats 1000000
namespace Ev
open PySem PySem.Spec L2
/-! ### plain laws: the words' values -/
section
variable {i j : Int} {st : Store} {k l n : Nat}
@[simp] theorem bq_add : binQ .Add (.int i) (.int j) st = .ok (.int (i + j)) st := rfl
@[simp] theorem bq_sub : binQ .Sub (.int i) (.int j) st = .ok (.int (i - j)) st := rfl
@[simp] theorem bq_mul [Bd i k] [Bd j l] (h : k + l < 1000000) : binQ .Mult (.int i) (.int j) st = .ok (.int (i * j)) st := by
  have z := mulOk_bd (i := i) (j := j) h
  show (match binI .Mult i j with | some k => _ | none => _) = _
  simp only [binI, if_pos z]
theorem bq_fdiv (h : divOk j) : binQ .FloorDiv (.int i) (.int j) st = .ok (.int (i.fdiv j)) st := by
  show (match binI .FloorDiv i j with | some k => _ | none => _) = _
  simp only [binI, if_pos h]
theorem bq_mod (h : j ≠ 0) : binQ .Mod (.int i) (.int j) st = .ok (.int (i.fmod j)) st := by
  show (match binI .Mod i j with | some k => _ | none => _) = _
  simp only [binI, if_pos h]
@[simp] theorem bq_pow [Bd i k] (h : (k + 1) * n ≤ 1000000) : binQ .Pow (.int i) (.int (no_index (OfNat.ofNat n))) st = .ok (.int (i ^ n)) st := by
  have z : powOk i (OfNat.ofNat n : Int) := powOk_bd (i := i) (n := n) h
  show (match binI .Pow i _ with | some k => _ | none => _) = _
  simp only [binI, if_pos z]
  rfl
@[simp] theorem lt_p : ltP (.int i) (.int j) st = .ok (.bl (decide (i < j))) st := rfl
@[simp] theorem le_p : leP (.int i) (.int j) st = .ok (.bl (decide (i ≤ j))) st := rfl
@[simp] theorem gt_p : gtP (.int i) (.int j) st = .ok (.bl (decide (j < i))) st := rfl
@[simp] theorem ge_p : geP (.int i) (.int j) st = .ok (.bl (decide (j ≤ i))) st := rfl
@[simp] theorem bo_int {call : Nat → Gb} {dfl : Nat → Nat → Option (List D)} {opf : Nat → Operator → Option Nat} {op : Operator} {b : D} : binO call dfl opf op (.int i) b st = binQ op (.int i) b st := rfl
@[simp] theorem bo_bl {call : Nat → Gb} {dfl : Nat → Nat → Option (List D)} {opf : Nat → Operator → Option Nat} {op : Operator} {a : Bool} {b : D} : binO call dfl opf op (.bl a) b st = binQ op (.bl a) b st := rfl
@[simp] theorem bo_lst {call : Nat → Gb} {dfl : Nat → Nat → Option (List D)} {opf : Nat → Operator → Option Nat} {op : Operator} {a : List D} {b : D} : binO call dfl opf op (.lst a) b st = binQ op (.lst a) b st := rfl
@[simp] theorem bo_tup {call : Nat → Gb} {dfl : Nat → Nat → Option (List D)} {opf : Nat → Operator → Option Nat} {op : Operator} {a : List D} {b : D} : binO call dfl opf op (.tup a) b st = binQ op (.tup a) b st := rfl
@[simp] theorem bo_str {call : Nat → Gb} {dfl : Nat → Nat → Option (List D)} {opf : Nat → Operator → Option Nat} {op : Operator} {a : Str} {b : D} : binO call dfl opf op (.str a) b st = binQ op (.str a) b st := rfl
@[simp] theorem no_int {call : Nat → Gb} {dfl : Nat → Nat → Option (List D)} {ngf : Nat → Option Nat} : negO call dfl ngf (.int i) st = .ok (.int (-i)) st := rfl
@[simp] theorem neg_p : negP (.int i) st = .ok (.int (-i)) st := rfl
end
section
variable {α γ : Type} {a : α} {st : Store} {k : α → Store → Ou γ} {c : Nat} {fs : List (Nat × D)} {env : Env} {q : α → Store → Os}
@[simp] theorem bind_ok : (Ou.ok a st).bind k = k a st := rfl
@[simp] theorem bind_exc : (Ou.exc c fs st : Ou α).bind k = .exc c fs st := rfl
@[simp] theorem bind_stuck : (Ou.stuck : Ou α).bind k = .stuck := rfl
@[simp] theorem thn_ok : (Ou.ok a st).thn env q = q a st := rfl
@[simp] theorem thn_exc : (Ou.exc c fs st : Ou α).thn env q = .exc c fs env st := rfl
@[simp] theorem thn_stuck : (Ou.stuck : Ou α).thn env q = .stuck := rfl
@[simp] theorem tru_bl {b : Bool} : truD st (.bl b) = some b := rfl
@[simp] theorem tru_int {i : Int} : truD st (.int i) = some (i != 0) := rfl
@[simp] theorem frz_int {i : Int} : frz (.int i) st = some (.int i, st) := rfl
@[simp] theorem frz_bl {b : Bool} : frz (.bl b) st = some (.bl b, st) := rfl
@[simp] theorem frz_non : frz .non st = some (.non, st) := rfl
@[simp] theorem frz_str {x : Str} : frz (.str x) st = some (.str x, st) := rfl
@[simp] theorem frz_tup {xs : List D} : frz (.tup xs) st = some (.tup xs, st) := rfl
@[simp] theorem frz_lst {xs : List D} : frz (.lst xs) st = some (.lst xs, st) := rfl
@[simp] theorem frz_obj {xs : List (Nat × D)} : frz (.obj c xs) st = some (.obj c xs, st) := rfl
@[simp] theorem seq_tup {xs : List D} : seqD st (.tup xs) = some (true, xs) := rfl
@[simp] theorem seq_lst {xs : List D} : seqD st (.lst xs) = some (false, xs) := rfl
@[simp] theorem seq_scr {xs : List D} : seqD st (.scr xs) = some (false, xs) := rfl
@[simp] theorem seq_int {i : Int} : seqD st (.int i) = none := rfl
end
/-- a call of a def: its body runs, its end is taken -/
abbrev runF (m : Nat) (b : Fs) : Gb := defP false m b
section
variable {st : Store} {n : Nat} {kp : Bool}
@[simp] theorem ret_int {i : Int} : retP kp n (.int i) st = .ok (.int i) (st.take n) := rfl
@[simp] theorem ret_bl {i : Bool} : retP kp n (.bl i) st = .ok (.bl i) (st.take n) := rfl
@[simp] theorem ret_non : retP kp n .non st = .ok .non (st.take n) := rfl
@[simp] theorem ret_str {x : Str} : retP kp n (.str x) st = .ok (.str x) (st.take n) := rfl
@[simp] theorem ret_tup {xs : List D} : retP kp n (.tup xs) st = .ok (.tup xs) (st.take n) := rfl
@[simp] theorem ret_lst {xs : List D} : retP kp n (.lst xs) st = .ok (.lst xs) (st.take n) := rfl
@[simp] theorem ret_obj {c : Nat} {fs : List (Nat × D)} : retP kp n (.obj c fs) st = .ok (.obj c fs) (st.take n) := rfl
theorem take_self : st.take st.length = st := List.take_length
theorem size_line : sizeLine = 16777216 := rfl
end
/-! the words applied -/
def Os.seq (o : Os) (b : Fs) : Os := match o with
  | .nx e s => b e s
  | o => o
@[simp] theorem seq_nx {e : Env} {s : Store} {b : Fs} : (Os.nx e s).seq b = b e s := rfl
@[simp] theorem seq_rt {d : D} {s : Store} {b : Fs} : (Os.rt d s).seq b = .rt d s := rfl
@[simp] theorem seq_bk {e : Env} {s : Store} {b : Fs} : (Os.bk e s).seq b = .bk e s := rfl
@[simp] theorem seq_ct {e : Env} {s : Store} {b : Fs} : (Os.ct e s).seq b = .ct e s := rfl
@[simp] theorem seq_exc {c : Nat} {fs : List (Nat × D)} {e : Env} {s : Store} {b : Fs} : (Os.exc c fs e s).seq b = .exc c fs e s := rfl
theorem seq_congr {o o' : Os} {b : Fs} (h : o = o') : o.seq b = o'.seq b := by rw [h]
theorem bind_congr {α γ : Type} {o o' : Ou α} {k : α → Store → Ou γ} (h : o = o') : o.bind k = o'.bind k := by rw [h]
theorem thn_congr {α : Type} {o o' : Ou α} {env : Env} {k : α → Store → Os} (h : o = o') : o.thn env k = o'.thn env k := by rw [h]
def optB (o : Option Bool) (st : Store) : Ou Bool := match o with
  | some b => .ok b st
  | none => .stuck
@[simp] theorem optB_some {b : Bool} {st : Store} : optB (some b) st = .ok b st := rfl
def optF (o : Option Bool) (a b : Oe) : Oe := match o with
  | some true => a
  | some false => b
  | none => .stuck
@[simp] theorem optF_t {a b : Oe} : optF (some true) a b = a := rfl
@[simp] theorem optF_f {a b : Oe} : optF (some false) a b = b := rfl
def optE (o : Option D) (st : Store) : Oe := match o with
  | some b => .ok b st
  | none => .stuck
@[simp] theorem optE_some {d : D} {st : Store} : optE (some d) st = .ok d st := rfl
def getE (o : Option (Option D)) (st : Store) : Oe := match o with
  | some (some d) => .ok d st
  | _ => .stuck
@[simp] theorem getE_some {d : D} {st : Store} : getE (some (some d)) st = .ok d st := rfl
def tupO (o : Option (List D × Store)) : Oe := match o with
  | some (es, st2) => if es.length ≤ sizeLine then .ok (.tup es) st2 else .stuck
  | none => .stuck
def lstO (o : Option (List D × Store)) : Ou (List D) := match o with
  | some (es, st2) => if es.length ≤ sizeLine then .ok es st2 else .stuck
  | none => .stuck
@[simp] theorem tupO_some {es : List D} {st : Store} : tupO (some (es, st)) = if es.length ≤ sizeLine then .ok (.tup es) st else .stuck := rfl
@[simp] theorem lstO_some {es : List D} {st : Store} : lstO (some (es, st)) = if es.length ≤ sizeLine then .ok es st else .stuck := rfl
def setO (o : Option Env) (st : Store) : Os := match o with
  | some e => .nx e st
  | none => .stuck
@[simp] theorem setO_some {e : Env} {st : Store} : setO (some e) st = .nx e st := rfl
def putO (env : Env) (o : Option Store) : Os := match o with
  | some s => .nx env s
  | none => .stuck
@[simp] theorem putO_some {e : Env} {st : Store} : putO e (some st) = .nx e st := rfl
section
variable {env : Env} {st : Store} {a b c : Fx} {p q r : Fb} {u v : Fs} {as : Fa} {i j k : Nat}
@[simp] theorem x_seq : sSeq u v env st = (u env st).seq v := by unfold sSeq Os.seq; rfl
@[simp] theorem x_nil : sNil env st = .nx env st := rfl
@[simp] theorem x_ret : sRet a env st = (a env st).thn env fun d st1 => .rt d st1 := rfl
@[simp] theorem x_drop : sDrop a env st = (a env st).thn env fun _ st1 => .nx env st1 := rfl
@[simp] theorem x_set : sSet i a env st = (a env st).thn env fun d st1 => .nx (env.set i (some d)) st1 := rfl
def ifS (k : Bool) (u v : Fs) (env : Env) (st : Store) : Os := if k = true then u env st else v env st
@[simp] theorem ifS_t : ifS true u v env st = u env st := rfl
@[simp] theorem ifS_f : ifS false u v env st = v env st := rfl
theorem x_if : sIf p u v env st = (p env st).thn env fun k st1 => ifS k u v env st1 := rfl
@[simp] theorem x_asg {g : Fg} : sAsg a g env st = (a env st).thn env fun d st1 => (g d env st1).tgt := rfl
@[simp] theorem tgt_nx : (Os.nx env st).tgt = .nx env st := rfl
@[simp] theorem x_par2 : sPar2 i j as env st = (as env st).thn env fun ds st1 => match ds with
  | [d, e] => .nx ((env.set i (some d)).set j (some e)) st1
  | _ => .stuck := rfl
@[simp] theorem x_par3 : sPar3 i j k as env st = (as env st).thn env fun ds st1 => match ds with
  | [d, e, f] => .nx (((env.set i (some d)).set j (some e)).set k (some f)) st1
  | _ => .stuck := rfl
@[simp] theorem x_V : fV i env st = getE env[i]? st := by unfold fV getE; rfl
@[simp] theorem x_K {d : D} : fK d env st = .ok d st := rfl
@[simp] theorem x_anil : aNil env st = .ok [] st := rfl
@[simp] theorem x_acons : aCons a as env st = (a env st).bind fun x st1 => (as env st1).bind fun xs st2 => .ok (x :: xs) st2 := rfl
@[simp] theorem x_f1 {g : D → Store → Oe} : f1 g a env st = (a env st).bind g := rfl
@[simp] theorem x_f2 {g : D → D → Store → Oe} : f2 g a b env st = (a env st).bind fun x st1 => (b env st1).bind fun y st2 => g x y st2 := rfl
@[simp] theorem x_B {g : Gb} : fB g as env st = (as env st).bind fun ds st1 => g ds st1 := rfl
@[simp] theorem x_tup : fTup as env st = (as env st).bind fun ds st1 => tupO (frzs ds st1) := by unfold fTup tupO; rfl
@[simp] theorem x_if' : fIf p a b env st = (p env st).bind fun k st1 => if k = true then a env st1 else b env st1 := rfl
@[simp] theorem x_not : fNot a env st = (a env st).bind fun x st1 => optE ((truD st1 x).map fun b => .bl (!b)) st1 := by
  unfold fNot notP
  congr
  funext x s
  cases truD s x <;> rfl
@[simp] theorem x_and : fAnd a b env st = (a env st).bind fun x st1 => optF (truD st1 x) (b env st1) (.ok x st1) := by
  unfold fAnd optF
  rfl
@[simp] theorem x_or : fOr a b env st = (a env st).bind fun x st1 => optF (truD st1 x) (.ok x st1) (b env st1) := by
  unfold fOr optF
  rfl
@[simp] theorem x_tr : bTr a env st = (a env st).bind fun d st1 => optB (truD st1 d) st1 := by unfold bTr optB; rfl
@[simp] theorem x_bnot : bNot p env st = (p env st).bind fun c st1 => .ok (!c) st1 := rfl
@[simp] theorem x_band : bAnd p q env st = (p env st).bind fun c st1 => if c = true then q env st1 else .ok false st1 := rfl
@[simp] theorem x_bor : bOr p q env st = (p env st).bind fun c st1 => if c = true then .ok true st1 else q env st1 := rfl
@[simp] theorem x_frz {f : FL} : fFrz f env st = (f env st).bind fun xs st1 => .ok (.lst xs) st1 := rfl
@[simp] theorem x_new {f : FL} : fNew f env st = (f env st).bind fun xs st1 => .ok (.ref st1.length) (st1 ++ [.lst xs]) := rfl
@[simp] theorem x_disp : lDisp as env st = (as env st).bind fun ds st1 => lstO (frzs ds st1) := by unfold lDisp lstO; rfl
@[simp] theorem x_gpt {t : Pt} {d : D} : gPt t d env st = setO (ptSet t d env st) st := by unfold gPt setO; rfl
@[simp] theorem x_sub {d : D} : gSubD a b d env st = (a env st).thn env fun x st2 => (b env st2).thn env fun y st3 => putO env (setP x y d st3) := by unfold gSubD putO; rfl
@[simp] theorem x_oN : oNone env st = .ok none st := rfl
@[simp] theorem x_sl {l h : Fo} : fSl a l h env st = (a env st).bind fun o st1 => (l env st1).bind fun l st2 => (h env st2).bind fun h st3 => slP o l h st3 := rfl
@[simp] theorem frzs_nil : frzs [] st = some ([], st) := rfl
@[simp] theorem frzs_cons {d : D} {ds : List D} : frzs (d :: ds) st = (frz d st).bind fun p => (frzs ds p.2).map fun q => (p.1 :: q.1, q.2) := rfl
@[simp] theorem pt_nm {d : D} : ptSet (.nm i) d env st = some (env.set i (some d)) := by unfold ptSet; rfl
@[simp] theorem pts_nil : ptSets [] [] env st = some env := by unfold ptSets; rfl
@[simp] theorem pts_cons {t : Pt} {ts : List Pt} {d : D} {ds : List D} : ptSets (t :: ts) (d :: ds) env st = (ptSet t d env st).bind fun e => ptSets ts ds e st := by
  conv => lhs; unfold ptSets
@[simp] theorem pt_tup {ts : List Pt} {xs : List D} : ptSet (.tp ts) (.tup xs) env st = if xs.length = ts.length then ptSets ts xs env st else none := by
  conv => lhs; unfold ptSet
  rfl
@[simp] theorem pt_lst {ts : List Pt} {xs : List D} : ptSet (.tp ts) (.lst xs) env st = if xs.length = ts.length then ptSets ts xs env st else none := by
  conv => lhs; unfold ptSet
  rfl
@[simp] theorem x_endrt {d : D} {n : Nat} : endP false n (.rt d st) = retP false n d st := rfl
@[simp] theorem x_endnx {n : Nat} : endP false n (.nx env st) = .ok .non (st.take n) := rfl
@[simp] theorem x_endexc {e : Nat} {fs : List (Nat × D)} {n : Nat} : endP false n (.exc e fs env st) = .exc e fs (st.take n) := rfl
end
end Ev
set_option Elab.async false
set_option linter.all false
set_option maxRecDepth 100000
set_option maxHeartbeats 1000000
namespace Ev
open PySem PySem.Spec L2
/-! ### plain laws: rows, loops, comparisons -/
theorem Bd.mono {i : Int} {k l : Nat} (b : Bd i k) (h : k ≤ l) : Bd i l := ⟨Nat.lt_of_lt_of_le b.h (Nat.pow_le_pow_right (by decide) h)⟩
section
variable {st : Store} {c d : Cell} {n : Nat}
theorem app_get : (st ++ [c])[st.length]? = some c := by simp
theorem app_set : (st ++ [c]).set st.length d = st ++ [d] := by simp
theorem app_take : (st ++ [c]).take st.length = st := by simp
theorem set_take {p : Nat} : (st.set p c).take st.length = st.set p c := List.take_of_length_le (by simp)
end
theorem pt_of_seq {t : List Pt} {d : D} {env : Env} {st : Store} {xs : List D} {b : Bool} (h : seqD st d = some (b, xs)) : ptSet (.tp t) d env st = if xs.length = t.length then ptSets t xs env st else none := by
  conv => lhs; unfold ptSet
  rw [h]
/-- a comprehension whose element is worked out without a trace -/
theorem cGo_map {p : Pt} {t : Fb} {e : Fx} {wk : Wk} {env : Env} {st : Store} (f : D → D) (hw : ∀ acc, wB wk (st ++ [.lst acc]) = true) :
    ∀ (ds acc : List D), acc.length + ds.length < sizeLine →
      (∀ d ∈ ds, ∀ s : Store, (∃ acc, s = st ++ [.lst acc]) → ∃ env1, ptSet p d env s = some env1 ∧ t env1 s = .ok true s ∧ e env1 s = .ok (f d) s ∧ frz (f d) s = some (f d, s)) →
      cGo p t e st.length wk ds env (st ++ [.lst acc]) = some (st ++ [.lst (acc ++ ds.map f)])
  | [], acc, _, _ => by
    unfold cGo
    rw [if_pos (hw acc)]
    simp
  | d :: ds, acc, hl, h => by
    obtain ⟨env1, h1, h2, h3, h4⟩ := h d (List.mem_cons_self ..) _ ⟨acc, rfl⟩
    unfold cGo
    rw [if_pos (hw acc)]
    simp only [h1, h2, h3, h4, app_get]
    rw [List.length_cons] at hl
    rw [if_pos (by omega), app_set, cGo_map f hw ds (acc ++ [f d]) (by rw [List.length_append, List.length_singleton]; omega) fun d' hd' => h d' (List.mem_cons_of_mem _ hd')]
    simp
theorem lComp_map {p : Pt} {vs : List Nat} {i : Fi} {t : Fb} {e : Fx} {env : Env} {st st1 : Store} {wk : Wk} (f : D → D) (hi : i env st = .ok wk st1) (hw : ∀ acc, wB wk (st1 ++ [.lst acc]) = true) (hl : wk.1.length < sizeLine)
    (h : ∀ d ∈ wk.1, ∀ s : Store, (∃ acc, s = st1 ++ [.lst acc]) → ∃ env1, ptSet p d (wipeD env vs) s = some env1 ∧ t env1 s = .ok true s ∧ e env1 s = .ok (f d) s ∧ frz (f d) s = some (f d, s)) :
    lComp p vs i t e env st = .ok (wk.1.map f) st1 := by
  unfold lComp
  rw [hi]
  simp only [bind_ok]
  rw [cGo_map f hw wk.1 [] (by simpa using hl) h]
  simp only [List.nil_append, app_get, app_take]
/-- a loop by what holds ahead of each turn -/
theorem fLoop_h {p : Pt} {b : Fs} {wk : Wk} (hw : wk.2 = none) (I : List D → Env → Store → Prop) (Q : Os → Prop) (h0 : ∀ env st, I [] env st → Q (.nx env st))
    (h1 : ∀ d ds env st, I (d :: ds) env st → ∃ env1, ptSet p d env st = some env1 ∧ ((∃ e s, (b env1 st = .nx e s ∨ b env1 st = .ct e s) ∧ I ds e s) ∨ (∃ e s, b env1 st = .bk e s ∧ Q (.nx e s)) ∨ ∃ v s, b env1 st = .rt v s ∧ Q (.rt v s))) :
    ∀ ds env st, I ds env st → Q (fLoop p b wk ds env st)
  | [], env, st, h => by
    unfold fLoop
    rw [if_pos (show wB wk st = true by unfold wB; rw [hw])]
    exact h0 env st h
  | d :: ds, env, st, h => by
    obtain ⟨env1, e1, h⟩ := h1 d ds env st h
    unfold fLoop
    rw [if_pos (show wB wk st = true by unfold wB; rw [hw]), e1]
    rcases h with ⟨e, s, h | h, hI⟩ | ⟨e, s, h, q⟩ | ⟨v, s, h, q⟩
    · simp only [h]; exact fLoop_h hw I Q h0 h1 ds e s hI
    · simp only [h]; exact fLoop_h hw I Q h0 h1 ds e s hI
    · simp only [h]; exact q
    · simp only [h]; exact q
/-- a loop that folds -/
theorem fLoop_fold {p : Pt} {b : Fs} {wk : Wk} {α : Type} (hw : wk.2 = none) (env : α → Env) (st : α → Store) (g : α → D → α) (ok : α → List D → Prop)
    (h1 : ∀ x d ds, ok x (d :: ds) → ∃ env1, ptSet p d (env x) (st x) = some env1 ∧ b env1 (st x) = .nx (env (g x d)) (st (g x d)) ∧ ok (g x d) ds) :
    ∀ (ds : List D) (x : α), ok x ds → fLoop p b wk ds (env x) (st x) = .nx (env (ds.foldl g x)) (st (ds.foldl g x))
  | [], x, _ => by
    unfold fLoop
    rw [if_pos (show wB wk (st x) = true by unfold wB; rw [hw])]
    rfl
  | d :: ds, x, h => by
    obtain ⟨env1, e1, e2, h⟩ := h1 x d ds h
    unfold fLoop
    rw [if_pos (show wB wk (st x) = true by unfold wB; rw [hw]), e1]
    simp only [e2]
    exact fLoop_fold hw env st g ok h1 ds (g x d) h
/-! comparisons -/
section
variable {call : Nat → Gb} {dfl : Nat → Nat → Option (List D)} {eqf : Nat → Option Nat} {eqk : Nat → Kd → Bool} {neg : Bool} {st : Store}
/-- two values without a class of their own -/
theorem eqO_pd {a b : D} {p q : PyData} (h0 : objD st a = none) (h1 : pdR st a = some p) (h2 : pdR st b = some q) (h3 : SeqAt.shaped p = true) (h4 : SeqAt.shaped q = true) : eqO call dfl eqf eqk neg a b st = .ok (.bl (if neg = true then !PyData.eqv p q else PyData.eqv p q)) st := by
  unfold eqO
  rw [h0]
  cases neg
  · show eqP a b st = _
    unfold eqP
    rw [h1, h2]
    simp [h3, h4]
  · show neP a b st = _
    unfold neP
    rw [h1, h2]
    simp [h3, h4]
@[simp] theorem eq_int {i j : Int} : eqO call dfl eqf eqk false (.int i) (.int j) st = .ok (.bl (decide (i = j))) st := by
  rw [eqO_pd (p := .int i) (q := .int j) rfl rfl rfl rfl rfl]
  show Ou.ok (D.bl (i == j)) st = _
  rw [show (i == j) = decide (i = j) from rfl]
@[simp] theorem ne_int {i j : Int} : eqO call dfl eqf eqk true (.int i) (.int j) st = .ok (.bl (decide (i ≠ j))) st := by
  rw [eqO_pd (p := .int i) (q := .int j) rfl rfl rfl rfl rfl]
  show Ou.ok (D.bl (!(i == j))) st = _
  rw [show (i == j) = decide (i = j) from rfl]
  simp
end
end Ev
set_option Elab.async false
set_option linter.all false
set_option maxRecDepth 100000
set_option maxHeartbeats 1000000
namespace Ev
open PySem PySem.Spec L2
/-! ### plain laws: the pen -/
structure Pen where
  cells : List Int
  at_ : Int
  digits : Int
  count : Int
  fold : Int
def penD (P : Pen) : List (Key × D) := [(.inr "cells", .lst (P.cells.map .int)), (.inr "at", .int P.at_), (.inr "digits", .int P.digits), (.inr "count", .int P.count), (.inr "fold", .int P.fold)]
structure PenOk (c : Nat) (P : Pen) : Prop where
  a : 0 ≤ P.at_
  d : 0 ≤ P.digits
  n : 0 ≤ P.count
  n2 : P.count ≤ c
  f : 0 ≤ P.fold
  f2 : P.fold < 2147483648
section
variable {p : Nat} {P : Pen} {st : Store} (hp : st[p]? = some (.dct (penD P)))
include hp
theorem ix_key {k : Str} {d : D} (h : getK (.inr k) (penD P) = some d) : ixP (.ref p) (.str k) st = .ok d st := by
  unfold ixP seqD
  simp only [hp]
  unfold dctD
  simp only [hp, keyD, h]
theorem ix_cells : ixP (.ref p) (.str "cells") st = .ok (.lst (P.cells.map .int)) st := ix_key hp rfl
theorem ix_at : ixP (.ref p) (.str "at") st = .ok (.int P.at_) st := ix_key hp rfl
theorem ix_digits : ixP (.ref p) (.str "digits") st = .ok (.int P.digits) st := ix_key hp rfl
theorem ix_count : ixP (.ref p) (.str "count") st = .ok (.int P.count) st := ix_key hp rfl
theorem ix_fold : ixP (.ref p) (.str "fold") st = .ok (.int P.fold) st := ix_key hp rfl
theorem set_key {k : Str} {v : Int} {r : List (Key × D)} (h : setK (.inr k) (.int v) (penD P) = r) : setP (.ref p) (.str k) (.int v) st = some (st.set p (.dct r)) := by
  unfold setP
  simp only [frz_int, hp, keyD, h]
  rw [if_pos (by show 5 < _; decide)]
theorem set_at {v : Int} : setP (.ref p) (.str "at") (.int v) st = some (st.set p (.dct (penD { P with at_ := v }))) := set_key hp rfl
theorem set_digits {v : Int} : setP (.ref p) (.str "digits") (.int v) st = some (st.set p (.dct (penD { P with digits := v }))) := set_key hp rfl
theorem set_count {v : Int} : setP (.ref p) (.str "count") (.int v) st = some (st.set p (.dct (penD { P with count := v }))) := set_key hp rfl
theorem set_fold {v : Int} : setP (.ref p) (.str "fold") (.int v) st = some (st.set p (.dct (penD { P with fold := v }))) := set_key hp rfl
end
theorem pen_set {p : Nat} {P Q : Pen} {st : Store} (hp : st[p]? = some (.dct (penD P))) : (st.set p (.dct (penD Q)))[p]? = some (.dct (penD Q)) := by
  have := (List.getElem?_eq_some_iff.mp hp).1
  simp [this]
section
variable (call : Nat → Gb) (dfl : Nat → Nat → Option (List D)) (eqf : Nat → Option Nat) (eqk : Nat → Kd → Bool) (opf : Nat → Operator → Option Nat)
def drA : Fs := sAsg (f2 (binO call dfl opf .Add) (f2 ixP (fV 0) (fK (.str "count"))) (fK (.int 1))) (gSubD (fV 0) (fK (.str "count")))
def drB : Fs := sIf (bAnd (bTr (f2 (eqO call dfl eqf eqk false) (f2 ixP (fV 0) (fK (.str "digits"))) (fK (.int 0)))) (bTr (f2 ltP (f2 ixP (fV 0) (fK (.str "at"))) (fB gLen (aCons (f2 ixP (fV 0) (fK (.str "cells"))) aNil))))) (sSeq (sSet 2 (f2 ixP (f2 ixP (fV 0) (fK (.str "cells"))) (f2 ixP (fV 0) (fK (.str "at")))))
  (sSeq (sAsg (f2 (binO call dfl opf .Add) (f2 ixP (fV 0) (fK (.str "at"))) (fK (.int 1))) (gSubD (fV 0) (fK (.str "at"))))
  (sSeq (sIf (bTr (f2 geP (fV 2) (f2 (binO call dfl opf .Pow) (fK (.int 10)) (fK (.int 18))))) (sSeq (sAsg (f2 (binO call dfl opf .Sub) (fV 2) (f2 (binO call dfl opf .Pow) (fK (.int 10)) (fK (.int 18)))) (gSubD (fV 0) (fK (.str "digits"))))
  sNil) (sSeq (sAsg (f2 (binO call dfl opf .Mod) (fB gInt (aCons (f2 (binO call dfl opf .Add) (f2 (binO call dfl opf .Mult) (f2 ixP (fV 0) (fK (.str "fold"))) (fK (.int 69069))) (fV 2)) aNil)) (fK (.int 2147483563))) (gSubD (fV 0) (fK (.str "fold"))))
  sNil))
  sNil))) sNil
def drC : Fs := sIf (bTr (f2 gtP (f2 ixP (fV 0) (fK (.str "digits"))) (fK (.int 0)))) (sSeq (sSet 3 (f2 (binO call dfl opf .Mod) (fB gInt (aCons (f2 ixP (fV 0) (fK (.str "digits"))) aNil)) (fV 1)))
  (sSeq (sAsg (f2 (binO call dfl opf .FloorDiv) (f2 ixP (fV 0) (fK (.str "digits"))) (fV 1)) (gSubD (fV 0) (fK (.str "digits"))))
  (sSeq (sRet (fV 3))
  sNil))) sNil
def drE : Fs := sSeq (sSet 4 (f2 (binO call dfl opf .Add) (f2 (binO call dfl opf .Add) (f2 ixP (fV 0) (fK (.str "fold"))) (f2 (binO call dfl opf .Mult) (f2 ixP (fV 0) (fK (.str "count"))) (fK (.int 8179)))) (fK (.int 41))))
  (sSeq (sRet (f2 (binO call dfl opf .Mod) (f2 (binO call dfl opf .FloorDiv) (fB gInt (aCons (f2 (binO call dfl opf .Mod) (f2 (binO call dfl opf .Pow) (fV 4) (fK (.int 17))) (fK (.int 2305843009213693951))) aNil)) (fK (.int 128))) (fV 1)))
  sNil)
def drawB : Fs := sSeq (drA call dfl opf) (sSeq (drB call dfl eqf eqk opf) (sSeq (drC call dfl opf) (drE call dfl opf)))
end
instance bd_8179 : Bd (8179 : Int) 13 := ⟨by decide⟩
instance bd_69069 : Bd (69069 : Int) 17 := ⟨by decide⟩
instance bd_41 : Bd (41 : Int) 6 := ⟨by decide⟩
instance bd_10 : Bd (10 : Int) 4 := ⟨by decide⟩
@[simp] theorem g_int {i : Int} {st : Store} : gInt [.int i] st = .ok (.int i) st := rfl
@[simp] theorem g_abs {i : Int} {st : Store} : gAbs [.int i] st = .ok (.int (if i < 0 then -i else i)) st := rfl
@[simp] theorem g_len_lst {xs : List D} {st : Store} : gLen [.lst xs] st = .ok (.int xs.length) st := rfl
@[simp] theorem g_len_tup {xs : List D} {st : Store} : gLen [.tup xs] st = .ok (.int xs.length) st := rfl
theorem dr_a {call : Nat → Gb} {dfl : Nat → Nat → Option (List D)} {opf : Nat → Operator → Option Nat} {p : Nat} {P : Pen} {st : Store} {m : Int} {x y z : Option D} (hp : st[p]? = some (.dct (penD P))) :
    drA call dfl opf [some (.ref p), some (.int m), x, y, z] st = .nx [some (.ref p), some (.int m), x, y, z] (st.set p (.dct (penD { P with count := P.count + 1 }))) := by
  unfold drA
  simp [ix_count hp, set_count hp]
section
variable {call : Nat → Gb} {dfl : Nat → Nat → Option (List D)} {eqf : Nat → Option Nat} {eqk : Nat → Kd → Bool} {opf : Nat → Operator → Option Nat}
theorem ix_int {xs : List Int} {i : Int} {st : Store} (h0 : 0 ≤ i) (h1 : i < xs.length) : ∃ v : Int, ixP (.lst (xs.map .int)) (.int i) st = .ok (.int v) st := by
  have hn : i.toNat < xs.length := by omega
  refine ⟨xs[i.toNat], ?_⟩
  unfold ixP atI ixN
  simp only [seq_lst, List.length_map]
  rw [if_pos h0, if_pos h1]
  simp [hn]
theorem dr_b {p : Nat} {P : Pen} {c : Nat} {st : Store} {m : Int} {y z : Option D} (hp : st[p]? = some (.dct (penD P))) (ok : PenOk c P) :
    ∃ (P' : Pen) (x' : Option D), drB call dfl eqf eqk opf [some (.ref p), some (.int m), none, y, z] st = .nx [some (.ref p), some (.int m), x', y, z] (st.set p (.dct (penD P'))) ∧ PenOk c P' := by
  have e0 : st.set p (.dct (penD P)) = st := by
    apply List.ext_getElem?
    intro i
    by_cases hi : i = p
    · subst hi; rw [pen_set hp, hp]
    · rw [List.getElem?_set_ne (fun h => hi h.symm)]
  obtain ⟨cs, a, d, n, f⟩ := P
  have g1 := ix_digits hp
  have g2 := ix_at hp
  have g3 := ix_cells hp
  simp only at g1 g2 g3
  unfold drB
  simp only [x_if, x_band, x_tr, x_f2, x_V, x_K, x_B, x_acons, x_anil, List.getElem?_cons_zero, getE_some, bind_ok, g1, g2, g3, eq_int, tru_bl, optB_some, g_len_lst, lt_p]
  by_cases h1 : d = 0
  · subst h1
    by_cases h2 : a < (cs.length : Int)
    · have o1 : 0 ≤ a := ok.a
      obtain ⟨v, hv⟩ := ix_int (xs := cs) (st := st) o1 h2
      have hq : (st.set p (.dct (penD ⟨cs, a + 1, 0, n, f⟩)))[p]? = some (.dct (penD ⟨cs, a + 1, 0, n, f⟩)) := pen_set hp
      have o2 : 0 ≤ f := ok.f
      have o3 : f < 2147483648 := ok.f2
      have bf : Bd f 31 := bd_le (by omega) (by omega)
      have n1 : (0 : Int) ≤ a + 1 := by omega
      have g4 := set_at (v := a + 1) hp
      have g5 := ix_fold hq
      simp only at g4 g5
      by_cases h3 : (10 : Int) ^ 18 ≤ v
      · have g6 := set_digits (v := v - 10 ^ 18) hq
        simp only at g6
        refine ⟨⟨cs, a + 1, v - 10 ^ 18, n, f⟩, some (.int v), ?_, ⟨n1, ?_, ok.n, ok.n2, o2, o3⟩⟩
        · simp [h2, hv, g2, g3, g4, x_if, -Int.reducePow, h3, g6]
        · show (0 : Int) ≤ v - 10 ^ 18; omega
      · have g6 := set_fold (v := (f * 69069 + v).fmod 2147483563) hq
        simp only at g6
        refine ⟨⟨cs, a + 1, 0, n, (f * 69069 + v).fmod 2147483563⟩, some (.int v), ?_, ⟨n1, ok.d, ok.n, ok.n2, ?_, ?_⟩⟩
        · simp [h2, hv, g2, g3, g4, x_if, -Int.reducePow, h3, g5, g6, bq_mod]
        · exact Int.fmod_nonneg_of_pos _ (by decide)
        · have := Int.fmod_lt_of_pos (f * 69069 + v) (show (0 : Int) < 2147483563 by decide)
          show (f * 69069 + v).fmod 2147483563 < 2147483648
          omega
    · refine ⟨⟨cs, a, 0, n, f⟩, none, ?_, ok⟩
      rw [e0]
      simp [h2]
  · refine ⟨⟨cs, a, d, n, f⟩, none, ?_, ok⟩
    rw [e0]
    simp [h1]
theorem draw_ok {p : Nat} {P : Pen} {c : Nat} {st : Store} {m : Int} (hp : st[p]? = some (.dct (penD P))) (ok : PenOk c P) (hc : c < 1000000) (hm : 0 < m) (hm2 : m < 2 ^ 64) :
    ∃ (v : Int) (P' : Pen), defP false 5 (drawB call dfl eqf eqk opf) [.ref p, .int m] st = .ok (.int v) (st.set p (.dct (penD P'))) ∧ 0 ≤ v ∧ v < m ∧ PenOk (c + 1) P' := by
  have ok1 : PenOk (c + 1) { P with count := P.count + 1 } := ⟨ok.a, ok.d, by have := ok.n; show (0 : Int) ≤ P.count + 1; omega, by have := ok.n2; show P.count + 1 ≤ ((c + 1 : Nat) : Int); omega, ok.f, ok.f2⟩
  have bm : Bd m 64 := bd_le (by omega) hm2
  have hm0 : m ≠ 0 := by omega
  have dm : divOk m := divOk_bd hm0 (by decide)
  obtain ⟨P2, x2, e2, ok2⟩ := dr_b (call := call) (dfl := dfl) (eqf := eqf) (eqk := eqk) (opf := opf) (m := m) (y := none) (z := none) (pen_set (Q := { P with count := P.count + 1 }) hp) ok1
  simp only [List.set_set] at e2
  have hp2 : (st.set p (.dct (penD P2)))[p]? = some (.dct (penD P2)) := pen_set hp
  have e0 : defP false 5 (drawB call dfl eqf eqk opf) [.ref p, .int m] st = endP false st.length ((drC call dfl opf [some (.ref p), some (.int m), x2, none, none] (st.set p (.dct (penD P2)))).seq (drE call dfl opf)) := by
    unfold defP drawB
    simp only [List.length_cons, List.length_nil, List.map_cons, List.map_nil, List.replicate, List.cons_append, List.nil_append, x_seq, dr_a hp, seq_nx, e2]
    rfl
  rw [e0]
  unfold drC
  simp only [x_if, x_tr, x_f2, x_V, x_K, List.getElem?_cons_zero, getE_some, bind_ok, ix_digits hp2, gt_p, tru_bl, optB_some, thn_ok]
  by_cases h : 0 < P2.digits
  · refine ⟨P2.digits.fmod m, { P2 with digits := P2.digits.fdiv m }, ?_, Int.fmod_nonneg_of_pos _ hm, Int.fmod_lt_of_pos _ hm, ⟨ok2.a, Int.fdiv_nonneg ok2.d (by omega), ok2.n, ok2.n2, ok2.f, ok2.f2⟩⟩
    simp [h, ix_digits hp2, set_digits hp2, bq_mod hm0, bq_fdiv dm, set_take]
  · have b1 : Bd P2.fold 31 := bd_le (by have := ok2.f; omega) (by have := ok2.f2; omega)
    have b2 : Bd P2.count 20 := bd_le (by have := ok2.n; omega) (by have := ok2.n2; omega)
    have d1 : divOk 128 := ⟨by decide, by decide⟩
    refine ⟨((((P2.fold + P2.count * 8179 + 41) ^ 17).fmod 2305843009213693951).fdiv 128).fmod m, P2, ?_, ?_, ?_, ok2⟩
    · simp [h, drE, ix_fold hp2, ix_count hp2, bq_mod hm0, bq_mod (show (2305843009213693951 : Int) ≠ 0 by decide), bq_fdiv d1, set_take]
    · exact Int.fmod_nonneg_of_pos _ hm
    · exact Int.fmod_lt_of_pos _ hm
end
end Ev
set_option Elab.async false
set_option linter.all false
set_option maxRecDepth 100000
set_option maxHeartbeats 1000000
namespace Ev
open PySem PySem.Spec L2
/-! ### plain laws: a pen made, greatest divisors, ratios -/
def penB (call : Nat → Gb) (dfl : Nat → Nat → Option (List D)) (opf : Nat → Operator → Option Nat) : Fs := (sSeq (sSet 1 (fK (.int 0)))
  (sSeq (sFor (.nm 2) (iSeq (fV 0)) (sSeq (sSet 1 (f2 (binO call dfl opf .Mod) (fB gInt (aCons (f2 (binO call dfl opf .Add) (f2 (binO call dfl opf .Mult) (fV 1) (fK (.int 59))) (fV 2)) aNil)) (fK (.int 1000000009))))
  sNil))
  (sSeq (sRet (fDict (pCons (fK (.str "cells")) (fFrz (lList (fV 0))) (pCons (fK (.str "at")) (fK (.int 0)) (pCons (fK (.str "digits")) (fK (.int 0)) (pCons (fK (.str "count")) (fK (.int 0)) (pCons (fK (.str "fold")) (fV 1) pNil)))))))
  sNil)))
@[simp] theorem x_for {p : Pt} {i : Fi} {b : Fs} {env : Env} {st : Store} : sFor p i b env st = (i env st).thn env fun wk st1 => fLoop p b wk wk.1 env st1 := rfl
@[simp] theorem x_iseq {a : Fx} {env : Env} {st : Store} : iSeq a env st = (a env st).bind itemsD := rfl
@[simp] theorem its_scr {xs : List D} {st : Store} : itemsD (.scr xs) st = .ok (xs, none) st := rfl
@[simp] theorem its_tup {xs : List D} {st : Store} : itemsD (.tup xs) st = .ok (xs, none) st := rfl
@[simp] theorem its_lst {xs : List D} {st : Store} : itemsD (.lst xs) st = .ok (xs, none) st := rfl
@[simp] theorem x_llist {a : Fx} {env : Env} {st : Store} {b : Bool} {xs : List D} {d : D} {st1 : Store} (h : a env st = .ok d st1) (h2 : seqD st1 d = some (b, xs)) : lList a env st = .ok xs st1 := by
  unfold lList
  rw [h]
  simp only [bind_ok, h2]
instance bd_59 : Bd (59 : Int) 6 := ⟨by decide⟩
theorem pen_ok {call : Nat → Gb} {dfl : Nat → Nat → Option (List D)} {opf : Nat → Operator → Option Nat} {ns : List Int} {st : Store} : ∃ P : Pen, P.cells = ns ∧ PenOk 0 P ∧ defP false 3 (penB call dfl opf) [.scr (ns.map .int)] st = .ok (.ref st.length) (st ++ [.dct (penD P)]) := by
  let body : Fs := (sSeq (sSet 1 (f2 (binO call dfl opf .Mod) (fB gInt (aCons (f2 (binO call dfl opf .Add) (f2 (binO call dfl opf .Mult) (fV 1) (fK (.int 59))) (fV 2)) aNil)) (fK (.int 1000000009)))) sNil)
  have key : ∀ (ms : List Int) (x : Option D) (f : Int), 0 ≤ f → f < 1000000009 → ∃ (x' : Option D) (f' : Int), 0 ≤ f' ∧ f' < 1000000009 ∧ fLoop (.nm 2) body (ns.map .int, none) (ms.map .int) [some (.scr (ns.map .int)), some (.int f), x] st = .nx [some (.scr (ns.map .int)), some (.int f'), x'] st := by
    intro ms
    induction ms with
    | nil => intro x f h0 h1; exact ⟨x, f, h0, h1, rfl⟩
    | cons m ms ih =>
      intro x f h0 h1
      have bf : Bd f 31 := bd_le (by omega) (by omega)
      obtain ⟨x', f', a1, a2, a3⟩ := ih (some (.int m)) ((f * 59 + m).fmod 1000000009) (Int.fmod_nonneg_of_pos _ (by decide)) (Int.fmod_lt_of_pos _ (by decide))
      refine ⟨x', f', a1, a2, ?_⟩
      rw [← a3]
      show fLoop (.nm 2) body (ns.map .int, none) (.int m :: ms.map .int) _ st = _
      conv => lhs; unfold fLoop
      rw [if_pos (show wB (ns.map D.int, none) st = true from rfl)]
      simp [body, bq_mod]
  obtain ⟨x', f', h0, h1, h2⟩ := key ns none 0 (by decide) (by decide)
  refine ⟨⟨ns, 0, 0, 0, f'⟩, rfl, ⟨Int.le_refl 0, Int.le_refl 0, Int.le_refl 0, Int.le_refl 0, h0, by show f' < 2147483648; omega⟩, ?_⟩
  have h2 : fLoop (.nm 2) body (ns.map .int, none) (ns.map .int) [some (.scr (ns.map .int)), some (.int 0), none] st = .nx [some (.scr (ns.map .int)), some (.int f'), x'] st := h2
  have e : fDict (pCons (fK (.str "cells")) (fFrz (lList (fV 0))) (pCons (fK (.str "at")) (fK (.int 0)) (pCons (fK (.str "digits")) (fK (.int 0)) (pCons (fK (.str "count")) (fK (.int 0)) (pCons (fK (.str "fold")) (fV 1) pNil))))) [some (.scr (ns.map .int)), some (.int f'), x'] st = .ok (.ref st.length) (st ++ [.dct (penD ⟨ns, 0, 0, 0, f'⟩)]) := by
    unfold fDict
    rw [show (pCons (fK (.str "cells")) (fFrz (lList (fV 0))) (pCons (fK (.str "at")) (fK (.int 0)) (pCons (fK (.str "digits")) (fK (.int 0)) (pCons (fK (.str "count")) (fK (.int 0)) (pCons (fK (.str "fold")) (fV 1) pNil))))) [some (.scr (ns.map .int)), some (.int f'), x'] (st ++ [.dct []]) = .ok (penD ⟨ns, 0, 0, 0, f'⟩) (st ++ [.dct []]) from rfl]
    simp only [bind_ok, app_get, app_set]
    rw [if_pos (by show 5 ≤ 15; decide)]
    rfl
  unfold defP penB
  simp only [List.length_cons, List.length_nil, List.map_cons, List.map_nil, List.replicate, List.cons_append, List.nil_append, x_seq, x_set, x_K, thn_ok, List.set_cons_succ, List.set_cons_zero, seq_nx, x_for, x_iseq, x_V, List.getElem?_cons_zero, getE_some, bind_ok, its_scr]
  rw [if_pos (by decide)]
  show endP false st.length (((fLoop (.nm 2) body (ns.map .int, none) (ns.map .int) [some (.scr (ns.map .int)), some (.int 0), none] st).seq _)) = _
  rw [h2]
  simp only [seq_nx, x_seq, x_ret, e, thn_ok, seq_rt, x_endrt]
  unfold retP
  simp
/-- Euclid -/
def gcdC : Fb := bTr (f2 gtP (fV 1) (fK (.int 0)))
def gcdL (call : Nat → Gb) (dfl : Nat → Nat → Option (List D)) (opf : Nat → Operator → Option Nat) : Fs := sSeq (sPar2 0 1 (aCons (fV 1) (aCons (f2 (binO call dfl opf .Mod) (fV 0) (fV 1)) aNil))) sNil
def gcdB (call : Nat → Gb) (dfl : Nat → Nat → Option (List D)) (opf : Nat → Operator → Option Nat) (fuel : Nat) : Fs := (sSeq (sPar2 0 1 (aCons (fB gAbs (aCons (fV 0) aNil)) (aCons (fB gAbs (aCons (fV 1) aNil)) aNil)))
  (sSeq (wLoop gcdC (gcdL call dfl opf) fuel)
  (sSeq (sRet (fV 0))
  sNil)))
theorem gcd_loop {call : Nat → Gb} {dfl : Nat → Nat → Option (List D)} {opf : Nat → Operator → Option Nat} {st : Store} : ∀ (n : Nat) (a b : Nat), b < n → wLoop gcdC (gcdL call dfl opf) n [some (.int a), some (.int b)] st = .nx [some (.int (Nat.gcd a b : Nat)), some (.int 0)] st
  | 0, a, b, h => by omega
  | n + 1, a, b, h => by
    unfold wLoop
    by_cases hb : b = 0
    · subst hb
      simp [gcdC]
    · have hb0 : (0 : Int) < (b : Int) := by omega
      have hbn : (b : Int) ≠ 0 := by omega
      have hm : a % b < b := Nat.mod_lt _ (Nat.pos_of_ne_zero hb)
      have e : ((a : Int).fmod (b : Int)) = ((a % b : Nat) : Int) := by rw [Int.fmod_eq_emod_of_nonneg _ (by omega)]; simp
      have ih := gcd_loop (call := call) (dfl := dfl) (opf := opf) (st := st) n b (a % b) (by omega)
      rw [Nat.gcd_comm b (a % b), ← Nat.gcd_rec, Nat.gcd_comm b a] at ih
      have e1 : gcdC [some (.int a), some (.int b)] st = .ok true st := by simp [gcdC, Nat.pos_of_ne_zero hb]
      have e2 : gcdL call dfl opf [some (.int a), some (.int b)] st = .nx [some (.int b), some (.int ((a % b : Nat) : Int))] st := by
        rw [← e]
        simp [gcdL, bq_mod hbn]
      rw [e1]
      simp only [thn_ok, e2]
      exact ih
theorem abs_nat (i : Int) : (if i < 0 then -i else i) = (i.natAbs : Int) := by split <;> omega
theorem gcd_ok {call : Nat → Gb} {dfl : Nat → Nat → Option (List D)} {opf : Nat → Operator → Option Nat} {fuel : Nat} {a b : Int} {st : Store} (h : b.natAbs < fuel) : defP false 2 (gcdB call dfl opf fuel) [.int a, .int b] st = .ok (.int (Nat.gcd a.natAbs b.natAbs : Nat)) st := by
  unfold defP gcdB
  have e := gcd_loop (call := call) (dfl := dfl) (opf := opf) (st := st) fuel a.natAbs b.natAbs h
  simp [abs_nat, e, take_self]
/-- a ratio in lowest terms -/
def qv (t b : Int) : Int × Int := if 0 < b then (t.fdiv (Nat.gcd t.natAbs b.natAbs : Nat), b.fdiv (Nat.gcd t.natAbs b.natAbs : Nat)) else ((-t).fdiv (Nat.gcd t.natAbs b.natAbs : Nat), (-b).fdiv (Nat.gcd t.natAbs b.natAbs : Nat))
theorem gcd_div {t b : Int} {k : Nat} [c : Bd b k] (h : b ≠ 0) (hk : k < 9000) : divOk (Nat.gcd t.natAbs b.natAbs : Nat) := by
  have hb : 0 < b.natAbs := by omega
  have h1 : Nat.gcd t.natAbs b.natAbs ≤ b.natAbs := Nat.gcd_le_right _ hb
  have h2 : 0 < Nat.gcd t.natAbs b.natAbs := Nat.gcd_pos_of_pos_right _ hb
  have bd : Bd ((Nat.gcd t.natAbs b.natAbs : Nat) : Int) k := ⟨by rw [Int.natAbs_natCast]; exact Nat.lt_of_le_of_lt h1 c.h⟩
  exact divOk_bd (by omega) hk
section
variable (call : Nat → Gb) (dfl : Nat → Nat → Option (List D)) (opf : Nat → Operator → Option Nat)
def qB (ngf : Nat → Option Nat) (g : Nat) : Fs := (sSeq (sSet 2 (fB (callP call dfl g) (aCons (fV 0) (aCons (fV 1) aNil))))
  (sSeq (sRet (fIf (bTr (f2 gtP (fV 1) (fK (.int 0)))) (fTup (aCons (f2 (binO call dfl opf .FloorDiv) (fV 0) (fV 2)) (aCons (f2 (binO call dfl opf .FloorDiv) (fV 1) (fV 2)) aNil))) (fTup (aCons (f2 (binO call dfl opf .FloorDiv) (f1 (negO call dfl ngf) (fV 0)) (fV 2)) (aCons (f2 (binO call dfl opf .FloorDiv) (f1 (negO call dfl ngf) (fV 1)) (fV 2)) aNil)))))
  sNil))
end
theorem q_ok {ngf : Nat → Option Nat} {call : Nat → Gb} {dfl : Nat → Nat → Option (List D)} {opf : Nat → Operator → Option Nat} {g k : Nat} {t b : Int} {st : Store} [c : Bd b k] (hg : callP call dfl g [.int t, .int b] st = .ok (.int (Nat.gcd t.natAbs b.natAbs : Nat)) st) (h : b ≠ 0) (hk : k < 9000) :
    defP false 3 (qB call dfl opf ngf g) [.int t, .int b] st = .ok (.tup [.int (qv t b).1, .int (qv t b).2]) st := by
  have d := gcd_div (t := t) h hk
  unfold defP qB qv
  by_cases hb : 0 < b
  · simp [hg, hb, bq_fdiv d, size_line, take_self]
  · simp [hg, hb, bq_fdiv d, size_line, take_self]
theorem qv_one (t : Int) : qv t 1 = (t, 1) := by
  unfold qv
  simp
end Ev
set_option Elab.async false
set_option linter.all false
set_option maxRecDepth 100000
set_option maxHeartbeats 1000000
namespace Ev
open PySem PySem.Spec L2
/-! ### plain laws: objects, raised errors, rows that are given -/
def putA (ao : Nat → Nat → Bool) (f : Nat) (d : D) (o : Option (D × Store)) (env : Env) : Os := match d, o with
  | .ref i, some (z, st3) => (match st3[i]? with
    | some (.ins c fs) => if ao c f = true ∧ fs.length < 1000 then .nx env (st3.set i (.ins c (setF f z fs))) else .stuck
    | _ => .stuck)
  | _, _ => .stuck
@[simp] theorem x_att {ao : Nat → Nat → Bool} {f : Nat} {o e : Fx} {env : Env} {st : Store} : sAtt ao f o e env st = (e env st).thn env fun y st1 => (o env st1).thn env fun d st2 => putA ao f d (frz y st2) env := by
  unfold sAtt putA
  rfl
theorem putA_ok {ao : Nat → Nat → Bool} {f i c : Nat} {fs : List (Nat × D)} {z : D} {st : Store} {env : Env} (h : st[i]? = some (.ins c fs)) (h1 : ao c f = true) (h2 : fs.length < 1000) : putA ao f (.ref i) (some (z, st)) env = .nx env (st.set i (.ins c (setF f z fs))) := by
  unfold putA
  simp only [h]
  rw [if_pos ⟨h1, h2⟩]
theorem att_obj {ao : Nat → Nat → Bool} {f c : Nat} {fs : List (Nat × D)} {y : D} {st : Store} (h : getF f fs = some y) (h1 : ao c f = true) : attP ao f (.obj c fs) st = .ok y st := by
  show (match getF f fs with | some y => if ao c f = true then Ou.ok y st else .stuck | none => .stuck) = _
  rw [h]
  simp only [if_pos h1]
theorem att_ref {ao : Nat → Nat → Bool} {f c i : Nat} {fs : List (Nat × D)} {y : D} {st : Store} (hs : st[i]? = some (.ins c fs)) (h : getF f fs = some y) (h1 : ao c f = true) : attP ao f (.ref i) st = .ok y st := by
  unfold attP objD
  simp only [hs, h, if_pos h1]
def raiseO (o : Option (List Nat)) (c : Nat) (p : Option (List D × Store)) (env : Env) : Os := match o, p with
  | some fl, some (es, st2) => if es.length = fl.length ∧ es.length ≤ 1000 then .exc c (fl.zip es).reverse env st2 else .stuck
  | _, _ => .stuck
@[simp] theorem x_raise {exf : Nat → Option (List Nat)} {c : Nat} {a : Fa} {env : Env} {st : Store} : sRaise exf c a env st = (a env st).thn env fun ds st1 => raiseO (exf c) c (frzs ds st1) env := by
  unfold sRaise raiseO
  rfl
@[simp] theorem raise1 {c f : Nat} {d : D} {st : Store} {env : Env} : raiseO (some [f]) c (some ([d], st)) env = .exc c [(f, d)] env st := rfl
theorem make_ok {call : Nat → Gb} {dfl : Nat → Nat → Option (List D)} {ini : Nat → Option Nat} {c i : Nat} {ds : List D} {fs : List (Nat × D)} {st : Store} (h : ini c = some i) (h1 : callP call dfl i (.ref st.length :: ds) (st ++ [.ins c []]) = .ok .non (st ++ [.ins c fs])) : makeP call dfl ini c ds st = .ok (.obj c fs) st := by
  unfold makeP
  rw [h]
  simp only [h1, app_get, app_take]
  simp
theorem make_exc {call : Nat → Gb} {dfl : Nat → Nat → Option (List D)} {ini : Nat → Option Nat} {c i k : Nat} {ds : List D} {fs : List (Nat × D)} {st : Store} {x : Cell} (h : ini c = some i) (h1 : callP call dfl i (.ref st.length :: ds) (st ++ [.ins c []]) = .exc k fs (st ++ [x])) : makeP call dfl ini c ds st = .exc k fs st := by
  unfold makeP
  rw [h]
  simp only [h1, app_take]
/-- d is read as the row xs -/
structure RowV (st : Store) (d : D) (xs : List D) : Prop where
  seq : ∃ b, seqD st d = some (b, xs)
  kd : kdOf st d = some .lst ∨ kdOf st d = some .tup
  it : ∃ o, itemsD d st = .ok (xs, o) st ∧ ∀ more, wB (xs, o) (st ++ more) = true
theorem RowV.tup {st : Store} {xs : List D} : RowV st (.tup xs) xs := ⟨⟨_, rfl⟩, .inr rfl, none, rfl, fun _ => rfl⟩
theorem RowV.lst {st : Store} {xs : List D} : RowV st (.lst xs) xs := ⟨⟨_, rfl⟩, .inl rfl, none, rfl, fun _ => rfl⟩
theorem RowV.ref {st : Store} {i : Nat} {xs : List D} (h : st[i]? = some (.lst xs)) (g : gEqs xs xs = true) : RowV st (.ref i) xs := by
  refine ⟨⟨false, by unfold seqD; simp only [h]⟩, .inl (by unfold kdOf; simp only [h]), some i, ?_, fun more => ?_⟩
  · unfold itemsD liveD
    simp only [h]
    rw [if_pos g]
  · unfold wB
    have hi := (List.getElem?_eq_some_iff.mp h).1
    simp only [List.getElem?_append_left hi, h]
    exact g
theorem RowV.len {st : Store} {d : D} {xs : List D} (h : RowV st d xs) : gLen [d] st = .ok (.int xs.length) st := by
  obtain ⟨b, e⟩ := h.seq
  unfold gLen lenD
  cases d with
  | str x => cases e
  | _ => simp [e]
theorem RowV.tupl {st : Store} {d : D} {xs : List D} (h : RowV st d xs) : gTup [d] st = .ok (.tup xs) st := by
  obtain ⟨b, e⟩ := h.seq
  unfold gTup
  simp [e]
theorem RowV.list {st : Store} {env : Env} {d : D} {xs : List D} {a : Fx} (h : RowV st d xs) (ha : a env st = .ok d st) : lList a env st = .ok xs st := by
  obtain ⟨b, e⟩ := h.seq
  exact x_llist ha e
theorem gEqs_ints : ∀ ns : List Int, gEqs (ns.map .int) (ns.map .int) = true
  | [] => rfl
  | n :: ns => by
    show (gEq (.int n) (.int n) && gEqs _ _) = true
    rw [gEqs_ints ns]
    simp [gEq]
def isI : D → Bool
  | .int _ => true
  | _ => false
/-- a value of a plain kind -/
def plainK : D → Bool
  | .int _ | .bl _ | .non | .str _ | .tup _ | .lst _ => true
  | _ => false
def isIntB (io : Kd → Ck → Option Bool) : Fs := (sSeq (sRet (fAnd (f1 (isaP io .int) (fV 0)) (fNot (f1 (isaP io .bl) (fV 0)))))
  sNil)
theorem isint_ok {io : Kd → Ck → Option Bool} {d : D} {st : Store} (h : plainK d = true) : defP false 1 (isIntB io) [d] st = .ok (.bl (isI d)) st := by
  cases d <;> first | (cases h; done) | (unfold defP isIntB; simp [isaP, kdOf, isB, Kd.name, Ck.name, isI, take_self])
def isRowB (io : Kd → Ck → Option Bool) : Fs := (sSeq (sRet (f1 (isaT io [.lst, .tup]) (fV 0)))
  sNil)
theorem isrow_yes {io : Kd → Ck → Option Bool} {d : D} {st : Store} (h : kdOf st d = some .lst ∨ kdOf st d = some .tup) : defP false 1 (isRowB io) [d] st = .ok (.bl true) st := by
  unfold defP isRowB
  rcases h with h | h <;> simp [isaT, h, isB, isAny, Kd.name, Ck.name, take_self]
theorem isrow_no {io : Kd → Ck → Option Bool} {d : D} {st : Store} (h : kdOf st d = some .non ∨ kdOf st d = some .int ∨ kdOf st d = some .str ∨ kdOf st d = some .bl) : defP false 1 (isRowB io) [d] st = .ok (.bl false) st := by
  unfold defP isRowB
  rcases h with h | h | h | h <;> simp [isaT, h, isB, isAny, Kd.name, Ck.name, take_self]
/-! tuples of ints compared -/
theorem pds_ints : ∀ ns : List Int, pds (ns.map D.int) = some (ns.map PyData.int)
  | [] => rfl
  | n :: ns => by
    show (match pd (.int n), pds (ns.map D.int) with | some p, some ps => some (p :: ps) | _, _ => none) = _
    rw [pds_ints ns]
    rfl
theorem eqvAll_ints : ∀ ns ms : List Int, PyData.eqvAll (ns.map PyData.int) (ms.map PyData.int) = decide (ns = ms)
  | [], [] => rfl
  | [], _ :: _ => rfl
  | _ :: _, [] => rfl
  | n :: ns, m :: ms => by
    show (PyData.eqv (.int n) (.int m) && PyData.eqvAll (ns.map PyData.int) (ms.map PyData.int)) = _
    rw [eqvAll_ints ns ms]
    show ((n == m) && _) = _
    rw [show (n == m) = decide (n = m) from rfl]
    by_cases h : n = m <;> by_cases h2 : ns = ms <;> simp [h, h2]
theorem canLayAll_ints : ∀ ns : List Int, PyData.canLayAll0 (ns.map PyData.int) = true
  | [] => rfl
  | n :: ns => by
    show (PyData.canLay0 (.int n) && PyData.canLayAll0 (ns.map PyData.int)) = true
    rw [canLayAll_ints ns]
    rfl
theorem depthAll_ints : ∀ ns : List Int, PyData.depthAll (ns.map PyData.int) = 0
  | [] => rfl
  | n :: ns => by
    show max 0 (PyData.depthAll (ns.map PyData.int)) = 0
    rw [depthAll_ints ns]
    rfl
theorem shp_ints (ns : List Int) : SeqAt.shaped (.tuple (ns.map PyData.int)) = true := by
  show (PyData.canLayAll0 (ns.map PyData.int) && decide (PyData.depthAll (ns.map PyData.int) + 1 ≤ 64)) = true
  rw [canLayAll_ints, depthAll_ints]
  rfl
section
variable {call : Nat → Gb} {dfl : Nat → Nat → Option (List D)} {eqf : Nat → Option Nat} {eqk : Nat → Kd → Bool} {st : Store}
theorem eq_tups {ns ms : List Int} : eqO call dfl eqf eqk false (.tup (ns.map .int)) (.tup (ms.map .int)) st = .ok (.bl (decide (ns = ms))) st := by
  rw [eqO_pd (p := .tuple (ns.map PyData.int)) (q := .tuple (ms.map PyData.int)) rfl (by show (pds _).map _ = _; rw [pds_ints]; rfl) (by show (pds _).map _ = _; rw [pds_ints]; rfl) (shp_ints _) (shp_ints _)]
  show Ou.ok (D.bl (PyData.eqvAll _ _)) st = _
  rw [eqvAll_ints]
theorem ne_tups {ns ms : List Int} : eqO call dfl eqf eqk true (.tup (ns.map .int)) (.tup (ms.map .int)) st = .ok (.bl (decide (ns ≠ ms))) st := by
  rw [eqO_pd (p := .tuple (ns.map PyData.int)) (q := .tuple (ms.map PyData.int)) rfl (by show (pds _).map _ = _; rw [pds_ints]; rfl) (by show (pds _).map _ = _; rw [pds_ints]; rfl) (shp_ints _) (shp_ints _)]
  show Ou.ok (D.bl (!PyData.eqvAll _ _)) st = _
  rw [eqvAll_ints]
  simp
end
end Ev
set_option Elab.async false
set_option linter.all false
set_option maxRecDepth 100000
set_option maxHeartbeats 1000000
namespace Ev
open PySem PySem.Spec L2
/-! ### plain laws: short loops by hand -/
def lpO (o : Os) (k : Env → Store → Os) : Os := match o with
  | .nx e s => k e s
  | .ct e s => k e s
  | .bk e s => .nx e s
  | o => o
section
variable {k : Env → Store → Os} {e : Env} {s : Store}
@[simp] theorem lp_nx : lpO (.nx e s) k = k e s := rfl
@[simp] theorem lp_ct : lpO (.ct e s) k = k e s := rfl
@[simp] theorem lp_bk : lpO (.bk e s) k = .nx e s := rfl
@[simp] theorem lp_rt {d : D} : lpO (.rt d s) k = .rt d s := rfl
@[simp] theorem lp_exc {c : Nat} {fs : List (Nat × D)} : lpO (.exc c fs e s) k = .exc c fs e s := rfl
theorem lp_congr {o o' : Os} (h : o = o') : lpO o k = lpO o' k := by rw [h]
end
@[simp] theorem fl_nil {p : Pt} {b : Fs} {xs : List D} {env : Env} {st : Store} : fLoop p b (xs, none) [] env st = .nx env st := rfl
@[simp] theorem fl_nm {i : Nat} {b : Fs} {xs ds : List D} {d : D} {env : Env} {st : Store} : fLoop (.nm i) b (xs, none) (d :: ds) env st = lpO (b (env.set i (some d)) st) fun e s => fLoop (.nm i) b (xs, none) ds e s := by
  conv => lhs; unfold fLoop
  rw [if_pos (show wB (xs, none) st = true from rfl), pt_nm]
  unfold lpO
  rfl
@[simp] theorem fl_ct {env : Env} {st : Store} : (fun (env : Env) (st : Store) => Os.ct env st) env st = .ct env st := rfl
def appO (a d : D) (o : Option (D × Store)) : Oe := match o with
  | some (z, st3) => (match lstC st3 a with
      | some (i, xs) => if xs.length < sizeLine then .ok .non (st3.set i (.lst (xs ++ [z]))) else .stuck
      | none => .stuck)
  | none => .stuck
def appC (b : Option (Nat × List D)) (o : Oe) (a : D) : Oe := match b with
  | some _ => o.bind fun d st2 => appO a d (frz d st2)
  | none => .stuck
@[simp] theorem x_app {o e : Fx} {env : Env} {st : Store} : fApp o e env st = (o env st).bind fun a st1 => appC (lstC st1 a) (e env st1) a := by
  unfold fApp appC appO
  rfl
@[simp] theorem appC_some {p : Nat × List D} {o : Oe} {a : D} : appC (some p) o a = o.bind fun d st2 => appO a d (frz d st2) := rfl
@[simp] theorem lstC_app {st : Store} {xs : List D} : lstC (st ++ [.lst xs]) (.ref st.length) = some (st.length, xs) := by
  unfold lstC
  simp only [app_get]
@[simp] theorem appO_app {st : Store} {xs : List D} {d z : D} (h : xs.length < 16777216) : appO (.ref st.length) d (some (z, st ++ [.lst xs])) = .ok .non (st ++ [.lst (xs ++ [z])]) := by
  unfold appO
  simp only [lstC_app, app_set]
  exact if_pos h
@[simp] theorem frz_app {st : Store} {xs : List D} : frz (.ref st.length) (st ++ [.lst xs]) = some (.lst xs, st ++ [.fls xs]) := by
  unfold frz
  simp only [app_get, app_set]
def zipO (o : Option (List D × Store)) : Ou Wk := match o with
  | some ([x, y], st3) => (match seqD st3 x, seqD st3 y with
    | some (_, xs), some (_, ys) => .ok (List.zipWith (fun x y => D.tup [x, y]) xs ys, none) st3
    | _, _ => .stuck)
  | _ => .stuck
@[simp] theorem x_zip {f g : Fx} {env : Env} {st : Store} : iZip f g env st = (f env st).bind fun a st1 => (g env st1).bind fun c st2 => zipO (frzs [a, c] st2) := by
  unfold iZip zipO
  rfl
@[simp] theorem zip_lt {xs ys : List D} {st : Store} : zipO (some ([.lst xs, .tup ys], st)) = .ok (List.zipWith (fun x y => D.tup [x, y]) xs ys, none) st := rfl
theorem frz_own {st : Store} {i : Nat} {xs : List D} (h : st[i]? = some (.lst xs)) : frz (.ref i) st = some (.lst xs, st.set i (.fls xs)) := by
  unfold frz
  simp only [h]
@[simp] theorem x_r1 {a : Fx} {env : Env} {st : Store} : iR1 a env st = (a env st).bind fun d st1 => match d with
  | .int j => if smallR j then .ok (intsD 0 j.toNat, none) st1 else .stuck
  | _ => .stuck := rfl
@[simp] theorem x_setF {i : Nat} {f : FL} {env : Env} {st : Store} : sSetF i f env st = (f env st).thn env fun xs st1 => .nx (env.set i (some (.lst xs))) st1 := rfl
@[simp] theorem isa_int {io : Kd → Ck → Option Bool} {i : Int} {st : Store} : isaP io .int (.int i) st = .ok (.bl true) st := rfl
@[simp] theorem bq_lst {xs ys : List D} {st : Store} (h : xs.length + ys.length ≤ 16777216) : binQ .Add (.lst xs) (.lst ys) st = .ok (.lst (xs ++ ys)) st := by
  show (if Operator.Add = Operator.Add ∧ xs.length + ys.length ≤ sizeLine then Ou.ok (D.lst (xs ++ ys)) st else .stuck) = _
  rw [if_pos ⟨rfl, h⟩]
@[simp] theorem bq_tup {xs ys : List D} {st : Store} (h : xs.length + ys.length ≤ 16777216) : binQ .Add (.tup xs) (.tup ys) st = .ok (.tup (xs ++ ys)) st := by
  show (if Operator.Add = Operator.Add ∧ xs.length + ys.length ≤ sizeLine then Ou.ok (D.tup (xs ++ ys)) st else .stuck) = _
  rw [if_pos ⟨rfl, h⟩]
end Ev
set_option Elab.async false
set_option linter.all false
set_option maxRecDepth 100000
set_option maxHeartbeats 1000000
namespace Ev
open PySem PySem.Spec L2
/-! ### plain laws: how often a prime divides, powers -/
theorem fmod_dvd {p x : Int} (hp : 0 < p) : x.fmod p = 0 ↔ p ∣ x := by
  rw [Int.fmod_eq_emod_of_nonneg _ (Int.le_of_lt hp)]
  exact (Int.dvd_iff_emod_eq_zero).symm
/-- v tells how often p divides x -/
structure VOf (p x v : Int) : Prop where
  n : 0 ≤ v
  h : ∀ k : Nat, k < 9000 → ((k : Int) ≤ v ↔ p ^ k ∣ x)
theorem VOf.zero {p v : Int} (h : 9000 ≤ v) : VOf p 0 v := ⟨by omega, fun k hk => ⟨fun _ => Int.dvd_zero _, fun _ => by omega⟩⟩
theorem pow_pos' {p : Int} (hp : 0 < p) (k : Nat) : 0 < p ^ k := Int.pow_pos hp
theorem VOf.of {p x m : Int} {w : Nat} (hp : 1 < p) (e : x = p ^ w * m) (hm : ¬ p ∣ m) : VOf p x (w : Int) := by
  refine ⟨Int.natCast_nonneg _, fun k _ => ⟨fun h => ?_, fun h => ?_⟩⟩
  · have hk : k ≤ w := by omega
    obtain ⟨j, rfl⟩ := Nat.exists_eq_add_of_le hk
    rw [e, Int.pow_add, Int.mul_assoc]
    exact Int.dvd_mul_right _ _
  · refine Decidable.byContradiction fun hk => hm ?_
    have hk : w + 1 ≤ k := by omega
    obtain ⟨j, rfl⟩ := Nat.exists_eq_add_of_le hk
    obtain ⟨c, hc⟩ := h
    rw [e] at hc
    have hw : p ^ w ≠ 0 := by have := pow_pos' (show 0 < p by omega) w; omega
    have e2 : p ^ w * m = p ^ w * (p * (p ^ j * c)) := by
      rw [hc, Int.pow_add, Int.pow_succ]
      grind
    exact ⟨p ^ j * c, Int.eq_of_mul_eq_mul_left hw e2⟩
theorem fdiv_abs_lt {p x : Int} (hp : 1 < p) (hx : x ≠ 0) (hd : p ∣ x) : (x.fdiv p).natAbs < x.natAbs ∧ x.fdiv p ≠ 0 ∧ x = p * x.fdiv p := by
  obtain ⟨c, rfl⟩ := hd
  have h0 : p ≠ 0 := by omega
  rw [Int.mul_fdiv_cancel_left c h0]
  have hc : c ≠ 0 := fun e => hx (by rw [e, Int.mul_zero])
  refine ⟨?_, hc, rfl⟩
  rw [Int.natAbs_mul]
  have h1 : 0 < c.natAbs := by omega
  have h2 : 2 ≤ p.natAbs := by omega
  calc c.natAbs < 2 * c.natAbs := by omega
    _ ≤ p.natAbs * c.natAbs := Nat.mul_le_mul_right _ h2
theorem val_loop {c : Fb} {b : Fs} {p : Int} {E : Int → Int → Env} {st : Store} (hp : 1 < p) (hc : ∀ x v, c (E x v) st = .ok (decide (x.fmod p = 0)) st) (hb : ∀ x v, b (E x v) st = .nx (E (x.fdiv p) (v + 1)) st) :
    ∀ (n : Nat) (x v : Int), x ≠ 0 → x.natAbs < n → ∃ (w : Nat) (m : Int), x = p ^ w * m ∧ ¬ p ∣ m ∧ wLoop c b n (E x v) st = .nx (E m (v + w)) st
  | 0, x, v, h0, h => by omega
  | n + 1, x, v, h0, h => by
    by_cases hd : p ∣ x
    · obtain ⟨h1, h2, h3⟩ := fdiv_abs_lt hp h0 hd
      obtain ⟨w, m, e, hm, hl⟩ := val_loop hp hc hb n (x.fdiv p) (v + 1) h2 (by omega)
      refine ⟨w + 1, m, ?_, hm, ?_⟩
      · rw [Int.pow_succ, Int.mul_comm (p ^ w) p, Int.mul_assoc, ← e]
        exact h3
      · unfold wLoop
        rw [hc, decide_eq_true ((fmod_dvd (by omega)).mpr hd)]
        simp only [thn_ok, hb]
        rw [if_pos True.intro, hl]
        congr 2
        push_cast
        omega
    · refine ⟨0, x, by simp, hd, ?_⟩
      unfold wLoop
      rw [hc, decide_eq_false (fun z => hd ((fmod_dvd (by omega)).mp z))]
      simp
/-- p divides x k times -/
def dv (p x : Int) (k : Nat) : Bool := decide (p ^ k ∣ x)
theorem VOf.ge {p x v : Int} (h : VOf p x v) {k : Nat} (hk : k < 9000) : decide ((k : Int) ≤ v) = dv p x k := by
  unfold dv
  exact decide_eq_decide.mpr (h.h k hk)
theorem VOf.lt {p x v : Int} (h : VOf p x v) {k : Nat} (hk : k < 9000) : decide (v < (k : Int)) = !dv p x k := by
  rw [← h.ge hk]
  by_cases e : (k : Int) ≤ v
  · simp [e, Int.not_lt.mpr e]
  · simp [e, Int.not_le.mp e]
/-- just k times -/
def ex (p x : Int) (k : Nat) : Bool := dv p x k && !dv p x (k + 1)
theorem VOf.eq {p x v : Int} (h : VOf p x v) {k : Nat} (hk : k < 8999) : decide (v = (k : Int)) = ex p x k := by
  unfold ex
  rw [← h.ge (show k < 9000 by omega), ← h.ge (show k + 1 < 9000 by omega)]
  by_cases e : v = (k : Int)
  · subst e; simp; omega
  · by_cases e2 : (k : Int) ≤ v
    · have : ((k + 1 : Nat) : Int) ≤ v := by omega
      have this' : (k : Int) + 1 ≤ v := by omega
      simp [e, e2, this']
    · simp [e, e2]
/-! powers by squares -/
theorem and_one : ∀ k : Nat, k < 64 → Builtin.bitAnd (k : Int) 1 = ((k % 2 : Nat) : Int) := by decide
@[simp] theorem bq_and1 {k : Nat} {st : Store} (h : k < 64) : binQ .BitAnd (.int (k : Int)) (.int 1) st = .ok (.int ((k % 2 : Nat) : Int)) st := by
  show Ou.ok (D.int (Builtin.bitAnd (k : Int) 1)) st = _
  rw [and_one k h]
@[simp] theorem bq_shr1 {k : Nat} {st : Store} : binQ .RShift (.int (k : Int)) (.int 1) st = .ok (.int ((k / 2 : Nat) : Int)) st := by
  have e : binQ .RShift (.int (k : Int)) (.int 1) st = .ok (.int ((k : Int) / 2 ^ 1)) st := rfl
  rw [e]
  simp
theorem pow_loop {c : Fb} {b : Fs} {E : Int → Nat → Int → Env} {st : Store} (hc : ∀ x k r, c (E x k r) st = .ok (decide (0 < k)) st)
    (hb : ∀ (x : Int) (k : Nat) (r : Int) (a d : Nat), Bd x a → Bd r d → a + d < 1000000 → a + a < 1000000 → 0 < k → k < 64 → b (E x k r) st = .nx (E (if 0 < k / 2 then x * x else x) (k / 2) (if k % 2 = 1 then r * x else r)) st) :
    ∀ (n k : Nat) (x r : Int) (a d : Nat), k < n → k < 64 → Bd x a → Bd r d → d + a * (2 * k) < 900000 → ∃ x', wLoop c b n (E x k r) st = .nx (E x' 0 (r * x ^ k)) st
  | 0, k, x, r, a, d, h, _, _, _, _ => by omega
  | n + 1, k, x, r, a, d, h, h64, bx, br, hs => by
    unfold wLoop
    rw [hc]
    by_cases hk : 0 < k
    · have hk2 : k / 2 ≤ k := Nat.div_le_self _ _
      have e2 : k = 2 * (k / 2) + k % 2 := (Nat.div_add_mod k 2).symm
      have hm := Nat.mod_lt k (show 0 < 2 by decide)
      have ha : a + d < 1000000 := by
        have : a * 1 ≤ a * (2 * k) := Nat.mul_le_mul_left _ (by omega)
        omega
      have ha2 : a + a < 1000000 := by
        have : a * 2 ≤ a * (2 * k) := Nat.mul_le_mul_left _ (by omega)
        omega
      rw [decide_eq_true hk]
      simp only [thn_ok, hb x k r a d bx br ha ha2 hk h64]
      rw [if_pos True.intro]
      by_cases h0 : 0 < k / 2
      · rw [if_pos h0]
        have bxx : Bd (x * x) (a + a) := inferInstance
        by_cases h1 : k % 2 = 1
        · rw [if_pos h1]
          have brx : Bd (r * x) (d + a) := inferInstance
          obtain ⟨x', e⟩ := pow_loop hc hb n (k / 2) (x * x) (r * x) (a + a) (d + a) (by omega) (by omega) bxx brx (by
            have e3 : (a + a) * (2 * (k / 2)) + a + a = a * (2 * k) := by
              rw [h1] at e2
              have e4 : 2 * k = 2 * (k / 2) + 2 * (k / 2) + 2 := by omega
              rw [e4, Nat.mul_add, Nat.mul_add, Nat.add_mul]
              omega
            omega)
          refine ⟨x', ?_⟩
          rw [e]
          congr 2
          have : x ^ k = x * (x * x) ^ (k / 2) := by
            rw [h1] at e2
            conv => lhs; rw [e2]
            rw [Int.pow_succ, Int.pow_mul]
            have : x ^ 2 = x * x := by grind
            rw [this, Int.mul_comm]
          rw [this, Int.mul_assoc]
        · have h1' : k % 2 = 0 := by omega
          rw [if_neg h1]
          obtain ⟨x', e⟩ := pow_loop hc hb n (k / 2) (x * x) r (a + a) d (by omega) (by omega) bxx br (by
            have e3 : (a + a) * (2 * (k / 2)) = a * (2 * k) := by
              have e4 : 2 * k = 2 * (k / 2) + 2 * (k / 2) := by omega
              rw [e4, Nat.mul_add, Nat.add_mul]
            omega)
          refine ⟨x', ?_⟩
          rw [e]
          congr 2
          have : x ^ k = (x * x) ^ (k / 2) := by
            rw [h1'] at e2
            conv => lhs; rw [e2]
            rw [Nat.add_zero, Int.pow_mul]
            have : x ^ 2 = x * x := by grind
            rw [this]
          rw [this]
      · rw [if_neg h0]
        have hk1 : k = 1 := by omega
        subst hk1
        obtain ⟨x', e⟩ := pow_loop hc hb n 0 x (r * x) a (d + a) (by omega) (by omega) bx inferInstance (by omega)
        refine ⟨x', ?_⟩
        show wLoop c b n (E x 0 (r * x)) st = _
        rw [e]
        congr 2
        grind
    · have hk0 : k = 0 := by omega
      subst hk0
      exact ⟨x, by simp⟩
theorem r1_int {a : Fx} {i : Int} {env : Env} {st : Store} (ha : a env st = .ok (.int i) st) (hs : smallR i) : iR1 a env st = .ok (intsD 0 i.toNat, none) st := by
  rw [x_r1, ha]
  exact if_pos hs
theorem r1_nat {j : Nat} {a : Fx} {env : Env} {st : Store} (ha : a env st = .ok (.int (j : Int)) st) (hj : j < 1000000) : iR1 a env st = .ok (intsD 0 j, none) st := by
  rw [r1_int ha (by unfold smallR; omega), Int.toNat_natCast]
/-! comprehensions with a test; lists compared; truth joined -/
theorem cGo_filt {p : Pt} {t : Fb} {e : Fx} {wk : Wk} {env : Env} {st : Store} (g : D → Bool) (f : D → D) (hw : ∀ acc, wB wk (st ++ [.lst acc]) = true) :
    ∀ (ds acc : List D), acc.length + ds.length < sizeLine →
      (∀ d ∈ ds, ∀ s : Store, (∃ acc, s = st ++ [.lst acc]) → ∃ env1, ptSet p d env s = some env1 ∧ t env1 s = .ok (g d) s ∧ (g d = true → e env1 s = .ok (f d) s ∧ frz (f d) s = some (f d, s))) →
      cGo p t e st.length wk ds env (st ++ [.lst acc]) = some (st ++ [.lst (acc ++ (ds.filter g).map f)])
  | [], acc, _, _ => by
    unfold cGo
    rw [if_pos (hw acc)]
    simp
  | d :: ds, acc, hl, h => by
    obtain ⟨env1, h1, h2, h3⟩ := h d (List.mem_cons_self ..) _ ⟨acc, rfl⟩
    unfold cGo
    rw [if_pos (hw acc)]
    simp only [h1, h2]
    rw [List.length_cons] at hl
    cases hg : g d with
    | true =>
      obtain ⟨h4, h5⟩ := h3 hg
      simp only [h4, h5, app_get]
      rw [if_pos (by omega), app_set, cGo_filt g f hw ds (acc ++ [f d]) (by rw [List.length_append, List.length_singleton]; omega) fun d' hd' => h d' (List.mem_cons_of_mem _ hd')]
      rw [List.filter_cons_of_pos hg]
      simp
    | false =>
      simp only
      rw [cGo_filt g f hw ds acc (by omega) fun d' hd' => h d' (List.mem_cons_of_mem _ hd'), List.filter_cons_of_neg (by simp [hg])]
theorem lComp_filt {p : Pt} {vs : List Nat} {i : Fi} {t : Fb} {e : Fx} {env : Env} {st st1 : Store} {wk : Wk} (g : D → Bool) (f : D → D) (hi : i env st = .ok wk st1) (hw : ∀ acc, wB wk (st1 ++ [.lst acc]) = true) (hl : wk.1.length < sizeLine)
    (h : ∀ d ∈ wk.1, ∀ s : Store, (∃ acc, s = st1 ++ [.lst acc]) → ∃ env1, ptSet p d (wipeD env vs) s = some env1 ∧ t env1 s = .ok (g d) s ∧ (g d = true → e env1 s = .ok (f d) s ∧ frz (f d) s = some (f d, s))) :
    lComp p vs i t e env st = .ok ((wk.1.filter g).map f) st1 := by
  unfold lComp
  rw [hi]
  simp only [bind_ok]
  rw [cGo_filt g f hw wk.1 [] (by simpa using hl) h]
  simp only [List.nil_append, app_get, app_take]
theorem shp_lst (ns : List Int) : SeqAt.shaped (.list (ns.map PyData.int)) = true := by
  show (PyData.canLayAll0 (ns.map PyData.int) && decide (PyData.depthAll (ns.map PyData.int) + 1 ≤ 64)) = true
  rw [canLayAll_ints, depthAll_ints]
  rfl
section
variable {call : Nat → Gb} {dfl : Nat → Nat → Option (List D)} {eqf : Nat → Option Nat} {eqk : Nat → Kd → Bool} {st : Store}
theorem eq_lsts {ns ms : List Int} : eqO call dfl eqf eqk false (.lst (ns.map .int)) (.lst (ms.map .int)) st = .ok (.bl (decide (ns = ms))) st := by
  rw [eqO_pd (p := .list (ns.map PyData.int)) (q := .list (ms.map PyData.int)) rfl (by show (pds _).map _ = _; rw [pds_ints]; rfl) (by show (pds _).map _ = _; rw [pds_ints]; rfl) (shp_lst _) (shp_lst _)]
  show Ou.ok (D.bl (PyData.eqvAll _ _)) st = _
  rw [eqvAll_ints]
theorem eq_ones {l : List D} : eqO call dfl eqf eqk false (.lst (l.map fun _ => .int 1)) (.lst []) st = .ok (.bl l.isEmpty) st := by
  have h := eq_lsts (call := call) (dfl := dfl) (eqf := eqf) (eqk := eqk) (st := st) (ns := l.map fun _ => (1 : Int)) (ms := [])
  rw [List.map_map] at h
  have e : (D.int ∘ fun _ : D => (1 : Int)) = fun _ => D.int 1 := rfl
  rw [e] at h
  refine h.trans ?_
  cases l <;> simp
end
@[simp] theorem zip_tt {xs ys : List D} {st : Store} : zipO (some ([.tup xs, .tup ys], st)) = .ok (List.zipWith (fun x y => D.tup [x, y]) xs ys, none) st := rfl
@[simp] theorem optF_bl {b c : Bool} {st : Store} : optF (some b) (.ok (.bl c) st) (.ok (.bl b) st) = .ok (.bl (b && c)) st := by cases b <;> rfl
@[simp] theorem optF_bl2 {b c : Bool} {st : Store} : optF (some b) (.ok (.bl b) st) (.ok (.bl c) st) = .ok (.bl (b || c)) st := by cases b <;> rfl
@[simp] theorem if_band {b c : Bool} {st : Store} : (if b = true then Ou.ok c st else .ok false st) = .ok (b && c) st := by cases b <;> rfl
@[simp] theorem if_bor {b c : Bool} {st : Store} : (if b = true then Ou.ok true st else .ok c st) = .ok (b || c) st := by cases b <;> rfl
end Ev
set_option Elab.async false
set_option linter.all false
set_option maxRecDepth 100000
set_option maxHeartbeats 1000000
namespace Ev
open PySem PySem.Spec L2
/-! ### plain laws: fractions -/
/-- the fraction of two ints -/
def rq (t b : Int) : Rat := (t : Rat) / (b : Rat)
theorem rq_divInt (t b : Int) : rq t b = Rat.divInt t b := (Rat.divInt_eq_div t b).symm
theorem gcd_swap (t b : Int) : Int.gcd b t = Nat.gcd t.natAbs b.natAbs := by unfold Int.gcd; exact Nat.gcd_comm _ _
theorem ediv_fdiv {x : Int} {g : Nat} : x.fdiv (g : Int) = x / (g : Int) := Int.fdiv_eq_ediv_of_nonneg _ (Int.natCast_nonneg g)
theorem qv_eq {t b : Int} (h : b ≠ 0) : qv t b = ((rq t b).num, ((rq t b).den : Int)) := by
  rw [rq_divInt]
  unfold qv
  rw [Rat.num_divInt, Rat.den_divInt, gcd_swap, if_neg h, ediv_fdiv, ediv_fdiv, ediv_fdiv, ediv_fdiv]
  by_cases hb : 0 < b
  · rw [if_pos hb, Int.sign_eq_one_of_pos hb, Int.one_mul]
    congr 1
    rw [Int.natCast_ediv, Int.natAbs_of_nonneg (Int.le_of_lt hb)]
  · rw [if_neg hb, Int.sign_eq_neg_one_of_neg (by omega), Int.neg_one_mul]
    congr 1
    rw [Int.natCast_ediv]
    congr 1
    omega
theorem rq_num_le {t b : Int} (h : b ≠ 0) : (rq t b).num.natAbs ≤ t.natAbs := by
  have e := qv_eq (t := t) h
  have e1 : (rq t b).num = (qv t b).1 := by rw [e]
  rw [e1]
  unfold qv
  split
  · exact Int.natAbs_fdiv_le_natAbs _ _
  · refine Nat.le_trans (Int.natAbs_fdiv_le_natAbs _ _) ?_
    rw [Int.natAbs_neg]; exact Nat.le_refl _
theorem rq_den_le {t b : Int} (h : b ≠ 0) : (rq t b).den ≤ b.natAbs := by
  have e := qv_eq (t := t) h
  have e1 : ((rq t b).den : Int) = (qv t b).2 := by rw [e]
  have e2 : (rq t b).den = ((qv t b).2).natAbs := by rw [← e1]; exact (Int.natAbs_natCast _).symm
  rw [e2]
  unfold qv
  split
  · exact Int.natAbs_fdiv_le_natAbs _ _
  · refine Nat.le_trans (Int.natAbs_fdiv_le_natAbs _ _) ?_
    rw [Int.natAbs_neg]; exact Nat.le_refl _
theorem den_pos (a : Rat) : 0 < (a.den : Int) := by have := a.den_nz; omega
theorem den_ne (a : Rat) : (a.den : Int) ≠ 0 := by have := a.den_nz; omega
theorem den_neR (a : Rat) : ((a.den : Int) : Rat) ≠ 0 := by
  intro h
  exact den_ne a (Rat.intCast_eq_zero_iff.mp h)
theorem rat_nd (a : Rat) : a = rq a.num a.den := by
  rw [rq_divInt]
  exact (Rat.num_divInt_den a).symm
theorem nd_mul (a : Rat) : a * ((a.den : Int) : Rat) = (a.num : Rat) := by
  have h := den_neR a
  have e := rat_nd a
  unfold rq at e
  generalize ((a.den : Int) : Rat) = d at *
  generalize (a.num : Rat) = n at *
  grind
theorem rq_add (a b : Rat) : rq (a.num * b.den + b.num * a.den) ((a.den : Int) * b.den) = a + b := by
  have ha := nd_mul a
  have hb := nd_mul b
  have h1 := den_neR a
  have h2 := den_neR b
  unfold rq
  simp only [Rat.intCast_add, Rat.intCast_mul]
  generalize ((a.den : Int) : Rat) = d at *
  generalize (a.num : Rat) = n at *
  generalize ((b.den : Int) : Rat) = e at *
  generalize (b.num : Rat) = m at *
  grind
theorem rq_sub (a b : Rat) : rq (a.num * b.den - b.num * a.den) ((a.den : Int) * b.den) = a - b := by
  have ha := nd_mul a
  have hb := nd_mul b
  have h1 := den_neR a
  have h2 := den_neR b
  unfold rq
  simp only [Rat.intCast_sub, Rat.intCast_mul]
  generalize ((a.den : Int) : Rat) = d at *
  generalize (a.num : Rat) = n at *
  generalize ((b.den : Int) : Rat) = e at *
  generalize (b.num : Rat) = m at *
  grind
theorem rq_mul (a b : Rat) : rq (a.num * b.num) ((a.den : Int) * b.den) = a * b := by
  have ha := nd_mul a
  have hb := nd_mul b
  have h1 := den_neR a
  have h2 := den_neR b
  unfold rq
  simp only [Rat.intCast_mul]
  generalize ((a.den : Int) : Rat) = d at *
  generalize (a.num : Rat) = n at *
  generalize ((b.den : Int) : Rat) = e at *
  generalize (b.num : Rat) = m at *
  grind
theorem num_neR {b : Rat} (hb : b ≠ 0) : (b.num : Rat) ≠ 0 := fun h => hb (Rat.num_eq_zero.mp (Rat.intCast_eq_zero_iff.mp h))
theorem num_ne {b : Rat} (hb : b ≠ 0) : b.num ≠ 0 := fun h => hb (Rat.num_eq_zero.mp h)
theorem rq_over (a : Rat) {b : Rat} (hb : b ≠ 0) : rq (a.num * b.den) ((a.den : Int) * b.num) = a / b := by
  have ha := nd_mul a
  have hb2 := nd_mul b
  have h1 := den_neR a
  have h2 := den_neR b
  have h3 := num_neR hb
  unfold rq
  simp only [Rat.intCast_mul]
  generalize ((a.den : Int) : Rat) = d at *
  generalize (a.num : Rat) = n at *
  generalize ((b.den : Int) : Rat) = e at *
  generalize (b.num : Rat) = m at *
  grind
/-! sizes -/
class Bq (a : Rat) (k : outParam Nat) : Prop where
  n : a.num.natAbs < 2 ^ k
  d : a.den < 2 ^ k
instance bq_num {a : Rat} {k : Nat} [h : Bq a k] : Bd a.num k := ⟨h.n⟩
instance bq_den {a : Rat} {k : Nat} [h : Bq a k] : Bd (a.den : Int) k := ⟨by rw [Int.natAbs_natCast]; exact h.d⟩
theorem bq_rq {t b : Int} {k : Nat} (h : b ≠ 0) (h1 : Bd t k) (h2 : Bd b k) : Bq (rq t b) k := ⟨Nat.lt_of_le_of_lt (rq_num_le h) h1.h, Nat.lt_of_le_of_lt (rq_den_le h) h2.h⟩
theorem den_mul_ne (a b : Rat) : (a.den : Int) * b.den ≠ 0 := Int.mul_ne_zero (den_ne a) (den_ne b)
instance bq_addR {a b : Rat} {k l : Nat} [h : Bq a k] [g : Bq b l] : Bq (a + b) (k + l + 1) := by
  rw [← rq_add]
  refine bq_rq (den_mul_ne a b) ?_ (Bd.mono (inferInstance : Bd ((a.den : Int) * b.den) (k + l)) (by omega))
  have := (inferInstance : Bd (a.num * b.den + b.num * a.den) (max (k + l) (l + k) + 1))
  exact this.mono (by omega)
instance bq_subR {a b : Rat} {k l : Nat} [h : Bq a k] [g : Bq b l] : Bq (a - b) (k + l + 1) := by
  rw [← rq_sub]
  refine bq_rq (den_mul_ne a b) ?_ (Bd.mono (inferInstance : Bd ((a.den : Int) * b.den) (k + l)) (by omega))
  have := (inferInstance : Bd (a.num * b.den - b.num * a.den) (max (k + l) (l + k) + 1))
  exact this.mono (by omega)
instance bq_mulR {a b : Rat} {k l : Nat} [h : Bq a k] [g : Bq b l] : Bq (a * b) (k + l) := by
  rw [← rq_mul]
  exact bq_rq (den_mul_ne a b) inferInstance inferInstance
instance bq_divR {a b : Rat} {k l : Nat} [h : Bq a k] [g : Bq b l] : Bq (a / b) (k + l) := by
  by_cases hb : b = 0
  · subst hb
    rw [show a / (0 : Rat) = 0 by rw [Rat.div_def, Rat.inv_zero, Rat.mul_zero]]
    have h1 := h.d
    have : 0 < k := by
      rcases Nat.eq_zero_or_pos k with z | z
      · subst z
        have := a.den_nz
        omega
      · exact z
    exact ⟨Nat.pow_pos (by decide), by show 1 < 2 ^ (k + l); exact Nat.one_lt_two_pow (by omega)⟩
  · rw [← rq_over a hb]
    exact bq_rq (Int.mul_ne_zero (den_ne a) (num_ne hb)) inferInstance inferInstance
instance bq_negR {a : Rat} {k : Nat} [h : Bq a k] : Bq (-a) k := ⟨by rw [Rat.neg_num, Int.natAbs_neg]; exact h.n, h.d⟩
theorem Bq.mono {a : Rat} {k l : Nat} (h : Bq a k) (hl : k ≤ l) : Bq a l := ⟨Nat.lt_of_lt_of_le h.n (Nat.pow_le_pow_right (by decide) hl), Nat.lt_of_lt_of_le h.d (Nat.pow_le_pow_right (by decide) hl)⟩
theorem bq_int {i : Int} {k : Nat} (h : Bd i k) : Bq (i : Rat) (k + 1) := ⟨Nat.lt_of_lt_of_le h.h (Nat.pow_le_pow_right (by decide) (by omega)), by show 1 < 2 ^ (k + 1); exact Nat.one_lt_two_pow (by omega)⟩
instance bq_intI {i : Int} {k : Nat} [h : Bd i k] : Bq (i : Rat) (k + 1) := bq_int h
/-! as data -/
def qd (r : Rat) : D := .tup [.int r.num, .int (r.den : Int)]
def ptD : Option (Rat × Rat) → D
  | none => .non
  | some (x, y) => .tup [qd x, qd y]
theorem num_int (i : Int) : ((i : Rat)).num = i := rfl
theorem den_int (i : Int) : ((i : Rat)).den = 1 := rfl
theorem qd_int (i : Int) : qd (i : Rat) = .tup [.int i, .int 1] := rfl
theorem nd_inj {a b : Rat} : (a.num = b.num ∧ (a.den : Int) = b.den) ↔ a = b := ⟨fun h => Rat.ext h.1 (by omega), fun h => by rw [h]; exact ⟨rfl, rfl⟩⟩
end Ev
set_option Elab.async false
set_option linter.all false
set_option maxRecDepth 100000
set_option maxHeartbeats 1000000
namespace Ev
open PySem PySem.Spec L2
/-! ### plain laws: square roots -/
/-- s is the whole part of n's root -/
def IsRt (n s : Nat) : Prop := s * s ≤ n ∧ n < (s + 1) * (s + 1)
theorem sq_le {a b : Nat} : a * a ≤ b * b ↔ a ≤ b := ⟨fun h => Nat.le_of_not_lt fun g => by
  have := Nat.mul_lt_mul'' g g
  omega, fun h => Nat.mul_le_mul h h⟩
theorem sq_lt {a b : Nat} : a * a < b * b ↔ a < b := by
  rw [← Nat.not_le, ← Nat.not_le, sq_le]
theorem IsRt.uniq {n s t : Nat} (h : IsRt n s) (g : IsRt n t) : s = t := by
  have h1 := sq_lt.mp (Nat.lt_of_le_of_lt h.1 g.2)
  have h2 := sq_lt.mp (Nat.lt_of_le_of_lt g.1 h.2)
  omega
theorem newton_up {n x : Nat} (hx : 0 < x) : n < ((x + n / x) / 2 + 1) * ((x + n / x) / 2 + 1) := by
  have h1 : x + n / x ≤ 2 * ((x + n / x) / 2) + 1 := by omega
  generalize (x + n / x) / 2 = y at *
  have h2 : n < x * (n / x) + x := by
    have := Nat.div_add_mod n x
    have := Nat.mod_lt n hx
    omega
  generalize n / x = q at *
  have h3 : x * (x + q) ≤ x * (2 * y + 1) := Nat.mul_le_mul_left _ h1
  have h4 : n + x * x < x * (2 * (y + 1)) := by
    have e1 : x * (x + q) = x * x + x * q := Nat.mul_add _ _ _
    have e2 : x * (2 * (y + 1)) = x * (2 * y + 1) + x := by grind
    omega
  have h5 : x * (2 * (y + 1)) ≤ x * x + (y + 1) * (y + 1) := by
    rcases Nat.le_total x (y + 1) with g | g
    · obtain ⟨d, hd⟩ := Nat.exists_eq_add_of_le g
      rw [hd]
      have : x * (2 * (x + d)) + d * d = x * x + (x + d) * (x + d) := by grind
      omega
    · obtain ⟨d, hd⟩ := Nat.exists_eq_add_of_le g
      rw [hd]
      have : (y + 1 + d) * (2 * (y + 1)) + d * d = (y + 1 + d) * (y + 1 + d) + (y + 1) * (y + 1) := by grind
      omega
  omega
theorem newton_dn {n x : Nat} (hx : 0 < x) (h : x ≤ (x + n / x) / 2) : x * x ≤ n := by
  have h1 : x ≤ n / x := by omega
  calc x * x ≤ x * (n / x) := Nat.mul_le_mul_left _ h1
    _ ≤ n := Nat.mul_div_le n x
theorem rootBelow8_ok {n : Nat} (h : n < 8) : IsRt n (Float64.rootBelow8 n) := by
  have : ∀ n : Nat, n < 8 → Float64.rootBelow8 n * Float64.rootBelow8 n ≤ n ∧ n < (Float64.rootBelow8 n + 1) * (Float64.rootBelow8 n + 1) := by decide
  exact this n h
theorem root_ok : ∀ (l n : Nat), n.log2 ≤ l → IsRt n (Float64.rootByHalves l n)
  | 0, n, h => by
    unfold Float64.rootByHalves
    refine rootBelow8_ok ?_
    by_cases h0 : n = 0
    · omega
    · have : n < 2 ^ 1 := (Nat.log2_lt h0).mp (by omega)
      omega
  | l + 1, n, h => by
    unfold Float64.rootByHalves
    by_cases h8 : n < 8
    · rw [if_pos h8]
      exact rootBelow8_ok h8
    · rw [if_neg h8]
      dsimp only
      have hL : 2 ^ n.log2 ≤ n := Nat.log2_self_le (by omega)
      have hL3 : 3 ≤ n.log2 := (Nat.le_log2 (by omega)).mpr (by omega)
      have hU : n < 2 ^ (n.log2 + 1) := Nat.lt_log2_self
      generalize hLL : n.log2 = L at *
      generalize hk : (L + 1) / 4 = k
      have hk1 : 1 ≤ k := by omega
      have ek : (4 : Nat) ^ k = 2 ^ k * 2 ^ k := by rw [← Nat.pow_add, show (4 : Nat) = 2 ^ 2 from rfl, ← Nat.pow_mul]; congr 1; omega
      have hK : 0 < 2 ^ k := Nat.pow_pos (by decide)
      have h4 : 0 < (4 : Nat) ^ k := Nat.pow_pos (by decide)
      have lm : (n / 4 ^ k).log2 ≤ l := by
        by_cases z : n / 4 ^ k = 0
        · rw [z]; simp
        · have : n / 4 ^ k < 2 ^ (L + 1 - 1) := by
            rw [Nat.div_lt_iff_lt_mul h4]
            refine Nat.lt_of_lt_of_le hU ?_
            have : 2 ^ (L + 1) = 2 ^ (L + 1 - 1) * 2 := by rw [← Nat.pow_succ]; congr 1
            rw [this]
            refine Nat.mul_le_mul_left _ ?_
            calc 2 ≤ 4 ^ 1 := by decide
              _ ≤ 4 ^ k := Nat.pow_le_pow_right (by decide) hk1
          have := (Nat.log2_lt z).mpr this
          omega
      obtain ⟨r1, r2⟩ := root_ok l (n / 4 ^ k) lm
      generalize hr : Float64.rootByHalves l (n / 4 ^ k) = r at *
      -- r * 2 ^ k is at most the root, (r + 1) * 2 ^ k above it
      have lo : (r * 2 ^ k) * (r * 2 ^ k) ≤ n := by
        have e : (r * 2 ^ k) * (r * 2 ^ k) = (r * r) * 4 ^ k := by rw [ek]; grind
        rw [e]
        exact Nat.le_trans (Nat.mul_le_mul_right _ r1) (Nat.div_mul_le_self n (4 ^ k))
      have hi : n < ((r + 1) * 2 ^ k) * ((r + 1) * 2 ^ k) := by
        have e : ((r + 1) * 2 ^ k) * ((r + 1) * 2 ^ k) = ((r + 1) * (r + 1)) * 4 ^ k := by rw [ek]; grind
        rw [e]
        exact (Nat.div_lt_iff_lt_mul h4).mp r2
      have rlo : 2 ^ (k - 1) ≤ r := by
        have h1 : 2 ^ (k - 1) * 2 ^ (k - 1) ≤ n / 4 ^ k := by
          rw [Nat.le_div_iff_mul_le h4, ek, ← Nat.pow_add, ← Nat.pow_add, ← Nat.pow_add]
          refine Nat.le_trans (Nat.pow_le_pow_right (by decide) ?_) hL
          omega
        have := sq_lt.mp (Nat.lt_of_le_of_lt h1 r2)
        omega
      have ekk : 2 ^ k = 2 * 2 ^ (k - 1) := by rw [← Nat.pow_succ']; congr 1; omega
      generalize 2 ^ k = K at *
      generalize 2 ^ (k - 1) = M at *
      have hx : 0 < (r + 1) * K := Nat.mul_pos (by omega) hK
      have up := newton_up (n := n) hx
      have hy2 : 2 * (((r + 1) * K + n / ((r + 1) * K)) / 2) ≤ (r + 1) * K + n / ((r + 1) * K) := by omega
      have hq : (r + 1) * K * (n / ((r + 1) * K)) ≤ n := Nat.mul_div_le _ _
      have eX : (r + 1) * K = r * K + K := by grind
      generalize hX : (r + 1) * K = x at *
      generalize hY : (x + n / x) / 2 = y at *
      generalize n / x = q at *
      have dn : (y - 1) * (y - 1) ≤ n := by
        refine Nat.le_of_not_lt fun bad => ?_
        have hry : r * K ≤ y := by
          have := sq_lt.mp (Nat.lt_of_le_of_lt lo up)
          omega
        have hy1 : r * K < y - 1 := sq_lt.mp (Nat.lt_of_le_of_lt lo bad)
        have hxy : 2 * (x * y) ≤ x * x + n := by
          have : x * (2 * y) ≤ x * (x + q) := Nat.mul_le_mul_left _ hy2
          have e1 : x * (x + q) = x * x + x * q := Nat.mul_add _ _ _
          have e2 : x * (2 * y) = 2 * (x * y) := by grind
          omega
        have hyx : y - 1 < x := by
          refine Nat.lt_of_not_le fun g => ?_
          have g2 : x + 1 ≤ y := by omega
          have : x * (x + 1) ≤ x * y := Nat.mul_le_mul_left _ g2
          have e1 : x * (x + 1) = x * x + x := by grind
          omega
        obtain ⟨e, he⟩ := Nat.exists_eq_add_of_le (Nat.le_of_lt hyx)
        obtain ⟨z, hz⟩ : ∃ z, y = z + 1 := ⟨y - 1, by omega⟩
        subst hz
        simp only [Nat.add_sub_cancel] at *
        have heK : e ≤ K - 1 := by omega
        -- x = z + e: 2 x (z + 1) ≤ x x + n < x x + z z
        have h6 : 2 * (x * (z + 1)) < x * x + z * z := by omega
        have h7 : x * x + z * z = 2 * (x * z) + e * e := by rw [he]; grind
        have h8 : 2 * x < e * e := by
          have : 2 * (x * (z + 1)) = 2 * (x * z) + 2 * x := by grind
          omega
        have h9 : e * e ≤ (K - 1) * (K - 1) := Nat.mul_le_mul heK heK
        have h10 : M * K ≤ r * K := Nat.mul_le_mul_right _ rlo
        have h11 : K * K = 2 * (M * K) := by rw [ekk]; grind
        have h12 : (K - 1) * (K - 1) ≤ K * K := Nat.mul_le_mul (Nat.sub_le _ _) (Nat.sub_le _ _)
        omega
      by_cases hyy : y * y > n
      · rw [if_pos hyy]
        refine ⟨dn, ?_⟩
        have : 0 < y := by
          rcases Nat.eq_zero_or_pos y with z | z
          · subst z; simp at hyy
          · exact z
        rw [Nat.sub_add_cancel this]
        exact hyy
      · rw [if_neg hyy]
        exact ⟨by omega, up⟩
theorem isqrt_ok (n : Nat) : IsRt n (Float64.isqrt n) := root_ok _ n (Nat.le_refl _)
end Ev
set_option Elab.async false
set_option linter.all false
set_option maxRecDepth 100000
set_option maxHeartbeats 2000000
namespace Ev
open PySem PySem.Spec L2
/-! ### plain laws: the two forms and the ways between them -/
abbrev Pnt := Option (Rat × Rat)
/-- the whole root of a square -/
def sqI (n : Int) : Option Int := if n < 0 ∨ ((Float64.isqrt n.toNat : Nat) : Int) ^ 2 ≠ n then none else some (Float64.isqrt n.toNat : Int)
theorem sqI_some {n r : Int} (h : sqI n = some r) : r * r = n ∧ 0 ≤ r := by
  unfold sqI at h
  split at h
  · cases h
  · rename_i g
    cases h
    refine ⟨?_, by omega⟩
    have : ((Float64.isqrt n.toNat : Nat) : Int) ^ 2 = n := by
      refine Decidable.byContradiction fun z => g (.inr z)
    rw [Int.pow_succ, Int.pow_succ, Int.pow_zero, Int.one_mul] at this
    exact this
/-- the root of a fraction -/
def sqQ (x : Rat) : Option Rat := match sqI x.num, sqI x.den with
  | some s, some t => some (rq s t)
  | _, _ => none
theorem sqQ_parts {x r : Rat} (h : sqQ x = some r) : ∃ s t : Int, sqI x.num = some s ∧ sqI x.den = some t ∧ r = rq s t ∧ s * s = x.num ∧ t * t = x.den ∧ 0 ≤ s ∧ 0 < t := by
  unfold sqQ at h
  split at h
  · rename_i s t h1 h2
    cases h
    have e1 := sqI_some h1
    have e2 := sqI_some h2
    refine ⟨s, t, h1, h2, rfl, e1.1, e2.1, e1.2, ?_⟩
    have : t ≠ 0 := by
      intro z
      subst z
      have := den_ne x
      have := e2.1
      omega
    omega
  · cases h
theorem sqQ_some {x r : Rat} (h : sqQ x = some r) : r * r = x := by
  obtain ⟨s, t, _, _, e, h1, h2, h3, h4⟩ := sqQ_parts h
  have hx := nd_mul x
  rw [← h1, ← h2] at hx
  have ht : (t : Rat) ≠ 0 := fun z => by have := Rat.intCast_eq_zero_iff.mp z; omega
  subst e
  unfold rq
  simp only [Rat.intCast_mul] at hx
  generalize (t : Rat) = u at *
  generalize (s : Rat) = v at *
  grind
theorem sq_bd {s n : Int} {k : Nat} (h : s * s = n) [c : Bd n k] (hk : 0 < k) : Bd s k := by
  refine ⟨?_⟩
  have h1 := c.h
  rw [← h, Int.natAbs_mul] at h1
  rcases Nat.eq_zero_or_pos s.natAbs with g | g
  · rw [g]; exact Nat.pow_pos (by decide)
  · exact Nat.lt_of_le_of_lt (Nat.le_mul_of_pos_left _ g) h1
theorem sqQ_bq {x r : Rat} {k : Nat} [c : Bq x k] (hk : 0 < k) (h : sqQ x = some r) : Bq r k := by
  obtain ⟨s, t, _, _, e, h1, h2, h3, h4⟩ := sqQ_parts h
  subst e
  exact bq_rq (by omega) (sq_bd h1 hk) (sq_bd h2 hk)
/-- the root is in lowest terms -/
theorem sqQ_low {x r : Rat} {s t : Int} (h1 : s * s = x.num) (h2 : t * t = x.den) (h4 : 0 < t) : (rq s t).num = s ∧ ((rq s t).den : Int) = t := by
  have red := x.reduced
  have g : Nat.gcd s.natAbs t.natAbs = 1 := by
    have e1 : s.natAbs ∣ x.num.natAbs := ⟨s.natAbs, by rw [← h1, Int.natAbs_mul]⟩
    have e2 : t.natAbs ∣ x.den := ⟨t.natAbs, by rw [← Int.natAbs_mul, h2, Int.natAbs_natCast]⟩
    exact Nat.Coprime.coprime_dvd_left e1 (Nat.Coprime.coprime_dvd_right e2 red)
  have e := qv_eq (t := s) (b := t) (by omega)
  have e0 : qv s t = (s, t) := by
    unfold qv
    rw [if_pos h4, g]
    simp
  rw [e0] at e
  exact ⟨(congrArg Prod.fst e).symm, (congrArg Prod.snd e).symm⟩
/-- a point lies on a form's curve -/
def On (a b : Rat) : Pnt → Prop
  | none => True
  | some (x, y) => y * y = x * (b + x * (a + x))
/-- the form is one -/
def FmR (a b : Rat) : Prop := b * (a * a - 4 * b) ≠ 0
def thereF (b : Rat) : Pnt → Pnt
  | none => none
  | some (x, y) => if x = 0 then none else some (y * y / (x * x), y * (b - x * x) / (x * x))
def backF (a b : Rat) : Pnt → Pnt
  | none => none
  | some (x, y) => if x = 0 then none else some (y * y / (4 * (x * x)), y * (a * a - 4 * b - x * x) / (8 * (x * x)))
def lessP (p q : Rat × Rat) : Bool := decide (p.1 < q.1) || (decide (p.1 = q.1) && decide (p.2 < q.2))
def ord2 (p q : Rat × Rat) : List Pnt := if lessP p q = true then [some p, some q] else [some q, some p]
def aheadF (a b : Int) : Pnt → List Pnt
  | none => [none, some (0, 0)]
  | some (x, y) => if x = 0 then (match sqI b with
      | none => []
      | some r => [some (((a - 2 * r : Int) : Rat), 0), some (((a + 2 * r : Int) : Rat), 0)])
    else match sqQ x with
      | none => []
      | some r => ord2 (2 * x + a - 2 * y / r, 2 * r * (2 * x + a - 2 * y / r)) (2 * x + a + 2 * y / r, -(2 * r * (2 * x + a + 2 * y / r)))
def beforeF (a b : Int) : Pnt → List Pnt
  | none => [none, some (0, 0)]
  | some (x, y) => if x = 0 then (match sqI (a * a - 4 * b) with
      | none => []
      | some r => [some (rq (-a - r) 2, 0), some (rq (r - a) 2, 0)])
    else match sqQ x with
      | none => []
      | some r => ord2 ((x - a - y / r) / 2, r * ((x - a - y / r) / 2)) ((x - a + y / r) / 2, -(r * ((x - a + y / r) / 2)))
theorem ord2_mem {p q : Rat × Rat} {h : Pnt} (hm : h ∈ ord2 p q) : h = some p ∨ h = some q := by
  unfold ord2 at hm
  split at hm <;> simp at hm <;> rcases hm with e | e <;> simp [e]
theorem div_of {A B x : Rat} (hB : B ≠ 0) (h : A = x * B) : A / B = x := by grind
theorem mul_ne {A B : Rat} (hA : A ≠ 0) (hB : B ≠ 0) : A * B ≠ 0 := fun h => by
  rcases Rat.mul_eq_zero.mp h with e | e
  · exact hA e
  · exact hB e
theorem ahead_one {a b x y r : Rat} (F : FmR a b) (o : y * y = x * (b + x * (a + x))) (hr : r * r = x) (hx : x ≠ 0) (s : Rat) (hs : s * s = 1) :
    On (-2 * a) (a * a - 4 * b) (some (2 * x + a + s * (2 * y / r), -(s * (2 * r * (2 * x + a + s * (2 * y / r)))))) ∧ backF a b (some (2 * x + a + s * (2 * y / r), -(s * (2 * r * (2 * x + a + s * (2 * y / r)))))) = some (x, y) := by
  unfold FmR at F
  have r0 : r ≠ 0 := fun z => hx (by rw [← hr, z, Rat.mul_zero])
  obtain ⟨t, ht⟩ : ∃ t, t = y / r := ⟨_, rfl⟩
  have hy : y = t * r := by grind
  rw [show 2 * y / r = 2 * t by grind]
  have ht2 : t * t = b + x * (a + x) := by
    have : r * r * (t * t) = r * r * (b + x * (a + x)) := by grind
    grind
  have pr : (2 * x + a + s * (2 * t)) * (2 * x + a - s * (2 * t)) = a * a - 4 * b := by grind
  have n0 : 2 * x + a + s * (2 * t) ≠ 0 := by
    intro z
    rw [z, Rat.zero_mul] at pr
    exact F (by rw [← pr, Rat.mul_zero])
  have n1 : (2 * x + a + s * (2 * t)) * (2 * x + a + s * (2 * t)) ≠ 0 := mul_ne n0 n0
  obtain ⟨X, hX⟩ : ∃ X, X = 2 * x + a + s * (2 * t) := ⟨_, rfl⟩
  have hst : s * t = (X - 2 * x - a) / 2 := by grind
  rw [← hX] at n0 n1 pr ⊢
  refine ⟨?_, ?_⟩
  · show _ = _
    grind
  · unfold backF
    simp only [if_neg n0]
    congr 1
    refine Prod.ext ?_ ?_
    · refine div_of (mul_ne (by decide) n1) ?_
      grind
    · refine div_of (mul_ne (by decide) n1) ?_
      grind
theorem before_one {a b x y r : Rat} (F : FmR a b) (o : y * y = x * (a * a - 4 * b + x * (-2 * a + x))) (hr : r * r = x) (hx : x ≠ 0) (s : Rat) (hs : s * s = 1) :
    On a b (some ((x - a + s * (y / r)) / 2, -(s * (r * ((x - a + s * (y / r)) / 2))))) ∧ thereF b (some ((x - a + s * (y / r)) / 2, -(s * (r * ((x - a + s * (y / r)) / 2))))) = some (x, y) := by
  unfold FmR at F
  have r0 : r ≠ 0 := fun z => hx (by rw [← hr, z, Rat.mul_zero])
  obtain ⟨t, ht⟩ : ∃ t, t = y / r := ⟨_, rfl⟩
  have hy : y = t * r := by grind
  rw [← ht]
  have ht2 : t * t = a * a - 4 * b + x * (-2 * a + x) := by
    have : r * r * (t * t) = r * r * (a * a - 4 * b + x * (-2 * a + x)) := by grind
    grind
  have pr : (x - a + s * t) / 2 * ((x - a - s * t) / 2) = b := by grind
  have n0 : (x - a + s * t) / 2 ≠ 0 := by
    intro z
    rw [z, Rat.zero_mul] at pr
    exact F (by rw [← pr, Rat.zero_mul])
  have n1 : (x - a + s * t) / 2 * ((x - a + s * t) / 2) ≠ 0 := mul_ne n0 n0
  obtain ⟨X, hX⟩ : ∃ X, X = (x - a + s * t) / 2 := ⟨_, rfl⟩
  have hst : s * t = 2 * X - x + a := by grind
  rw [← hX] at n0 n1 pr ⊢
  refine ⟨?_, ?_⟩
  · show _ = _
    grind
  · unfold thereF
    simp only [if_neg n0]
    congr 1
    refine Prod.ext ?_ ?_
    · refine div_of n1 ?_
      grind
    · refine div_of n1 ?_
      grind
end Ev
set_option Elab.async false
set_option linter.all false
set_option maxRecDepth 100000
set_option maxHeartbeats 2000000
namespace Ev
open PySem PySem.Spec L2
/-! ### plain laws: points ahead and before, sums -/
def Fm (a b : Int) : Prop := b * (a * a - b * 4) ≠ 0
theorem Fm.r {a b : Int} (h : Fm a b) : FmR a b := fun z => h (by
  have e : ((b * (a * a - b * 4) : Int) : Rat) = 0 := by
    simp only [Rat.intCast_mul, Rat.intCast_sub]
    rw [show ((4 : Int) : Rat) = 4 from rfl]
    grind
  exact Rat.intCast_eq_zero_iff.mp e)
theorem cast_a (a : Int) : (((-2) * a : Int) : Rat) = -2 * (a : Rat) := by
  rw [Rat.intCast_mul]; rfl
theorem cast_b (a b : Int) : ((a * a - 4 * b : Int) : Rat) = (a : Rat) * a - 4 * b := by
  rw [Rat.intCast_sub, Rat.intCast_mul, Rat.intCast_mul]; rfl
theorem cast_sub2 (a r : Int) : ((a - 2 * r : Int) : Rat) = (a : Rat) - 2 * r := by
  rw [Rat.intCast_sub, Rat.intCast_mul]; rfl
theorem cast_add2 (a r : Int) : ((a + 2 * r : Int) : Rat) = (a : Rat) + 2 * r := by
  rw [Rat.intCast_add, Rat.intCast_mul]; rfl
theorem sq_zero {y : Rat} (h : y * y = 0) : y = 0 := by
  rcases Rat.mul_eq_zero.mp h with e | e <;> exact e
theorem ahead_ok {a b : Int} {p : Pnt} (F : Fm a b) (o : On a b p) : ∀ h ∈ aheadF a b p, On (((-2) * a : Int) : Rat) ((a * a - 4 * b : Int) : Rat) h ∧ backF a b h = p := by
  have FR := F.r
  rw [cast_a, cast_b]
  intro h hm
  cases p with
  | none =>
    simp [aheadF] at hm
    rcases hm with e | e <;> subst e
    · exact ⟨trivial, rfl⟩
    · refine ⟨?_, ?_⟩
      · show (0 : Rat) * 0 = 0 * _
        grind
      · simp [backF, thereF]
  | some q =>
    obtain ⟨x, y⟩ := q
    unfold aheadF at hm
    dsimp only at hm
    by_cases hx : x = 0
    · subst hx
      have hy : y = 0 := sq_zero (by
        have : y * y = 0 * _ := o
        rw [this, Rat.zero_mul])
      subst hy
      rw [if_pos rfl] at hm
      cases hr : sqI b with
      | none => rw [hr] at hm; simp at hm
      | some r =>
        rw [hr] at hm
        have h2 : (r : Rat) * r = b := by rw [← Rat.intCast_mul, (sqI_some hr).1]
        unfold FmR at FR
        simp only [List.mem_cons, List.not_mem_nil, or_false] at hm
        rw [cast_sub2, cast_add2] at hm
        have key : ∀ s : Rat, s * s = 1 → On (-2 * (a : Rat)) ((a : Rat) * a - 4 * b) (some ((a : Rat) + s * (2 * r), 0)) ∧ backF a b (some ((a : Rat) + s * (2 * r), 0)) = some (0, 0) := by
          intro s hs
          have pr : ((a : Rat) + s * (2 * r)) * ((a : Rat) - s * (2 * r)) = a * a - 4 * b := by grind
          have n0 : (a : Rat) + s * (2 * r) ≠ 0 := by
            intro z
            rw [z, Rat.zero_mul] at pr
            exact FR (by rw [← pr, Rat.mul_zero])
          refine ⟨?_, ?_⟩
          · show (0 : Rat) * 0 = _
            grind
          · unfold backF
            simp only [if_neg n0, Rat.zero_mul]
            rw [Rat.div_def, Rat.zero_mul, Rat.div_def, Rat.zero_mul]
        rcases hm with e | e <;> subst e
        · have z := key (-1) (by grind)
          rw [show (a : Rat) + -1 * (2 * r) = a - 2 * r by grind] at z
          exact z
        · have z := key 1 (by grind)
          rw [show (a : Rat) + 1 * (2 * r) = a + 2 * r by grind] at z
          exact z
    · rw [if_neg hx] at hm
      cases hr : sqQ x with
      | none => rw [hr] at hm; simp at hm
      | some r =>
        rw [hr] at hm
        have h2 := sqQ_some hr
        rcases ord2_mem hm with e | e <;> subst e
        · have z := ahead_one FR o h2 hx (-1) (by grind)
          rw [show 2 * x + (a : Rat) + -1 * (2 * y / r) = 2 * x + a - 2 * y / r by grind] at z
          rw [show -(-1 * (2 * r * (2 * x + (a : Rat) - 2 * y / r))) = 2 * r * (2 * x + a - 2 * y / r) by grind] at z
          exact z
        · have z := ahead_one FR o h2 hx 1 (by grind)
          rw [show 2 * x + (a : Rat) + 1 * (2 * y / r) = 2 * x + a + 2 * y / r by grind] at z
          rw [show -(1 * (2 * r * (2 * x + (a : Rat) + 2 * y / r))) = -(2 * r * (2 * x + a + 2 * y / r)) by grind] at z
          exact z
theorem rq2 (i : Int) : rq i 2 = (i : Rat) / 2 := rfl
theorem before_ok {a b : Int} {p : Pnt} (F : Fm a b) (o : On (((-2) * a : Int) : Rat) ((a * a - 4 * b : Int) : Rat) p) : ∀ h ∈ beforeF a b p, On a b h ∧ thereF b h = p := by
  have FR := F.r
  rw [cast_a, cast_b] at o
  intro h hm
  cases p with
  | none =>
    simp [beforeF] at hm
    rcases hm with e | e <;> subst e
    · exact ⟨trivial, rfl⟩
    · refine ⟨?_, ?_⟩
      · show (0 : Rat) * 0 = 0 * _
        grind
      · simp [backF, thereF]
  | some q =>
    obtain ⟨x, y⟩ := q
    unfold beforeF at hm
    dsimp only at hm
    by_cases hx : x = 0
    · subst hx
      have hy : y = 0 := sq_zero (by
        have : y * y = 0 * _ := o
        rw [this, Rat.zero_mul])
      subst hy
      rw [if_pos rfl] at hm
      cases hr : sqI (a * a - 4 * b) with
      | none => rw [hr] at hm; simp at hm
      | some r =>
        rw [hr] at hm
        have h2 : (r : Rat) * r = (a : Rat) * a - 4 * b := by rw [← Rat.intCast_mul, (sqI_some hr).1, cast_b]
        unfold FmR at FR
        simp only [List.mem_cons, List.not_mem_nil, or_false] at hm
        rw [rq2, rq2, Rat.intCast_sub, Rat.intCast_sub, Rat.intCast_neg] at hm
        have key : ∀ s : Rat, s * s = 1 → On a b (some ((-(a : Rat) + s * r) / 2, 0)) ∧ thereF b (some ((-(a : Rat) + s * r) / 2, 0)) = some (0, 0) := by
          intro s hs
          have pr : ((-(a : Rat) + s * r) / 2) * ((-(a : Rat) - s * r) / 2) = b := by grind
          have n0 : (-(a : Rat) + s * r) / 2 ≠ 0 := by
            intro z
            rw [z, Rat.zero_mul] at pr
            exact FR (by rw [← pr, Rat.zero_mul])
          refine ⟨?_, ?_⟩
          · show (0 : Rat) * 0 = _
            grind
          · unfold thereF
            simp only [if_neg n0, Rat.zero_mul]
            rw [Rat.div_def, Rat.zero_mul]
        rcases hm with e | e <;> subst e
        · have z := key (-1) (by grind)
          rw [show (-(a : Rat) + -1 * r) / 2 = (-(a : Rat) - r) / 2 by grind] at z
          exact z
        · have z := key 1 (by grind)
          rw [show (-(a : Rat) + 1 * r) / 2 = ((r : Rat) - a) / 2 by grind] at z
          exact z
    · rw [if_neg hx] at hm
      cases hr : sqQ x with
      | none => rw [hr] at hm; simp at hm
      | some r =>
        rw [hr] at hm
        have h2 := sqQ_some hr
        rcases ord2_mem hm with e | e <;> subst e
        · have z := before_one FR o h2 hx (-1) (by grind)
          rw [show (x - (a : Rat) + -1 * (y / r)) / 2 = (x - a - y / r) / 2 by grind] at z
          rw [show -(-1 * (r * ((x - (a : Rat) - y / r) / 2))) = r * ((x - a - y / r) / 2) by grind] at z
          exact z
        · have z := before_one FR o h2 hx 1 (by grind)
          rw [show (x - (a : Rat) + 1 * (y / r)) / 2 = (x - a + y / r) / 2 by grind] at z
          rw [show -(1 * (r * ((x - (a : Rat) + y / r) / 2))) = -(r * ((x - a + y / r) / 2)) by grind] at z
          exact z
/-! sums -/
def oppF : Pnt → Pnt
  | none => none
  | some (x, y) => some (x, -y)
def slopeF (a b : Rat) (x y x2 y2 : Rat) : Rat := if (some (x, y) : Pnt) = some (x2, y2) then (3 * (x * x) + 2 * (a * x) + b) / (y + y) else (y2 - y) / (x2 - x)
def sumF (a b : Rat) : Pnt → Pnt → Pnt
  | none, q => q
  | p, none => p
  | some (x, y), some (x2, y2) => if (some (x2, y2) : Pnt) = oppF (some (x, y)) then none else
    some (slopeF a b x y x2 y2 * slopeF a b x y x2 y2 + -a + -x + -x2, -(y + slopeF a b x y x2 y2 * (slopeF a b x y x2 y2 * slopeF a b x y x2 y2 + -a + -x + -x2 - x)))
theorem chord {a b x y x2 y2 s : Rat} (o : y * y = x * (b + x * (a + x))) (o2 : y2 * y2 = x2 * (b + x2 * (a + x2))) (hx : x2 - x ≠ 0) (hs : s * (x2 - x) = y2 - y) :
    (y + s * (s * s + -a + -x + -x2 - x)) * (y + s * (s * s + -a + -x + -x2 - x)) = (s * s + -a + -x + -x2) * (b + (s * s + -a + -x + -x2) * (a + (s * s + -a + -x + -x2))) := by
  have hy2 : y2 = y + s * (x2 - x) := by grind
  subst hy2
  have k1 : (x2 - x) * (s * (2 * y + s * (x2 - x))) = (x2 - x) * (b + a * (x + x2) + x * x + x * x2 + x2 * x2) := by grind
  have k2 : s * (2 * y + s * (x2 - x)) = b + a * (x + x2) + x * x + x * x2 + x2 * x2 := by
    generalize s * (2 * y + s * (x2 - x)) = A at *
    generalize b + a * (x + x2) + x * x + x * x2 + x2 * x2 = B at *
    generalize x2 - x = D at *
    grind
  grind
theorem tangent {a b x y s : Rat} (o : y * y = x * (b + x * (a + x))) (hs : s * (y + y) = 3 * (x * x) + 2 * (a * x) + b) :
    (y + s * (s * s + -a + -x + -x - x)) * (y + s * (s * s + -a + -x + -x - x)) = (s * s + -a + -x + -x) * (b + (s * s + -a + -x + -x) * (a + (s * s + -a + -x + -x))) := by
  grind
theorem div_mul' {A B : Rat} (h : B ≠ 0) : A / B * B = A := by grind
theorem sum_dom {a b x y x2 y2 : Rat} (o : y * y = x * (b + x * (a + x))) (o2 : y2 * y2 = x2 * (b + x2 * (a + x2))) (hn : ¬ (some (x2, y2) : Pnt) = oppF (some (x, y))) :
    ((some (x, y) : Pnt) = some (x2, y2) → y + y ≠ 0) ∧ (¬ (some (x, y) : Pnt) = some (x2, y2) → x2 - x ≠ 0) := by
  refine ⟨fun e z => ?_, fun e z => ?_⟩
  · cases e
    apply hn
    unfold oppF
    congr 2
    grind
  · have ex : x2 = x := by grind
    subst ex
    have : (y2 - y) * (y2 + y) = 0 := by grind
    rcases Rat.mul_eq_zero.mp this with g | g
    · exact e (by congr 2; grind)
    · exact hn (by unfold oppF; congr 2; grind)
theorem sum_on {a b : Rat} {p q : Pnt} (o : On a b p) (o2 : On a b q) : On a b (sumF a b p q) := by
  cases p with
  | none => exact o2
  | some p =>
    cases q with
    | none => exact o
    | some q =>
      obtain ⟨x, y⟩ := p
      obtain ⟨x2, y2⟩ := q
      unfold sumF
      dsimp only
      by_cases hn : (some (x2, y2) : Pnt) = oppF (some (x, y))
      · rw [if_pos hn]; trivial
      · rw [if_neg hn]
        obtain ⟨d1, d2⟩ := sum_dom o o2 hn
        show -_ * -_ = _
        rw [Rat.neg_mul, Rat.mul_neg, Rat.neg_neg]
        by_cases he : (some (x, y) : Pnt) = some (x2, y2)
        · have dd := d1 he
          have es : slopeF a b x y x2 y2 = (3 * (x * x) + 2 * (a * x) + b) / (y + y) := by unfold slopeF; rw [if_pos he]
          rw [es]
          cases he
          exact tangent o (div_mul' dd)
        · have dd := d2 he
          have es : slopeF a b x y x2 y2 = (y2 - y) / (x2 - x) := by unfold slopeF; rw [if_neg he]
          rw [es]
          exact chord o o2 dd (div_mul' dd)
end Ev
set_option Elab.async false
set_option linter.all false
set_option maxRecDepth 100000
set_option maxHeartbeats 1000000
namespace Ev
open PySem PySem.Spec L2
/-! fractions and points compared -/
def qP (r : Rat) : PyData := .tuple [.int r.num, .int (r.den : Int)]
def pP : Pnt → PyData
  | none => .none
  | some (x, y) => .tuple [qP x, qP y]
theorem eqv_qP {a b : Rat} : PyData.eqv (qP a) (qP b) = decide (a = b) := by
  have e : PyData.eqv (qP a) (qP b) = (decide (a.num = b.num) && (decide ((a.den : Int) = b.den) && true)) := rfl
  rw [e, Bool.and_true, ← Bool.decide_and]
  exact decide_eq_decide.mpr nd_inj
theorem eqv_pP {p q : Pnt} : PyData.eqv (pP p) (pP q) = decide (p = q) := by
  cases p with
  | none =>
    cases q with
    | none => rfl
    | some q => obtain ⟨x2, y2⟩ := q; simp [pP, PyData.eqv]
  | some p =>
    obtain ⟨x, y⟩ := p
    cases q with
    | none => simp [pP, PyData.eqv]
    | some q =>
      obtain ⟨x2, y2⟩ := q
      have e : PyData.eqv (pP (some (x, y))) (pP (some (x2, y2))) = (PyData.eqv (qP x) (qP x2) && (PyData.eqv (qP y) (qP y2) && true)) := by simp [pP, PyData.eqv, PyData.eqvAll]
      rw [e, eqv_qP, eqv_qP, Bool.and_true, ← Bool.decide_and]
      exact decide_eq_decide.mpr ⟨fun h => by rw [h.1, h.2], fun h => by cases h; exact ⟨rfl, rfl⟩⟩
theorem shp_qP {a : Rat} : SeqAt.shaped (qP a) = true := rfl
theorem shp_pP {p : Pnt} : SeqAt.shaped (pP p) = true := by cases p <;> rfl
theorem pd_ptD {p : Pnt} : pd (ptD p) = some (pP p) := by cases p <;> rfl
theorem pdR_ptD {p : Pnt} {st : Store} : pdR st (ptD p) = some (pP p) := by cases p <;> rfl
section
variable {call : Nat → Gb} {dfl : Nat → Nat → Option (List D)} {eqf : Nat → Option Nat} {eqk : Nat → Kd → Bool} {neg : Bool} {st : Store}
theorem eq_qd {a b : Rat} : eqO call dfl eqf eqk neg (qd a) (qd b) st = .ok (.bl (if neg = true then !decide (a = b) else decide (a = b))) st := by
  rw [eqO_pd (p := qP a) (q := qP b) rfl rfl rfl shp_qP shp_qP, eqv_qP]
theorem eq_ptD {p q : Pnt} : eqO call dfl eqf eqk neg (ptD p) (ptD q) st = .ok (.bl (if neg = true then !decide (p = q) else decide (p = q))) st := by
  rw [eqO_pd (p := pP p) (q := pP q) (by cases p <;> rfl) pdR_ptD pdR_ptD shp_pP shp_pP, eqv_pP]
end
end Ev
set_option Elab.async false
set_option linter.all false
set_option maxRecDepth 100000
set_option maxHeartbeats 0
namespace K34
open PySem PySem.Spec PyProof.Rows L2 Ev
def b0 (call : Nat → Gb) : Fs := (sSeq (sRet (fAnd (Ev.f1 (isaP G.io .int) (fV 0)) (fNot (Ev.f1 (isaP G.io .bl) (fV 0)))))
  sNil)
theorem b0_eq (call : Nat → Gb) : fnBody (G.at_ call) f0 = b0 call := by kernel_rfl
def b1 (call : Nat → Gb) : Fs := (sSeq (sRet (Ev.f1 (isaT G.io [.lst, .tup]) (fV 0)))
  sNil)
theorem b1_eq (call : Nat → Gb) : fnBody (G.at_ call) f1 = b1 call := by kernel_rfl
def b2 (call : Nat → Gb) : Fs := (sSeq (sIf (bNot (bTr (fB (callP call G.dfl 0) (aCons (fV 1) aNil)))) (sSeq (sRaise G.exf 1 (aCons (fK (.str "top")) (aCons (fV 1) aNil)))
  sNil) sNil)
  (sSeq (sIf (bOr (bNot (bTr (fB (callP call G.dfl 0) (aCons (fV 2) aNil)))) (bTr (Ev.f2 (eqO call G.dfl G.eqf G.eqk false) (fV 2) (fK (.int 0))))) (sSeq (sRaise G.exf 1 (aCons (fK (.str "bottom")) (aCons (fV 2) aNil)))
  sNil) sNil)
  (sSeq (sSet 3 (fIf (bTr (Ev.f2 gtP (fV 2) (fK (.int 0)))) (fB gGcd (aCons (fV 1) (aCons (fV 2) aNil))) (Ev.f1 (negO call G.dfl G.ngf) (fB gGcd (aCons (fV 1) (aCons (fV 2) aNil))))))
  (sSeq (sAtt G.ao 3 (fV 0) (Ev.f2 (binO call G.dfl G.opf .FloorDiv) (fV 1) (fV 3)))
  (sSeq (sAtt G.ao 4 (fV 0) (Ev.f2 (binO call G.dfl G.opf .FloorDiv) (fV 2) (fV 3)))
  (sSeq (sAtt G.ao 5 (fV 0) (Ev.f2 (binO call G.dfl G.opf .Sub) (Ev.f2 gtP (Ev.f1 (attP G.ao 3) (fV 0)) (fK (.int 0))) (Ev.f2 ltP (Ev.f1 (attP G.ao 3) (fV 0)) (fK (.int 0)))))
  (sSeq (sAtt G.ao 6 (fV 0) (Ev.f2 (eqO call G.dfl G.eqf G.eqk false) (Ev.f1 (attP G.ao 4) (fV 0)) (fK (.int 1))))
  sNil)))))))
theorem b2_eq (call : Nat → Gb) : fnBody (G.at_ call) f2 = b2 call := by kernel_rfl
def b3 (call : Nat → Gb) : Fs := (sSeq (sRet (fAnd (Ev.f1 (isaP G.io (.own 5)) (fV 1)) (fAnd (Ev.f2 (eqO call G.dfl G.eqf G.eqk false) (Ev.f1 (attP G.ao 3) (fV 0)) (Ev.f1 (attP G.ao 3) (fV 1))) (Ev.f2 (eqO call G.dfl G.eqf G.eqk false) (Ev.f1 (attP G.ao 4) (fV 0)) (Ev.f1 (attP G.ao 4) (fV 1))))))
  sNil)
theorem b3_eq (call : Nat → Gb) : fnBody (G.at_ call) f3 = b3 call := by kernel_rfl
def b4 (call : Nat → Gb) : Fs := (sSeq (sRet (fB (makeP call G.dfl G.ini 5) (aCons (Ev.f1 (negO call G.dfl G.ngf) (Ev.f1 (attP G.ao 3) (fV 0))) (aCons (Ev.f1 (attP G.ao 4) (fV 0)) aNil))))
  sNil)
theorem b4_eq (call : Nat → Gb) : fnBody (G.at_ call) f4 = b4 call := by kernel_rfl
def b5 (call : Nat → Gb) : Fs := (sSeq (sIf (bTr (fB (callP call G.dfl 0) (aCons (fV 1) aNil))) (sSeq (sRet (fB (makeP call G.dfl G.ini 5) (aCons (Ev.f2 (binO call G.dfl G.opf .Add) (Ev.f1 (attP G.ao 3) (fV 0)) (Ev.f2 (binO call G.dfl G.opf .Mult) (fV 1) (Ev.f1 (attP G.ao 4) (fV 0)))) (aCons (Ev.f1 (attP G.ao 4) (fV 0)) aNil))))
  sNil) sNil)
  (sSeq (sIf (bNot (bTr (Ev.f1 (isaP G.io (.own 5)) (fV 1)))) (sSeq (sRet fX)
  sNil) sNil)
  (sSeq (sRet (fB (makeP call G.dfl G.ini 5) (aCons (Ev.f2 (binO call G.dfl G.opf .Add) (Ev.f2 (binO call G.dfl G.opf .Mult) (Ev.f1 (attP G.ao 3) (fV 0)) (Ev.f1 (attP G.ao 4) (fV 1))) (Ev.f2 (binO call G.dfl G.opf .Mult) (Ev.f1 (attP G.ao 3) (fV 1)) (Ev.f1 (attP G.ao 4) (fV 0)))) (aCons (Ev.f2 (binO call G.dfl G.opf .Mult) (Ev.f1 (attP G.ao 4) (fV 0)) (Ev.f1 (attP G.ao 4) (fV 1))) aNil))))
  sNil)))
theorem b5_eq (call : Nat → Gb) : fnBody (G.at_ call) f5 = b5 call := by kernel_rfl
def b6 (call : Nat → Gb) : Fs := (sSeq (sIf (bTr (fB (callP call G.dfl 0) (aCons (fV 1) aNil))) (sSeq (sRet (fB (makeP call G.dfl G.ini 5) (aCons (Ev.f2 (binO call G.dfl G.opf .Sub) (Ev.f1 (attP G.ao 3) (fV 0)) (Ev.f2 (binO call G.dfl G.opf .Mult) (fV 1) (Ev.f1 (attP G.ao 4) (fV 0)))) (aCons (Ev.f1 (attP G.ao 4) (fV 0)) aNil))))
  sNil) sNil)
  (sSeq (sIf (bNot (bTr (Ev.f1 (isaP G.io (.own 5)) (fV 1)))) (sSeq (sRet fX)
  sNil) sNil)
  (sSeq (sRet (fB (makeP call G.dfl G.ini 5) (aCons (Ev.f2 (binO call G.dfl G.opf .Sub) (Ev.f2 (binO call G.dfl G.opf .Mult) (Ev.f1 (attP G.ao 3) (fV 0)) (Ev.f1 (attP G.ao 4) (fV 1))) (Ev.f2 (binO call G.dfl G.opf .Mult) (Ev.f1 (attP G.ao 3) (fV 1)) (Ev.f1 (attP G.ao 4) (fV 0)))) (aCons (Ev.f2 (binO call G.dfl G.opf .Mult) (Ev.f1 (attP G.ao 4) (fV 0)) (Ev.f1 (attP G.ao 4) (fV 1))) aNil))))
  sNil)))
theorem b6_eq (call : Nat → Gb) : fnBody (G.at_ call) f6 = b6 call := by kernel_rfl
def b7 (call : Nat → Gb) : Fs := (sSeq (sIf (bTr (fB (callP call G.dfl 0) (aCons (fV 1) aNil))) (sSeq (sRet (fB (makeP call G.dfl G.ini 5) (aCons (Ev.f2 (binO call G.dfl G.opf .Mult) (Ev.f1 (attP G.ao 3) (fV 0)) (fV 1)) (aCons (Ev.f1 (attP G.ao 4) (fV 0)) aNil))))
  sNil) sNil)
  (sSeq (sIf (bNot (bTr (Ev.f1 (isaP G.io (.own 5)) (fV 1)))) (sSeq (sRet fX)
  sNil) sNil)
  (sSeq (sRet (fB (makeP call G.dfl G.ini 5) (aCons (Ev.f2 (binO call G.dfl G.opf .Mult) (Ev.f1 (attP G.ao 3) (fV 0)) (Ev.f1 (attP G.ao 3) (fV 1))) (aCons (Ev.f2 (binO call G.dfl G.opf .Mult) (Ev.f1 (attP G.ao 4) (fV 0)) (Ev.f1 (attP G.ao 4) (fV 1))) aNil))))
  sNil)))
theorem b7_eq (call : Nat → Gb) : fnBody (G.at_ call) f7 = b7 call := by kernel_rfl
def b8 (call : Nat → Gb) : Fs := (sSeq (sIf (bAnd (bTr (fB (callP call G.dfl 0) (aCons (fV 1) aNil))) (bTr (Ev.f2 (eqO call G.dfl G.eqf G.eqk true) (fV 1) (fK (.int 0))))) (sSeq (sRet (fB (makeP call G.dfl G.ini 5) (aCons (Ev.f1 (attP G.ao 3) (fV 0)) (aCons (Ev.f2 (binO call G.dfl G.opf .Mult) (Ev.f1 (attP G.ao 4) (fV 0)) (fV 1)) aNil))))
  sNil) sNil)
  (sSeq (sIf (bOr (bNot (bTr (Ev.f1 (isaP G.io (.own 5)) (fV 1)))) (bTr (Ev.f2 (eqO call G.dfl G.eqf G.eqk false) (Ev.f1 (attP G.ao 3) (fV 1)) (fK (.int 0))))) (sSeq (sRaise G.exf 1 (aCons (fK (.str "divisor")) (aCons (fV 1) aNil)))
  sNil) sNil)
  (sSeq (sRet (fB (makeP call G.dfl G.ini 5) (aCons (Ev.f2 (binO call G.dfl G.opf .Mult) (Ev.f1 (attP G.ao 3) (fV 0)) (Ev.f1 (attP G.ao 4) (fV 1))) (aCons (Ev.f2 (binO call G.dfl G.opf .Mult) (Ev.f1 (attP G.ao 4) (fV 0)) (Ev.f1 (attP G.ao 3) (fV 1))) aNil))))
  sNil)))
theorem b8_eq (call : Nat → Gb) : fnBody (G.at_ call) f8 = b8 call := by kernel_rfl
def b9 (call : Nat → Gb) : Fs := (sSeq (sRet (fOr (fB (callP call G.dfl 0) (aCons (fV 0) aNil)) (Ev.f1 (isaP G.io (.own 5)) (fV 0))))
  sNil)
theorem b9_eq (call : Nat → Gb) : fnBody (G.at_ call) f9 = b9 call := by kernel_rfl
def b10 (call : Nat → Gb) : Fs := (sSeq (sRet (fIf (bTr (fB (callP call G.dfl 0) (aCons (fV 0) aNil))) (fB (makeP call G.dfl G.ini 5) (aCons (fV 0) aNil)) (fV 0)))
  sNil)
theorem b10_eq (call : Nat → Gb) : fnBody (G.at_ call) f10 = b10 call := by kernel_rfl
def b11_l1 (call : Nat → Gb) : Fs := (sSeq (sSet 1 (Ev.f2 (binO call G.dfl G.opf .FloorDiv) (Ev.f2 (binO call G.dfl G.opf .Mult) (fV 1) (Ev.f1 (attP G.ao 4) (fV 2))) (fB gGcd (aCons (fV 1) (aCons (Ev.f1 (attP G.ao 4) (fV 2)) aNil)))))
  sNil)
def b11 (call : Nat → Gb) : Fs := (sSeq (sSet 1 (fK (.int 1)))
  (sSeq (sFor (.nm 2) (iSeq (fV 0)) (b11_l1 call))
  (sSeq (sRet (fV 1))
  sNil)))
theorem b11_eq (call : Nat → Gb) : fnBody (G.at_ call) f11 = b11 call := by kernel_rfl
def b12 (call : Nat → Gb) : Fs := (sSeq (sIf (bTr (Ev.f2 ltP (Ev.f1 (attP G.ao 5) (fV 0)) (fK (.int 0)))) (sSeq (sRet (fK .non))
  sNil) sNil)
  (sSeq (sPar2 1 2 (aCons (fB gIsqrt (aCons (Ev.f1 (attP G.ao 3) (fV 0)) aNil)) (aCons (fB gIsqrt (aCons (Ev.f1 (attP G.ao 4) (fV 0)) aNil)) aNil)))
  (sSeq (sRet (fIf (bAnd (bTr (Ev.f2 (eqO call G.dfl G.eqf G.eqk false) (Ev.f2 (binO call G.dfl G.opf .Mult) (fV 1) (fV 1)) (Ev.f1 (attP G.ao 3) (fV 0)))) (bTr (Ev.f2 (eqO call G.dfl G.eqf G.eqk false) (Ev.f2 (binO call G.dfl G.opf .Mult) (fV 2) (fV 2)) (Ev.f1 (attP G.ao 4) (fV 0))))) (fB (makeP call G.dfl G.ini 5) (aCons (fV 1) (aCons (fV 2) aNil))) (fK .non)))
  sNil)))
theorem b12_eq (call : Nat → Gb) : fnBody (G.at_ call) f12 = b12 call := by kernel_rfl
def b13 (call : Nat → Gb) : Fs := (sSeq (sIf (bOr (bNot (bTr (fB (callP call G.dfl 1) (aCons (fV 1) aNil)))) (bOr (bTr (Ev.f2 (eqO call G.dfl G.eqf G.eqk true) (fB gLen (aCons (fV 1) aNil)) (fK (.int 5)))) (bNot (bTr (fB gAll (aCons (fFrz (lComp (.nm 2) [2] (iSeq (fV 1)) bYes (fB (callP call G.dfl 0) (aCons (fV 2) aNil)))) aNil)))))) (sSeq (sRaise G.exf 2 (aCons (fK (.str "numbers")) aNil))
  sNil) sNil)
  (sSeq (sAtt G.ao 7 (fV 0) (fB gTup (aCons (fV 1) aNil)))
  (sSeq (sAtt G.ao 8 (fV 0) (fB (callP call G.dfl 15) (aCons (Ev.f1 (attP G.ao 7) (fV 0)) aNil)))
  (sSeq (sAtt G.ao 9 (fV 0) (fB (callP call G.dfl 16) (aCons (Ev.f1 (attP G.ao 8) (fV 0)) aNil)))
  (sSeq (sAtt G.ao 10 (fV 0) (fB (callP call G.dfl 17) (aCons (Ev.f1 (attP G.ao 8) (fV 0)) aNil)))
  (sSeq (sIf (bTr (Ev.f2 (eqO call G.dfl G.eqf G.eqk false) (Ev.f1 (attP G.ao 10) (fV 0)) (fK (.int 0)))) (sSeq (sRaise G.exf 2 (aCons (fK (.str "flat")) aNil))
  sNil) sNil)
  sNil))))))
theorem b13_eq (call : Nat → Gb) : fnBody (G.at_ call) f13 = b13 call := by kernel_rfl
def b14 (call : Nat → Gb) : Fs := (sSeq (sRet (fAnd (Ev.f1 (isaP G.io (.own 6)) (fV 1)) (Ev.f2 (eqO call G.dfl G.eqf G.eqk false) (Ev.f1 (attP G.ao 7) (fV 0)) (Ev.f1 (attP G.ao 7) (fV 1)))))
  sNil)
theorem b14_eq (call : Nat → Gb) : fnBody (G.at_ call) f14 = b14 call := by kernel_rfl
def b15 (call : Nat → Gb) : Fs := (sSeq (sAsg (fV 0) (gPt (.tp [(.nm 1), (.nm 2), (.nm 3), (.nm 4), (.nm 5)])))
  (sSeq (sSet 6 (Ev.f2 (binO call G.dfl G.opf .Sub) (Ev.f2 (binO call G.dfl G.opf .Add) (Ev.f2 (binO call G.dfl G.opf .Sub) (Ev.f2 (binO call G.dfl G.opf .Add) (Ev.f2 (binO call G.dfl G.opf .Mult) (Ev.f2 (binO call G.dfl G.opf .Mult) (fV 1) (fV 1)) (fV 5)) (Ev.f2 (binO call G.dfl G.opf .Mult) (Ev.f2 (binO call G.dfl G.opf .Mult) (fV 2) (fV 5)) (fK (.int 4)))) (Ev.f2 (binO call G.dfl G.opf .Mult) (Ev.f2 (binO call G.dfl G.opf .Mult) (fV 1) (fV 3)) (fV 4))) (Ev.f2 (binO call G.dfl G.opf .Mult) (Ev.f2 (binO call G.dfl G.opf .Mult) (fV 2) (fV 3)) (fV 3))) (Ev.f2 (binO call G.dfl G.opf .Mult) (fV 4) (fV 4))))
  (sSeq (sRet (fTup (aCons (Ev.f2 (binO call G.dfl G.opf .Add) (Ev.f2 (binO call G.dfl G.opf .Mult) (fV 1) (fV 1)) (Ev.f2 (binO call G.dfl G.opf .Mult) (fV 2) (fK (.int 4)))) (aCons (Ev.f2 (binO call G.dfl G.opf .Add) (Ev.f2 (binO call G.dfl G.opf .Mult) (fV 4) (fK (.int 2))) (Ev.f2 (binO call G.dfl G.opf .Mult) (fV 1) (fV 3))) (aCons (Ev.f2 (binO call G.dfl G.opf .Add) (Ev.f2 (binO call G.dfl G.opf .Mult) (fV 3) (fV 3)) (Ev.f2 (binO call G.dfl G.opf .Mult) (fV 5) (fK (.int 4)))) (aCons (fV 6) aNil))))))
  sNil)))
theorem b15_eq (call : Nat → Gb) : fnBody (G.at_ call) f15 = b15 call := by kernel_rfl
def b16 (call : Nat → Gb) : Fs := (sSeq (sAsg (fV 0) (gPt (.tp [(.nm 1), (.nm 2), (.nm 3), (.nm 4)])))
  (sSeq (sRet (fTup (aCons (Ev.f2 (binO call G.dfl G.opf .Sub) (Ev.f2 (binO call G.dfl G.opf .Mult) (fV 1) (fV 1)) (Ev.f2 (binO call G.dfl G.opf .Mult) (fV 2) (fK (.int 24)))) (aCons (Ev.f2 (binO call G.dfl G.opf .Sub) (Ev.f2 (binO call G.dfl G.opf .Sub) (Ev.f2 (binO call G.dfl G.opf .Mult) (Ev.f2 (binO call G.dfl G.opf .Mult) (fV 1) (fV 2)) (fK (.int 36))) (Ev.f2 (binO call G.dfl G.opf .Mult) (Ev.f2 (binO call G.dfl G.opf .Mult) (fV 1) (fV 1)) (fV 1))) (Ev.f2 (binO call G.dfl G.opf .Mult) (fV 3) (fK (.int 216)))) aNil))))
  sNil))
theorem b16_eq (call : Nat → Gb) : fnBody (G.at_ call) f16 = b16 call := by kernel_rfl
def b17 (call : Nat → Gb) : Fs := (sSeq (sAsg (fV 0) (gPt (.tp [(.nm 1), (.nm 2), (.nm 3), (.nm 4)])))
  (sSeq (sRet (Ev.f2 (binO call G.dfl G.opf .Sub) (Ev.f2 (binO call G.dfl G.opf .Sub) (Ev.f2 (binO call G.dfl G.opf .Sub) (Ev.f2 (binO call G.dfl G.opf .Mult) (Ev.f2 (binO call G.dfl G.opf .Mult) (Ev.f2 (binO call G.dfl G.opf .Mult) (fV 1) (fV 2)) (fV 3)) (fK (.int 9))) (Ev.f2 (binO call G.dfl G.opf .Mult) (Ev.f2 (binO call G.dfl G.opf .Mult) (fV 1) (fV 1)) (fV 4))) (Ev.f2 (binO call G.dfl G.opf .Mult) (Ev.f2 (binO call G.dfl G.opf .Mult) (Ev.f2 (binO call G.dfl G.opf .Mult) (fV 2) (fV 2)) (fV 2)) (fK (.int 8)))) (Ev.f2 (binO call G.dfl G.opf .Mult) (Ev.f2 (binO call G.dfl G.opf .Mult) (fV 3) (fV 3)) (fK (.int 27)))))
  sNil))
theorem b17_eq (call : Nat → Gb) : fnBody (G.at_ call) f17 = b17 call := by kernel_rfl
def b18 (call : Nat → Gb) : Fs := (sSeq (sIf (bTr (Ev.f2 ltP (fV 0) (fK (.int 0)))) (sSeq (sRet (fK .non))
  sNil) sNil)
  (sSeq (sSet 1 (fB gIsqrt (aCons (fV 0) aNil)))
  (sSeq (sRet (fIf (bTr (Ev.f2 (eqO call G.dfl G.eqf G.eqk false) (Ev.f2 (binO call G.dfl G.opf .Mult) (fV 1) (fV 1)) (fV 0))) (fV 1) (fK .non)))
  sNil)))
theorem b18_eq (call : Nat → Gb) : fnBody (G.at_ call) f18 = b18 call := by kernel_rfl
def b19 (call : Nat → Gb) : Fs := (sSeq (sIf (bOr (bNot (bTr (fB (callP call G.dfl 1) (aCons (fV 0) aNil)))) (bOr (bTr (Ev.f2 (eqO call G.dfl G.eqf G.eqk true) (fB gLen (aCons (fV 0) aNil)) (fK (.int 2)))) (bNot (bTr (fB gAll (aCons (fFrz (lComp (.nm 1) [1] (iSeq (fV 0)) bYes (fB (callP call G.dfl 0) (aCons (fV 1) aNil)))) aNil)))))) (sSeq (sRet (fK (.bl false)))
  sNil) sNil)
  (sSeq (sRet (Ev.f2 (eqO call G.dfl G.eqf G.eqk true) (Ev.f2 (binO call G.dfl G.opf .Mult) (Ev.f2 ixP (fV 0) (fK (.int 1))) (Ev.f2 (binO call G.dfl G.opf .Sub) (Ev.f2 (binO call G.dfl G.opf .Mult) (Ev.f2 ixP (fV 0) (fK (.int 0))) (Ev.f2 ixP (fV 0) (fK (.int 0)))) (Ev.f2 (binO call G.dfl G.opf .Mult) (Ev.f2 ixP (fV 0) (fK (.int 1))) (fK (.int 4))))) (fK (.int 0))))
  sNil))
theorem b19_eq (call : Nat → Gb) : fnBody (G.at_ call) f19 = b19 call := by kernel_rfl
def b20 (call : Nat → Gb) : Fs := (sSeq (sIf (bNot (bTr (fB (callP call G.dfl 19) (aCons (fV 0) aNil)))) (sSeq (sRaise G.exf 4 (aCons (fV 0) aNil))
  sNil) sNil)
  (sSeq (sRet (fB gTup (aCons (fV 0) aNil)))
  sNil))
theorem b20_eq (call : Nat → Gb) : fnBody (G.at_ call) f20 = b20 call := by kernel_rfl
def b21 (call : Nat → Gb) : Fs := (sSeq (sRet (fB (makeP call G.dfl G.ini 6) (aCons (fTup (aCons (fK (.int 0)) (aCons (Ev.f2 ixP (fV 0) (fK (.int 0))) (aCons (fK (.int 0)) (aCons (Ev.f2 ixP (fV 0) (fK (.int 1))) (aCons (fK (.int 0)) aNil)))))) aNil)))
  sNil)
theorem b21_eq (call : Nat → Gb) : fnBody (G.at_ call) f21 = b21 call := by kernel_rfl
def b22 (call : Nat → Gb) : Fs := (sSeq (sAsg (Ev.f1 (attP G.ao 7) (fV 0)) (gPt (.tp [(.nm 3), (.nm 4), (.nm 5), (.nm 6), (.nm 7)])))
  (sSeq (sRet (Ev.f2 (eqO call G.dfl G.eqf G.eqk false) (Ev.f2 (binO call G.dfl G.opf .Add) (Ev.f2 (binO call G.dfl G.opf .Add) (Ev.f2 (binO call G.dfl G.opf .Mult) (fV 2) (fV 2)) (Ev.f2 (binO call G.dfl G.opf .Mult) (Ev.f2 (binO call G.dfl G.opf .Mult) (fV 1) (fV 2)) (fV 3))) (Ev.f2 (binO call G.dfl G.opf .Mult) (fV 2) (fV 5))) (Ev.f2 (binO call G.dfl G.opf .Add) (Ev.f2 (binO call G.dfl G.opf .Add) (Ev.f2 (binO call G.dfl G.opf .Add) (Ev.f2 (binO call G.dfl G.opf .Mult) (Ev.f2 (binO call G.dfl G.opf .Mult) (fV 1) (fV 1)) (fV 1)) (Ev.f2 (binO call G.dfl G.opf .Mult) (Ev.f2 (binO call G.dfl G.opf .Mult) (fV 1) (fV 1)) (fV 4))) (Ev.f2 (binO call G.dfl G.opf .Mult) (fV 1) (fV 6))) (fV 7))))
  sNil))
theorem b22_eq (call : Nat → Gb) : fnBody (G.at_ call) f22 = b22 call := by kernel_rfl
def b23 (call : Nat → Gb) : Fs := (sSeq (sIf (bOr (bNot (bTr (fB (callP call G.dfl 1) (aCons (fV 0) aNil)))) (bOr (bTr (Ev.f2 (eqO call G.dfl G.eqf G.eqk true) (fB gLen (aCons (fV 0) aNil)) (fK (.int 2)))) (bNot (bTr (fB gAll (aCons (fFrz (lComp (.nm 1) [1] (iSeq (fV 0)) bYes (fB (callP call G.dfl 9) (aCons (fV 1) aNil)))) aNil)))))) (sSeq (sRet (fK .non))
  sNil) sNil)
  (sSeq (sRet (fTup (aCons (fB (callP call G.dfl 10) (aCons (Ev.f2 ixP (fV 0) (fK (.int 0))) aNil)) (aCons (fB (callP call G.dfl 10) (aCons (Ev.f2 ixP (fV 0) (fK (.int 1))) aNil)) aNil))))
  sNil))
theorem b23_eq (call : Nat → Gb) : fnBody (G.at_ call) f23 = b23 call := by kernel_rfl
def b24 (call : Nat → Gb) : Fs := (sSeq (sIf (bTr (Ev.f2 isQ (fV 1) (fK .non))) (sSeq (sRet (fK .non))
  sNil) sNil)
  (sSeq (sSet 2 (fB (callP call G.dfl 23) (aCons (fV 1) aNil)))
  (sSeq (sIf (bOr (bTr (Ev.f2 isQ (fV 2) (fK .non))) (bNot (bTr (fB (callP call G.dfl 22) (aCons (fV 0) (aCons (Ev.f2 ixP (fV 2) (fK (.int 0))) (aCons (Ev.f2 ixP (fV 2) (fK (.int 1))) aNil))))))) (sSeq (sRaise G.exf 3 (aCons (fV 1) aNil))
  sNil) sNil)
  (sSeq (sRet (fV 2))
  sNil))))
theorem b24_eq (call : Nat → Gb) : fnBody (G.at_ call) f24 = b24 call := by kernel_rfl
def b25 (call : Nat → Gb) : Fs := (sSeq (sSet 1 (fFrz (lComp (.nm 2) [2] (iSeq (fV 0)) (bTr (Ev.f2 isnQ (fV 2) (fK .non))) (fV 2))))
  (sSeq (sSet 3 (fB (callP call G.dfl 11) (aCons (fFrz (lComp2 (.nm 2) [2, 4] (iSeq (fV 1)) bYes (.nm 4) [4] (iSeq (fV 2)) bYes (fV 4))) aNil)))
  (sSeq (sSet 5 (fB gSort (aCons (fFrz (lComp (.tp [(.nm 6), (.tp [(.nm 7), (.nm 8)])]) [6, 7, 8] (iEnumF (fV 1)) bYes (fTup (aCons (Ev.f2 (binO call G.dfl G.opf .Mult) (Ev.f1 (attP G.ao 3) (fV 7)) (Ev.f2 (binO call G.dfl G.opf .FloorDiv) (fV 3) (Ev.f1 (attP G.ao 4) (fV 7)))) (aCons (Ev.f2 (binO call G.dfl G.opf .Mult) (Ev.f1 (attP G.ao 3) (fV 8)) (Ev.f2 (binO call G.dfl G.opf .FloorDiv) (fV 3) (Ev.f1 (attP G.ao 4) (fV 8)))) (aCons (fV 6) aNil)))))) aNil)))
  (sSeq (sRet (fB gTup (aCons (Ev.f2 (binO call G.dfl G.opf .Add) (fFrz (lComp (.nm 2) [2] (iSeq (fV 0)) (bTr (Ev.f2 isQ (fV 2) (fK .non))) (fV 2))) (fFrz (lComp (.nm 9) [9] (iSeq (fV 5)) bYes (Ev.f2 ixP (fV 1) (Ev.f2 ixP (fV 9) (fK (.int 2))))))) aNil)))
  sNil))))
theorem b25_eq (call : Nat → Gb) : fnBody (G.at_ call) f25 = b25 call := by kernel_rfl
def b26 (call : Nat → Gb) : Fs := (sSeq (sRet (fAnd (Ev.f2 isnQ (fV 0) (fK .non)) (Ev.f2 (eqO call G.dfl G.eqf G.eqk false) (Ev.f1 (attP G.ao 3) (Ev.f2 ixP (fV 0) (fK (.int 0)))) (fK (.int 0)))))
  sNil)
theorem b26_eq (call : Nat → Gb) : fnBody (G.at_ call) f26 = b26 call := by kernel_rfl
def b27 (call : Nat → Gb) : Fs := (sSeq (sAsg (fV 0) (gPt (.tp [(.nm 1), (.nm 2)])))
  (sSeq (sRet (fTup (aCons (Ev.f2 (binO call G.dfl G.opf .Mult) (Ev.f1 (negO call G.dfl G.ngf) (fK (.int 2))) (fV 1)) (aCons (Ev.f2 (binO call G.dfl G.opf .Sub) (Ev.f2 (binO call G.dfl G.opf .Mult) (fV 1) (fV 1)) (Ev.f2 (binO call G.dfl G.opf .Mult) (fV 2) (fK (.int 4)))) aNil))))
  sNil))
theorem b27_eq (call : Nat → Gb) : fnBody (G.at_ call) f27 = b27 call := by kernel_rfl
def b28 (call : Nat → Gb) : Fs := (sSeq (sIf (bOr (bTr (Ev.f2 isQ (fV 1) (fK .non))) (bTr (fB (callP call G.dfl 26) (aCons (fV 1) aNil)))) (sSeq (sRet (fK .non))
  sNil) sNil)
  (sSeq (sAsg (fV 1) (gPt (.tp [(.nm 2), (.nm 3)])))
  (sSeq (sSet 4 (Ev.f2 (binO call G.dfl G.opf .Mult) (fV 2) (fV 2)))
  (sSeq (sRet (fTup (aCons (fMth call G.dfl G.mtf "over" (Ev.f2 (binO call G.dfl G.opf .Mult) (fV 3) (fV 3)) (aCons (fV 4) aNil)) (aCons (Ev.f2 (binO call G.dfl G.opf .Mult) (fV 3) (fMth call G.dfl G.mtf "over" (Ev.f2 (binO call G.dfl G.opf .Sub) (fB (makeP call G.dfl G.ini 5) (aCons (Ev.f2 ixP (fV 0) (fK (.int 1))) aNil)) (fV 4)) (aCons (fV 4) aNil))) aNil))))
  sNil))))
theorem b28_eq (call : Nat → Gb) : fnBody (G.at_ call) f28 = b28 call := by kernel_rfl
def b29 (call : Nat → Gb) : Fs := (sSeq (sSet 0 (fB (callP call G.dfl 20) (aCons (fV 0) aNil)))
  (sSeq (sRet (fB (callP call G.dfl 28) (aCons (fV 0) (aCons (fB (callP call G.dfl 24) (aCons (fB (callP call G.dfl 21) (aCons (fV 0) aNil)) (aCons (fV 1) aNil))) aNil))))
  sNil))
theorem b29_eq (call : Nat → Gb) : fnBody (G.at_ call) f29 = b29 call := by kernel_rfl
def b30 (call : Nat → Gb) : Fs := (sSeq (sIf (bOr (bTr (Ev.f2 isQ (fV 1) (fK .non))) (bTr (fB (callP call G.dfl 26) (aCons (fV 1) aNil)))) (sSeq (sRet (fK .non))
  sNil) sNil)
  (sSeq (sAsg (fV 1) (gPt (.tp [(.nm 2), (.nm 3)])))
  (sSeq (sSet 4 (Ev.f2 (binO call G.dfl G.opf .Mult) (fV 2) (fV 2)))
  (sSeq (sRet (fTup (aCons (fMth call G.dfl G.mtf "over" (Ev.f2 (binO call G.dfl G.opf .Mult) (fV 3) (fV 3)) (aCons (Ev.f2 (binO call G.dfl G.opf .Mult) (fV 4) (fK (.int 4))) aNil)) (aCons (Ev.f2 (binO call G.dfl G.opf .Mult) (fV 3) (fMth call G.dfl G.mtf "over" (Ev.f2 (binO call G.dfl G.opf .Sub) (fB (makeP call G.dfl G.ini 5) (aCons (Ev.f2 ixP (fB (callP call G.dfl 27) (aCons (fV 0) aNil)) (fK (.int 1))) aNil)) (fV 4)) (aCons (Ev.f2 (binO call G.dfl G.opf .Mult) (fV 4) (fK (.int 8))) aNil))) aNil))))
  sNil))))
theorem b30_eq (call : Nat → Gb) : fnBody (G.at_ call) f30 = b30 call := by kernel_rfl
def b31 (call : Nat → Gb) : Fs := (sSeq (sSet 0 (fB (callP call G.dfl 20) (aCons (fV 0) aNil)))
  (sSeq (sRet (fB (callP call G.dfl 30) (aCons (fV 0) (aCons (fB (callP call G.dfl 24) (aCons (fB (callP call G.dfl 21) (aCons (fB (callP call G.dfl 27) (aCons (fV 0) aNil)) aNil)) (aCons (fV 1) aNil))) aNil))))
  sNil))
theorem b31_eq (call : Nat → Gb) : fnBody (G.at_ call) f31 = b31 call := by kernel_rfl
def b32 (call : Nat → Gb) : Fs := (sSeq (sAsg (fV 0) (gPt (.tp [(.nm 2), (.nm 3)])))
  (sSeq (sIf (bTr (Ev.f2 isQ (fV 1) (fK .non))) (sSeq (sRet (fTup (aCons (fK .non) (aCons (fTup (aCons (fB (makeP call G.dfl G.ini 5) (aCons (fK (.int 0)) aNil)) (aCons (fB (makeP call G.dfl G.ini 5) (aCons (fK (.int 0)) aNil)) aNil))) aNil))))
  sNil) sNil)
  (sSeq (sIf (bTr (fB (callP call G.dfl 26) (aCons (fV 1) aNil))) (sSeq (sSet 4 (fB (callP call G.dfl 18) (aCons (fV 3) aNil)))
  (sSeq (sRet (fIf (bTr (Ev.f2 isQ (fV 4) (fK .non))) (fTup aNil) (fTup (aCons (fTup (aCons (fB (makeP call G.dfl G.ini 5) (aCons (Ev.f2 (binO call G.dfl G.opf .Sub) (fV 2) (Ev.f2 (binO call G.dfl G.opf .Mult) (fV 4) (fK (.int 2)))) aNil)) (aCons (fB (makeP call G.dfl G.ini 5) (aCons (fK (.int 0)) aNil)) aNil))) (aCons (fTup (aCons (fB (makeP call G.dfl G.ini 5) (aCons (Ev.f2 (binO call G.dfl G.opf .Add) (fV 2) (Ev.f2 (binO call G.dfl G.opf .Mult) (fV 4) (fK (.int 2)))) aNil)) (aCons (fB (makeP call G.dfl G.ini 5) (aCons (fK (.int 0)) aNil)) aNil))) aNil)))))
  sNil)) sNil)
  (sSeq (sAsg (fV 1) (gPt (.tp [(.nm 5), (.nm 6)])))
  (sSeq (sSet 4 (fB (callP call G.dfl 12) (aCons (fV 5) aNil)))
  (sSeq (sIf (bTr (Ev.f2 isQ (fV 4) (fK .non))) (sSeq (sRet (fTup aNil))
  sNil) sNil)
  (sSeq (sPar2 7 8 (aCons (Ev.f2 (binO call G.dfl G.opf .Add) (Ev.f2 (binO call G.dfl G.opf .Mult) (fV 5) (fK (.int 2))) (fV 2)) (aCons (fMth call G.dfl G.mtf "over" (Ev.f2 (binO call G.dfl G.opf .Mult) (fV 6) (fK (.int 2))) (aCons (fV 4) aNil)) aNil)))
  (sSeq (sPar2 9 10 (aCons (Ev.f2 (binO call G.dfl G.opf .Sub) (fV 7) (fV 8)) (aCons (Ev.f2 (binO call G.dfl G.opf .Add) (fV 7) (fV 8)) aNil)))
  (sSeq (sRet (fB (callP call G.dfl 25) (aCons (fFrz (lDisp (aCons (fTup (aCons (fV 9) (aCons (Ev.f2 (binO call G.dfl G.opf .Mult) (Ev.f2 (binO call G.dfl G.opf .Mult) (fV 4) (fV 9)) (fK (.int 2))) aNil))) (aCons (fTup (aCons (fV 10) (aCons (Ev.f1 (negO call G.dfl G.ngf) (Ev.f2 (binO call G.dfl G.opf .Mult) (Ev.f2 (binO call G.dfl G.opf .Mult) (fV 4) (fV 10)) (fK (.int 2)))) aNil))) aNil)))) aNil)))
  sNil)))))))))
theorem b32_eq (call : Nat → Gb) : fnBody (G.at_ call) f32 = b32 call := by kernel_rfl
def b33 (call : Nat → Gb) : Fs := (sSeq (sSet 0 (fB (callP call G.dfl 20) (aCons (fV 0) aNil)))
  (sSeq (sRet (fB (callP call G.dfl 32) (aCons (fV 0) (aCons (fB (callP call G.dfl 24) (aCons (fB (callP call G.dfl 21) (aCons (fV 0) aNil)) (aCons (fV 1) aNil))) aNil))))
  sNil))
theorem b33_eq (call : Nat → Gb) : fnBody (G.at_ call) f33 = b33 call := by kernel_rfl
def b34 (call : Nat → Gb) : Fs := (sSeq (sAsg (fV 0) (gPt (.tp [(.nm 2), (.nm 3)])))
  (sSeq (sIf (bTr (Ev.f2 isQ (fV 1) (fK .non))) (sSeq (sRet (fTup (aCons (fK .non) (aCons (fTup (aCons (fB (makeP call G.dfl G.ini 5) (aCons (fK (.int 0)) aNil)) (aCons (fB (makeP call G.dfl G.ini 5) (aCons (fK (.int 0)) aNil)) aNil))) aNil))))
  sNil) sNil)
  (sSeq (sIf (bTr (fB (callP call G.dfl 26) (aCons (fV 1) aNil))) (sSeq (sSet 4 (fB (callP call G.dfl 18) (aCons (Ev.f2 (binO call G.dfl G.opf .Sub) (Ev.f2 (binO call G.dfl G.opf .Mult) (fV 2) (fV 2)) (Ev.f2 (binO call G.dfl G.opf .Mult) (fV 3) (fK (.int 4)))) aNil)))
  (sSeq (sRet (fIf (bTr (Ev.f2 isQ (fV 4) (fK .non))) (fTup aNil) (fTup (aCons (fTup (aCons (fB (makeP call G.dfl G.ini 5) (aCons (Ev.f2 (binO call G.dfl G.opf .Sub) (Ev.f1 (negO call G.dfl G.ngf) (fV 2)) (fV 4)) (aCons (fK (.int 2)) aNil))) (aCons (fB (makeP call G.dfl G.ini 5) (aCons (fK (.int 0)) aNil)) aNil))) (aCons (fTup (aCons (fB (makeP call G.dfl G.ini 5) (aCons (Ev.f2 (binO call G.dfl G.opf .Sub) (fV 4) (fV 2)) (aCons (fK (.int 2)) aNil))) (aCons (fB (makeP call G.dfl G.ini 5) (aCons (fK (.int 0)) aNil)) aNil))) aNil)))))
  sNil)) sNil)
  (sSeq (sAsg (fV 1) (gPt (.tp [(.nm 5), (.nm 6)])))
  (sSeq (sSet 4 (fB (callP call G.dfl 12) (aCons (fV 5) aNil)))
  (sSeq (sIf (bTr (Ev.f2 isQ (fV 4) (fK .non))) (sSeq (sRet (fTup aNil))
  sNil) sNil)
  (sSeq (sPar2 7 8 (aCons (Ev.f2 (binO call G.dfl G.opf .Sub) (fV 5) (fV 2)) (aCons (fMth call G.dfl G.mtf "over" (fV 6) (aCons (fV 4) aNil)) aNil)))
  (sSeq (sPar2 9 10 (aCons (fMth call G.dfl G.mtf "over" (Ev.f2 (binO call G.dfl G.opf .Sub) (fV 7) (fV 8)) (aCons (fK (.int 2)) aNil)) (aCons (fMth call G.dfl G.mtf "over" (Ev.f2 (binO call G.dfl G.opf .Add) (fV 7) (fV 8)) (aCons (fK (.int 2)) aNil)) aNil)))
  (sSeq (sRet (fB (callP call G.dfl 25) (aCons (fFrz (lDisp (aCons (fTup (aCons (fV 9) (aCons (Ev.f2 (binO call G.dfl G.opf .Mult) (fV 4) (fV 9)) aNil))) (aCons (fTup (aCons (fV 10) (aCons (Ev.f1 (negO call G.dfl G.ngf) (Ev.f2 (binO call G.dfl G.opf .Mult) (fV 4) (fV 10))) aNil))) aNil)))) aNil)))
  sNil)))))))))
theorem b34_eq (call : Nat → Gb) : fnBody (G.at_ call) f34 = b34 call := by kernel_rfl
def b35 (call : Nat → Gb) : Fs := (sSeq (sSet 0 (fB (callP call G.dfl 20) (aCons (fV 0) aNil)))
  (sSeq (sRet (fB (callP call G.dfl 34) (aCons (fV 0) (aCons (fB (callP call G.dfl 24) (aCons (fB (callP call G.dfl 21) (aCons (fB (callP call G.dfl 27) (aCons (fV 0) aNil)) aNil)) (aCons (fV 1) aNil))) aNil))))
  sNil))
theorem b35_eq (call : Nat → Gb) : fnBody (G.at_ call) f35 = b35 call := by kernel_rfl
def b36_l1 (call : Nat → Gb) : Fs := (sSeq (sSet 1 (Ev.f2 (binO call G.dfl G.opf .Mod) (fB gInt (aCons (Ev.f2 (binO call G.dfl G.opf .Add) (Ev.f2 (binO call G.dfl G.opf .Mult) (fV 1) (fK (.int 59))) (fV 2)) aNil)) (fK (.int 1000000009))))
  sNil)
def b36 (call : Nat → Gb) : Fs := (sSeq (sSet 1 (fK (.int 0)))
  (sSeq (sFor (.nm 2) (iSeq (fV 0)) (b36_l1 call))
  (sSeq (sRet (fDict (pCons (fK (.str "cells")) (fFrz (lList (fV 0))) (pCons (fK (.str "at")) (fK (.int 0)) (pCons (fK (.str "digits")) (fK (.int 0)) (pCons (fK (.str "count")) (fK (.int 0)) (pCons (fK (.str "fold")) (fV 1) pNil)))))))
  sNil)))
theorem b36_eq (call : Nat → Gb) : fnBody (G.at_ call) f36 = b36 call := by kernel_rfl
def b37 (call : Nat → Gb) : Fs := (sSeq (sAsg (Ev.f2 (binO call G.dfl G.opf .Add) (Ev.f2 ixP (fV 0) (fK (.str "count"))) (fK (.int 1))) (gSubD (fV 0) (fK (.str "count"))))
  (sSeq (sIf (bAnd (bTr (Ev.f2 (eqO call G.dfl G.eqf G.eqk false) (Ev.f2 ixP (fV 0) (fK (.str "digits"))) (fK (.int 0)))) (bTr (Ev.f2 ltP (Ev.f2 ixP (fV 0) (fK (.str "at"))) (fB gLen (aCons (Ev.f2 ixP (fV 0) (fK (.str "cells"))) aNil))))) (sSeq (sSet 2 (Ev.f2 ixP (Ev.f2 ixP (fV 0) (fK (.str "cells"))) (Ev.f2 ixP (fV 0) (fK (.str "at")))))
  (sSeq (sAsg (Ev.f2 (binO call G.dfl G.opf .Add) (Ev.f2 ixP (fV 0) (fK (.str "at"))) (fK (.int 1))) (gSubD (fV 0) (fK (.str "at"))))
  (sSeq (sIf (bTr (Ev.f2 geP (fV 2) (Ev.f2 (binO call G.dfl G.opf .Pow) (fK (.int 10)) (fK (.int 18))))) (sSeq (sAsg (Ev.f2 (binO call G.dfl G.opf .Sub) (fV 2) (Ev.f2 (binO call G.dfl G.opf .Pow) (fK (.int 10)) (fK (.int 18)))) (gSubD (fV 0) (fK (.str "digits"))))
  sNil) (sSeq (sAsg (Ev.f2 (binO call G.dfl G.opf .Mod) (fB gInt (aCons (Ev.f2 (binO call G.dfl G.opf .Add) (Ev.f2 (binO call G.dfl G.opf .Mult) (Ev.f2 ixP (fV 0) (fK (.str "fold"))) (fK (.int 69069))) (fV 2)) aNil)) (fK (.int 2147483563))) (gSubD (fV 0) (fK (.str "fold"))))
  sNil))
  sNil))) sNil)
  (sSeq (sIf (bTr (Ev.f2 gtP (Ev.f2 ixP (fV 0) (fK (.str "digits"))) (fK (.int 0)))) (sSeq (sSet 3 (Ev.f2 (binO call G.dfl G.opf .Mod) (fB gInt (aCons (Ev.f2 ixP (fV 0) (fK (.str "digits"))) aNil)) (fV 1)))
  (sSeq (sAsg (Ev.f2 (binO call G.dfl G.opf .FloorDiv) (Ev.f2 ixP (fV 0) (fK (.str "digits"))) (fV 1)) (gSubD (fV 0) (fK (.str "digits"))))
  (sSeq (sRet (fV 3))
  sNil))) sNil)
  (sSeq (sSet 4 (Ev.f2 (binO call G.dfl G.opf .Add) (Ev.f2 (binO call G.dfl G.opf .Add) (Ev.f2 ixP (fV 0) (fK (.str "fold"))) (Ev.f2 (binO call G.dfl G.opf .Mult) (Ev.f2 ixP (fV 0) (fK (.str "count"))) (fK (.int 8179)))) (fK (.int 41))))
  (sSeq (sRet (Ev.f2 (binO call G.dfl G.opf .Mod) (Ev.f2 (binO call G.dfl G.opf .FloorDiv) (fB gInt (aCons (Ev.f2 (binO call G.dfl G.opf .Mod) (Ev.f2 (binO call G.dfl G.opf .Pow) (fV 4) (fK (.int 17))) (fK (.int 2305843009213693951))) aNil)) (fK (.int 128))) (fV 1)))
  sNil)))))
theorem b37_eq (call : Nat → Gb) : fnBody (G.at_ call) f37 = b37 call := by kernel_rfl
def b38 (call : Nat → Gb) : Fs := (sSeq (sRet (Ev.f2 ixP (fV 1) (fB (callP call G.dfl 37) (aCons (fV 0) (aCons (fB gLen (aCons (fV 1) aNil)) aNil)))))
  sNil)
theorem b38_eq (call : Nat → Gb) : fnBody (G.at_ call) f38 = b38 call := by kernel_rfl
def b39 (call : Nat → Gb) : Fs := (sSeq (sRet (fIf (bTr (Ev.f2 (eqO call G.dfl G.eqf G.eqk false) (fB (callP call G.dfl 37) (aCons (fV 0) (aCons (fK (.int 2)) aNil))) (fK (.int 0)))) (fFrz (lList (fV 1))) (fB gTup (aCons (fV 1) aNil))))
  sNil)
theorem b39_eq (call : Nat → Gb) : fnBody (G.at_ call) f39 = b39 call := by kernel_rfl
def b40 (call : Nat → Gb) : Fs := (sSeq (sRet (Ev.f2 (binO call G.dfl G.opf .Sub) (fB (callP call G.dfl 37) (aCons (fV 0) (aCons (Ev.f2 (binO call G.dfl G.opf .Add) (Ev.f2 (binO call G.dfl G.opf .Mult) (fK (.int 2)) (fV 1)) (fK (.int 1))) aNil))) (fV 1)))
  sNil)
theorem b40_eq (call : Nat → Gb) : fnBody (G.at_ call) f40 = b40 call := by kernel_rfl
def b41 (call : Nat → Gb) : Fs := (sSeq (sPar2 0 1 (aCons (fB gAbs (aCons (fV 0) aNil)) (aCons (fB gAbs (aCons (fV 1) aNil)) aNil)))
  (sSeq (wLoop (bTr (Ev.f2 gtP (fV 1) (fK (.int 0)))) (sSeq (sPar2 0 1 (aCons (fV 1) (aCons (Ev.f2 (binO call G.dfl G.opf .Mod) (fV 0) (fV 1)) aNil)))
  sNil) G.fuel)
  (sSeq (sRet (fV 0))
  sNil)))
theorem b41_eq (call : Nat → Gb) : fnBody (G.at_ call) f41 = b41 call := by kernel_rfl
def b42 (call : Nat → Gb) : Fs := (sSeq (sIf (bTr (Ev.f2 ltP (fV 0) (fK (.int 2)))) (sSeq (sRet (fV 0))
  sNil) sNil)
  (sSeq (sSet 1 (Ev.f2 (binO call G.dfl G.opf .LShift) (fK (.int 1)) (Ev.f2 (binO call G.dfl G.opf .FloorDiv) (Ev.f2 (binO call G.dfl G.opf .Add) (fBits (fV 0)) (fK (.int 1))) (fK (.int 2)))))
  (sSeq (sSet 2 (Ev.f2 (binO call G.dfl G.opf .FloorDiv) (Ev.f2 (binO call G.dfl G.opf .Add) (fV 1) (Ev.f2 (binO call G.dfl G.opf .FloorDiv) (fV 0) (fV 1))) (fK (.int 2))))
  (sSeq (wLoop (bTr (Ev.f2 ltP (fV 2) (fV 1))) (sSeq (sPar2 1 2 (aCons (fV 2) (aCons (Ev.f2 (binO call G.dfl G.opf .FloorDiv) (Ev.f2 (binO call G.dfl G.opf .Add) (fV 2) (Ev.f2 (binO call G.dfl G.opf .FloorDiv) (fV 0) (fV 2))) (fK (.int 2))) aNil)))
  sNil) G.fuel)
  (sSeq (sRet (fV 1))
  sNil)))))
theorem b42_eq (call : Nat → Gb) : fnBody (G.at_ call) f42 = b42 call := by kernel_rfl
def b43 (call : Nat → Gb) : Fs := (sSeq (sIf (bOr (bTr (Ev.f2 ltP (fV 0) (fK (.int 0)))) (bTr (Ev.f2 (eqO call G.dfl G.eqf G.eqk true) (Ev.f2 (binO call G.dfl G.opf .Pow) (fB (callP call G.dfl 42) (aCons (fV 0) aNil)) (fK (.int 2))) (fV 0)))) (sSeq (sRet (fK .non))
  sNil) sNil)
  (sSeq (sRet (fB (callP call G.dfl 42) (aCons (fV 0) aNil)))
  sNil))
theorem b43_eq (call : Nat → Gb) : fnBody (G.at_ call) f43 = b43 call := by kernel_rfl
def b44 (call : Nat → Gb) : Fs := (sSeq (sSet 2 (fB (callP call G.dfl 41) (aCons (fV 0) (aCons (fV 1) aNil))))
  (sSeq (sRet (fIf (bTr (Ev.f2 gtP (fV 1) (fK (.int 0)))) (fTup (aCons (Ev.f2 (binO call G.dfl G.opf .FloorDiv) (fV 0) (fV 2)) (aCons (Ev.f2 (binO call G.dfl G.opf .FloorDiv) (fV 1) (fV 2)) aNil))) (fTup (aCons (Ev.f2 (binO call G.dfl G.opf .FloorDiv) (Ev.f1 (negO call G.dfl G.ngf) (fV 0)) (fV 2)) (aCons (Ev.f2 (binO call G.dfl G.opf .FloorDiv) (Ev.f1 (negO call G.dfl G.ngf) (fV 1)) (fV 2)) aNil)))))
  sNil))
theorem b44_eq (call : Nat → Gb) : fnBody (G.at_ call) f44 = b44 call := by kernel_rfl
def b45 (call : Nat → Gb) : Fs := (sSeq (sRet (fB (callP call G.dfl 44) (aCons (Ev.f2 (binO call G.dfl G.opf .Add) (Ev.f2 (binO call G.dfl G.opf .Mult) (Ev.f2 ixP (fV 0) (fK (.int 0))) (Ev.f2 ixP (fV 1) (fK (.int 1)))) (Ev.f2 (binO call G.dfl G.opf .Mult) (Ev.f2 ixP (fV 1) (fK (.int 0))) (Ev.f2 ixP (fV 0) (fK (.int 1))))) (aCons (Ev.f2 (binO call G.dfl G.opf .Mult) (Ev.f2 ixP (fV 0) (fK (.int 1))) (Ev.f2 ixP (fV 1) (fK (.int 1)))) aNil))))
  sNil)
theorem b45_eq (call : Nat → Gb) : fnBody (G.at_ call) f45 = b45 call := by kernel_rfl
def b46 (call : Nat → Gb) : Fs := (sSeq (sRet (fTup (aCons (Ev.f1 (negO call G.dfl G.ngf) (Ev.f2 ixP (fV 0) (fK (.int 0)))) (aCons (Ev.f2 ixP (fV 0) (fK (.int 1))) aNil))))
  sNil)
theorem b46_eq (call : Nat → Gb) : fnBody (G.at_ call) f46 = b46 call := by kernel_rfl
def b47 (call : Nat → Gb) : Fs := (sSeq (sRet (fB (callP call G.dfl 44) (aCons (Ev.f2 (binO call G.dfl G.opf .Sub) (Ev.f2 (binO call G.dfl G.opf .Mult) (Ev.f2 ixP (fV 0) (fK (.int 0))) (Ev.f2 ixP (fV 1) (fK (.int 1)))) (Ev.f2 (binO call G.dfl G.opf .Mult) (Ev.f2 ixP (fV 1) (fK (.int 0))) (Ev.f2 ixP (fV 0) (fK (.int 1))))) (aCons (Ev.f2 (binO call G.dfl G.opf .Mult) (Ev.f2 ixP (fV 0) (fK (.int 1))) (Ev.f2 ixP (fV 1) (fK (.int 1)))) aNil))))
  sNil)
theorem b47_eq (call : Nat → Gb) : fnBody (G.at_ call) f47 = b47 call := by kernel_rfl
def b48 (call : Nat → Gb) : Fs := (sSeq (sRet (fB (callP call G.dfl 44) (aCons (Ev.f2 (binO call G.dfl G.opf .Mult) (Ev.f2 ixP (fV 0) (fK (.int 0))) (Ev.f2 ixP (fV 1) (fK (.int 0)))) (aCons (Ev.f2 (binO call G.dfl G.opf .Mult) (Ev.f2 ixP (fV 0) (fK (.int 1))) (Ev.f2 ixP (fV 1) (fK (.int 1)))) aNil))))
  sNil)
theorem b48_eq (call : Nat → Gb) : fnBody (G.at_ call) f48 = b48 call := by kernel_rfl
def b49 (call : Nat → Gb) : Fs := (sSeq (sRet (fB (callP call G.dfl 44) (aCons (Ev.f2 (binO call G.dfl G.opf .Mult) (Ev.f2 ixP (fV 0) (fK (.int 0))) (Ev.f2 ixP (fV 1) (fK (.int 1)))) (aCons (Ev.f2 (binO call G.dfl G.opf .Mult) (Ev.f2 ixP (fV 0) (fK (.int 1))) (Ev.f2 ixP (fV 1) (fK (.int 0)))) aNil))))
  sNil)
theorem b49_eq (call : Nat → Gb) : fnBody (G.at_ call) f49 = b49 call := by kernel_rfl
def b50 (call : Nat → Gb) : Fs := (sSeq (sRet (Ev.f2 ltP (Ev.f2 (binO call G.dfl G.opf .Mult) (Ev.f2 ixP (fV 0) (fK (.int 0))) (Ev.f2 ixP (fV 1) (fK (.int 1)))) (Ev.f2 (binO call G.dfl G.opf .Mult) (Ev.f2 ixP (fV 1) (fK (.int 0))) (Ev.f2 ixP (fV 0) (fK (.int 1))))))
  sNil)
theorem b50_eq (call : Nat → Gb) : fnBody (G.at_ call) f50 = b50 call := by kernel_rfl
def b51 (call : Nat → Gb) : Fs := (sSeq (sPar2 1 2 (aCons (fB (callP call G.dfl 43) (aCons (Ev.f2 ixP (fV 0) (fK (.int 0))) aNil)) (aCons (fB (callP call G.dfl 43) (aCons (Ev.f2 ixP (fV 0) (fK (.int 1))) aNil)) aNil)))
  (sSeq (sRet (fIf (bOr (bTr (Ev.f2 isQ (fV 1) (fK .non))) (bTr (Ev.f2 isQ (fV 2) (fK .non)))) (fK .non) (fTup (aCons (fV 1) (aCons (fV 2) aNil)))))
  sNil))
theorem b51_eq (call : Nat → Gb) : fnBody (G.at_ call) f51 = b51 call := by kernel_rfl
def b52 (call : Nat → Gb) : Fs := (sSeq (sRet (fTup (aCons (Ev.f1 (attP G.ao 3) (fV 0)) (aCons (Ev.f1 (attP G.ao 4) (fV 0)) aNil))))
  sNil)
theorem b52_eq (call : Nat → Gb) : fnBody (G.at_ call) f52 = b52 call := by kernel_rfl
def b53_l1 (call : Nat → Gb) : Fs := (sSeq (sSet 1 (fB (callP call G.dfl 45) (aCons (fV 1) (aCons (fV 2) aNil))))
  sNil)
def b53 (call : Nat → Gb) : Fs := (sSeq (sSet 1 (fTup (aCons (fK (.int 0)) (aCons (fK (.int 1)) aNil))))
  (sSeq (sFor (.nm 2) (iSeq (fV 0)) (b53_l1 call))
  (sSeq (sRet (fV 1))
  sNil)))
theorem b53_eq (call : Nat → Gb) : fnBody (G.at_ call) f53 = b53 call := by kernel_rfl
def b54 (call : Nat → Gb) : Fs := (sSeq (sIf (bTr (Ev.f2 isQ (fV 1) (fK .non))) (sSeq (sRet (fK (.bl true)))
  sNil) sNil)
  (sSeq (sAsg (fFrz (lComp (.nm 7) [7] (iSeq (fV 0)) bYes (fIf (bTr (Ev.f1 (isaP G.io .int) (fV 7))) (fTup (aCons (fV 7) (aCons (fK (.int 1)) aNil))) (fV 7)))) (gPt (.tp [(.nm 2), (.nm 3), (.nm 4), (.nm 5), (.nm 6)])))
  (sSeq (sAsg (fV 1) (gPt (.tp [(.nm 8), (.nm 9)])))
  (sSeq (sSet 10 (fB (callP call G.dfl 48) (aCons (fV 9) (aCons (fB (callP call G.dfl 53) (aCons (fFrz (lDisp (aCons (fV 9) (aCons (fB (callP call G.dfl 48) (aCons (fV 2) (aCons (fV 8) aNil))) (aCons (fV 4) aNil))))) aNil)) aNil))))
  (sSeq (sSet 11 (fB (callP call G.dfl 45) (aCons (fV 6) (aCons (fB (callP call G.dfl 48) (aCons (fV 8) (aCons (fB (callP call G.dfl 45) (aCons (fV 5) (aCons (fB (callP call G.dfl 48) (aCons (fV 8) (aCons (fB (callP call G.dfl 45) (aCons (fV 3) (aCons (fV 8) aNil))) aNil))) aNil))) aNil))) aNil))))
  (sSeq (sRet (Ev.f2 (eqO call G.dfl G.eqf G.eqk false) (fV 10) (fV 11)))
  sNil))))))
theorem b54_eq (call : Nat → Gb) : fnBody (G.at_ call) f54 = b54 call := by kernel_rfl
def b55 (call : Nat → Gb) : Fs := (sSeq (sIf (bTr (Ev.f2 isQ (fV 1) (fK .non))) (sSeq (sRet (fK .non))
  sNil) sNil)
  (sSeq (sRet (fTup (aCons (Ev.f2 ixP (fV 1) (fK (.int 0))) (aCons (fB (callP call G.dfl 53) (aCons (fFrz (lDisp (aCons (fB (callP call G.dfl 46) (aCons (Ev.f2 ixP (fV 1) (fK (.int 1))) aNil)) (aCons (fB (callP call G.dfl 46) (aCons (fB (callP call G.dfl 48) (aCons (fTup (aCons (Ev.f2 ixP (fV 0) (fK (.int 0))) (aCons (fK (.int 1)) aNil))) (aCons (Ev.f2 ixP (fV 1) (fK (.int 0))) aNil))) aNil)) (aCons (fTup (aCons (Ev.f1 (negO call G.dfl G.ngf) (Ev.f2 ixP (fV 0) (fK (.int 2)))) (aCons (fK (.int 1)) aNil))) aNil))))) aNil)) aNil))))
  sNil))
theorem b55_eq (call : Nat → Gb) : fnBody (G.at_ call) f55 = b55 call := by kernel_rfl
def b56 (call : Nat → Gb) : Fs := (sSeq (sIf (bOr (bTr (Ev.f2 isQ (fV 1) (fK .non))) (bTr (Ev.f2 isQ (fV 2) (fK .non)))) (sSeq (sRet (fIf (bTr (Ev.f2 isQ (fV 1) (fK .non))) (fV 2) (fV 1)))
  sNil) sNil)
  (sSeq (sIf (bTr (Ev.f2 (eqO call G.dfl G.eqf G.eqk false) (fV 2) (fB (callP call G.dfl 55) (aCons (fV 0) (aCons (fV 1) aNil))))) (sSeq (sRet (fK .non))
  sNil) sNil)
  (sSeq (sAsg (fFrz (lComp (.nm 8) [8] (iSeq (fV 0)) bYes (fTup (aCons (fV 8) (aCons (fK (.int 1)) aNil))))) (gPt (.tp [(.nm 3), (.nm 4), (.nm 5), (.nm 6), (.nm 7)])))
  (sSeq (sAsg (fV 1) (gPt (.tp [(.nm 9), (.nm 10)])))
  (sSeq (sIf (bTr (Ev.f2 (eqO call G.dfl G.eqf G.eqk false) (fV 1) (fV 2))) (sSeq (sSet 11 (fB (callP call G.dfl 53) (aCons (fFrz (lDisp (aCons (fB (callP call G.dfl 48) (aCons (fTup (aCons (fK (.int 3)) (aCons (fK (.int 1)) aNil))) (aCons (fB (callP call G.dfl 48) (aCons (fV 9) (aCons (fV 9) aNil))) aNil))) (aCons (fB (callP call G.dfl 48) (aCons (fTup (aCons (fK (.int 2)) (aCons (fK (.int 1)) aNil))) (aCons (fB (callP call G.dfl 48) (aCons (fV 4) (aCons (fV 9) aNil))) aNil))) (aCons (fV 6) (aCons (fB (callP call G.dfl 46) (aCons (fB (callP call G.dfl 48) (aCons (fV 3) (aCons (fV 10) aNil))) aNil)) aNil)))))) aNil)))
  (sSeq (sSet 12 (fB (callP call G.dfl 49) (aCons (fV 11) (aCons (fB (callP call G.dfl 53) (aCons (fFrz (lDisp (aCons (fV 10) (aCons (fV 10) (aCons (fB (callP call G.dfl 48) (aCons (fV 3) (aCons (fV 9) aNil))) (aCons (fV 5) aNil)))))) aNil)) aNil))))
  sNil)) (sSeq (sSet 12 (fB (callP call G.dfl 49) (aCons (fB (callP call G.dfl 47) (aCons (Ev.f2 ixP (fV 2) (fK (.int 1))) (aCons (fV 10) aNil))) (aCons (fB (callP call G.dfl 47) (aCons (Ev.f2 ixP (fV 2) (fK (.int 0))) (aCons (fV 9) aNil))) aNil))))
  sNil))
  (sSeq (sSet 13 (fB (callP call G.dfl 53) (aCons (fFrz (lDisp (aCons (fB (callP call G.dfl 48) (aCons (fV 12) (aCons (fV 12) aNil))) (aCons (fB (callP call G.dfl 48) (aCons (fV 3) (aCons (fV 12) aNil))) (aCons (fB (callP call G.dfl 46) (aCons (fV 4) aNil)) (aCons (fB (callP call G.dfl 46) (aCons (fV 9) aNil)) (aCons (fB (callP call G.dfl 46) (aCons (Ev.f2 ixP (fV 2) (fK (.int 0))) aNil)) aNil))))))) aNil)))
  (sSeq (sRet (fB (callP call G.dfl 55) (aCons (fV 0) (aCons (fTup (aCons (fV 13) (aCons (fB (callP call G.dfl 45) (aCons (fV 10) (aCons (fB (callP call G.dfl 48) (aCons (fV 12) (aCons (fB (callP call G.dfl 47) (aCons (fV 13) (aCons (fV 9) aNil))) aNil))) aNil))) aNil))) aNil))))
  sNil)))))))
theorem b56_eq (call : Nat → Gb) : fnBody (G.at_ call) f56 = b56 call := by kernel_rfl
def b57 (call : Nat → Gb) : Fs := (sSeq (sRet (fIf (bTr (Ev.f2 isQ (fV 0) (fK .non))) (fK .non) (fTup (aCons (fB (callP call G.dfl 52) (aCons (Ev.f2 ixP (fV 0) (fK (.int 0))) aNil)) (aCons (fB (callP call G.dfl 52) (aCons (Ev.f2 ixP (fV 0) (fK (.int 1))) aNil)) aNil)))))
  sNil)
theorem b57_eq (call : Nat → Gb) : fnBody (G.at_ call) f57 = b57 call := by kernel_rfl
def b58 (call : Nat → Gb) : Fs := (sSeq (sIf (bOr (bTr (Ev.f2 isQ (fV 0) (fK .non))) (bTr (Ev.f2 isQ (fV 1) (fK .non)))) (sSeq (sRet (fAnd (Ev.f2 isQ (fV 0) (fK .non)) (Ev.f2 isQ (fV 1) (fK .non))))
  sNil) sNil)
  (sSeq (sRet (fAnd (Ev.f1 (isaP G.io .tup) (fV 0)) (fAnd (Ev.f2 (eqO call G.dfl G.eqf G.eqk false) (fB gLen (aCons (fV 0) aNil)) (fK (.int 2))) (Ev.f2 (eqO call G.dfl G.eqf G.eqk false) (fB (callP call G.dfl 57) (aCons (fV 0) aNil)) (fV 1)))))
  sNil))
theorem b58_eq (call : Nat → Gb) : fnBody (G.at_ call) f58 = b58 call := by kernel_rfl
def b59_l1 (call : Nat → Gb) : Fs := (sSeq (sIf (bTr (Ev.f2 isnQ (fV 2) (fK .non))) (sSeq (sSet 3 (fB gLen (aCons (fFrz (lComp (.nm 4) [4] (iSeq (fV 1)) (bOr (bTr (fB (callP call G.dfl 50) (aCons (Ev.f2 ixP (fV 4) (fK (.int 0))) (aCons (Ev.f2 ixP (fV 2) (fK (.int 0))) aNil)))) (bAnd (bTr (Ev.f2 (eqO call G.dfl G.eqf G.eqk false) (Ev.f2 ixP (fV 4) (fK (.int 0))) (Ev.f2 ixP (fV 2) (fK (.int 0))))) (bTr (fB (callP call G.dfl 50) (aCons (Ev.f2 ixP (fV 4) (fK (.int 1))) (aCons (Ev.f2 ixP (fV 2) (fK (.int 1))) aNil)))))) (fV 4))) aNil)))
  (sSeq (sSet 1 (Ev.f2 (binO call G.dfl G.opf .Add) (Ev.f2 (binO call G.dfl G.opf .Add) (fSl (fV 1) oNone (oSome (fV 3))) (fFrz (lDisp (aCons (fV 2) aNil)))) (fSl (fV 1) (oSome (fV 3)) oNone)))
  sNil)) sNil)
  sNil)
def b59 (call : Nat → Gb) : Fs := (sSeq (sSet 1 (fFrz (lDisp aNil)))
  (sSeq (sFor (.nm 2) (iSeq (fV 0)) (b59_l1 call))
  (sSeq (sRet (Ev.f2 (binO call G.dfl G.opf .Add) (fFrz (lComp (.nm 2) [2] (iSeq (fV 0)) (bTr (Ev.f2 isQ (fV 2) (fK .non))) (fV 2))) (fV 1)))
  sNil)))
theorem b59_eq (call : Nat → Gb) : fnBody (G.at_ call) f59 = b59 call := by kernel_rfl
def b60 (call : Nat → Gb) : Fs := (sSeq (sRet (Ev.f2 (eqO call G.dfl G.eqf G.eqk true) (Ev.f2 (binO call G.dfl G.opf .Mult) (Ev.f2 ixP (fV 0) (fK (.int 1))) (Ev.f2 (binO call G.dfl G.opf .Sub) (Ev.f2 (binO call G.dfl G.opf .Pow) (Ev.f2 ixP (fV 0) (fK (.int 0))) (fK (.int 2))) (Ev.f2 (binO call G.dfl G.opf .Mult) (fK (.int 4)) (Ev.f2 ixP (fV 0) (fK (.int 1)))))) (fK (.int 0))))
  sNil)
theorem b60_eq (call : Nat → Gb) : fnBody (G.at_ call) f60 = b60 call := by kernel_rfl
def b61_l1 (call : Nat → Gb) : Fs := (sSeq (sSet 3 (fTup (aCons (fB (callP call G.dfl 40) (aCons (fV 0) (aCons (fV 1) aNil))) (aCons (fB (callP call G.dfl 40) (aCons (fV 0) (aCons (fV 1) aNil))) aNil))))
  (sSeq (sIf (bTr (fB (callP call G.dfl 60) (aCons (fV 3) aNil))) (sSeq (sRet (fV 3))
  sNil) sNil)
  sNil))
def b61 (call : Nat → Gb) : Fs := (sSeq (sFor (.nm 2) (iR1 (fK (.int 12))) (b61_l1 call))
  (sSeq (sRet (fTup (aCons (fK (.int 0)) (aCons (Ev.f1 (negO call G.dfl G.ngf) (fK (.int 1))) aNil))))
  sNil))
theorem b61_eq (call : Nat → Gb) : fnBody (G.at_ call) f61 = b61 call := by kernel_rfl
def b62_l1 (call : Nat → Gb) : Fs := (sSeq (sIf (bAnd (bTr (Ev.f2 (eqO call G.dfl G.eqf G.eqk true) (fV 4) (fK (.int 0)))) (bTr (Ev.f2 (eqO call G.dfl G.eqf G.eqk false) (fB (callP call G.dfl 41) (aCons (fV 4) (aCons (fV 3) aNil))) (fK (.int 1))))) (sSeq (sSet 5 (fB (callP call G.dfl 43) (aCons (Ev.f2 (binO call G.dfl G.opf .Mult) (fV 4) (Ev.f2 (binO call G.dfl G.opf .Add) (Ev.f2 (binO call G.dfl G.opf .Add) (Ev.f2 (binO call G.dfl G.opf .Mult) (fV 4) (fV 4)) (Ev.f2 (binO call G.dfl G.opf .Mult) (Ev.f2 (binO call G.dfl G.opf .Mult) (Ev.f2 (binO call G.dfl G.opf .Mult) (Ev.f2 ixP (fV 0) (fK (.int 0))) (fV 4)) (fV 3)) (fV 3))) (Ev.f2 (binO call G.dfl G.opf .Mult) (Ev.f2 ixP (fV 0) (fK (.int 1))) (Ev.f2 (binO call G.dfl G.opf .Pow) (fV 3) (fK (.int 4)))))) aNil)))
  (sSeq (sIf (bTr (Ev.f2 isnQ (fV 5) (fK .non))) (sSeq (sSet 6 (fB (callP call G.dfl 44) (aCons (fV 4) (aCons (Ev.f2 (binO call G.dfl G.opf .Mult) (fV 3) (fV 3)) aNil))))
  (sSeq (sDrop (fApp (fV 2) (fTup (aCons (fV 6) (aCons (fB (callP call G.dfl 44) (aCons (fV 5) (aCons (Ev.f2 (binO call G.dfl G.opf .Pow) (fV 3) (fK (.int 3))) aNil))) aNil)))))
  (sSeq (sIf (bTr (Ev.f2 (eqO call G.dfl G.eqf G.eqk true) (fV 5) (fK (.int 0)))) (sSeq (sDrop (fApp (fV 2) (fTup (aCons (fV 6) (aCons (fB (callP call G.dfl 44) (aCons (Ev.f1 (negO call G.dfl G.ngf) (fV 5)) (aCons (Ev.f2 (binO call G.dfl G.opf .Pow) (fV 3) (fK (.int 3))) aNil))) aNil)))))
  sNil) sNil)
  sNil))) sNil)
  sNil)) sNil)
  sNil)
def b62_l2 (call : Nat → Gb) : Fs := (sSeq (sFor (.nm 4) (iR2 (Ev.f1 (negO call G.dfl G.ngf) (fV 1)) (Ev.f2 (binO call G.dfl G.opf .Add) (fV 1) (fK (.int 1)))) (b62_l1 call))
  sNil)
def b62 (call : Nat → Gb) : Fs := (sSeq (sSet 2 (fNew (lDisp (aCons (fK .non) (aCons (fTup (aCons (fTup (aCons (fK (.int 0)) (aCons (fK (.int 1)) aNil))) (aCons (fTup (aCons (fK (.int 0)) (aCons (fK (.int 1)) aNil))) aNil))) aNil)))))
  (sSeq (sFor (.nm 3) (iSeq (fTup (aCons (fK (.int 1)) (aCons (fK (.int 2)) (aCons (fK (.int 3)) aNil))))) (b62_l2 call))
  (sSeq (sRet (fV 2))
  sNil)))
theorem b62_eq (call : Nat → Gb) : fnBody (G.at_ call) f62 = b62 call := by kernel_rfl
def b63 (call : Nat → Gb) : Fs := (sSeq (sRet (fTup (aCons (fK (.int 0)) (aCons (Ev.f2 ixP (fV 0) (fK (.int 0))) (aCons (fK (.int 0)) (aCons (Ev.f2 ixP (fV 0) (fK (.int 1))) (aCons (fK (.int 0)) aNil)))))))
  sNil)
theorem b63_eq (call : Nat → Gb) : fnBody (G.at_ call) f63 = b63 call := by kernel_rfl
def b64 (call : Nat → Gb) : Fs := (sSeq (sIf (bOr (bTr (Ev.f2 isQ (fV 1) (fK .non))) (bTr (Ev.f2 (eqO call G.dfl G.eqf G.eqk false) (Ev.f2 ixP (Ev.f2 ixP (fV 1) (fK (.int 0))) (fK (.int 0))) (fK (.int 0))))) (sSeq (sRet (fK .non))
  sNil) sNil)
  (sSeq (sSet 2 (fB (callP call G.dfl 48) (aCons (Ev.f2 ixP (fV 1) (fK (.int 0))) (aCons (Ev.f2 ixP (fV 1) (fK (.int 0))) aNil))))
  (sSeq (sRet (fTup (aCons (fB (callP call G.dfl 49) (aCons (fB (callP call G.dfl 48) (aCons (Ev.f2 ixP (fV 1) (fK (.int 1))) (aCons (Ev.f2 ixP (fV 1) (fK (.int 1))) aNil))) (aCons (fV 2) aNil))) (aCons (fB (callP call G.dfl 49) (aCons (fB (callP call G.dfl 48) (aCons (Ev.f2 ixP (fV 1) (fK (.int 1))) (aCons (fB (callP call G.dfl 47) (aCons (fTup (aCons (Ev.f2 ixP (fV 0) (fK (.int 1))) (aCons (fK (.int 1)) aNil))) (aCons (fV 2) aNil))) aNil))) (aCons (fV 2) aNil))) aNil))))
  sNil)))
theorem b64_eq (call : Nat → Gb) : fnBody (G.at_ call) f64 = b64 call := by kernel_rfl
def b65 (call : Nat → Gb) : Fs := (sSeq (sIf (bOr (bTr (Ev.f2 isQ (fV 1) (fK .non))) (bTr (Ev.f2 (eqO call G.dfl G.eqf G.eqk false) (Ev.f2 ixP (Ev.f2 ixP (fV 1) (fK (.int 0))) (fK (.int 0))) (fK (.int 0))))) (sSeq (sRet (fK .non))
  sNil) sNil)
  (sSeq (sSet 2 (fB (callP call G.dfl 48) (aCons (Ev.f2 ixP (fV 1) (fK (.int 0))) (aCons (Ev.f2 ixP (fV 1) (fK (.int 0))) aNil))))
  (sSeq (sSet 3 (fTup (aCons (Ev.f2 (binO call G.dfl G.opf .Sub) (Ev.f2 (binO call G.dfl G.opf .Pow) (Ev.f2 ixP (fV 0) (fK (.int 0))) (fK (.int 2))) (Ev.f2 (binO call G.dfl G.opf .Mult) (fK (.int 4)) (Ev.f2 ixP (fV 0) (fK (.int 1))))) (aCons (fK (.int 1)) aNil))))
  (sSeq (sSet 4 (fB (callP call G.dfl 49) (aCons (fB (callP call G.dfl 48) (aCons (Ev.f2 ixP (fV 1) (fK (.int 1))) (aCons (Ev.f2 ixP (fV 1) (fK (.int 1))) aNil))) (aCons (fB (callP call G.dfl 48) (aCons (fTup (aCons (fK (.int 4)) (aCons (fK (.int 1)) aNil))) (aCons (fV 2) aNil))) aNil))))
  (sSeq (sRet (fTup (aCons (fV 4) (aCons (fB (callP call G.dfl 49) (aCons (fB (callP call G.dfl 48) (aCons (Ev.f2 ixP (fV 1) (fK (.int 1))) (aCons (fB (callP call G.dfl 47) (aCons (fV 3) (aCons (fV 2) aNil))) aNil))) (aCons (fB (callP call G.dfl 48) (aCons (fTup (aCons (fK (.int 8)) (aCons (fK (.int 1)) aNil))) (aCons (fV 2) aNil))) aNil))) aNil))))
  sNil)))))
theorem b65_eq (call : Nat → Gb) : fnBody (G.at_ call) f65 = b65 call := by kernel_rfl
def b66 (call : Nat → Gb) : Fs := (sSeq (sAsg (fV 0) (gPt (.tp [(.nm 2), (.nm 3)])))
  (sSeq (sIf (bTr (Ev.f2 isQ (fV 1) (fK .non))) (sSeq (sRet (fTup (aCons (fK .non) (aCons (fTup (aCons (fTup (aCons (fK (.int 0)) (aCons (fK (.int 1)) aNil))) (aCons (fTup (aCons (fK (.int 0)) (aCons (fK (.int 1)) aNil))) aNil))) aNil))))
  sNil) sNil)
  (sSeq (sIf (bTr (Ev.f2 (eqO call G.dfl G.eqf G.eqk false) (Ev.f2 ixP (Ev.f2 ixP (fV 1) (fK (.int 0))) (fK (.int 0))) (fK (.int 0)))) (sSeq (sSet 4 (fB (callP call G.dfl 43) (aCons (fV 3) aNil)))
  (sSeq (sRet (fIf (bTr (Ev.f2 isQ (fV 4) (fK .non))) (fTup aNil) (fTup (aCons (fTup (aCons (fTup (aCons (Ev.f2 (binO call G.dfl G.opf .Sub) (fV 2) (Ev.f2 (binO call G.dfl G.opf .Mult) (fK (.int 2)) (fV 4))) (aCons (fK (.int 1)) aNil))) (aCons (fTup (aCons (fK (.int 0)) (aCons (fK (.int 1)) aNil))) aNil))) (aCons (fTup (aCons (fTup (aCons (Ev.f2 (binO call G.dfl G.opf .Add) (fV 2) (Ev.f2 (binO call G.dfl G.opf .Mult) (fK (.int 2)) (fV 4))) (aCons (fK (.int 1)) aNil))) (aCons (fTup (aCons (fK (.int 0)) (aCons (fK (.int 1)) aNil))) aNil))) aNil)))))
  sNil)) sNil)
  (sSeq (sSet 4 (fB (callP call G.dfl 51) (aCons (Ev.f2 ixP (fV 1) (fK (.int 0))) aNil)))
  (sSeq (sIf (bTr (Ev.f2 isQ (fV 4) (fK .non))) (sSeq (sRet (fTup aNil))
  sNil) sNil)
  (sSeq (sPar2 5 6 (aCons (fB (callP call G.dfl 45) (aCons (fB (callP call G.dfl 48) (aCons (fTup (aCons (fK (.int 2)) (aCons (fK (.int 1)) aNil))) (aCons (Ev.f2 ixP (fV 1) (fK (.int 0))) aNil))) (aCons (fTup (aCons (fV 2) (aCons (fK (.int 1)) aNil))) aNil))) (aCons (fB (callP call G.dfl 49) (aCons (fB (callP call G.dfl 48) (aCons (fTup (aCons (fK (.int 2)) (aCons (fK (.int 1)) aNil))) (aCons (Ev.f2 ixP (fV 1) (fK (.int 1))) aNil))) (aCons (fV 4) aNil))) aNil)))
  (sSeq (sPar3 7 8 9 (aCons (fB (callP call G.dfl 47) (aCons (fV 5) (aCons (fV 6) aNil))) (aCons (fB (callP call G.dfl 45) (aCons (fV 5) (aCons (fV 6) aNil))) (aCons (fB (callP call G.dfl 48) (aCons (fTup (aCons (fK (.int 2)) (aCons (fK (.int 1)) aNil))) (aCons (fV 4) aNil))) aNil))))
  (sSeq (sRet (fB gTup (aCons (fB (callP call G.dfl 59) (aCons (fFrz (lDisp (aCons (fTup (aCons (fV 7) (aCons (fB (callP call G.dfl 48) (aCons (fV 9) (aCons (fV 7) aNil))) aNil))) (aCons (fTup (aCons (fV 8) (aCons (fB (callP call G.dfl 46) (aCons (fB (callP call G.dfl 48) (aCons (fV 9) (aCons (fV 8) aNil))) aNil)) aNil))) aNil)))) aNil)) aNil)))
  sNil))))))))
theorem b66_eq (call : Nat → Gb) : fnBody (G.at_ call) f66 = b66 call := by kernel_rfl
def b67 (call : Nat → Gb) : Fs := (sSeq (sAsg (fV 0) (gPt (.tp [(.nm 2), (.nm 3)])))
  (sSeq (sIf (bTr (Ev.f2 isQ (fV 1) (fK .non))) (sSeq (sRet (fTup (aCons (fK .non) (aCons (fTup (aCons (fTup (aCons (fK (.int 0)) (aCons (fK (.int 1)) aNil))) (aCons (fTup (aCons (fK (.int 0)) (aCons (fK (.int 1)) aNil))) aNil))) aNil))))
  sNil) sNil)
  (sSeq (sIf (bTr (Ev.f2 (eqO call G.dfl G.eqf G.eqk false) (Ev.f2 ixP (Ev.f2 ixP (fV 1) (fK (.int 0))) (fK (.int 0))) (fK (.int 0)))) (sSeq (sSet 4 (fB (callP call G.dfl 43) (aCons (Ev.f2 (binO call G.dfl G.opf .Sub) (Ev.f2 (binO call G.dfl G.opf .Mult) (fV 2) (fV 2)) (Ev.f2 (binO call G.dfl G.opf .Mult) (fK (.int 4)) (fV 3))) aNil)))
  (sSeq (sRet (fIf (bTr (Ev.f2 isQ (fV 4) (fK .non))) (fTup aNil) (fTup (aCons (fTup (aCons (fB (callP call G.dfl 44) (aCons (Ev.f2 (binO call G.dfl G.opf .Sub) (Ev.f1 (negO call G.dfl G.ngf) (fV 2)) (fV 4)) (aCons (fK (.int 2)) aNil))) (aCons (fTup (aCons (fK (.int 0)) (aCons (fK (.int 1)) aNil))) aNil))) (aCons (fTup (aCons (fB (callP call G.dfl 44) (aCons (Ev.f2 (binO call G.dfl G.opf .Sub) (fV 4) (fV 2)) (aCons (fK (.int 2)) aNil))) (aCons (fTup (aCons (fK (.int 0)) (aCons (fK (.int 1)) aNil))) aNil))) aNil)))))
  sNil)) sNil)
  (sSeq (sSet 4 (fB (callP call G.dfl 51) (aCons (Ev.f2 ixP (fV 1) (fK (.int 0))) aNil)))
  (sSeq (sIf (bTr (Ev.f2 isQ (fV 4) (fK .non))) (sSeq (sRet (fTup aNil))
  sNil) sNil)
  (sSeq (sPar2 5 6 (aCons (fB (callP call G.dfl 47) (aCons (Ev.f2 ixP (fV 1) (fK (.int 0))) (aCons (fTup (aCons (fV 2) (aCons (fK (.int 1)) aNil))) aNil))) (aCons (fB (callP call G.dfl 49) (aCons (Ev.f2 ixP (fV 1) (fK (.int 1))) (aCons (fV 4) aNil))) aNil)))
  (sSeq (sPar2 7 8 (aCons (fB (callP call G.dfl 49) (aCons (fB (callP call G.dfl 47) (aCons (fV 5) (aCons (fV 6) aNil))) (aCons (fTup (aCons (fK (.int 2)) (aCons (fK (.int 1)) aNil))) aNil))) (aCons (fB (callP call G.dfl 49) (aCons (fB (callP call G.dfl 45) (aCons (fV 5) (aCons (fV 6) aNil))) (aCons (fTup (aCons (fK (.int 2)) (aCons (fK (.int 1)) aNil))) aNil))) aNil)))
  (sSeq (sRet (fB gTup (aCons (fB (callP call G.dfl 59) (aCons (fFrz (lDisp (aCons (fTup (aCons (fV 7) (aCons (fB (callP call G.dfl 48) (aCons (fV 4) (aCons (fV 7) aNil))) aNil))) (aCons (fTup (aCons (fV 8) (aCons (fB (callP call G.dfl 46) (aCons (fB (callP call G.dfl 48) (aCons (fV 4) (aCons (fV 8) aNil))) aNil)) aNil))) aNil)))) aNil)) aNil)))
  sNil))))))))
theorem b67_eq (call : Nat → Gb) : fnBody (G.at_ call) f67 = b67 call := by kernel_rfl
def b68 (call : Nat → Gb) : Fs := (sSeq (sTry G.xm (sSeq (sRet (fTup (aCons (fK (.str "ok")) (aCons fX aNil))))
  sNil) [⟨3, some 1, (.tp [(.k (.str "point")), (.rp 1)])⟩])
  sNil)
theorem b68_eq (call : Nat → Gb) : fnBody (G.at_ call) f68 = b68 call := by kernel_rfl
def b69 (call : Nat → Gb) : Fs := (sSeq (sRet (fIf (bTr (Ev.f2 isQ (fV 0) (fK .non))) (fK .non) (fTup (aCons (fB (makeP call G.dfl G.ini 5) (aCons (Ev.f2 ixP (Ev.f2 ixP (fV 0) (fK (.int 0))) (fK (.int 0))) (aCons (Ev.f2 ixP (Ev.f2 ixP (fV 0) (fK (.int 0))) (fK (.int 1))) aNil))) (aCons (fB (makeP call G.dfl G.ini 5) (aCons (Ev.f2 ixP (Ev.f2 ixP (fV 0) (fK (.int 1))) (fK (.int 0))) (aCons (Ev.f2 ixP (Ev.f2 ixP (fV 0) (fK (.int 1))) (fK (.int 1))) aNil))) aNil)))))
  sNil)
theorem b69_eq (call : Nat → Gb) : fnBody (G.at_ call) f69 = b69 call := by kernel_rfl
def b70 (call : Nat → Gb) : Fs := (sSeq (sRet (fAnd (Ev.f1 (isaP G.io .tup) (fV 0)) (fAnd (Ev.f2 (eqO call G.dfl G.eqf G.eqk false) (fB gLen (aCons (fV 0) aNil)) (fB gLen (aCons (fV 1) aNil))) (Ev.f2 (eqO call G.dfl G.eqf G.eqk false) (fFrz (lComp (.tp [(.nm 2), (.nm 3)]) [2, 3] (iZip (fV 0) (fV 1)) (bNot (bTr (fB (callP call G.dfl 58) (aCons (fV 2) (aCons (fV 3) aNil))))) (fK (.int 1)))) (fFrz (lDisp aNil))))))
  sNil)
theorem b70_eq (call : Nat → Gb) : fnBody (G.at_ call) f70 = b70 call := by kernel_rfl
def b71_l1_1 (call : Nat → Gb) : Fs := (sSet 12 (fB (callP call G.dfl 66) (aCons (fV 3) (aCons (fV 11) aNil))))
def b71_l1_2 (call : Nat → Gb) : Fs := (sSet 13 (fB (callP call G.dfl 33) (aCons (fB (callP call G.dfl 39) (aCons (fV 1) (aCons (fV 3) aNil))) (aCons (fB (callP call G.dfl 69) (aCons (fV 11) aNil)) aNil))))
def b71_l1_3 (call : Nat → Gb) : Fs := (sIf (bOr (bNot (bTr (fB (callP call G.dfl 70) (aCons (fV 13) (aCons (fV 12) aNil))))) (bTr (Ev.f2 (eqO call G.dfl G.eqf G.eqk true) (fFrz (lComp (.nm 14) [14] (iSeq (fV 12)) (bOr (bNot (bTr (fB (callP call G.dfl 54) (aCons (fV 6) (aCons (fV 14) aNil))))) (bTr (Ev.f2 (eqO call G.dfl G.eqf G.eqk true) (fB (callP call G.dfl 65) (aCons (fV 3) (aCons (fV 14) aNil))) (fV 11)))) (fK (.int 1)))) (fFrz (lDisp aNil))))) (sSeq (sRet (fK (.bl false)))
  sNil) sNil)
def b71_l1_4 (call : Nat → Gb) : Fs := (sIf (bTr (Ev.f2 (eqO call G.dfl G.eqf G.eqk true) (fFrz (lComp (.nm 14) [14] (iSeq (fV 13)) (bNot (bTr (fB (callP call G.dfl 58) (aCons (fB (callP call G.dfl 31) (aCons (fV 3) (aCons (fV 14) aNil))) (aCons (fV 11) aNil))))) (fK (.int 1)))) (fFrz (lDisp aNil)))) (sSeq (sRet (fK (.bl false)))
  sNil) sNil)
def b71_l1 (call : Nat → Gb) : Fs := (sSeq (b71_l1_1 call) (sSeq (b71_l1_2 call) (sSeq (b71_l1_3 call) (sSeq (b71_l1_4 call) sNil))))
def b71_l2_1 (call : Nat → Gb) : Fs := (sSet 12 (fB (callP call G.dfl 67) (aCons (fV 3) (aCons (fV 11) aNil))))
def b71_l2_2 (call : Nat → Gb) : Fs := (sSet 13 (fB (callP call G.dfl 35) (aCons (fV 3) (aCons (fB (callP call G.dfl 69) (aCons (fV 11) aNil)) aNil))))
def b71_l2_3 (call : Nat → Gb) : Fs := (sIf (bOr (bNot (bTr (fB (callP call G.dfl 70) (aCons (fV 13) (aCons (fV 12) aNil))))) (bTr (Ev.f2 (eqO call G.dfl G.eqf G.eqk true) (fFrz (lComp (.nm 14) [14] (iSeq (fV 12)) (bOr (bNot (bTr (fB (callP call G.dfl 54) (aCons (fV 5) (aCons (fV 14) aNil))))) (bTr (Ev.f2 (eqO call G.dfl G.eqf G.eqk true) (fB (callP call G.dfl 64) (aCons (fV 3) (aCons (fV 14) aNil))) (fV 11)))) (fK (.int 1)))) (fFrz (lDisp aNil))))) (sSeq (sRet (fK (.bl false)))
  sNil) sNil)
def b71_l2_4 (call : Nat → Gb) : Fs := (sIf (bTr (Ev.f2 (eqO call G.dfl G.eqf G.eqk true) (fFrz (lComp (.nm 14) [14] (iSeq (fV 13)) (bNot (bTr (fB (callP call G.dfl 58) (aCons (fB (callP call G.dfl 29) (aCons (fV 3) (aCons (fV 14) aNil))) (aCons (fV 11) aNil))))) (fK (.int 1)))) (fFrz (lDisp aNil)))) (sSeq (sRet (fK (.bl false)))
  sNil) sNil)
def b71_l2 (call : Nat → Gb) : Fs := (sSeq (b71_l2_1 call) (sSeq (b71_l2_2 call) (sSeq (b71_l2_3 call) (sSeq (b71_l2_4 call) sNil))))
def b71_l3_1 (call : Nat → Gb) : Fs := (sSet 3 (fB (callP call G.dfl 38) (aCons (fV 1) (aCons (fFrz (lDisp (aCons (fB (callP call G.dfl 61) (aCons (fV 1) (aCons (fK (.int 20)) aNil))) (aCons (fTup (aCons (fB (callP call G.dfl 40) (aCons (fV 1) (aCons (fK (.int 6)) aNil))) (aCons (fB (callP call G.dfl 38) (aCons (fV 1) (aCons (fFrz (lDisp (aCons (fK (.int 1)) (aCons (fK (.int 4)) (aCons (fK (.int 9)) (aCons (fK (.int 16)) aNil)))))) aNil))) aNil))) (aCons (fTup (aCons (fB (callP call G.dfl 38) (aCons (fV 1) (aCons (fFrz (lDisp (aCons (fK (.int 5)) (aCons (Ev.f1 (negO call G.dfl G.ngf) (fK (.int 5))) (aCons (fK (.int 10)) aNil))))) aNil))) (aCons (fK (.int 4)) aNil))) aNil))))) aNil))))
def b71_l3_2 (call : Nat → Gb) : Fs := (sIf (bNot (bTr (fB (callP call G.dfl 60) (aCons (fV 3) aNil)))) (sSeq (fun env st => .ct env st)
  sNil) sNil)
def b71_l3_3 (call : Nat → Gb) : Fs := (sSet 4 (fTup (aCons (Ev.f2 (binO call G.dfl G.opf .Mult) (Ev.f1 (negO call G.dfl G.ngf) (fK (.int 2))) (Ev.f2 ixP (fV 3) (fK (.int 0)))) (aCons (Ev.f2 (binO call G.dfl G.opf .Sub) (Ev.f2 (binO call G.dfl G.opf .Pow) (Ev.f2 ixP (fV 3) (fK (.int 0))) (fK (.int 2))) (Ev.f2 (binO call G.dfl G.opf .Mult) (fK (.int 4)) (Ev.f2 ixP (fV 3) (fK (.int 1))))) aNil))))
def b71_l3_4 (call : Nat → Gb) : Fs := (sAsg (fTup (aCons (fB (callP call G.dfl 63) (aCons (fV 3) aNil)) (aCons (fB (callP call G.dfl 63) (aCons (fV 4) aNil)) aNil))) (gPt (.tp [(.nm 5), (.nm 6)])))
def b71_l3_5 (call : Nat → Gb) : Fs := (sSet 7 (fB (callP call G.dfl 62) (aCons (fV 3) (aCons (fK (.int 25)) aNil))))
def b71_l3_6 (call : Nat → Gb) : Fs := (sPar2 8 9 (aCons (fB (callP call G.dfl 38) (aCons (fV 1) (aCons (fV 7) aNil))) (aCons (fB (callP call G.dfl 38) (aCons (fV 1) (aCons (fV 7) aNil))) aNil)))
def b71_l3_7 (call : Nat → Gb) : Fs := (sSet 10 (fB (callP call G.dfl 65) (aCons (fV 3) (aCons (fB (callP call G.dfl 38) (aCons (fV 1) (aCons (fB (callP call G.dfl 62) (aCons (fV 4) (aCons (fK (.int 20)) aNil))) aNil))) aNil))))
def b71_l3_8 (call : Nat → Gb) : Fs := (sFor (.nm 11) (iSeq (fFrz (lDisp (aCons (fV 8) (aCons (fV 9) (aCons (fB (callP call G.dfl 56) (aCons (fV 5) (aCons (fV 8) (aCons (fV 9) aNil)))) (aCons (fB (callP call G.dfl 56) (aCons (fV 5) (aCons (fV 8) (aCons (fV 8) aNil)))) (aCons (fV 10) (aCons (fK .non) (aCons (fTup (aCons (fTup (aCons (fK (.int 0)) (aCons (fK (.int 1)) aNil))) (aCons (fTup (aCons (fK (.int 0)) (aCons (fK (.int 1)) aNil))) aNil))) aNil)))))))))) (b71_l1 call))
def b71_l3_9 (call : Nat → Gb) : Fs := (sSet 7 (fB (callP call G.dfl 62) (aCons (fV 4) (aCons (fK (.int 25)) aNil))))
def b71_l3_10 (call : Nat → Gb) : Fs := (sPar2 8 9 (aCons (fB (callP call G.dfl 38) (aCons (fV 1) (aCons (fV 7) aNil))) (aCons (fB (callP call G.dfl 38) (aCons (fV 1) (aCons (fV 7) aNil))) aNil)))
def b71_l3_11 (call : Nat → Gb) : Fs := (sSet 15 (fB (callP call G.dfl 64) (aCons (fV 3) (aCons (fB (callP call G.dfl 38) (aCons (fV 1) (aCons (fB (callP call G.dfl 62) (aCons (fV 3) (aCons (fK (.int 20)) aNil))) aNil))) aNil))))
def b71_l3_12 (call : Nat → Gb) : Fs := (sFor (.nm 11) (iSeq (fFrz (lDisp (aCons (fV 8) (aCons (fV 9) (aCons (fB (callP call G.dfl 56) (aCons (fV 6) (aCons (fV 8) (aCons (fV 9) aNil)))) (aCons (fV 15) (aCons (fK .non) (aCons (fTup (aCons (fTup (aCons (fK (.int 0)) (aCons (fK (.int 1)) aNil))) (aCons (fTup (aCons (fK (.int 0)) (aCons (fK (.int 1)) aNil))) aNil))) aNil))))))))) (b71_l2 call))
def b71_l3_13 (call : Nat → Gb) : Fs := (sSet 16 (fB (callP call G.dfl 38) (aCons (fV 1) (aCons (fFrz (lDisp (aCons (fK (.int 3)) (aCons (fTup (aCons (fK (.int 1)) aNil)) (aCons (fK (.str "far")) (aCons (fTup (aCons (fK .non) (aCons (fK (.int 2)) aNil))) (aCons (fTup (aCons (fK (.int 0)) (aCons (fK (.int 0)) (aCons (fK (.int 0)) aNil)))) (aCons (fTup (aCons (fK (.bl true)) (aCons (fK (.int 0)) aNil))) (aCons (fTup (aCons (fK (.int 0)) (aCons (fK (.int 1)) aNil))) aNil))))))))) aNil))))
def b71_l3_14 (call : Nat → Gb) : Fs := (sIf (bOr (bTr (Ev.f2 (eqO call G.dfl G.eqf G.eqk true) (fLamC G.xm "ok" [⟨3, some 1, (.tp [(.k (.str "point")), (.rp 1)])⟩] 2 0 0 (fB (callP call G.dfl 33) (aCons (fV 3) (aCons (fV 16) aNil)))) (fTup (aCons (fK (.str "point")) (aCons (fB gRepr (aCons (fV 16) aNil)) aNil))))) (bTr (Ev.f2 (eqO call G.dfl G.eqf G.eqk true) (fLamC G.xm "ok" [⟨3, some 1, (.tp [(.k (.str "point")), (.rp 1)])⟩] 2 0 0 (fB (callP call G.dfl 35) (aCons (fV 3) (aCons (fV 16) aNil)))) (fTup (aCons (fK (.str "point")) (aCons (fB gRepr (aCons (fV 16) aNil)) aNil)))))) (sSeq (sRet (fK (.bl false)))
  sNil) sNil)
def b71_l3 (call : Nat → Gb) : Fs := (sSeq (b71_l3_1 call) (sSeq (b71_l3_2 call) (sSeq (b71_l3_3 call) (sSeq (b71_l3_4 call) (sSeq (b71_l3_5 call) (sSeq (b71_l3_6 call) (sSeq (b71_l3_7 call) (sSeq (b71_l3_8 call) (sSeq (b71_l3_9 call) (sSeq (b71_l3_10 call) (sSeq (b71_l3_11 call) (sSeq (b71_l3_12 call) (sSeq (b71_l3_13 call) (sSeq (b71_l3_14 call) sNil))))))))))))))
def b71_1 (call : Nat → Gb) : Fs := (sSet 1 (fB (callP call G.dfl 36) (aCons (fV 0) aNil)))
def b71_2 (call : Nat → Gb) : Fs := (sFor (.nm 2) (iR1 (fK (.int 3))) (b71_l3 call))
def b71_3 (call : Nat → Gb) : Fs := (sRet (fK (.bl true)))
def b71 (call : Nat → Gb) : Fs := (sSeq (b71_1 call) (sSeq (b71_2 call) (sSeq (b71_3 call) sNil)))
theorem b71_eq (call : Nat → Gb) : fnBody (G.at_ call) f71 = b71 call := by kernel_rfl
end K34
set_option Elab.async false
set_option linter.all false
set_option maxRecDepth 100000
set_option maxHeartbeats 1000000
namespace K34
open PySem PySem.Spec L2 Ev
instance bl_0 : Bd (0 : Int) 0 := ⟨by decide⟩
instance bl_1 : Bd (1 : Int) 1 := ⟨by decide⟩
instance bl_2 : Bd (2 : Int) 2 := ⟨by decide⟩
instance bl_3 : Bd (3 : Int) 2 := ⟨by decide⟩
instance bl_4 : Bd (4 : Int) 3 := ⟨by decide⟩
instance bl_5 : Bd (5 : Int) 3 := ⟨by decide⟩
instance bl_6 : Bd (6 : Int) 3 := ⟨by decide⟩
instance bl_8 : Bd (8 : Int) 4 := ⟨by decide⟩
instance bl_9 : Bd (9 : Int) 4 := ⟨by decide⟩
instance bl_10 : Bd (10 : Int) 4 := ⟨by decide⟩
instance bl_12 : Bd (12 : Int) 4 := ⟨by decide⟩
instance bl_16 : Bd (16 : Int) 5 := ⟨by decide⟩
instance bl_17 : Bd (17 : Int) 5 := ⟨by decide⟩
instance bl_18 : Bd (18 : Int) 5 := ⟨by decide⟩
instance bl_20 : Bd (20 : Int) 5 := ⟨by decide⟩
instance bl_24 : Bd (24 : Int) 5 := ⟨by decide⟩
instance bl_25 : Bd (25 : Int) 5 := ⟨by decide⟩
instance bl_27 : Bd (27 : Int) 5 := ⟨by decide⟩
instance bl_36 : Bd (36 : Int) 6 := ⟨by decide⟩
instance bl_41 : Bd (41 : Int) 6 := ⟨by decide⟩
instance bl_59 : Bd (59 : Int) 6 := ⟨by decide⟩
instance bl_128 : Bd (128 : Int) 8 := ⟨by decide⟩
instance bl_216 : Bd (216 : Int) 8 := ⟨by decide⟩
instance bl_8179 : Bd (8179 : Int) 13 := ⟨by decide⟩
instance bl_69069 : Bd (69069 : Int) 17 := ⟨by decide⟩
instance bl_1000000009 : Bd (1000000009 : Int) 30 := ⟨by decide⟩
instance bl_2147483563 : Bd (2147483563 : Int) 31 := ⟨by decide⟩
instance bl_2305843009213693951 : Bd (2305843009213693951 : Int) 61 := ⟨by decide⟩
theorem c0 (n : Nat) : C (n + 1) 0 = defP false 1 (b0 (C n)) := by
  have e : C (n + 1) 0 = fnAt (G.at_ (C n)) f0 := by kernel_rfl
  rw [e]; unfold fnAt; rw [b0_eq]; rfl
theorem c1 (n : Nat) : C (n + 1) 1 = defP false 1 (b1 (C n)) := by
  have e : C (n + 1) 1 = fnAt (G.at_ (C n)) f1 := by kernel_rfl
  rw [e]; unfold fnAt; rw [b1_eq]; rfl
theorem c2 (n : Nat) : C (n + 1) 2 = defP false 4 (b2 (C n)) := by
  have e : C (n + 1) 2 = fnAt (G.at_ (C n)) f2 := by kernel_rfl
  rw [e]; unfold fnAt; rw [b2_eq]; rfl
theorem c3 (n : Nat) : C (n + 1) 3 = defP false 2 (b3 (C n)) := by
  have e : C (n + 1) 3 = fnAt (G.at_ (C n)) f3 := by kernel_rfl
  rw [e]; unfold fnAt; rw [b3_eq]; rfl
theorem c4 (n : Nat) : C (n + 1) 4 = defP false 1 (b4 (C n)) := by
  have e : C (n + 1) 4 = fnAt (G.at_ (C n)) f4 := by kernel_rfl
  rw [e]; unfold fnAt; rw [b4_eq]; rfl
theorem c5 (n : Nat) : C (n + 1) 5 = defP false 2 (b5 (C n)) := by
  have e : C (n + 1) 5 = fnAt (G.at_ (C n)) f5 := by kernel_rfl
  rw [e]; unfold fnAt; rw [b5_eq]; rfl
theorem c6 (n : Nat) : C (n + 1) 6 = defP false 2 (b6 (C n)) := by
  have e : C (n + 1) 6 = fnAt (G.at_ (C n)) f6 := by kernel_rfl
  rw [e]; unfold fnAt; rw [b6_eq]; rfl
theorem c7 (n : Nat) : C (n + 1) 7 = defP false 2 (b7 (C n)) := by
  have e : C (n + 1) 7 = fnAt (G.at_ (C n)) f7 := by kernel_rfl
  rw [e]; unfold fnAt; rw [b7_eq]; rfl
theorem c8 (n : Nat) : C (n + 1) 8 = defP false 2 (b8 (C n)) := by
  have e : C (n + 1) 8 = fnAt (G.at_ (C n)) f8 := by kernel_rfl
  rw [e]; unfold fnAt; rw [b8_eq]; rfl
theorem c9 (n : Nat) : C (n + 1) 9 = defP false 1 (b9 (C n)) := by
  have e : C (n + 1) 9 = fnAt (G.at_ (C n)) f9 := by kernel_rfl
  rw [e]; unfold fnAt; rw [b9_eq]; rfl
theorem c10 (n : Nat) : C (n + 1) 10 = defP false 1 (b10 (C n)) := by
  have e : C (n + 1) 10 = fnAt (G.at_ (C n)) f10 := by kernel_rfl
  rw [e]; unfold fnAt; rw [b10_eq]; rfl
theorem c11 (n : Nat) : C (n + 1) 11 = defP false 3 (b11 (C n)) := by
  have e : C (n + 1) 11 = fnAt (G.at_ (C n)) f11 := by kernel_rfl
  rw [e]; unfold fnAt; rw [b11_eq]; rfl
theorem c12 (n : Nat) : C (n + 1) 12 = defP false 3 (b12 (C n)) := by
  have e : C (n + 1) 12 = fnAt (G.at_ (C n)) f12 := by kernel_rfl
  rw [e]; unfold fnAt; rw [b12_eq]; rfl
theorem c13 (n : Nat) : C (n + 1) 13 = defP false 3 (b13 (C n)) := by
  have e : C (n + 1) 13 = fnAt (G.at_ (C n)) f13 := by kernel_rfl
  rw [e]; unfold fnAt; rw [b13_eq]; rfl
theorem c14 (n : Nat) : C (n + 1) 14 = defP false 2 (b14 (C n)) := by
  have e : C (n + 1) 14 = fnAt (G.at_ (C n)) f14 := by kernel_rfl
  rw [e]; unfold fnAt; rw [b14_eq]; rfl
theorem c15 (n : Nat) : C (n + 1) 15 = defP false 7 (b15 (C n)) := by
  have e : C (n + 1) 15 = fnAt (G.at_ (C n)) f15 := by kernel_rfl
  rw [e]; unfold fnAt; rw [b15_eq]; rfl
theorem c16 (n : Nat) : C (n + 1) 16 = defP false 5 (b16 (C n)) := by
  have e : C (n + 1) 16 = fnAt (G.at_ (C n)) f16 := by kernel_rfl
  rw [e]; unfold fnAt; rw [b16_eq]; rfl
theorem c17 (n : Nat) : C (n + 1) 17 = defP false 5 (b17 (C n)) := by
  have e : C (n + 1) 17 = fnAt (G.at_ (C n)) f17 := by kernel_rfl
  rw [e]; unfold fnAt; rw [b17_eq]; rfl
theorem c18 (n : Nat) : C (n + 1) 18 = defP false 2 (b18 (C n)) := by
  have e : C (n + 1) 18 = fnAt (G.at_ (C n)) f18 := by kernel_rfl
  rw [e]; unfold fnAt; rw [b18_eq]; rfl
theorem c19 (n : Nat) : C (n + 1) 19 = defP false 2 (b19 (C n)) := by
  have e : C (n + 1) 19 = fnAt (G.at_ (C n)) f19 := by kernel_rfl
  rw [e]; unfold fnAt; rw [b19_eq]; rfl
theorem c20 (n : Nat) : C (n + 1) 20 = defP false 1 (b20 (C n)) := by
  have e : C (n + 1) 20 = fnAt (G.at_ (C n)) f20 := by kernel_rfl
  rw [e]; unfold fnAt; rw [b20_eq]; rfl
theorem c21 (n : Nat) : C (n + 1) 21 = defP false 1 (b21 (C n)) := by
  have e : C (n + 1) 21 = fnAt (G.at_ (C n)) f21 := by kernel_rfl
  rw [e]; unfold fnAt; rw [b21_eq]; rfl
theorem c22 (n : Nat) : C (n + 1) 22 = defP false 8 (b22 (C n)) := by
  have e : C (n + 1) 22 = fnAt (G.at_ (C n)) f22 := by kernel_rfl
  rw [e]; unfold fnAt; rw [b22_eq]; rfl
theorem c23 (n : Nat) : C (n + 1) 23 = defP false 2 (b23 (C n)) := by
  have e : C (n + 1) 23 = fnAt (G.at_ (C n)) f23 := by kernel_rfl
  rw [e]; unfold fnAt; rw [b23_eq]; rfl
theorem c24 (n : Nat) : C (n + 1) 24 = defP false 3 (b24 (C n)) := by
  have e : C (n + 1) 24 = fnAt (G.at_ (C n)) f24 := by kernel_rfl
  rw [e]; unfold fnAt; rw [b24_eq]; rfl
theorem c25 (n : Nat) : C (n + 1) 25 = defP false 10 (b25 (C n)) := by
  have e : C (n + 1) 25 = fnAt (G.at_ (C n)) f25 := by kernel_rfl
  rw [e]; unfold fnAt; rw [b25_eq]; rfl
theorem c26 (n : Nat) : C (n + 1) 26 = defP false 1 (b26 (C n)) := by
  have e : C (n + 1) 26 = fnAt (G.at_ (C n)) f26 := by kernel_rfl
  rw [e]; unfold fnAt; rw [b26_eq]; rfl
theorem c27 (n : Nat) : C (n + 1) 27 = defP false 3 (b27 (C n)) := by
  have e : C (n + 1) 27 = fnAt (G.at_ (C n)) f27 := by kernel_rfl
  rw [e]; unfold fnAt; rw [b27_eq]; rfl
theorem c28 (n : Nat) : C (n + 1) 28 = defP false 5 (b28 (C n)) := by
  have e : C (n + 1) 28 = fnAt (G.at_ (C n)) f28 := by kernel_rfl
  rw [e]; unfold fnAt; rw [b28_eq]; rfl
theorem c29 (n : Nat) : C (n + 1) 29 = defP false 2 (b29 (C n)) := by
  have e : C (n + 1) 29 = fnAt (G.at_ (C n)) f29 := by kernel_rfl
  rw [e]; unfold fnAt; rw [b29_eq]; rfl
theorem c30 (n : Nat) : C (n + 1) 30 = defP false 5 (b30 (C n)) := by
  have e : C (n + 1) 30 = fnAt (G.at_ (C n)) f30 := by kernel_rfl
  rw [e]; unfold fnAt; rw [b30_eq]; rfl
theorem c31 (n : Nat) : C (n + 1) 31 = defP false 2 (b31 (C n)) := by
  have e : C (n + 1) 31 = fnAt (G.at_ (C n)) f31 := by kernel_rfl
  rw [e]; unfold fnAt; rw [b31_eq]; rfl
theorem c32 (n : Nat) : C (n + 1) 32 = defP false 11 (b32 (C n)) := by
  have e : C (n + 1) 32 = fnAt (G.at_ (C n)) f32 := by kernel_rfl
  rw [e]; unfold fnAt; rw [b32_eq]; rfl
theorem c33 (n : Nat) : C (n + 1) 33 = defP false 2 (b33 (C n)) := by
  have e : C (n + 1) 33 = fnAt (G.at_ (C n)) f33 := by kernel_rfl
  rw [e]; unfold fnAt; rw [b33_eq]; rfl
theorem c34 (n : Nat) : C (n + 1) 34 = defP false 11 (b34 (C n)) := by
  have e : C (n + 1) 34 = fnAt (G.at_ (C n)) f34 := by kernel_rfl
  rw [e]; unfold fnAt; rw [b34_eq]; rfl
theorem c35 (n : Nat) : C (n + 1) 35 = defP false 2 (b35 (C n)) := by
  have e : C (n + 1) 35 = fnAt (G.at_ (C n)) f35 := by kernel_rfl
  rw [e]; unfold fnAt; rw [b35_eq]; rfl
theorem c36 (n : Nat) : C (n + 1) 36 = defP false 3 (b36 (C n)) := by
  have e : C (n + 1) 36 = fnAt (G.at_ (C n)) f36 := by kernel_rfl
  rw [e]; unfold fnAt; rw [b36_eq]; rfl
theorem c37 (n : Nat) : C (n + 1) 37 = defP false 5 (b37 (C n)) := by
  have e : C (n + 1) 37 = fnAt (G.at_ (C n)) f37 := by kernel_rfl
  rw [e]; unfold fnAt; rw [b37_eq]; rfl
theorem c38 (n : Nat) : C (n + 1) 38 = defP false 2 (b38 (C n)) := by
  have e : C (n + 1) 38 = fnAt (G.at_ (C n)) f38 := by kernel_rfl
  rw [e]; unfold fnAt; rw [b38_eq]; rfl
theorem c39 (n : Nat) : C (n + 1) 39 = defP false 2 (b39 (C n)) := by
  have e : C (n + 1) 39 = fnAt (G.at_ (C n)) f39 := by kernel_rfl
  rw [e]; unfold fnAt; rw [b39_eq]; rfl
theorem c40 (n : Nat) : C (n + 1) 40 = defP false 2 (b40 (C n)) := by
  have e : C (n + 1) 40 = fnAt (G.at_ (C n)) f40 := by kernel_rfl
  rw [e]; unfold fnAt; rw [b40_eq]; rfl
theorem c41 (n : Nat) : C (n + 1) 41 = defP false 2 (b41 (C n)) := by
  have e : C (n + 1) 41 = fnAt (G.at_ (C n)) f41 := by kernel_rfl
  rw [e]; unfold fnAt; rw [b41_eq]; rfl
theorem c42 (n : Nat) : C (n + 1) 42 = defP false 3 (b42 (C n)) := by
  have e : C (n + 1) 42 = fnAt (G.at_ (C n)) f42 := by kernel_rfl
  rw [e]; unfold fnAt; rw [b42_eq]; rfl
theorem c43 (n : Nat) : C (n + 1) 43 = defP false 1 (b43 (C n)) := by
  have e : C (n + 1) 43 = fnAt (G.at_ (C n)) f43 := by kernel_rfl
  rw [e]; unfold fnAt; rw [b43_eq]; rfl
theorem c44 (n : Nat) : C (n + 1) 44 = defP false 3 (b44 (C n)) := by
  have e : C (n + 1) 44 = fnAt (G.at_ (C n)) f44 := by kernel_rfl
  rw [e]; unfold fnAt; rw [b44_eq]; rfl
theorem c45 (n : Nat) : C (n + 1) 45 = defP false 2 (b45 (C n)) := by
  have e : C (n + 1) 45 = fnAt (G.at_ (C n)) f45 := by kernel_rfl
  rw [e]; unfold fnAt; rw [b45_eq]; rfl
theorem c46 (n : Nat) : C (n + 1) 46 = defP false 1 (b46 (C n)) := by
  have e : C (n + 1) 46 = fnAt (G.at_ (C n)) f46 := by kernel_rfl
  rw [e]; unfold fnAt; rw [b46_eq]; rfl
theorem c47 (n : Nat) : C (n + 1) 47 = defP false 2 (b47 (C n)) := by
  have e : C (n + 1) 47 = fnAt (G.at_ (C n)) f47 := by kernel_rfl
  rw [e]; unfold fnAt; rw [b47_eq]; rfl
theorem c48 (n : Nat) : C (n + 1) 48 = defP false 2 (b48 (C n)) := by
  have e : C (n + 1) 48 = fnAt (G.at_ (C n)) f48 := by kernel_rfl
  rw [e]; unfold fnAt; rw [b48_eq]; rfl
theorem c49 (n : Nat) : C (n + 1) 49 = defP false 2 (b49 (C n)) := by
  have e : C (n + 1) 49 = fnAt (G.at_ (C n)) f49 := by kernel_rfl
  rw [e]; unfold fnAt; rw [b49_eq]; rfl
theorem c50 (n : Nat) : C (n + 1) 50 = defP false 2 (b50 (C n)) := by
  have e : C (n + 1) 50 = fnAt (G.at_ (C n)) f50 := by kernel_rfl
  rw [e]; unfold fnAt; rw [b50_eq]; rfl
theorem c51 (n : Nat) : C (n + 1) 51 = defP false 3 (b51 (C n)) := by
  have e : C (n + 1) 51 = fnAt (G.at_ (C n)) f51 := by kernel_rfl
  rw [e]; unfold fnAt; rw [b51_eq]; rfl
theorem c52 (n : Nat) : C (n + 1) 52 = defP false 1 (b52 (C n)) := by
  have e : C (n + 1) 52 = fnAt (G.at_ (C n)) f52 := by kernel_rfl
  rw [e]; unfold fnAt; rw [b52_eq]; rfl
theorem c53 (n : Nat) : C (n + 1) 53 = defP false 3 (b53 (C n)) := by
  have e : C (n + 1) 53 = fnAt (G.at_ (C n)) f53 := by kernel_rfl
  rw [e]; unfold fnAt; rw [b53_eq]; rfl
theorem c54 (n : Nat) : C (n + 1) 54 = defP false 12 (b54 (C n)) := by
  have e : C (n + 1) 54 = fnAt (G.at_ (C n)) f54 := by kernel_rfl
  rw [e]; unfold fnAt; rw [b54_eq]; rfl
theorem c55 (n : Nat) : C (n + 1) 55 = defP false 2 (b55 (C n)) := by
  have e : C (n + 1) 55 = fnAt (G.at_ (C n)) f55 := by kernel_rfl
  rw [e]; unfold fnAt; rw [b55_eq]; rfl
theorem c56 (n : Nat) : C (n + 1) 56 = defP false 14 (b56 (C n)) := by
  have e : C (n + 1) 56 = fnAt (G.at_ (C n)) f56 := by kernel_rfl
  rw [e]; unfold fnAt; rw [b56_eq]; rfl
theorem c57 (n : Nat) : C (n + 1) 57 = defP false 1 (b57 (C n)) := by
  have e : C (n + 1) 57 = fnAt (G.at_ (C n)) f57 := by kernel_rfl
  rw [e]; unfold fnAt; rw [b57_eq]; rfl
theorem c58 (n : Nat) : C (n + 1) 58 = defP false 2 (b58 (C n)) := by
  have e : C (n + 1) 58 = fnAt (G.at_ (C n)) f58 := by kernel_rfl
  rw [e]; unfold fnAt; rw [b58_eq]; rfl
theorem c59 (n : Nat) : C (n + 1) 59 = defP false 5 (b59 (C n)) := by
  have e : C (n + 1) 59 = fnAt (G.at_ (C n)) f59 := by kernel_rfl
  rw [e]; unfold fnAt; rw [b59_eq]; rfl
theorem c60 (n : Nat) : C (n + 1) 60 = defP false 1 (b60 (C n)) := by
  have e : C (n + 1) 60 = fnAt (G.at_ (C n)) f60 := by kernel_rfl
  rw [e]; unfold fnAt; rw [b60_eq]; rfl
theorem c61 (n : Nat) : C (n + 1) 61 = defP false 4 (b61 (C n)) := by
  have e : C (n + 1) 61 = fnAt (G.at_ (C n)) f61 := by kernel_rfl
  rw [e]; unfold fnAt; rw [b61_eq]; rfl
theorem c62 (n : Nat) : C (n + 1) 62 = defP false 7 (b62 (C n)) := by
  have e : C (n + 1) 62 = fnAt (G.at_ (C n)) f62 := by kernel_rfl
  rw [e]; unfold fnAt; rw [b62_eq]; rfl
theorem c63 (n : Nat) : C (n + 1) 63 = defP false 1 (b63 (C n)) := by
  have e : C (n + 1) 63 = fnAt (G.at_ (C n)) f63 := by kernel_rfl
  rw [e]; unfold fnAt; rw [b63_eq]; rfl
theorem c64 (n : Nat) : C (n + 1) 64 = defP false 3 (b64 (C n)) := by
  have e : C (n + 1) 64 = fnAt (G.at_ (C n)) f64 := by kernel_rfl
  rw [e]; unfold fnAt; rw [b64_eq]; rfl
theorem c65 (n : Nat) : C (n + 1) 65 = defP false 5 (b65 (C n)) := by
  have e : C (n + 1) 65 = fnAt (G.at_ (C n)) f65 := by kernel_rfl
  rw [e]; unfold fnAt; rw [b65_eq]; rfl
theorem c66 (n : Nat) : C (n + 1) 66 = defP false 10 (b66 (C n)) := by
  have e : C (n + 1) 66 = fnAt (G.at_ (C n)) f66 := by kernel_rfl
  rw [e]; unfold fnAt; rw [b66_eq]; rfl
theorem c67 (n : Nat) : C (n + 1) 67 = defP false 9 (b67 (C n)) := by
  have e : C (n + 1) 67 = fnAt (G.at_ (C n)) f67 := by kernel_rfl
  rw [e]; unfold fnAt; rw [b67_eq]; rfl
theorem c68 (n : Nat) : C (n + 1) 68 = defP false 2 (b68 (C n)) := by
  have e : C (n + 1) 68 = fnAt (G.at_ (C n)) f68 := by kernel_rfl
  rw [e]; unfold fnAt; rw [b68_eq]; rfl
theorem c69 (n : Nat) : C (n + 1) 69 = defP false 1 (b69 (C n)) := by
  have e : C (n + 1) 69 = fnAt (G.at_ (C n)) f69 := by kernel_rfl
  rw [e]; unfold fnAt; rw [b69_eq]; rfl
theorem c70 (n : Nat) : C (n + 1) 70 = defP false 4 (b70 (C n)) := by
  have e : C (n + 1) 70 = fnAt (G.at_ (C n)) f70 := by kernel_rfl
  rw [e]; unfold fnAt; rw [b70_eq]; rfl
theorem c71 (n : Nat) : C (n + 1) 71 = defP false 17 (b71 (C n)) := by
  have e : C (n + 1) 71 = fnAt (G.at_ (C n)) f71 := by kernel_rfl
  rw [e]; unfold fnAt; rw [b71_eq]; rfl
@[simp] theorem cp0_1 {call : Nat → Gb} {st : Store} {x0 : D} : callP call G.dfl 0 [x0] st = call 0 [x0] st := rfl
@[simp] theorem cp1_1 {call : Nat → Gb} {st : Store} {x0 : D} : callP call G.dfl 1 [x0] st = call 1 [x0] st := rfl
@[simp] theorem cp2_3 {call : Nat → Gb} {st : Store} {x0 x1 x2 : D} : callP call G.dfl 2 [x0, x1, x2] st = call 2 [x0, x1, x2] st := rfl
@[simp] theorem cp2_2 {call : Nat → Gb} {st : Store} {x0 x1 : D} : callP call G.dfl 2 [x0, x1] st = call 2 [x0, x1, (.int 1)] st := rfl
@[simp] theorem cp3_2 {call : Nat → Gb} {st : Store} {x0 x1 : D} : callP call G.dfl 3 [x0, x1] st = call 3 [x0, x1] st := rfl
@[simp] theorem cp4_1 {call : Nat → Gb} {st : Store} {x0 : D} : callP call G.dfl 4 [x0] st = call 4 [x0] st := rfl
@[simp] theorem cp5_2 {call : Nat → Gb} {st : Store} {x0 x1 : D} : callP call G.dfl 5 [x0, x1] st = call 5 [x0, x1] st := rfl
@[simp] theorem cp6_2 {call : Nat → Gb} {st : Store} {x0 x1 : D} : callP call G.dfl 6 [x0, x1] st = call 6 [x0, x1] st := rfl
@[simp] theorem cp7_2 {call : Nat → Gb} {st : Store} {x0 x1 : D} : callP call G.dfl 7 [x0, x1] st = call 7 [x0, x1] st := rfl
@[simp] theorem cp8_2 {call : Nat → Gb} {st : Store} {x0 x1 : D} : callP call G.dfl 8 [x0, x1] st = call 8 [x0, x1] st := rfl
@[simp] theorem cp9_1 {call : Nat → Gb} {st : Store} {x0 : D} : callP call G.dfl 9 [x0] st = call 9 [x0] st := rfl
@[simp] theorem cp10_1 {call : Nat → Gb} {st : Store} {x0 : D} : callP call G.dfl 10 [x0] st = call 10 [x0] st := rfl
@[simp] theorem cp11_1 {call : Nat → Gb} {st : Store} {x0 : D} : callP call G.dfl 11 [x0] st = call 11 [x0] st := rfl
@[simp] theorem cp12_1 {call : Nat → Gb} {st : Store} {x0 : D} : callP call G.dfl 12 [x0] st = call 12 [x0] st := rfl
@[simp] theorem cp13_2 {call : Nat → Gb} {st : Store} {x0 x1 : D} : callP call G.dfl 13 [x0, x1] st = call 13 [x0, x1] st := rfl
@[simp] theorem cp14_2 {call : Nat → Gb} {st : Store} {x0 x1 : D} : callP call G.dfl 14 [x0, x1] st = call 14 [x0, x1] st := rfl
@[simp] theorem cp15_1 {call : Nat → Gb} {st : Store} {x0 : D} : callP call G.dfl 15 [x0] st = call 15 [x0] st := rfl
@[simp] theorem cp16_1 {call : Nat → Gb} {st : Store} {x0 : D} : callP call G.dfl 16 [x0] st = call 16 [x0] st := rfl
@[simp] theorem cp17_1 {call : Nat → Gb} {st : Store} {x0 : D} : callP call G.dfl 17 [x0] st = call 17 [x0] st := rfl
@[simp] theorem cp18_1 {call : Nat → Gb} {st : Store} {x0 : D} : callP call G.dfl 18 [x0] st = call 18 [x0] st := rfl
@[simp] theorem cp19_1 {call : Nat → Gb} {st : Store} {x0 : D} : callP call G.dfl 19 [x0] st = call 19 [x0] st := rfl
@[simp] theorem cp20_1 {call : Nat → Gb} {st : Store} {x0 : D} : callP call G.dfl 20 [x0] st = call 20 [x0] st := rfl
@[simp] theorem cp21_1 {call : Nat → Gb} {st : Store} {x0 : D} : callP call G.dfl 21 [x0] st = call 21 [x0] st := rfl
@[simp] theorem cp22_3 {call : Nat → Gb} {st : Store} {x0 x1 x2 : D} : callP call G.dfl 22 [x0, x1, x2] st = call 22 [x0, x1, x2] st := rfl
@[simp] theorem cp23_1 {call : Nat → Gb} {st : Store} {x0 : D} : callP call G.dfl 23 [x0] st = call 23 [x0] st := rfl
@[simp] theorem cp24_2 {call : Nat → Gb} {st : Store} {x0 x1 : D} : callP call G.dfl 24 [x0, x1] st = call 24 [x0, x1] st := rfl
@[simp] theorem cp25_1 {call : Nat → Gb} {st : Store} {x0 : D} : callP call G.dfl 25 [x0] st = call 25 [x0] st := rfl
@[simp] theorem cp26_1 {call : Nat → Gb} {st : Store} {x0 : D} : callP call G.dfl 26 [x0] st = call 26 [x0] st := rfl
@[simp] theorem cp27_1 {call : Nat → Gb} {st : Store} {x0 : D} : callP call G.dfl 27 [x0] st = call 27 [x0] st := rfl
@[simp] theorem cp28_2 {call : Nat → Gb} {st : Store} {x0 x1 : D} : callP call G.dfl 28 [x0, x1] st = call 28 [x0, x1] st := rfl
@[simp] theorem cp29_2 {call : Nat → Gb} {st : Store} {x0 x1 : D} : callP call G.dfl 29 [x0, x1] st = call 29 [x0, x1] st := rfl
@[simp] theorem cp30_2 {call : Nat → Gb} {st : Store} {x0 x1 : D} : callP call G.dfl 30 [x0, x1] st = call 30 [x0, x1] st := rfl
@[simp] theorem cp31_2 {call : Nat → Gb} {st : Store} {x0 x1 : D} : callP call G.dfl 31 [x0, x1] st = call 31 [x0, x1] st := rfl
@[simp] theorem cp32_2 {call : Nat → Gb} {st : Store} {x0 x1 : D} : callP call G.dfl 32 [x0, x1] st = call 32 [x0, x1] st := rfl
@[simp] theorem cp33_2 {call : Nat → Gb} {st : Store} {x0 x1 : D} : callP call G.dfl 33 [x0, x1] st = call 33 [x0, x1] st := rfl
@[simp] theorem cp34_2 {call : Nat → Gb} {st : Store} {x0 x1 : D} : callP call G.dfl 34 [x0, x1] st = call 34 [x0, x1] st := rfl
@[simp] theorem cp35_2 {call : Nat → Gb} {st : Store} {x0 x1 : D} : callP call G.dfl 35 [x0, x1] st = call 35 [x0, x1] st := rfl
@[simp] theorem cp36_1 {call : Nat → Gb} {st : Store} {x0 : D} : callP call G.dfl 36 [x0] st = call 36 [x0] st := rfl
@[simp] theorem cp37_2 {call : Nat → Gb} {st : Store} {x0 x1 : D} : callP call G.dfl 37 [x0, x1] st = call 37 [x0, x1] st := rfl
@[simp] theorem cp38_2 {call : Nat → Gb} {st : Store} {x0 x1 : D} : callP call G.dfl 38 [x0, x1] st = call 38 [x0, x1] st := rfl
@[simp] theorem cp39_2 {call : Nat → Gb} {st : Store} {x0 x1 : D} : callP call G.dfl 39 [x0, x1] st = call 39 [x0, x1] st := rfl
@[simp] theorem cp40_2 {call : Nat → Gb} {st : Store} {x0 x1 : D} : callP call G.dfl 40 [x0, x1] st = call 40 [x0, x1] st := rfl
@[simp] theorem cp41_2 {call : Nat → Gb} {st : Store} {x0 x1 : D} : callP call G.dfl 41 [x0, x1] st = call 41 [x0, x1] st := rfl
@[simp] theorem cp42_1 {call : Nat → Gb} {st : Store} {x0 : D} : callP call G.dfl 42 [x0] st = call 42 [x0] st := rfl
@[simp] theorem cp43_1 {call : Nat → Gb} {st : Store} {x0 : D} : callP call G.dfl 43 [x0] st = call 43 [x0] st := rfl
@[simp] theorem cp44_2 {call : Nat → Gb} {st : Store} {x0 x1 : D} : callP call G.dfl 44 [x0, x1] st = call 44 [x0, x1] st := rfl
@[simp] theorem cp44_1 {call : Nat → Gb} {st : Store} {x0 : D} : callP call G.dfl 44 [x0] st = call 44 [x0, (.int 1)] st := rfl
@[simp] theorem cp45_2 {call : Nat → Gb} {st : Store} {x0 x1 : D} : callP call G.dfl 45 [x0, x1] st = call 45 [x0, x1] st := rfl
@[simp] theorem cp46_1 {call : Nat → Gb} {st : Store} {x0 : D} : callP call G.dfl 46 [x0] st = call 46 [x0] st := rfl
@[simp] theorem cp47_2 {call : Nat → Gb} {st : Store} {x0 x1 : D} : callP call G.dfl 47 [x0, x1] st = call 47 [x0, x1] st := rfl
@[simp] theorem cp48_2 {call : Nat → Gb} {st : Store} {x0 x1 : D} : callP call G.dfl 48 [x0, x1] st = call 48 [x0, x1] st := rfl
@[simp] theorem cp49_2 {call : Nat → Gb} {st : Store} {x0 x1 : D} : callP call G.dfl 49 [x0, x1] st = call 49 [x0, x1] st := rfl
@[simp] theorem cp50_2 {call : Nat → Gb} {st : Store} {x0 x1 : D} : callP call G.dfl 50 [x0, x1] st = call 50 [x0, x1] st := rfl
@[simp] theorem cp51_1 {call : Nat → Gb} {st : Store} {x0 : D} : callP call G.dfl 51 [x0] st = call 51 [x0] st := rfl
@[simp] theorem cp52_1 {call : Nat → Gb} {st : Store} {x0 : D} : callP call G.dfl 52 [x0] st = call 52 [x0] st := rfl
@[simp] theorem cp53_1 {call : Nat → Gb} {st : Store} {x0 : D} : callP call G.dfl 53 [x0] st = call 53 [x0] st := rfl
@[simp] theorem cp54_2 {call : Nat → Gb} {st : Store} {x0 x1 : D} : callP call G.dfl 54 [x0, x1] st = call 54 [x0, x1] st := rfl
@[simp] theorem cp55_2 {call : Nat → Gb} {st : Store} {x0 x1 : D} : callP call G.dfl 55 [x0, x1] st = call 55 [x0, x1] st := rfl
@[simp] theorem cp56_3 {call : Nat → Gb} {st : Store} {x0 x1 x2 : D} : callP call G.dfl 56 [x0, x1, x2] st = call 56 [x0, x1, x2] st := rfl
@[simp] theorem cp57_1 {call : Nat → Gb} {st : Store} {x0 : D} : callP call G.dfl 57 [x0] st = call 57 [x0] st := rfl
@[simp] theorem cp58_2 {call : Nat → Gb} {st : Store} {x0 x1 : D} : callP call G.dfl 58 [x0, x1] st = call 58 [x0, x1] st := rfl
@[simp] theorem cp59_1 {call : Nat → Gb} {st : Store} {x0 : D} : callP call G.dfl 59 [x0] st = call 59 [x0] st := rfl
@[simp] theorem cp60_1 {call : Nat → Gb} {st : Store} {x0 : D} : callP call G.dfl 60 [x0] st = call 60 [x0] st := rfl
@[simp] theorem cp61_2 {call : Nat → Gb} {st : Store} {x0 x1 : D} : callP call G.dfl 61 [x0, x1] st = call 61 [x0, x1] st := rfl
@[simp] theorem cp62_2 {call : Nat → Gb} {st : Store} {x0 x1 : D} : callP call G.dfl 62 [x0, x1] st = call 62 [x0, x1] st := rfl
@[simp] theorem cp63_1 {call : Nat → Gb} {st : Store} {x0 : D} : callP call G.dfl 63 [x0] st = call 63 [x0] st := rfl
@[simp] theorem cp64_2 {call : Nat → Gb} {st : Store} {x0 x1 : D} : callP call G.dfl 64 [x0, x1] st = call 64 [x0, x1] st := rfl
@[simp] theorem cp65_2 {call : Nat → Gb} {st : Store} {x0 x1 : D} : callP call G.dfl 65 [x0, x1] st = call 65 [x0, x1] st := rfl
@[simp] theorem cp66_2 {call : Nat → Gb} {st : Store} {x0 x1 : D} : callP call G.dfl 66 [x0, x1] st = call 66 [x0, x1] st := rfl
@[simp] theorem cp67_2 {call : Nat → Gb} {st : Store} {x0 x1 : D} : callP call G.dfl 67 [x0, x1] st = call 67 [x0, x1] st := rfl
@[simp] theorem cp68_1 {call : Nat → Gb} {st : Store} {x0 : D} : callP call G.dfl 68 [x0] st = call 68 [x0] st := rfl
@[simp] theorem cp69_1 {call : Nat → Gb} {st : Store} {x0 : D} : callP call G.dfl 69 [x0] st = call 69 [x0] st := rfl
@[simp] theorem cp70_2 {call : Nat → Gb} {st : Store} {x0 x1 : D} : callP call G.dfl 70 [x0, x1] st = call 70 [x0, x1] st := rfl
@[simp] theorem cp71_1 {call : Nat → Gb} {st : Store} {x0 : D} : callP call G.dfl 71 [x0] st = call 71 [x0] st := rfl
@[simp] theorem ao5_3 : G.ao 5 3 = true := by decide +kernel
@[simp] theorem ao5_4 : G.ao 5 4 = true := by decide +kernel
@[simp] theorem ao5_5 : G.ao 5 5 = true := by decide +kernel
@[simp] theorem ao5_6 : G.ao 5 6 = true := by decide +kernel
@[simp] theorem ao6_7 : G.ao 6 7 = true := by decide +kernel
@[simp] theorem ao6_8 : G.ao 6 8 = true := by decide +kernel
@[simp] theorem ao6_9 : G.ao 6 9 = true := by decide +kernel
@[simp] theorem ao6_10 : G.ao 6 10 = true := by decide +kernel
@[simp] theorem xf1 : G.exf 1 = some [0, 1] := by rfl
@[simp] theorem xf2 : G.exf 2 = some [2] := by rfl
@[simp] theorem xf3 : G.exf 3 = some [1] := by rfl
@[simp] theorem xf4 : G.exf 4 = some [1] := by rfl
theorem in5 : G.ini 5 = some 2 := rfl
theorem in6 : G.ini 6 = some 13 := rfl
theorem eqf5 : G.eqf 5 = some 3 := rfl
theorem eqf6 : G.eqf 6 = some 14 := rfl
end K34
set_option Elab.async false
set_option linter.all false
set_option maxRecDepth 100000
set_option maxHeartbeats 2000000
set_option exponentiation.threshold 20000
namespace K34
open PySem PySem.Spec L2 Ev
/-- the law's store: the lambdas' tables, the pen, what is made -/
def W (r : Store) (P : Pen) : Store := .tbl 0 :: .dct (penD P) :: r
/-- a value that a def gives back as it is -/
def Giv (d : D) : Prop := ∀ (kp : Bool) (n : Nat) (s : Store), retP kp n d s = .ok d (s.take n)
theorem giv_int {i : Int} : Giv (.int i) := fun _ _ _ => rfl
theorem giv_bl {i : Bool} : Giv (.bl i) := fun _ _ _ => rfl
theorem giv_non : Giv .non := fun _ _ _ => rfl
theorem giv_str {i : Str} : Giv (.str i) := fun _ _ _ => rfl
theorem giv_tup {i : List D} : Giv (.tup i) := fun _ _ _ => rfl
theorem giv_lst {i : List D} : Giv (.lst i) := fun _ _ _ => rfl
theorem giv_obj {c : Nat} {i : List (Nat × D)} : Giv (.obj c i) := fun _ _ _ => rfl
theorem _root_.Ev.PenOk.mono {c d : Nat} {P : Pen} (h : PenOk c P) (hd : c ≤ d) : PenOk d P := ⟨h.a, h.d, h.n, by have := h.n2; omega, h.f, h.f2⟩
section
variable {k c : Nat} {r : Store} {P : Pen} {m : Int}
theorem W_len : (W r P).length = r.length + 2 := rfl
theorem W_take : (W r P).take (r.length + 2) = W r P := by rw [← W_len (P := P), take_self]
theorem W_take0 : (W r P).take (W r P).length = W r P := take_self
theorem w_law_draw (ok : PenOk c P) (hc : c < 1000000) (hm : 0 < m) (hm2 : m < 2 ^ 64) : ∃ (v : Int) (P' : Pen), C (k + 1) 37 [.ref 1, .int m] (W r P) = .ok (.int v) (W r P') ∧ 0 ≤ v ∧ v < m ∧ PenOk (c + 1) P' := by
  rw [c37]
  exact draw_ok (p := 1) (st := W r P) rfl ok hc hm hm2
theorem w_law_int (ok : PenOk c P) (hc : c < 1000000) (hm : 0 ≤ m) (hm2 : m < 2 ^ 40) : ∃ (v : Int) (P' : Pen), C (k + 2) 40 [.ref 1, .int m] (W r P) = .ok (.int v) (W r P') ∧ -m ≤ v ∧ v ≤ m ∧ PenOk (c + 1) P' := by
  obtain ⟨v, P', e, h0, h1, ok'⟩ := w_law_draw (k := k) (r := r) (m := 2 * m + 1) ok hc (by omega) (by omega)
  have bm : Bd m 40 := bd_le (by omega) hm2
  refine ⟨v - m, P', ?_, by omega, by omega, ok'⟩
  rw [c40]; unfold defP b40
  simp [List.replicate, e, W_len, W_take]
theorem ix_at {xs : List D} {v : Int} {st : Store} (h0 : 0 ≤ v) (h1 : v < xs.length) : ∃ d ∈ xs, ixP (.lst xs) (.int v) st = .ok d st := by
  have hv : v.toNat < xs.length := by omega
  refine ⟨xs[v.toNat], List.getElem_mem hv, ?_⟩
  unfold ixP atI ixN
  simp only [seq_lst]
  rw [if_pos h0, if_pos h1]
  simp [hv]
theorem w_law_pick {xs : List D} (ok : PenOk c P) (hc : c < 1000000) (hx : xs ≠ []) (hl : xs.length < 100000) (hf : ∀ d ∈ xs, Giv d) : ∃ (d : D) (P' : Pen), d ∈ xs ∧ C (k + 2) 38 [.ref 1, .lst xs] (W r P) = .ok d (W r P') ∧ PenOk (c + 1) P' := by
  have hp : 0 < xs.length := List.length_pos_iff.mpr hx
  obtain ⟨v, P', e, h0, h1, ok'⟩ := w_law_draw (k := k) (r := r) (m := (xs.length : Int)) ok hc (by omega) (by omega)
  obtain ⟨d, hd, hix⟩ := ix_at (st := W r P') h0 h1
  refine ⟨d, P', hd, ?_, ok'⟩
  rw [c38]; unfold defP b38
  have hr := hf d hd false (r.length + 2) (W r P')
  rw [W_take] at hr
  simp [List.replicate, e, hix, W_len, hr]
end
end K34
set_option Elab.async false
set_option linter.all false
set_option maxRecDepth 100000
set_option maxHeartbeats 2000000
set_option exponentiation.threshold 20000
namespace K34
open PySem PySem.Spec L2 Ev
/-! fractions of the law's own -/
@[simp] theorem giv_qd {r : Rat} : Giv (qd r) := giv_tup
@[simp] theorem ret_qd {kp : Bool} {n : Nat} {r : Rat} {s : Store} : retP kp n (qd r) s = .ok (qd r) (s.take n) := rfl
@[simp] theorem frz_qd {r : Rat} {s : Store} : frz (qd r) s = some (qd r, s) := rfl
@[simp] theorem ixq0 {a : Rat} {st : Store} : ixP (qd a) (.int 0) st = .ok (.int a.num) st := rfl
@[simp] theorem ixq1 {a : Rat} {st : Store} : ixP (qd a) (.int 1) st = .ok (.int (a.den : Int)) st := rfl
@[simp] theorem ixp0 {a b : D} {st : Store} : ixP (.tup [a, b]) (.int 0) st = .ok a st := rfl
@[simp] theorem ixp1 {a b : D} {st : Store} : ixP (.tup [a, b]) (.int 1) st = .ok b st := rfl
section
variable {k : Nat} {st : Store} {a b : Rat}
theorem lim_fuel {y : Int} {l : Nat} [c : Bd y l] (h : l < 9900) : y.natAbs < 10 ^ 3000 := by
  refine Nat.lt_of_lt_of_le c.h (Nat.le_trans (Nat.pow_le_pow_right (by decide) (Nat.le_of_lt h)) ?_)
  decide +kernel
theorem w_law_gcd {x y : Int} {l : Nat} [c : Bd y l] (h : l < 9900) : C (k + 1) 41 [.int x, .int y] st = .ok (.int (Nat.gcd x.natAbs y.natAbs : Nat)) st := by
  rw [c41]; exact gcd_ok (lim_fuel h)
theorem w_law_q {x y : Int} {l : Nat} [c : Bd y l] (h : l < 8900) (hy : y ≠ 0) : C (k + 2) 44 [.int x, .int y] st = .ok (qd (rq x y)) st := by
  have e := qv_eq (t := x) hy
  have g := q_ok (ngf := G.ngf) (opf := G.opf) (call := C (k + 1)) (dfl := G.dfl) (g := 41) (k := l) (t := x) (b := y) (st := st) (by rw [cp41_2]; exact w_law_gcd (by omega)) hy (by omega)
  rw [c44]
  refine g.trans ?_
  rw [e]
  rfl
theorem w_law_q_add {l m : Nat} [Bq a l] [Bq b m] (h : l + m < 8900) : C (k + 3) 45 [qd a, qd b] st = .ok (qd (a + b)) st := by
  have h1 : l + m < 1000000 := by omega
  have h2 : m + l < 1000000 := by omega
  have e := w_law_q (k := k) (st := st) (x := a.num * b.den + b.num * a.den) (y := (a.den : Int) * b.den) h (den_mul_ne a b)
  rw [rq_add] at e
  rw [c45]; unfold defP b45
  simp [List.replicate, h1, h2, e, take_self]
theorem w_law_q_mul {l m : Nat} [Bq a l] [Bq b m] (h : l + m < 8900) : C (k + 3) 48 [qd a, qd b] st = .ok (qd (a * b)) st := by
  have h1 : l + m < 1000000 := by omega
  have e := w_law_q (k := k) (st := st) (x := a.num * b.num) (y := (a.den : Int) * b.den) h (den_mul_ne a b)
  rw [rq_mul] at e
  rw [c48]; unfold defP b48
  simp [List.replicate, h1, e, take_self]
theorem w_law_q_neg : C (k + 1) 46 [qd a] st = .ok (qd (-a)) st := by
  have e : qd (-a) = .tup [.int (-a.num), .int (a.den : Int)] := by unfold qd; rw [Rat.neg_num]; rfl
  rw [c46, e]; unfold defP b46
  simp [List.replicate, take_self, size_line]
theorem w_law_q_of {c : Nat} {fs : List (Nat × D)} (h0 : getF 3 fs = some (.int a.num)) (h1 : getF 4 fs = some (.int (a.den : Int))) (hc : c = 5) : C (k + 1) 52 [.obj c fs] st = .ok (qd a) st := by
  subst hc
  have g0 : attP G.ao 3 (.obj 5 fs) st = .ok (.int a.num) st := att_obj h0 (by decide +kernel)
  have g1 : attP G.ao 4 (.obj 5 fs) st = .ok (.int (a.den : Int)) st := att_obj h1 (by decide +kernel)
  rw [c52]; unfold defP b52
  simp [List.replicate, take_self, size_line, g0, g1]
  rfl
end
section
variable {k : Nat} {st : Store}
instance bq_0 : Bq (0 : Rat) 1 := ⟨by decide, by decide⟩
theorem lit0 : D.tup [.int 0, .int 1] = qd 0 := rfl
theorem lit1 : D.tup [.int 1, .int 1] = qd 1 := rfl
theorem lit2 : D.tup [.int 2, .int 1] = qd 2 := rfl
theorem lit3 : D.tup [.int 3, .int 1] = qd 3 := rfl
theorem lit4 : D.tup [.int 4, .int 1] = qd 4 := rfl
theorem lit8 : D.tup [.int 8, .int 1] = qd 8 := rfl
theorem litI {i : Int} : D.tup [.int i, .int 1] = qd (i : Rat) := rfl
instance bq_1 : Bq (1 : Rat) 1 := ⟨by decide, by decide⟩
instance bq_2 : Bq (2 : Rat) 2 := ⟨by decide, by decide⟩
instance bq_3 : Bq (3 : Rat) 2 := ⟨by decide, by decide⟩
instance bq_4 : Bq (4 : Rat) 3 := ⟨by decide, by decide⟩
instance bq_8 : Bq (8 : Rat) 4 := ⟨by decide, by decide⟩
/-- a row of fractions, summed up -/
theorem sum_go {l1 : Fs} (hl : ∀ (f x : Rat) (c d : Nat), Bq f c → Bq x d → c + d < 8900 → ∀ o : Option D, ∀ r : D, l1 [some r, some (qd f), some (qd x)] st = .nx [some r, some (qd (f + x)), some (qd x)] st) :
    ∀ (xs : List (Rat × Nat)) (f : Rat) (c : Nat) (ws : List D) (o : Option D) (r : D), (∀ p ∈ xs, Bq p.1 p.2) → Bq f c → c + (xs.map fun p => p.2 + 1).sum < 8900 → ∃ o', fLoop (.nm 2) l1 (ws, none) (xs.map fun p => qd p.1) [some r, some (qd f), o] st = .nx [some r, some (qd (xs.foldl (fun f p => f + p.1) f)), o'] st
  | [], f, c, ws, o, r, _, _, _ => ⟨o, by simp⟩
  | p :: xs, f, c, ws, o, r, hx, hf, hs => by
    simp only [List.map_cons, List.sum_cons] at hs
    have hp := hx p (List.mem_cons_self ..)
    have hfp : Bq (f + p.1) (c + p.2 + 1) := inferInstance
    obtain ⟨o', e⟩ := sum_go hl xs (f + p.1) (c + p.2 + 1) ws (some (qd p.1)) r (fun q hq => hx q (List.mem_cons_of_mem _ hq)) hfp (by omega)
    refine ⟨o', ?_⟩
    have z := hl f p.1 c p.2 hf hp (by omega) o r
    simp [z, e]
theorem w_law_q_sum {xs : List (Rat × Nat)} (hx : ∀ p ∈ xs, Bq p.1 p.2) (hs : 1 + (xs.map fun p => p.2 + 1).sum < 8900) (hl : xs.length < 100) : C (k + 4) 53 [.lst (xs.map fun p => qd p.1)] st = .ok (qd (xs.foldl (fun f p => f + p.1) 0)) st := by
  obtain ⟨o', e⟩ := sum_go (st := st) (l1 := b53_l1 (C (k + 3))) (fun f x c d hf hx hcd o r => by
    have z := w_law_q_add (k := k) (st := st) (a := f) (b := x) hcd
    unfold b53_l1
    simp [z]) xs 0 1 (xs.map fun p => qd p.1) none (.lst (xs.map fun p => qd p.1)) hx bq_0 hs
  rw [c53]; unfold defP b53
  simp [List.replicate, size_line, lit0, e, take_self]
theorem sum2 {x y : Rat} {c d : Nat} [hx : Bq x c] [hy : Bq y d] (h : c + d < 8800) : C (k + 4) 53 [.lst [qd x, qd y]] st = .ok (qd (x + y)) st := by
  have e := w_law_q_sum (k := k) (st := st) (xs := [(x, c), (y, d)]) (by simp; exact ⟨hx, hy⟩) (by simp; omega) (by simp)
  simpa [Rat.zero_add] using e
theorem sum3 {x y z : Rat} {c d f : Nat} [hx : Bq x c] [hy : Bq y d] [hz : Bq z f] (h : c + d + f < 8800) : C (k + 4) 53 [.lst [qd x, qd y, qd z]] st = .ok (qd (x + y + z)) st := by
  have e := w_law_q_sum (k := k) (st := st) (xs := [(x, c), (y, d), (z, f)]) (by simp; exact ⟨hx, hy, hz⟩) (by simp; omega) (by simp)
  simpa [Rat.zero_add] using e
theorem sum4 {x y z u : Rat} {c d f g : Nat} [hx : Bq x c] [hy : Bq y d] [hz : Bq z f] [hu : Bq u g] (h : c + d + f + g < 8800) : C (k + 4) 53 [.lst [qd x, qd y, qd z, qd u]] st = .ok (qd (x + y + z + u)) st := by
  have e := w_law_q_sum (k := k) (st := st) (xs := [(x, c), (y, d), (z, f), (u, g)]) (by simp; exact ⟨hx, hy, hz, hu⟩) (by simp; omega) (by simp)
  simpa [Rat.zero_add] using e
theorem sum5 {x y z u v : Rat} {c d f g i : Nat} [hx : Bq x c] [hy : Bq y d] [hz : Bq z f] [hu : Bq u g] [hv : Bq v i] (h : c + d + f + g + i < 8800) : C (k + 4) 53 [.lst [qd x, qd y, qd z, qd u, qd v]] st = .ok (qd (x + y + z + u + v)) st := by
  have e := w_law_q_sum (k := k) (st := st) (xs := [(x, c), (y, d), (z, f), (u, g), (v, i)]) (by simp; exact ⟨hx, hy, hz, hu, hv⟩) (by simp; omega) (by simp)
  simpa [Rat.zero_add] using e
end
end K34
set_option Elab.async false
set_option linter.all false
set_option maxRecDepth 100000
set_option maxHeartbeats 2000000
set_option exponentiation.threshold 20000
namespace K34
open PySem PySem.Spec L2 Ev
section
variable {k : Nat} {st : Store} {a b : Rat}
theorem w_law_q_sub {l m : Nat} [Bq a l] [Bq b m] (h : l + m < 8900) : C (k + 3) 47 [qd a, qd b] st = .ok (qd (a - b)) st := by
  have h1 : l + m < 1000000 := by omega
  have h2 : m + l < 1000000 := by omega
  have e := w_law_q (k := k) (st := st) (x := a.num * b.den - b.num * a.den) (y := (a.den : Int) * b.den) h (den_mul_ne a b)
  rw [rq_sub] at e
  rw [c47]; unfold defP b47
  simp [List.replicate, h1, h2, e, take_self]
theorem w_law_q_over {l m : Nat} [Bq a l] [Bq b m] (h : l + m < 8900) (hb : b ≠ 0) : C (k + 3) 49 [qd a, qd b] st = .ok (qd (a / b)) st := by
  have h1 : l + m < 1000000 := by omega
  have e := w_law_q (k := k) (st := st) (x := a.num * b.den) (y := (a.den : Int) * b.num) h (Int.mul_ne_zero (den_ne a) (num_ne hb))
  rw [rq_over a hb] at e
  rw [c49]; unfold defP b49
  simp [List.replicate, h1, e, take_self]
end
end K34
set_option Elab.async false
set_option linter.all false
set_option maxRecDepth 100000
set_option maxHeartbeats 2000000
set_option exponentiation.threshold 20000
namespace K34
open PySem PySem.Spec L2 Ev
section
variable {k : Nat} {st : Store} {a b : Rat}
theorem w_law_q_less {l m : Nat} [Bq a l] [Bq b m] (h : l + m < 8900) : C (k + 1) 50 [qd a, qd b] st = .ok (.bl (decide (a < b))) st := by
  have h1 : l + m < 1000000 := by omega
  have h2 : m + l < 1000000 := by omega
  rw [c50]; unfold defP b50
  simp [List.replicate, h1, h2, take_self, Rat.lt_iff]
end
end K34
set_option Elab.async false
set_option linter.all false
set_option maxRecDepth 100000
set_option maxHeartbeats 2000000
set_option exponentiation.threshold 20000
namespace K34
open PySem PySem.Spec L2 Ev
/-! the program's fractions -/
def sg (i : Int) : Int := (if 0 < i then (1 : Int) else 0) - if i < 0 then (1 : Int) else 0
def rF (r : Rat) : List (Nat × D) := [(3, .int r.num), (4, .int (r.den : Int)), (5, .int (sg r.num)), (6, .bl (decide ((r.den : Int) = 1)))]
def rD (r : Rat) : D := .obj 5 (rF r)
@[simp] theorem giv_rD {r : Rat} : Giv (rD r) := giv_obj
@[simp] theorem ret_rD {kp : Bool} {n : Nat} {r : Rat} {s : Store} : retP kp n (rD r) s = .ok (rD r) (s.take n) := rfl
@[simp] theorem frz_rD {r : Rat} {s : Store} : frz (rD r) s = some (rD r, s) := rfl
section
variable {k : Nat} {st : Store} {a b : Rat} {d : D}
@[simp] theorem att_top : attP G.ao 3 (rD a) st = .ok (.int a.num) st := att_obj rfl (by decide +kernel)
@[simp] theorem att_bottom : attP G.ao 4 (rD a) st = .ok (.int (a.den : Int)) st := att_obj rfl (by decide +kernel)
@[simp] theorem att_sign : attP G.ao 5 (rD a) st = .ok (.int (sg a.num)) st := att_obj rfl (by decide +kernel)
@[simp] theorem att_whole : attP G.ao 6 (rD a) st = .ok (.bl (decide ((a.den : Int) = 1))) st := att_obj rfl (by decide +kernel)
theorem w_is_integer (h : plainK d = true) : C (k + 1) 0 [d] st = .ok (.bl (isI d)) st := by
  rw [c0]; exact isint_ok h
@[simp] theorem int_int {i : Int} : C (k + 1) 0 [.int i] st = .ok (.bl true) st := w_is_integer rfl
@[simp] theorem isa_rD_int : isaP G.io .int (rD a) st = .ok (.bl false) st := by kernel_rfl
@[simp] theorem isa_rD_own : isaP G.io (.own 5) (rD a) st = .ok (.bl true) st := by kernel_rfl
@[simp] theorem isa_int_own {i : Int} : isaP G.io (.own 5) (.int i) st = .ok (.bl false) st := by kernel_rfl
@[simp] theorem int_rD : C (k + 1) 0 [rD a] st = .ok (.bl false) st := by
  rw [c0]; unfold defP b0
  simp [List.replicate, take_self]
@[simp] theorem g_gcd {i j : Int} {st : Store} : gGcd [.int i, .int j] st = .ok (.int ((Nat.gcd i.natAbs j.natAbs : Nat) : Int)) st := rfl
@[simp] theorem bq_subb {i j : Bool} {st : Store} : binQ .Sub (.bl i) (.bl j) st = .ok (.int ((if i = true then (1 : Int) else 0) - if j = true then (1 : Int) else 0)) st := rfl
theorem neg_div (t g : Int) : t.fdiv (-g) = (-t).fdiv g := by
  have := Int.neg_fdiv_neg (-t) g
  rw [Int.neg_neg] at this
  exact this
theorem w_Ratio_init {p : Nat} {t b : Int} {l : Nat} (hp : st[p]? = some (.ins 5 [])) [c : Bd b l] (hl : l < 8900) (hb : b ≠ 0) : C (k + 2) 2 [.ref p, .int t, .int b] st = .ok .non (st.set p (.ins 5 (rF (rq t b)))) := by
  have hpl : p < st.length := (List.getElem?_eq_some_iff.mp hp).1
  have dv := gcd_div (t := t) hb (k := l) (by omega)
  have dn : divOk (-((Nat.gcd t.natAbs b.natAbs : Nat) : Int)) := ⟨by have := dv.1; omega, by have := dv.2; rw [Int.natAbs_neg]; exact this⟩
  have e := qv_eq (t := t) hb
  have e1 : (rq t b).num = (qv t b).1 := by rw [e]
  have e2 : ((rq t b).den : Int) = (qv t b).2 := by rw [e]
  rw [c2]; unfold defP b2
  by_cases hb0 : 0 < b
  · have q1 : (rq t b).num = t.fdiv (Nat.gcd t.natAbs b.natAbs : Nat) := by rw [e1]; unfold qv; rw [if_pos hb0]
    have q2 : ((rq t b).den : Int) = b.fdiv (Nat.gcd t.natAbs b.natAbs : Nat) := by rw [e2]; unfold qv; rw [if_pos hb0]
    simp [List.replicate, x_if, hb, hb0, bq_fdiv dv, putA_ok hp, putA_ok (List.getElem?_set_self hpl), setF, att_ref (List.getElem?_set_self hpl), getF, set_take, rF, q1, q2, sg]
  · have q1 : (rq t b).num = t.fdiv (-((Nat.gcd t.natAbs b.natAbs : Nat) : Int)) := by rw [e1]; unfold qv; rw [if_neg hb0, neg_div]
    have q2 : ((rq t b).den : Int) = b.fdiv (-((Nat.gcd t.natAbs b.natAbs : Nat) : Int)) := by rw [e2]; unfold qv; rw [if_neg hb0, neg_div]
    simp [List.replicate, x_if, hb, hb0, bq_fdiv dn, putA_ok hp, putA_ok (List.getElem?_set_self hpl), setF, att_ref (List.getElem?_set_self hpl), getF, set_take, rF, q1, q2, sg]
theorem mk_Ratio {t b : Int} {l : Nat} [c : Bd b l] (hl : l < 8900) (hb : b ≠ 0) : makeP (C (k + 2)) G.dfl G.ini 5 [.int t, .int b] st = .ok (rD (rq t b)) st := by
  refine make_ok (i := 2) (fs := rF (rq t b)) (by decide +kernel) ?_
  rw [cp2_3, w_Ratio_init (p := st.length) (by simp) hl hb]
  simp
theorem mk_Ratio1 {t : Int} : makeP (C (k + 2)) G.dfl G.ini 5 [.int t] st = .ok (rD (t : Rat)) st := by
  have e : rq t 1 = (t : Rat) := by
    unfold rq
    rw [show ((1 : Int) : Rat) = 1 from rfl]
    grind
  refine make_ok (i := 2) (fs := rF (t : Rat)) (by decide +kernel) ?_
  rw [← e, cp2_2, w_Ratio_init (p := st.length) (l := 1) (c := bl_1) (by simp) (by decide) (by decide)]
  simp
theorem w_Ratio_eq : C (k + 1) 3 [rD a, rD b] st = .ok (.bl (decide (a = b))) st := by
  rw [c3]; unfold defP b3
  have h : (decide (a = b)) = (decide (a.num = b.num) && decide ((a.den : Int) = b.den)) := by
    rw [← Bool.decide_and]
    exact decide_eq_decide.mpr nd_inj.symm
  rw [h]
  by_cases h1 : a.num = b.num <;> simp [List.replicate, take_self, h1]
theorem eq_rD {neg : Bool} : eqO (C (k + 1)) G.dfl G.eqf G.eqk neg (rD a) (rD b) st = .ok (.bl (if neg = true then !decide (a = b) else decide (a = b))) st := by
  show (if G.eqk 5 (.cls 5) = true then cmpR neg (callP (C (k + 1)) G.dfl 3 [rD a, rD b] st) else .stuck) = _
  rw [if_pos (by decide +kernel), cp3_2, w_Ratio_eq]
  cases neg <;> rfl
/-! operators -/
theorem bo_own {op : Operator} {i : Nat} {y : D} (h : G.opf 5 op = some i) (hk : opKd 5 (kdOf st y) = true) {call : Nat → Gb} : binO call G.dfl G.opf op (rD a) y st = callP call G.dfl i [rD a, y] st := by
  unfold binO
  show (match G.opf 5 op with | some i => _ | none => _) = _
  rw [h]
  simp only [hk, if_true]
theorem no_own {call : Nat → Gb} : negO call G.dfl G.ngf (rD a) st = callP call G.dfl 4 [rD a] st := by
  have h : G.ngf 5 = some 4 := by decide +kernel
  have e : objD st (D.obj 5 (rF a)) = some (5, rF a) := rfl
  simp only [negO, rD, e, h]
theorem mth_own {m : Str} {i : Nat} {o : Fx} {as : Fa} {env : Ev.Env} {st1 : Store} {call : Nat → Gb} (h : G.mtf 5 m = some i) (ho : o env st = .ok (rD a) st1) : fMth call G.dfl G.mtf m o as env st = (as env st1).bind fun ds st2 => callP call G.dfl i (rD a :: ds) st2 := by
  unfold fMth
  rw [ho]
  show (match G.mtf 5 m with | some i => _ | none => _) = _
  rw [h]
theorem r_neg {l : Nat} [Bq a l] (h : l < 8900) : negO (C (k + 3)) G.dfl G.ngf (rD a) st = .ok (rD (-a)) st := by
  have e : rq (-a.num) (a.den : Int) = -a := by
    have z := rat_nd (-a)
    rw [Rat.neg_num] at z
    exact z.symm
  have m := mk_Ratio (k := k) (st := st) (t := -a.num) (b := (a.den : Int)) h (den_ne a)
  rw [no_own, cp4_1, c4]; unfold defP b4
  simp [List.replicate, take_self, m, e]
theorem r_add {l m : Nat} [Bq a l] [Bq b m] (h : l + m < 8900) : binO (C (k + 3)) G.dfl G.opf .Add (rD a) (rD b) st = .ok (rD (a + b)) st := by
  have h1 : l + m < 1000000 := by omega
  have h2 : m + l < 1000000 := by omega
  have e := mk_Ratio (k := k) (st := st) (t := a.num * b.den + b.num * a.den) (b := (a.den : Int) * b.den) h (den_mul_ne a b)
  rw [rq_add] at e
  rw [bo_own (i := 5) (by decide +kernel) rfl, cp5_2, c5]; unfold defP b5
  simp [List.replicate, take_self, x_if, h1, h2, e]
theorem r_sub {l m : Nat} [Bq a l] [Bq b m] (h : l + m < 8900) : binO (C (k + 3)) G.dfl G.opf .Sub (rD a) (rD b) st = .ok (rD (a - b)) st := by
  have h1 : l + m < 1000000 := by omega
  have h2 : m + l < 1000000 := by omega
  have e := mk_Ratio (k := k) (st := st) (t := a.num * b.den - b.num * a.den) (b := (a.den : Int) * b.den) h (den_mul_ne a b)
  rw [rq_sub] at e
  rw [bo_own (i := 6) (by decide +kernel) rfl, cp6_2, c6]; unfold defP b6
  simp [List.replicate, take_self, x_if, h1, h2, e]
theorem r_mul {l m : Nat} [Bq a l] [Bq b m] (h : l + m < 8900) : binO (C (k + 3)) G.dfl G.opf .Mult (rD a) (rD b) st = .ok (rD (a * b)) st := by
  have h1 : l + m < 1000000 := by omega
  have e := mk_Ratio (k := k) (st := st) (t := a.num * b.num) (b := (a.den : Int) * b.den) h (den_mul_ne a b)
  rw [rq_mul] at e
  rw [bo_own (i := 7) (by decide +kernel) rfl, cp7_2, c7]; unfold defP b7
  simp [List.replicate, take_self, x_if, h1, e]
theorem rq_addI (a : Rat) (i : Int) : rq (a.num + i * a.den) (a.den : Int) = a + (i : Rat) := by
  have ha := nd_mul a
  have h1 := den_neR a
  unfold rq
  simp only [Rat.intCast_add, Rat.intCast_mul]
  generalize ((a.den : Int) : Rat) = d at *
  generalize (a.num : Rat) = n at *
  grind
theorem rq_mulI (a : Rat) (i : Int) : rq (a.num * i) (a.den : Int) = a * (i : Rat) := by
  have ha := nd_mul a
  have h1 := den_neR a
  unfold rq
  simp only [Rat.intCast_mul]
  generalize ((a.den : Int) : Rat) = d at *
  generalize (a.num : Rat) = n at *
  grind
theorem rq_subI (a : Rat) (i : Int) : rq (a.num - i * a.den) (a.den : Int) = a - (i : Rat) := by
  have ha := nd_mul a
  have h1 := den_neR a
  unfold rq
  simp only [Rat.intCast_sub, Rat.intCast_mul]
  generalize ((a.den : Int) : Rat) = d at *
  generalize (a.num : Rat) = n at *
  grind
theorem r_addI {l m : Nat} {i : Int} [Bq a l] [Bd i m] (h : l + m < 8900) : binO (C (k + 3)) G.dfl G.opf .Add (rD a) (.int i) st = .ok (rD (a + (i : Rat))) st := by
  have h1 : m + l < 1000000 := by omega
  have e := mk_Ratio (k := k) (st := st) (t := a.num + i * a.den) (b := (a.den : Int)) (l := l) (by omega) (den_ne a)
  rw [rq_addI] at e
  rw [bo_own (i := 5) (by decide +kernel) rfl, cp5_2, c5]; unfold defP b5
  simp [List.replicate, take_self, x_if, h1, e]
theorem r_subI {l m : Nat} {i : Int} [Bq a l] [Bd i m] (h : l + m < 8900) : binO (C (k + 3)) G.dfl G.opf .Sub (rD a) (.int i) st = .ok (rD (a - (i : Rat))) st := by
  have h1 : m + l < 1000000 := by omega
  have e := mk_Ratio (k := k) (st := st) (t := a.num - i * a.den) (b := (a.den : Int)) (l := l) (by omega) (den_ne a)
  rw [rq_subI] at e
  rw [bo_own (i := 6) (by decide +kernel) rfl, cp6_2, c6]; unfold defP b6
  simp [List.replicate, take_self, x_if, h1, e]
theorem r_mulI {l m : Nat} {i : Int} [Bq a l] [Bd i m] (h : l + m < 8900) : binO (C (k + 3)) G.dfl G.opf .Mult (rD a) (.int i) st = .ok (rD (a * (i : Rat))) st := by
  have h1 : l + m < 1000000 := by omega
  have e := mk_Ratio (k := k) (st := st) (t := a.num * i) (b := (a.den : Int)) (l := l) (by omega) (den_ne a)
  rw [rq_mulI] at e
  rw [bo_own (i := 7) (by decide +kernel) rfl, cp7_2, c7]; unfold defP b7
  simp [List.replicate, take_self, x_if, h1, e]
theorem w_Ratio_over {l m : Nat} [Bq a l] [Bq b m] (h : l + m < 8900) (hb : b ≠ 0) : C (k + 3) 8 [rD a, rD b] st = .ok (rD (a / b)) st := by
  have h1 : l + m < 1000000 := by omega
  have hn := num_ne hb
  have e := mk_Ratio (k := k) (st := st) (t := a.num * b.den) (b := (a.den : Int) * b.num) h (Int.mul_ne_zero (den_ne a) (num_ne hb))
  rw [rq_over a hb] at e
  rw [c8]; unfold defP b8
  simp [List.replicate, take_self, x_if, h1, hn, e]
theorem rq_overI (a : Rat) {i : Int} (hi : i ≠ 0) : rq a.num ((a.den : Int) * i) = a / (i : Rat) := by
  have ha := nd_mul a
  have h1 := den_neR a
  have h2 : (i : Rat) ≠ 0 := fun h => hi (Rat.intCast_eq_zero_iff.mp h)
  unfold rq
  simp only [Rat.intCast_mul]
  generalize ((a.den : Int) : Rat) = d at *
  generalize (a.num : Rat) = n at *
  generalize (i : Rat) = j at *
  grind
theorem w_Ratio_overI {l m : Nat} {i : Int} [Bq a l] [Bd i m] (h : l + m < 8900) (hi : i ≠ 0) : C (k + 3) 8 [rD a, .int i] st = .ok (rD (a / (i : Rat))) st := by
  have h1 : l + m < 1000000 := by omega
  have e := mk_Ratio (k := k) (st := st) (t := a.num) (b := (a.den : Int) * i) h (Int.mul_ne_zero (den_ne a) hi)
  rw [rq_overI a hi] at e
  rw [c8]; unfold defP b8
  simp [List.replicate, take_self, x_if, h1, hi, e]
theorem r_over {l m : Nat} {o : Fx} {as : Fa} {env : Ev.Env} {st1 st2 : Store} [Bq a l] [Bq b m] (ho : o env st = .ok (rD a) st1) (ha : as env st1 = .ok [rD b] st2) (h : l + m < 8900) (hb : b ≠ 0) : fMth (C (k + 3)) G.dfl G.mtf "over" o as env st = .ok (rD (a / b)) st2 := by
  rw [mth_own (i := 8) (by decide +kernel) ho, ha]
  show callP (C (k + 3)) G.dfl 8 [rD a, rD b] st2 = _
  rw [cp8_2, w_Ratio_over h hb]
theorem r_overI {l m : Nat} {i : Int} {o : Fx} {as : Fa} {env : Ev.Env} {st1 st2 : Store} [Bq a l] [Bd i m] (ho : o env st = .ok (rD a) st1) (ha : as env st1 = .ok [.int i] st2) (h : l + m < 8900) (hi : i ≠ 0) : fMth (C (k + 3)) G.dfl G.mtf "over" o as env st = .ok (rD (a / (i : Rat))) st2 := by
  rw [mth_own (i := 8) (by decide +kernel) ho, ha]
  show callP (C (k + 3)) G.dfl 8 [rD a, .int i] st2 = _
  rw [cp8_2, w_Ratio_overI h hi]
end
end K34
set_option Elab.async false
set_option linter.all false
set_option maxRecDepth 100000
set_option maxHeartbeats 2000000
set_option exponentiation.threshold 20000
namespace K34
open PySem PySem.Spec L2 Ev
/-! whole roots -/
section
variable {st : Store} {k : Nat}
theorem cast_fdiv (a b : Nat) : (a : Int).fdiv (b : Int) = ((a / b : Nat) : Int) := by rw [Int.fdiv_eq_ediv_of_nonneg _ (Int.natCast_nonneg b)]; simp
theorem nt_div {h : Nat} (h0 : 0 < h) (hL : h < 2 ^ 8000) : divOk (h : Int) := by
  have : Bd (h : Int) 8000 := ⟨by rw [Int.natAbs_natCast]; exact hL⟩
  exact divOk_bd (l := 8000) (by omega) (by decide)
theorem rt_loop {n : Nat} (hn : 2 ≤ n) {call : Nat → Gb} : ∀ (F h : Nat), h < F → 0 < h → h < 2 ^ 8000 → n < (h + 1) * (h + 1) →
    ∃ s o, IsRt n s ∧ wLoop (bTr (Ev.f2 ltP (fV 2) (fV 1))) (sSeq (sPar2 1 2 (aCons (fV 2) (aCons (Ev.f2 (binO call G.dfl G.opf .FloorDiv) (Ev.f2 (binO call G.dfl G.opf .Add) (fV 2) (Ev.f2 (binO call G.dfl G.opf .FloorDiv) (fV 0) (fV 2))) (fK (.int 2))) aNil))) sNil) F [some (.int (n : Int)), some (.int (h : Int)), some (.int (((h + n / h) / 2 : Nat) : Int))] st = .nx [some (.int (n : Int)), some (.int (s : Int)), o] st
  | 0, h, hF, _, _, _ => by omega
  | F + 1, h, hF, h0, hL, hi => by
    by_cases ht : (h + n / h) / 2 < h
    · have t0 : 0 < (h + n / h) / 2 := by
        rcases Nat.lt_or_ge 1 h with g | g
        · have : 0 < (h + n / h) / 2 := by
            generalize n / h = q
            omega
          exact this
        · have e : h = 1 := by omega
          subst e
          rw [Nat.div_one]
          omega
      obtain ⟨s, o, hs, e⟩ := rt_loop hn (call := call) F ((h + n / h) / 2) (by omega) t0 (Nat.lt_trans ht hL) (newton_up h0)
      refine ⟨s, o, hs, ?_⟩
      have d2 : divOk 2 := divOk_bd (l := 2) (by decide) (by decide)
      have dt := nt_div t0 (Nat.lt_trans ht hL)
      generalize (h + n / h) / 2 = t at *
      have e1 : (bTr (Ev.f2 ltP (fV 2) (fV 1))) [some (.int (n : Int)), some (.int (h : Int)), some (.int (t : Int))] st = .ok true st := by simp [ht]
      have e2 : (sSeq (sPar2 1 2 (aCons (fV 2) (aCons (Ev.f2 (binO call G.dfl G.opf .FloorDiv) (Ev.f2 (binO call G.dfl G.opf .Add) (fV 2) (Ev.f2 (binO call G.dfl G.opf .FloorDiv) (fV 0) (fV 2))) (fK (.int 2))) aNil))) sNil) [some (.int (n : Int)), some (.int (h : Int)), some (.int (t : Int))] st = .nx [some (.int (n : Int)), some (.int (t : Int)), some (.int (((t + n / t) / 2 : Nat) : Int))] st := by
        have q : ((t : Int) + ((n / t : Nat) : Int)).fdiv 2 = (((t + n / t) / 2 : Nat) : Int) := by rw [← Int.natCast_add]; exact cast_fdiv _ 2
        rw [← q]
        simp [bq_fdiv dt, bq_fdiv d2, cast_fdiv]
      unfold wLoop
      rw [e1]
      simp only [thn_ok, e2]
      exact e
    · refine ⟨h, some (.int (((h + n / h) / 2 : Nat) : Int)), ⟨newton_dn h0 (by omega), hi⟩, ?_⟩
      unfold wLoop
      have e1 : (bTr (Ev.f2 ltP (fV 2) (fV 1))) [some (.int (n : Int)), some (.int (h : Int)), some (.int (((h + n / h) / 2 : Nat) : Int))] st = .ok false st := by
        generalize (h + n / h) / 2 = t at *
        simp; omega
      rw [e1]
      rfl
theorem bits_nat (n : Nat) : n < 2 ^ Builtin.Int.intBits (n : Int) := by
  unfold Builtin.Int.intBits
  by_cases h : n = 0
  · subst h; decide
  · rw [if_neg (by simp; omega), Int.natAbs_natCast]
    exact Nat.lt_log2_self
theorem bits_le {n l : Nat} (h : n < 2 ^ l) : Builtin.Int.intBits (n : Int) ≤ l := by
  unfold Builtin.Int.intBits
  by_cases h0 : n = 0
  · subst h0; simp
  · rw [if_neg (by simp; omega), Int.natAbs_natCast]
    exact (Nat.log2_lt h0).mpr h
theorem w_law_isqrt {n : Nat} {l : Nat} (hl : n < 2 ^ l) (h : l < 8000) : C (k + 1) 42 [.int (n : Int)] st = .ok (.int (Float64.isqrt n : Int)) st := by
  rw [c42]; unfold defP b42
  by_cases hn : n < 2
  · have e : Float64.isqrt n = n := by
      refine (isqrt_ok n).uniq ?_
      rcases Nat.lt_or_ge 0 n with g | g
      · have : n = 1 := by omega
        subst this
        exact ⟨by decide, by decide⟩
      · have : n = 0 := by omega
        subst this
        exact ⟨by decide, by decide⟩
    have hn' : (n : Int) < 2 := by omega
    simp [List.replicate, x_if, hn', take_self, e]
  · have hn' : ¬ (n : Int) < 2 := by omega
    have hb := bits_nat n
    have hb2 := bits_le hl
    generalize hB : Builtin.Int.intBits (n : Int) = B at *
    have d2 : divOk 2 := divOk_bd (l := 2) (by decide) (by decide)
    have q : ((B : Int) + 1).fdiv 2 = (((B + 1) / 2 : Nat) : Int) := by
      have := cast_fdiv (B + 1) 2
      simpa using this
    have hh : (B + 1) / 2 ≤ 4000 := by omega
    have hp : (2 : Nat) ^ ((B + 1) / 2) ≤ 2 ^ 4000 := Nat.pow_le_pow_right (by decide) hh
    have h0 : 0 < (2 : Nat) ^ ((B + 1) / 2) := Nat.pow_pos (by decide)
    have hL : (2 : Nat) ^ ((B + 1) / 2) < 2 ^ 8000 := Nat.lt_of_le_of_lt hp (Nat.pow_lt_pow_right (by decide) (by decide))
    have sh : binQ .LShift (.int 1) (.int (((B + 1) / 2 : Nat) : Int)) st = .ok (.int ((2 ^ ((B + 1) / 2) : Nat) : Int)) st := by
      have z : shlOk 1 (((B + 1) / 2 : Nat) : Int) := ⟨Int.natCast_nonneg _, by rw [Int.toNat_natCast, show (Int.natAbs 1).log2 = 0 by decide]; clear hp h0 hL hb; omega⟩
      have e : binI .LShift 1 (((B + 1) / 2 : Nat) : Int) = some ((2 ^ ((B + 1) / 2) : Nat) : Int) := by
        show (if shlOk 1 (((B + 1) / 2 : Nat) : Int) then some ((1 : Int) * 2 ^ (((B + 1) / 2 : Nat) : Int).toNat) else none) = _
        rw [if_pos z, Int.toNat_natCast, Int.one_mul]
        simp
      show (match binI .LShift 1 (((B + 1) / 2 : Nat) : Int) with | some k => Ou.ok (D.int k) st | none => .stuck) = _
      rw [e]
    have nn : n < (2 ^ ((B + 1) / 2) + 1) * (2 ^ ((B + 1) / 2) + 1) := by
      refine Nat.lt_of_lt_of_le hb ?_
      calc 2 ^ B ≤ 2 ^ ((B + 1) / 2 + (B + 1) / 2) := Nat.pow_le_pow_right (by decide) (by omega)
        _ = 2 ^ ((B + 1) / 2) * 2 ^ ((B + 1) / 2) := Nat.pow_add ..
        _ ≤ _ := Nat.mul_le_mul (Nat.le_succ _) (Nat.le_succ _)
    generalize hH : 2 ^ ((B + 1) / 2) = H at *
    have dt := nt_div h0 hL
    have q2 : ((H : Int) + ((n / H : Nat) : Int)).fdiv 2 = (((H + n / H) / 2 : Nat) : Int) := by rw [← Int.natCast_add]; exact cast_fdiv _ 2
    have hf : H < G.fuel := by
      refine Nat.lt_of_le_of_lt hp ?_
      show 2 ^ 4000 < 10 ^ 3000
      decide +kernel
    obtain ⟨s, o, hs, e⟩ := rt_loop (st := st) (n := n) (by omega) (call := C k) G.fuel H hf h0 hL nn
    rw [(isqrt_ok n).uniq hs]
    have bb : (fBits (fV 0)) [some (.int (n : Int)), none, none] st = .ok (.int (B : Int)) st := by rw [← hB]; rfl
    have sh' : binQ .LShift (.int 1) (.int (((B : Int) + 1) / 2)) st = .ok (.int (H : Int)) st := by
      rw [show ((B : Int) + 1) / 2 = (((B + 1) / 2 : Nat) : Int) by omega]
      exact sh
    have q3 : ((H : Int) + (n : Int) / (H : Int)) / 2 = (((H + n / H) / 2 : Nat) : Int) := by simp
    have q4 : ((B : Int) + 1).fdiv 2 = ((B : Int) + 1) / 2 := Int.fdiv_eq_ediv_of_nonneg _ (by decide)
    have q5 : ((H : Int) + (n : Int) / (H : Int)).fdiv 2 = (((H + n / H) / 2 : Nat) : Int) := by rw [Int.fdiv_eq_ediv_of_nonneg _ (by decide)]; exact q3
    generalize (H + n / H) / 2 = t at *
    simp [List.replicate, x_if, hn', take_self, bb, bq_fdiv d2, sh', bq_fdiv dt, cast_fdiv, q3, q4, q5, e]
def oI : Option Int → D
  | none => .non
  | some i => .int i
theorem isqrt_le (n : Nat) : Float64.isqrt n ≤ n := by
  have h := (isqrt_ok n).1
  rcases Nat.eq_zero_or_pos (Float64.isqrt n) with g | g
  · omega
  · exact Nat.le_trans (Nat.le_mul_of_pos_left _ g) h
theorem bd_isqrt {n l : Nat} (h : n < 2 ^ l) : Bd (Float64.isqrt n : Int) l := ⟨by rw [Int.natAbs_natCast]; exact Nat.lt_of_le_of_lt (isqrt_le n) h⟩
theorem w_law_root {n : Int} {l : Nat} [c : Bd n l] (h : l < 8000) : C (k + 2) 43 [.int n] st = .ok (oI (sqI n)) st := by
  rw [c43]; unfold defP b43 sqI
  by_cases h0 : n < 0
  · simp [List.replicate, x_if, h0, take_self, oI]
  · obtain ⟨m, rfl⟩ : ∃ m : Nat, n = (m : Int) := ⟨n.toNat, by omega⟩
    have hm : m < 2 ^ l := by have := c.h; rwa [Int.natAbs_natCast] at this
    have e := w_law_isqrt (k := k) (st := st) hm h
    have := bd_isqrt hm
    have h1 : (l + 1) * 2 ≤ 1000000 := by omega
    by_cases h2 : ((Float64.isqrt m : Nat) : Int) ^ 2 = m <;> simp [List.replicate, x_if, h0, take_self, e, h1, h2, oI]
theorem w_square_root_of {n : Int} {l : Nat} [c : Bd n l] (h : l < 8000) : C (k + 1) 18 [.int n] st = .ok (oI (sqI n)) st := by
  rw [c18]; unfold defP b18 sqI
  by_cases h0 : n < 0
  · simp [List.replicate, x_if, h0, take_self, oI]
  · obtain ⟨m, rfl⟩ : ∃ m : Nat, n = (m : Int) := ⟨n.toNat, by omega⟩
    have hm : m < 2 ^ l := by have := c.h; rwa [Int.natAbs_natCast] at this
    have := bd_isqrt hm
    have e : gIsqrt [.int (m : Int)] st = .ok (.int (Float64.isqrt m : Int)) st := by
      have z : m.log2 < 13400 := by
        by_cases z : m = 0
        · subst z; decide
        · have := (Nat.log2_lt z).mpr hm; omega
      exact if_pos (show 0 ≤ (m : Int) ∧ (m : Int).toNat.log2 < 13400 from ⟨by omega, by rw [Int.toNat_natCast]; exact z⟩)
    have h1 : l + l < 1000000 := by omega
    by_cases h2 : ((Float64.isqrt m : Nat) : Int) * (Float64.isqrt m : Nat) = m <;> simp [List.replicate, x_if, h0, take_self, e, h1, h2, oI, Int.pow_succ]
end
end K34
set_option Elab.async false
set_option linter.all false
set_option maxRecDepth 100000
set_option maxHeartbeats 2000000
set_option exponentiation.threshold 20000
namespace K34
open PySem PySem.Spec L2 Ev
/-! curves of forms -/
section
variable {k : Nat} {st : Store} {d : D} {a b : Int} {l m : Nat}
theorem w_is_row (h : kdOf st d = some .lst ∨ kdOf st d = some .tup) : C (k + 1) 1 [d] st = .ok (.bl true) st := by
  rw [c1]; exact isrow_yes h
theorem w_is_row_no (h : kdOf st d = some .non ∨ kdOf st d = some .int ∨ kdOf st d = some .str ∨ kdOf st d = some .bl) : C (k + 1) 1 [d] st = .ok (.bl false) st := by
  rw [c1]; exact isrow_no h
/-- the numbers of a form's curve -/
def nsD (a b : Int) : List D := [.int 0, .int a, .int 0, .int b, .int 0]
def bD (a b : Int) : List D := [.int (a * 4), .int (b * 2), .int 0, .int (-(b * b))]
@[simp] theorem itup {i : Nat} {xs : List D} {env : Ev.Env} (h : env[i]? = some (some (.tup xs))) : iSeq (fV i) env st = .ok (xs, none) st := by simp [h]
theorem lc_int (c v : Nat) {xs : List D} {o : Option Nat} {e0 e1 : Ev.Env} (hx : xs.all plainK = true) (hl : xs.length < 1000) (ho : iSeq (fV c) e0 st = .ok (xs, o) st) (hw : ∀ more, wB (xs, o) (st ++ more) = true) (he : ∀ x, (wipeD e0 [v]).set v (some x) = e1.set v (some x)) (hv : v < e1.length) :
    lComp (.nm v) [v] (iSeq (fV c)) bYes (fB (callP (C (k + 1)) G.dfl 0) (aCons (fV v) aNil)) e0 st = .ok (xs.map fun x => .bl (isI x)) st := by
  refine lComp_map (wk := (xs, o)) (fun x => .bl (isI x)) ho (fun acc => hw _) (by rw [size_line]; show xs.length < _; omega) fun x hx' s hs => ?_
  have hp := List.all_eq_true.mp hx x hx'
  refine ⟨e1.set v (some x), by rw [← he]; exact pt_nm, rfl, ?_, rfl⟩
  simp [w_is_integer hp, hv]
theorem w_b_numbers [Bd a 20] [Bd b 20] : C (k + 1) 15 [.tup (nsD a b)] st = .ok (.tup (bD a b)) st := by
  rw [c15]; unfold defP b15 nsD bD
  simp [List.replicate, take_self, size_line, Int.zero_sub]
theorem w_c_numbers [Bd a 20] [Bd b 20] : ∃ x y : Int, C (k + 1) 16 [.tup (bD a b)] st = .ok (.tup [.int x, .int y]) st := by
  rw [c16]; unfold defP b16 bD
  refine ⟨a * 4 * (a * 4) - b * 2 * 24, a * 4 * (b * 2) * 36 - a * 4 * (a * 4) * (a * 4), ?_⟩
  simp [List.replicate, take_self, size_line]
theorem w_discriminant_of [Bd a 20] [Bd b 20] : C (k + 1) 17 [.tup (bD a b)] st = .ok (.int (16 * (b * b * (a * a - b * 4)))) st := by
  have e : (16 * (b * b * (a * a - b * 4))) = (-(a * 4 * (a * 4) * -(b * b)) - b * 2 * (b * 2) * (b * 2) * 8) := by grind
  rw [c17, e]; unfold defP b17 bD
  simp [List.replicate, take_self, size_line, Int.zero_sub]
theorem fm_disc (h : Fm a b) : (16 * (b * b * (a * a - b * 4))) ≠ 0 := by
  intro z
  have h1 : b * b * (a * a - b * 4) = 0 := by omega
  rw [Int.mul_assoc] at h1
  rcases Int.mul_eq_zero.mp h1 with e | e
  · exact h (by rw [e, Int.zero_mul])
  · exact h e
/-- a form's curve -/
structure Cv (a b : Int) (d : D) : Prop where
  ex : ∃ fs, d = .obj 6 fs ∧ getF 7 fs = some (.tup (nsD a b))
theorem w_Curve_init {p : Nat} (hp : st[p]? = some (.ins 6 [])) [Bd a 20] [Bd b 20] (h : Fm a b) : ∃ fs, getF 7 fs = some (.tup (nsD a b)) ∧ C (k + 2) 13 [.ref p, .tup (nsD a b)] st = .ok .non (st.set p (.ins 6 fs)) := by
  have hpl : p < st.length := (List.getElem?_eq_some_iff.mp hp).1
  have hc := lc_int (k := k) (st := st) 1 2 (xs := nsD a b) (o := none) (e0 := [some (.ref p), some (.tup (nsD a b)), none]) (e1 := [some (.ref p), some (.tup (nsD a b)), none]) rfl (by simp [nsD]) rfl (fun _ => rfl) (fun _ => rfl) (by simp)
  have hg : gAll [.lst ((nsD a b).map fun x => .bl (isI x))] st = .ok (.bl true) st := rfl
  obtain ⟨x, y, ec⟩ := w_c_numbers (k := k) (st := st.set p (.ins 6 [(7, .tup (nsD a b)), (8, .tup (bD a b))])) (a := a) (b := b)
  have h1 := w_is_row (k := k) (st := st) (d := .tup (nsD a b)) (.inr rfl)
  have gl : ((nsD a b).length : Int) = 5 := rfl
  have gt : gTup [.tup (nsD a b)] st = .ok (.tup (nsD a b)) st := rfl
  have fd := fm_disc h
  have eb := w_b_numbers (k := k) (st := st.set p (.ins 6 [(7, .tup (nsD a b))])) (a := a) (b := b)
  have ed := w_discriminant_of (k := k) (st := st.set p (.ins 6 [(7, .tup (nsD a b)), (8, .tup (bD a b)), (9, .tup [.int x, .int y])])) (a := a) (b := b)
  generalize 16 * (b * b * (a * a - b * 4)) = dd at *
  refine ⟨[(7, .tup (nsD a b)), (8, .tup (bD a b)), (9, .tup [.int x, .int y]), (10, .int dd)], rfl, ?_⟩
  rw [c13]; unfold defP b13
  simp [List.replicate, x_if, h1, hc, hg, gl, gt, putA_ok hp, putA_ok (List.getElem?_set_self hpl), setF, att_ref (List.getElem?_set_self hpl), getF, set_take, eb, ec, ed, fd]
theorem w_curve_of_form [Bd a 20] [Bd b 20] (h : Fm a b) : ∃ d, Cv a b d ∧ C (k + 3) 21 [.tup [.int a, .int b]] st = .ok d st := by
  obtain ⟨fs, h1, e⟩ := w_Curve_init (k := k) (st := st ++ [.ins 6 []]) (p := st.length) (a := a) (b := b) (by simp) h
  refine ⟨.obj 6 fs, ⟨fs, rfl, h1⟩, ?_⟩
  have m : makeP (C (k + 2)) G.dfl G.ini 6 [.tup (nsD a b)] st = .ok (.obj 6 fs) st := by
    refine make_ok (i := 13) (by decide +kernel) ?_
    rw [cp13_2, e]
    simp
  rw [c21]; unfold defP b21
  unfold nsD at m
  simp [List.replicate, take_self, size_line, m]
theorem w_is_form {d : D} [Bd a 20] [Bd b 20] (hd : d = .tup [.int a, .int b] ∨ d = .lst [.int a, .int b]) : C (k + 2) 19 [d] st = .ok (.bl (decide (b * (a * a - b * 4) ≠ 0))) st := by
  have rv : RowV st d [.int a, .int b] := by
    rcases hd with e | e <;> subst e
    · exact .tup
    · exact .lst
  have h1 := w_is_row (k := k) rv.kd
  have gl := rv.len
  have hit : iSeq (fV 0) [some d, none] st = .ok ([.int a, .int b], none) st := by rcases hd with e | e <;> subst e <;> rfl
  have hc := lc_int (k := k) (st := st) 0 1 (xs := [.int a, .int b]) (o := none) (e0 := [some d, none]) (e1 := [some d, none]) rfl (by simp) hit (fun _ => rfl) (fun _ => rfl) (by simp)
  have hg : gAll [.lst [.bl (isI (.int a)), .bl (isI (.int b))]] st = .ok (.bl true) st := rfl
  have i0 : ixP d (.int 0) st = .ok (.int a) st := by rcases hd with e | e <;> subst e <;> rfl
  have i1 : ixP d (.int 1) st = .ok (.int b) st := by rcases hd with e | e <;> subst e <;> rfl
  rw [c19]; unfold defP b19
  simp [List.replicate, x_if, h1, hc, hg, gl, i0, i1, take_self]
theorem w_need_form {d : D} [Bd a 20] [Bd b 20] (hd : d = .tup [.int a, .int b] ∨ d = .lst [.int a, .int b]) (h : Fm a b) : C (k + 3) 20 [d] st = .ok (.tup [.int a, .int b]) st := by
  have e := w_is_form (k := k) (st := st) hd
  have gt : gTup [d] st = .ok (.tup [.int a, .int b]) st := by rcases hd with e | e <;> subst e <;> rfl
  rw [show decide (b * (a * a - b * 4) ≠ 0) = true from decide_eq_true h] at e
  rw [c20]; unfold defP b20
  simp [List.replicate, x_if, e, gt, take_self]
/-- a point as the program holds it -/
def pD : Option (Rat × Rat) → D
  | none => .non
  | some (x, y) => .tup [rD x, rD y]
/-- a point's size -/
def Sz (n m : Nat) : Option (Rat × Rat) → Prop
  | none => True
  | some (x, y) => Bq x n ∧ Bq y m
end
end K34
set_option Elab.async false
set_option linter.all false
set_option maxRecDepth 100000
set_option maxHeartbeats 2000000
set_option exponentiation.threshold 20000
namespace K34
open PySem PySem.Spec L2 Ev
/-! points, the program's side -/
section
variable {k : Nat} {st : Store} {d : D} {a b : Int} {x y : Rat}
@[simp] theorem sim_ret {p : Option (Rat × Rat)} {kp : Bool} {n : Nat} {s : Store} : retP kp n (pD p) s = .ok (pD p) (s.take n) := by cases p <;> rfl
@[simp] theorem frz_pD {p : Option (Rat × Rat)} {s : Store} : frz (pD p) s = some (pD p, s) := by cases p <;> rfl
theorem r_mul0 {l : Nat} [Bq x l] (h : l < 8000) : binO (C (k + 3)) G.dfl G.opf .Mult (rD x) (.int 0) st = .ok (rD 0) st := by
  have e := r_mulI (k := k) (st := st) (a := x) (i := 0) (l := l) (m := 0) (by omega)
  rw [e, show ((0 : Int) : Rat) = 0 from rfl, Rat.mul_zero]
theorem r_add0 {l : Nat} [Bq x l] (h : l < 8000) : binO (C (k + 3)) G.dfl G.opf .Add (rD x) (.int 0) st = .ok (rD x) st := by
  have e := r_addI (k := k) (st := st) (a := x) (i := 0) (l := l) (m := 0) (by omega)
  rw [e, show ((0 : Int) : Rat) = 0 from rfl, Rat.add_zero]
theorem w_lies_on (h : Cv a b d) [Bd a 20] [Bd b 20] [Bq x 880] [Bq y 1120] : C (k + 4) 22 [d, rD x, rD y] st = .ok (.bl (decide (y * y = x * (b + x * (a + x))))) st := by
  obtain ⟨fs, rfl, hf⟩ := h.ex
  have att : attP G.ao 7 (.obj 6 fs) st = .ok (.tup (nsD a b)) st := att_obj hf (by decide +kernel)
  have e : decide (y * y = x * (b + x * (a + x))) = decide (y * y = x * x * x + x * x * (a : Rat) + x * (b : Rat)) := decide_eq_decide.mpr (by
    rw [show x * (b + x * (a + x)) = x * x * x + x * x * (a : Rat) + x * (b : Rat) by grind])
  rw [c22, e]; unfold defP b22
  simp [List.replicate, take_self, att, nsD, r_mul, r_mul0, r_add, r_add0, r_mulI, eq_rD, Rat.add_zero]
theorem w_is_number_r : C (k + 2) 9 [rD x] st = .ok (.bl true) st := by
  rw [c9]; unfold defP b9
  simp [List.replicate, take_self]
theorem w_plain_r : C (k + 2) 10 [rD x] st = .ok (rD x) st := by
  rw [c10]; unfold defP b10
  simp [List.replicate, take_self]
theorem w_pair_of : C (k + 3) 23 [.tup [rD x, rD y]] st = .ok (.tup [rD x, rD y]) st := by
  have h1 := w_is_row (k := k + 1) (st := st) (d := .tup [rD x, rD y]) (.inr rfl)
  have hc : lComp (.nm 1) [1] (iSeq (fV 0)) bYes (fB (callP (C (k + 2)) G.dfl 9) (aCons (fV 1) aNil)) [some (.tup [rD x, rD y]), none] st = .ok ([rD x, rD y].map fun _ => .bl true) st := by
    refine lComp_map (wk := ([rD x, rD y], none)) (fun _ => .bl true) rfl (fun acc => rfl) (by rw [size_line]; show 2 < _; omega) fun x' hx' s hs => ?_
    refine ⟨[some (.tup [rD x, rD y]), some x'], by simp [wipeD], rfl, ?_, rfl⟩
    have : ∃ z, x' = rD z := by simp at hx'; rcases hx' with e | e <;> exact ⟨_, e⟩
    obtain ⟨z, rfl⟩ := this
    simp [w_is_number_r]
  have hg : gAll [.lst [.bl true, .bl true]] st = .ok (.bl true) st := rfl
  rw [c23]; unfold defP b23
  simp [List.replicate, x_if, h1, hc, hg, take_self, w_plain_r, size_line]
theorem isn_tup {xs : List D} : isQ (.tup xs) .non st = .ok (.bl false) st := rfl
theorem isn_non : isQ .non .non st = .ok (.bl true) st := rfl
theorem isnn_tup {xs : List D} : isnQ (.tup xs) .non st = .ok (.bl true) st := rfl
theorem isnn_non : isnQ .non .non st = .ok (.bl false) st := rfl
theorem w_need_point {p : Option (Rat × Rat)} (h : Cv a b d) [Bd a 20] [Bd b 20] (hp : On a b p) (hs : Sz 880 1120 p) : C (k + 5) 24 [d, pD p] st = .ok (pD p) st := by
  rw [c24]; unfold defP b24
  cases p with
  | none => simp [List.replicate, x_if, pD, isn_non, take_self]
  | some q =>
    obtain ⟨x, y⟩ := q
    have := hs.1
    have := hs.2
    have e := w_lies_on (k := k) (st := st) (x := x) (y := y) h
    rw [show decide (y * y = x * (b + x * (a + x))) = true from decide_eq_true hp] at e
    obtain ⟨fs, rfl, hf⟩ := h.ex
    simp [List.replicate, x_if, pD, isn_tup, take_self, w_pair_of, e]
theorem num_zero {x : Rat} : decide (x.num = 0) = decide (x = 0) := decide_eq_decide.mpr Rat.num_eq_zero
theorem w_is_first : C (k + 1) 26 [.tup [rD x, rD y]] st = .ok (.bl (decide (x = 0))) st := by
  rw [c26, ← num_zero]; unfold defP b26
  simp [List.replicate, isnn_tup, take_self]
theorem w_partner_of [Bd a 20] [Bd b 20] : C (k + 1) 27 [.tup [.int a, .int b]] st = .ok (.tup [.int (-2 * a), .int (a * a - b * 4)]) st := by
  rw [c27]; unfold defP b27
  simp [List.replicate, take_self, size_line]
end
end K34
set_option Elab.async false
set_option linter.all false
set_option maxRecDepth 100000
set_option maxHeartbeats 2000000
set_option exponentiation.threshold 20000
namespace K34
open PySem PySem.Spec L2 Ev
/-! there, back and roots, the program's side -/
def mthO (call : Nat → Gb) (dfl : Nat → Nat → Option (List D)) (mtf : Nat → Str → Option Nat) (m : Str) (a : D) (st1 : Store) (r : Ou (List D)) : Oe := match objD st1 a with
  | some (c, _) => (match mtf c m with
    | some i => r.bind fun ds st2 => callP call dfl i (a :: ds) st2
    | none => .stuck)
  | none => .stuck
section
variable {k : Nat} {st : Store} {d : D} {a b : Int} {x y : Rat}
theorem x_mth {call : Nat → Gb} {dfl : Nat → Nat → Option (List D)} {mtf : Nat → Str → Option Nat} {m : Str} {o : Fx} {as : Fa} {env : Ev.Env} : fMth call dfl mtf m o as env st = (o env st).bind fun a st1 => mthO call dfl mtf m a st1 (as env st1) := rfl
theorem mth_over {ds : List D} {st2 : Store} {call : Nat → Gb} : mthO call G.dfl G.mtf "over" (rD x) st (.ok ds st2) = callP call G.dfl 8 (rD x :: ds) st2 := by
  have e : objD st (D.obj 5 (rF x)) = some (5, rF x) := rfl
  have h : G.mtf 5 "over" = some 8 := by decide +kernel
  simp only [mthO, rD, e, h, bind_ok]
theorem o_over {l m : Nat} {st2 : Store} [Bq x l] [Bq y m] (h : l + m < 8900) (hb : y ≠ 0) : mthO (C (k + 3)) G.dfl G.mtf "over" (rD x) st (.ok [rD y] st2) = .ok (rD (x / y)) st2 := by
  rw [mth_over, cp8_2, w_Ratio_over h hb]
theorem o_over2 {l : Nat} {st2 : Store} [Bq x l] (h : l < 8800) : mthO (C (k + 3)) G.dfl G.mtf "over" (rD x) st (.ok [.int 2] st2) = .ok (rD (x / 2)) st2 := by
  rw [mth_over, cp8_2, w_Ratio_overI (l := l) (m := 2) (by omega) (by decide)]
  rfl
theorem r_mul2 {l : Nat} [Bq x l] (h : l < 8800) : binO (C (k + 3)) G.dfl G.opf .Mult (rD x) (.int 2) st = .ok (rD (x * 2)) st := r_mulI (m := 2) (by omega)
theorem r_mul4 {l : Nat} [Bq x l] (h : l < 8800) : binO (C (k + 3)) G.dfl G.opf .Mult (rD x) (.int 4) st = .ok (rD (x * 4)) st := r_mulI (m := 3) (by omega)
theorem r_mul8 {l : Nat} [Bq x l] (h : l < 8800) : binO (C (k + 3)) G.dfl G.opf .Mult (rD x) (.int 8) st = .ok (rD (x * 8)) st := r_mulI (m := 4) (by omega)
theorem sz_some {n m : Nat} (h : Sz n m (some (x, y))) : Bq x n ∧ Bq y m := h
theorem w_there_of {p : Pnt} [Bd a 20] [Bd b 20] (hs : Sz 880 1120 p) : C (k + 4) 28 [.tup [.int a, .int b], pD p] st = .ok (pD (thereF b p)) st := by
  rw [c28]; unfold defP b28
  cases p with
  | none => simp [List.replicate, x_if, pD, isn_non, take_self, thereF]
  | some q =>
    obtain ⟨x, y⟩ := q
    obtain ⟨_, _⟩ := sz_some hs
    by_cases hx : x = 0
    · simp [List.replicate, x_if, pD, isn_tup, take_self, w_is_first, hx, thereF]
    · have h2 : x * x ≠ 0 := mul_ne hx hx
      have e : y * (b - x * x) / (x * x) = y * ((b - x * x) / (x * x)) := by rw [Rat.div_def, Rat.div_def, Rat.mul_assoc]
      simp [List.replicate, x_if, pD, isn_tup, take_self, w_is_first, hx, thereF, size_line, r_mul, x_mth, o_over, h2, mk_Ratio1, r_sub, e]
theorem w_back_of {p : Pnt} [Bd a 20] [Bd b 20] (hs : Sz 880 1120 p) : C (k + 4) 30 [.tup [.int a, .int b], pD p] st = .ok (pD (backF a b p)) st := by
  rw [c30]; unfold defP b30
  cases p with
  | none => simp [List.replicate, x_if, pD, isn_non, take_self, backF]
  | some q =>
    obtain ⟨x, y⟩ := q
    obtain ⟨_, _⟩ := sz_some hs
    by_cases hx : x = 0
    · simp [List.replicate, x_if, pD, isn_tup, take_self, w_is_first, hx, backF]
    · have h2 : x * x * 4 ≠ 0 := mul_ne (mul_ne hx hx) (by decide)
      have h3 : x * x * 8 ≠ 0 := mul_ne (mul_ne hx hx) (by decide)
      have e0 : ((a * a - b * 4 : Int) : Rat) = (a : Rat) * a - 4 * b := by rw [Int.mul_comm b 4, cast_b]
      have e1 : y * y / (4 * (x * x)) = y * y / (x * x * 4) := by rw [Rat.mul_comm 4]
      have e : y * ((a : Rat) * a - 4 * b - x * x) / (8 * (x * x)) = y * ((((a * a - b * 4 : Int) : Rat) - x * x) / (x * x * 8)) := by rw [e0, Rat.mul_comm 8, Rat.div_def, Rat.div_def, Rat.mul_assoc]
      have bi : Bd (a * a - b * 4) 41 := (inferInstance : Bd (a * a - b * 4) (max (20 + 20) (20 + 3) + 1)).mono (by decide)
      generalize hB : a * a - b * 4 = B at *
      have ep : C (k + 3) 27 [.tup [.int a, .int b]] st = .ok (.tup [.int (-2 * a), .int B]) st := by rw [← hB]; exact w_partner_of
      simp [List.replicate, x_if, pD, isn_tup, take_self, w_is_first, hx, backF, size_line, r_mul, x_mth, o_over, h2, h3, mk_Ratio1, r_sub, e, e1, r_mul4, r_mul8, ep]
theorem sgn_lt {i : Int} : decide (sg i < 0) = decide (i < 0) := by
  unfold sg
  refine decide_eq_decide.mpr ?_
  by_cases h : 0 < i
  · rw [if_pos h, if_neg (by omega)]; omega
  · rw [if_neg h]
    by_cases h2 : i < 0
    · rw [if_pos h2]; omega
    · rw [if_neg h2]; omega
def oQ : Option Rat → D
  | none => .non
  | some r => rD r
theorem g_isqrt {n l : Nat} (h : n < 2 ^ l) (hl : l < 8000) : gIsqrt [.int (n : Int)] st = .ok (.int (Float64.isqrt n : Int)) st := by
  have z : n.log2 < 13400 := by
    by_cases z : n = 0
    · subst z; decide
    · have := (Nat.log2_lt z).mpr h; omega
  exact if_pos (show 0 ≤ (n : Int) ∧ (n : Int).toNat.log2 < 13400 from ⟨by omega, by rw [Int.toNat_natCast]; exact z⟩)
theorem w_root_of_ratio {l : Nat} [c : Bq x l] (h : l < 4000) : C (k + 3) 12 [rD x] st = .ok (oQ (sqQ x)) st := by
  rw [c12]; unfold defP b12
  have hsg := sgn_lt (i := x.num)
  by_cases h0 : x.num < 0
  · have hsg : sg x.num < 0 := by simp [h0] at hsg; exact hsg
    have e : sqQ x = none := by unfold sqQ sqI; rw [if_pos (.inl h0)]
    simp [List.replicate, x_if, take_self, hsg, e, oQ]
  · have hsg : ¬ sg x.num < 0 := by simp [h0] at hsg; omega
    obtain ⟨m, hm⟩ : ∃ m : Nat, x.num = (m : Int) := ⟨x.num.toNat, by omega⟩
    have hm2 : m < 2 ^ l := by have := c.n; rwa [hm, Int.natAbs_natCast] at this
    have e1 := g_isqrt (st := st) hm2 (by omega)
    have e2 := g_isqrt (st := st) c.d (by omega)
    have b1 := bd_isqrt hm2
    have b2 := bd_isqrt c.d
    have h1 : l + l < 1000000 := by omega
    have d0 : ¬ (x.den : Int) < 0 := by omega
    have p2 : ∀ z : Int, z ^ 2 = z * z := fun z => by rw [Int.pow_succ, Int.pow_succ, Int.pow_zero, Int.one_mul]
    unfold sqQ sqI
    have m0 : ¬ (m : Int) < 0 := by omega
    have hsm : ¬ sg (m : Int) < 0 := by rw [← hm]; exact hsg
    rw [hm, Int.toNat_natCast, Int.toNat_natCast, p2, p2]
    by_cases h2 : ((Float64.isqrt m : Nat) : Int) * (Float64.isqrt m : Nat) = m
    · by_cases h3 : ((Float64.isqrt x.den : Nat) : Int) * (Float64.isqrt x.den : Nat) = x.den
      · have t0 : ((Float64.isqrt x.den : Nat) : Int) ≠ 0 := fun z => by rw [z] at h3; have := den_ne x; omega
        have mk := mk_Ratio (k := k) (st := st) (t := (Float64.isqrt m : Nat)) (b := (Float64.isqrt x.den : Nat)) (l := l) (by omega) t0
        simp [List.replicate, x_if, take_self, hsg, hm, e1, e2, h1, h2, h3, mk, oQ, d0, m0, hsm]
      · simp [List.replicate, x_if, take_self, hsg, hm, e1, e2, h1, h2, h3, oQ, d0, m0, hsm]
    · simp [List.replicate, x_if, take_self, hsg, hm, e1, e2, h1, h2, oQ, d0, m0, hsm]
end
end K34
set_option Elab.async false
set_option linter.all false
set_option maxRecDepth 100000
set_option maxHeartbeats 2000000
set_option exponentiation.threshold 20000
namespace K34
open PySem PySem.Spec L2 Ev
/-! points in order, the program's side -/
section
variable {k : Nat} {st : Store} {d : D} {a b : Int} {x y x2 y2 : Rat}
theorem wB_none {xs : List D} {s : Store} : wB (xs, none) s = true := rfl
theorem lcm_bd {L l c : Nat} [h : Bd (L : Int) c] [g : Bq x l] : Bd ((Nat.lcm L x.den : Nat) : Int) (c + l) := ⟨by
  rw [Int.natAbs_natCast]
  have h1 := h.h
  rw [Int.natAbs_natCast] at h1
  rw [Nat.pow_add]
  exact Nat.lt_of_le_of_lt (Nat.div_le_self _ _) (Nat.mul_lt_mul'' h1 g.d)⟩
theorem sb_step {L c l : Nat} {r : D} [h : Bd (L : Int) c] [g : Bq x l] (hc : c < 9000) (hl : l < 8000) : b11_l1 (C k) [some r, some (.int (L : Int)), some (rD x)] st = .nx [some r, some (.int ((Nat.lcm L x.den : Nat) : Int)), some (rD x)] st := by
  have h1 : c + l < 1000000 := by omega
  have dv : divOk ((Nat.gcd L x.den : Nat) : Int) := by
    have hd := Nat.pos_of_ne_zero x.den_nz
    have hg : Nat.gcd L x.den < 2 ^ 8000 := Nat.lt_of_le_of_lt (Nat.gcd_le_right _ hd) (Nat.lt_of_lt_of_le g.d (Nat.pow_le_pow_right (by decide) (by omega)))
    exact nt_div (Nat.gcd_pos_of_pos_right _ hd) hg
  have e : ((L : Int) * (x.den : Int)).fdiv ((Nat.gcd L x.den : Nat) : Int) = ((Nat.lcm L x.den : Nat) : Int) := by
    rw [← Int.natCast_mul, cast_fdiv]
    rfl
  unfold b11_l1
  simp [h1, bq_fdiv dv, e]
instance bd_n1 : Bd ((1 : Nat) : Int) 1 := ⟨by decide⟩
def L4 (x y x2 y2 : Rat) : Nat := Nat.lcm (Nat.lcm (Nat.lcm (Nat.lcm 1 x.den) y.den) x2.den) y2.den
theorem w_shared_bottom [Bq x 880] [Bq y 1120] [Bq x2 880] [Bq y2 1120] : C (k + 1) 11 [.lst [rD x, rD y, rD x2, rD y2]] st = .ok (.int (L4 x y x2 y2 : Nat)) st := by
  have b1 : Bd ((Nat.lcm 1 x.den : Nat) : Int) 881 := lcm_bd (c := 1) (l := 880)
  have b2 : Bd ((Nat.lcm (Nat.lcm 1 x.den) y.den : Nat) : Int) 2001 := lcm_bd (c := 881) (l := 1120)
  have b3 : Bd ((Nat.lcm (Nat.lcm (Nat.lcm 1 x.den) y.den) x2.den : Nat) : Int) 2881 := lcm_bd (c := 2001) (l := 880)
  have e1 := sb_step (k := k) (st := st) (x := x) (L := 1) (r := .lst [rD x, rD y, rD x2, rD y2]) (by decide) (by decide)
  have e2 := sb_step (k := k) (st := st) (x := y) (L := Nat.lcm 1 x.den) (r := .lst [rD x, rD y, rD x2, rD y2]) (by decide) (by decide)
  have e3 := sb_step (k := k) (st := st) (x := x2) (L := Nat.lcm (Nat.lcm 1 x.den) y.den) (r := .lst [rD x, rD y, rD x2, rD y2]) (by decide) (by decide)
  have e4 := sb_step (k := k) (st := st) (x := y2) (L := Nat.lcm (Nat.lcm (Nat.lcm 1 x.den) y.den) x2.den) (r := .lst [rD x, rD y, rD x2, rD y2]) (by decide) (by decide)
  have e1' : b11_l1 (C k) [some (.lst [rD x, rD y, rD x2, rD y2]), some (.int 1), some (rD x)] st = _ := e1
  rw [c11]; unfold defP b11
  simp only [List.length_cons, List.length_nil, List.map_cons, List.map_nil, List.replicate, List.cons_append, List.nil_append]
  simp only [Nat.lcm_one_left] at e1' e2 e3 e4
  simp [List.replicate, take_self, e1', e2, e3, e4, L4]
theorem L4_bd [h1 : Bq x 880] [h2 : Bq y 1120] [h3 : Bq x2 880] [h4 : Bq y2 1120] : Bd ((L4 x y x2 y2 : Nat) : Int) 4001 := by
  have b1 : Bd ((Nat.lcm 1 x.den : Nat) : Int) 881 := lcm_bd (c := 1) (l := 880)
  have b2 : Bd ((Nat.lcm (Nat.lcm 1 x.den) y.den : Nat) : Int) 2001 := lcm_bd (c := 881) (l := 1120)
  have b3 : Bd ((Nat.lcm (Nat.lcm (Nat.lcm 1 x.den) y.den) x2.den : Nat) : Int) 2881 := lcm_bd (c := 2001) (l := 880)
  exact lcm_bd (c := 2881) (l := 1120)
/-- a point's number over a shared bottom -/
def key (L : Nat) (x : Rat) : Int := x.num * ((L : Int).fdiv (x.den : Int))
theorem key_eq {L : Nat} (h : x.den ∣ L) : ((key L x : Int) : Rat) = x * ((L : Int) : Rat) := by
  obtain ⟨q, rfl⟩ := h
  unfold key
  rw [cast_fdiv, Nat.mul_div_cancel_left _ (Nat.pos_of_ne_zero x.den_nz), Rat.intCast_mul, Int.natCast_mul, Rat.intCast_mul, ← nd_mul x]
  grind
theorem key_lt {L : Nat} (hL : 0 < L) (h : x.den ∣ L) (h2 : y.den ∣ L) : (key L x < key L y) ↔ x < y := by
  have e1 := key_eq h
  have e2 := key_eq h2
  have hp : (0 : Rat) < ((L : Int) : Rat) := by
    have : ((0 : Int) : Rat) < ((L : Int) : Rat) := Rat.intCast_lt_intCast.mpr (by omega)
    exact this
  rw [← Rat.intCast_lt_intCast, e1, e2]
  exact Rat.mul_lt_mul_right hp
theorem key_inj {L : Nat} (hL : 0 < L) (h : x.den ∣ L) (h2 : y.den ∣ L) : (key L x = key L y) ↔ x = y := by
  have e1 := key_eq h
  have e2 := key_eq h2
  have hp : ((L : Int) : Rat) ≠ 0 := fun z => by have := Rat.intCast_eq_zero_iff.mp z; omega
  refine ⟨fun e => ?_, fun e => by rw [e]⟩
  rw [e] at e1
  rw [e1] at e2
  generalize ((L : Int) : Rat) = M at *
  grind
theorem L4_pos : 0 < L4 x y x2 y2 := Nat.lcm_pos (Nat.lcm_pos (Nat.lcm_pos (Nat.lcm_pos (by decide) (Nat.pos_of_ne_zero x.den_nz)) (Nat.pos_of_ne_zero y.den_nz)) (Nat.pos_of_ne_zero x2.den_nz)) (Nat.pos_of_ne_zero y2.den_nz)
theorem L4_1 : x.den ∣ L4 x y x2 y2 := Nat.dvd_trans (Nat.dvd_trans (Nat.dvd_trans (Nat.dvd_lcm_right 1 x.den) (Nat.dvd_lcm_left _ y.den)) (Nat.dvd_lcm_left _ x2.den)) (Nat.dvd_lcm_left _ y2.den)
theorem L4_2 : y.den ∣ L4 x y x2 y2 := Nat.dvd_trans (Nat.dvd_trans (Nat.dvd_lcm_right _ y.den) (Nat.dvd_lcm_left _ x2.den)) (Nat.dvd_lcm_left _ y2.den)
theorem L4_3 : x2.den ∣ L4 x y x2 y2 := Nat.dvd_trans (Nat.dvd_lcm_right _ x2.den) (Nat.dvd_lcm_left _ y2.den)
theorem L4_4 : y2.den ∣ L4 x y x2 y2 := Nat.dvd_lcm_right _ y2.den
def swp (L : Nat) (x y x2 y2 : Rat) : Bool := if key L x2 = key L x then decide (key L y2 < key L y) else decide (key L x2 < key L x)
theorem sort2 {i j i2 j2 : Int} : gSort [.lst [.tup [.int i, .int j, .int 0], .tup [.int i2, .int j2, .int 1]]] st = .ok (.lst (if (if i2 = i then decide (j2 < j) else decide (i2 < i)) = true then [.tup [.int i2, .int j2, .int 1], .tup [.int i, .int j, .int 0]] else [.tup [.int i, .int j, .int 0], .tup [.int i2, .int j2, .int 1]])) st := by
  have e : lexL [i2, j2, 1] [i, j, 0] = (if i2 = i then decide (j2 < j) else decide (i2 < i)) := by
    simp only [lexL]
    by_cases h : i2 = i
    · by_cases h2 : j2 = j <;> simp [h, h2]
    · simp [h]
  have e2 : sortD [.tup [.int i, .int j, .int 0], .tup [.int i2, .int j2, .int 1]] = some ((srtS lexL [[i, j, 0], [i2, j2, 1]]).map fun ns => .tup (ns.map .int)) := by
    unfold sortD
    rfl
  unfold gSort
  simp only [seq_lst, e2]
  simp only [srtS, List.foldl, insS, e]
  generalize (if i2 = i then decide (j2 < j) else decide (i2 < i)) = t
  cases t <;> rfl
theorem den_ok {l : Nat} [h : Bq x l] (hl : l < 9000) : divOk (x.den : Int) := divOk_bd (l := l) (den_ne x) hl
theorem rtri (x y : Rat) : x < y ∨ x = y ∨ y < x := by grind
theorem ord2_alt {p q : Rat × Rat} : ord2 p q = if lessP q p = true then [some q, some p] else [some p, some q] := by
  obtain ⟨x, y⟩ := p
  obtain ⟨x2, y2⟩ := q
  unfold ord2 lessP
  dsimp only
  rcases rtri x x2 with h | h | h
  · have h1 : ¬ x2 < x := by grind
    have h2 : ¬ x2 = x := by grind
    simp [h, h1, h2]
  · subst h
    have h0 : ¬ x < x := by grind
    rcases rtri y y2 with g | g | g
    · have h1 : ¬ y2 < y := by grind
      simp [g, h0, h1]
    · subst g
      have h1 : ¬ y < y := by grind
      simp [h0, h1]
    · have h1 : ¬ y < y2 := by grind
      simp [g, h0, h1]
  · have h1 : ¬ x < x2 := by grind
    have h2 : ¬ x = x2 := by grind
    simp [h, h1, h2]
theorem w_ascending [Bq x 880] [Bq y 1120] [Bq x2 880] [Bq y2 1120] : C (k + 2) 25 [.lst [.tup [rD x, rD y], .tup [rD x2, rD y2]]] st = .ok (.tup ((ord2 (x, y) (x2, y2)).map pD)) st := by
  have sb := fun s => w_shared_bottom (k := k) (st := s) (x := x) (y := y) (x2 := x2) (y2 := y2)
  have Lb := L4_bd (x := x) (y := y) (x2 := x2) (y2 := y2)
  have hs : swp (L4 x y x2 y2) x y x2 y2 = (lessP (x2, y2) (x, y)) := by
    unfold swp lessP
    by_cases h : x2 = x
    · have : key (L4 x y x2 y2) x2 = key (L4 x y x2 y2) x := by rw [h]
      rw [if_pos this]
      have h3 := Rat.lt_irrefl (a := x)
      have e : decide (key (L4 x y x2 y2) y2 < key (L4 x y x2 y2) y) = decide (y2 < y) := decide_eq_decide.mpr (key_lt L4_pos L4_4 L4_2)
      rw [e]
      simp [h, h3]
    · have : ¬ key (L4 x y x2 y2) x2 = key (L4 x y x2 y2) x := fun e => h ((key_inj L4_pos L4_3 L4_1).mp e)
      have e : decide (key (L4 x y x2 y2) x2 < key (L4 x y x2 y2) x) = decide (x2 < x) := decide_eq_decide.mpr (key_lt L4_pos L4_3 L4_1)
      rw [if_neg this, e]
      simp [h]
  have k1 : ∀ s, binQ .FloorDiv (.int ((L4 x y x2 y2 : Nat) : Int)) (.int (x.den : Int)) s = .ok (.int (((L4 x y x2 y2 : Nat) : Int).fdiv (x.den : Int))) s := fun s => bq_fdiv (den_ok (l := 880) (by decide))
  have k2 : ∀ s, binQ .FloorDiv (.int ((L4 x y x2 y2 : Nat) : Int)) (.int (y.den : Int)) s = .ok (.int (((L4 x y x2 y2 : Nat) : Int).fdiv (y.den : Int))) s := fun s => bq_fdiv (den_ok (l := 1120) (by decide))
  have k3 : ∀ s, binQ .FloorDiv (.int ((L4 x y x2 y2 : Nat) : Int)) (.int (x2.den : Int)) s = .ok (.int (((L4 x y x2 y2 : Nat) : Int).fdiv (x2.den : Int))) s := fun s => bq_fdiv (den_ok (l := 880) (by decide))
  have k4 : ∀ s, binQ .FloorDiv (.int ((L4 x y x2 y2 : Nat) : Int)) (.int (y2.den : Int)) s = .ok (.int (((L4 x y x2 y2 : Nat) : Int).fdiv (y2.den : Int))) s := fun s => bq_fdiv (den_ok (l := 1120) (by decide))
  have m1 : ∀ s, binQ .Mult (.int x.num) (.int (((L4 x y x2 y2 : Nat) : Int).fdiv (x.den : Int))) s = .ok (.int (key (L4 x y x2 y2) x)) s := fun s => bq_mul (k := 880) (l := 4001) (by decide)
  have m2 : ∀ s, binQ .Mult (.int y.num) (.int (((L4 x y x2 y2 : Nat) : Int).fdiv (y.den : Int))) s = .ok (.int (key (L4 x y x2 y2) y)) s := fun s => bq_mul (k := 1120) (l := 4001) (by decide)
  have m3 : ∀ s, binQ .Mult (.int x2.num) (.int (((L4 x y x2 y2 : Nat) : Int).fdiv (x2.den : Int))) s = .ok (.int (key (L4 x y x2 y2) x2)) s := fun s => bq_mul (k := 880) (l := 4001) (by decide)
  have m4 : ∀ s, binQ .Mult (.int y2.num) (.int (((L4 x y x2 y2 : Nat) : Int).fdiv (y2.den : Int))) s = .ok (.int (key (L4 x y x2 y2) y2)) s := fun s => bq_mul (k := 1120) (l := 4001) (by decide)
  generalize hL : L4 x y x2 y2 = L at *
  have so : ∀ s, gSort [.lst [.tup [.int (key L x), .int (key L y), .int 0], .tup [.int (key L x2), .int (key L y2), .int 1]]] s = .ok (.lst (if lessP (x2, y2) (x, y) = true then [.tup [.int (key L x2), .int (key L y2), .int 1], .tup [.int (key L x), .int (key L y), .int 0]] else [.tup [.int (key L x), .int (key L y), .int 0], .tup [.int (key L x2), .int (key L y2), .int 1]])) s := fun s => by
    rw [sort2, ← hs]
    rfl
  rw [ord2_alt]
  rw [c25]; unfold defP b25
  have g0 : ∀ (A B : D) s, ixP (.lst [A, B]) (.int 0) s = .ok A s := fun _ _ _ => rfl
  have g1 : ∀ (A B : D) s, ixP (.lst [A, B]) (.int 1) s = .ok B s := fun _ _ _ => rfl
  have g2 : ∀ (A B E : D) s, ixP (.tup [A, B, E]) (.int 2) s = .ok E s := fun _ _ _ _ => rfl
  have gt : ∀ (A B : D) s, gTup [.lst [A, B]] s = .ok (.tup [A, B]) s := fun _ _ _ => rfl
  cases hc : lessP (x2, y2) (x, y) <;>
  simp [List.replicate, take_self, size_line, lComp, cGo, lComp2, cGo2, wB_none, wipeD, isnn_tup, isn_tup, bYes, iEnumF, enumD, sb, k1, k2, k3, k4, m1, m2, m3, m4, so, hc, g0, g1, g2, gt, pD]
end
end K34
set_option Elab.async false
set_option linter.all false
set_option maxRecDepth 100000
set_option maxHeartbeats 2000000
set_option exponentiation.threshold 20000
namespace K34
open PySem PySem.Spec L2 Ev
/-! points ahead and before, the program's side -/
section
variable {k : Nat} {st : Store} {d : D} {a b : Int} {x y : Rat} {p : Pnt}
theorem mk_0 : makeP (C (k + 2)) G.dfl G.ini 5 [.int 0] st = .ok (rD 0) st := mk_Ratio1
theorem w_ahead_of [Bd a 20] [Bd b 20] (hs : Sz 240 360 p) : C (k + 4) 32 [.tup [.int a, .int b], pD p] st = .ok (.tup ((aheadF a b p).map pD)) st := by
  rw [c32]; unfold defP b32
  cases p with
  | none => simp [List.replicate, x_if, pD, isn_non, take_self, aheadF, mk_0, size_line]
  | some q =>
    obtain ⟨x, y⟩ := q
    obtain ⟨bx, bY⟩ := sz_some hs
    by_cases hx : x = 0
    · have e := w_square_root_of (k := k + 2) (st := st) (n := b) (l := 20) (by decide)
      cases hr : sqI b with
      | none =>
        rw [hr] at e
        simp [List.replicate, x_if, pD, isn_tup, take_self, w_is_first, hx, aheadF, e, hr, oI, isn_non]
      | some r =>
        rw [hr] at e
        have br : Bd r 20 := sq_bd (sqI_some hr).1 (by decide)
        have i0 : isQ (.int r) .non st = .ok (.bl false) st := rfl
        have m1 := mk_Ratio1 (k := k + 1) (st := st) (t := a - r * 2)
        have m2 := mk_Ratio1 (k := k + 1) (st := st) (t := a + r * 2)
        have z1 : a - 2 * r = a - r * 2 := by omega
        have z2 : a + 2 * r = a + r * 2 := by omega
        simp [List.replicate, x_if, pD, isn_tup, take_self, w_is_first, hx, aheadF, e, hr, oI, i0, m1, m2, mk_0, z1, z2, size_line]
    · have e := w_root_of_ratio (k := k) (st := st) (x := x) (l := 240) (by decide)
      cases hr : sqQ x with
      | none =>
        rw [hr] at e
        simp [List.replicate, x_if, pD, isn_tup, take_self, w_is_first, hx, aheadF, e, hr, oQ, isn_non]
      | some r =>
        rw [hr] at e
        have hrr := sqQ_some hr
        have r0 : r ≠ 0 := fun z => hx (by rw [← hrr, z, Rat.mul_zero])
        have br : Bq r 240 := sqQ_bq (by decide) hr
        have i0 : isQ (rD r) .non st = .ok (.bl false) st := rfl
        have e1 := r_mul2 (k := k) (st := st) (x := x) (by decide)
        have e2 := r_addI (k := k) (st := st) (a := x * 2) (i := a) (by decide)
        have e3 := r_mul2 (k := k) (st := st) (x := y) (by decide)
        have e4 := o_over (k := k) (st := st) (st2 := st) (x := y * 2) (y := r) (by decide) r0
        have e5 := r_sub (k := k) (st := st) (a := x * 2 + a) (b := y * 2 / r) (by decide)
        have e6 := r_add (k := k) (st := st) (a := x * 2 + a) (b := y * 2 / r) (by decide)
        have bU : Bq (x * 2 + a - y * 2 / r) 867 := inferInstance
        have bV : Bq (x * 2 + a + y * 2 / r) 867 := inferInstance
        have z1 : 2 * x + a - 2 * y / r = x * 2 + a - y * 2 / r := by grind
        have z2 : 2 * x + a + 2 * y / r = x * 2 + a + y * 2 / r := by grind
        unfold aheadF
        dsimp only
        rw [if_neg hx, hr]
        dsimp only
        rw [z1, z2]
        generalize x * 2 + a - y * 2 / r = U at *
        generalize x * 2 + a + y * 2 / r = V at *
        have e7 := r_mul (k := k) (st := st) (a := r) (b := U) (by decide)
        have e8 := r_mul2 (k := k) (st := st) (x := r * U) (by decide)
        have e9 := r_mul (k := k) (st := st) (a := r) (b := V) (by decide)
        have e10 := r_mul2 (k := k) (st := st) (x := r * V) (by decide)
        have e11 := r_neg (k := k) (st := st) (a := r * V * 2) (by decide)
        have bU2 : Bq (r * U * 2) 1109 := inferInstance
        have bV2 : Bq (-(r * V * 2)) 1109 := inferInstance
        have ea := @w_ascending (k + 1) st U (r * U * 2) V (-(r * V * 2)) (bU.mono (by decide)) (bU2.mono (by decide)) (bV.mono (by decide)) (bV2.mono (by decide))
        have z3 : 2 * r * U = r * U * 2 := by grind
        have z4 : 2 * r * V = r * V * 2 := by grind
        rw [z3, z4]
        generalize r * U * 2 = U2 at *
        generalize -(r * V * 2) = V2 at *
        generalize ord2 (U, U2) (V, V2) = ou at *
        simp [List.replicate, x_if, pD, isn_tup, take_self, w_is_first, hx, e, oQ, i0, e1, e2, e3, x_mth, e4, e5, e6, e7, e8, e9, e10, e11, ea, size_line]
theorem w_before_of [Bd a 20] [Bd b 20] (hs : Sz 240 360 p) : C (k + 4) 34 [.tup [.int a, .int b], pD p] st = .ok (.tup ((beforeF a b p).map pD)) st := by
  rw [c34]; unfold defP b34
  cases p with
  | none => simp [List.replicate, x_if, pD, isn_non, take_self, beforeF, mk_0, size_line]
  | some q =>
    obtain ⟨x, y⟩ := q
    obtain ⟨bx, bY⟩ := sz_some hs
    by_cases hx : x = 0
    · have bB : Bd (a * a - 4 * b) 41 := (inferInstance : Bd (a * a - 4 * b) (max (20 + 20) (3 + 20) + 1)).mono (by decide)
      have zB : a * a - b * 4 = a * a - 4 * b := by rw [Int.mul_comm b 4]
      have e := w_square_root_of (k := k + 2) (st := st) (n := a * a - 4 * b) (l := 41) (by decide)
      rw [← zB] at e
      cases hr : sqI (a * a - 4 * b) with
      | none =>
        rw [← zB] at hr
        rw [hr] at e
        simp [List.replicate, x_if, pD, isn_tup, take_self, w_is_first, hx, beforeF, e, hr, oI, isn_non, ← zB]
      | some r =>
        have br : Bd r 41 := sq_bd (sqI_some hr).1 (by decide)
        rw [← zB] at hr
        rw [hr] at e
        have i0 : isQ (.int r) .non st = .ok (.bl false) st := rfl
        have m1 := mk_Ratio (k := k + 1) (st := st) (t := -a - r) (b := 2) (by decide) (by decide)
        have m2 := mk_Ratio (k := k + 1) (st := st) (t := r - a) (b := 2) (by decide) (by decide)
        simp [List.replicate, x_if, pD, isn_tup, take_self, w_is_first, hx, beforeF, e, hr, oI, i0, m1, m2, mk_0, ← zB, size_line]
    · have e := w_root_of_ratio (k := k) (st := st) (x := x) (l := 240) (by decide)
      cases hr : sqQ x with
      | none =>
        rw [hr] at e
        simp [List.replicate, x_if, pD, isn_tup, take_self, w_is_first, hx, beforeF, e, hr, oQ, isn_non]
      | some r =>
        rw [hr] at e
        have hrr := sqQ_some hr
        have r0 : r ≠ 0 := fun z => hx (by rw [← hrr, z, Rat.mul_zero])
        have br : Bq r 240 := sqQ_bq (by decide) hr
        have i0 : isQ (rD r) .non st = .ok (.bl false) st := rfl
        have e2 := r_subI (k := k) (st := st) (a := x) (i := a) (by decide)
        have e4 := o_over (k := k) (st := st) (st2 := st) (x := y) (y := r) (by decide) r0
        have e5 := r_sub (k := k) (st := st) (a := x - a) (b := y / r) (by decide)
        have e6 := r_add (k := k) (st := st) (a := x - a) (b := y / r) (by decide)
        have bU' : Bq (x - a - y / r) 863 := inferInstance
        have bV' : Bq (x - a + y / r) 863 := inferInstance
        have e5' := o_over2 (k := k) (st := st) (st2 := st) (x := x - a - y / r) (by decide)
        have e6' := o_over2 (k := k) (st := st) (st2 := st) (x := x - a + y / r) (by decide)
        have bU : Bq ((x - a - y / r) / 2) 865 := inferInstance
        have bV : Bq ((x - a + y / r) / 2) 865 := inferInstance
        unfold beforeF
        dsimp only
        rw [if_neg hx, hr]
        dsimp only
        generalize (x - a - y / r) / 2 = U at *
        generalize (x - a + y / r) / 2 = V at *
        have e7 := r_mul (k := k) (st := st) (a := r) (b := U) (by decide)
        have e9 := r_mul (k := k) (st := st) (a := r) (b := V) (by decide)
        have e11 := r_neg (k := k) (st := st) (a := r * V) (by decide)
        have bU2 : Bq (r * U) 1105 := inferInstance
        have bV2 : Bq (-(r * V)) 1105 := inferInstance
        have ea := @w_ascending (k + 1) st U (r * U) V (-(r * V)) (bU.mono (by decide)) (bU2.mono (by decide)) (bV.mono (by decide)) (bV2.mono (by decide))
        generalize r * U = U2 at *
        generalize -(r * V) = V2 at *
        generalize ord2 (U, U2) (V, V2) = ou at *
        simp [List.replicate, x_if, pD, isn_tup, take_self, w_is_first, hx, e, oQ, i0, e2, x_mth, e4, e5, e6, e5', e6', e7, e9, e11, ea, size_line]
/-! the four, with their checks -/
theorem w_there {d : D} [Bd a 20] [Bd b 20] (hd : d = .tup [.int a, .int b] ∨ d = .lst [.int a, .int b]) (F : Fm a b) (hp : On a b p) (hs : Sz 880 1120 p) : C (k + 6) 29 [d, pD p] st = .ok (pD (thereF b p)) st := by
  have n := w_need_form (k := k + 2) (st := st) hd F
  obtain ⟨c, hc, ec⟩ := w_curve_of_form (k := k + 2) (st := st) F
  have np := w_need_point (k := k) (st := st) hc hp hs
  have t := w_there_of (k := k + 1) (st := st) (a := a) (b := b) hs
  rw [c29]; unfold defP b29
  simp [List.replicate, take_self, n, ec, np, t]
theorem w_ahead {d : D} [Bd a 20] [Bd b 20] (hd : d = .tup [.int a, .int b] ∨ d = .lst [.int a, .int b]) (F : Fm a b) (hp : On a b p) (hs : Sz 240 360 p) : C (k + 6) 33 [d, pD p] st = .ok (.tup ((aheadF a b p).map pD)) st := by
  have n := w_need_form (k := k + 2) (st := st) hd F
  obtain ⟨c, hc, ec⟩ := w_curve_of_form (k := k + 2) (st := st) F
  have hs2 : Sz 880 1120 p := by
    cases p with
    | none => trivial
    | some q => exact ⟨hs.1.mono (by decide), hs.2.mono (by decide)⟩
  have np := w_need_point (k := k) (st := st) hc hp hs2
  have t := w_ahead_of (k := k + 1) (st := st) (a := a) (b := b) hs
  rw [c33]; unfold defP b33
  simp [List.replicate, take_self, n, ec, np, t]
/-- the partner of a form is a form, of small numbers -/
theorem fm_partner (F : Fm a b) : Fm (-2 * a) (a * a - b * 4) := by
  intro z
  have e : (a * a - b * 4) * (-2 * a * (-2 * a) - (a * a - b * 4) * 4) = 16 * (b * (a * a - b * 4)) := by grind
  rw [e] at z
  apply F
  omega
theorem w_back {d : D} [ia : Bd a 8] [ib : Bd b 8] (hd : d = .tup [.int a, .int b] ∨ d = .lst [.int a, .int b]) (F : Fm a b) (hp : On ((-2 * a : Int) : Rat) ((a * a - 4 * b : Int) : Rat) p) (hs : Sz 880 1120 p) : C (k + 6) 31 [d, pD p] st = .ok (pD (backF a b p)) st := by
  have ba : Bd a 20 := ia.mono (by decide)
  have bb : Bd b 20 := ib.mono (by decide)
  have ba2 : Bd (-2 * a) 20 := (@bd_mul (-2) a 2 8 ⟨by decide⟩ ia).mono (by decide)
  have bb2 : Bd (a * a - b * 4) 20 := (@bd_sub (a * a) (b * 4) 16 11 (@bd_mul a a 8 8 ia ia) (@bd_mul b 4 8 3 ib inferInstance)).mono (by decide)
  have n := @w_need_form (k + 2) st a b d ba bb hd F
  have ep := @w_partner_of (k + 4) st a b ba bb
  obtain ⟨c, hc, ec⟩ := @w_curve_of_form (k + 2) st _ _ ba2 bb2 (fm_partner F)
  rw [show a * a - 4 * b = a * a - b * 4 by omega] at hp
  have np := @w_need_point (k) st c _ _ p hc ba2 bb2 hp hs
  have t := @w_back_of (k + 1) st a b p ba bb hs
  generalize -2 * a = A at *
  generalize a * a - b * 4 = B at *
  rw [c31]; unfold defP b31
  simp [List.replicate, take_self, n, ep, ec, np, t]
theorem w_before {d : D} [ia : Bd a 8] [ib : Bd b 8] (hd : d = .tup [.int a, .int b] ∨ d = .lst [.int a, .int b]) (F : Fm a b) (hp : On ((-2 * a : Int) : Rat) ((a * a - 4 * b : Int) : Rat) p) (hs : Sz 240 360 p) : C (k + 6) 35 [d, pD p] st = .ok (.tup ((beforeF a b p).map pD)) st := by
  have ba : Bd a 20 := ia.mono (by decide)
  have bb : Bd b 20 := ib.mono (by decide)
  have ba2 : Bd (-2 * a) 20 := (@bd_mul (-2) a 2 8 ⟨by decide⟩ ia).mono (by decide)
  have bb2 : Bd (a * a - b * 4) 20 := (@bd_sub (a * a) (b * 4) 16 11 (@bd_mul a a 8 8 ia ia) (@bd_mul b 4 8 3 ib inferInstance)).mono (by decide)
  have n := @w_need_form (k + 2) st a b d ba bb hd F
  have ep := @w_partner_of (k + 4) st a b ba bb
  obtain ⟨c, hc, ec⟩ := @w_curve_of_form (k + 2) st _ _ ba2 bb2 (fm_partner F)
  rw [show a * a - 4 * b = a * a - b * 4 by omega] at hp
  have hs2 : Sz 880 1120 p := by
    cases p with
    | none => trivial
    | some q => exact ⟨hs.1.mono (by decide), hs.2.mono (by decide)⟩
  have np := @w_need_point (k) st c _ _ p hc ba2 bb2 hp hs2
  have t := @w_before_of (k + 1) st a b p ba bb hs
  generalize -2 * a = A at *
  generalize a * a - b * 4 = B at *
  rw [c35]; unfold defP b35
  simp [List.replicate, take_self, n, ep, ec, np, t]
end
end K34
set_option Elab.async false
set_option linter.all false
set_option maxRecDepth 100000
set_option maxHeartbeats 2000000
set_option exponentiation.threshold 20000
namespace K34
open PySem PySem.Spec L2 Ev
/-! points, the law's side -/
section
variable {k : Nat} {st : Store} {d : D} {a b : Int} {x y : Rat} {p q : Pnt}
theorem ic0 : ((0 : Int) : Rat) = 0 := rfl
theorem litI' {i : Int} : D.tup [.int i, .int 1] = qd (i : Rat) := rfl
theorem w_law_numbers_of : C (k + 1) 63 [.tup [.int a, .int b]] st = .ok (.tup (nsD a b)) st := by
  rw [c63]; unfold defP b63 nsD
  simp [List.replicate, take_self, size_line]
theorem w_law_lies [Bd a 20] [Bd b 20] (o : On a b p) (hs : Sz 880 1120 p) : C (k + 5) 54 [.tup (nsD a b), ptD p] st = .ok (.bl true) st := by
  rw [c54]; unfold defP b54
  cases p with
  | none => simp [List.replicate, x_if, ptD, isn_non, take_self]
  | some q =>
    obtain ⟨x, y⟩ := q
    obtain ⟨bx, bY⟩ := sz_some hs
    have o' : y * y = x * (b + x * (a + x)) := o
    have hc : ∀ e : Ev.Env, e = [some (.tup (nsD a b)), some (.tup [qd x, qd y]), none, none, none, none, none, none, none, none, none, none] → lComp (.nm 7) [7] (iSeq (fV 0)) bYes (fIf (bTr (Ev.f1 (isaP G.io .int) (fV 7))) (fTup (aCons (fV 7) (aCons (fK (.int 1)) aNil))) (fV 7)) e st = .ok [qd 0, qd a, qd 0, qd b, qd 0] st := fun e he => by
      subst he
      refine lComp_map (wk := (nsD a b, none)) (fun d => match d with | .int i => qd i | _ => .non) rfl (fun acc => rfl) (by rw [size_line]; show 5 < _; omega) fun z hz s hs => ?_
      have : ∃ i : Int, z = .int i := by simp [nsD] at hz; rcases hz with e | e | e | e | e <;> exact ⟨_, e⟩
      obtain ⟨i, rfl⟩ := this
      refine ⟨[some (.tup (nsD a b)), some (.tup [qd x, qd y]), none, none, none, none, none, some (.int i), none, none, none, none], by simp [wipeD], rfl, ?_, rfl⟩
      simp [size_line, litI']
    have e1 := w_law_q_mul (k := k + 1) (st := st) (a := 0) (b := x) (by decide)
    rw [Rat.zero_mul] at e1
    have e2 := sum3 (k := k) (st := st) (x := y) (y := 0) (z := 0) (by decide)
    rw [Rat.add_zero, Rat.add_zero] at e2
    have e3 := w_law_q_mul (k := k + 1) (st := st) (a := y) (b := y) (by decide)
    have e4 := w_law_q_add (k := k + 1) (st := st) (a := (a : Rat)) (b := x) (by decide)
    have e5 := w_law_q_mul (k := k + 1) (st := st) (a := x) (b := a + x) (by decide)
    have e6 := w_law_q_add (k := k + 1) (st := st) (a := (b : Rat)) (b := x * (a + x)) (by decide)
    have e7 := w_law_q_mul (k := k + 1) (st := st) (a := x) (b := b + x * (a + x)) (by decide)
    have e8 := w_law_q_add (k := k + 1) (st := st) (a := 0) (b := x * (b + x * (a + x))) (by decide)
    rw [Rat.zero_add] at e8
    simp [List.replicate, x_if, ptD, isn_tup, take_self, size_line, hc, e1, e2, e3, e4, e5, e6, e7, e8, eq_qd, o']
@[simp] theorem ret_ptD {kp : Bool} {n : Nat} {s : Store} : retP kp n (ptD p) s = .ok (ptD p) (s.take n) := by cases p <;> rfl
@[simp] theorem frz_ptD {s : Store} : frz (ptD p) s = some (ptD p, s) := by cases p <;> rfl
theorem giv_ptD : Giv (ptD p) := fun kp n s => ret_ptD
theorem w_law_opposite (hs : Sz 880 1120 p) : C (k + 5) 55 [.tup (nsD a b), ptD p] st = .ok (ptD (oppF p)) st := by
  rw [c55]; unfold defP b55
  cases p with
  | none => simp [List.replicate, x_if, ptD, isn_non, take_self, oppF]
  | some q =>
    obtain ⟨x, y⟩ := q
    obtain ⟨bx, bY⟩ := sz_some hs
    have e0 := w_law_q_neg (k := k + 3) (st := st) (a := y)
    have e1 := w_law_q_mul (k := k + 1) (st := st) (a := 0) (b := x) (by decide)
    rw [Rat.zero_mul] at e1
    have e1' := w_law_q_neg (k := k + 3) (st := st) (a := 0)
    rw [Rat.neg_zero] at e1'
    have e2 := sum3 (k := k) (st := st) (x := -y) (y := 0) (z := 0) (by decide)
    rw [Rat.add_zero, Rat.add_zero] at e2
    have n0 : ixP (.tup (nsD a b)) (.int 0) st = .ok (.int 0) st := rfl
    have n2 : ixP (.tup (nsD a b)) (.int 2) st = .ok (.int 0) st := rfl
    simp [List.replicate, x_if, ptD, isn_tup, take_self, size_line, e0, n0, n2, lit0, e1, e1', e2, oppF]
theorem w_law_there [Bd a 20] [Bd b 20] (hs : Sz 880 1120 p) : C (k + 4) 64 [.tup [.int a, .int b], ptD p] st = .ok (ptD (thereF b p)) st := by
  rw [c64]; unfold defP b64
  cases p with
  | none => simp [List.replicate, x_if, ptD, isn_non, take_self, thereF]
  | some q =>
    obtain ⟨x, y⟩ := q
    obtain ⟨bx, bY⟩ := sz_some hs
    by_cases hx : x = 0
    · simp [List.replicate, x_if, ptD, isn_tup, take_self, num_zero, hx, thereF]
    · have h2 : x * x ≠ 0 := mul_ne hx hx
      have e1 := w_law_q_mul (k := k) (st := st) (a := x) (b := x) (by decide)
      have e2 := w_law_q_mul (k := k) (st := st) (a := y) (b := y) (by decide)
      have e3 := w_law_q_over (k := k) (st := st) (a := y * y) (b := x * x) (by decide) h2
      have e4 := w_law_q_sub (k := k) (st := st) (a := b) (b := x * x) (by decide)
      have e5 := w_law_q_mul (k := k) (st := st) (a := y) (b := b - x * x) (by decide)
      have e6 := w_law_q_over (k := k) (st := st) (a := y * (b - x * x)) (b := x * x) (by decide) h2
      simp [List.replicate, x_if, ptD, isn_tup, take_self, num_zero, hx, thereF, size_line, litI', e1, e2, e3, e4, e5, e6]
theorem w_law_back [Bd a 20] [Bd b 20] (hs : Sz 880 1120 p) : C (k + 4) 65 [.tup [.int a, .int b], ptD p] st = .ok (ptD (backF a b p)) st := by
  rw [c65]; unfold defP b65
  cases p with
  | none => simp [List.replicate, x_if, ptD, isn_non, take_self, backF]
  | some q =>
    obtain ⟨x, y⟩ := q
    obtain ⟨bx, bY⟩ := sz_some hs
    by_cases hx : x = 0
    · simp [List.replicate, x_if, ptD, isn_tup, take_self, num_zero, hx, backF]
    · have h2 : 4 * (x * x) ≠ 0 := mul_ne (by decide) (mul_ne hx hx)
      have h3 : 8 * (x * x) ≠ 0 := mul_ne (by decide) (mul_ne hx hx)
      have eB : ((a ^ 2 - 4 * b : Int) : Rat) = (a : Rat) * a - 4 * b := by rw [Int.pow_succ, Int.pow_succ, Int.pow_zero, Int.one_mul, cast_b]
      have bB : Bd (a ^ 2 - 4 * b) 42 := (inferInstance : Bd (a ^ 2 - 4 * b) (max (20 * 2 + 1) (3 + 20) + 1)).mono (by decide)
      have bB' : Bq ((a : Rat) * a - 4 * b) 43 := by rw [← eB]; exact bq_int bB
      have e0 : ∀ s, binQ .Pow (.int a) (.int 2) s = .ok (.int (a ^ 2)) s := fun s => bq_pow (by decide)
      unfold backF
      dsimp only
      rw [if_neg hx]
      have e1 := w_law_q_mul (k := k) (st := st) (a := x) (b := x) (by decide)
      have e2 := w_law_q_mul (k := k) (st := st) (a := y) (b := y) (by decide)
      have e2' := w_law_q_mul (k := k) (st := st) (a := 4) (b := x * x) (by decide)
      have e2'' := w_law_q_mul (k := k) (st := st) (a := 8) (b := x * x) (by decide)
      have e3 := w_law_q_over (k := k) (st := st) (a := y * y) (b := 4 * (x * x)) (by decide) h2
      have eL : D.tup [.int (a ^ 2 - 4 * b), .int 1] = qd ((a : Rat) * a - 4 * b) := by rw [← eB]; rfl
      generalize (a : Rat) * a - 4 * b = B at *
      have e4 := w_law_q_sub (k := k) (st := st) (a := B) (b := x * x) (by decide)
      have e5 := w_law_q_mul (k := k) (st := st) (a := y) (b := B - x * x) (by decide)
      have e6 := w_law_q_over (k := k) (st := st) (a := y * (B - x * x)) (b := 8 * (x * x)) (by decide) h3
      simp [List.replicate, x_if, ptD, isn_tup, take_self, num_zero, hx, size_line, lit4, lit8, eL, e0, e1, e2, e2', e2'', e3, e4, e5, e6]
end
end K34
set_option Elab.async false
set_option linter.all false
set_option maxRecDepth 100000
set_option maxHeartbeats 2000000
set_option exponentiation.threshold 20000
namespace K34
open PySem PySem.Spec L2 Ev
/-! sums, points in order, the law's side -/
section
variable {k : Nat} {st : Store} {d : D} {a b : Int} {x y x2 y2 : Rat} {p q : Pnt}
theorem ptD_none : ptD none = .non := rfl
theorem ptD_some : ptD (some (x, y)) = .tup [qd x, qd y] := rfl
theorem slope_bq [Bd a 20] [Bd b 20] [Bq x 6] [Bq y 12] [Bq x2 6] [Bq y2 12] : Bq (slopeF a b x y x2 y2) 91 := by
  unfold slopeF
  split
  · exact (inferInstance : Bq ((3 * (x * x) + 2 * (a * x) + b) / (y + y)) 91)
  · exact (inferInstance : Bq ((y2 - y) / (x2 - x)) 38).mono (by decide)
theorem w_law_sum [Bd a 20] [Bd b 20] (o : On a b p) (o2 : On a b q) (hp : Sz 6 12 p) (hq : Sz 6 12 q) : C (k + 6) 56 [.tup (nsD a b), ptD p, ptD q] st = .ok (ptD (sumF a b p q)) st ∧ Sz 240 360 (sumF a b p q) := by
  cases p with
  | none =>
    refine ⟨?_, ?_⟩
    · rw [c56]; unfold defP b56
      simp [List.replicate, x_if, ptD_none, ptD_some, isn_non, take_self, sumF]
    · cases q with
      | none => trivial
      | some q => exact ⟨hq.1.mono (by decide), hq.2.mono (by decide)⟩
  | some p =>
    obtain ⟨x, y⟩ := p
    cases q with
    | none =>
      refine ⟨?_, hp.1.mono (by decide), hp.2.mono (by decide)⟩
      rw [c56]; unfold defP b56
      simp [List.replicate, x_if, ptD_none, ptD_some, isn_non, isn_tup, take_self, sumF]
    | some q =>
      obtain ⟨x2, y2⟩ := q
      obtain ⟨bx, bY⟩ := sz_some hp
      obtain ⟨bx2, bY2⟩ := sz_some hq
      have eop := w_law_opposite (k := k) (st := st) (a := a) (b := b) (p := some (x, y)) ⟨bx.mono (by decide), bY.mono (by decide)⟩
      have eo : eqO (C (k + 5)) G.dfl G.eqf G.eqk false (.tup [qd x2, qd y2]) (ptD (oppF (some (x, y)))) st = .ok (.bl (decide ((some (x2, y2) : Pnt) = oppF (some (x, y))))) st := eq_ptD (p := some (x2, y2)) (neg := false)
      by_cases hn : (some (x2, y2) : Pnt) = oppF (some (x, y))
      · unfold sumF
        dsimp only
        rw [if_pos hn]
        refine ⟨?_, trivial⟩
        rw [decide_eq_true hn] at eo
        rw [c56]; unfold defP b56
        generalize oppF (some (x, y)) = oo at *
        rw [ptD_some] at eop
        simp [List.replicate, x_if, ptD_none, ptD_some, isn_tup, take_self, eop, eo]
      · obtain ⟨d1, d2⟩ := sum_dom o o2 hn
        unfold sumF
        dsimp only
        rw [if_neg hn]
        rw [decide_eq_false hn] at eo
        have bs := slope_bq (a := a) (b := b) (x := x) (y := y) (x2 := x2) (y2 := y2)
        have hc : ∀ o3 : Option D, lComp (.nm 8) [8] (iSeq (fV 0)) bYes (fTup (aCons (fV 8) (aCons (fK (.int 1)) aNil))) [some (.tup (nsD a b)), some (.tup [qd x, qd y]), some (.tup [qd x2, qd y2]), none, none, none, none, none, none, none, none, none, none, none] st = .ok [qd 0, qd a, qd 0, qd b, qd 0] st := fun o3 => by
          refine lComp_map (wk := (nsD a b, none)) (fun d => match d with | .int i => qd i | _ => .non) rfl (fun acc => rfl) (by rw [size_line]; show 5 < _; omega) fun z hz s hs => ?_
          have : ∃ i : Int, z = .int i := by simp [nsD] at hz; rcases hz with e | e | e | e | e <;> exact ⟨_, e⟩
          obtain ⟨i, rfl⟩ := this
          refine ⟨[some (.tup (nsD a b)), some (.tup [qd x, qd y]), some (.tup [qd x2, qd y2]), none, none, none, none, none, some (.int i), none, none, none, none, none], by simp [wipeD], rfl, ?_, rfl⟩
          simp [size_line, litI']
        have hc := hc none
        have ee : eqO (C (k + 5)) G.dfl G.eqf G.eqk false (.tup [qd x, qd y]) (.tup [qd x2, qd y2]) st = .ok (.bl (decide ((some (x, y) : Pnt) = some (x2, y2)))) st := eq_ptD (p := some (x, y)) (q := some (x2, y2)) (neg := false)
        -- behind the slope
        obtain ⟨s, hs⟩ : ∃ s, s = slopeF a b x y x2 y2 := ⟨_, rfl⟩
        rw [← hs] at bs ⊢
        have f1 := w_law_q_mul (k := k + 2) (st := st) (a := s) (b := s) (by decide)
        have f2 := w_law_q_mul (k := k + 2) (st := st) (a := 0) (b := s) (by decide)
        rw [Rat.zero_mul] at f2
        have f3 := w_law_q_neg (k := k + 4) (st := st) (a := (a : Rat))
        have f4 := w_law_q_neg (k := k + 4) (st := st) (a := x)
        have f5 := w_law_q_neg (k := k + 4) (st := st) (a := x2)
        have f6 := sum5 (k := k + 1) (st := st) (x := s * s) (y := 0) (z := -(a : Rat)) (u := -x) (v := -x2) (by decide)
        rw [Rat.add_zero] at f6
        have bA : Bq (s * s + -(a : Rat) + -x + -x2) 218 := inferInstance
        obtain ⟨A, hA⟩ : ∃ A, A = s * s + -(a : Rat) + -x + -x2 := ⟨_, rfl⟩
        rw [← hA] at bA f6 ⊢
        have f7 := w_law_q_sub (k := k + 2) (st := st) (a := A) (b := x) (by decide)
        have f8 := w_law_q_mul (k := k + 2) (st := st) (a := s) (b := A - x) (by decide)
        have f9 := w_law_q_add (k := k + 2) (st := st) (a := y) (b := s * (A - x)) (by decide)
        have bB : Bq (y + s * (A - x)) 329 := inferInstance
        obtain ⟨B, hB⟩ : ∃ B, B = y + s * (A - x) := ⟨_, rfl⟩
        rw [← hB] at bB f9 ⊢
        have f10 := w_law_opposite (k := k) (st := st) (a := a) (b := b) (p := some (A, B)) ⟨bA.mono (by decide), bB.mono (by decide)⟩
        refine ⟨?_, bA.mono (by decide), (inferInstance : Bq (-B) 329).mono (by decide)⟩
        by_cases he : (some (x, y) : Pnt) = some (x2, y2)
        · have dd := d1 he
          have es : s = (3 * (x * x) + 2 * (a * x) + b) / (y + y) := by rw [hs]; unfold slopeF; rw [if_pos he]
          rw [decide_eq_true he] at ee
          have g1 := w_law_q_mul (k := k + 2) (st := st) (a := x) (b := x) (by decide)
          have g2 := w_law_q_mul (k := k + 2) (st := st) (a := 3) (b := x * x) (by decide)
          have g3 := w_law_q_mul (k := k + 2) (st := st) (a := (a : Rat)) (b := x) (by decide)
          have g4 := w_law_q_mul (k := k + 2) (st := st) (a := 2) (b := a * x) (by decide)
          have g5 := w_law_q_mul (k := k + 2) (st := st) (a := 0) (b := y) (by decide)
          have g5' := w_law_q_mul (k := k + 2) (st := st) (a := 0) (b := x) (by decide)
          rw [Rat.zero_mul] at g5 g5'
          have g6 := w_law_q_neg (k := k + 4) (st := st) (a := 0)
          rw [Rat.neg_zero] at g6
          have g7 := sum4 (k := k + 1) (st := st) (x := 3 * (x * x)) (y := 2 * (a * x)) (z := b) (u := 0) (by decide)
          rw [Rat.add_zero] at g7
          have g8 := sum4 (k := k + 1) (st := st) (x := y) (y := y) (z := 0) (u := 0) (by decide)
          rw [Rat.add_zero, Rat.add_zero] at g8
          have g9 := w_law_q_over (k := k + 2) (st := st) (a := 3 * (x * x) + 2 * (a * x) + b) (b := y + y) (by decide) dd
          rw [← es] at g9
          generalize 3 * (x * x) + 2 * (a * x) + (b : Rat) = T at *
          generalize y + y = T2 at *
          rw [show oppF (some (A, B)) = some (A, -B) from rfl, ptD_some, ptD_some] at f10
          rw [ptD_some] at eop
          rw [c56]; unfold defP b56
          generalize oppF (some (x, y)) = oo at *
          simp [List.replicate, x_if, ptD_none, ptD_some, isn_tup, take_self, size_line, eop, eo, hc, ee, lit3, lit2, g1, g2, g3, g4, g5, g5', g6, g7, g8, g9, f1, f2, f3, f4, f5, f6, f7, f8, f9, f10]
        · have dd := d2 he
          have es : s = (y2 - y) / (x2 - x) := by rw [hs]; unfold slopeF; rw [if_neg he]
          rw [decide_eq_false he] at ee
          have g1 := w_law_q_sub (k := k + 2) (st := st) (a := y2) (b := y) (by decide)
          have g2 := w_law_q_sub (k := k + 2) (st := st) (a := x2) (b := x) (by decide)
          have g9 := w_law_q_over (k := k + 2) (st := st) (a := y2 - y) (b := x2 - x) (by decide) dd
          rw [← es] at g9
          rw [show oppF (some (A, B)) = some (A, -B) from rfl, ptD_some, ptD_some] at f10
          rw [ptD_some] at eop
          rw [c56]; unfold defP b56
          generalize oppF (some (x, y)) = oo at *
          simp [List.replicate, x_if, ptD_none, ptD_some, isn_tup, take_self, size_line, eop, eo, hc, ee, g1, g2, g9, f1, f2, f3, f4, f5, f6, f7, f8, f9, f10]
end
end K34
set_option Elab.async false
set_option linter.all false
set_option maxRecDepth 100000
set_option maxHeartbeats 2000000
set_option exponentiation.threshold 20000
namespace K34
open PySem PySem.Spec L2 Ev
/-! points ahead and before, the law's side -/
section
variable {k : Nat} {st : Store} {d : D} {a b : Int} {x y x2 y2 : Rat} {p q : Pnt}
def oqd : Option Rat → D
  | none => .non
  | some r => qd r
theorem w_law_q_root {l : Nat} [c : Bq x l] (h : l < 8000) : C (k + 3) 51 [qd x] st = .ok (oqd (sqQ x)) st := by
  have e1 := w_law_root (k := k) (st := st) (n := x.num) (l := l) h
  have e2 := w_law_root (k := k) (st := st) (n := x.den) (l := l) h
  rw [c51]; unfold defP b51
  unfold sqQ
  cases h1 : sqI x.num with
  | none =>
    rw [h1] at e1
    cases h2 : sqI x.den with
    | none => rw [h2] at e2; simp [List.replicate, take_self, e1, e2, oI, oqd, isn_non]
    | some t => rw [h2] at e2; simp [List.replicate, take_self, e1, e2, oI, oqd, isn_non]
  | some s =>
    rw [h1] at e1
    have i1 : isQ (.int s) .non st = .ok (.bl false) st := rfl
    cases h2 : sqI x.den with
    | none => rw [h2] at e2; simp [List.replicate, take_self, e1, e2, oI, oqd, isn_non, i1]
    | some t =>
      rw [h2] at e2
      have i2 : isQ (.int t) .non st = .ok (.bl false) st := rfl
      have t0 : 0 < t := by
        have e2 := sqI_some h2
        have : t ≠ 0 := by
          intro z
          rw [z] at e2
          have := den_ne x
          have := e2.1
          omega
        omega
      obtain ⟨l1, l2⟩ := sqQ_low (x := x) (r := 0) (s := s) (t := t) (sqI_some h1).1 (sqI_some h2).1 t0
      have e : qd (rq s t) = .tup [.int s, .int t] := by unfold qd; rw [l1, l2]
      simp [List.replicate, take_self, e1, e2, oI, oqd, i1, i2, size_line, e]
theorem io_step1 {P : D} {o o4 : Option D} {A : D} (hA : A = .tup [qd x, qd y]) {rw' : D} : b59_l1 (C (k + 1)) [some rw', some (.lst []), some A, o, o4] st = .nx [some rw', some (.lst [A]), some A, some (.int 0), o4] st := by
  subst hA
  unfold b59_l1
  have s1 : slP (.lst []) none (some 0) st = .ok (.lst []) st := rfl
  have s2 : slP (.lst []) (some 0) none st = .ok (.lst []) st := rfl
  simp [x_if, isnn_tup, lComp, cGo, wB_none, size_line, oSome, s1, s2]
theorem io_step2 [Bq x 880] [Bq y 1120] [Bq x2 880] [Bq y2 1120] {o o4 : Option D} {rw' : D} : ∃ o', b59_l1 (C (k + 1)) [some rw', some (.lst [.tup [qd x, qd y]]), some (.tup [qd x2, qd y2]), o, o4] st = .nx [some rw', some (.lst ((ord2 (x, y) (x2, y2)).map ptD)), some (.tup [qd x2, qd y2]), o', o4] st := by
  unfold b59_l1
  have e1 := fun s => w_law_q_less (k := k) (st := s) (a := x) (b := x2) (by decide)
  have e2 := fun s => w_law_q_less (k := k) (st := s) (a := y) (b := y2) (by decide)
  have ee := fun s => eq_qd (call := C (k + 1)) (dfl := G.dfl) (eqf := G.eqf) (eqk := G.eqk) (neg := false) (st := s) (a := x) (b := x2)
  have s1 : ∀ A : D, slP (.lst [A]) none (some 0) st = .ok (.lst []) st := fun _ => rfl
  have s2 : ∀ A : D, slP (.lst [A]) (some 0) none st = .ok (.lst [A]) st := fun _ => rfl
  have s3 : ∀ A : D, slP (.lst [A]) none (some 1) st = .ok (.lst [A]) st := fun _ => rfl
  have s4 : ∀ A : D, slP (.lst [A]) (some 1) none st = .ok (.lst []) st := fun _ => rfl
  unfold ord2
  have hl : lessP (x, y) (x2, y2) = (decide (x < x2) || (decide (x = x2) && decide (y < y2))) := rfl
  rw [hl]
  by_cases h1 : x < x2
  · simp [x_if, isnn_tup, lComp, cGo, wB_none, size_line, oSome, s1, s2, s3, s4, e1, e2, ee, h1, wipeD, ptD_some]
  · by_cases h2 : x = x2
    · subst h2
      by_cases h3 : y < y2 <;> simp [x_if, isnn_tup, lComp, cGo, wB_none, size_line, oSome, s1, s2, s3, s4, e1, e2, ee, h1, h3, wipeD, ptD_some]
    · simp [x_if, isnn_tup, lComp, cGo, wB_none, size_line, oSome, s1, s2, s3, s4, e1, e2, ee, h1, h2, wipeD, ptD_some]
theorem w_law_in_order [Bq x 880] [Bq y 1120] [Bq x2 880] [Bq y2 1120] : C (k + 2) 59 [.lst [.tup [qd x, qd y], .tup [qd x2, qd y2]]] st = .ok (.lst ((ord2 (x, y) (x2, y2)).map ptD)) st := by
  rw [c59]; unfold defP b59
  have e1 := fun P => io_step1 (k := k) (st := st) (P := P) (o := none) (o4 := none) (A := .tup [qd x, qd y]) rfl (rw' := .lst [.tup [qd x, qd y], .tup [qd x2, qd y2]])
  have e1 := e1 .non
  obtain ⟨o', e2⟩ := io_step2 (k := k) (st := st) (x := x) (y := y) (x2 := x2) (y2 := y2) (o := some (.int 0)) (o4 := none) (rw' := .lst [.tup [qd x, qd y], .tup [qd x2, qd y2]])
  have hl : ((ord2 (x, y) (x2, y2)).map ptD).length ≤ 2 := by unfold ord2; split <;> simp
  generalize (ord2 (x, y) (x2, y2)).map ptD = ou at *
  have bl : ∀ s, binQ .Add (.lst []) (.lst ou) s = .ok (.lst ou) s := fun s => by rw [bq_lst (by simp; omega)]; rfl
  simp [List.replicate, take_self, size_line, e1, e2, lComp, cGo, wB_none, wipeD, isn_tup, bl]
theorem tup_lst {xs : List D} : gTup [.lst xs] st = .ok (.tup xs) st := rfl
theorem w_law_ahead [Bd a 20] [Bd b 20] (hs : Sz 240 360 p) : C (k + 4) 66 [.tup [.int a, .int b], ptD p] st = .ok (.tup ((aheadF a b p).map ptD)) st := by
  rw [c66]; unfold defP b66
  cases p with
  | none => simp [List.replicate, x_if, ptD_none, ptD_some, isn_non, take_self, aheadF, size_line, lit0]
  | some q =>
    obtain ⟨x, y⟩ := q
    obtain ⟨bx, bY⟩ := sz_some hs
    by_cases hx : x = 0
    · have e := w_law_root (k := k + 1) (st := st) (n := b) (l := 20) (by decide)
      cases hr : sqI b with
      | none =>
        rw [hr] at e
        simp [List.replicate, x_if, ptD_some, isn_tup, take_self, num_zero, hx, aheadF, e, hr, oI, isn_non]
      | some r =>
        rw [hr] at e
        have br : Bd r 20 := sq_bd (sqI_some hr).1 (by decide)
        have i0 : isQ (.int r) .non st = .ok (.bl false) st := rfl
        simp [List.replicate, x_if, ptD_some, isn_tup, take_self, num_zero, hx, aheadF, e, hr, oI, i0, size_line, litI', ic0]
    · have e := w_law_q_root (k := k) (st := st) (x := x) (l := 240) (by decide)
      cases hr : sqQ x with
      | none =>
        rw [hr] at e
        simp [List.replicate, x_if, ptD_some, isn_tup, take_self, num_zero, hx, aheadF, e, hr, oqd, isn_non]
      | some r =>
        rw [hr] at e
        have hrr := sqQ_some hr
        have r0 : r ≠ 0 := fun z => hx (by rw [← hrr, z, Rat.mul_zero])
        have br : Bq r 240 := sqQ_bq (by decide) hr
        have i0 : isQ (qd r) .non st = .ok (.bl false) st := rfl
        have e1 := w_law_q_mul (k := k) (st := st) (a := 2) (b := x) (by decide)
        have e2 := w_law_q_add (k := k) (st := st) (a := 2 * x) (b := (a : Rat)) (by decide)
        have e3 := w_law_q_mul (k := k) (st := st) (a := 2) (b := y) (by decide)
        have e4 := w_law_q_over (k := k) (st := st) (a := 2 * y) (b := r) (by decide) r0
        have e5 := w_law_q_sub (k := k) (st := st) (a := 2 * x + a) (b := 2 * y / r) (by decide)
        have e6 := w_law_q_add (k := k) (st := st) (a := 2 * x + a) (b := 2 * y / r) (by decide)
        have e7 := w_law_q_mul (k := k) (st := st) (a := 2) (b := r) (by decide)
        have bU : Bq (2 * x + a - 2 * y / r) 867 := inferInstance
        have bV : Bq (2 * x + a + 2 * y / r) 867 := inferInstance
        unfold aheadF
        dsimp only
        rw [if_neg hx, hr]
        dsimp only
        generalize 2 * x + a - 2 * y / r = U at *
        generalize 2 * x + a + 2 * y / r = V at *
        have e8 := w_law_q_mul (k := k) (st := st) (a := 2 * r) (b := U) (by decide)
        have e9 := w_law_q_mul (k := k) (st := st) (a := 2 * r) (b := V) (by decide)
        have e10 := w_law_q_neg (k := k + 2) (st := st) (a := 2 * r * V)
        have bU2 : Bq (2 * r * U) 1109 := inferInstance
        have bV2 : Bq (-(2 * r * V)) 1109 := inferInstance
        have ea := @w_law_in_order (k + 1) st U (2 * r * U) V (-(2 * r * V)) (bU.mono (by decide)) (bU2.mono (by decide)) (bV.mono (by decide)) (bV2.mono (by decide))
        generalize 2 * r * U = U2 at *
        generalize -(2 * r * V) = V2 at *
        generalize ord2 (U, U2) (V, V2) = ou at *
        simp [List.replicate, x_if, ptD_some, isn_tup, take_self, num_zero, hx, e, oqd, i0, lit2, litI', e1, e2, e3, e4, e5, e6, e7, e8, e9, e10, ea, size_line, tup_lst]
theorem w_law_before [Bd a 20] [Bd b 20] (hs : Sz 240 360 p) : C (k + 4) 67 [.tup [.int a, .int b], ptD p] st = .ok (.tup ((beforeF a b p).map ptD)) st := by
  rw [c67]; unfold defP b67
  cases p with
  | none => simp [List.replicate, x_if, ptD_none, ptD_some, isn_non, take_self, beforeF, size_line, lit0]
  | some q =>
    obtain ⟨x, y⟩ := q
    obtain ⟨bx, bY⟩ := sz_some hs
    by_cases hx : x = 0
    · have bB : Bd (a * a - 4 * b) 41 := (inferInstance : Bd (a * a - 4 * b) (max (20 + 20) (3 + 20) + 1)).mono (by decide)
      have e := w_law_root (k := k + 1) (st := st) (n := a * a - 4 * b) (l := 41) (by decide)
      cases hr : sqI (a * a - 4 * b) with
      | none =>
        rw [hr] at e
        simp [List.replicate, x_if, ptD_some, isn_tup, take_self, num_zero, hx, beforeF, e, hr, oI, isn_non]
      | some r =>
        rw [hr] at e
        have br : Bd r 41 := sq_bd (sqI_some hr).1 (by decide)
        have i0 : isQ (.int r) .non st = .ok (.bl false) st := rfl
        have m1 := w_law_q (k := k + 1) (st := st) (x := -a - r) (y := 2) (by decide) (by decide)
        have m2 := w_law_q (k := k + 1) (st := st) (x := r - a) (y := 2) (by decide) (by decide)
        simp [List.replicate, x_if, ptD_some, isn_tup, take_self, num_zero, hx, beforeF, e, hr, oI, i0, size_line, m1, m2, lit0]
    · have e := w_law_q_root (k := k) (st := st) (x := x) (l := 240) (by decide)
      cases hr : sqQ x with
      | none =>
        rw [hr] at e
        simp [List.replicate, x_if, ptD_some, isn_tup, take_self, num_zero, hx, beforeF, e, hr, oqd, isn_non]
      | some r =>
        rw [hr] at e
        have hrr := sqQ_some hr
        have r0 : r ≠ 0 := fun z => hx (by rw [← hrr, z, Rat.mul_zero])
        have br : Bq r 240 := sqQ_bq (by decide) hr
        have i0 : isQ (qd r) .non st = .ok (.bl false) st := rfl
        have e2 := w_law_q_sub (k := k) (st := st) (a := x) (b := (a : Rat)) (by decide)
        have e4 := w_law_q_over (k := k) (st := st) (a := y) (b := r) (by decide) r0
        have e5 := w_law_q_sub (k := k) (st := st) (a := x - a) (b := y / r) (by decide)
        have e6 := w_law_q_add (k := k) (st := st) (a := x - a) (b := y / r) (by decide)
        have e5' := w_law_q_over (k := k) (st := st) (a := x - a - y / r) (b := 2) (by decide) (by decide)
        have e6' := w_law_q_over (k := k) (st := st) (a := x - a + y / r) (b := 2) (by decide) (by decide)
        have bU : Bq ((x - a - y / r) / 2) 865 := inferInstance
        have bV : Bq ((x - a + y / r) / 2) 865 := inferInstance
        unfold beforeF
        dsimp only
        rw [if_neg hx, hr]
        dsimp only
        generalize (x - a - y / r) / 2 = U at *
        generalize (x - a + y / r) / 2 = V at *
        have e8 := w_law_q_mul (k := k) (st := st) (a := r) (b := U) (by decide)
        have e9 := w_law_q_mul (k := k) (st := st) (a := r) (b := V) (by decide)
        have e10 := w_law_q_neg (k := k + 2) (st := st) (a := r * V)
        have bU2 : Bq (r * U) 1105 := inferInstance
        have bV2 : Bq (-(r * V)) 1105 := inferInstance
        have ea := @w_law_in_order (k + 1) st U (r * U) V (-(r * V)) (bU.mono (by decide)) (bU2.mono (by decide)) (bV.mono (by decide)) (bV2.mono (by decide))
        generalize r * U = U2 at *
        generalize -(r * V) = V2 at *
        generalize ord2 (U, U2) (V, V2) = ou at *
        simp [List.replicate, x_if, ptD_some, isn_tup, take_self, num_zero, hx, e, oqd, i0, lit2, litI', e2, e4, e5, e6, e5', e6', e8, e9, e10, ea, size_line, tup_lst]
end
end K34
set_option Elab.async false
set_option linter.all false
set_option maxRecDepth 100000
set_option maxHeartbeats 2000000
set_option exponentiation.threshold 20000
namespace K34
open PySem PySem.Spec L2 Ev
/-! what is told -/
section
variable {k : Nat} {st : Store} {d : D} {a b : Int} {x y x2 y2 : Rat} {p q : Pnt}
theorem pD_none : pD none = .non := rfl
theorem pD_some : pD (some (x, y)) = .tup [rD x, rD y] := rfl
theorem giv_pD : Giv (pD p) := fun kp n s => sim_ret
theorem q_of_r : C (k + 1) 52 [rD x] st = .ok (qd x) st := w_law_q_of rfl rfl rfl
theorem w_law_told : C (k + 2) 57 [pD p] st = .ok (ptD p) st := by
  rw [c57]; unfold defP b57
  cases p with
  | none => simp [List.replicate, pD_none, ptD_none, isn_non, take_self]
  | some q =>
    obtain ⟨x, y⟩ := q
    simp [List.replicate, pD_some, ptD_some, isn_tup, take_self, q_of_r, size_line]
theorem w_law_is_told : C (k + 3) 58 [pD p, ptD p] st = .ok (.bl true) st := by
  have e := w_law_told (k := k) (st := st) (p := p)
  have eq := eq_ptD (call := C (k + 2)) (dfl := G.dfl) (eqf := G.eqf) (eqk := G.eqk) (neg := false) (st := st) (p := p) (q := p)
  rw [c58]; unfold defP b58
  cases p with
  | none => simp [List.replicate, x_if, pD_none, ptD_none, isn_non, take_self]
  | some q =>
    obtain ⟨x, y⟩ := q
    have it : isaP G.io .tup (.tup [rD x, rD y]) st = .ok (.bl true) st := rfl
    rw [pD_some, ptD_some] at e
    rw [ptD_some] at eq
    simp [List.replicate, x_if, pD_some, ptD_some, isn_tup, take_self, it, e, eq]
theorem w_law_point {l m : Nat} (hs : Sz l m p) (hl : l < 8000) (hm : m < 8000) : C (k + 3) 69 [ptD p] st = .ok (pD p) st := by
  rw [c69]; unfold defP b69
  cases p with
  | none => simp [List.replicate, pD_none, ptD_none, isn_non, take_self]
  | some q =>
    obtain ⟨x, y⟩ := q
    obtain ⟨bx, bY⟩ := sz_some hs
    have e1 := mk_Ratio (k := k) (st := st) (t := x.num) (b := (x.den : Int)) (l := l) (by omega) (den_ne x)
    have e2 := mk_Ratio (k := k) (st := st) (t := y.num) (b := (y.den : Int)) (l := m) (by omega) (den_ne y)
    rw [← rat_nd] at e1 e2
    simp [List.replicate, pD_some, ptD_some, isn_tup, take_self, e1, e2, size_line]
theorem w_law_are_told {ps : List Pnt} (hl : ps.length < 1000) : C (k + 4) 70 [.tup (ps.map pD), .tup (ps.map ptD)] st = .ok (.bl true) st := by
  have it : isaP G.io .tup (.tup (ps.map pD)) st = .ok (.bl true) st := rfl
  have hc : lComp (.tp [(.nm 2), (.nm 3)]) [2, 3] (iZip (fV 0) (fV 1)) (bNot (bTr (fB (callP (C (k + 3)) G.dfl 58) (aCons (fV 2) (aCons (fV 3) aNil))))) (fK (.int 1)) [some (.tup (ps.map pD)), some (.tup (ps.map ptD)), none, none] st = .ok [] st := by
    have z : iZip (fV 0) (fV 1) [some (.tup (ps.map pD)), some (.tup (ps.map ptD)), none, none] st = .ok (List.zipWith (fun x y => D.tup [x, y]) (ps.map pD) (ps.map ptD), none) st := by simp
    have h := lComp_filt (p := .tp [(.nm 2), (.nm 3)]) (vs := [2, 3]) (t := bNot (bTr (fB (callP (C (k + 3)) G.dfl 58) (aCons (fV 2) (aCons (fV 3) aNil))))) (e := fK (.int 1)) (fun _ => false) (fun _ => .int 1) z (fun acc => rfl) (by rw [size_line]; show (List.zipWith _ _ _).length < _; simp; omega) (fun d hd s hs => by
      have : ∃ p : Pnt, d = .tup [pD p, ptD p] := by
        simp only [List.zipWith_map_left, List.zipWith_map_right, List.zipWith_self, List.mem_map] at hd
        obtain ⟨p, _, e⟩ := hd
        exact ⟨p, e.symm⟩
      obtain ⟨p, rfl⟩ := this
      refine ⟨[some (.tup (ps.map pD)), some (.tup (ps.map ptD)), some (pD p), some (ptD p)], by simp [wipeD], ?_, fun h => by cases h⟩
      simp [w_law_is_told])
    rw [h]
    simp
  have e0 : eqO (C (k + 3)) G.dfl G.eqf G.eqk false (.lst []) (.lst []) st = .ok (.bl true) st := by kernel_rfl
  rw [c70]; unfold defP b70
  simp [List.replicate, take_self, it, hc, e0, size_line]
/-! forms drawn -/
theorem w_law_is_form [Bd a 20] [Bd b 20] : C (k + 1) 60 [.tup [.int a, .int b]] st = .ok (.bl (decide (b * (a * a - b * 4) ≠ 0))) st := by
  have e : decide (b * (a * a - b * 4) ≠ 0) = decide (b * (a ^ 2 - 4 * b) ≠ 0) := by rw [Int.mul_comm b 4, Int.pow_succ, Int.pow_succ, Int.pow_zero, Int.one_mul]
  rw [c60, e]; unfold defP b60
  simp [List.replicate, take_self]
end
end K34
set_option Elab.async false
set_option linter.all false
set_option maxRecDepth 100000
set_option maxHeartbeats 2000000
set_option exponentiation.threshold 20000
namespace K34
open PySem PySem.Spec L2 Ev
/-! forms drawn, points of forms -/
section
variable {k c : Nat} {r : Store} {P : Pen} {a b : Int}
theorem form_go {ws : List D} : ∀ (ds : List D) (c : Nat) (P : Pen) (o2 o3 : Option D), PenOk c P → c + 2 * ds.length < 1000000 →
    ∃ P', PenOk (c + 2 * ds.length) P' ∧ ((∃ e, fLoop (.nm 2) (b61_l1 (C (k + 2))) (ws, none) ds [some (.ref 1), some (.int 20), o2, o3] (W r P) = .nx e (W r P')) ∨ ∃ a b : Int, -20 ≤ a ∧ a ≤ 20 ∧ -20 ≤ b ∧ b ≤ 20 ∧ fLoop (.nm 2) (b61_l1 (C (k + 2))) (ws, none) ds [some (.ref 1), some (.int 20), o2, o3] (W r P) = .rt (.tup [.int a, .int b]) (W r P'))
  | [], c, P, o2, o3, ok, hc => ⟨P, ok, .inl ⟨_, fl_nil⟩⟩
  | d :: ds, c, P, o2, o3, ok, hc => by
    simp only [List.length_cons] at hc ⊢
    obtain ⟨a, P1, e1, a0, a1, ok1⟩ := w_law_int (k := k) (r := r) (m := 20) ok (by omega) (by decide) (by decide)
    obtain ⟨b, P2, e2, b0, b1, ok2⟩ := w_law_int (k := k) (r := r) (m := 20) ok1 (by omega) (by decide) (by decide)
    have ba : Bd a 20 := bd_le (by omega) (by omega)
    have bb : Bd b 20 := bd_le (by omega) (by omega)
    have f := w_law_is_form (k := k + 1) (st := W r P2) (a := a) (b := b)
    by_cases hf : b * (a * a - b * 4) ≠ 0
    · refine ⟨P2, ok2.mono (by omega), .inr ⟨a, b, a0, a1, b0, b1, ?_⟩⟩
      rw [decide_eq_true hf] at f
      rw [fl_nm]
      unfold b61_l1
      simp [x_if, e1, e2, f, size_line]
    · rw [decide_eq_false hf] at f
      obtain ⟨P', ok', h⟩ := form_go (ws := ws) ds (c + 1 + 1) P2 (some d) (some (.tup [.int a, .int b])) ok2 (by omega)
      refine ⟨P', ok'.mono (by omega), ?_⟩
      have e : fLoop (.nm 2) (b61_l1 (C (k + 2))) (ws, none) (d :: ds) [some (.ref 1), some (.int 20), o2, o3] (W r P) = fLoop (.nm 2) (b61_l1 (C (k + 2))) (ws, none) ds [some (.ref 1), some (.int 20), some d, some (.tup [.int a, .int b])] (W r P2) := by
        rw [fl_nm]
        have eb : b61_l1 (C (k + 2)) [some (.ref 1), some (.int 20), some d, o3] (W r P) = .nx [some (.ref 1), some (.int 20), some d, some (.tup [.int a, .int b])] (W r P2) := by
          unfold b61_l1
          simp [x_if, e1, e2, f, size_line]
        simp only [List.set, eb, lp_nx]
      rw [e]
      exact h
theorem w_law_form (ok : PenOk c P) (hc : c < 900000) : ∃ (a b : Int) (P' : Pen), -20 ≤ a ∧ a ≤ 20 ∧ -20 ≤ b ∧ b ≤ 20 ∧ PenOk (c + 24) P' ∧ C (k + 3) 61 [.ref 1, .int 20] (W r P) = .ok (.tup [.int a, .int b]) (W r P') := by
  have hr : iR1 (fK (.int 12)) [some (.ref 1), some (.int 20), none, none] (W r P) = .ok (intsD 0 12, none) (W r P) := r1_int (i := 12) rfl (by unfold smallR; decide)
  have hl : (intsD 0 12).length = 12 := rfl
  obtain ⟨P', ok', h⟩ := form_go (k := k) (r := r) (ws := intsD 0 12) (intsD 0 12) c P none none ok (by rw [hl]; omega)
  rw [hl] at ok'
  rcases h with ⟨e, h⟩ | ⟨a, b, a0, a1, b0, b1, h⟩
  · refine ⟨0, -1, P', by decide, by decide, by decide, by decide, ok', ?_⟩
    rw [c61]; unfold defP b61
    generalize intsD 0 12 = ws at *
    simp [-x_r1, List.replicate, hr, h, W_len, W_take, size_line]
  · refine ⟨a, b, P', a0, a1, b0, b1, ok', ?_⟩
    rw [c61]; unfold defP b61
    generalize intsD 0 12 = ws at *
    simp [-x_r1, List.replicate, hr, h, W_len, W_take, size_line]
theorem w_law_listed {xs : List D} (ok : PenOk c P) (hc : c < 1000000) (hx : xs.length < 1000) : ∃ (d : D) (P' : Pen), (d = .tup xs ∨ d = .lst xs) ∧ PenOk (c + 1) P' ∧ C (k + 2) 39 [.ref 1, .tup xs] (W r P) = .ok d (W r P') := by
  obtain ⟨v, P', e, h0, h1, ok'⟩ := w_law_draw (k := k) (r := r) (m := 2) ok hc (by decide) (by decide)
  have gt : gTup [.tup xs] (W r P') = .ok (.tup xs) (W r P') := rfl
  have el : lList (fV 1) [some (.ref 1), some (.tup xs)] (W r P') = .ok xs (W r P') := x_llist rfl rfl
  by_cases hv : v = 0
  · refine ⟨.lst xs, P', .inr rfl, ok', ?_⟩
    rw [c39]; unfold defP b39
    simp [List.replicate, e, hv, W_len, W_take, el]
  · refine ⟨.tup xs, P', .inl rfl, ok', ?_⟩
    rw [c39]; unfold defP b39
    simp [List.replicate, e, hv, W_len, W_take, gt]
end
end K34
set_option Elab.async false
set_option linter.all false
set_option maxRecDepth 100000
set_option maxHeartbeats 2000000
set_option exponentiation.threshold 20000
namespace K34
open PySem PySem.Spec L2 Ev
section
variable {k c : Nat} {st : Store} {a b : Int}
/-- a good list of points -/
def Good (a b : Int) (ps : List Pnt) : Prop := ∀ p ∈ ps, On a b p ∧ Sz 6 12 p
theorem sq_bd2 {s n : Int} {k : Nat} (h : s * s = n) (c : Bd n (k + k)) : Bd s k := by
  refine ⟨?_⟩
  have h1 := c.h
  rw [← h, Int.natAbs_mul, Nat.pow_add] at h1
  exact sq_lt.mp h1
/-- a point of the search -/
theorem fp_on {m e root : Int} (he : 1 ≤ e) (h : root * root = m * (m * m + a * m * e * e + b * e ^ 4)) : On a b (some (rq m (e * e), rq root (e ^ 3))) := by
  have hr : (root : Rat) * root = m * (m * m + a * m * e * e + b * (e * e * e * e)) := by
    have e4 : e ^ 4 = e * e * e * e := by grind
    rw [e4] at h
    rw [← Rat.intCast_mul, h]
    simp only [Rat.intCast_mul, Rat.intCast_add]
  have e0 : (e : Rat) ≠ 0 := fun z => by have := Rat.intCast_eq_zero_iff.mp z; omega
  have e3 : e ^ 3 = e * e * e := by grind
  rw [e3]
  unfold rq
  show _ * _ = _
  simp only [Rat.intCast_mul]
  generalize (root : Rat) = R at *
  generalize (e : Rat) = E at *
  generalize (m : Rat) = M at *
  generalize (a : Rat) = A at *
  generalize (b : Rat) = B at *
  obtain ⟨I, hI⟩ : ∃ I, I = E⁻¹ := ⟨_, rfl⟩
  have hEI : E * I = 1 := by grind
  have q1 : M / (E * E) = M * I * I := by grind
  have q2 : R / (E * E * E) = R * I * I * I := by grind
  rw [q1, q2]
  grind
theorem fp_sz {m e root : Int} [Bd a 6] [Bd b 9] [bm : Bd m 5] [be : Bd e 2] (he : 1 ≤ e) (h : root * root = m * (m * m + a * m * e * e + b * e ^ 4)) : Bd root 12 ∧ Sz 6 12 (some (rq m (e * e), rq root (e ^ 3))) := by
  have bN : Bd (m * (m * m + a * m * e * e + b * e ^ 4)) 24 := (inferInstance : Bd (m * (m * m + a * m * e * e + b * e ^ 4)) (5 + (max (max (5 + 5) (6 + 5 + 2 + 2) + 1) (9 + (2 * 4 + 1)) + 1))).mono (by decide)
  have br : Bd root 12 := sq_bd2 (k := 12) h bN
  have e1 : e * e ≠ 0 := Int.mul_ne_zero (by omega) (by omega)
  have e2 : e ^ 3 ≠ 0 := fun z => by have : e * e * e = 0 := by rw [← z]; grind
                                     exact Int.mul_ne_zero e1 (by omega) this
  refine ⟨br, bq_rq e1 (bm.mono (by decide)) ((inferInstance : Bd (e * e) 4).mono (by decide)), bq_rq e2 br ((inferInstance : Bd (e ^ 3) (2 * 3 + 1)).mono (by decide))⟩
theorem fp_step {ps : List Pnt} {m e : Int} [Bd a 6] [Bd b 9] [bm : Bd m 5] [be : Bd e 2] (he : 1 ≤ e) (hg : Good a b ps) (hl : ps.length < 1000000) {f1 o5 o6 : Option D} :
    ∃ ps' o5' o6', Good a b ps' ∧ ps ⊆ ps' ∧ ps'.length ≤ ps.length + 2 ∧ b62_l1 (C (k + 2)) [some (.tup [.int a, .int b]), f1, some (.ref st.length), some (.int e), some (.int m), o5, o6] (st ++ [.lst (ps.map ptD)]) = .nx [some (.tup [.int a, .int b]), f1, some (.ref st.length), some (.int e), some (.int m), o5', o6'] (st ++ [.lst (ps'.map ptD)]) := by
  have eg := fun s => w_law_gcd (k := k + 1) (st := s) (x := m) (y := e) (l := 2) (by decide)
  unfold b62_l1
  by_cases h0 : m = 0
  · exact ⟨ps, o5, o6, hg, List.Subset.refl _, by omega, by simp [x_if, h0]⟩
  · by_cases h1 : ((Nat.gcd m.natAbs e.natAbs : Nat) : Int) = 1
    · have bN : Bd (m * (m * m + a * m * e * e + b * e ^ 4)) 25 := (inferInstance : Bd (m * (m * m + a * m * e * e + b * e ^ 4)) (5 + (max (max (5 + 5) (6 + 5 + 2 + 2) + 1) (9 + (2 * 4 + 1)) + 1))).mono (by decide)
      have er := fun s => w_law_root (k := k) (st := s) (n := m * (m * m + a * m * e * e + b * e ^ 4)) (l := 25) (c := bN) (by decide)
      have e4 : ∀ s, binQ .Pow (.int e) (.int 4) s = .ok (.int (e ^ 4)) s := fun s => bq_pow (by decide)
      have e3 : ∀ s, binQ .Pow (.int e) (.int 3) s = .ok (.int (e ^ 3)) s := fun s => bq_pow (by decide)
      cases hr : sqI (m * (m * m + a * m * e * e + b * e ^ 4)) with
      | none =>
        rw [hr] at er
        have i0 : ∀ s, isnQ .non .non s = .ok (.bl false) s := fun _ => rfl
        exact ⟨ps, some .non, o6, hg, List.Subset.refl _, by omega, by simp [x_if, h0, eg, h1, er, e4, oI, i0]⟩
      | some root =>
        rw [hr] at er
        have i0 : ∀ s, isnQ (.int root) .non s = .ok (.bl true) s := fun _ => rfl
        have hrr := (sqI_some hr).1
        have on1 := fp_on he hrr
        obtain ⟨br, sz1⟩ := fp_sz he hrr
        have on2 : On a b (some (rq m (e * e), rq (-root) (e ^ 3))) := fp_on he (by rw [← hrr]; grind)
        obtain ⟨br', sz2⟩ := fp_sz (root := -root) he (by rw [← hrr]; grind)
        have e1 : e * e ≠ 0 := Int.mul_ne_zero (by omega) (by omega)
        have e2 : e ^ 3 ≠ 0 := fun z => by have : e * e * e = 0 := by rw [← z]; grind
                                           exact Int.mul_ne_zero e1 (by omega) this
        have q1 := fun s => w_law_q (k := k) (st := s) (x := m) (y := e * e) (by decide) e1
        have q2 := fun s => w_law_q (k := k) (st := s) (x := root) (y := e ^ 3) (by decide) e2
        have q3 := fun s => w_law_q (k := k) (st := s) (x := -root) (y := e ^ 3) (by decide) e2
        have l1 : (ps.map ptD).length < 16777216 := by simp; omega
        have l2 : (ps.map ptD ++ [D.tup [qd (rq m (e * e)), qd (rq root (e ^ 3))]]).length < 16777216 := by simp; omega
        have z1 : ps.map ptD ++ [.tup [qd (rq m (e * e)), qd (rq root (e ^ 3))]] = (ps ++ [some (rq m (e * e), rq root (e ^ 3))]).map ptD := by simp [ptD_some]
        have z2 : ps.map ptD ++ [.tup [qd (rq m (e * e)), qd (rq root (e ^ 3))]] ++ [.tup [qd (rq m (e * e)), qd (rq (-root) (e ^ 3))]] = (ps ++ [some (rq m (e * e), rq root (e ^ 3)), some (rq m (e * e), rq (-root) (e ^ 3))]).map ptD := by simp [ptD_some]
        have g1 : Good a b (ps ++ [some (rq m (e * e), rq root (e ^ 3))]) := fun p hp => by
          rcases List.mem_append.mp hp with h | h
          · exact hg p h
          · simp at h; subst h; exact ⟨on1, sz1⟩
        have g2 : Good a b (ps ++ [some (rq m (e * e), rq root (e ^ 3)), some (rq m (e * e), rq (-root) (e ^ 3))]) := fun p hp => by
          rcases List.mem_append.mp hp with h | h
          · exact hg p h
          · simp at h
            rcases h with h | h <;> subst h
            · exact ⟨on1, sz1⟩
            · exact ⟨on2, sz2⟩
        by_cases hz : root = 0
        · subst hz
          refine ⟨_, some (.int 0), some (qd (rq m (e * e))), g1, List.subset_append_left _ _, by simp, ?_⟩
          rw [← z1]
          generalize ps.map ptD = ds at *
          simp [x_if, h0, eg, h1, er, e4, e3, oI, i0, q1, q2, size_line, appO_app l1]
        · refine ⟨_, some (.int root), some (qd (rq m (e * e))), g2, List.subset_append_left _ _, by simp, ?_⟩
          rw [← z2]
          generalize ps.map ptD = ds at *
          have a1 : ∀ z w : D, appO (.ref st.length) w (some (z, st ++ [.lst ds])) = .ok .non (st ++ [.lst (ds ++ [z])]) := fun z w => appO_app l1
          have a2 : ∀ z : D, appO (.ref st.length) z (some (z, st ++ [.lst (ds ++ [D.tup [qd (rq m (e * e)), qd (rq root (e ^ 3))]])])) = .ok .non (st ++ [.lst (ds ++ [D.tup [qd (rq m (e * e)), qd (rq root (e ^ 3))]] ++ [z])]) := fun z => appO_app l2
          generalize rq m (e * e) = X at *
          generalize rq root (e ^ 3) = Y at *
          generalize rq (-root) (e ^ 3) = Y2 at *
          simp [x_if, h0, eg, h1, er, e4, e3, oI, i0, q1, q2, q3, hz, size_line, a1, a2]
    · exact ⟨ps, o5, o6, hg, List.Subset.refl _, by omega, by simp [x_if, h0, eg, h1]⟩
end
end K34
set_option Elab.async false
set_option linter.all false
set_option maxRecDepth 100000
set_option maxHeartbeats 2000000
set_option exponentiation.threshold 20000
namespace K34
open PySem PySem.Spec L2 Ev
section
variable {k c : Nat} {st : Store} {a b : Int}
theorem fp_in {e : Int} [Bd a 6] [Bd b 9] [be : Bd e 2] (he : 1 ≤ e) {f1 : Option D} {ws : List D} : ∀ (ds : List D) (ps : List Pnt) (o4 o5 o6 : Option D), (∀ d ∈ ds, ∃ m : Int, d = .int m ∧ Bd m 5) → Good a b ps → ps.length + 2 * ds.length < 1000000 →
    ∃ ps' o4' o5' o6', Good a b ps' ∧ ps ⊆ ps' ∧ ps'.length ≤ ps.length + 2 * ds.length ∧ fLoop (.nm 4) (b62_l1 (C (k + 2))) (ws, none) ds [some (.tup [.int a, .int b]), f1, some (.ref st.length), some (.int e), o4, o5, o6] (st ++ [.lst (ps.map ptD)]) = .nx [some (.tup [.int a, .int b]), f1, some (.ref st.length), some (.int e), o4', o5', o6'] (st ++ [.lst (ps'.map ptD)])
  | [], ps, o4, o5, o6, _, hg, hl => ⟨ps, o4, o5, o6, hg, List.Subset.refl _, by omega, fl_nil⟩
  | d :: ds, ps, o4, o5, o6, hd, hg, hl => by
    simp only [List.length_cons] at hl ⊢
    obtain ⟨m, rfl, bm⟩ := hd d (List.mem_cons_self ..)
    obtain ⟨ps1, o51, o61, g1, s1, l1, e1⟩ := fp_step (k := k) (st := st) (f1 := f1) (o5 := o5) (o6 := o6) (m := m) he hg (by omega)
    obtain ⟨ps2, o42, o52, o62, g2, s2, l2, e2⟩ := fp_in he (f1 := f1) (ws := ws) ds ps1 (some (.int m)) o51 o61 (fun d' h' => hd d' (List.mem_cons_of_mem _ h')) g1 (by omega)
    refine ⟨ps2, o42, o52, o62, g2, List.Subset.trans s1 s2, by omega, ?_⟩
    rw [fl_nm]
    simp only [List.set, e1, lp_nx]
    exact e2
theorem bd_of {m : Int} (h0 : -25 ≤ m) (h1 : m ≤ 25) : Bd m 5 := bd_le (by omega) (by omega)
theorem fp_out {e most : Int} [Bd a 6] [Bd b 9] (he : 1 ≤ e) (he2 : e ≤ 3) (hm : 0 ≤ most) (hm2 : most ≤ 25) {ps : List Pnt} (hg : Good a b ps) (hl : ps.length < 900000) {o4 o5 o6 : Option D} :
    ∃ ps' o4' o5' o6', Good a b ps' ∧ ps ⊆ ps' ∧ ps'.length ≤ ps.length + 102 ∧ b62_l2 (C (k + 2)) [some (.tup [.int a, .int b]), some (.int most), some (.ref st.length), some (.int e), o4, o5, o6] (st ++ [.lst (ps.map ptD)]) = .nx [some (.tup [.int a, .int b]), some (.int most), some (.ref st.length), some (.int e), o4', o5', o6'] (st ++ [.lst (ps'.map ptD)]) := by
  have be : Bd e 2 := bd_le (by omega) (by omega)
  have hlen : (intsD (-most) (most + 1 - -most).toNat).length = (most + 1 - -most).toNat := by simp [intsD]
  have hd : ∀ d ∈ intsD (-most) (most + 1 - -most).toNat, ∃ m : Int, d = .int m ∧ Bd m 5 := fun d hd => by
    unfold intsD at hd
    simp only [List.mem_map, List.mem_range] at hd
    obtain ⟨i, hi, e⟩ := hd
    exact ⟨_, e.symm, bd_of (by omega) (by omega)⟩
  obtain ⟨ps', o4', o5', o6', g, s, l, ee⟩ := fp_in (k := k) (st := st) (ws := intsD (-most) (most + 1 - -most).toNat) (f1 := some (.int most)) he (intsD (-most) (most + 1 - -most).toNat) ps o4 o5 o6 hd hg (by rw [hlen]; omega)
  refine ⟨ps', o4', o5', o6', g, s, by rw [hlen] at l; omega, ?_⟩
  unfold b62_l2
  have hr : iR2 (Ev.f1 (negO (C (k + 2)) G.dfl G.ngf) (fV 1)) (Ev.f2 (binO (C (k + 2)) G.dfl G.opf .Add) (fV 1) (fK (.int 1))) [some (.tup [.int a, .int b]), some (.int most), some (.ref st.length), some (.int e), o4, o5, o6] (st ++ [.lst (ps.map ptD)]) = .ok (intsD (-most) (most + 1 - -most).toNat, none) (st ++ [.lst (ps.map ptD)]) := by
    have e0 : (Ev.f1 (negO (C (k + 2)) G.dfl G.ngf) (fV 1)) [some (.tup [.int a, .int b]), some (.int most), some (.ref st.length), some (.int e), o4, o5, o6] (st ++ [.lst (ps.map ptD)]) = .ok (.int (-most)) (st ++ [.lst (ps.map ptD)]) := by simp
    have e1 : (Ev.f2 (binO (C (k + 2)) G.dfl G.opf .Add) (fV 1) (fK (.int 1))) [some (.tup [.int a, .int b]), some (.int most), some (.ref st.length), some (.int e), o4, o5, o6] (st ++ [.lst (ps.map ptD)]) = .ok (.int (most + 1)) (st ++ [.lst (ps.map ptD)]) := by simp
    unfold iR2
    rw [e0]
    simp only [bind_ok]
    rw [e1]
    simp only [bind_ok]
    exact if_pos (by unfold smallR; omega)
  generalize intsD (-most) (most + 1 - -most).toNat = ws at *
  simp [hr, ee]
theorem w_law_form_points {most : Int} [Bd a 6] [Bd b 9] (hm : 0 ≤ most) (hm2 : most ≤ 25) : ∃ ps : List Pnt, Good a b ps ∧ ps ≠ [] ∧ ps.length < 1000 ∧ C (k + 3) 62 [.tup [.int a, .int b], .int most] st = .ok (.lst (ps.map ptD)) st := by
  have g0 : Good a b [none, some (0, 0)] := fun p hp => by
    simp at hp
    rcases hp with h | h <;> subst h
    · exact ⟨trivial, trivial⟩
    · refine ⟨?_, bq_0.mono (by decide), bq_0.mono (by decide)⟩
      show (0 : Rat) * 0 = 0 * _
      rw [Rat.zero_mul, Rat.zero_mul]
  obtain ⟨p1, x4, x5, x6, g1, s1, l1, e1⟩ := fp_out (k := k) (st := st) (e := 1) (most := most) (by decide) (by decide) hm hm2 g0 (by decide) (o4 := none) (o5 := none) (o6 := none)
  simp only [List.length_cons, List.length_nil] at l1
  obtain ⟨p2, y4, y5, y6, g2, s2, l2, e2⟩ := fp_out (k := k) (st := st) (e := 2) (most := most) (by decide) (by decide) hm hm2 g1 (by omega) (o4 := x4) (o5 := x5) (o6 := x6)
  obtain ⟨p3, z4, z5, z6, g3, s3, l3, e3⟩ := fp_out (k := k) (st := st) (e := 3) (most := most) (by decide) (by decide) hm hm2 g2 (by omega) (o4 := y4) (o5 := y5) (o6 := y6)
  refine ⟨p3, g3, ?_, by omega, ?_⟩
  · intro z
    have : none ∈ p3 := s3 (s2 (s1 (by simp)))
    rw [z] at this
    simp at this
  · have z0 : [none, some ((0 : Rat), (0 : Rat))].map ptD = [.non, .tup [qd 0, qd 0]] := rfl
    rw [z0] at e1
    have hret : retP false st.length (.ref st.length) (st ++ [.lst (p3.map ptD)]) = .ok (.lst (p3.map ptD)) st := by
      unfold retP
      simp
    rw [c62]; unfold defP b62
    generalize p3.map ptD = d3 at *
    generalize p2.map ptD = d2 at *
    generalize p1.map ptD = d1 at *
    simp [List.replicate, lit0, size_line, e1, e2, e3, hret]
end
end K34
set_option Elab.async false
set_option linter.all false
set_option maxRecDepth 100000
set_option maxHeartbeats 2000000
set_option exponentiation.threshold 20000
namespace K34
open PySem PySem.Spec L2 Ev
/-! one point of the law's loops -/
section
variable {k c : Nat} {st : Store} {r : Store} {P : Pen} {a b : Int} {p : Pnt}
theorem ord2_sz {x y x2 y2 : Rat} {n m : Nat} (h : Bq x n) (h1 : Bq y m) (h2 : Bq x2 n) (h3 : Bq y2 m) : ∀ h ∈ ord2 (x, y) (x2, y2), Sz n m h := fun h hm => by
  rcases ord2_mem hm with e | e <;> subst e
  · exact ⟨h, h1⟩
  · exact ⟨h2, h3⟩
theorem ahead_sz [Bd a 20] [Bd b 20] (hs : Sz 240 360 p) : ∀ h ∈ aheadF a b p, Sz 880 1120 h := by
  intro h hm
  cases p with
  | none =>
    simp [aheadF] at hm
    rcases hm with e | e <;> subst e
    · trivial
    · exact ⟨bq_0.mono (by decide), bq_0.mono (by decide)⟩
  | some q =>
    obtain ⟨x, y⟩ := q
    obtain ⟨bx, bY⟩ := sz_some hs
    unfold aheadF at hm
    dsimp only at hm
    by_cases hx : x = 0
    · rw [if_pos hx] at hm
      cases hr : sqI b with
      | none => rw [hr] at hm; simp at hm
      | some s =>
        rw [hr] at hm
        have br : Bd s 20 := sq_bd (sqI_some hr).1 (by decide)
        have b1 : Bd (a - 2 * s) 23 := inferInstance
        have b2 : Bd (a + 2 * s) 23 := inferInstance
        simp only [List.mem_cons, List.not_mem_nil, or_false] at hm
        rcases hm with e | e <;> subst e
        · exact ⟨(bq_int b1).mono (by decide), bq_0.mono (by decide)⟩
        · exact ⟨(bq_int b2).mono (by decide), bq_0.mono (by decide)⟩
    · rw [if_neg hx] at hm
      cases hr : sqQ x with
      | none => rw [hr] at hm; simp at hm
      | some s =>
        rw [hr] at hm
        have br : Bq s 240 := sqQ_bq (by decide) hr
        exact ord2_sz ((inferInstance : Bq (2 * x + a - 2 * y / s) 867).mono (by decide)) ((inferInstance : Bq (2 * s * (2 * x + a - 2 * y / s)) 1109).mono (by decide)) ((inferInstance : Bq (2 * x + a + 2 * y / s) 867).mono (by decide)) ((inferInstance : Bq (-(2 * s * (2 * x + a + 2 * y / s))) 1109).mono (by decide)) h hm
theorem before_sz [Bd a 20] [Bd b 20] (hs : Sz 240 360 p) : ∀ h ∈ beforeF a b p, Sz 880 1120 h := by
  intro h hm
  cases p with
  | none =>
    simp [beforeF] at hm
    rcases hm with e | e <;> subst e
    · trivial
    · exact ⟨bq_0.mono (by decide), bq_0.mono (by decide)⟩
  | some q =>
    obtain ⟨x, y⟩ := q
    obtain ⟨bx, bY⟩ := sz_some hs
    unfold beforeF at hm
    dsimp only at hm
    by_cases hx : x = 0
    · rw [if_pos hx] at hm
      have bB : Bd (a * a - 4 * b) 41 := (inferInstance : Bd (a * a - 4 * b) (max (20 + 20) (3 + 20) + 1)).mono (by decide)
      cases hr : sqI (a * a - 4 * b) with
      | none => rw [hr] at hm; simp at hm
      | some s =>
        rw [hr] at hm
        have br : Bd s 41 := sq_bd (sqI_some hr).1 (by decide)
        have b1 : Bd (-a - s) 42 := inferInstance
        have b2 : Bd (s - a) 42 := inferInstance
        simp only [List.mem_cons, List.not_mem_nil, or_false] at hm
        have two : Bd (2 : Int) 42 := bl_2.mono (by decide)
        rcases hm with e | e <;> subst e
        · exact ⟨(bq_rq (by decide) b1 two).mono (by decide), bq_0.mono (by decide)⟩
        · exact ⟨(bq_rq (by decide) b2 two).mono (by decide), bq_0.mono (by decide)⟩
    · rw [if_neg hx] at hm
      cases hr : sqQ x with
      | none => rw [hr] at hm; simp at hm
      | some s =>
        rw [hr] at hm
        have br : Bq s 240 := sqQ_bq (by decide) hr
        exact ord2_sz ((inferInstance : Bq ((x - a - y / s) / 2) 865).mono (by decide)) ((inferInstance : Bq (s * ((x - a - y / s) / 2)) 1105).mono (by decide)) ((inferInstance : Bq ((x - a + y / s) / 2) 865).mono (by decide)) ((inferInstance : Bq (-(s * ((x - a + y / s) / 2))) 1105).mono (by decide)) h hm
theorem ahead_len : (aheadF a b p).length < 1000 := by
  unfold aheadF ord2
  split
  · simp
  · split
    · split <;> simp
    · split
      · simp
      · split <;> simp
theorem before_len : (beforeF a b p).length < 1000 := by
  unfold beforeF ord2
  split
  · simp
  · split
    · split <;> simp
    · split
      · simp
      · split <;> simp
/-- nothing is counted -/
theorem lc_none {ds : List D} {t : Fb} {e0 : Ev.Env} {i v : Nat} {e1 : D → Ev.Env} (hi : e0[i]? = some (some (.tup ds))) (hl : ds.length < 1000) (he : ∀ d, (wipeD e0 [v]).set v (some d) = e1 d) (ht : ∀ d ∈ ds, ∀ s, t (e1 d) s = .ok false s) :
    lComp (.nm v) [v] (iSeq (fV i)) t (fK (.int 1)) e0 st = .ok [] st := by
  have h := lComp_filt (st := st) (st1 := st) (env := e0) (i := iSeq (fV i)) (p := .nm v) (vs := [v]) (wk := (ds, none)) (t := t) (e := fK (.int 1)) (fun _ => false) (fun _ => .int 1) (itup hi) (fun acc => rfl) (by rw [size_line]; show ds.length < _; omega) (fun d hd s hs => ⟨e1 d, by rw [← he]; exact pt_nm, ht d hd s, fun h => by cases h⟩)
  rw [h]
  simp
theorem ne_nil {k : Nat} : eqO (C k) G.dfl G.eqf G.eqk true (.lst []) (.lst []) st = .ok (.bl false) st := by kernel_rfl
end
end K34
set_option Elab.async false
set_option linter.all false
set_option maxRecDepth 100000
set_option maxHeartbeats 2000000
set_option exponentiation.threshold 20000
namespace K34
open PySem PySem.Spec L2 Ev
/-! one point of the law's loops, walked -/
section
variable {k c : Nat} {r : Store} {P : Pen} {a b A B : Int} {p : Pnt}
theorem turn1 (ia : Bd a 8) (ib : Bd b 8) (bA : Bd A 20) (bB : Bd B 20) (hA : A = -2 * a) (hB : B = a * a - 4 * b) (F : Fm a b) (o : On a b p) (hs : Sz 240 360 p) (ok : PenOk c P) (hc : c < 900000) {x0 x2 x4 x5 x7 x8 x9 x10 x12 x13 x14 x15 x16 : Option D} :
    ∃ P' y12 y13 y14, PenOk (c + 1) P' ∧ b71_l1 (C (k + 6)) [x0, some (.ref 1), x2, some (.tup [.int a, .int b]), x4, x5, some (.tup (nsD A B)), x7, x8, x9, x10, some (ptD p), x12, x13, x14, x15, x16] (W r P) = .nx [x0, some (.ref 1), x2, some (.tup [.int a, .int b]), x4, x5, some (.tup (nsD A B)), x7, x8, x9, x10, some (ptD p), y12, y13, y14, x15, x16] (W r P') := by
  have ba : Bd a 20 := ia.mono (by decide)
  have bb : Bd b 20 := ib.mono (by decide)
  obtain ⟨d, P', hd, ok', el⟩ := w_law_listed (k := k + 4) (r := r) (xs := [.int a, .int b]) ok (by omega) (by simp)
  have ed := @w_law_ahead (k + 2) (W r P) a b p ba bb hs
  have ep := w_law_point (k := k + 3) (st := W r P') hs (by decide) (by decide)
  have et := @w_ahead k (W r P') a b p d ba bb (by rcases hd with h | h; exact .inl h; exact .inr h) F o hs
  have ha := w_law_are_told (k := k + 2) (st := W r P') (ps := aheadF a b p) ahead_len
  have hok := ahead_ok F o
  rw [← hA, ← hB] at hok
  have hsz := @ahead_sz a b p ba bb hs
  have c1 : lComp (.nm 14) [14] (iSeq (fV 12)) (bOr (bNot (bTr (fB (callP (C (k + 6)) G.dfl 54) (aCons (fV 6) (aCons (fV 14) aNil))))) (bTr (Ev.f2 (eqO (C (k + 6)) G.dfl G.eqf G.eqk true) (fB (callP (C (k + 6)) G.dfl 65) (aCons (fV 3) (aCons (fV 14) aNil))) (fV 11)))) (fK (.int 1)) [x0, some (.ref 1), x2, some (.tup [.int a, .int b]), x4, x5, some (.tup (nsD A B)), x7, x8, x9, x10, some (ptD p), some (.tup ((aheadF a b p).map ptD)), some (.tup ((aheadF a b p).map pD)), x14, x15, x16] (W r P') = .ok [] (W r P') :=
    lc_none (e1 := fun d => [x0, some (.ref 1), x2, some (.tup [.int a, .int b]), x4, x5, some (.tup (nsD A B)), x7, x8, x9, x10, some (ptD p), some (.tup ((aheadF a b p).map ptD)), some (.tup ((aheadF a b p).map pD)), some d, x15, x16]) rfl (by simp; exact ahead_len) (fun d => rfl) (fun d hd s => by
      obtain ⟨h, hm, rfl⟩ := List.mem_map.mp hd
      obtain ⟨on, bk⟩ := hok h hm
      have e1 := @w_law_lies (k + 1) s A B h bA bB on (hsz h hm)
      have e2 := @w_law_back (k + 2) s a b h ba bb (hsz h hm)
      have e3 := eq_ptD (call := C (k + 6)) (dfl := G.dfl) (eqf := G.eqf) (eqk := G.eqk) (neg := true) (st := s) (p := backF a b h) (q := p)
      rw [decide_eq_true bk] at e3
      simp [e1, e2, e3])
  have c2 : lComp (.nm 14) [14] (iSeq (fV 13)) (bNot (bTr (fB (callP (C (k + 6)) G.dfl 58) (aCons (fB (callP (C (k + 6)) G.dfl 31) (aCons (fV 3) (aCons (fV 14) aNil))) (aCons (fV 11) aNil))))) (fK (.int 1)) [x0, some (.ref 1), x2, some (.tup [.int a, .int b]), x4, x5, some (.tup (nsD A B)), x7, x8, x9, x10, some (ptD p), some (.tup ((aheadF a b p).map ptD)), some (.tup ((aheadF a b p).map pD)), x14, x15, x16] (W r P') = .ok [] (W r P') :=
    lc_none (e1 := fun d => [x0, some (.ref 1), x2, some (.tup [.int a, .int b]), x4, x5, some (.tup (nsD A B)), x7, x8, x9, x10, some (ptD p), some (.tup ((aheadF a b p).map ptD)), some (.tup ((aheadF a b p).map pD)), some d, x15, x16]) rfl (by simp; exact ahead_len) (fun d => rfl) (fun d hd s => by
      obtain ⟨h, hm, rfl⟩ := List.mem_map.mp hd
      obtain ⟨on, bk⟩ := hok h hm
      rw [hA, hB] at on
      have e1 := @w_back k s a b h _ ia ib (.inl rfl) F on (hsz h hm)
      have e2 := w_law_is_told (k := k + 3) (st := s) (p := p)
      rw [bk] at e1
      simp [e1, e2])
  refine ⟨P', some (.tup ((aheadF a b p).map ptD)), some (.tup ((aheadF a b p).map pD)), x14, ok', ?_⟩
  unfold b71_l1 b71_l1_1 b71_l1_2 b71_l1_3 b71_l1_4
  generalize (aheadF a b p).map ptD = du at *
  generalize (aheadF a b p).map pD = to at *
  generalize ptD p = dp at *
  generalize pD p = pp at *
  generalize nsD A B = nn at *
  simp [x_if, ed, el, ep, et, ha, c1, c2, ne_nil, size_line]
theorem turn2 (ia : Bd a 8) (ib : Bd b 8) (bA : Bd A 20) (bB : Bd B 20) (hA : A = -2 * a) (hB : B = a * a - 4 * b) (F : Fm a b) (o : On A B p) (hs : Sz 240 360 p) {x0 x1 x2 x4 x6 x7 x8 x9 x10 x12 x13 x14 x15 x16 : Option D} :
    ∃ y12 y13 y14, b71_l2 (C (k + 6)) [x0, x1, x2, some (.tup [.int a, .int b]), x4, some (.tup (nsD a b)), x6, x7, x8, x9, x10, some (ptD p), x12, x13, x14, x15, x16] (W r P) = .nx [x0, x1, x2, some (.tup [.int a, .int b]), x4, some (.tup (nsD a b)), x6, x7, x8, x9, x10, some (ptD p), y12, y13, y14, x15, x16] (W r P) := by
  have ba : Bd a 20 := ia.mono (by decide)
  have bb : Bd b 20 := ib.mono (by decide)
  rw [hA, hB] at o
  have ed := @w_law_before (k + 2) (W r P) a b p ba bb hs
  have ep := w_law_point (k := k + 3) (st := W r P) hs (by decide) (by decide)
  have et := @w_before k (W r P) a b p _ ia ib (.inl rfl) F o hs
  have ha := w_law_are_told (k := k + 2) (st := W r P) (ps := beforeF a b p) before_len
  have hok := before_ok F o
  have hsz := @before_sz a b p ba bb hs
  have c1 : lComp (.nm 14) [14] (iSeq (fV 12)) (bOr (bNot (bTr (fB (callP (C (k + 6)) G.dfl 54) (aCons (fV 5) (aCons (fV 14) aNil))))) (bTr (Ev.f2 (eqO (C (k + 6)) G.dfl G.eqf G.eqk true) (fB (callP (C (k + 6)) G.dfl 64) (aCons (fV 3) (aCons (fV 14) aNil))) (fV 11)))) (fK (.int 1)) [x0, x1, x2, some (.tup [.int a, .int b]), x4, some (.tup (nsD a b)), x6, x7, x8, x9, x10, some (ptD p), some (.tup ((beforeF a b p).map ptD)), some (.tup ((beforeF a b p).map pD)), x14, x15, x16] (W r P) = .ok [] (W r P) :=
    lc_none (e1 := fun d => [x0, x1, x2, some (.tup [.int a, .int b]), x4, some (.tup (nsD a b)), x6, x7, x8, x9, x10, some (ptD p), some (.tup ((beforeF a b p).map ptD)), some (.tup ((beforeF a b p).map pD)), some d, x15, x16]) rfl (by simp; exact before_len) (fun d => rfl) (fun d hd s => by
      obtain ⟨h, hm, rfl⟩ := List.mem_map.mp hd
      obtain ⟨on, bk⟩ := hok h hm
      have e1 := @w_law_lies (k + 1) s a b h ba bb on (hsz h hm)
      have e2 := @w_law_there (k + 2) s a b h ba bb (hsz h hm)
      have e3 := eq_ptD (call := C (k + 6)) (dfl := G.dfl) (eqf := G.eqf) (eqk := G.eqk) (neg := true) (st := s) (p := thereF b h) (q := p)
      rw [decide_eq_true bk] at e3
      simp [e1, e2, e3])
  have c2 : lComp (.nm 14) [14] (iSeq (fV 13)) (bNot (bTr (fB (callP (C (k + 6)) G.dfl 58) (aCons (fB (callP (C (k + 6)) G.dfl 29) (aCons (fV 3) (aCons (fV 14) aNil))) (aCons (fV 11) aNil))))) (fK (.int 1)) [x0, x1, x2, some (.tup [.int a, .int b]), x4, some (.tup (nsD a b)), x6, x7, x8, x9, x10, some (ptD p), some (.tup ((beforeF a b p).map ptD)), some (.tup ((beforeF a b p).map pD)), x14, x15, x16] (W r P) = .ok [] (W r P) :=
    lc_none (e1 := fun d => [x0, x1, x2, some (.tup [.int a, .int b]), x4, some (.tup (nsD a b)), x6, x7, x8, x9, x10, some (ptD p), some (.tup ((beforeF a b p).map ptD)), some (.tup ((beforeF a b p).map pD)), some d, x15, x16]) rfl (by simp; exact before_len) (fun d => rfl) (fun d hd s => by
      obtain ⟨h, hm, rfl⟩ := List.mem_map.mp hd
      obtain ⟨on, bk⟩ := hok h hm
      have e1 := @w_there k s a b h _ ba bb (.inl rfl) F on (hsz h hm)
      have e2 := w_law_is_told (k := k + 3) (st := s) (p := p)
      rw [bk] at e1
      simp [e1, e2])
  refine ⟨some (.tup ((beforeF a b p).map ptD)), some (.tup ((beforeF a b p).map pD)), x14, ?_⟩
  unfold b71_l2 b71_l2_1 b71_l2_2 b71_l2_3 b71_l2_4
  generalize (beforeF a b p).map ptD = du at *
  generalize (beforeF a b p).map pD = to at *
  generalize ptD p = dp at *
  generalize pD p = pp at *
  generalize nsD a b = nn at *
  simp [x_if, ed, ep, et, ha, c1, c2, ne_nil, size_line]
end
end K34
set_option Elab.async false
set_option linter.all false
set_option maxRecDepth 100000
set_option maxHeartbeats 2000000
set_option exponentiation.threshold 20000
namespace K34
open PySem PySem.Spec L2 Ev
/-! odd points -/
section
variable {k c : Nat} {st : Store} {r : Store} {P : Pen} {a b A B : Int} {p : Pnt} {d : D}
def odds : List D := [.int 3, .tup [.int 1], .str "far", .tup [.non, .int 2], .tup [.int 0, .int 0, .int 0], .tup [.bl true, .int 0], .tup [.int 0, .int 1]]
theorem w_is_number_d (h : plainK d = true) : C (k + 2) 9 [d] st = .ok (.bl (isI d)) st := by
  have e := w_is_integer (k := k) (st := st) h
  rw [c9]; unfold defP b9
  cases d with
  | non => have i : isaP G.io (.own 5) .non st = .ok (.bl false) st := by kernel_rfl
           simp [List.replicate, take_self, e, i, isI]
  | int j => simp [List.replicate, take_self, e, isI]
  | bl j => have i : isaP G.io (.own 5) (.bl j) st = .ok (.bl false) st := by kernel_rfl
            simp [List.replicate, take_self, e, i, isI]
  | str j => have i : isaP G.io (.own 5) (.str j) st = .ok (.bl false) st := by kernel_rfl
             simp [List.replicate, take_self, e, i, isI]
  | tup j => have i : isaP G.io (.own 5) (.tup j) st = .ok (.bl false) st := by kernel_rfl
             simp [List.replicate, take_self, e, i, isI]
  | lst j => have i : isaP G.io (.own 5) (.lst j) st = .ok (.bl false) st := by kernel_rfl
             simp [List.replicate, take_self, e, i, isI]
  | _ => cases h
theorem lc_num {xs : List D} (hx : xs.all plainK = true) (hl : xs.length < 1000) :
    lComp (.nm 1) [1] (iSeq (fV 0)) bYes (fB (callP (C (k + 2)) G.dfl 9) (aCons (fV 1) aNil)) [some (.tup xs), none] st = .ok (xs.map fun x => .bl (isI x)) st := by
  refine lComp_map (wk := (xs, none)) (fun x => .bl (isI x)) rfl (fun acc => rfl) (by rw [size_line]; show xs.length < _; omega) fun x hx' s hs => ?_
  have hp := List.all_eq_true.mp hx x hx'
  refine ⟨[some (.tup xs), some x], by simp [wipeD], rfl, ?_, rfl⟩
  simp [w_is_number_d hp]
theorem pair_none {xs : List D} (h0 : xs.length = 2) (hx : xs.all plainK = true) (hn : gAll [.lst (xs.map fun x => .bl (isI x))] st = .ok (.bl false) st) : C (k + 3) 23 [.tup xs] st = .ok .non st := by
  have h1 := w_is_row (k := k + 1) (st := st) (d := .tup xs) (.inr rfl)
  have hc := lc_num (k := k) (st := st) hx (by omega)
  have h2 : (xs.length : Int) = 2 := by omega
  rw [c23]; unfold defP b23
  simp [List.replicate, x_if, h1, hc, hn, take_self, h2]
theorem pair_len {xs : List D} (h0 : xs.length ≠ 2) : C (k + 3) 23 [.tup xs] st = .ok .non st := by
  have h1 := w_is_row (k := k + 1) (st := st) (d := .tup xs) (.inr rfl)
  have h2 : ¬ (xs.length : Int) = 2 := by omega
  rw [c23]; unfold defP b23
  simp [List.replicate, x_if, h1, take_self, h2]
theorem pair_no (h : kdOf st d = some .non ∨ kdOf st d = some .int ∨ kdOf st d = some .str ∨ kdOf st d = some .bl) : C (k + 3) 23 [d] st = .ok .non st := by
  have h1 := w_is_row_no (k := k + 1) (st := st) h
  rw [c23]; unfold defP b23
  simp [List.replicate, x_if, h1, take_self]
theorem w_plain_i {i : Int} : C (k + 3) 10 [.int i] st = .ok (rD i) st := by
  rw [c10]; unfold defP b10
  have m := mk_Ratio1 (k := k) (st := st) (t := i)
  simp [List.replicate, take_self, m]
theorem pair_ii {i j : Int} : C (k + 4) 23 [.tup [.int i, .int j]] st = .ok (.tup [rD i, rD j]) st := by
  have h1 := w_is_row (k := k + 2) (st := st) (d := .tup [.int i, .int j]) (.inr rfl)
  have hc := lc_num (k := k + 1) (st := st) (xs := [.int i, .int j]) rfl (by simp)
  have hg : gAll [.lst [.bl (isI (.int i)), .bl (isI (.int j))]] st = .ok (.bl true) st := rfl
  rw [c23]; unfold defP b23
  simp [List.replicate, x_if, h1, hc, hg, take_self, w_plain_i, size_line]
theorem np_non (hd : d ≠ .non) (hq : isQ d .non st = .ok (.bl false) st) (hf : frz d st = some (d, st)) (hp : C (k + 4) 23 [d] st = .ok .non st) {cv : D} : C (k + 5) 24 [cv, d] st = .exc 3 [(1, d)] st := by
  have ex : G.exf 3 = some [1] := by decide +kernel
  rw [c24]; unfold defP b24
  simp [List.replicate, x_if, hq, hp, isn_non, ex, hf, take_self]
theorem np_odd (h : Cv a b d) (ba : Bd a 20) (bb : Bd b 20) {o : D} (ho : o ∈ odds) : C (k + 5) 24 [d, o] st = .exc 3 [(1, o)] st := by
  simp only [odds, List.mem_cons, List.not_mem_nil, or_false] at ho
  rcases ho with e | e | e | e | e | e | e <;> subst e
  · exact np_non (by simp) rfl rfl (pair_no (.inr (.inl rfl)))
  · exact np_non (by simp) rfl rfl (pair_len (by simp))
  · exact np_non (by simp) rfl rfl (pair_no (.inr (.inr (.inl rfl))))
  · exact np_non (by simp) rfl rfl (pair_none rfl rfl rfl)
  · exact np_non (by simp) rfl rfl (pair_len (by simp))
  · exact np_non (by simp) rfl rfl (pair_none rfl rfl rfl)
  · have ex : G.exf 3 = some [1] := by decide +kernel
    have hp := pair_ii (k := k) (st := st) (i := 0) (j := 1)
    have e := @w_lies_on k st d a b ((0 : Int) : Rat) ((1 : Int) : Rat) h ba bb ((bq_int bl_0).mono (by decide)) ((bq_int bl_1).mono (by decide))
    have hz : decide ((((1 : Int) : Rat)) * ((1 : Int) : Rat) = ((0 : Int) : Rat) * (b + ((0 : Int) : Rat) * (a + ((0 : Int) : Rat)))) = false := by
      refine decide_eq_false ?_
      rw [show ((0 : Int) : Rat) = 0 from rfl, show ((1 : Int) : Rat) = 1 from rfl, Rat.zero_mul, Rat.mul_one]
      decide
    rw [hz] at e
    obtain ⟨fs, rfl, hf⟩ := h.ex
    generalize ((0 : Int) : Rat) = R0 at *
    generalize ((1 : Int) : Rat) = R1 at *
    rw [c24]; unfold defP b24
    simp [List.replicate, x_if, hp, isn_tup, ex, e, take_self]
theorem ahead_odd (ia : Bd a 8) (ib : Bd b 8) (F : Fm a b) {o : D} (ho : o ∈ odds) : C (k + 6) 33 [.tup [.int a, .int b], o] st = .exc 3 [(1, o)] st := by
  have ba : Bd a 20 := ia.mono (by decide)
  have bb : Bd b 20 := ib.mono (by decide)
  have n := @w_need_form (k + 2) st a b _ ba bb (.inl rfl) F
  obtain ⟨c, hc, ec⟩ := @w_curve_of_form (k + 2) st a b ba bb F
  have np := np_odd (k := k) (st := st) hc ba bb ho
  rw [c33]; unfold defP b33
  simp [List.replicate, take_self, n, ec, np]
theorem before_odd (ia : Bd a 8) (ib : Bd b 8) (F : Fm a b) {o : D} (ho : o ∈ odds) : C (k + 6) 35 [.tup [.int a, .int b], o] st = .exc 3 [(1, o)] st := by
  have ba : Bd a 20 := ia.mono (by decide)
  have bb : Bd b 20 := ib.mono (by decide)
  have ba2 : Bd (-2 * a) 20 := (@bd_mul (-2) a 2 8 ⟨by decide⟩ ia).mono (by decide)
  have bb2 : Bd (a * a - b * 4) 20 := (@bd_sub (a * a) (b * 4) 16 11 (@bd_mul a a 8 8 ia ia) (@bd_mul b 4 8 3 ib inferInstance)).mono (by decide)
  have n := @w_need_form (k + 2) st a b _ ba bb (.inl rfl) F
  have ep := @w_partner_of (k + 4) st a b ba bb
  obtain ⟨c, hc, ec⟩ := @w_curve_of_form (k + 2) st _ _ ba2 bb2 (fm_partner F)
  have np := np_odd (k := k) (st := st) hc ba2 bb2 ho
  generalize -2 * a = A at *
  generalize a * a - b * 4 = B at *
  rw [c35]; unfold defP b35
  simp [List.replicate, take_self, n, ep, ec, np]
abbrev hsC : List Hc := [⟨3, some 1, (.tp [(.k (.str "point")), (.rp 1)])⟩]
theorem cmpB {fe : Fx} {env : Ev.Env} {q : PyData} (h0 : st[0]? = some (.tbl 0)) (h : fe env st = .exc 3 [(1, d)] st) (hp : pd d = some q) (hs : shownOk q = true) : fLamC G.xm "ok" hsC 2 0 0 fe env st = .ok (.tup [.str "point", .str q.shown]) st := by
  unfold fLamC
  simp only [h0]
  rw [if_pos True.intro]
  unfold cmpP
  simp only [h]
  have hx : hxV [(1, d)] (.tp [.k (.str "point"), .rp 1]) = some (.tup [.str "point", .str q.shown]) := by
    simp [hxV, hxVs, getF, hp, hs, size_line]
  have hg : hGo G.xm 3 [(1, d)] ([D.lam 0].map some ++ List.replicate (2 - [D.lam 0].length) none) st hsC = .rt (.tup [.str "point", .str q.shown]) st := by
    have a2 : G.xm 3 3 = some true := by decide +kernel
    unfold hGo
    simp only [a2, hx]
    rfl
  show endP false st.length (hGo G.xm 3 [(1, d)] ([D.lam 0].map some ++ List.replicate (2 - [D.lam 0].length) none) st hsC) = _
  rw [hg, x_endrt, ret_tup, take_self]
end
end K34
set_option Elab.async false
set_option linter.all false
set_option maxRecDepth 100000
set_option maxHeartbeats 2000000
set_option exponentiation.threshold 20000
namespace K34
open PySem PySem.Spec L2 Ev
/-! the end of a turn -/
section
variable {k c : Nat} {st : Store} {r : Store} {P : Pen} {a b A B : Int} {p : Pnt} {d : D}
structure OddOk (o : D) : Prop where
  q : ∃ q : PyData, pd o = some q ∧ shownOk q = true ∧ (∀ st, gRepr [o] st = .ok (.str q.shown) st) ∧ ∀ (k : Nat) st, eqO (C k) G.dfl G.eqf G.eqk true (.tup [.str "point", .str q.shown]) (.tup [.str "point", .str q.shown]) st = .ok (.bl false) st
  g : Giv o
theorem shp_str2 {x y : Str} (h : SeqAt.shaped (.tuple [.str x, .str y]) = true) (k : Nat) (st : Store) : eqO (C k) G.dfl G.eqf G.eqk true (.tup [.str x, .str y]) (.tup [.str x, .str y]) st = .ok (.bl false) st := by
  rw [eqO_pd (p := .tuple [.str x, .str y]) (q := .tuple [.str x, .str y]) rfl rfl rfl h h]
  simp [PyData.eqv, PyData.eqvAll]
theorem odd_mk {o : D} {q : PyData} (h1 : pd o = some q) (h2 : ∀ st, pdR st o = pd o) (h3 : shownOk q = true) (h4 : SeqAt.shaped (.tuple [.str "point", .str q.shown]) = true) (g : Giv o) : OddOk o := by
  refine ⟨⟨q, h1, h3, fun st => ?_, fun k st => shp_str2 h4 k st⟩, g⟩
  unfold gRepr
  simp only [h2, h1]
  rw [if_pos h3]
theorem odds_ok : ∀ o ∈ odds, OddOk o := by
  intro o ho
  simp only [odds, List.mem_cons, List.not_mem_nil, or_false] at ho
  rcases ho with e | e | e | e | e | e | e <;> subst e
  · exact odd_mk rfl (fun _ => rfl) (by decide +kernel) (by decide +kernel) giv_int
  · exact odd_mk rfl (fun _ => rfl) (by decide +kernel) (by decide +kernel) giv_tup
  · exact odd_mk rfl (fun _ => rfl) (by decide +kernel) (by decide +kernel) giv_str
  · exact odd_mk rfl (fun _ => rfl) (by decide +kernel) (by decide +kernel) giv_tup
  · exact odd_mk rfl (fun _ => rfl) (by decide +kernel) (by decide +kernel) giv_tup
  · exact odd_mk rfl (fun _ => rfl) (by decide +kernel) (by decide +kernel) giv_tup
  · exact odd_mk rfl (fun _ => rfl) (by decide +kernel) (by decide +kernel) giv_tup
theorem end_turn (ia : Bd a 8) (ib : Bd b 8) (F : Fm a b) {o : D} (ho : o ∈ odds) {x0 x1 x2 x4 x5 x6 x7 x8 x9 x10 x11 x12 x13 x14 x15 : Option D} :
    b71_l3_14 (C (k + 6)) [x0, x1, x2, some (.tup [.int a, .int b]), x4, x5, x6, x7, x8, x9, x10, x11, x12, x13, x14, x15, some o] (W r P) = .nx [x0, x1, x2, some (.tup [.int a, .int b]), x4, x5, x6, x7, x8, x9, x10, x11, x12, x13, x14, x15, some o] (W r P) := by
  obtain ⟨⟨q, h1, h2, h3, h4⟩, g⟩ := odds_ok o ho
  have e1 := ahead_odd (k := k) (st := W r P) ia ib F ho
  have e2 := before_odd (k := k) (st := W r P) ia ib F ho
  have f1 := cmpB (st := W r P) (d := o) (q := q) (env := [x0, x1, x2, some (.tup [.int a, .int b]), x4, x5, x6, x7, x8, x9, x10, x11, x12, x13, x14, x15, some o]) (fe := fB (callP (C (k + 6)) G.dfl 33) (aCons (fV 3) (aCons (fV 16) aNil))) rfl (by simp [e1]) h1 h2
  have f2 := cmpB (st := W r P) (d := o) (q := q) (env := [x0, x1, x2, some (.tup [.int a, .int b]), x4, x5, x6, x7, x8, x9, x10, x11, x12, x13, x14, x15, some o]) (fe := fB (callP (C (k + 6)) G.dfl 35) (aCons (fV 3) (aCons (fV 16) aNil))) rfl (by simp [e2]) h1 h2
  unfold b71_l3_14
  simp [x_if, f1, f2, h3, h4, size_line]
end
end K34
set_option Elab.async false
set_option linter.all false
set_option maxRecDepth 100000
set_option maxHeartbeats 2000000
set_option exponentiation.threshold 20000
namespace K34
open PySem PySem.Spec L2 Ev
/-! a turn of the law -/
section
variable {k c : Nat} {st : Store} {r : Store} {P : Pen} {a b A B : Int} {p : Pnt}
theorem back_on {a b : Rat} {p : Pnt} (o : On (-2 * a) (a * a - 4 * b) p) : On a b (backF a b p) := by
  cases p with
  | none => trivial
  | some q =>
    obtain ⟨x, y⟩ := q
    unfold backF
    dsimp only
    by_cases hx : x = 0
    · rw [if_pos hx]; trivial
    · rw [if_neg hx]
      have o' : y * y = x * (a * a - 4 * b + x * (-2 * a + x)) := o
      obtain ⟨t, ht⟩ : ∃ t, t = y / x := ⟨_, rfl⟩
      obtain ⟨w, hw⟩ : ∃ w, w = (a * a - 4 * b) / x := ⟨_, rfl⟩
      have hy : y = t * x := by grind
      have hwx : w * x = a * a - 4 * b := by grind
      have ht2 : t * t = w + -2 * a + x := by
        have : x * x * (t * t) = x * x * (w + -2 * a + x) := by grind
        grind
      have q1 : y * y / (4 * (x * x)) = t * t / 4 := div_of (mul_ne (by decide) (mul_ne hx hx)) (by grind)
      have q2 : y * (a * a - 4 * b - x * x) / (8 * (x * x)) = t * (w - x) / 8 := div_of (mul_ne (by decide) (mul_ne hx hx)) (by grind)
      rw [q1, q2]
      show _ * _ = _
      clear q1 q2 ht hw o o' hy
      grind
theorem there_on {a b : Rat} {p : Pnt} (o : On a b p) : On (-2 * a) (a * a - 4 * b) (thereF b p) := by
  cases p with
  | none => trivial
  | some q =>
    obtain ⟨x, y⟩ := q
    unfold thereF
    dsimp only
    by_cases hx : x = 0
    · rw [if_pos hx]; trivial
    · rw [if_neg hx]
      have o' : y * y = x * (b + x * (a + x)) := o
      obtain ⟨t, ht⟩ : ∃ t, t = y / x := ⟨_, rfl⟩
      obtain ⟨w, hw⟩ : ∃ w, w = b / x := ⟨_, rfl⟩
      have hy : y = t * x := by grind
      have hwx : w * x = b := by grind
      have ht2 : t * t = w + a + x := by
        have : x * x * (t * t) = x * x * (w + a + x) := by grind
        grind
      have q1 : y * y / (x * x) = t * t := div_of (mul_ne hx hx) (by grind)
      have q2 : y * (b - x * x) / (x * x) = t * (w - x) := div_of (mul_ne hx hx) (by grind)
      rw [q1, q2]
      show _ * _ = _
      clear q1 q2 ht hw o o' hy
      grind
theorem back_sz (ba : Bd a 20) (bb : Bd b 20) (hs : Sz 6 12 p) : Sz 240 360 (backF a b p) := by
  cases p with
  | none => trivial
  | some q =>
    obtain ⟨x, y⟩ := q
    obtain ⟨bx, bY⟩ := sz_some hs
    unfold backF
    dsimp only
    split
    · trivial
    · exact ⟨(inferInstance : Bq (y * y / (4 * (x * x))) 39).mono (by decide), (inferInstance : Bq (y * ((a : Rat) * a - 4 * b - x * x) / (8 * (x * x))) 108).mono (by decide)⟩
theorem there_sz (bb : Bd b 20) (hs : Sz 6 12 p) : Sz 240 360 (thereF b p) := by
  cases p with
  | none => trivial
  | some q =>
    obtain ⟨x, y⟩ := q
    obtain ⟨bx, bY⟩ := sz_some hs
    unfold thereF
    dsimp only
    split
    · trivial
    · exact ⟨(inferInstance : Bq (y * y / (x * x)) 36).mono (by decide), (inferInstance : Bq (y * ((b : Rat) - x * x) / (x * x)) 58).mono (by decide)⟩
theorem sz_mono {n m n' m' : Nat} (h : Sz n m p) (h1 : n ≤ n') (h2 : m ≤ m') : Sz n' m' p := by
  cases p with
  | none => trivial
  | some q => exact ⟨h.1.mono h1, h.2.mono h2⟩
theorem pick_pt {ps : List Pnt} (ok : PenOk c P) (hc : c < 1000000) (h0 : ps ≠ []) (hl : ps.length < 1000) : ∃ (p : Pnt) (P' : Pen), p ∈ ps ∧ C (k + 2) 38 [.ref 1, .lst (ps.map ptD)] (W r P) = .ok (ptD p) (W r P') ∧ PenOk (c + 1) P' := by
  obtain ⟨d, P', hd, e, ok'⟩ := w_law_pick (k := k) (r := r) (xs := ps.map ptD) ok hc (by simpa using h0) (by simp; omega) (fun d hd => by
    obtain ⟨p, _, rfl⟩ := List.mem_map.mp hd
    exact giv_ptD)
  obtain ⟨p, hp, rfl⟩ := List.mem_map.mp hd
  exact ⟨p, P', hp, e, ok'⟩
theorem loop1 (ia : Bd a 8) (ib : Bd b 8) (bA : Bd A 20) (bB : Bd B 20) (hA : A = -2 * a) (hB : B = a * a - 4 * b) (F : Fm a b) {ws : List D} {x0 x2 x4 x5 x7 x8 x9 x10 x15 x16 : Option D} :
    ∀ (ps : List Pnt) (c : Nat) (P : Pen) (x11 x12 x13 x14 : Option D), (∀ p ∈ ps, On a b p ∧ Sz 240 360 p) → PenOk c P → c + ps.length < 900000 →
    ∃ P' y11 y12 y13 y14, PenOk (c + ps.length) P' ∧ fLoop (.nm 11) (b71_l1 (C (k + 6))) (ws, none) (ps.map ptD) [x0, some (.ref 1), x2, some (.tup [.int a, .int b]), x4, x5, some (.tup (nsD A B)), x7, x8, x9, x10, x11, x12, x13, x14, x15, x16] (W r P) = .nx [x0, some (.ref 1), x2, some (.tup [.int a, .int b]), x4, x5, some (.tup (nsD A B)), x7, x8, x9, x10, y11, y12, y13, y14, x15, x16] (W r P')
  | [], c, P, x11, x12, x13, x14, _, ok, _ => ⟨P, x11, x12, x13, x14, ok, fl_nil⟩
  | p :: ps, c, P, x11, x12, x13, x14, h, ok, hc => by
    simp only [List.length_cons] at hc ⊢
    obtain ⟨o, hs⟩ := h p (List.mem_cons_self ..)
    obtain ⟨P1, y12, y13, y14, ok1, e1⟩ := turn1 (k := k) (r := r) ia ib bA bB hA hB F o hs ok (by omega) (x0 := x0) (x2 := x2) (x4 := x4) (x5 := x5) (x7 := x7) (x8 := x8) (x9 := x9) (x10 := x10) (x12 := x12) (x13 := x13) (x14 := x14) (x15 := x15) (x16 := x16)
    obtain ⟨P2, z11, z12, z13, z14, ok2, e2⟩ := loop1 ia ib bA bB hA hB F (ws := ws) (x0 := x0) (x2 := x2) (x4 := x4) (x5 := x5) (x7 := x7) (x8 := x8) (x9 := x9) (x10 := x10) (x15 := x15) (x16 := x16) ps (c + 1) P1 (some (ptD p)) y12 y13 y14 (fun q hq => h q (List.mem_cons_of_mem _ hq)) ok1 (by omega)
    refine ⟨P2, z11, z12, z13, z14, ok2.mono (by omega), ?_⟩
    rw [List.map_cons, fl_nm]
    simp only [List.set, e1, lp_nx]
    exact e2
theorem loop2 (ia : Bd a 8) (ib : Bd b 8) (bA : Bd A 20) (bB : Bd B 20) (hA : A = -2 * a) (hB : B = a * a - 4 * b) (F : Fm a b) {ws : List D} {x0 x1 x2 x4 x6 x7 x8 x9 x10 x15 x16 : Option D} :
    ∀ (ps : List Pnt) (x11 x12 x13 x14 : Option D), (∀ p ∈ ps, On A B p ∧ Sz 240 360 p) →
    ∃ y11 y12 y13 y14, fLoop (.nm 11) (b71_l2 (C (k + 6))) (ws, none) (ps.map ptD) [x0, x1, x2, some (.tup [.int a, .int b]), x4, some (.tup (nsD a b)), x6, x7, x8, x9, x10, x11, x12, x13, x14, x15, x16] (W r P) = .nx [x0, x1, x2, some (.tup [.int a, .int b]), x4, some (.tup (nsD a b)), x6, x7, x8, x9, x10, y11, y12, y13, y14, x15, x16] (W r P)
  | [], x11, x12, x13, x14, _ => ⟨x11, x12, x13, x14, fl_nil⟩
  | p :: ps, x11, x12, x13, x14, h => by
    obtain ⟨o, hs⟩ := h p (List.mem_cons_self ..)
    obtain ⟨y12, y13, y14, e1⟩ := turn2 (k := k) (r := r) (P := P) ia ib bA bB hA hB F o hs (x0 := x0) (x1 := x1) (x2 := x2) (x4 := x4) (x6 := x6) (x7 := x7) (x8 := x8) (x9 := x9) (x10 := x10) (x12 := x12) (x13 := x13) (x14 := x14) (x15 := x15) (x16 := x16)
    obtain ⟨z11, z12, z13, z14, e2⟩ := loop2 ia ib bA bB hA hB F (ws := ws) (x0 := x0) (x1 := x1) (x2 := x2) (x4 := x4) (x6 := x6) (x7 := x7) (x8 := x8) (x9 := x9) (x10 := x10) (x15 := x15) (x16 := x16) ps (some (ptD p)) y12 y13 y14 (fun q hq => h q (List.mem_cons_of_mem _ hq))
    refine ⟨z11, z12, z13, z14, ?_⟩
    rw [List.map_cons, fl_nm]
    simp only [List.set, e1, lp_nx]
    exact e2
end
end K34
set_option Elab.async false
set_option linter.all false
set_option maxRecDepth 100000
set_option maxHeartbeats 2000000
set_option exponentiation.threshold 20000
namespace K34
open PySem PySem.Spec L2 Ev
/-! the whole turn, the law -/
section
variable {k c : Nat} {st : Store} {r : Store} {P : Pen} {a b A B : Int} {p : Pnt}
theorem giv_of_int {xs : List Int} : ∀ d ∈ xs.map D.int, Giv d := fun d hd => by
  obtain ⟨i, _, rfl⟩ := List.mem_map.mp hd
  exact giv_int
theorem pick_ints {xs : List Int} (ok : PenOk c P) (hc : c < 1000000) (h0 : xs ≠ []) (hl : xs.length < 1000) : ∃ (i : Int) (P' : Pen), i ∈ xs ∧ C (k + 2) 38 [.ref 1, .lst (xs.map .int)] (W r P) = .ok (.int i) (W r P') ∧ PenOk (c + 1) P' := by
  obtain ⟨d, P', hd, e, ok'⟩ := w_law_pick (k := k) (r := r) (xs := xs.map .int) ok hc (by simpa using h0) (by simp; omega) giv_of_int
  obtain ⟨i, hi, rfl⟩ := List.mem_map.mp hd
  exact ⟨i, P', hi, e, ok'⟩
theorem t_form (ok : PenOk c P) (hc : c < 800000) {x0 x2 x3 x4 x5 x6 x7 x8 x9 x10 x11 x12 x13 x14 x15 x16 : Option D} :
    ∃ (a b : Int) (P' : Pen), -20 ≤ a ∧ a ≤ 20 ∧ -20 ≤ b ∧ b ≤ 20 ∧ PenOk (c + 28) P' ∧ b71_l3_1 (C (k + 3)) [x0, some (.ref 1), x2, x3, x4, x5, x6, x7, x8, x9, x10, x11, x12, x13, x14, x15, x16] (W r P) = .nx [x0, some (.ref 1), x2, some (.tup [.int a, .int b]), x4, x5, x6, x7, x8, x9, x10, x11, x12, x13, x14, x15, x16] (W r P') := by
  obtain ⟨a1, b1, P1, p1, p2, p3, p4, ok1, e1⟩ := w_law_form (k := k) (r := r) ok (by omega)
  obtain ⟨a2, P2, e2, q1, q2, ok2⟩ := w_law_int (k := k + 1) (r := r) (m := 6) ok1 (by omega) (by decide) (by decide)
  obtain ⟨b2, P3, m2, e3, ok3⟩ := pick_ints (k := k + 1) (r := r) (xs := [1, 4, 9, 16]) ok2 (by omega) (by simp) (by simp)
  obtain ⟨a3, P4, m3, e4, ok4⟩ := pick_ints (k := k + 1) (r := r) (xs := [5, -5, 10]) ok3 (by omega) (by simp) (by simp)
  obtain ⟨d, P5, hd, e5, ok5⟩ := w_law_pick (k := k + 1) (r := r) (xs := [.tup [.int a1, .int b1], .tup [.int a2, .int b2], .tup [.int a3, .int 4]]) ok4 (by omega) (by simp) (by simp) (fun d hd => by
    simp only [List.mem_cons, List.not_mem_nil, or_false] at hd
    rcases hd with e | e | e <;> subst e <;> exact giv_tup)
  have b2a : 1 ≤ b2 ∧ b2 ≤ 16 := by simp only [List.mem_cons, List.not_mem_nil, or_false] at m2; omega
  have b3a : -5 ≤ a3 ∧ a3 ≤ 10 := by simp only [List.mem_cons, List.not_mem_nil, or_false] at m3; omega
  have : ∃ a b : Int, -20 ≤ a ∧ a ≤ 20 ∧ -20 ≤ b ∧ b ≤ 20 ∧ d = .tup [.int a, .int b] := by
    simp only [List.mem_cons, List.not_mem_nil, or_false] at hd
    rcases hd with e | e | e
    · exact ⟨a1, b1, p1, p2, p3, p4, e⟩
    · exact ⟨a2, b2, by omega, by omega, by omega, by omega, e⟩
    · exact ⟨a3, 4, by omega, by omega, by omega, by omega, e⟩
  obtain ⟨a, b, h1, h2, h3, h4, rfl⟩ := this
  refine ⟨a, b, P5, h1, h2, h3, h4, ok5.mono (by omega), ?_⟩
  simp only [List.map_cons, List.map_nil] at e3 e4
  unfold b71_l3_1
  simp [e1, e2, e3, e4, e5, size_line]
/-- the shape of a turn's frame -/
structure Shp (x0 : Option D) (e : Ev.Env) : Prop where
  ex : ∃ x2 x3 x4 x5 x6 x7 x8 x9 x10 x11 x12 x13 x14 x15 x16 : Option D, e = [x0, some (.ref 1), x2, x3, x4, x5, x6, x7, x8, x9, x10, x11, x12, x13, x14, x15, x16]
theorem good_pt {ps : List Pnt} (g : Good a b ps) (hp : p ∈ ps) : On a b p ∧ Sz 240 360 p := ⟨(g p hp).1, sz_mono (g p hp).2 (by decide) (by decide)⟩
theorem on_none : On (a : Rat) b none ∧ Sz 240 360 none := ⟨trivial, trivial⟩
theorem on_zero : On (a : Rat) b (some (0, 0)) ∧ Sz 240 360 (some (0, 0)) := by
  refine ⟨?_, bq_0.mono (by decide), bq_0.mono (by decide)⟩
  show (0 : Rat) * 0 = 0 * _
  rw [Rat.zero_mul, Rat.zero_mul]
theorem turn (ok : PenOk c P) (hc : c < 800000) {x0 : Option D} {e : Ev.Env} (he : Shp x0 e) : ∃ P' e', PenOk (c + 60) P' ∧ Shp x0 e' ∧ (b71_l3 (C (k + 6)) e (W r P) = .nx e' (W r P') ∨ b71_l3 (C (k + 6)) e (W r P) = .ct e' (W r P')) := by
  obtain ⟨x2, x3, x4, x5, x6, x7, x8, x9, x10, x11, x12, x13, x14, x15, x16, rfl⟩ := he.ex
  obtain ⟨a, b, P1, a0, a1, b0, b1, ok1, e1⟩ := t_form (k := k + 3) (r := r) ok hc (x0 := x0) (x2 := x2) (x3 := x3) (x4 := x4) (x5 := x5) (x6 := x6) (x7 := x7) (x8 := x8) (x9 := x9) (x10 := x10) (x11 := x11) (x12 := x12) (x13 := x13) (x14 := x14) (x15 := x15) (x16 := x16)
  have ia : Bd a 8 := bd_le (by omega) (by omega)
  have ib : Bd b 8 := bd_le (by omega) (by omega)
  have ba : Bd a 20 := ia.mono (by decide)
  have bb : Bd b 20 := ib.mono (by decide)
  have ef := @w_law_is_form (k + 5) (W r P1) a b ba bb
  have e2 : b71_l3_2 (C (k + 6)) [x0, some (.ref 1), x2, some (.tup [.int a, .int b]), x4, x5, x6, x7, x8, x9, x10, x11, x12, x13, x14, x15, x16] (W r P1) = (if b * (a * a - b * 4) ≠ 0 then Os.nx [x0, some (.ref 1), x2, some (.tup [.int a, .int b]), x4, x5, x6, x7, x8, x9, x10, x11, x12, x13, x14, x15, x16] (W r P1) else .ct [x0, some (.ref 1), x2, some (.tup [.int a, .int b]), x4, x5, x6, x7, x8, x9, x10, x11, x12, x13, x14, x15, x16] (W r P1)) := by
    unfold b71_l3_2
    by_cases F : b * (a * a - b * 4) ≠ 0
    · rw [if_pos F]
      rw [decide_eq_true F] at ef
      simp [x_if, ef]
    · rw [if_neg F]
      rw [decide_eq_false F] at ef
      simp [x_if, ef]
  by_cases F : b * (a * a - b * 4) ≠ 0
  · rw [if_pos F] at e2
    obtain ⟨A, hA⟩ : ∃ A, A = -2 * a := ⟨_, rfl⟩
    obtain ⟨B, hB⟩ : ∃ B, B = a * a - 4 * b := ⟨_, rfl⟩
    have aa : 0 ≤ a * a ∧ a * a ≤ 400 := by
      have h1 : a.natAbs ≤ 20 := by omega
      have h2 : a.natAbs * a.natAbs ≤ 20 * 20 := Nat.mul_le_mul h1 h1
      have h3 : ((a.natAbs * a.natAbs : Nat) : Int) = a * a := by exact Int.natAbs_mul_self
      omega
    have bA : Bd A 20 := bd_le (by omega) (by omega)
    have bB : Bd B 20 := bd_le (by omega) (by omega)
    have bA6 : Bd A 6 := bd_le (by omega) (by omega)
    have bB9 : Bd B 9 := bd_le (by omega) (by omega)
    have ba6 : Bd a 6 := bd_le (by omega) (by omega)
    have bb9 : Bd b 9 := bd_le (by omega) (by omega)
    have cA : (A : Rat) = -2 * (a : Rat) := by rw [hA]; exact cast_a a
    have cB : (B : Rat) = (a : Rat) * a - 4 * b := by rw [hB]; exact cast_b a b
    have hB2 : B = a ^ 2 - 4 * b := by rw [hB, Int.pow_succ, Int.pow_succ, Int.pow_zero, Int.one_mul]
    -- the other form, the numbers
    have e3 : b71_l3_3 (C (k + 6)) [x0, some (.ref 1), x2, some (.tup [.int a, .int b]), x4, x5, x6, x7, x8, x9, x10, x11, x12, x13, x14, x15, x16] (W r P1) = .nx [x0, some (.ref 1), x2, some (.tup [.int a, .int b]), some (.tup [.int A, .int B]), x5, x6, x7, x8, x9, x10, x11, x12, x13, x14, x15, x16] (W r P1) := by
      rw [hB2, hA]
      have m1 : ∀ s, binQ .Mult (.int (-2)) (.int a) s = .ok (.int (-2 * a)) s := fun s => bq_mul (by decide)
      have m2 : ∀ s, binQ .Mult (.int 4) (.int b) s = .ok (.int (4 * b)) s := fun s => bq_mul (by decide)
      have m3 : ∀ s, binQ .Pow (.int a) (.int 2) s = .ok (.int (a ^ 2)) s := fun s => bq_pow (by decide)
      unfold b71_l3_3
      simp [size_line, m1, m2, m3]
    have n1 := w_law_numbers_of (k := k + 5) (st := W r P1) (a := a) (b := b)
    have n2 := w_law_numbers_of (k := k + 5) (st := W r P1) (a := A) (b := B)
    have e4 : b71_l3_4 (C (k + 6)) [x0, some (.ref 1), x2, some (.tup [.int a, .int b]), some (.tup [.int A, .int B]), x5, x6, x7, x8, x9, x10, x11, x12, x13, x14, x15, x16] (W r P1) = .nx [x0, some (.ref 1), x2, some (.tup [.int a, .int b]), some (.tup [.int A, .int B]), some (.tup (nsD a b)), some (.tup (nsD A B)), x7, x8, x9, x10, x11, x12, x13, x14, x15, x16] (W r P1) := by
      unfold b71_l3_4
      generalize nsD a b = na at *
      generalize nsD A B = nA at *
      simp [size_line, n1, n2]
    -- points of the form
    obtain ⟨ps1, g1, z1, l1, f1⟩ := @w_law_form_points (k + 3) (W r P1) a b 25 ba6 bb9 (by decide) (by decide)
    have e5 : b71_l3_5 (C (k + 6)) [x0, some (.ref 1), x2, some (.tup [.int a, .int b]), some (.tup [.int A, .int B]), some (.tup (nsD a b)), some (.tup (nsD A B)), x7, x8, x9, x10, x11, x12, x13, x14, x15, x16] (W r P1) = .nx [x0, some (.ref 1), x2, some (.tup [.int a, .int b]), some (.tup [.int A, .int B]), some (.tup (nsD a b)), some (.tup (nsD A B)), some (.lst (ps1.map ptD)), x8, x9, x10, x11, x12, x13, x14, x15, x16] (W r P1) := by
      unfold b71_l3_5
      generalize ps1.map ptD = d1 at *
      simp [f1]
    obtain ⟨p1, P2, hp1, k1, ok2⟩ := pick_pt (k := k + 4) (r := r) ok1 (by omega) z1 l1
    obtain ⟨p2, P3, hp2, k2, ok3⟩ := pick_pt (k := k + 4) (r := r) ok2 (by omega) z1 l1
    have e6 : b71_l3_6 (C (k + 6)) [x0, some (.ref 1), x2, some (.tup [.int a, .int b]), some (.tup [.int A, .int B]), some (.tup (nsD a b)), some (.tup (nsD A B)), some (.lst (ps1.map ptD)), x8, x9, x10, x11, x12, x13, x14, x15, x16] (W r P1) = .nx [x0, some (.ref 1), x2, some (.tup [.int a, .int b]), some (.tup [.int A, .int B]), some (.tup (nsD a b)), some (.tup (nsD A B)), some (.lst (ps1.map ptD)), some (ptD p1), some (ptD p2), x10, x11, x12, x13, x14, x15, x16] (W r P3) := by
      unfold b71_l3_6
      generalize ps1.map ptD = d1 at *
      simp [k1, k2]
    obtain ⟨ps2, g2, z2, l2, f2⟩ := @w_law_form_points (k + 3) (W r P3) A B 20 bA6 bB9 (by decide) (by decide)
    obtain ⟨p3, P4, hp3, k3, ok4⟩ := pick_pt (k := k + 4) (r := r) ok3 (by omega) z2 l2
    have fb := @w_law_back (k + 2) (W r P4) a b p3 ba bb (sz_mono (g2 p3 hp3).2 (by decide) (by decide))
    have e7 : b71_l3_7 (C (k + 6)) [x0, some (.ref 1), x2, some (.tup [.int a, .int b]), some (.tup [.int A, .int B]), some (.tup (nsD a b)), some (.tup (nsD A B)), some (.lst (ps1.map ptD)), some (ptD p1), some (ptD p2), x10, x11, x12, x13, x14, x15, x16] (W r P3) = .nx [x0, some (.ref 1), x2, some (.tup [.int a, .int b]), some (.tup [.int A, .int B]), some (.tup (nsD a b)), some (.tup (nsD A B)), some (.lst (ps1.map ptD)), some (ptD p1), some (ptD p2), some (ptD (backF a b p3)), x11, x12, x13, x14, x15, x16] (W r P4) := by
      unfold b71_l3_7
      generalize ps2.map ptD = d2 at *
      generalize ps1.map ptD = d1 at *
      simp [f2, k3, fb]
    have onf : On (a : Rat) b (backF a b p3) := back_on (by have := (g2 p3 hp3).1; rwa [cA, cB] at this)
    obtain ⟨s1, sz1⟩ := @w_law_sum k (W r P4) a b p1 p2 ba bb (g1 p1 hp1).1 (g1 p2 hp2).1 (g1 p1 hp1).2 (g1 p2 hp2).2
    obtain ⟨s2, sz2⟩ := @w_law_sum k (W r P4) a b p1 p1 ba bb (g1 p1 hp1).1 (g1 p1 hp1).1 (g1 p1 hp1).2 (g1 p1 hp1).2
    have hall : ∀ q ∈ [p1, p2, sumF a b p1 p2, sumF a b p1 p1, backF a b p3, none, some (0, 0)], On (a : Rat) b q ∧ Sz 240 360 q := fun q hq => by
      simp only [List.mem_cons, List.not_mem_nil, or_false] at hq
      rcases hq with h | h | h | h | h | h | h <;> subst h
      · exact good_pt g1 hp1
      · exact good_pt g1 hp2
      · exact ⟨sum_on (g1 p1 hp1).1 (g1 p2 hp2).1, sz1⟩
      · exact ⟨sum_on (g1 p1 hp1).1 (g1 p1 hp1).1, sz2⟩
      · exact ⟨onf, back_sz ba bb (g2 p3 hp3).2⟩
      · exact on_none
      · exact on_zero
    have hm : [p1, p2, sumF a b p1 p2, sumF a b p1 p1, backF a b p3, none, some ((0 : Rat), (0 : Rat))].map ptD = [ptD p1, ptD p2, ptD (sumF a b p1 p2), ptD (sumF a b p1 p1), ptD (backF a b p3), .non, .tup [qd 0, qd 0]] := rfl
    obtain ⟨P5, y11, y12, y13, y14, ok5, e8'⟩ := loop1 (k := k) (r := r) ia ib bA bB hA hB F (ws := [p1, p2, sumF a b p1 p2, sumF a b p1 p1, backF a b p3, none, some ((0 : Rat), (0 : Rat))].map ptD) (x0 := x0) (x2 := x2) (x4 := some (.tup [.int A, .int B])) (x5 := some (.tup (nsD a b))) (x7 := some (.lst (ps1.map ptD))) (x8 := some (ptD p1)) (x9 := some (ptD p2)) (x10 := some (ptD (backF a b p3))) (x15 := x15) (x16 := x16) _ (c + 28 + 1 + 1 + 1) P4 x11 x12 x13 x14 hall ok4 (by simp; omega)
    simp only [List.length_cons, List.length_nil] at ok5
    rw [hm] at e8'
    have e8 : b71_l3_8 (C (k + 6)) [x0, some (.ref 1), x2, some (.tup [.int a, .int b]), some (.tup [.int A, .int B]), some (.tup (nsD a b)), some (.tup (nsD A B)), some (.lst (ps1.map ptD)), some (ptD p1), some (ptD p2), some (ptD (backF a b p3)), x11, x12, x13, x14, x15, x16] (W r P4) = .nx [x0, some (.ref 1), x2, some (.tup [.int a, .int b]), some (.tup [.int A, .int B]), some (.tup (nsD a b)), some (.tup (nsD A B)), some (.lst (ps1.map ptD)), some (ptD p1), some (ptD p2), some (ptD (backF a b p3)), y11, y12, y13, y14, x15, x16] (W r P5) := by
      unfold b71_l3_8
      generalize ps1.map ptD = d1 at *
      generalize nsD a b = na at *
      generalize nsD A B = nA at *
      generalize sumF a b p1 p2 = u1 at *
      generalize sumF a b p1 p1 = u2 at *
      generalize backF a b p3 = u3 at *
      rw [← e8']
      simp only [fl_nm]
      simp [s1, s2, size_line, lit0]
    obtain ⟨ps3, g3, z3, l3, f3⟩ := @w_law_form_points (k + 3) (W r P5) A B 25 bA6 bB9 (by decide) (by decide)
    have e9 : b71_l3_9 (C (k + 6)) [x0, some (.ref 1), x2, some (.tup [.int a, .int b]), some (.tup [.int A, .int B]), some (.tup (nsD a b)), some (.tup (nsD A B)), some (.lst (ps1.map ptD)), some (ptD p1), some (ptD p2), some (ptD (backF a b p3)), y11, y12, y13, y14, x15, x16] (W r P5) = .nx [x0, some (.ref 1), x2, some (.tup [.int a, .int b]), some (.tup [.int A, .int B]), some (.tup (nsD a b)), some (.tup (nsD A B)), some (.lst (ps3.map ptD)), some (ptD p1), some (ptD p2), some (ptD (backF a b p3)), y11, y12, y13, y14, x15, x16] (W r P5) := by
      unfold b71_l3_9
      generalize ps3.map ptD = d3 at *
      generalize ps1.map ptD = d1 at *
      simp [f3]
    obtain ⟨p4, P6, hp4, k4, ok6⟩ := pick_pt (k := k + 4) (r := r) ok5 (by omega) z3 l3
    obtain ⟨p5, P7, hp5, k5, ok7⟩ := pick_pt (k := k + 4) (r := r) ok6 (by omega) z3 l3
    have e10 : b71_l3_10 (C (k + 6)) [x0, some (.ref 1), x2, some (.tup [.int a, .int b]), some (.tup [.int A, .int B]), some (.tup (nsD a b)), some (.tup (nsD A B)), some (.lst (ps3.map ptD)), some (ptD p1), some (ptD p2), some (ptD (backF a b p3)), y11, y12, y13, y14, x15, x16] (W r P5) = .nx [x0, some (.ref 1), x2, some (.tup [.int a, .int b]), some (.tup [.int A, .int B]), some (.tup (nsD a b)), some (.tup (nsD A B)), some (.lst (ps3.map ptD)), some (ptD p4), some (ptD p5), some (ptD (backF a b p3)), y11, y12, y13, y14, x15, x16] (W r P7) := by
      unfold b71_l3_10
      generalize ps3.map ptD = d3 at *
      simp [k4, k5]
    obtain ⟨ps4, g4, z4, l4, f4⟩ := @w_law_form_points (k + 3) (W r P7) a b 20 ba6 bb9 (by decide) (by decide)
    obtain ⟨p6, P8, hp6, k6, ok8⟩ := pick_pt (k := k + 4) (r := r) ok7 (by omega) z4 l4
    have ft := @w_law_there (k + 2) (W r P8) a b p6 ba bb (sz_mono (g4 p6 hp6).2 (by decide) (by decide))
    have e11 : b71_l3_11 (C (k + 6)) [x0, some (.ref 1), x2, some (.tup [.int a, .int b]), some (.tup [.int A, .int B]), some (.tup (nsD a b)), some (.tup (nsD A B)), some (.lst (ps3.map ptD)), some (ptD p4), some (ptD p5), some (ptD (backF a b p3)), y11, y12, y13, y14, x15, x16] (W r P7) = .nx [x0, some (.ref 1), x2, some (.tup [.int a, .int b]), some (.tup [.int A, .int B]), some (.tup (nsD a b)), some (.tup (nsD A B)), some (.lst (ps3.map ptD)), some (ptD p4), some (ptD p5), some (ptD (backF a b p3)), y11, y12, y13, y14, some (ptD (thereF b p6)), x16] (W r P8) := by
      unfold b71_l3_11
      generalize ps4.map ptD = d4 at *
      generalize ps3.map ptD = d3 at *
      simp [f4, k6, ft]
    have ont : On (A : Rat) B (thereF b p6) := by
      have := there_on (g4 p6 hp6).1
      rwa [← cA, ← cB] at this
    obtain ⟨s3, sz3⟩ := @w_law_sum k (W r P8) A B p4 p5 bA bB (g3 p4 hp4).1 (g3 p5 hp5).1 (g3 p4 hp4).2 (g3 p5 hp5).2
    have hall2 : ∀ q ∈ [p4, p5, sumF A B p4 p5, thereF b p6, none, some (0, 0)], On (A : Rat) B q ∧ Sz 240 360 q := fun q hq => by
      simp only [List.mem_cons, List.not_mem_nil, or_false] at hq
      rcases hq with h | h | h | h | h | h <;> subst h
      · exact good_pt g3 hp4
      · exact good_pt g3 hp5
      · exact ⟨sum_on (g3 p4 hp4).1 (g3 p5 hp5).1, sz3⟩
      · exact ⟨ont, there_sz bb (g4 p6 hp6).2⟩
      · exact on_none
      · exact on_zero
    have hm2 : [p4, p5, sumF A B p4 p5, thereF b p6, none, some ((0 : Rat), (0 : Rat))].map ptD = [ptD p4, ptD p5, ptD (sumF A B p4 p5), ptD (thereF b p6), .non, .tup [qd 0, qd 0]] := rfl
    obtain ⟨z11, z12, z13, z14, e12'⟩ := loop2 (k := k) (r := r) (P := P8) ia ib bA bB hA hB F (ws := [p4, p5, sumF A B p4 p5, thereF b p6, none, some ((0 : Rat), (0 : Rat))].map ptD) (x0 := x0) (x1 := some (.ref 1)) (x2 := x2) (x4 := some (.tup [.int A, .int B])) (x6 := some (.tup (nsD A B))) (x7 := some (.lst (ps3.map ptD))) (x8 := some (ptD p4)) (x9 := some (ptD p5)) (x10 := some (ptD (backF a b p3))) (x15 := some (ptD (thereF b p6))) (x16 := x16) _ y11 y12 y13 y14 hall2
    rw [hm2] at e12'
    have e12 : b71_l3_12 (C (k + 6)) [x0, some (.ref 1), x2, some (.tup [.int a, .int b]), some (.tup [.int A, .int B]), some (.tup (nsD a b)), some (.tup (nsD A B)), some (.lst (ps3.map ptD)), some (ptD p4), some (ptD p5), some (ptD (backF a b p3)), y11, y12, y13, y14, some (ptD (thereF b p6)), x16] (W r P8) = .nx [x0, some (.ref 1), x2, some (.tup [.int a, .int b]), some (.tup [.int A, .int B]), some (.tup (nsD a b)), some (.tup (nsD A B)), some (.lst (ps3.map ptD)), some (ptD p4), some (ptD p5), some (ptD (backF a b p3)), z11, z12, z13, z14, some (ptD (thereF b p6)), x16] (W r P8) := by
      unfold b71_l3_12
      generalize ps3.map ptD = d3 at *
      generalize nsD a b = na at *
      generalize nsD A B = nA at *
      generalize sumF A B p4 p5 = u1 at *
      generalize thereF b p6 = u2 at *
      generalize backF a b p3 = u3 at *
      rw [← e12']
      simp only [fl_nm]
      simp [s3, size_line, lit0]
    obtain ⟨o, P9, ho, k7, ok9⟩ := w_law_pick (k := k + 4) (r := r) (xs := odds) ok8 (by omega) (by simp [odds]) (by simp [odds]) (fun d hd => (odds_ok d hd).g)
    have e13 : b71_l3_13 (C (k + 6)) [x0, some (.ref 1), x2, some (.tup [.int a, .int b]), some (.tup [.int A, .int B]), some (.tup (nsD a b)), some (.tup (nsD A B)), some (.lst (ps3.map ptD)), some (ptD p4), some (ptD p5), some (ptD (backF a b p3)), z11, z12, z13, z14, some (ptD (thereF b p6)), x16] (W r P8) = .nx [x0, some (.ref 1), x2, some (.tup [.int a, .int b]), some (.tup [.int A, .int B]), some (.tup (nsD a b)), some (.tup (nsD A B)), some (.lst (ps3.map ptD)), some (ptD p4), some (ptD p5), some (ptD (backF a b p3)), z11, z12, z13, z14, some (ptD (thereF b p6)), some o] (W r P9) := by
      unfold b71_l3_13
      unfold odds at k7
      simp [size_line, k7]
    have e14 := end_turn (k := k) (r := r) (P := P9) ia ib F ho (x0 := x0) (x1 := some (.ref 1)) (x2 := x2) (x4 := some (.tup [.int A, .int B])) (x5 := some (.tup (nsD a b))) (x6 := some (.tup (nsD A B))) (x7 := some (.lst (ps3.map ptD))) (x8 := some (ptD p4)) (x9 := some (ptD p5)) (x10 := some (ptD (backF a b p3))) (x11 := z11) (x12 := z12) (x13 := z13) (x14 := z14) (x15 := some (ptD (thereF b p6)))
    refine ⟨P9, _, ok9.mono (by omega), ⟨x2, some (.tup [.int a, .int b]), some (.tup [.int A, .int B]), some (.tup (nsD a b)), some (.tup (nsD A B)), some (.lst (ps3.map ptD)), some (ptD p4), some (ptD p5), some (ptD (backF a b p3)), z11, z12, z13, z14, some (ptD (thereF b p6)), some o, rfl⟩, .inl ?_⟩
    unfold b71_l3
    rw [x_seq, e1, seq_nx, x_seq, e2, seq_nx, x_seq, e3, seq_nx, x_seq, e4, seq_nx, x_seq, e5, seq_nx, x_seq, e6, seq_nx, x_seq, e7, seq_nx, x_seq, e8, seq_nx, x_seq, e9, seq_nx, x_seq, e10, seq_nx, x_seq, e11, seq_nx, x_seq, e12, seq_nx, x_seq, e13, seq_nx, x_seq, e14, seq_nx]
    rfl
  · rw [if_neg F] at e2
    refine ⟨P1, [x0, some (.ref 1), x2, some (.tup [.int a, .int b]), x4, x5, x6, x7, x8, x9, x10, x11, x12, x13, x14, x15, x16], ok1.mono (by omega), ⟨x2, some (.tup [.int a, .int b]), x4, x5, x6, x7, x8, x9, x10, x11, x12, x13, x14, x15, x16, rfl⟩, .inr ?_⟩
    unfold b71_l3
    rw [x_seq, e1, seq_nx, x_seq, e2, seq_ct]
end
end K34
set_option Elab.async false
set_option linter.all false
set_option maxRecDepth 100000
set_option maxHeartbeats 2000000
set_option exponentiation.threshold 20000
namespace K34
open PySem PySem.Spec L2 Ev
/-! the law -/
section
variable {k c : Nat} {r : Store} {P : Pen}
theorem laps {x0 : Option D} {ws : List D} : ∀ (ds : List D) (c : Nat) (P : Pen) (e : Ev.Env), Shp x0 e → PenOk c P → c + 60 * ds.length < 800000 → ∃ P' e', Shp x0 e' ∧ fLoop (.nm 2) (b71_l3 (C (k + 6))) (ws, none) ds e (W r P) = .nx e' (W r P')
  | [], c, P, e, he, ok, hc => ⟨P, e, he, fl_nil⟩
  | d :: ds, c, P, e, he, ok, hc => by
    simp only [List.length_cons] at hc
    obtain ⟨x2, x3, x4, x5, x6, x7, x8, x9, x10, x11, x12, x13, x14, x15, x16, rfl⟩ := he.ex
    have he2 : Shp x0 [x0, some (.ref 1), some d, x3, x4, x5, x6, x7, x8, x9, x10, x11, x12, x13, x14, x15, x16] := ⟨some d, x3, x4, x5, x6, x7, x8, x9, x10, x11, x12, x13, x14, x15, x16, rfl⟩
    obtain ⟨P1, e1, ok1, h1, ht⟩ := turn (k := k) (r := r) ok (by omega) he2
    obtain ⟨P2, e2, h2, h⟩ := laps (ws := ws) ds (c + 60) P1 e1 h1 ok1 (by omega)
    refine ⟨P2, e2, h2, ?_⟩
    rw [fl_nm]
    simp only [List.set]
    rcases ht with ht | ht
    · rw [ht, lp_nx]; exact h
    · rw [ht, lp_ct]; exact h
theorem law_plain (ns : List Int) (hl : ns.length ≤ 63) (hz : ∀ z ∈ ns, Builtin.Int.intBits z ≤ 1048576) : ∃ st, callN tabs.gm tabs.fds 14 71 [.scr (ns.map .int)] ((List.range 1).map .tbl) = .ok (.bl true) st := by
  obtain ⟨P0, _, ok0, ep⟩ := pen_ok (ns := ns) (st := [.tbl 0])
  have e12 : C 13 36 [.scr (ns.map .int)] [.tbl 0] = .ok (.ref 1) (W [] P0) := by
    rw [c36]; exact ep
  have e1 : b71_1 (C 13) [some (.scr (ns.map .int)), none, none, none, none, none, none, none, none, none, none, none, none, none, none, none, none] [.tbl 0] = .nx [some (.scr (ns.map .int)), some (.ref 1), none, none, none, none, none, none, none, none, none, none, none, none, none, none, none] (W [] P0) := by
    unfold b71_1
    simp [e12]
  obtain ⟨P1, e', _, e2⟩ := laps (k := 7) (r := []) (x0 := some (.scr (ns.map .int))) (ws := intsD 0 3) (intsD 0 3) 0 P0 [some (.scr (ns.map .int)), some (.ref 1), none, none, none, none, none, none, none, none, none, none, none, none, none, none, none] ⟨none, none, none, none, none, none, none, none, none, none, none, none, none, none, none, rfl⟩ ok0 (by decide)
  refine ⟨(W [] P1).take 1, ?_⟩
  show C (13 + 1) 71 [.scr (ns.map .int)] [.tbl 0] = _
  rw [c71]
  have hb : b71 (C 13) [some (.scr (ns.map .int)), none, none, none, none, none, none, none, none, none, none, none, none, none, none, none, none] [.tbl 0] = .rt (.bl true) (W [] P1) := by
    have hr : iR1 (fK (.int 3)) [some (.scr (ns.map .int)), some (.ref 1), none, none, none, none, none, none, none, none, none, none, none, none, none, none, none] (W [] P0) = .ok (intsD 0 3, none) (W [] P0) := r1_int (i := 3) rfl (by unfold smallR; decide)
    have f2 : b71_2 (C 13) [some (.scr (ns.map .int)), some (.ref 1), none, none, none, none, none, none, none, none, none, none, none, none, none, none, none] (W [] P0) = .nx e' (W [] P1) := by
      unfold b71_2
      rw [x_for, hr, thn_ok]
      exact e2
    unfold b71
    rw [x_seq, e1, seq_nx, x_seq, f2, seq_nx, x_seq]
    rfl
  unfold defP
  rw [if_pos (by simp)]
  show endP false 1 (b71 (C 13) [some (.scr (ns.map .int)), none, none, none, none, none, none, none, none, none, none, none, none, none, none, none, none] [.tbl 0]) = _
  rw [hb, x_endrt, ret_bl]
end
end K34
set_option Elab.async false
set_option linter.all false
set_option maxRecDepth 100000
set_option maxHeartbeats 0
namespace K34
open PySem PySem.Spec PyProof.Rows L2 Ev
theorem D0 : DOk tabs 0 f0 := dok0 (d := d0) (ps := ["value"]) rfl rfl rfl rfl ⟨rfl, rfl, rfl, by decide +kernel, rfl, by decide +kernel, by decide +kernel⟩ (by decide) (fun j hj => by cases hj) rfl (by decide +kernel) fun _ _ _ _ _ _ us hl => match us, hl with | [_], _ => rfl
theorem D1 : DOk tabs 1 f1 := dok0 (d := d1) (ps := ["value"]) rfl rfl rfl rfl ⟨rfl, rfl, rfl, by decide +kernel, rfl, by decide +kernel, by decide +kernel⟩ (by decide) (fun j hj => by cases hj) rfl (by decide +kernel) fun _ _ _ _ _ _ us hl => match us, hl with | [_], _ => rfl
theorem D2 : DOk tabs 2 f2 := by
  refine dok1 (d := d2) (ps := ["self", "top", "bottom"]) rfl rfl rfl rfl ⟨rfl, rfl, rfl, by decide +kernel, rfl, by decide +kernel, by decide +kernel⟩ (by decide) (fun j hj => by cases hj) (by decide) (by decide +kernel) (by decide) fun j hj T kV doc pm an cdv ct us its hu hi => ?_
  match j, hj with
  | 0, _ => match us, its, hu, hi with | [_, _], [_], _, _ => exact ⟨_, rfl, rfl⟩
  | 1, _ => match us, its, hu, hi with | [_, _, _], [_], _, _ => exact ⟨_, rfl, rfl⟩
theorem D3 : DOk tabs 3 f3 := dok0 (d := d3) (ps := ["self", "other"]) rfl rfl rfl rfl ⟨rfl, rfl, rfl, by decide +kernel, rfl, by decide +kernel, by decide +kernel⟩ (by decide) (fun j hj => by cases hj) rfl (by decide +kernel) fun _ _ _ _ _ _ us hl => match us, hl with | [_, _], _ => rfl
theorem D4 : DOk tabs 4 f4 := dok0 (d := d4) (ps := ["self"]) rfl rfl rfl rfl ⟨rfl, rfl, rfl, by decide +kernel, rfl, by decide +kernel, by decide +kernel⟩ (by decide) (fun j hj => by cases hj) rfl (by decide +kernel) fun _ _ _ _ _ _ us hl => match us, hl with | [_], _ => rfl
theorem D5 : DOk tabs 5 f5 := dok0 (d := d5) (ps := ["self", "other"]) rfl rfl rfl rfl ⟨rfl, rfl, rfl, by decide +kernel, rfl, by decide +kernel, by decide +kernel⟩ (by decide) (fun j hj => by cases hj) rfl (by decide +kernel) fun _ _ _ _ _ _ us hl => match us, hl with | [_, _], _ => rfl
theorem D6 : DOk tabs 6 f6 := dok0 (d := d6) (ps := ["self", "other"]) rfl rfl rfl rfl ⟨rfl, rfl, rfl, by decide +kernel, rfl, by decide +kernel, by decide +kernel⟩ (by decide) (fun j hj => by cases hj) rfl (by decide +kernel) fun _ _ _ _ _ _ us hl => match us, hl with | [_, _], _ => rfl
theorem D7 : DOk tabs 7 f7 := dok0 (d := d7) (ps := ["self", "other"]) rfl rfl rfl rfl ⟨rfl, rfl, rfl, by decide +kernel, rfl, by decide +kernel, by decide +kernel⟩ (by decide) (fun j hj => by cases hj) rfl (by decide +kernel) fun _ _ _ _ _ _ us hl => match us, hl with | [_, _], _ => rfl
theorem D8 : DOk tabs 8 f8 := dok0 (d := d8) (ps := ["self", "other"]) rfl rfl rfl rfl ⟨rfl, rfl, rfl, by decide +kernel, rfl, by decide +kernel, by decide +kernel⟩ (by decide) (fun j hj => by cases hj) rfl (by decide +kernel) fun _ _ _ _ _ _ us hl => match us, hl with | [_, _], _ => rfl
theorem D9 : DOk tabs 9 f9 := dok0 (d := d9) (ps := ["value"]) rfl rfl rfl rfl ⟨rfl, rfl, rfl, by decide +kernel, rfl, by decide +kernel, by decide +kernel⟩ (by decide) (fun j hj => by cases hj) rfl (by decide +kernel) fun _ _ _ _ _ _ us hl => match us, hl with | [_], _ => rfl
theorem D10 : DOk tabs 10 f10 := dok0 (d := d10) (ps := ["value"]) rfl rfl rfl rfl ⟨rfl, rfl, rfl, by decide +kernel, rfl, by decide +kernel, by decide +kernel⟩ (by decide) (fun j hj => by cases hj) rfl (by decide +kernel) fun _ _ _ _ _ _ us hl => match us, hl with | [_], _ => rfl
theorem D11 : DOk tabs 11 f11 := dok0 (d := d11) (ps := ["ratios"]) rfl rfl rfl rfl ⟨rfl, rfl, rfl, by decide +kernel, rfl, by decide +kernel, by decide +kernel⟩ (by decide) (fun j hj => by cases hj) rfl (by decide +kernel) fun _ _ _ _ _ _ us hl => match us, hl with | [_], _ => rfl
theorem D12 : DOk tabs 12 f12 := dok0 (d := d12) (ps := ["ratio"]) rfl rfl rfl rfl ⟨rfl, rfl, rfl, by decide +kernel, rfl, by decide +kernel, by decide +kernel⟩ (by decide) (fun j hj => by cases hj) rfl (by decide +kernel) fun _ _ _ _ _ _ us hl => match us, hl with | [_], _ => rfl
theorem D13 : DOk tabs 13 f13 := dok0 (d := d13) (ps := ["self", "numbers"]) rfl rfl rfl rfl ⟨rfl, rfl, rfl, by decide +kernel, rfl, by decide +kernel, by decide +kernel⟩ (by decide) (fun j hj => by cases hj) rfl (by decide +kernel) fun _ _ _ _ _ _ us hl => match us, hl with | [_, _], _ => rfl
theorem D14 : DOk tabs 14 f14 := dok0 (d := d14) (ps := ["self", "other"]) rfl rfl rfl rfl ⟨rfl, rfl, rfl, by decide +kernel, rfl, by decide +kernel, by decide +kernel⟩ (by decide) (fun j hj => by cases hj) rfl (by decide +kernel) fun _ _ _ _ _ _ us hl => match us, hl with | [_, _], _ => rfl
theorem D15 : DOk tabs 15 f15 := dok0 (d := d15) (ps := ["numbers"]) rfl rfl rfl rfl ⟨rfl, rfl, rfl, by decide +kernel, rfl, by decide +kernel, by decide +kernel⟩ (by decide) (fun j hj => by cases hj) rfl (by decide +kernel) fun _ _ _ _ _ _ us hl => match us, hl with | [_], _ => rfl
theorem D16 : DOk tabs 16 f16 := dok0 (d := d16) (ps := ["b"]) rfl rfl rfl rfl ⟨rfl, rfl, rfl, by decide +kernel, rfl, by decide +kernel, by decide +kernel⟩ (by decide) (fun j hj => by cases hj) rfl (by decide +kernel) fun _ _ _ _ _ _ us hl => match us, hl with | [_], _ => rfl
theorem D17 : DOk tabs 17 f17 := dok0 (d := d17) (ps := ["b"]) rfl rfl rfl rfl ⟨rfl, rfl, rfl, by decide +kernel, rfl, by decide +kernel, by decide +kernel⟩ (by decide) (fun j hj => by cases hj) rfl (by decide +kernel) fun _ _ _ _ _ _ us hl => match us, hl with | [_], _ => rfl
theorem D18 : DOk tabs 18 f18 := dok0 (d := d18) (ps := ["n"]) rfl rfl rfl rfl ⟨rfl, rfl, rfl, by decide +kernel, rfl, by decide +kernel, by decide +kernel⟩ (by decide) (fun j hj => by cases hj) rfl (by decide +kernel) fun _ _ _ _ _ _ us hl => match us, hl with | [_], _ => rfl
theorem D19 : DOk tabs 19 f19 := dok0 (d := d19) (ps := ["value"]) rfl rfl rfl rfl ⟨rfl, rfl, rfl, by decide +kernel, rfl, by decide +kernel, by decide +kernel⟩ (by decide) (fun j hj => by cases hj) rfl (by decide +kernel) fun _ _ _ _ _ _ us hl => match us, hl with | [_], _ => rfl
theorem D20 : DOk tabs 20 f20 := dok0 (d := d20) (ps := ["value"]) rfl rfl rfl rfl ⟨rfl, rfl, rfl, by decide +kernel, rfl, by decide +kernel, by decide +kernel⟩ (by decide) (fun j hj => by cases hj) rfl (by decide +kernel) fun _ _ _ _ _ _ us hl => match us, hl with | [_], _ => rfl
theorem D21 : DOk tabs 21 f21 := dok0 (d := d21) (ps := ["form"]) rfl rfl rfl rfl ⟨rfl, rfl, rfl, by decide +kernel, rfl, by decide +kernel, by decide +kernel⟩ (by decide) (fun j hj => by cases hj) rfl (by decide +kernel) fun _ _ _ _ _ _ us hl => match us, hl with | [_], _ => rfl
theorem D22 : DOk tabs 22 f22 := dok0 (d := d22) (ps := ["curve", "x", "y"]) rfl rfl rfl rfl ⟨rfl, rfl, rfl, by decide +kernel, rfl, by decide +kernel, by decide +kernel⟩ (by decide) (fun j hj => by cases hj) rfl (by decide +kernel) fun _ _ _ _ _ _ us hl => match us, hl with | [_, _, _], _ => rfl
theorem D23 : DOk tabs 23 f23 := dok0 (d := d23) (ps := ["value"]) rfl rfl rfl rfl ⟨rfl, rfl, rfl, by decide +kernel, rfl, by decide +kernel, by decide +kernel⟩ (by decide) (fun j hj => by cases hj) rfl (by decide +kernel) fun _ _ _ _ _ _ us hl => match us, hl with | [_], _ => rfl
theorem D24 : DOk tabs 24 f24 := dok0 (d := d24) (ps := ["curve", "value"]) rfl rfl rfl rfl ⟨rfl, rfl, rfl, by decide +kernel, rfl, by decide +kernel, by decide +kernel⟩ (by decide) (fun j hj => by cases hj) rfl (by decide +kernel) fun _ _ _ _ _ _ us hl => match us, hl with | [_, _], _ => rfl
theorem D25 : DOk tabs 25 f25 := dok0 (d := d25) (ps := ["points"]) rfl rfl rfl rfl ⟨rfl, rfl, rfl, by decide +kernel, rfl, by decide +kernel, by decide +kernel⟩ (by decide) (fun j hj => by cases hj) rfl (by decide +kernel) fun _ _ _ _ _ _ us hl => match us, hl with | [_], _ => rfl
theorem D26 : DOk tabs 26 f26 := dok0 (d := d26) (ps := ["point"]) rfl rfl rfl rfl ⟨rfl, rfl, rfl, by decide +kernel, rfl, by decide +kernel, by decide +kernel⟩ (by decide) (fun j hj => by cases hj) rfl (by decide +kernel) fun _ _ _ _ _ _ us hl => match us, hl with | [_], _ => rfl
theorem D27 : DOk tabs 27 f27 := dok0 (d := d27) (ps := ["form"]) rfl rfl rfl rfl ⟨rfl, rfl, rfl, by decide +kernel, rfl, by decide +kernel, by decide +kernel⟩ (by decide) (fun j hj => by cases hj) rfl (by decide +kernel) fun _ _ _ _ _ _ us hl => match us, hl with | [_], _ => rfl
theorem D28 : DOk tabs 28 f28 := dok0 (d := d28) (ps := ["form", "point"]) rfl rfl rfl rfl ⟨rfl, rfl, rfl, by decide +kernel, rfl, by decide +kernel, by decide +kernel⟩ (by decide) (fun j hj => by cases hj) rfl (by decide +kernel) fun _ _ _ _ _ _ us hl => match us, hl with | [_, _], _ => rfl
theorem D29 : DOk tabs 29 f29 := dok0 (d := d29) (ps := ["form", "point"]) rfl rfl rfl rfl ⟨rfl, rfl, rfl, by decide +kernel, rfl, by decide +kernel, by decide +kernel⟩ (by decide) (fun j hj => by cases hj) rfl (by decide +kernel) fun _ _ _ _ _ _ us hl => match us, hl with | [_, _], _ => rfl
theorem D30 : DOk tabs 30 f30 := dok0 (d := d30) (ps := ["form", "point"]) rfl rfl rfl rfl ⟨rfl, rfl, rfl, by decide +kernel, rfl, by decide +kernel, by decide +kernel⟩ (by decide) (fun j hj => by cases hj) rfl (by decide +kernel) fun _ _ _ _ _ _ us hl => match us, hl with | [_, _], _ => rfl
theorem D31 : DOk tabs 31 f31 := dok0 (d := d31) (ps := ["form", "point"]) rfl rfl rfl rfl ⟨rfl, rfl, rfl, by decide +kernel, rfl, by decide +kernel, by decide +kernel⟩ (by decide) (fun j hj => by cases hj) rfl (by decide +kernel) fun _ _ _ _ _ _ us hl => match us, hl with | [_, _], _ => rfl
theorem D32 : DOk tabs 32 f32 := dok0 (d := d32) (ps := ["form", "point"]) rfl rfl rfl rfl ⟨rfl, rfl, rfl, by decide +kernel, rfl, by decide +kernel, by decide +kernel⟩ (by decide) (fun j hj => by cases hj) rfl (by decide +kernel) fun _ _ _ _ _ _ us hl => match us, hl with | [_, _], _ => rfl
theorem D33 : DOk tabs 33 f33 := dok0 (d := d33) (ps := ["form", "point"]) rfl rfl rfl rfl ⟨rfl, rfl, rfl, by decide +kernel, rfl, by decide +kernel, by decide +kernel⟩ (by decide) (fun j hj => by cases hj) rfl (by decide +kernel) fun _ _ _ _ _ _ us hl => match us, hl with | [_, _], _ => rfl
theorem D34 : DOk tabs 34 f34 := dok0 (d := d34) (ps := ["form", "point"]) rfl rfl rfl rfl ⟨rfl, rfl, rfl, by decide +kernel, rfl, by decide +kernel, by decide +kernel⟩ (by decide) (fun j hj => by cases hj) rfl (by decide +kernel) fun _ _ _ _ _ _ us hl => match us, hl with | [_, _], _ => rfl
theorem D35 : DOk tabs 35 f35 := dok0 (d := d35) (ps := ["form", "point"]) rfl rfl rfl rfl ⟨rfl, rfl, rfl, by decide +kernel, rfl, by decide +kernel, by decide +kernel⟩ (by decide) (fun j hj => by cases hj) rfl (by decide +kernel) fun _ _ _ _ _ _ us hl => match us, hl with | [_, _], _ => rfl
theorem D36 : DOk tabs 36 f36 := dok0 (d := d36) (ps := ["script"]) rfl rfl rfl rfl ⟨rfl, rfl, rfl, by decide +kernel, rfl, by decide +kernel, by decide +kernel⟩ (by decide) (fun j hj => by cases hj) rfl (by decide +kernel) fun _ _ _ _ _ _ us hl => match us, hl with | [_], _ => rfl
theorem D37 : DOk tabs 37 f37 := dok0 (d := d37) (ps := ["pen", "many"]) rfl rfl rfl rfl ⟨rfl, rfl, rfl, by decide +kernel, rfl, by decide +kernel, by decide +kernel⟩ (by decide) (fun j hj => by cases hj) rfl (by decide +kernel) fun _ _ _ _ _ _ us hl => match us, hl with | [_, _], _ => rfl
theorem D38 : DOk tabs 38 f38 := dok0 (d := d38) (ps := ["pen", "some"]) rfl rfl rfl rfl ⟨rfl, rfl, rfl, by decide +kernel, rfl, by decide +kernel, by decide +kernel⟩ (by decide) (fun j hj => by cases hj) rfl (by decide +kernel) fun _ _ _ _ _ _ us hl => match us, hl with | [_, _], _ => rfl
theorem D39 : DOk tabs 39 f39 := dok0 (d := d39) (ps := ["pen", "row"]) rfl rfl rfl rfl ⟨rfl, rfl, rfl, by decide +kernel, rfl, by decide +kernel, by decide +kernel⟩ (by decide) (fun j hj => by cases hj) rfl (by decide +kernel) fun _ _ _ _ _ _ us hl => match us, hl with | [_, _], _ => rfl
theorem D40 : DOk tabs 40 f40 := dok0 (d := d40) (ps := ["pen", "most"]) rfl rfl rfl rfl ⟨rfl, rfl, rfl, by decide +kernel, rfl, by decide +kernel, by decide +kernel⟩ (by decide) (fun j hj => by cases hj) rfl (by decide +kernel) fun _ _ _ _ _ _ us hl => match us, hl with | [_, _], _ => rfl
theorem D41 : DOk tabs 41 f41 := dok0 (d := d41) (ps := ["a", "b"]) rfl rfl rfl rfl ⟨rfl, rfl, rfl, by decide +kernel, rfl, by decide +kernel, by decide +kernel⟩ (by decide) (fun j hj => by cases hj) rfl (by decide +kernel) fun _ _ _ _ _ _ us hl => match us, hl with | [_, _], _ => rfl
theorem D42 : DOk tabs 42 f42 := dok0 (d := d42) (ps := ["n"]) rfl rfl rfl rfl ⟨rfl, rfl, rfl, by decide +kernel, rfl, by decide +kernel, by decide +kernel⟩ (by decide) (fun j hj => by cases hj) rfl (by decide +kernel) fun _ _ _ _ _ _ us hl => match us, hl with | [_], _ => rfl
theorem D43 : DOk tabs 43 f43 := dok0 (d := d43) (ps := ["n"]) rfl rfl rfl rfl ⟨rfl, rfl, rfl, by decide +kernel, rfl, by decide +kernel, by decide +kernel⟩ (by decide) (fun j hj => by cases hj) rfl (by decide +kernel) fun _ _ _ _ _ _ us hl => match us, hl with | [_], _ => rfl
theorem D44 : DOk tabs 44 f44 := by
  refine dok1 (d := d44) (ps := ["top", "bottom"]) rfl rfl rfl rfl ⟨rfl, rfl, rfl, by decide +kernel, rfl, by decide +kernel, by decide +kernel⟩ (by decide) (fun j hj => by cases hj) (by decide) (by decide +kernel) (by decide) fun j hj T kV doc pm an cdv ct us its hu hi => ?_
  match j, hj with
  | 0, _ => match us, its, hu, hi with | [_], [_], _, _ => exact ⟨_, rfl, rfl⟩
  | 1, _ => match us, its, hu, hi with | [_, _], [_], _, _ => exact ⟨_, rfl, rfl⟩
theorem D45 : DOk tabs 45 f45 := dok0 (d := d45) (ps := ["a", "b"]) rfl rfl rfl rfl ⟨rfl, rfl, rfl, by decide +kernel, rfl, by decide +kernel, by decide +kernel⟩ (by decide) (fun j hj => by cases hj) rfl (by decide +kernel) fun _ _ _ _ _ _ us hl => match us, hl with | [_, _], _ => rfl
theorem D46 : DOk tabs 46 f46 := dok0 (d := d46) (ps := ["a"]) rfl rfl rfl rfl ⟨rfl, rfl, rfl, by decide +kernel, rfl, by decide +kernel, by decide +kernel⟩ (by decide) (fun j hj => by cases hj) rfl (by decide +kernel) fun _ _ _ _ _ _ us hl => match us, hl with | [_], _ => rfl
theorem D47 : DOk tabs 47 f47 := dok0 (d := d47) (ps := ["a", "b"]) rfl rfl rfl rfl ⟨rfl, rfl, rfl, by decide +kernel, rfl, by decide +kernel, by decide +kernel⟩ (by decide) (fun j hj => by cases hj) rfl (by decide +kernel) fun _ _ _ _ _ _ us hl => match us, hl with | [_, _], _ => rfl
theorem D48 : DOk tabs 48 f48 := dok0 (d := d48) (ps := ["a", "b"]) rfl rfl rfl rfl ⟨rfl, rfl, rfl, by decide +kernel, rfl, by decide +kernel, by decide +kernel⟩ (by decide) (fun j hj => by cases hj) rfl (by decide +kernel) fun _ _ _ _ _ _ us hl => match us, hl with | [_, _], _ => rfl
theorem D49 : DOk tabs 49 f49 := dok0 (d := d49) (ps := ["a", "b"]) rfl rfl rfl rfl ⟨rfl, rfl, rfl, by decide +kernel, rfl, by decide +kernel, by decide +kernel⟩ (by decide) (fun j hj => by cases hj) rfl (by decide +kernel) fun _ _ _ _ _ _ us hl => match us, hl with | [_, _], _ => rfl
theorem D50 : DOk tabs 50 f50 := dok0 (d := d50) (ps := ["a", "b"]) rfl rfl rfl rfl ⟨rfl, rfl, rfl, by decide +kernel, rfl, by decide +kernel, by decide +kernel⟩ (by decide) (fun j hj => by cases hj) rfl (by decide +kernel) fun _ _ _ _ _ _ us hl => match us, hl with | [_, _], _ => rfl
theorem D51 : DOk tabs 51 f51 := dok0 (d := d51) (ps := ["a"]) rfl rfl rfl rfl ⟨rfl, rfl, rfl, by decide +kernel, rfl, by decide +kernel, by decide +kernel⟩ (by decide) (fun j hj => by cases hj) rfl (by decide +kernel) fun _ _ _ _ _ _ us hl => match us, hl with | [_], _ => rfl
theorem D52 : DOk tabs 52 f52 := dok0 (d := d52) (ps := ["number"]) rfl rfl rfl rfl ⟨rfl, rfl, rfl, by decide +kernel, rfl, by decide +kernel, by decide +kernel⟩ (by decide) (fun j hj => by cases hj) rfl (by decide +kernel) fun _ _ _ _ _ _ us hl => match us, hl with | [_], _ => rfl
theorem D53 : DOk tabs 53 f53 := dok0 (d := d53) (ps := ["items"]) rfl rfl rfl rfl ⟨rfl, rfl, rfl, by decide +kernel, rfl, by decide +kernel, by decide +kernel⟩ (by decide) (fun j hj => by cases hj) rfl (by decide +kernel) fun _ _ _ _ _ _ us hl => match us, hl with | [_], _ => rfl
theorem D54 : DOk tabs 54 f54 := dok0 (d := d54) (ps := ["numbers", "point"]) rfl rfl rfl rfl ⟨rfl, rfl, rfl, by decide +kernel, rfl, by decide +kernel, by decide +kernel⟩ (by decide) (fun j hj => by cases hj) rfl (by decide +kernel) fun _ _ _ _ _ _ us hl => match us, hl with | [_, _], _ => rfl
theorem D55 : DOk tabs 55 f55 := dok0 (d := d55) (ps := ["numbers", "point"]) rfl rfl rfl rfl ⟨rfl, rfl, rfl, by decide +kernel, rfl, by decide +kernel, by decide +kernel⟩ (by decide) (fun j hj => by cases hj) rfl (by decide +kernel) fun _ _ _ _ _ _ us hl => match us, hl with | [_, _], _ => rfl
theorem D56 : DOk tabs 56 f56 := dok0 (d := d56) (ps := ["numbers", "one", "other"]) rfl rfl rfl rfl ⟨rfl, rfl, rfl, by decide +kernel, rfl, by decide +kernel, by decide +kernel⟩ (by decide) (fun j hj => by cases hj) rfl (by decide +kernel) fun _ _ _ _ _ _ us hl => match us, hl with | [_, _, _], _ => rfl
theorem D57 : DOk tabs 57 f57 := dok0 (d := d57) (ps := ["point"]) rfl rfl rfl rfl ⟨rfl, rfl, rfl, by decide +kernel, rfl, by decide +kernel, by decide +kernel⟩ (by decide) (fun j hj => by cases hj) rfl (by decide +kernel) fun _ _ _ _ _ _ us hl => match us, hl with | [_], _ => rfl
theorem D58 : DOk tabs 58 f58 := dok0 (d := d58) (ps := ["point", "due"]) rfl rfl rfl rfl ⟨rfl, rfl, rfl, by decide +kernel, rfl, by decide +kernel, by decide +kernel⟩ (by decide) (fun j hj => by cases hj) rfl (by decide +kernel) fun _ _ _ _ _ _ us hl => match us, hl with | [_, _], _ => rfl
theorem D59 : DOk tabs 59 f59 := dok0 (d := d59) (ps := ["points"]) rfl rfl rfl rfl ⟨rfl, rfl, rfl, by decide +kernel, rfl, by decide +kernel, by decide +kernel⟩ (by decide) (fun j hj => by cases hj) rfl (by decide +kernel) fun _ _ _ _ _ _ us hl => match us, hl with | [_], _ => rfl
theorem D60 : DOk tabs 60 f60 := dok0 (d := d60) (ps := ["form"]) rfl rfl rfl rfl ⟨rfl, rfl, rfl, by decide +kernel, rfl, by decide +kernel, by decide +kernel⟩ (by decide) (fun j hj => by cases hj) rfl (by decide +kernel) fun _ _ _ _ _ _ us hl => match us, hl with | [_], _ => rfl
theorem D61 : DOk tabs 61 f61 := dok0 (d := d61) (ps := ["pen", "most"]) rfl rfl rfl rfl ⟨rfl, rfl, rfl, by decide +kernel, rfl, by decide +kernel, by decide +kernel⟩ (by decide) (fun j hj => by cases hj) rfl (by decide +kernel) fun _ _ _ _ _ _ us hl => match us, hl with | [_, _], _ => rfl
theorem D62 : DOk tabs 62 f62 := dok0 (d := d62) (ps := ["form", "most"]) rfl rfl rfl rfl ⟨rfl, rfl, rfl, by decide +kernel, rfl, by decide +kernel, by decide +kernel⟩ (by decide) (fun j hj => by cases hj) rfl (by decide +kernel) fun _ _ _ _ _ _ us hl => match us, hl with | [_, _], _ => rfl
theorem D63 : DOk tabs 63 f63 := dok0 (d := d63) (ps := ["form"]) rfl rfl rfl rfl ⟨rfl, rfl, rfl, by decide +kernel, rfl, by decide +kernel, by decide +kernel⟩ (by decide) (fun j hj => by cases hj) rfl (by decide +kernel) fun _ _ _ _ _ _ us hl => match us, hl with | [_], _ => rfl
theorem D64 : DOk tabs 64 f64 := dok0 (d := d64) (ps := ["form", "point"]) rfl rfl rfl rfl ⟨rfl, rfl, rfl, by decide +kernel, rfl, by decide +kernel, by decide +kernel⟩ (by decide) (fun j hj => by cases hj) rfl (by decide +kernel) fun _ _ _ _ _ _ us hl => match us, hl with | [_, _], _ => rfl
theorem D65 : DOk tabs 65 f65 := dok0 (d := d65) (ps := ["form", "point"]) rfl rfl rfl rfl ⟨rfl, rfl, rfl, by decide +kernel, rfl, by decide +kernel, by decide +kernel⟩ (by decide) (fun j hj => by cases hj) rfl (by decide +kernel) fun _ _ _ _ _ _ us hl => match us, hl with | [_, _], _ => rfl
theorem D66 : DOk tabs 66 f66 := dok0 (d := d66) (ps := ["form", "point"]) rfl rfl rfl rfl ⟨rfl, rfl, rfl, by decide +kernel, rfl, by decide +kernel, by decide +kernel⟩ (by decide) (fun j hj => by cases hj) rfl (by decide +kernel) fun _ _ _ _ _ _ us hl => match us, hl with | [_, _], _ => rfl
theorem D67 : DOk tabs 67 f67 := dok0 (d := d67) (ps := ["form", "point"]) rfl rfl rfl rfl ⟨rfl, rfl, rfl, by decide +kernel, rfl, by decide +kernel, by decide +kernel⟩ (by decide) (fun j hj => by cases hj) rfl (by decide +kernel) fun _ _ _ _ _ _ us hl => match us, hl with | [_, _], _ => rfl
theorem D68 : DOk tabs 68 f68 := dok0 (d := d68) (ps := ["call"]) rfl rfl rfl rfl ⟨rfl, rfl, rfl, by decide +kernel, rfl, by decide +kernel, by decide +kernel⟩ (by decide) (fun j hj => by cases hj) rfl (by decide +kernel) fun _ _ _ _ _ _ us hl => match us, hl with | [_], _ => rfl
theorem D69 : DOk tabs 69 f69 := dok0 (d := d69) (ps := ["point"]) rfl rfl rfl rfl ⟨rfl, rfl, rfl, by decide +kernel, rfl, by decide +kernel, by decide +kernel⟩ (by decide) (fun j hj => by cases hj) rfl (by decide +kernel) fun _ _ _ _ _ _ us hl => match us, hl with | [_], _ => rfl
theorem D70 : DOk tabs 70 f70 := dok0 (d := d70) (ps := ["told", "due"]) rfl rfl rfl rfl ⟨rfl, rfl, rfl, by decide +kernel, rfl, by decide +kernel, by decide +kernel⟩ (by decide) (fun j hj => by cases hj) rfl (by decide +kernel) fun _ _ _ _ _ _ us hl => match us, hl with | [_, _], _ => rfl
theorem D71 : DOk tabs 71 f71 := dok0 (d := d71) (ps := ["script"]) rfl rfl rfl rfl ⟨rfl, rfl, rfl, by decide +kernel, rfl, by decide +kernel, by decide +kernel⟩ (by decide) (fun j hj => by cases hj; exact ⟨"law", rfl, rfl⟩) rfl (by decide +kernel) fun _ _ _ _ _ _ us hl => match us, hl with | [_], _ => rfl
theorem Dall : ∀ i f, tabs.fd[i]? = some f → DOk tabs i f := by
  intro i f h
  rcases i with _ | i; · cases h; exact D0
  rcases i with _ | i; · cases h; exact D1
  rcases i with _ | i; · cases h; exact D2
  rcases i with _ | i; · cases h; exact D3
  rcases i with _ | i; · cases h; exact D4
  rcases i with _ | i; · cases h; exact D5
  rcases i with _ | i; · cases h; exact D6
  rcases i with _ | i; · cases h; exact D7
  rcases i with _ | i; · cases h; exact D8
  rcases i with _ | i; · cases h; exact D9
  rcases i with _ | i; · cases h; exact D10
  rcases i with _ | i; · cases h; exact D11
  rcases i with _ | i; · cases h; exact D12
  rcases i with _ | i; · cases h; exact D13
  rcases i with _ | i; · cases h; exact D14
  rcases i with _ | i; · cases h; exact D15
  rcases i with _ | i; · cases h; exact D16
  rcases i with _ | i; · cases h; exact D17
  rcases i with _ | i; · cases h; exact D18
  rcases i with _ | i; · cases h; exact D19
  rcases i with _ | i; · cases h; exact D20
  rcases i with _ | i; · cases h; exact D21
  rcases i with _ | i; · cases h; exact D22
  rcases i with _ | i; · cases h; exact D23
  rcases i with _ | i; · cases h; exact D24
  rcases i with _ | i; · cases h; exact D25
  rcases i with _ | i; · cases h; exact D26
  rcases i with _ | i; · cases h; exact D27
  rcases i with _ | i; · cases h; exact D28
  rcases i with _ | i; · cases h; exact D29
  rcases i with _ | i; · cases h; exact D30
  rcases i with _ | i; · cases h; exact D31
  rcases i with _ | i; · cases h; exact D32
  rcases i with _ | i; · cases h; exact D33
  rcases i with _ | i; · cases h; exact D34
  rcases i with _ | i; · cases h; exact D35
  rcases i with _ | i; · cases h; exact D36
  rcases i with _ | i; · cases h; exact D37
  rcases i with _ | i; · cases h; exact D38
  rcases i with _ | i; · cases h; exact D39
  rcases i with _ | i; · cases h; exact D40
  rcases i with _ | i; · cases h; exact D41
  rcases i with _ | i; · cases h; exact D42
  rcases i with _ | i; · cases h; exact D43
  rcases i with _ | i; · cases h; exact D44
  rcases i with _ | i; · cases h; exact D45
  rcases i with _ | i; · cases h; exact D46
  rcases i with _ | i; · cases h; exact D47
  rcases i with _ | i; · cases h; exact D48
  rcases i with _ | i; · cases h; exact D49
  rcases i with _ | i; · cases h; exact D50
  rcases i with _ | i; · cases h; exact D51
  rcases i with _ | i; · cases h; exact D52
  rcases i with _ | i; · cases h; exact D53
  rcases i with _ | i; · cases h; exact D54
  rcases i with _ | i; · cases h; exact D55
  rcases i with _ | i; · cases h; exact D56
  rcases i with _ | i; · cases h; exact D57
  rcases i with _ | i; · cases h; exact D58
  rcases i with _ | i; · cases h; exact D59
  rcases i with _ | i; · cases h; exact D60
  rcases i with _ | i; · cases h; exact D61
  rcases i with _ | i; · cases h; exact D62
  rcases i with _ | i; · cases h; exact D63
  rcases i with _ | i; · cases h; exact D64
  rcases i with _ | i; · cases h; exact D65
  rcases i with _ | i; · cases h; exact D66
  rcases i with _ | i; · cases h; exact D67
  rcases i with _ | i; · cases h; exact D68
  rcases i with _ | i; · cases h; exact D69
  rcases i with _ | i; · cases h; exact D70
  rcases i with _ | i; · cases h; exact D71
  cases h
theorem X0 : XOk tabs e0 := ⟨["self", "what", "value"], ["what", "value"], rfl, rfl, fun P w K mg base k f cda cc C oc kV doc pm ct od an osl J lk hcd ha => ⟨ex_fn2 J (exs_by (by decide +kernel)) lk hcd rfl rfl rfl rfl rfl rfl rfl rfl (ha _ (by simp)) (ha _ (by simp)) (fun env => ⟨_, rfl⟩), Binds.all fun us hl => match us, hl with | [_, _, _], _ => by kernel_rfl⟩⟩
theorem X1 : XOk tabs e1 := ⟨["self", "why"], ["why"], rfl, rfl, fun P w K mg base k f cda cc C oc kV doc pm ct od an osl J lk hcd ha => ⟨ex_fn1 J (exs_by (by decide +kernel)) lk hcd rfl rfl rfl rfl rfl rfl (ha _ (by simp)) (fun env => ⟨_, rfl⟩), Binds.all fun us hl => match us, hl with | [_, _], _ => by kernel_rfl⟩⟩
theorem X2 : XOk tabs e2 := ⟨["self", "value"], ["value"], rfl, rfl, fun P w K mg base k f cda cc C oc kV doc pm ct od an osl J lk hcd ha => ⟨ex_fn1 J (exs_by (by decide +kernel)) lk hcd rfl rfl rfl rfl rfl rfl (ha _ (by simp)) (fun env => ⟨_, rfl⟩), Binds.all fun us hl => match us, hl with | [_, _], _ => by kernel_rfl⟩⟩
theorem X3 : XOk tabs e3 := ⟨["self", "value"], ["value"], rfl, rfl, fun P w K mg base k f cda cc C oc kV doc pm ct od an osl J lk hcd ha => ⟨ex_fn1 J (exs_by (by decide +kernel)) lk hcd rfl rfl rfl rfl rfl rfl (ha _ (by simp)) (fun env => ⟨_, rfl⟩), Binds.all fun us hl => match us, hl with | [_, _], _ => by kernel_rfl⟩⟩
theorem Xall : ∀ x ∈ tabs.ex, XOk tabs x := by
  intro x h
  rcases List.mem_cons.mp h with rfl | h; · exact X0
  rcases List.mem_cons.mp h with rfl | h; · exact X1
  rcases List.mem_cons.mp h with rfl | h; · exact X2
  rcases List.mem_cons.mp h with rfl | h; · exact X3
  cases h
theorem C68 : COk tabs 68 ⟨"_law_complaint", "ok", [⟨3, some 1, .tp [.k (.str "point"), .rp 1]⟩], 2⟩ := ⟨d68, "call", _, _, _, _, _, _, _, _, _, _, ["call", "e"], rfl, rfl, rfl, rfl, rfl, rfl, ⟨rfl, rfl, rfl, by decide +kernel, rfl, by decide +kernel, by decide +kernel⟩, rfl, rfl, by kernel_rfl, fun K f fd F => F.bindsN fun _ _ _ _ _ _ us hl => match us, hl with | [_], _ => rfl⟩
theorem Call : ∀ p ∈ tabs.cmp, COk tabs p.1 p.2 := by
  intro x h
  rcases List.mem_cons.mp h with rfl | h; · exact C68
  cases h
end K34
set_option Elab.async false
set_option linter.all false
set_option maxRecDepth 100000
set_option maxHeartbeats 0
namespace K34
open PySem PySem.Spec PyProof.Rows L2 Ev
theorem d_some : ∀ i n dv, tabs.dfl.lookup (i, n) = some dv → ∃ f, tabs.fd[i]? = some f := by
  intro i n dv h
  have hm := mem_lk h
  have hall : tabs.dfl.all (fun p => (tabs.fd[p.1.1]?).isSome) = true := by kernel_rfl
  exact Option.isSome_iff_exists.mp (List.all_eq_true.mp hall _ hm)
theorem nd_at : tabs.at_.Nodup := by decide +kernel
theorem told (w : World) (mg : Str → Option Value) (fa : Addr) (h : Heap) (Y : hk.says w h) (G' : h.Ns mainGlobals mg) (hmg : mg ("law" : Str) = some (.ref fa)) : ∃ K : PySem.W.Frag, K.In h ∧ Told PySem.Challenge.rw_chordsums_k34_whole_points_ahead_and_bef w K mg fa h tabs.gm tabs.fds 71 1 := by
  obtain ⟨K, kh, c⟩ := Y
  exact ⟨K, kh, told_of c kh G' nd_at rfl (by kernel_rfl) Xall Call Dall d_some rfl (by decide) (by kernel_rfl) (by rfl) hmg⟩
end K34
open PySem PySem.W PySem.Calls PyProof.Rows
theorem PySem.Challenge.cw_chordsums_k34_whole_points_ahead_and_bef_holds : PySem.Challenge.rw_chordsums_k34_whole_points_ahead_and_bef.Holds := by
  w_on; o_law
  refine HandSHeadRun.head_imp (r := OpenLaw.row PySem.Challenge.rw_chordsums_k34_whole_points_ahead_and_bef) (q := view (OpenLaw.row PySem.Challenge.rw_chordsums_k34_whole_points_ahead_and_bef).prog [0, 80]) (H := K34.hk) (ob := K34.ob) (M := 4500) (loose := K34.names) (d := HandSHeadRun.topDef (OpenLaw.row PySem.Challenge.rw_chordsums_k34_whole_points_ahead_and_bef).prog 80) (kwd := []) K34.ob_eq
    K34.run (by kernel_rfl) (by kernel_rfl) (by kernel_rfl) (by rfl) (by first | assumption | decide +kernel) (by decide +kernel) ⟨rfl, rfl, rfl, rfl, rfl, by decide +kernel⟩ ?hw ?hc
  case hw => w_witness2
  case hc =>
    refine Ev.walk_ev (l := PySem.Challenge.rw_chordsums_k34_whole_points_ahead_and_bef) (n := 63) (depth := 14) (li := 71) (m := 1) (Γ := K34.tabs.gm) (fds := K34.tabs.fds) rfl (by decide) (by kernel_rfl) ⟨rfl, by decide, by decide⟩ (fun w mg fa h Y G hmg0 => ?_) fun ns hl hz => K34.law_plain ns hl hz
    have hmg : mg ("law" : PySem.Str) = some (.ref fa) := by
      have e : (HandSHeadRun.topDef (OpenLaw.row PySem.Challenge.rw_chordsums_k34_whole_points_ahead_and_bef).prog 80).name = ("law" : PySem.Str) := by kernel_rfl
      rw [← e]
      exact hmg0
    exact K34.told w mg fa h Y G hmg
