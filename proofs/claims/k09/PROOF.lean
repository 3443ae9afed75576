import PyProof.Rows.All
import Wide.All
import OpenK.AllK
import Wide.FinOn
import HandS.ForMost
import HandS.Exc
import HandS.ExcOwn
import HandS.TryOnly
import HandS.TryMany
import HandS.IsInst
import HandS.FStr
import HandS.Style
import HandS.Conv
import HandS.Zip
import HandS.TupAny
import HandS.TupMul
import HandS.Wide
import HandS.SortInts
import HandS.Lambda
import HandS.EndOwn
import HandS.ForExc
import HandS.WordsExc
import HandS.HotCalls
import HandS.ExcSuper
import HandS.Text
import HandS.Deep
import KE.DataMinMax
import HandS.EndTab
import HandS.Iter
import HandS.ExcIs
import HandS.ExcField
import HandS.Comp
import KE.KNest
import KE.GoesEnum
import KE.KRevSl
import HandS.StrMore
import HandS.List
import HandS.SetTxt0
import HandS.Set
import HandS.SetFor
import HandS.SetTxtIn
import PyProof.Rows.SortStr
import HandS.Dict
import KE.KExcSuper
import HandS.ExcInit
import PyProof.ListRange
import HandS.TupSets
import HandS.ClsMeth
import HandS.Property
import PyProof.P3Eq
import PySem.Challenge.RW_ringtowers_k09_standings_written_and_rea
import KE.IntTextLaws
set_option Elab.async false
set_option linter.all false
set_option maxHeartbeats 4000000
set_option maxRecDepth 100000
/-! DL: plain data over the hand layer. -/
namespace DL
open PySem L2

/-! ### data -/
inductive D where
  | non | bl (b : Bool) | int (i : Int) | str (s : List Nat)
  | tup (xs : List D) | lst (xs : List D) | dic (ks vs : List D)
  | cel (n : Nat) | glb (n : Nat) | ty (n : String) | klst (xs : List D)
  deriving Inhabited

structure Wd where
  G : Hp
  ι : List Addr

def keyD : Key → D
  | .inl i => .int i
  | .inr x => .str x.cps.toList

/-- what a number of the top stands for, the written part -/
structure Tp where
  K : PySem.W.Frag
  gl : Nat → V

mutual
def At (t : Tp) (W : Wd) : D → V → Prop
  | .non, v => v = .non
  | .bl b, v => v = .bl b
  | .int i, v => v = .int i
  | .str s, v => v = .str ⟨s.toArray⟩
  | .tup ds, v => ∃ a vs, v = .ref a ∧ SqT t.K W.G a vs ∧ AtL t W ds vs
  | .lst ds, v => ∃ a vs, v = .ref a ∧ W.G a = some (.lst vs) ∧ AtL t W ds vs
  | .dic ks ds, v => ∃ a, v = .ref a ∧ ((∃ kvs, W.G a = some (.dK kvs) ∧ ks = kvs.map (fun p => keyD p.1) ∧ AtL t W ds (kvs.map (·.2))) ∨
      ∃ kvs, W.G a = some (.dT kvs) ∧ ks = kvs.map (fun p => D.tup (p.1.map keyD)) ∧ AtL t W ds (kvs.map (·.2)))
  | .cel n, v => ∃ a, v = .ref a ∧ W.ι[n]? = some a
  | .glb n, v => v = t.gl n
  | .ty n, v => v = .ty n
  | .klst ds, v => ∃ a vs, v = .ref a ∧ SqL t.K (fun _ => none) a vs ∧ AtL t W ds vs
def AtL (t : Tp) (W : Wd) : List D → List V → Prop
  | [], vs => vs = []
  | d :: ds, vs => ∃ v r, vs = v :: r ∧ At t W d v ∧ AtL t W ds r
end

structure Wd.le (W W' : Wd) : Prop where
  g : Same W.G W'.G
  i : W.ι <+: W'.ι
theorem Wd.le.refl (W : Wd) : W.le W := ⟨Same.refl _, List.prefix_refl _⟩
theorem Wd.le.trans {W W1 W2 : Wd} (a : W.le W1) (b : W1.le W2) : W.le W2 := ⟨a.g.trans b.g, a.i.trans b.i⟩

theorem sqT_mono {K : PySem.W.Frag} {H H' : Hp} {a : Addr} {xs : List V} (e : Same H H') (h : SqT K H a xs) : SqT K H' a xs := by
  rcases h with (h | ⟨o, h⟩) | h
  · exact .inl (.inl (e _ _ h))
  · exact .inl (.inr ⟨o, e _ _ h⟩)
  · exact .inr h
theorem prefix_get {α : Type} {l l' : List α} (h : l <+: l') {n : Nat} {a : α} (e : l[n]? = some a) : l'[n]? = some a := by
  obtain ⟨r, rfl⟩ := h
  have hl : n < l.length := (List.getElem?_eq_some_iff.mp e).1
  rw [List.getElem?_append_left hl]; exact e

mutual
theorem At.mono {t : Tp} {W W' : Wd} (le : W.le W') : ∀ {d : D} {v : V}, At t W d v → At t W' d v
  | .non, _, h => h
  | .bl _, _, h => h
  | .int _, _, h => h
  | .str _, _, h => h
  | .tup ds, v, h => by
    simp only [At] at h ⊢
    obtain ⟨a, vs, e, s, r⟩ := h
    exact ⟨a, vs, e, sqT_mono le.g s, AtL.mono le r⟩
  | .lst ds, v, h => by
    simp only [At] at h ⊢
    obtain ⟨a, vs, e, s, r⟩ := h
    exact ⟨a, vs, e, le.g _ _ s, AtL.mono le r⟩
  | .dic ks ds, v, h => by
    simp only [At] at h ⊢
    obtain ⟨a, e, h⟩ := h
    refine ⟨a, e, ?_⟩
    rcases h with ⟨kvs, h1, h2, h3⟩ | ⟨kvs, h1, h2, h3⟩
    · exact .inl ⟨kvs, le.g _ _ h1, h2, AtL.mono le h3⟩
    · exact .inr ⟨kvs, le.g _ _ h1, h2, AtL.mono le h3⟩
  | .cel n, v, h => by
    simp only [At] at h ⊢
    obtain ⟨a, e, h⟩ := h
    exact ⟨a, e, prefix_get le.i h⟩
  | .glb _, _, h => h
  | .ty _, _, h => h
  | .klst ds, v, h => by
    simp only [At] at h ⊢
    obtain ⟨a, vs, e, h, r⟩ := h
    exact ⟨a, vs, e, h, AtL.mono le r⟩
theorem AtL.mono {t : Tp} {W W' : Wd} (le : W.le W') : ∀ {ds : List D} {vs : List V}, AtL t W ds vs → AtL t W' ds vs
  | [], _, h => h
  | d :: ds, vs, h => by
    simp only [AtL] at h ⊢
    obtain ⟨v, r, e, h1, h2⟩ := h
    exact ⟨v, r, e, At.mono le h1, AtL.mono le h2⟩
end

/-! ### the objects that change -/
inductive MO where
  | lst (ds : List D) | dic (ks vs : List D) | ins (n : Nat) (fs : List (Str × D))

def FAt (t : Tp) (W : Wd) : List (Str × D) → List (Str × V) → Prop
  | [], vs => vs = []
  | (x, d) :: ds, vs => ∃ v r, vs = (x, v) :: r ∧ At t W d v ∧ FAt t W ds r
def MAt (t : Tp) (W : Wd) (H : Hp) (p : Addr) : MO → Prop
  | .lst ds => ∃ vs, H p = some (.lst vs) ∧ AtL t W ds vs
  | .dic ks ds => (∃ kvs, H p = some (.dK kvs) ∧ ks = kvs.map (fun p => keyD p.1) ∧ AtL t W ds (kvs.map (·.2))) ∨
      ∃ kvs, H p = some (.dT kvs) ∧ ks = kvs.map (fun p => D.tup (p.1.map keyD)) ∧ AtL t W ds (kvs.map (·.2))
  | .ins n fs => ∃ C dx vs, t.gl n = .ref C ∧ H p = some (.ins C dx vs) ∧ FAt t W fs vs
theorem FAt.mono {t : Tp} {W W' : Wd} (le : W.le W') : ∀ {ds : List (Str × D)} {vs : List (Str × V)}, FAt t W ds vs → FAt t W' ds vs
  | [], _, h => h
  | (x, d) :: ds, vs, h => by
    simp only [FAt] at h ⊢
    obtain ⟨v, r, e, h1, h2⟩ := h
    exact ⟨v, r, e, At.mono le h1, FAt.mono le h2⟩
theorem MAt.mono {t : Tp} {W W' : Wd} {H H' : Hp} {p : Addr} (le : W.le W') (e : ∀ o, H p = some o → (∀ ps, o ≠ .tbl ps) → H' p = some o) : ∀ {m : MO}, MAt t W H p m → MAt t W' H' p m
  | .lst ds, ⟨vs, h1, h2⟩ => ⟨vs, e _ h1 (fun _ z => nomatch z), AtL.mono le h2⟩
  | .dic ks ds, h => by
    rcases h with ⟨kvs, h1, h2, h3⟩ | ⟨kvs, h1, h2, h3⟩
    · exact .inl ⟨kvs, e _ h1 (fun _ z => nomatch z), h2, AtL.mono le h3⟩
    · exact .inr ⟨kvs, e _ h1 (fun _ z => nomatch z), h2, AtL.mono le h3⟩
  | .ins n fs, ⟨C, dx, vs, h1, h2, h3⟩ => ⟨C, dx, vs, h1, e _ h2 (fun _ z => nomatch z), FAt.mono le h3⟩
theorem MAt.some {t : Tp} {W : Wd} {H : Hp} {p : Addr} : ∀ {m : MO}, MAt t W H p m → ∃ o, H p = some o ∧ ∀ ps, o ≠ .tbl ps
  | .lst ds, ⟨vs, h1, h2⟩ => ⟨_, h1, fun _ z => nomatch z⟩
  | .dic ks ds, h => by
    rcases h with ⟨kvs, h1, h2, h3⟩ | ⟨kvs, h1, h2, h3⟩
    · exact ⟨_, h1, fun _ z => nomatch z⟩
    · exact ⟨_, h1, fun _ z => nomatch z⟩
  | .ins n fs, ⟨C, dx, vs, h1, h2, h3⟩ => ⟨_, h2, fun _ z => nomatch z⟩

abbrev Cells := List MO
structure Exc where
  n : Nat
  lim : Option D
/-- what an evaluation comes to -/
inductive Out (α : Type) where
  | ok (a : α) (h : Cells) | exc (x : Exc) (h : Cells) | stuck
/-- keeps what comes after as it stands -/
inductive Hld {γ : Sort _} (f : γ) : Type
  | mk
def Out.bind {α β : Type} (o : Out α) (f : α → Cells → Out β) (_ : Hld f := .mk) : Out β := match o with
  | .ok a h => f a h
  | .exc x h => .exc x h
  | .stuck => .stuck
@[simp] theorem bind_ok {α β : Type} (a : α) (h : Cells) (f : α → Cells → Out β) : (Out.ok a h).bind f = f a h := id rfl
@[simp] theorem bind_exc {α β : Type} (x : Exc) (h : Cells) (f : α → Cells → Out β) : (Out.exc x h).bind f = .exc x h := id rfl
@[simp] theorem bind_stuck {α β : Type} (f : α → Cells → Out β) : (Out.stuck).bind f = .stuck := id rfl

/-- a slot's value: data, or an object that stands nowhere else -/
inductive SV where
  | val (d : D) | own (m : MO)
abbrev Env := List (Option SV)
abbrev M (α : Type) := Env → Cells → Out α

/-! ### states -/
structure Cc extends Tp where
  T : List (Addr × Str)
  xc : Nat → Value

/-- but for the tables -/
def nt (H : Hp) (a : Addr) : Option HO := match H a with
  | some (.tbl _) => none
  | o => o
theorem nt_no {H : Hp} {a : Addr} (h : H a = none) : nt H a = none := by unfold nt; rw [h]
theorem nt_yes {H : Hp} {a : Addr} {o : HO} (h : H a = some o) (n : ∀ ps, o ≠ .tbl ps) : nt H a ≠ none := by
  unfold nt
  rw [h]
  cases o <;> first | (intro z; cases z; done) | exact absurd rfl (n _)
structure Ext (W : Wd) (H : Hp) (ex : List Addr) (W' : Wd) (H' : Hp) : Prop where
  le : W.le W'
  ng : ∀ a, nt H a ≠ none → a ∉ ex → W.G a = none → W'.G a = none
  ni : ∀ p ∈ W'.ι, p ∈ W.ι ∨ nt H p = none
  fr : ∀ a o, H a = some o → a ∉ W.ι → a ∉ ex → (∀ ps, o ≠ .tbl ps) → H' a = some o
  dom : ∀ a, nt H a ≠ none → nt H' a ≠ none
theorem Ext.refl (W : Wd) (H : Hp) (ex : List Addr) : Ext W H ex W H := ⟨.refl _, fun _ _ _ h => h, fun _ h => .inl h, fun _ _ h _ _ _ => h, fun _ h => h⟩
theorem Ext.trans {W W1 W2 : Wd} {H H1 H2 : Hp} {ex ex1 : List Addr} (a : Ext W H ex W1 H1) (b : Ext W1 H1 ex1 W2 H2) (he : ∀ p ∈ ex1, p ∈ ex ∨ nt H p = none) : Ext W H ex W2 H2 where
  le := a.le.trans b.le
  ng := fun p h1 h2 h3 => b.ng p (a.dom p h1) (fun z => (he p z).elim h2 h1) (a.ng p h1 h2 h3)
  ni := fun p h => (b.ni p h).elim (fun z => a.ni p z) fun z => by
    by_cases q : nt H p = none
    · exact .inr q
    · exact absurd z (a.dom p q)
  fr := fun p o h1 h2 h3 h4 => by
    have n1 : nt H p ≠ none := nt_yes h1 h4
    refine b.fr p o (a.fr p o h1 h2 h3 h4) (fun z => ?_) (fun z => ?_) h4
    · exact (a.ni p z).elim h2 n1
    · exact (he p z).elim h3 n1
  dom := fun p h => b.dom p (a.dom p h)
theorem Ext.trans0 {W W1 W2 : Wd} {H H1 H2 : Hp} {ex : List Addr} (a : Ext W H ex W1 H1) (b : Ext W1 H1 [] W2 H2) : Ext W H ex W2 H2 := a.trans b fun _ z => nomatch z

def Dat : HO → Prop
  | .lst _ => True
  | .tup _ => True
  | .dK _ => True
  | .dT _ => True
  | _ => False
structure HRel (c : Cc) (W : Wd) (h : Cells) (H : Hp) : Prop where
  sub : ∀ a o, W.G a = some o → H a = some o ∨ ∃ ob, H a = some (.frz ob o)
  dat : ∀ a o, W.G a = some o → Dat o
  len : W.ι.length = h.length
  cel : ∀ (j : Nat) m p, h[j]? = some m → W.ι[j]? = some p → W.G p = none ∧ MAt c.toTp W H p m
  nd : W.ι.Nodup
  tab : LamX.Tabs c.T H

theorem HRel.rd {c : Cc} {W : Wd} {h : Cells} {H : Hp} (R : HRel c W h H) {a : Addr} {o : HO} (e : Rd W.G a o) : Rd H a o := by
  rcases e with e | ⟨ob, e⟩
  · rcases R.sub a o e with z | ⟨ob, z⟩
    · exact .inl z
    · exact .inr ⟨ob, z⟩
  · exact False.elim (R.dat a _ e)
theorem HRel.sqL {c : Cc} {W : Wd} {h : Cells} {H : Hp} (R : HRel c W h H) {a : Addr} {xs : List V} (e : SqL c.K W.G a xs) : SqL c.K H a xs := by
  rcases e with e | e
  · exact .inl (R.rd e)
  · exact .inr e
theorem HRel.sqT {c : Cc} {W : Wd} {h : Cells} {H : Hp} (R : HRel c W h H) {a : Addr} {xs : List V} (e : SqT c.K W.G a xs) : SqT c.K H a xs := by
  rcases e with e | e
  · exact .inl (R.rd e)
  · exact .inr e

/-- a slot -/
def SAt (t : Tp) (W : Wd) (H : Hp) (s : SV) (v : V) : Prop := match s with
  | .val d => At t W d v
  | .own m => ∃ p, v = .ref p ∧ MAt t W H p m ∧ W.G p = none ∧ p ∉ W.ι
structure Loc (t : Tp) (W : Wd) (ρ : Env) (σ : L2.St) (H : Hp) : Prop where
  len : ρ.length = σ.length
  at_ : ∀ (i : Nat) s, ρ[i]? = some (some s) → ∃ v, σ[i]? = some (some v) ∧ SAt t W H s v
  apart : ∀ (i j : Nat) m m' p, ρ[i]? = some (some (.own m)) → ρ[j]? = some (some (.own m')) → σ[i]? = some (some (.ref p)) → σ[j]? = some (some (.ref p)) → i = j
theorem Loc.ext {t : Tp} {W W' : Wd} {ρ : Env} {σ : L2.St} {H H' : Hp} (L : Loc t W ρ σ H) (x : Ext W H [] W' H') : Loc t W' ρ σ H' where
  len := L.len
  at_ := fun i s e => by
    obtain ⟨v, e1, e2⟩ := L.at_ i s e
    refine ⟨v, e1, ?_⟩
    cases s with
    | val d => exact At.mono x.le e2
    | own m =>
      obtain ⟨p, e3, e4, e5, e6⟩ := e2
      obtain ⟨o, e7, e8⟩ := e4.some
      have n1 : nt H p ≠ none := nt_yes e7 e8
      exact ⟨p, e3, e4.mono x.le fun o h1 h2 => x.fr p o h1 e6 (by simp) h2, x.ng p n1 (by simp) e5, fun z => (x.ni p z).elim e6 n1⟩
  apart := L.apart
/-- the objects that a slot owns are new since H0, or told -/
def OwnIn (ρ : Env) (σ : L2.St) (ex : List Addr) (H0 : Hp) : Prop := ∀ (i : Nat) m p, ρ[i]? = some (some (.own m)) → σ[i]? = some (some (.ref p)) → p ∈ ex ∨ nt H0 p = none

def XAt (c : Cc) (W : Wd) (H : Hp) (x : Exc) (cls : Value) (dd : Option Addr) : Prop :=
  cls = c.xc x.n ∧ match x.lim with
    | none => dd = none
    | some d => ∃ a v, dd = some a ∧ H a = some (.xd [("limit", v)]) ∧ At c.toTp W d v

/-! ### what is shown of an expression -/
def EPost (c : Cc) (wx : WX) (W : Wd) (σ : L2.St) (H : Hp) {α β : Type} (R : Wd → Hp → α → β → Prop) (o : Out α) (Q : β → Hp → Prop) : Prop := match o with
  | .ok d h' => ∀ v W' H', Ext W H [] W' H' → HRel c W' h' H' → R W' H' d v → Q v H'
  | .exc x h' => ∀ cls dd W' H', Ext W H [] W' H' → HRel c W' h' H' → XAt c W' H' x cls dd → wx cls dd σ H'
  | .stuck => False
def tG (c : Cc) (wx : WX) {α β : Type} (R : Wd → Hp → α → β → Prop) (m : M α) : L2.St → Hp → (β → Hp → Prop) → Prop := fun σ H Q =>
  ∃ W ρ h, HRel c W h H ∧ Loc c.toTp W ρ σ H ∧ EPost c wx W σ H R (m ρ h) Q
abbrev tD (c : Cc) (wx : WX) (m : M D) : TE := tG c wx (fun W _ => At c.toTp W) m
abbrev tL (c : Cc) (wx : WX) (m : M (List D)) : TA := tG c wx (fun W _ => AtL c.toTp W) m
abbrev tQ (c : Cc) (wx : WX) (m : M Bool) : TT := tG c wx (fun _ _ (a : Bool) b => a = b) m
def GE (X : Cx) (c : Cc) (wx : WX) (e : Expr) (m : M D) : Prop := PE X e (tD c wx m)
def GA (X : Cx) (c : Cc) (wx : WX) (es : List Expr) (m : M (List D)) : Prop := PA X es (tL c wx m)
def GT (X : Cx) (c : Cc) (wx : WX) (e : Expr) (m : M Bool) : Prop := PT X e (tQ c wx m)
def GW (X : Cx) (c : Cc) (wx : WX) (e : Expr) (m : M Bool) : Prop := PW X e (tQ c wx m)

theorem PE.imp {X : Cx} {e : Expr} {t t' : TE} (h : PE X e t) (f : ∀ σ H Q, t' σ H Q → t σ H Q) : PE X e t' := ⟨fun p s σ H Q I q => h.run p s σ H Q I (f σ H Q q)⟩
theorem PA.imp {X : Cx} {e : List Expr} {t t' : TA} (h : PA X e t) (f : ∀ σ H Q, t' σ H Q → t σ H Q) : PA X e t' := ⟨fun o p s σ H Q I q => h.run o p s σ H Q I (f σ H Q q)⟩
theorem PT.imp {X : Cx} {e : Expr} {t t' : TT} (h : PT X e t) (f : ∀ σ H Q, t' σ H Q → t σ H Q) : PT X e t' := ⟨fun p s σ H Q I q => h.run p s σ H Q I (f σ H Q q)⟩
theorem PW.imp {X : Cx} {e : Expr} {t t' : TT} (h : PW X e t) (f : ∀ σ H Q, t' σ H Q → t σ H Q) : PW X e t' := ⟨fun o p s σ H Q I q => h.run o p s σ H Q I (f σ H Q q)⟩
theorem PS.imp {X : Cx} {e : Stmt} {t t' : TS} (h : PS X e t) (f : ∀ D σ H, t' D σ H → t D σ H) : PS X e t' := ⟨fun p s σ H D I q => h.run p s σ H D I (f D σ H q)⟩
theorem PSs.imp {X : Cx} {e : List Stmt} {t t' : TS} (h : PSs X e t) (f : ∀ D σ H, t' D σ H → t D σ H) : PSs X e t' := ⟨fun p s σ H D I q => h.run p s σ H D I (f D σ H q)⟩

section
variable {c : Cc} {wx : WX} {W : Wd} {σ : L2.St} {H : Hp} {α β α' β' : Type} {R : Wd → Hp → α → β → Prop} {R' : Wd → Hp → α' → β' → Prop}
/-- the central step: m's reading, then f's from its end -/
theorem tG_bind {m : M α} {ρ : Env} {h : Cells} {f : α → Cells → Out α'} {Q : β → Hp → Prop} {Q' : β' → Hp → Prop} (r : HRel c W h H) (l : Loc c.toTp W ρ σ H)
    (p : EPost c wx W σ H R' ((m ρ h).bind f) Q')
    (k : ∀ d h' v W' H', Ext W H [] W' H' → HRel c W' h' H' → Loc c.toTp W' ρ σ H' → R W' H' d v → EPost c wx W' σ H' R' (f d h') Q' → Q v H') : tG c wx R m σ H Q := by
  refine ⟨W, ρ, h, r, l, ?_⟩
  cases e : m ρ h with
  | ok d h' =>
    rw [e] at p
    refine fun v W' H' x r' a => k d h' v W' H' x r' (l.ext x) a ?_
    have p' : EPost c wx W σ H R' (f d h') Q' := p
    cases e2 : f d h' with
    | ok d2 h2 =>
      rw [e2] at p'
      exact fun v2 W2 H2 x2 r2 a2 => p' v2 W2 H2 (x.trans0 x2) r2 a2
    | exc x2 h2 =>
      rw [e2] at p'
      exact fun cls dd W2 H2 x3 r2 a2 => p' cls dd W2 H2 (x.trans0 x3) r2 a2
    | stuck =>
      rw [e2] at p'
      exact p'
  | exc x h' =>
    rw [e] at p
    exact p
  | stuck =>
    rw [e] at p
    exact p
theorem EPost.ok {d : α} {h' : Cells} {Q : β → Hp → Prop} (p : EPost c wx W σ H R (.ok d h') Q) {v : β} {W' : Wd} {H' : Hp} (x : Ext W H [] W' H') (r : HRel c W' h' H') (a : R W' H' d v) : Q v H' := p v W' H' x r a
theorem EPost.here {d : α} {h : Cells} {Q : β → Hp → Prop} (p : EPost c wx W σ H R (.ok d h) Q) {v : β} (r : HRel c W h H) (a : R W H d v) : Q v H := p v W H (Ext.refl _ _ _) r a
end

/-! ### new objects -/
theorem same_upd {H : Hp} {p : Addr} {o : HO} (hp : H p = none) : Same H (upd H p o) := fun b u e => by rw [upd_ne (ne_of_none e hp)]; exact e
def Wd.put (W : Wd) (p : Addr) (o : HO) : Wd := ⟨upd W.G p o, W.ι⟩
section
variable {c : Cc} {W : Wd} {h : Cells} {H : Hp} {p : Addr} {o : HO}
theorem HRel.gnone (r : HRel c W h H) (hp : H p = none) : W.G p = none := by
  cases e : W.G p with
  | none => rfl
  | some u =>
    rcases r.sub p u e with z | ⟨ob, z⟩ <;> rw [hp] at z <;> cases z
theorem HRel.nι (r : HRel c W h H) (hp : H p = none) : p ∉ W.ι := fun z => by
  obtain ⟨j, hj, e⟩ := List.mem_iff_getElem.mp z
  have hj' : j < h.length := by rw [← r.len]; exact hj
  obtain ⟨_, m⟩ := r.cel j h[j] p (List.getElem?_eq_getElem hj') (by rw [List.getElem?_eq_getElem hj, e])
  obtain ⟨o, e1, _⟩ := m.some
  rw [hp] at e1; cases e1
theorem put_le (hG : W.G p = none) : W.le (W.put p o) := ⟨same_upd hG, List.prefix_refl _⟩
theorem ext_new (r : HRel c W h H) (hp : H p = none) : Ext W H [] (W.put p o) (upd H p o) where
  le := put_le (r.gnone hp)
  ng := fun a h1 _ h3 => by
    show upd W.G p o a = none
    rw [upd_ne (fun z => h1 (by rw [z]; exact nt_no hp))]; exact h3
  ni := fun q hq => .inl hq
  fr := fun a u e _ _ _ => by rw [upd_ne (ne_of_none e hp)]; exact e
  dom := fun a e => by
    have z : a ≠ p := fun z => e (by rw [z]; exact nt_no hp)
    unfold nt at e ⊢
    rw [upd_ne z]; exact e
/-- a new object that is not data -/
theorem ext_free (r : HRel c W h H) (hp : H p = none) : Ext W H [] W (upd H p o) where
  le := .refl _
  ng := fun a h1 _ h3 => h3
  ni := fun q hq => .inl hq
  fr := fun a u e _ _ _ => by rw [upd_ne (ne_of_none e hp)]; exact e
  dom := fun a e => by
    have z : a ≠ p := fun z => e (by rw [z]; exact nt_no hp)
    unfold nt at e ⊢
    rw [upd_ne z]; exact e
theorem HRel.new (r : HRel c W h H) (hp : H p = none) (d : Dat o) : HRel c (W.put p o) h (upd H p o) where
  sub := fun a u e => by
    have e' : upd W.G p o a = some u := e
    by_cases z : a = p
    · subst z; rw [upd_same] at e'; cases e'; exact .inl upd_same
    · rw [upd_ne z] at e'; rw [upd_ne z]; exact r.sub a u e'
  dat := fun a u e => by
    have e' : upd W.G p o a = some u := e
    by_cases z : a = p
    · subst z; rw [upd_same] at e'; cases e'; exact d
    · rw [upd_ne z] at e'; exact r.dat a u e'
  len := r.len
  cel := fun j m q h1 h2 => by
    obtain ⟨g, a⟩ := r.cel j m q h1 h2
    obtain ⟨u, e, _⟩ := a.some
    have n : q ≠ p := ne_of_none e hp
    refine ⟨by show upd W.G p o q = none; rw [upd_ne n]; exact g, a.mono (put_le (r.gnone hp)) fun u e _ => by rw [upd_ne n]; exact e⟩
  nd := r.nd
  tab := r.tab.ext fun b u e => by rw [upd_ne (ne_of_none e hp)]; exact e
theorem HRel.free (r : HRel c W h H) (hp : H p = none) : HRel c W h (upd H p o) where
  sub := fun a u e => by
    have z : a ≠ p := fun z => by rw [z, r.gnone hp] at e; cases e
    rw [upd_ne z]; exact r.sub a u e
  dat := r.dat
  len := r.len
  cel := fun j m q h1 h2 => by
    obtain ⟨g, a⟩ := r.cel j m q h1 h2
    obtain ⟨u, e, _⟩ := a.some
    have n : q ≠ p := ne_of_none e hp
    exact ⟨g, a.mono (.refl _) fun u e _ => by rw [upd_ne n]; exact e⟩
  nd := r.nd
  tab := r.tab.ext fun b u e => by rw [upd_ne (ne_of_none e hp)]; exact e
end

/-! ### what is looked at in passing: data, or an object that may change -/
inductive Bv where
  | d (x : D) | o (m : MO)
def BAt (t : Tp) (W : Wd) (H : Hp) : Bv → V → Prop
  | .d x, v => At t W x v
  | .o m, v => ∃ p, v = .ref p ∧ MAt t W H p m ∧ p ∉ W.ι
def view (h : Cells) : Bv → Option D
  | .d (.cel n) => match h[n]? with
    | some (.lst ds) => some (.lst ds)
    | some (.dic ks vs) => some (.dic ks vs)
    | _ => none
  | .d x => some x
  | .o (.lst ds) => some (.lst ds)
  | .o (.dic ks vs) => some (.dic ks vs)
  | .o _ => none
/-- a value as it is seen: a list's and a dict's object may be any that is to be read -/
def VAt (t : Tp) (W : Wd) (H : Hp) : D → V → Prop
  | .lst ds, v => ∃ a vs, v = .ref a ∧ Rd H a (.lst vs) ∧ AtL t W ds vs
  | .dic ks ds, v => ∃ a, v = .ref a ∧ ((∃ kvs, Rd H a (.dK kvs) ∧ ks = kvs.map (fun p => keyD p.1) ∧ AtL t W ds (kvs.map (·.2))) ∨
      ∃ kvs, Rd H a (.dT kvs) ∧ ks = kvs.map (fun p => D.tup (p.1.map keyD)) ∧ AtL t W ds (kvs.map (·.2)))
  | d, v => At t W d v
theorem VAt.of {c : Cc} {W : Wd} {h : Cells} {H : Hp} (r : HRel c W h H) {d : D} {v : V} (a : At c.toTp W d v) : VAt c.toTp W H d v := by
  cases d <;> first | exact a | skip
  · simp only [At] at a
    obtain ⟨p, vs, e, g, al⟩ := a
    exact ⟨p, vs, e, r.rd (.inl g), al⟩
  · simp only [At] at a
    obtain ⟨p, e, a⟩ := a
    refine ⟨p, e, ?_⟩
    rcases a with ⟨kvs, g, h1, h2⟩ | ⟨kvs, g, h1, h2⟩
    · exact .inl ⟨kvs, r.rd (.inl g), h1, h2⟩
    · exact .inr ⟨kvs, r.rd (.inl g), h1, h2⟩
theorem VAt.mo {t : Tp} {W : Wd} {h : Cells} {H : Hp} {m : MO} {d : D} {p : Addr} (e : view h (.o m) = some d) (a : MAt t W H p m) : VAt t W H d (.ref p) := by
  cases m with
  | lst ds =>
    cases e
    obtain ⟨vs, h1, h2⟩ := a
    exact ⟨p, vs, rfl, .inl h1, h2⟩
  | dic ks ds =>
    cases e
    refine ⟨p, rfl, ?_⟩
    rcases a with ⟨kvs, h1, h2, h3⟩ | ⟨kvs, h1, h2, h3⟩
    · exact .inl ⟨kvs, .inl h1, h2, h3⟩
    · exact .inr ⟨kvs, .inl h1, h2, h3⟩
  | ins n fs => cases e
theorem VAt.see {c : Cc} {W : Wd} {h : Cells} {H : Hp} (r : HRel c W h H) {b : Bv} {d : D} {v : V} (e : view h b = some d) (a : BAt c.toTp W H b v) : VAt c.toTp W H d v := by
  cases b with
  | o m =>
    obtain ⟨p, rfl, a, _⟩ := a
    exact VAt.mo e a
  | d x =>
    replace a : At c.toTp W x v := a
    have gen : view h (.d x) = some x → view h (.d x) = some d → VAt c.toTp W H d v := fun e1 e2 => by
      rw [e1] at e2
      cases e2
      exact VAt.of r a
    cases x with
    | cel n =>
      simp only [At] at a
      obtain ⟨p, rfl, hp⟩ := a
      simp only [view] at e
      cases em : h[n]? with
      | none => rw [em] at e; cases e
      | some m =>
        rw [em] at e
        obtain ⟨_, ma⟩ := r.cel n m p em hp
        cases m with
        | lst ds => exact VAt.mo (h := h) (m := .lst ds) e ma
        | dic ks ds => exact VAt.mo (h := h) (m := .dic ks ds) e ma
        | ins _ _ => cases e
    | _ => exact gen rfl e
theorem BAt.ext {t : Tp} {W W' : Wd} {H H' : Hp} (x : Ext W H [] W' H') : ∀ {b : Bv} {v : V}, BAt t W H b v → BAt t W' H' b v
  | .d _, _, a => At.mono x.le a
  | .o m, _, ⟨p, e, a, n⟩ => by
    obtain ⟨o, e7, e8⟩ := a.some
    have n1 : nt H p ≠ none := nt_yes e7 e8
    exact ⟨p, e, a.mono x.le fun o h1 h2 => x.fr p o h1 n (by simp) h2, fun z => (x.ni p z).elim n n1⟩
end DL

namespace DL
open PySem L2

/-! ### lists of data -/
theorem AtL.length {t : Tp} {W : Wd} : ∀ {ds : List D} {vs : List V}, AtL t W ds vs → ds.length = vs.length
  | [], _, h => by simp only [AtL] at h; subst h; rfl
  | d :: ds, vs, h => by
    simp only [AtL] at h
    obtain ⟨v, r, e, _, h2⟩ := h
    subst e
    simp [AtL.length h2]
theorem AtL.append {t : Tp} {W : Wd} : ∀ {ds es : List D} {vs us : List V}, AtL t W ds vs → AtL t W es us → AtL t W (ds ++ es) (vs ++ us)
  | [], _, _, _, h, g => by simp only [AtL] at h; subst h; exact g
  | d :: ds, es, vs, us, h, g => by
    simp only [AtL] at h
    obtain ⟨v, r, e, h1, h2⟩ := h
    subst e
    show AtL t W (d :: (ds ++ es)) (v :: (r ++ us))
    simp only [AtL]
    exact ⟨v, _, rfl, h1, AtL.append h2 g⟩
theorem AtL.nil {t : Tp} {W : Wd} : AtL t W [] [] := by simp only [AtL]
theorem AtL.cons {t : Tp} {W : Wd} {d : D} {ds : List D} {v : V} {vs : List V} (h : At t W d v) (g : AtL t W ds vs) : AtL t W (d :: ds) (v :: vs) := by
  simp only [AtL]
  exact ⟨v, vs, rfl, h, g⟩
theorem AtL.uncons {t : Tp} {W : Wd} {d : D} {ds : List D} {vs : List V} (h : AtL t W (d :: ds) vs) : ∃ v r, vs = v :: r ∧ At t W d v ∧ AtL t W ds r := by
  simp only [AtL] at h
  exact h
theorem AtL.get {t : Tp} {W : Wd} : ∀ {ds : List D} {vs : List V} {i : Nat} {d : D}, AtL t W ds vs → ds[i]? = some d → ∃ v, vs[i]? = some v ∧ At t W d v
  | [], _, _, _, _, e => by simp at e
  | d :: ds, vs, 0, x, h, e => by
    obtain ⟨v, r, rfl, h1, _⟩ := h.uncons
    simp at e; subst e
    exact ⟨v, rfl, h1⟩
  | d :: ds, vs, i + 1, x, h, e => by
    obtain ⟨v, r, rfl, _, h2⟩ := h.uncons
    obtain ⟨u, h3, h4⟩ := AtL.get (i := i) h2 (by simpa using e)
    exact ⟨u, by simpa using h3, h4⟩
theorem AtL.drop {t : Tp} {W : Wd} : ∀ {ds : List D} {vs : List V} (n : Nat), AtL t W ds vs → AtL t W (ds.drop n) (vs.drop n)
  | _, _, 0, h => h
  | [], vs, n + 1, h => by
    simp only [AtL] at h; subst h; simp [AtL.nil]
  | d :: ds, vs, n + 1, h => by
    obtain ⟨v, r, rfl, _, h2⟩ := h.uncons
    exact AtL.drop n h2
theorem AtL.take {t : Tp} {W : Wd} : ∀ {ds : List D} {vs : List V} (n : Nat), AtL t W ds vs → AtL t W (ds.take n) (vs.take n)
  | _, _, 0, h => by simp [AtL.nil]
  | [], vs, n + 1, h => by
    simp only [AtL] at h; subst h; simp [AtL.nil]
  | d :: ds, vs, n + 1, h => by
    obtain ⟨v, r, rfl, h1, h2⟩ := h.uncons
    exact AtL.cons h1 (AtL.take n h2)
theorem AtL.reverse {t : Tp} {W : Wd} : ∀ {ds : List D} {vs : List V}, AtL t W ds vs → AtL t W ds.reverse vs.reverse
  | [], _, h => by simp only [AtL] at h; subst h; exact AtL.nil
  | d :: ds, vs, h => by
    obtain ⟨v, r, rfl, h1, h2⟩ := h.uncons
    rw [List.reverse_cons, List.reverse_cons]
    exact (AtL.reverse h2).append (AtL.cons h1 AtL.nil)

/-! ### answers -/
/-- what follows once d has come -/
abbrev KQ (c : Cc) (W : Wd) (h : Cells) (H : Hp) (d : D) (Q : VK) : Prop := ∀ v W' H', Ext W H [] W' H' → HRel c W' h H' → At c.toTp W' d v → Q v H'
section
variable {c : Cc} {W : Wd} {h : Cells} {H : Hp} {Q : VK}
theorem KQ.here {d : D} {v : V} (k : KQ c W h H d Q) (r : HRel c W h H) (a : At c.toTp W d v) : Q v H := k v W H (Ext.refl _ _ _) r a
theorem KQ.bl {b : Bool} (k : KQ c W h H (.bl b) Q) (r : HRel c W h H) : Q (.bl b) H := k.here r (by simp only [At])
theorem KQ.int {b : Int} (k : KQ c W h H (.int b) Q) (r : HRel c W h H) : Q (.int b) H := k.here r (by simp only [At])
theorem KQ.str {b : List Nat} (k : KQ c W h H (.str b) Q) (r : HRel c W h H) : Q (.str ⟨b.toArray⟩) H := k.here r (by simp only [At])
theorem KQ.lst {ds : List D} {vs : List V} {p : Addr} (k : KQ c W h H (.lst ds) Q) (r : HRel c W h H) (a : AtL c.toTp W ds vs) (hp : H p = none) : Q (.ref p) (upd H p (.lst vs)) :=
  k _ _ _ (ext_new r hp) (r.new hp trivial) (by
    simp only [At]
    exact ⟨p, vs, rfl, upd_same, AtL.mono (put_le (r.gnone hp)) a⟩)
theorem KQ.tup {ds : List D} {vs : List V} {p : Addr} (k : KQ c W h H (.tup ds) Q) (r : HRel c W h H) (a : AtL c.toTp W ds vs) (hp : H p = none) : Q (.ref p) (upd H p (.tup vs)) :=
  k _ _ _ (ext_new r hp) (r.new hp trivial) (by
    simp only [At]
    exact ⟨p, vs, rfl, .inl (.inl upd_same), AtL.mono (put_le (r.gnone hp)) a⟩)
end

def rG1 (c : Cc) (g : D → Option D) : V → Hp → VK → Prop := fun x H Q => ∃ W h d z, HRel c W h H ∧ At c.toTp W d x ∧ g d = some z ∧ KQ c W h H z Q
def rG2 (c : Cc) (g : D → D → Option D) : R2 := fun x y H Q => ∃ W h d e z, HRel c W h H ∧ At c.toTp W d x ∧ At c.toTp W e y ∧ g d e = some z ∧ KQ c W h H z Q
def rV2 (c : Cc) (g : D → D → Option D) : R2 := fun x y H Q => ∃ W h d e z, HRel c W h H ∧ VAt c.toTp W H d x ∧ VAt c.toTp W H e y ∧ g d e = some z ∧ KQ c W h H z Q
def rGC (c : Cc) (g : List D → Option D) : List V → Hp → VK → Prop := fun xs H Q => ∃ W h ds z, HRel c W h H ∧ AtL c.toTp W ds xs ∧ g ds = some z ∧ KQ c W h H z Q

/-! ### the functions of values -/
def big : Nat := 16777216
theorem big_le {n : Nat} (h : n ≤ big) : n ≤ sizeLine := by rw [sizeLine_eq]; exact h
def gAdd : D → D → Option D
  | .int i, .int j => some (.int (i + j))
  | .str s, .str t => if s.length + t.length ≤ big then some (.str (s ++ t)) else none
  | .lst s, .lst t => if s.length + t.length ≤ big then some (.lst (s ++ t)) else none
  | .tup s, .tup t => if s.length + t.length ≤ big then some (.tup (s ++ t)) else none
  | _, _ => none
def gSub : D → D → Option D
  | .int i, .int j => some (.int (i - j))
  | _, _ => none
def rep {α : Type} (k : Int) (xs : List α) : List α := (List.replicate k.toNat xs).flatten
def gMul : D → D → Option D
  | .int i, .int j => if (i.natAbs < 2 ^ 64 ∨ j.natAbs < 2 ^ 64) ∨ (i.natAbs < 2 ^ 4000 ∧ j.natAbs < 2 ^ 4000) then some (.int (i * j)) else none
  | .str s, .int k => if k.natAbs ≤ 1000000 ∧ s.length * k.toNat ≤ big then some (.str (rep k s)) else none
  | .lst s, .int k => if k.natAbs ≤ 1000000 ∧ s.length * k.toNat ≤ big then some (.lst (rep k s)) else none
  | .tup s, .int k => if s ≠ [] ∧ 2 ≤ k ∧ k ≤ 1000 ∧ s.length ≤ 1000 then some (.tup (rep k s)) else none
  | _, _ => none
def gFdiv : D → D → Option D
  | .int i, .int j => if 0 < j ∧ j < 1073741824 then some (.int (i / j)) else none
  | _, _ => none
def gMod : D → D → Option D
  | .int i, .int j => if 0 < j then some (.int (i % j)) else none
  | _, _ => none
def gPow : D → D → Option D
  | .int i, .int j => if 0 ≤ j ∧ j ≤ 1000000 ∧ i.natAbs < 2 ^ 64 then some (.int (i ^ j.toNat)) else none
  | _, _ => none
def gNeg : D → Option D
  | .int i => some (.int (-i))
  | _ => none

mutual
def toPy : D → Option PyData
  | .non => some .none
  | .bl b => some (.bool b)
  | .int i => some (.int i)
  | .str s => some (.str ⟨s.toArray⟩)
  | .tup ds => match toPyL ds with | some l => some (.tuple l) | none => none
  | .lst ds => match toPyL ds with | some l => some (.list l) | none => none
  | _ => none
def toPyL : List D → Option (List PyData)
  | [] => some []
  | d :: ds => match toPy d, toPyL ds with | some x, some l => some (x :: l) | _, _ => none
end
def gEqDeep (x y : D) : Option Bool := match toPy x, toPy y with
  | some a, some b => if SeqAt.shaped a = true ∧ SeqAt.shaped b = true then some (PyData.eqv a b) else none
  | _, _ => none
def gEqB : D → D → Option Bool
  | .int i, .int j => some (decide (i = j))
  | .str s, .str t => some (decide (s = t))
  | .bl s, .bl t => some (decide (s = t))
  | .non, .str _ => some false
  | .str _, .non => some false
  | .non, .int _ => some false
  | .int _, .non => some false
  | x, y => gEqDeep x y
def gEq (x y : D) : Option D := match gEqB x y with | some b => some (.bl b) | none => none
def gNe (x y : D) : Option D := match gEqB x y with | some b => some (.bl (!b)) | none => none
def gLt : D → D → Option D
  | .int i, .int j => some (.bl (decide (i < j)))
  | _, _ => none
def gLe : D → D → Option D
  | .int i, .int j => some (.bl (decide (i ≤ j)))
  | _, _ => none
def gGt : D → D → Option D
  | .int i, .int j => some (.bl (decide (j < i)))
  | _, _ => none
def gGe : D → D → Option D
  | .int i, .int j => some (.bl (decide (j ≤ i)))
  | _, _ => none
def isNon : D → Bool
  | .non => true
  | _ => false
def gIs : D → D → Option D
  | x, .non => some (.bl (isNon x))
  | .bl a, .bl b => some (.bl (decide (a = b)))
  | _, _ => none
def gIsNot : D → D → Option D
  | x, .non => some (.bl (!isNon x))
  | _, _ => none

mutual
theorem toPy_dp {K : PySem.W.Frag} {gl : Nat → V} {W : Wd} {h : Cells} {H : Hp} {c : Cc} (hc : c.toTp = ⟨K, gl⟩) (r : HRel c W h H) : ∀ {d : D} {v : V} {p : PyData}, At ⟨K, gl⟩ W d v → toPy d = some p → Dp K H v p
  | .non, v, p, a, e => by simp only [At] at a; simp only [toPy] at e; subst a; cases e; exact .non
  | .bl b, v, p, a, e => by simp only [At] at a; simp only [toPy] at e; subst a; cases e; exact .bl _
  | .int b, v, p, a, e => by simp only [At] at a; simp only [toPy] at e; subst a; cases e; exact .int _
  | .str b, v, p, a, e => by simp only [At] at a; simp only [toPy] at e; subst a; cases e; exact .str _
  | .tup ds, v, p, a, e => by
    simp only [At] at a
    obtain ⟨q, vs, rfl, s, al⟩ := a
    simp only [toPy] at e
    cases e2 : toPyL ds with
    | none => rw [e2] at e; cases e
    | some l =>
      rw [e2] at e; cases e
      have hK : c.K = K := by rw [show c.K = c.toTp.K from rfl, hc]
      have s' : SqT K H q vs := by
        have := r.sqT (a := q) (xs := vs) (by rw [hK]; exact s)
        rw [hK] at this; exact this
      exact .tup s' (toPyL_dp hc r al e2)
  | .lst ds, v, p, a, e => by
    simp only [At] at a
    obtain ⟨q, vs, rfl, s, al⟩ := a
    simp only [toPy] at e
    cases e2 : toPyL ds with
    | none => rw [e2] at e; cases e
    | some l =>
      rw [e2] at e; cases e
      exact .lst (.inl (r.rd (.inl s))) (toPyL_dp hc r al e2)
  | .dic _ _, _, _, _, e => by simp only [toPy] at e; cases e
  | .cel _, _, _, _, e => by simp only [toPy] at e; cases e
  | .glb _, _, _, _, e => by simp only [toPy] at e; cases e
  | .klst _, _, _, _, e => by simp only [toPy] at e; cases e
  | .ty _, _, _, _, e => by simp only [toPy] at e; cases e
theorem toPyL_dp {K : PySem.W.Frag} {gl : Nat → V} {W : Wd} {h : Cells} {H : Hp} {c : Cc} (hc : c.toTp = ⟨K, gl⟩) (r : HRel c W h H) : ∀ {ds : List D} {vs : List V} {ps : List PyData}, AtL ⟨K, gl⟩ W ds vs → toPyL ds = some ps → DpAll K H vs ps
  | [], vs, ps, a, e => by simp only [AtL] at a; simp only [toPyL] at e; subst a; cases e; exact .nil
  | d :: ds, vs, ps, a, e => by
    obtain ⟨v, q, rfl, h1, h2⟩ := a.uncons
    simp only [toPyL] at e
    cases e1 : toPy d with
    | none => rw [e1] at e; cases e
    | some x =>
      cases e2 : toPyL ds with
      | none => rw [e1, e2] at e; cases e
      | some l =>
        rw [e1, e2] at e; cases e
        exact .cons (toPy_dp hc r h1 e1) (toPyL_dp hc r h2 e2)
end

section
variable {X : Cx} {c : Cc}
theorem and_some {a : Option Bool} {z : D} (h : (match a with | some b => some (D.bl b) | none => none) = some z) : ∃ b, a = some b ∧ z = .bl b := by
  cases a with
  | none => cases h
  | some b => cases h; exact ⟨b, rfl, rfl⟩
theorem andn_some {a : Option Bool} {z : D} (h : (match a with | some b => some (D.bl (!b)) | none => none) = some z) : ∃ b, a = some b ∧ z = .bl (!b) := by
  cases a with
  | none => cases h
  | some b => cases h; exact ⟨b, rfl, rfl⟩
theorem strV {s t : List Nat} : ((V.str ⟨s.toArray⟩) = .str ⟨t.toArray⟩) ↔ s = t := by
  constructor
  · intro h
    injection h with h
    injection h with h
    simpa using congrArg Array.toList h
  · rintro rfl; rfl
theorem toPy_v {W : Wd} {h : Cells} {H : Hp} (r : HRel c W h H) {d : D} {v : V} {p : PyData} (a : VAt c.toTp W H d v) (e : toPy d = some p) : Dp c.K H v p := by
  cases d <;> first
    | exact toPy_dp rfl r (show At c.toTp W _ v from a) e
    | (simp only [toPy] at e; cases e; done)
    | skip
  rename_i ds
  obtain ⟨q, vs, rfl, s, al⟩ := a
  simp only [toPy] at e
  cases e2 : toPyL ds with
  | none => rw [e2] at e; cases e
  | some l =>
    rw [e2] at e; cases e
    exact .lst (.inl s) (toPyL_dp rfl r al e2)
/-- == by the two roads -/
theorem eq_run (hK : X.K = c.K) (hu : X.A.units + 64 < cLine) {W : Wd} {h : Cells} {H : Hp} {d e : D} {x y : V} {b : Bool} (r : HRel c W h H) (ax : VAt c.toTp W H d x) (ay : VAt c.toTp W H e y) (hz : gEqB d e = some b) :
    (scal x y = true ∧ decide (x = y) = b) ∨ ∃ p q, Dp X.K H x p ∧ Dp X.K H y q ∧ SeqAt.shaped p = true ∧ SeqAt.shaped q = true ∧ PyData.eqv p q = b := by
  have deep : gEqDeep d e = some b → ∃ p q, Dp X.K H x p ∧ Dp X.K H y q ∧ SeqAt.shaped p = true ∧ SeqAt.shaped q = true ∧ PyData.eqv p q = b := by
    intro hz
    unfold gEqDeep at hz
    cases e1 : toPy d with
    | none => rw [e1] at hz; cases hz
    | some p =>
      cases e2 : toPy e with
      | none => rw [e1, e2] at hz; cases hz
      | some q =>
        rw [e1, e2] at hz
        simp only at hz
        split at hz
        · rename_i hs
          cases hz
          rw [hK]
          exact ⟨p, q, toPy_v r ax e1, toPy_v r ay e2, hs.1, hs.2, rfl⟩
        · cases hz
  cases d <;> cases e <;> first
    | exact .inr (deep hz)
    | (simp only [VAt, At] at ax ay
       subst ax ay
       simp only [gEqB] at hz
       cases hz
       refine .inl ⟨rfl, ?_⟩
       first
         | rfl
         | (simp [strV]; done)
         | (simp; done))
theorem og_eq (hK : X.K = c.K) (hu : X.A.units + 64 < cLine) : OpR X (compareOp .Eq) (rV2 c gEq) := by
  intro pins s σ H x y v u Q I rx ry ⟨W, h, d, e, z, r, ax, ay, hz, q⟩
  obtain ⟨b, e1, rfl⟩ := and_some hz
  rcases eq_run hK hu r ax ay e1 with ⟨h1, h2⟩ | ⟨p1, p2, h1, h2, h3, h4, h5⟩
  · exact op_eq pins s σ H x y v u Q I rx ry ⟨h1, by rw [h2]; exact q.bl r⟩
  · exact op_eqD hu pins s σ H x y v u Q I rx ry ⟨p1, p2, h1, h2, h3, h4, by rw [h5]; exact q.bl r⟩
theorem og_ne (hK : X.K = c.K) (hu : X.A.units + 64 < cLine) : OpR X (compareOp .NotEq) (rV2 c gNe) := by
  intro pins s σ H x y v u Q I rx ry ⟨W, h, d, e, z, r, ax, ay, hz, q⟩
  obtain ⟨b, e1, rfl⟩ := andn_some hz
  rcases eq_run hK hu r ax ay e1 with ⟨h1, h2⟩ | ⟨p1, p2, h1, h2, h3, h4, h5⟩
  · exact op_ne pins s σ H x y v u Q I rx ry ⟨h1, by rw [h2]; exact q.bl r⟩
  · exact op_neD hu pins s σ H x y v u Q I rx ry ⟨p1, p2, h1, h2, h3, h4, by rw [h5]; exact q.bl r⟩
theorem og_lt : OpR X (compareOp .Lt) (rG2 c gLt) := by
  intro pins s σ H x y v u Q I rx ry ⟨W, h, d, e, z, r, ax, ay, hz, q⟩
  cases d <;> cases e <;> first | (simp only [gLt] at hz; cases hz; done) | skip
  simp only [gLt, Option.some.injEq] at hz
  simp only [At] at ax ay
  subst ax ay hz
  exact op_lt pins s σ H _ _ v u Q I rx ry ⟨_, _, rfl, rfl, q.bl r⟩
theorem og_le : OpR X (compareOp .LtE) (rG2 c gLe) := by
  intro pins s σ H x y v u Q I rx ry ⟨W, h, d, e, z, r, ax, ay, hz, q⟩
  cases d <;> cases e <;> first | (simp only [gLe] at hz; cases hz; done) | skip
  simp only [gLe, Option.some.injEq] at hz
  simp only [At] at ax ay
  subst ax ay hz
  exact op_le pins s σ H _ _ v u Q I rx ry ⟨_, _, rfl, rfl, q.bl r⟩
theorem og_gt : OpR X (compareOp .Gt) (rG2 c gGt) := by
  intro pins s σ H x y v u Q I rx ry ⟨W, h, d, e, z, r, ax, ay, hz, q⟩
  cases d <;> cases e <;> first | (simp only [gGt] at hz; cases hz; done) | skip
  simp only [gGt, Option.some.injEq] at hz
  simp only [At] at ax ay
  subst ax ay hz
  exact op_gt pins s σ H _ _ v u Q I rx ry ⟨_, _, rfl, rfl, q.bl r⟩
theorem og_ge : OpR X (compareOp .GtE) (rG2 c gGe) := by
  intro pins s σ H x y v u Q I rx ry ⟨W, h, d, e, z, r, ax, ay, hz, q⟩
  cases d <;> cases e <;> first | (simp only [gGe] at hz; cases hz; done) | skip
  simp only [gGe, Option.some.injEq] at hz
  simp only [At] at ax ay
  subst ax ay hz
  exact op_ge pins s σ H _ _ v u Q I rx ry ⟨_, _, rfl, rfl, q.bl r⟩
theorem og_sub : OpR X (binaryOp .Sub) (rG2 c gSub) := by
  intro pins s σ H x y v u Q I rx ry ⟨W, h, d, e, z, r, ax, ay, hz, q⟩
  cases d <;> cases e <;> first | (simp only [gSub] at hz; cases hz; done) | skip
  simp only [gSub, Option.some.injEq] at hz
  simp only [At] at ax ay
  subst ax ay hz
  exact op_sub pins s σ H _ _ v u Q I rx ry ⟨_, _, rfl, rfl, q.int r⟩
theorem og_fdiv : OpR X (binaryOp .FloorDiv) (rG2 c gFdiv) := by
  intro pins s σ H x y v u Q I rx ry ⟨W, h, d, e, z, r, ax, ay, hz, q⟩
  cases d <;> cases e <;> first | (simp only [gFdiv] at hz; cases hz; done) | skip
  simp only [gFdiv] at hz
  split at hz
  · rename_i hc
    simp only [Option.some.injEq] at hz
    simp only [At] at ax ay
    subst ax ay hz
    exact op_fdiv pins s σ H _ _ v u Q I rx ry ⟨_, _, rfl, rfl, hc, q.int r⟩
  · cases hz
theorem og_mod : OpR X (binaryOp .Mod) (rG2 c gMod) := by
  intro pins s σ H x y v u Q I rx ry ⟨W, h, d, e, z, r, ax, ay, hz, q⟩
  cases d <;> cases e <;> first | (simp only [gMod] at hz; cases hz; done) | skip
  simp only [gMod] at hz
  split at hz
  · rename_i hc
    simp only [Option.some.injEq] at hz
    simp only [At] at ax ay
    subst ax ay hz
    exact op_mod pins s σ H _ _ v u Q I rx ry ⟨_, _, rfl, rfl, hc, q.int r⟩
  · cases hz
theorem og_pow : OpR X (binaryOp .Pow) (rG2 c gPow) := by
  intro pins s σ H x y v u Q I rx ry ⟨W, h, d, e, z, r, ax, ay, hz, q⟩
  cases d <;> cases e <;> first | (simp only [gPow] at hz; cases hz; done) | skip
  simp only [gPow] at hz
  split at hz
  · rename_i hc
    simp only [Option.some.injEq] at hz
    simp only [At] at ax ay
    subst ax ay hz
    exact op_pow pins s σ H _ _ v u Q I rx ry ⟨_, _, rfl, rfl, hc, q.int r⟩
  · cases hz
theorem og_neg : UnR X (unaryOp .USub) (rG1 c gNeg) := by
  intro pins s σ H x v Q I rx ⟨W, h, d, z, r, ax, hz, q⟩
  cases d <;> first | (simp only [gNeg] at hz; cases hz; done) | skip
  simp only [gNeg, Option.some.injEq] at hz
  simp only [At] at ax
  subst ax hz
  exact un_neg pins s σ H _ v Q I rx ⟨_, rfl, q.int r⟩
theorem isNon_at {t : Tp} (hg : ∀ n, t.gl n ≠ .non) {W : Wd} : ∀ {d : D} {v : V}, At t W d v → decide (v = .non) = isNon d
  | .non, v, a => by simp only [At] at a; subst a; rfl
  | .bl _, v, a => by simp only [At] at a; subst a; rfl
  | .int _, v, a => by simp only [At] at a; subst a; rfl
  | .str _, v, a => by simp only [At] at a; subst a; rfl
  | .tup _, v, a => by simp only [At] at a; obtain ⟨p, vs, rfl, _⟩ := a; rfl
  | .lst _, v, a => by simp only [At] at a; obtain ⟨p, vs, rfl, _⟩ := a; rfl
  | .dic _ _, v, a => by simp only [At] at a; obtain ⟨p, rfl, _⟩ := a; rfl
  | .cel _, v, a => by simp only [At] at a; obtain ⟨p, rfl, _⟩ := a; rfl
  | .glb n, v, a => by simp only [At] at a; subst a; exact decide_eq_false (hg n)
  | .ty _, v, a => by simp only [At] at a; subst a; rfl
  | .klst _, v, a => by simp only [At] at a; obtain ⟨p, vs, rfl, _⟩ := a; rfl
theorem og_is (hg : ∀ n, c.gl n ≠ .non) : OpR X (compareOp .Is) (rG2 c gIs) := by
  intro pins s σ H x y v u Q I rx ry ⟨W, h, d, e, z, r, ax, ay, hz, q⟩
  cases e <;> first
    | (cases d <;> (simp only [gIs] at hz; cases hz) <;> done)
    | skip
  · simp only [gIs, Option.some.injEq] at hz
    subst hz
    have e1 := isNon_at (t := c.toTp) hg ax
    simp only [At] at ay
    subst ay
    exact op_isN pins s σ H _ _ v u Q I rx ry ⟨rfl, by rw [e1]; exact q.bl r⟩
  · cases d <;> first | (simp only [gIs] at hz; cases hz; done) | skip
    simp only [gIs, Option.some.injEq] at hz
    subst hz
    simp only [At] at ax ay
    subst ax ay
    exact op_isBl pins s σ H _ _ v u Q I rx ry ⟨_, _, rfl, rfl, q.bl r⟩
theorem og_isNot (hg : ∀ n, c.gl n ≠ .non) : OpR X (compareOp .IsNot) (rG2 c gIsNot) := by
  intro pins s σ H x y v u Q I rx ry ⟨W, h, d, e, z, r, ax, ay, hz, q⟩
  cases e <;> first
    | (simp only [gIsNot] at hz; cases hz; done)
    | skip
  · simp only [gIsNot, Option.some.injEq] at hz
    subst hz
    have e1 := isNon_at (t := c.toTp) hg ax
    simp only [At] at ay
    subst ay
    exact op_notN pins s σ H _ _ v u Q I rx ry ⟨rfl, by rw [e1]; exact q.bl r⟩
end
end DL

namespace DL
open PySem L2 PySem.Spec PyProof.Rows
section
variable {X : Cx} {c : Cc}

/-! ### + and * -/
theorem rdL {pins : List (Addr × Obj)} {σ : L2.St} {H : Hp} {s : Shared} {l : Addr} {xs : List V} (I : Inv X pins σ H s) (hH : Rd H l (.lst xs)) :
    xs.length ≤ sizeLine ∧ ∃ (its : List Value) (n : Nat), Vals xs its ∧ xs.length = its.length ∧ s.heap.get? l = some { cls := .type "list", data := .seq its.toArray n } := by
  obtain ⟨z, its, n, r, e⟩ := hH.ok I.hok
  exact ⟨z, its, n, r, r.length, e⟩
theorem strA {s t : List Nat} : (⟨s.toArray⟩ : Str) ++ (⟨t.toArray⟩ : Str) = ⟨(s ++ t).toArray⟩ := by
  show Str.mk (s.toArray ++ t.toArray) = _
  rw [List.append_toArray]
theorem sqK {K : PySem.W.Frag} {H : Hp} {a : Addr} {xs : List V} (h : SqL K (fun _ => none) a xs) : SqL K H a xs := by
  rcases h with (z | ⟨o, z⟩) | z
  · cases z
  · cases z
  · exact .inr z
theorem add_plain {pr : Program} {w : World} {A : Around} {E : Value → Shared → Prop} {s : Shared} {l b : Addr} {vs ws : Array Value} {Q : Value → Shared → Prop} (hl : PlainL s.heap l vs) (hb : PlainL s.heap b ws)
    (h : Q (.ref s.heap.objs.size) { s with heap := s.heap.push { cls := .type "list", data := .seq (vs ++ ws) } }) (hz : vs.size + ws.size ≤ sizeLine) : wpAny (model pr w) A (binaryOp .Add (.ref l) (.ref b)) Q E s := by
  obtain ⟨⟨c1, d1, t1, s1⟩, n1, g1, e1, e2, e3⟩ := hl
  obtain ⟨⟨c2, d2, t2, s2⟩, n2, g2, e4, e5, e6⟩ := hb
  simp only at e1 e2 e3 e4 e5 e6
  subst e1 e2 e3 e4 e5 e6
  exact concat_meets ⟨_, g1, rfl⟩ ⟨_, g2, rfl⟩ noFill_list_add seq_list_add PySem.F.slot_list_add PySem.F.entry_list_add (PySem.F.args_list_add_2 _ _) (list_addW l b vs ws n1 n2 none none s1 s2 hz) ⟨g1, g2, h⟩
theorem og_add (hK : X.K = c.K) : OpR X (binaryOp .Add) (rG2 c gAdd) := by
  intro pins s σ H x y v u Q I rx ry ⟨W, h, d, e, z, r, ax, ay, hz, q⟩
  cases d <;> cases e <;> first | (simp only [gAdd] at hz; cases hz; done) | skip
  · simp only [gAdd, Option.some.injEq] at hz
    simp only [At] at ax ay
    subst ax ay hz
    exact op_add pins s σ H _ _ v u Q I rx ry ⟨_, _, rfl, rfl, q.int r⟩
  · rename_i a b
    simp only [gAdd] at hz
    split at hz
    · rename_i hs
      simp only [Option.some.injEq] at hz
      simp only [At] at ax ay
      subst ax ay hz
      refine op_add_str pins s σ H _ _ v u Q I rx ry ⟨_, _, rfl, rfl, ?_, ?_⟩
      · exact big_le (by simpa [Str.length] using hs)
      · rw [strA]; exact q.str r
    · cases hz
  · rename_i a b
    simp only [gAdd] at hz
    split at hz
    · rename_i hs
      simp only [Option.some.injEq] at hz
      simp only [At] at ax ay
      obtain ⟨p, vs, rfl, hp, al⟩ := ax
      obtain ⟨p2, vs2, rfl, hp2, al2⟩ := ay
      subst hz
      refine op_catA pins s σ H _ _ v u Q I rx ry ⟨p, p2, vs, vs2, rfl, rfl, by rw [hK]; exact r.sqT hp, by rw [hK]; exact r.sqT hp2, big_le (by rw [← al.length, ← al2.length]; exact hs), fun e => ?_, fun _ e => ?_, fun _ _ p hp => q.tup r (al.append al2) hp⟩
      · subst e
        have : a = [] := List.eq_nil_of_length_eq_zero al.length
        subst this
        exact q.here r (by simp only [At]; exact ⟨p2, vs2, rfl, hp2, al2⟩)
      · subst e
        have : b = [] := List.eq_nil_of_length_eq_zero al2.length
        subst this
        exact q.here r (by simp only [At]; exact ⟨p, vs, rfl, hp, by rw [List.append_nil]; exact al⟩)
    · cases hz
  · rename_i a b
    simp only [gAdd] at hz
    split at hz
    · rename_i hs
      simp only [Option.some.injEq] at hz
      simp only [At] at ax ay
      obtain ⟨p, vs, rfl, hp, al⟩ := ax
      obtain ⟨p2, vs2, rfl, hp2, al2⟩ := ay
      subst hz
      cases rx
      cases ry
      obtain ⟨z1, its, n, r1, hl, e1⟩ := rdL I (r.rd (.inl hp))
      obtain ⟨z2, its2, n2, r2, hl2, e2⟩ := rdL I (r.rd (.inl hp2))
      have hs' : vs.length + vs2.length ≤ sizeLine := big_le (by rw [← al.length, ← al2.length]; exact hs)
      refine PySem.P.add_list e1 e2 ?_ (by rw [List.size_toArray, List.size_toArray, ← hl, ← hl2]; exact hs')
      rw [List.append_toArray]
      exact ⟨.ref _, _, I.lnew (t' := s.toks) (r1.append r2) (by rw [List.length_append]; exact hs'), rfl, q.lst r (al.append al2) I.fresh⟩
    · cases hz
def gAddK : D → D → Option D
  | .lst s, t => match t with
    | .lst t => if s.length + t.length ≤ big then some (.lst (s ++ t)) else none
    | .klst t => if s.length + t.length ≤ big then some (.lst (s ++ t)) else none
    | _ => none
  | _, _ => none
theorem og_addK (hK : X.K = c.K) : OpR X (binaryOp .Add) (rG2 c gAddK) := by
  intro pins s σ H x y v u Q I rx ry ⟨W, h, d, e, z, r, ax, ay, hz, q⟩
  cases d <;> first | (simp only [gAddK] at hz; cases hz; done) | skip
  cases e <;> first | (simp only [gAddK] at hz; cases hz; done) | skip
  · exact og_add hK pins s σ H x y v u Q I rx ry ⟨W, h, _, _, z, r, ax, ay, hz, q⟩
  · rename_i a b
    simp only [gAddK] at hz
    split at hz
    · rename_i hs
      simp only [Option.some.injEq] at hz
      simp only [At] at ax ay
      obtain ⟨p, vs, rfl, hp, al⟩ := ax
      obtain ⟨p2, vs2, rfl, hp2, al2⟩ := ay
      subst hz
      cases rx
      cases ry
      obtain ⟨its, r1, pl, z1⟩ := I.list (xs := vs) (a := p) (.inl (r.rd (.inl hp)))
      obtain ⟨its2, r2, pl2, z2⟩ := I.list (a := p2) (by rw [hK]; exact sqK hp2)
      have hs' : vs.length + vs2.length ≤ sizeLine := big_le (by rw [← al.length, ← al2.length]; exact hs)
      refine add_plain pl pl2 ?_ (by rw [List.size_toArray, List.size_toArray, ← r1.length, ← r2.length]; exact hs')
      rw [List.append_toArray]
      exact ⟨.ref _, _, I.lnew (t' := s.toks) (r1.append r2) (by rw [List.length_append]; exact hs'), rfl, q.lst r (al.append al2) I.fresh⟩
    · cases hz

theorem foldl_app (a : Array Nat) : ∀ (n : Nat) (z : Array Nat), ((List.replicate n a).foldl (· ++ ·) z).toList = z.toList ++ (List.replicate n a.toList).flatten
  | 0, z => by simp
  | n + 1, z => by
    rw [List.replicate_succ, List.foldl_cons, foldl_app a n, List.replicate_succ, List.flatten_cons, Array.toList_append, List.append_assoc]
theorem txt_mul (s : List Nat) (k : Int) : Txt.mul ⟨s.toArray⟩ k = ⟨(rep k s).toArray⟩ := by
  unfold Txt.mul rep
  by_cases h1 : k < 1
  · rw [if_pos h1, show k.toNat = 0 by omega]
    rfl
  · rw [if_neg h1]
    by_cases h2 : (k == 1 || (Str.mk s.toArray).length == 0) = true
    · rw [if_pos h2]
      rw [Bool.or_eq_true] at h2
      rcases h2 with h2 | h2
      · have : k = 1 := by simpa using h2
        subst this
        simp
      · have : s = [] := by simpa [Str.length] using h2
        subst this
        simp
    · rw [if_neg h2]
      congr 1
      apply Array.toList_inj.mp
      rw [foldl_app]
      simp
/-- a list that may be locked, times an int -/
theorem rep_run {pins : List (Addr × Obj)} {σ : L2.St} {H : Hp} {s : Shared} {Q : VK} {p : Addr} {vs : List V} {k : Int} {t : Tok} (I : Inv X pins σ H s) (hp : Rd H p (.lst vs)) (h1 : -(2 ^ 63) ≤ k) (h2 : k < 2 ^ 63) (hz : vs.length * k.toNat ≤ sizeLine)
    (q : ∀ a, H a = none → Q (.ref a) (upd H a (.lst (rep k vs)))) : wpAny (model X.prog X.w) X.A (binaryOp .Mult (.ref p) (.int k t)) (EP X pins σ Q) X.xe s := by
  obtain ⟨_, its, n, rv, hl, ob⟩ := rdL I hp
  have sz : its.toArray.size * k.toNat ≤ sizeLine := by
    rw [List.size_toArray, ← hl]; exact hz
  have cap : ¬ its.toArray.size * k.toNat > (2 ^ 63 - 1) / 8 := fun z => by
    have l : (sizeLine : Nat) ≤ (2 ^ 63 - 1) / 8 := by decide
    omega
  have fit : ¬ (!Builtin.List.listFitsIndex k) = true := by rw [fitsIndex_both h1 h2]; decide
  have lon : ¬ Builtin.List.listTooLong (its.toArray.size * k.toNat) = true := by rw [notLongL sz]; decide
  have ef : ∀ m : Nat, List.foldl (fun x1 x2 => x1 ++ x2) #[] (List.replicate m its.toArray) = (List.replicate m its).flatten.toArray := fun m => by
    have z := foldl_rep its m []
    rwa [List.nil_append] at z
  have en : List.foldl (fun x1 x2 => x1 ++ x2) #[] (List.replicate (if its.toArray.isEmpty = true then 0 else k.toNat) its.toArray) = (List.replicate k.toNat its).flatten.toArray := by
    rw [ef]
    cases its with
    | nil => simp
    | cons a r => rw [if_neg (by simp)]
  have tl : s.TypeIs (.ref p) "list" := ⟨_, ob, rfl⟩
  have m1 := AutoListH.list___mul___list_int_3 p its.toArray n k t fit cap lon
  refine wpAny_binaryOp_repeat_ref (T := "list") (U := "int") (by decide) tl (fun s' => typeIs_int s' k t) noFill_list_mul F.fills_int_mul F.slot_int_rmul repeat_list F.slot_int_index.lookup ?_
  refine call_meets F.slot_int_rmul (typeIs_int s k t) F.entry_int_rmul (F.args_int_rmul_2 _ _) (int___rmul___int_list k t p its.toArray n) ⟨ob, rfl, tl, ?_⟩
  refine call_meets F.slot_list_mul tl F.entry_list_mul (F.args_list_mul_2 _ _) m1 ⟨ob, ?_⟩
  rw [en]
  exact ⟨.ref _, _, I.lnew (t' := s.toks) (rv.rep k.toNat) (by rw [PyProof.Rows.lm_len_rep_flat, Nat.mul_comm]; exact hz), rfl, q _ I.fresh⟩
theorem og_mul (hK : X.K = c.K) : OpR X (binaryOp .Mult) (rG2 c gMul) := by
  intro pins s σ H x y v u Q I rx ry ⟨W, h, d, e, z, r, ax, ay, hz, q⟩
  cases d <;> cases e <;> first | (simp only [gMul] at hz; cases hz; done) | skip
  · rename_i i j
    simp only [gMul] at hz
    split at hz
    · rename_i hs
      simp only [Option.some.injEq] at hz
      simp only [At] at ax ay
      subst ax ay hz
      rcases hs with hs | ⟨h1, h2⟩
      · refine op_mul pins s σ H _ _ v u Q I rx ry ⟨_, _, rfl, rfl, ?_, q.int r⟩
        unfold CMul
        omega
      · exact op_mulW pins s σ H _ _ v u Q I rx ry ⟨_, _, rfl, rfl, wide_mul h1 h2 (by decide) (by decide) (by decide), q.int r⟩
    · cases hz
  · rename_i a k
    simp only [gMul] at hz
    split at hz
    · rename_i hs
      simp only [Option.some.injEq] at hz
      simp only [At] at ax ay
      subst ax ay hz
      obtain ⟨t, rfl⟩ := rx
      obtain ⟨t2, rfl⟩ := ry
      have hb : big = 16777216 := rfl
      refine SB.mul ⟨?_, fun h1 _ => ?_, fun _ _ => ?_⟩ fun t' k' => ?_
      · rw [decide_eq_false (by omega), decide_eq_false (by omega)]; rfl
      · have h2 := hs.2
        have hk : (k.toNat : Int) = k := by omega
        have e3 : ((a.length * k.toNat : Nat) : Int) = (a.length : Int) * k := by rw [Int.natCast_mul, hk]
        have e4 : (a.length : Int) * k ≤ 16777216 := by omega
        have e5 : (a.length : Int) ≤ 16777216 / k := Int.le_ediv_of_mul_le (by omega) e4
        have e6 : (16777216 : Int) / k ≤ (2 ^ 63 - 1) / k := Int.ediv_le_ediv (by omega) (by decide)
        show ¬ ((a.toArray.size : Int) > _)
        rw [List.size_toArray]
        omega
      · have h2 := hs.2
        unfold Builtin.Str.tooLong
        rw [decide_eq_false_iff_not]
        show ¬ a.toArray.size * k.toNat > sizeLine
        rw [List.size_toArray, sizeLine_eq]
        omega
      · rw [txt_mul]
        exact ⟨.str _, H, I.tok _, ⟨_, rfl⟩, q.str r⟩
    · cases hz
  · rename_i a k
    simp only [gMul] at hz
    split at hz
    · rename_i hs
      simp only [Option.some.injEq] at hz
      simp only [At] at ax ay
      obtain ⟨p, vs, rfl, hp, al⟩ := ax
      subst ay hz
      refine op_repT pins s σ H _ _ v u Q I rx ry ⟨p, k, vs, rfl, rfl, by rw [hK]; exact r.sqT hp, fun e => hs.1 ?_, hs.2.1, hs.2.2.1, by rw [← al.length]; exact hs.2.2.2, fun p hp => q.tup r ?_ hp⟩
      · subst e; exact List.eq_nil_of_length_eq_zero al.length
      · unfold rep
        generalize k.toNat = n
        induction n with
        | zero => exact AtL.nil
        | succ n ih => rw [List.replicate_succ, List.replicate_succ, List.flatten_cons, List.flatten_cons]; exact al.append ih
    · cases hz
  · rename_i a k
    simp only [gMul] at hz
    split at hz
    · rename_i hs
      simp only [Option.some.injEq] at hz
      simp only [At] at ax ay
      obtain ⟨p, vs, rfl, hp, al⟩ := ax
      subst ay hz
      cases rx
      obtain ⟨t, rfl⟩ := ry
      refine rep_run I (r.rd (.inl hp)) (by omega) (by omega) (big_le (by rw [← al.length]; exact hs.2)) fun p hp => q.lst r ?_ hp
      unfold rep
      generalize k.toNat = n
      induction n with
      | zero => exact AtL.nil
      | succ n ih => rw [List.replicate_succ, List.replicate_succ, List.flatten_cons, List.flatten_cons]; exact al.append ih
    · cases hz
end
end DL

namespace DL
open PySem L2 PySem.Spec PyProof.Rows
section
variable {X : Cx} {c : Cc}

/-! ### in -/
def flatD : D → Bool
  | .non => true
  | .bl _ => true
  | .int _ => true
  | .str _ => true
  | _ => false
def eqF : D → D → Bool
  | .non, .non => true
  | .bl a, .bl b => a == b
  | .bl a, .int b => (if a then 1 else 0) == b
  | .int a, .bl b => a == (if b then 1 else 0)
  | .int a, .int b => a == b
  | .str a, .str b => a == b
  | _, _ => false
def inF (x : D) (xs : List D) : Bool := xs.any fun y => eqF y x
def inDeep (x : D) (ys : List D) : Option Bool := match toPy x, toPyL ys with
  | some p, some l => if SeqAt.shaped p = true ∧ SeqAt.shaped (.list l) = true then some (l.any fun z => PyData.eqv z p) else none
  | _, _ => none
def gInB : D → D → Option Bool
  | .str [a], .str z => some (decide (a ∈ z))
  | x, .tup ys => if flatD x && ys.all flatD then some (inF x ys) else inDeep x ys
  | x, .lst ys => if flatD x && ys.all flatD then some (inF x ys) else inDeep x ys
  | _, _ => none
def gIn (x y : D) : Option D := match gInB x y with | some b => some (.bl b) | none => none
def gNotIn (x y : D) : Option D := match gInB x y with | some b => some (.bl (!b)) | none => none
theorem flat_at {t : Tp} {W : Wd} {d : D} {v : V} (a : At t W d v) (h : flatD d = true) : flatV v = true := by
  cases d <;> first | (simp only [flatD] at h; cases h; done) | (simp only [At] at a; subst a; rfl)
theorem flat_all {t : Tp} {W : Wd} : ∀ {ds : List D} {vs : List V}, AtL t W ds vs → ds.all flatD = true → vs.all flatV = true
  | [], _, h, _ => by simp only [AtL] at h; subst h; rfl
  | d :: ds, vs, h, e => by
    obtain ⟨v, r, rfl, h1, h2⟩ := h.uncons
    rw [List.all_cons, Bool.and_eq_true] at e ⊢
    exact ⟨flat_at h1 e.1, flat_all h2 e.2⟩
theorem beq_str {s t : List Nat} : ((⟨s.toArray⟩ : Str) == ⟨t.toArray⟩) = (s == t) := by
  rw [Bool.eq_iff_iff]
  simp
theorem eqF_at {t : Tp} {W : Wd} {d e : D} {x y : V} (ax : At t W d x) (ay : At t W e y) (h1 : flatD d = true) (h2 : flatD e = true) : eqV x y = eqF d e := by
  cases d <;> first | (simp only [flatD] at h1; cases h1; done) | skip
  all_goals
    cases e <;> first | (simp only [flatD] at h2; cases h2; done) | skip
  all_goals
    simp only [At] at ax ay
    subst ax ay
    first | rfl | exact beq_str
theorem inF_at {t : Tp} {W : Wd} {d : D} {x : V} (ax : At t W d x) (h1 : flatD d = true) : ∀ {ds : List D} {vs : List V}, AtL t W ds vs → ds.all flatD = true → inV x vs = inF d ds
  | [], _, h, _ => by simp only [AtL] at h; subst h; rfl
  | e :: ds, vs, h, f => by
    obtain ⟨v, r, rfl, h3, h2⟩ := h.uncons
    rw [List.all_cons, Bool.and_eq_true] at f
    unfold inV inF
    rw [List.any_cons, List.any_cons, eqF_at h3 ax f.1 h1]
    have := inF_at ax h1 h2 f.2
    unfold inV inF at this
    rw [this]
/-- in a tuple of nested data -/
theorem inT_run {pins : List (Addr × Obj)} {σ : L2.St} {H : Hp} {s : Shared} {Q : VK} {x y : V} {v u : Value} (neg : Bool) (I : Inv X pins σ H s) (rx : RelV x v) (ry : RelV y u) {a : Addr} {vs : List V} {p : PyData} {l : List PyData} (ey : y = .ref a)
    (hs : SqT X.K H a vs) (hl : DpAll X.K H vs l) (hx : Dp X.K H x p) (h1 : SeqAt.shaped p = true) (h2 : SeqAt.shaped (.list l) = true) (hu : X.A.units + 65 < cLine) (q : Q (.bl (if neg then !(l.any fun z => PyData.eqv z p) else l.any fun z => PyData.eqv z p)) H) :
    wpAny (model X.prog X.w) X.A (compareOp (if neg then .NotIn else .In) v u) (EP X pins σ Q) X.xe s := by
  have hd : Dp X.K H y (.tuple l) := by rw [ey]; exact .tup hs hl
  obtain ⟨as, r1⟩ := Dp.reads I p x v hx rx
  obtain ⟨bs, r2⟩ := Dp.reads I (.tuple l) y u hd ry
  have h2' : SeqAt.shaped (.tuple l) = true := h2
  cases neg with
  | true => exact SeqAt.notIn_tuple_reads r2 r1 (SeqAt.canLay_of_shaped h2') (SeqAt.canLay_of_shaped h1) (room_in_shaped h1 hu) ⟨.bl _, H, I, rfl, q⟩
  | false => exact SeqAt.in_tuple_reads r2 r1 (SeqAt.canLay_of_shaped h2') (SeqAt.canLay_of_shaped h1) (room_in_shaped h1 hu) ⟨.bl _, H, I, rfl, q⟩
theorem og_in_aux (hK : X.K = c.K) (hu : X.A.units + 65 < cLine) (neg : Bool) {pins : List (Addr × Obj)} {s : Shared} {σ : L2.St} {H : Hp} {x y : V} {v u : Value} {Q : VK} (I : Inv X pins σ H s) (rx : RelV x v) (ry : RelV y u) {W : Wd} {h : Cells} {d e : D} {b : Bool}
    (r : HRel c W h H) (ax : VAt c.toTp W H d x) (ay : VAt c.toTp W H e y) (hz : gInB d e = some b) (q : Q (.bl (if neg then !b else b)) H) : wpAny (model X.prog X.w) X.A (compareOp (if neg then .NotIn else .In) v u) (EP X pins σ Q) X.xe s := by
  have flat : ∀ {ys : List D} {vs : List V} {a : Addr}, y = .ref a → (SqL X.K H a vs ∨ SqT X.K H a vs) → AtL c.toTp W ys vs → (flatD d && ys.all flatD) = true → b = inF d ys → wpAny (model X.prog X.w) X.A (compareOp (if neg then .NotIn else .In) v u) (EP X pins σ Q) X.xe s := by
    intro ys vs a ey hs al hf hb
    rw [Bool.and_eq_true] at hf
    have ax : At c.toTp W d x := by
      have f1 := hf.1
      cases d <;> first | exact ax | (simp only [flatD] at f1; cases f1; done)
    have e1 := inF_at ax hf.1 al hf.2
    cases neg with
    | true => exact op_notIn_seq pins s σ H x y v u Q I rx ry ⟨a, vs, ey, hs, flat_at ax hf.1, flat_all al hf.2, by rw [if_pos rfl] at q ⊢; rw [e1, ← hb]; exact q⟩
    | false => exact op_in_seq pins s σ H x y v u Q I rx ry ⟨a, vs, ey, hs, flat_at ax hf.1, flat_all al hf.2, by rw [if_neg Bool.false_ne_true] at q ⊢; rw [e1, ← hb]; exact q⟩
  have deepL : ∀ {ys : List D} {p : PyData} {l : List PyData}, inDeep d ys = some b → ∃ p l, toPy d = some p ∧ toPyL ys = some l ∧ SeqAt.shaped p = true ∧ SeqAt.shaped (.list l) = true ∧ b = l.any fun z => PyData.eqv z p := by
    intro ys _ _ hd
    unfold inDeep at hd
    cases e1 : toPy d with
    | none => rw [e1] at hd; cases hd
    | some p =>
      cases e2 : toPyL ys with
      | none => rw [e1, e2] at hd; cases hd
      | some l =>
        rw [e1, e2] at hd
        simp only at hd
        split at hd
        · rename_i hs
          cases hd
          exact ⟨p, l, rfl, rfl, hs.1, hs.2, rfl⟩
        · cases hd
  cases e <;> first | (cases d <;> (simp only [gInB] at hz; cases hz) <;> done) | skip
  · rename_i z
    cases d <;> first | (simp only [gInB] at hz; cases hz; done) | skip
    rename_i sx
    cases sx with
    | nil => simp only [gInB] at hz; cases hz
    | cons a rest =>
      cases rest with
      | cons _ _ => simp only [gInB] at hz; cases hz
      | nil =>
        simp only [gInB, Option.some.injEq] at hz
        simp only [VAt, At] at ax ay
        subst ax ay hz
        cases neg with
        | true => exact op_notIn_sign pins s σ H _ _ v u Q I rx ry ⟨a, ⟨z.toArray⟩, rfl, rfl, by simpa using q⟩
        | false => exact op_in_sign pins s σ H _ _ v u Q I rx ry ⟨a, ⟨z.toArray⟩, rfl, rfl, by simpa using q⟩
  · rename_i ys
    have hz' : (if (flatD d && ys.all flatD) = true then some (inF d ys) else inDeep d ys) = some b := by
      cases d <;> first | exact hz | (rename_i sx; cases sx <;> first | exact hz | (rename_i a b; cases b <;> exact hz))
    simp only [VAt, At] at ay
    obtain ⟨a, vs, ey, hs, al⟩ := ay
    have hs' : SqT X.K H a vs := by rw [hK]; exact r.sqT hs
    split at hz'
    · rename_i hf
      exact flat ey (.inr hs') al hf (by cases hz'; rfl)
    · obtain ⟨p, l, e1, e2, h1, h2, hb⟩ := deepL (p := .none) (l := []) hz'
      exact inT_run neg I rx ry ey hs' (by rw [hK]; exact toPyL_dp rfl r al e2) (by rw [hK]; exact toPy_v r ax e1) h1 h2 hu (by rw [← hb]; exact q)
  · rename_i ys
    have hz' : (if (flatD d && ys.all flatD) = true then some (inF d ys) else inDeep d ys) = some b := by
      cases d <;> first | exact hz | (rename_i sx; cases sx <;> first | exact hz | (rename_i a b; cases b <;> exact hz))
    simp only [VAt] at ay
    obtain ⟨a, vs, ey, hs, al⟩ := ay
    have hs' : SqL X.K H a vs := .inl hs
    split at hz'
    · rename_i hf
      exact flat ey (.inl hs') al hf (by cases hz'; rfl)
    · obtain ⟨p, l, e1, e2, h1, h2, hb⟩ := deepL (p := .none) (l := []) hz'
      have dx : Dp X.K H x p := by rw [hK]; exact toPy_v r ax e1
      have dy : Dp X.K H y (.list l) := by rw [ey]; exact .lst hs' (by rw [hK]; exact toPyL_dp rfl r al e2)
      cases neg with
      | true => exact op_notInD hu pins s σ H x y v u Q I rx ry ⟨p, l, dx, dy, h1, h2, by rw [if_pos rfl] at q; rw [← hb]; exact q⟩
      | false => exact op_inD hu pins s σ H x y v u Q I rx ry ⟨p, l, dx, dy, h1, h2, by rw [if_neg Bool.false_ne_true] at q; rw [← hb]; exact q⟩
theorem og_in (hK : X.K = c.K) (hu : X.A.units + 65 < cLine) : OpR X (compareOp .In) (rV2 c gIn) := by
  intro pins s σ H x y v u Q I rx ry ⟨W, h, d, e, z, r, ax, ay, hz, q⟩
  obtain ⟨b, e1, rfl⟩ := and_some hz
  exact og_in_aux hK hu false I rx ry r ax ay e1 (q.bl r)
theorem og_notIn (hK : X.K = c.K) (hu : X.A.units + 65 < cLine) : OpR X (compareOp .NotIn) (rV2 c gNotIn) := by
  intro pins s σ H x y v u Q I rx ry ⟨W, h, d, e, z, r, ax, ay, hz, q⟩
  obtain ⟨b, e1, rfl⟩ := andn_some hz
  exact og_in_aux hK hu true I rx ry r ax ay e1 (q.bl r)
end
end DL

namespace DL
open PySem L2 PySem.Spec PyProof.Rows

/-! ### the functions of expressions -/
def fin {α : Type} (o : Option α) (h : Cells) : Out α := match o with | some z => .ok z h | none => .stuck
def mVar (i : Nat) : M D := fun ρ h => match ρ[i]? with | some (some (.val d)) => .ok d h | _ => .stuck
def mC (d : D) : M D := fun _ h => .ok d h
def mOp2 (g : D → D → Option D) (ma mb : M D) : M D := fun ρ h => (ma ρ h).bind fun x h1 => (mb ρ h1).bind fun y h2 => fin (g x y) h2
def mOp1 (g : D → Option D) (ma : M D) : M D := fun ρ h => (ma ρ h).bind fun x h1 => fin (g x) h1
def mNil : M (List D) := fun _ h => .ok [] h
def mCons (ma : M D) (mr : M (List D)) : M (List D) := fun ρ h => (ma ρ h).bind fun x h1 => (mr ρ h1).bind fun xs h2 => .ok (x :: xs) h2
def mCall (g : List D → Option D) (ma : M (List D)) : M D := fun ρ h => (ma ρ h).bind fun xs h1 => fin (g xs) h1
def gTup (xs : List D) : Option D := if xs.length ≤ big then some (.tup xs) else none
def gLst (xs : List D) : Option D := if xs.length ≤ big then some (.lst xs) else none
abbrev mTup (ma : M (List D)) : M D := mCall gTup ma
abbrev mLst (ma : M (List D)) : M D := mCall gLst ma
def asB : D → Option Bool
  | .bl b => some b
  | _ => none
def truD : D → Option Bool
  | .non => some false
  | .bl b => some b
  | .int i => some (i != 0)
  | .str s => if s.length ≤ big then some (!s.isEmpty) else none
  | .lst s => some (!s.isEmpty)
  | .tup s => some (!s.isEmpty)
  | _ => none
def mAsB (m : M D) : M Bool := fun ρ h => (m ρ h).bind fun x h1 => fin (asB x) h1
def mTru (m : M D) : M Bool := fun ρ h => (m ρ h).bind fun x h1 => fin (truD x) h1
def mAnd (a b : M Bool) : M Bool := fun ρ h => (a ρ h).bind fun x h1 => if x then b ρ h1 else .ok false h1
def mOr (a b : M Bool) : M Bool := fun ρ h => (a ρ h).bind fun x h1 => if x then .ok true h1 else b ρ h1
def mNot (a : M Bool) : M Bool := fun ρ h => (a ρ h).bind fun x h1 => .ok (!x) h1
def mAndV (a b : M D) : M D := fun ρ h => (a ρ h).bind fun x h1 => match x with | .bl true => b ρ h1 | .bl false => .ok (.bl false) h1 | _ => .stuck
def mOrV (a b : M D) : M D := fun ρ h => (a ρ h).bind fun x h1 => match x with | .bl true => .ok (.bl true) h1 | .bl false => b ρ h1 | _ => .stuck
def mNotV (a : M D) : M D := fun ρ h => (a ρ h).bind fun x h1 => match x with | .bl b => .ok (.bl (!b)) h1 | _ => .stuck
def mIf (t : M Bool) (a b : M D) : M D := fun ρ h => (t ρ h).bind fun x h1 => if x then a ρ h1 else b ρ h1
def mChain (g g' : D → D → Option D) (ma mb mc : M D) : M D := fun ρ h => (ma ρ h).bind fun x h1 => (mb ρ h1).bind fun y h2 => match g x y with
  | some (.bl true) => (mc ρ h2).bind fun z h3 => fin (g' y z) h3
  | some (.bl false) => .ok (.bl false) h2
  | _ => .stuck

section
variable {X : Cx} {c : Cc} {wx : WX}
theorem fin_ok {W : Wd} {σ : L2.St} {H : Hp} {h : Cells} {z : Option D} {Q : VK} (p : EPost c wx W σ H (fun W _ => At c.toTp W) (fin z h) Q) : ∃ d, z = some d ∧ KQ c W h H d Q := by
  cases z with
  | none => exact False.elim p
  | some d => exact ⟨d, rfl, p⟩
theorem fin_okB {W : Wd} {σ : L2.St} {H : Hp} {h : Cells} {z : Option Bool} {Q : Bool → Hp → Prop} (r : HRel c W h H) (p : EPost c wx W σ H (fun _ _ (a : Bool) b => a = b) (fin z h) Q) : ∃ d, z = some d ∧ Q d H := by
  cases z with
  | none => exact False.elim p
  | some d => exact ⟨d, rfl, p d W H (Ext.refl _ _ _) r rfl⟩
theorem ge_var {i : Nat} {x : Str} {pos : Pos} (hN : X.N[i]? = some x := by rfl) (hv : Vis X.env.scope x := by first | exact Or.inl rfl | exact Or.inr (Or.inl rfl) | exact Or.inr (Or.inr rfl))
    (hd : (x == ("__debug__" : Str)) = false := by decide) (hcd : (x == ("__classdict__" : Str)) = false := by decide) : GE X c wx (.Name x pos) (mVar i) :=
  PE.imp (pe_var hN hv hd hcd) fun σ H Q ⟨W, ρ, h, r, l, p⟩ => by
    unfold mVar at p
    cases e : ρ[i]? with
    | none => rw [e] at p; exact False.elim p
    | some o =>
      cases o with
      | none => rw [e] at p; exact False.elim p
      | some s =>
        cases s with
        | own m => rw [e] at p; exact False.elim p
        | val d =>
          rw [e] at p
          obtain ⟨v, e1, a⟩ := l.at_ i _ e
          exact ⟨v, e1, EPost.here (R := fun W _ => At c.toTp W) p r a⟩
theorem ge_int {i j pos} : GE X c wx (.Constant (.int i) j pos) (mC (.int i)) := PE.imp pe_int fun σ H Q ⟨W, ρ, h, r, l, p⟩ => KQ.int p r
theorem ge_bl {i j pos} : GE X c wx (.Constant (.bool i) j pos) (mC (.bl i)) := PE.imp pe_bl fun σ H Q ⟨W, ρ, h, r, l, p⟩ => KQ.bl p r
theorem ge_non {j pos} : GE X c wx (.Constant .none j pos) (mC .non) := PE.imp pe_non fun σ H Q ⟨W, ρ, h, r, l, p⟩ => KQ.here p r (by simp only [At])
theorem ge_str {x : Str} {s : List Nat} {j pos} (e : x = ⟨s.toArray⟩ := by decide +kernel) : GE X c wx (.Constant (.str x) j pos) (mC (.str s)) := PE.imp pe_str fun σ H Q ⟨W, ρ, h, r, l, p⟩ => by
  rw [e]; exact KQ.str p r
/-- a module's constant -/
theorem ge_glob {x : Str} {v : V} {u : Value} {d : D} {pos : Pos} (hm : X.mg x = some u) (rv : RelV v u) (a : ∀ W, At c.toTp W d v) (hg : Gl X x := by rfl) (hd : (x == ("__debug__" : Str)) = false := by decide) : GE X c wx (.Name x pos) (mC d) :=
  PE.imp (pe_glob hg hm rv hd) fun σ H Q ⟨W, ρ, h, r, l, p⟩ => KQ.here p r (a W)
theorem ge_bty {x : Str} {n : String} {pos : Pos} (hm : X.mg x = none) (hv : bootBuiltins x = some (.type n) := by decide +kernel) (hg : Gl X x := by rfl) (hn : x ≠ "__name__" := by decide) (hd : (x == ("__debug__" : Str)) = false := by decide) :
    GE X c wx (.Name x pos) (mC (.ty n)) := PE.imp (pe_bltn (v := .ty n) hg hm hv rfl hn hd) fun σ H Q ⟨W, ρ, h, r, l, p⟩ => KQ.here p r (by simp only [At])
theorem ge_op {a b : Expr} {op : Operator} {pos : Pos} {g : D → D → Option D} {ma mb : M D} (ho : OpR X (binaryOp op) (rG2 c g)) (ha : GE X c wx a ma) (hb : GE X c wx b mb) : GE X c wx (.BinOp a op b pos) (mOp2 g ma mb) :=
  PE.imp (pe_op ho ha hb) fun σ H Q ⟨W, ρ, h, r, l, p⟩ => tG_bind r l p fun d h1 v W1 H1 x1 r1 l1 a1 p1 => tG_bind r1 l1 p1 fun e h2 u W2 H2 x2 r2 l2 a2 p2 => by
    obtain ⟨z, e1, k⟩ := fin_ok p2
    exact ⟨W2, h2, d, e, z, r2, At.mono x2.le a1, a2, e1, k⟩
theorem ge_un {a : Expr} {op : UnaryOp} {pos : Pos} {g : D → Option D} {ma : M D} (ho : UnR X (unaryOp op) (rG1 c g)) (ha : GE X c wx a ma) : GE X c wx (.UnaryOp op a pos) (mOp1 g ma) :=
  PE.imp (pe_un ho ha) fun σ H Q ⟨W, ρ, h, r, l, p⟩ => tG_bind r l p fun d h1 v W1 H1 x1 r1 l1 a1 p1 => by
    obtain ⟨z, e1, k⟩ := fin_ok p1
    exact ⟨W1, h1, d, z, r1, a1, e1, k⟩
theorem cmp_t {ma mb : M D} {g : D → D → Option D} (σ : L2.St) (H : Hp) (Q : VK) (t : tD c wx (mOp2 g ma mb) σ H Q) : tOp (rG2 c g) (tD c wx ma) (tD c wx mb) σ H Q := by
  obtain ⟨W, ρ, h, r, l, p⟩ := t
  exact tG_bind r l p fun d h1 v W1 H1 x1 r1 l1 a1 p1 => tG_bind r1 l1 p1 fun e h2 u W2 H2 x2 r2 l2 a2 p2 => by
    obtain ⟨z, e1, k⟩ := fin_ok p2
    exact ⟨W2, h2, d, e, z, r2, At.mono x2.le a1, a2, e1, k⟩
theorem ge_cmp {a b : Expr} {op : CmpOp} {pos : Pos} {g : D → D → Option D} {ma mb : M D} (ho : OpR X (compareOp op) (rG2 c g)) (ha : GE X c wx a ma) (hb : GE X c wx b mb) (hm : behindInMarks op b = false := by rfl) : GE X c wx (.Compare a [op] [b] pos) (mOp2 g ma mb) :=
  PE.imp (pe_cmpR ho ha hb hm) fun σ H Q t => cmp_t σ H Q t
theorem asB_t {m : M D} {σ : L2.St} {H : Hp} {Q : Bool → Hp → Prop} (t : tQ c wx (mAsB m) σ H Q) : tD c wx m σ H fun x H1 => ∃ k, x = .bl k ∧ Q k H1 := by
  obtain ⟨W, ρ, h, r, l, p⟩ := t
  exact tG_bind r l p fun d h1 v W1 H1 x1 r1 l1 a1 p1 => by
    obtain ⟨z, e1, k⟩ := fin_okB r1 p1
    cases d <;> first | (simp only [asB] at e1; cases e1; done) | skip
    simp only [asB, Option.some.injEq] at e1
    subst e1
    simp only [At] at a1
    exact ⟨_, a1, k⟩
theorem gt_cmp {a b : Expr} {op : CmpOp} {pos : Pos} {g : D → D → Option D} {ma mb : M D} (ho : OpR X (compareOp op) (rG2 c g)) (ha : GE X c wx a ma) (hb : GE X c wx b mb) (hm : behindInMarks op b = false := by rfl) : GT X c wx (.Compare a [op] [b] pos) (mAsB (mOp2 g ma mb)) :=
  PT.imp (pt_cmpR ho ha hb hm) fun σ H Q t => cmp_t _ _ _ (asB_t t)
theorem chain_t {ma mb mc : M D} {g g' : D → D → Option D} (σ : L2.St) (H : Hp) (Q : VK) (t : tD c wx (mChain g g' ma mb mc) σ H Q) : tChain (rG2 c g) (rG2 c g') (tD c wx ma) (tD c wx mb) (tD c wx mc) σ H Q := by
  obtain ⟨W, ρ, h, r, l, p⟩ := t
  exact tG_bind r l p fun d h1 v W1 H1 x1 r1 l1 a1 p1 => tG_bind r1 l1 p1 fun e h2 u W2 H2 x2 r2 l2 a2 p2 => by
    cases eg : g d e with
    | none => rw [eg] at p2; exact False.elim p2
    | some z =>
      rw [eg] at p2
      cases z <;> first | exact False.elim p2 | skip
      rename_i b
      refine ⟨W2, h2, d, e, _, r2, At.mono x2.le a1, a2, eg, fun v' W' H' x' r' a' => ?_⟩
      simp only [At] at a'
      subst a'
      refine ⟨b, rfl, ?_⟩
      cases b with
      | false => exact p2 _ _ _ x' r' (by simp only [At])
      | true =>
        have p3 : EPost c wx W2 σ H2 (fun W _ => At c.toTp W) ((mc ρ h2).bind fun z h3 => fin (g' e z) h3) Q := p2
        have p4 : EPost c wx W' σ H' (fun W _ => At c.toTp W) ((mc ρ h2).bind fun z h3 => fin (g' e z) h3) Q := by
          cases em : (mc ρ h2).bind (fun z h3 => fin (g' e z) h3) with
          | ok d3 h3 => rw [em] at p3; exact fun v3 W3 H3 x3 r3 a3 => p3 v3 W3 H3 (x'.trans0 x3) r3 a3
          | exc x3 h3 => rw [em] at p3; exact fun cls dd W3 H3 x4 r3 a3 => p3 cls dd W3 H3 (x'.trans0 x4) r3 a3
          | stuck => rw [em] at p3; exact p3
        exact tG_bind r' (l2.ext x') p4 fun f h3 w W3 H3 x3 r3 l3 a3 p5 => by
          obtain ⟨z, e1, k⟩ := fin_ok p5
          exact ⟨W3, h3, e, f, z, r3, At.mono (x'.le.trans x3.le) a2, a3, e1, k⟩
theorem ge_chain {a b d : Expr} {op op' : CmpOp} {pos : Pos} {g g' : D → D → Option D} {ma mb mc : M D} (ho : OpR X (compareOp op) (rG2 c g)) (ho' : OpR X (compareOp op') (rG2 c g')) (ha : GE X c wx a ma) (hb : GE X c wx b mb) (hc : GE X c wx d mc) (hm : lastMarks [op, op'] [b, d] = false := by rfl) :
    GE X c wx (.Compare a [op, op'] [b, d] pos) (mChain g g' ma mb mc) := PE.imp (pe_chain ho ho' ha hb hc hm) fun σ H Q t => chain_t σ H Q t
theorem gt_chain {a b d : Expr} {op op' : CmpOp} {pos : Pos} {g g' : D → D → Option D} {ma mb mc : M D} (ho : OpR X (compareOp op) (rG2 c g)) (ho' : OpR X (compareOp op') (rG2 c g')) (ha : GE X c wx a ma) (hb : GE X c wx b mb) (hc : GE X c wx d mc) (hm : lastMarks [op, op'] [b, d] = false := by rfl) :
    GT X c wx (.Compare a [op, op'] [b, d] pos) (mAsB (mChain g g' ma mb mc)) := PT.imp (pt_chain ho ho' ha hb hc hm) fun σ H Q t => chain_t _ _ _ (asB_t t)
theorem emp_at {t : Tp} {W : Wd} {ds : List D} {vs : List V} (al : AtL t W ds vs) : (!ds.isEmpty) = !vs.isEmpty := by
  have := al.length
  cases ds <;> cases vs <;> first | rfl | (simp at this)
theorem tru_at {K : PySem.W.Frag} (hK : K = c.K) {W : Wd} {h : Cells} {H : Hp} (r : HRel c W h H) {d : D} {v : V} {b : Bool} (a : At c.toTp W d v) (e : truD d = some b) : TruV K v H b := by
  cases d <;> first | (simp only [truD] at e; cases e; done) | skip
  · simp only [At] at a; simp only [truD, Option.some.injEq] at e; subst a e; rfl
  · simp only [At] at a; simp only [truD, Option.some.injEq] at e; subst a e; rfl
  · simp only [At] at a; simp only [truD, Option.some.injEq] at e; subst a e; rfl
  · rename_i s
    simp only [At] at a; simp only [truD] at e
    split at e
    · rename_i hs
      simp only [Option.some.injEq] at e
      subst a e
      refine ⟨big_le (by simpa [Str.length] using hs), ?_⟩
      cases s with
      | nil => rfl
      | cons x xs =>
        show _ = (((x :: xs).toArray.size : Int) != 0)
        rw [List.size_toArray]
        simp
        omega
    · cases e
  · simp only [At] at a; simp only [truD, Option.some.injEq] at e; subst e
    obtain ⟨p, vs, rfl, hs, al⟩ := a
    exact .inr (.inl ⟨vs, by rw [hK]; exact r.sqT hs, emp_at al⟩)
  · simp only [At] at a; simp only [truD, Option.some.injEq] at e; subst e
    obtain ⟨p, vs, rfl, hs, al⟩ := a
    exact .inl ⟨vs, .inl (r.rd (.inl hs)), emp_at al⟩
theorem gt_val {a : Expr} {m : M D} (hK : X.K = c.K) (ha : GE X c wx a m) (he : ∀ whole, isTrue a X.env whole = (do let v ← whole; standAt a.pos; holding [v] (truthy v)) := by intro _; rfl) : GT X c wx a (mTru m) :=
  PT.imp (pt_truth ha he) fun σ H Q ⟨W, ρ, h, r, l, p⟩ => tG_bind r l p fun d h1 v W1 H1 x1 r1 l1 a1 p1 => by
    obtain ⟨z, e1, k⟩ := fin_okB r1 p1
    exact ⟨z, tru_at hK r1 a1 e1, k⟩
theorem gw_pt {a : Expr} {m : M Bool} (h : GW X c wx a m) : GT X c wx a m := PW.pt h
theorem gw_and1 {a : Expr} {pos : Pos} {m : M Bool} (h : GT X c wx a m) : GW X c wx (.BoolOp .And [a] pos) m := pw_and1 h
theorem gw_or1 {a : Expr} {pos : Pos} {m : M Bool} (h : GT X c wx a m) : GW X c wx (.BoolOp .Or [a] pos) m := pw_or1 h
theorem gw_and {a b : Expr} {rest : List Expr} {pos : Pos} {ma mb : M Bool} (ha : GT X c wx a ma) (hb : GW X c wx (.BoolOp .And (b :: rest) pos) mb) : GW X c wx (.BoolOp .And (a :: b :: rest) pos) (mAnd ma mb) :=
  PW.imp (pw_and ha hb) fun σ H Q ⟨W, ρ, h, r, l, p⟩ => tG_bind r l p fun d h1 v W1 H1 x1 r1 l1 a1 p1 => by
    subst a1
    cases d with
    | true => rw [if_pos rfl]; exact ⟨W1, ρ, h1, r1, l1, p1⟩
    | false => rw [if_neg Bool.false_ne_true]; exact p1 _ _ _ (Ext.refl _ _ _) r1 rfl
theorem gw_or {a b : Expr} {rest : List Expr} {pos : Pos} {ma mb : M Bool} (ha : GT X c wx a ma) (hb : GW X c wx (.BoolOp .Or (b :: rest) pos) mb) : GW X c wx (.BoolOp .Or (a :: b :: rest) pos) (mOr ma mb) :=
  PW.imp (pw_or ha hb) fun σ H Q ⟨W, ρ, h, r, l, p⟩ => tG_bind r l p fun d h1 v W1 H1 x1 r1 l1 a1 p1 => by
    subst a1
    cases d with
    | false => rw [if_neg Bool.false_ne_true]; exact ⟨W1, ρ, h1, r1, l1, p1⟩
    | true => rw [if_pos rfl]; exact p1 _ _ _ (Ext.refl _ _ _) r1 rfl
theorem gt_not {a : Expr} {pos : Pos} {m : M Bool} (ha : GT X c wx a m) : GT X c wx (.UnaryOp .Not a pos) (mNot m) :=
  PT.imp (pt_not ha) fun σ H Q ⟨W, ρ, h, r, l, p⟩ => tG_bind r l p fun d h1 v W1 H1 x1 r1 l1 a1 p1 => by
    subst a1
    exact p1 _ _ _ (Ext.refl _ _ _) r1 rfl
theorem ge_one {op} {a : Expr} {pos : Pos} {m : M D} (h : GE X c wx a m) : GE X c wx (.BoolOp op [a] pos) m := pe_one h
theorem ge_and {a b : Expr} {rest : List Expr} {pos : Pos} {ma mb : M D} (ha : GE X c wx a ma) (hb : GE X c wx (.BoolOp .And (b :: rest) pos) mb) : GE X c wx (.BoolOp .And (a :: b :: rest) pos) (mAndV ma mb) :=
  PE.imp (pe_and ha hb) fun σ H Q ⟨W, ρ, h, r, l, p⟩ => tG_bind r l p fun d h1 v W1 H1 x1 r1 l1 a1 p1 => by
    cases d <;> first | exact False.elim p1 | skip
    rename_i b
    simp only [At] at a1
    subst a1
    refine ⟨b, rfl, ?_⟩
    cases b with
    | true => rw [if_pos rfl]; exact ⟨W1, ρ, h1, r1, l1, p1⟩
    | false => rw [if_neg Bool.false_ne_true]; exact p1 _ _ _ (Ext.refl _ _ _) r1 (by simp only [At])
theorem ge_or {a b : Expr} {rest : List Expr} {pos : Pos} {ma mb : M D} (ha : GE X c wx a ma) (hb : GE X c wx (.BoolOp .Or (b :: rest) pos) mb) : GE X c wx (.BoolOp .Or (a :: b :: rest) pos) (mOrV ma mb) :=
  PE.imp (pe_or ha hb) fun σ H Q ⟨W, ρ, h, r, l, p⟩ => tG_bind r l p fun d h1 v W1 H1 x1 r1 l1 a1 p1 => by
    cases d <;> first | exact False.elim p1 | skip
    rename_i b
    simp only [At] at a1
    subst a1
    refine ⟨b, rfl, ?_⟩
    cases b with
    | false => rw [if_neg Bool.false_ne_true]; exact ⟨W1, ρ, h1, r1, l1, p1⟩
    | true => rw [if_pos rfl]; exact p1 _ _ _ (Ext.refl _ _ _) r1 (by simp only [At])
theorem ge_not {a : Expr} {pos : Pos} {m : M D} (ha : GE X c wx a m) : GE X c wx (.UnaryOp .Not a pos) (mNotV m) :=
  PE.imp (pe_not ha) fun σ H Q ⟨W, ρ, h, r, l, p⟩ => tG_bind r l p fun d h1 v W1 H1 x1 r1 l1 a1 p1 => by
    cases d <;> first | exact False.elim p1 | skip
    simp only [At] at a1
    exact ⟨_, a1, p1 _ _ _ (Ext.refl _ _ _) r1 (by simp only [At])⟩
theorem ge_ifExp {t a b : Expr} {pos : Pos} {mt : M Bool} {ma mb : M D} (ht : GT X c wx t mt) (ha : GE X c wx a ma) (hb : GE X c wx b mb) : GE X c wx (.IfExp t a b pos) (mIf mt ma mb) :=
  PE.imp (pe_ifExp ht ha hb) fun σ H Q ⟨W, ρ, h, r, l, p⟩ => tG_bind r l p fun d h1 v W1 H1 x1 r1 l1 a1 p1 => by
    subst a1
    cases d with
    | true => rw [if_pos rfl]; exact ⟨W1, ρ, h1, r1, l1, p1⟩
    | false => rw [if_neg Bool.false_ne_true]; exact ⟨W1, ρ, h1, r1, l1, p1⟩
theorem ga_nil : GA X c wx [] mNil := PA.imp pa_nil fun σ H Q ⟨W, ρ, h, r, l, p⟩ => p _ _ _ (Ext.refl _ _ _) r AtL.nil
theorem ga_cons {e : Expr} {es : List Expr} {ma : M D} {mr : M (List D)} (ha : GE X c wx e ma) (hr : GA X c wx es mr) (hs : starEach (e :: es) X.env = (false, eval e X.env) :: starEach es X.env := by rfl) : GA X c wx (e :: es) (mCons ma mr) :=
  PA.imp (pa_cons ha hr hs) fun σ H Q ⟨W, ρ, h, r, l, p⟩ => tG_bind r l p fun d h1 v W1 H1 x1 r1 l1 a1 p1 => tG_bind r1 l1 p1 fun ds h2 vs W2 H2 x2 r2 l2 a2 p2 =>
    p2 _ _ _ (Ext.refl _ _ _) r2 (AtL.cons (At.mono x2.le a1) a2)
theorem ge_tup {es : List Expr} {x1} {pos : Pos} {ma : M (List D)} (ha : GA X c wx es ma) : GE X c wx (.Tuple es x1 pos) (mTup ma) :=
  PE.imp (pe_tup ha) fun σ H Q ⟨W, ρ, h, r, l, p⟩ => tG_bind r l p fun ds h1 vs W1 H1 x1 r1 l1 a1 p1 => by
    obtain ⟨z, e1, k⟩ := fin_ok p1
    unfold gTup at e1
    split at e1
    · rename_i hs
      cases e1
      exact ⟨big_le (by rw [← a1.length]; exact hs), fun p hp => k.tup r1 a1 hp⟩
    · cases e1
theorem ge_lst {es : List Expr} {pos : Pos} {ma : M (List D)} (ha : GA X c wx es ma) : GE X c wx (.List es pos) (mLst ma) :=
  PE.imp (pe_lst ha) fun σ H Q ⟨W, ρ, h, r, l, p⟩ => tG_bind r l p fun ds h1 vs W1 H1 x1 r1 l1 a1 p1 => by
    obtain ⟨z, e1, k⟩ := fin_ok p1
    unfold gLst at e1
    split at e1
    · rename_i hs
      cases e1
      exact ⟨big_le (by rw [← a1.length]; exact hs), fun p hp => k.lst r1 a1 hp⟩
    · cases e1
theorem call_t {g : List D → Option D} {ma : M (List D)} (σ : L2.St) (H : Hp) (Q : VK) (t : tD c wx (mCall g ma) σ H Q) : tCB (rGC c g) (tL c wx ma) σ H Q := by
  obtain ⟨W, ρ, h, r, l, p⟩ := t
  exact tG_bind r l p fun d h1 v W1 H1 x1 r1 l1 a1 p1 => by
    obtain ⟨z, e1, k⟩ := fin_ok p1
    exact ⟨W1, h1, d, z, r1, a1, e1, k⟩
theorem ge_callB {x : Str} {id : String} {e : Expr} {es : List Expr} {p pos : Pos} {g : List D → Option D} {ma : M (List D)} (hc : CallR X (.builtin id) (rGC c g)) (hm : X.mg x = none) (ha : GA X c wx (e :: es) ma) (hv : bootBuiltins x = some (.builtin id) := by decide +kernel)
    (hg : Gl X x := by rfl) (hn : x ≠ "__name__" := by decide) (hdb : (x == ("__debug__" : Str)) = false := by decide) (he : starEach (e :: es) X.env = (false, eval e X.env) :: starEach es X.env := by rfl) (hpl : (backTo pos (starEach es X.env)).any (·.1) = false := by rfl) :
    GE X c wx (.Call (.Name x p) (e :: es) [] pos) (mCall g ma) := PE.imp (pe_callB hc hg hm hv ha hn hdb he hpl) fun σ H Q t => call_t σ H Q t
theorem ge_callTy {x : Str} {T : String} {e : Expr} {es : List Expr} {p pos : Pos} {g : List D → Option D} {ma : M (List D)} (hc : CallR X (.type T) (rGC c g)) (hm : X.mg x = none) (ha : GA X c wx (e :: es) ma) (hv : bootBuiltins x = some (.type T) := by decide +kernel)
    (hg : Gl X x := by rfl) (hn : x ≠ "__name__" := by decide) (hdb : (x == ("__debug__" : Str)) = false := by decide) (he : starEach (e :: es) X.env = (false, eval e X.env) :: starEach es X.env := by rfl) (hpl : (backTo pos (starEach es X.env)).any (·.1) = false := by rfl) :
    GE X c wx (.Call (.Name x p) (e :: es) [] pos) (mCall g ma) := PE.imp (pe_callTy hc hg hm hv ha hn hdb he hpl) fun σ H Q t => call_t σ H Q t
end
end DL

namespace DL
open PySem L2 PySem.Spec PyProof.Rows

def mBd (m : M D) : M Bv := fun ρ h => (m ρ h).bind fun d h1 => .ok (.d d) h1
def mVarB (i : Nat) : M Bv := fun ρ h => match ρ[i]? with | some (some (.val d)) => .ok (.d d) h | some (some (.own m)) => .ok (.o m) h | _ => .stuck
def mOpV (g : D → D → Option D) (ma mb : M Bv) : M D := fun ρ h => (ma ρ h).bind fun x h1 => (mb ρ h1).bind fun y h2 => fin ((view h2 x).bind fun x => (view h2 y).bind fun y => g x y) h2
def mCallV (g : D → Option D) (ma : M Bv) : M D := fun ρ h => (ma ρ h).bind fun x h1 => fin ((view h1 x).bind g) h1
def GB (X : Cx) (c : Cc) (wx : WX) (e : Expr) (m : M Bv) : Prop := PE X e (tG c wx (fun W H => BAt c.toTp W H) m)
section
variable {X : Cx} {c : Cc} {wx : WX}
theorem gb_ge {e : Expr} {m : M D} (h : GE X c wx e m) : GB X c wx e (mBd m) :=
  PE.imp h fun σ H Q ⟨W, ρ, h, r, l, p⟩ => tG_bind r l p fun d h1 v W1 H1 x1 r1 l1 a1 p1 => p1 _ _ _ (Ext.refl _ _ _) r1 a1
theorem gb_var {i : Nat} {x : Str} {pos : Pos} (hN : X.N[i]? = some x := by rfl) (hv : Vis X.env.scope x := by first | exact Or.inl rfl | exact Or.inr (Or.inl rfl) | exact Or.inr (Or.inr rfl))
    (hd : (x == ("__debug__" : Str)) = false := by decide) (hcd : (x == ("__classdict__" : Str)) = false := by decide) : GB X c wx (.Name x pos) (mVarB i) :=
  PE.imp (pe_var hN hv hd hcd) fun σ H Q ⟨W, ρ, h, r, l, p⟩ => by
    unfold mVarB at p
    cases e : ρ[i]? with
    | none => rw [e] at p; exact False.elim p
    | some o =>
      cases o with
      | none => rw [e] at p; exact False.elim p
      | some s =>
        obtain ⟨v, e1, a⟩ := l.at_ i _ e
        cases s with
        | own m =>
          rw [e] at p
          obtain ⟨q, e2, a1, a2, a3⟩ := a
          exact ⟨v, e1, EPost.here (R := fun W H => BAt c.toTp W H) p r ⟨q, e2, a1, a3⟩⟩
        | val d =>
          rw [e] at p
          exact ⟨v, e1, EPost.here (R := fun W H => BAt c.toTp W H) p r a⟩
theorem opt_bind {α β : Type} {a : Option α} {f : α → Option β} {z : β} (h : a.bind f = some z) : ∃ x, a = some x ∧ f x = some z := by
  cases a with
  | none => cases h
  | some x => exact ⟨x, rfl, h⟩
theorem opV_t {ma mb : M Bv} {g : D → D → Option D} (σ : L2.St) (H : Hp) (Q : VK) (t : tD c wx (mOpV g ma mb) σ H Q) : tOp (rV2 c g) (tG c wx (fun W H => BAt c.toTp W H) ma) (tG c wx (fun W H => BAt c.toTp W H) mb) σ H Q := by
  obtain ⟨W, ρ, h, r, l, p⟩ := t
  exact tG_bind r l p fun d h1 v W1 H1 x1 r1 l1 a1 p1 => tG_bind r1 l1 p1 fun e h2 u W2 H2 x2 r2 l2 a2 p2 => by
    obtain ⟨z, e1, k⟩ := fin_ok p2
    obtain ⟨x, ex, e1⟩ := opt_bind e1
    obtain ⟨y, ey, e1⟩ := opt_bind e1
    exact ⟨W2, h2, x, y, z, r2, VAt.see r2 ex (BAt.ext x2 a1), VAt.see r2 ey a2, e1, k⟩
theorem ge_cmpV {a b : Expr} {op : CmpOp} {pos : Pos} {g : D → D → Option D} {ma mb : M Bv} (ho : OpR X (compareOp op) (rV2 c g)) (ha : GB X c wx a ma) (hb : GB X c wx b mb) (hm : behindInMarks op b = false := by rfl) : GE X c wx (.Compare a [op] [b] pos) (mOpV g ma mb) :=
  PE.imp (pe_cmpR ho ha hb hm) fun σ H Q t => opV_t σ H Q t
theorem gt_cmpV {a b : Expr} {op : CmpOp} {pos : Pos} {g : D → D → Option D} {ma mb : M Bv} (ho : OpR X (compareOp op) (rV2 c g)) (ha : GB X c wx a ma) (hb : GB X c wx b mb) (hm : behindInMarks op b = false := by rfl) : GT X c wx (.Compare a [op] [b] pos) (mAsB (mOpV g ma mb)) :=
  PT.imp (pt_cmpR ho ha hb hm) fun σ H Q t => opV_t _ _ _ (asB_t t)

/-! ### subscripts -/
def gIx : D → D → Option D
  | .lst xs, .int i => atI xs i
  | .tup xs, .int i => atI xs i
  | .str s, .int i => if s.length ≤ big then match atI s i with | some x => some (.str [x]) | none => none else none
  | _, _ => none
theorem atI_at {t : Tp} {W : Wd} {ds : List D} {vs : List V} {i : Int} {d : D} (al : AtL t W ds vs) (e : atI ds i = some d) : ∃ v, atI vs i = some v ∧ At t W d v := by
  unfold atI at e ⊢
  rw [← al.length]
  cases en : ixN ds.length i with
  | none => rw [en] at e; cases e
  | some j => rw [en] at e; exact al.get e
theorem ig_ix (hK : X.K = c.K) : IxR X (rV2 c gIx) := by
  intro value slice pins s σ H x y v u Q I rx ry ⟨W, h, d, e, z, r, ax, ay, hz, q⟩ hs
  cases d <;> cases e <;> first | (simp only [gIx] at hz; cases hz; done) | skip
  · rename_i sx i
    simp only [gIx] at hz
    split at hz
    · rename_i hl
      simp only [VAt, At] at ax ay
      subst ax ay
      cases ea : atI sx i with
      | none => rw [ea] at hz; cases hz
      | some k =>
        rw [ea] at hz
        cases hz
        exact ix_str value slice pins s σ H _ _ v u Q I rx ry ⟨_, i, k, rfl, rfl, big_le (by simpa [Str.length] using hl), by simpa using ea, q.str r⟩ hs
    · cases hz
  · simp only [gIx] at hz
    simp only [VAt, At] at ax ay
    obtain ⟨p, vs, rfl, hp, al⟩ := ax
    subst ay
    obtain ⟨w, e1, a1⟩ := atI_at al hz
    exact ix_tup value slice pins s σ H _ _ v u Q I rx ry ⟨p, vs, _, w, rfl, rfl, by rw [hK]; exact r.sqT hp, e1, q.here r a1⟩ hs
  · simp only [gIx] at hz
    simp only [VAt, At] at ax ay
    obtain ⟨p, vs, rfl, hp, al⟩ := ax
    subst ay
    obtain ⟨w, e1, a1⟩ := atI_at al hz
    exact ix_list value slice pins s σ H _ _ v u Q I rx ry ⟨p, vs, _, w, rfl, rfl, .inl hp, e1, q.here r a1⟩ hs
theorem ge_ix {a b : Expr} {pos : Pos} {ma mb : M Bv} (hK : X.K = c.K) (ha : GB X c wx a ma) (hb : GB X c wx b mb) (hs : PlainIx b := by intro _ _; rfl) : GE X c wx (.Subscript a b pos) (mOpV gIx ma mb) :=
  PE.imp (pe_ix (ig_ix hK) ha hb hs) fun σ H Q t => opV_t σ H Q t

/-! ### slices -/
def cutL {α : Type} (xs : List α) (lo hi : Option Int) : List α := (xs.drop (HT.sIx xs.length 0 lo)).take (HT.sIx xs.length xs.length hi - HT.sIx xs.length 0 lo)
def gSl (lo hi : Option Int) : D → Option D
  | .lst xs => some (.lst (cutL xs lo hi))
  | .tup xs => some (.tup (cutL xs lo hi))
  | .str xs => if xs.length ≤ big then some (.str (cutL xs lo hi)) else none
  | _ => none
def asI : D → Option (Option Int)
  | .int i => some (some i)
  | _ => none
def mPartN : M (Option Int) := fun _ h => .ok none h
def mPart (m : M D) : M (Option Int) := fun ρ h => (m ρ h).bind fun d h1 => fin (asI d) h1
def mSl (ma : M Bv) (ml mh : M (Option Int)) : M D := fun ρ h => (ma ρ h).bind fun x h1 => (ml ρ h1).bind fun lo h2 => (mh ρ h2).bind fun hi h3 => fin ((view h3 x).bind (gSl lo hi)) h3
def GO (X : Cx) (c : Cc) (wx : WX) (e : Option Expr) (m : M (Option Int)) : Prop := PO X e (tG c wx (fun _ _ (a : Option Int) b => a = b) m)
theorem PO.imp {X : Cx} {e : Option Expr} {t t' : TO} (h : PO X e t) (f : ∀ σ H Q, t' σ H Q → t σ H Q) : PO X e t' := ⟨fun p s σ H Q I q => h.run p s σ H Q I (f σ H Q q)⟩
theorem go_none : GO X c wx none mPartN := PO.imp po_none fun σ H Q ⟨W, ρ, h, r, l, p⟩ => p _ _ _ (Ext.refl _ _ _) r rfl
theorem go_some {e : Expr} {m : M D} (he : GE X c wx e m) : GO X c wx (some e) (mPart m) :=
  PO.imp (po_some he) fun σ H Q ⟨W, ρ, h, r, l, p⟩ => tG_bind r l p fun d h1 v W1 H1 x1 r1 l1 a1 p1 => by
    cases d <;> first | exact False.elim p1 | skip
    simp only [At] at a1
    exact ⟨_, a1, p1 _ _ _ (Ext.refl _ _ _) r1 rfl⟩
def rSlG (c : Cc) : V → Option Int → Option Int → Hp → VK → Prop := fun x lo hi H Q => ∃ W h d z, HRel c W h H ∧ VAt c.toTp W H d x ∧ gSl lo hi d = some z ∧ KQ c W h H z Q
theorem cutL_at {t : Tp} {W : Wd} {ds : List D} {vs : List V} (lo hi : Option Int) (al : AtL t W ds vs) : AtL t W (cutL ds lo hi) (cutV vs lo hi) := by
  unfold cutL cutV
  rw [al.length]
  exact (al.drop _).take _
theorem cut_whole {α : Type} {xs : List α} {lo hi : Option Int} (h : HT.sIx xs.length 0 lo = 0 ∧ HT.sIx xs.length xs.length hi = xs.length) : cutL xs lo hi = xs := by
  unfold cutL
  rw [h.1, h.2]
  simp
theorem sg_sl (hK : X.K = c.K) : SlR X (rSlG c) := by
  intro pins s σ H x v vl vu lo hi sl Q I rx hs pl pu ⟨W, h, d, z, r, ax, hz, q⟩
  cases d <;> first | (simp only [gSl] at hz; cases hz; done) | skip
  · simp only [gSl] at hz
    split at hz
    · rename_i a hl
      cases hz
      simp only [VAt, At] at ax
      subst ax
      exact sl_str pins s σ H _ v vl vu lo hi sl Q I rx hs pl pu ⟨_, rfl, big_le (by simpa [Str.length] using hl), by
        have e : cutS ⟨a.toArray⟩ lo hi = ⟨(cutL a lo hi).toArray⟩ := by
          unfold cutS cutL
          simp [Str.length]
        rw [e]
        exact q.str r⟩
    · cases hz
  · simp only [gSl, Option.some.injEq] at hz
    subst hz
    simp only [VAt, At] at ax
    obtain ⟨p, vs, rfl, hp, al⟩ := ax
    refine sl_tupA pins s σ H _ v vl vu lo hi sl Q I rx hs pl pu ⟨p, vs, rfl, by rw [hK]; exact r.sqT hp, fun e => ?_, fun _ p hp => q.tup r (cutL_at lo hi al) hp⟩
    rw [← al.length] at e
    rw [cut_whole e] at q
    exact q.here r (by simp only [At]; exact ⟨p, vs, rfl, hp, al⟩)
  · simp only [gSl, Option.some.injEq] at hz
    subst hz
    simp only [VAt] at ax
    obtain ⟨p, vs, rfl, hp, al⟩ := ax
    exact sl_list pins s σ H _ v vl vu lo hi sl Q I rx hs pl pu ⟨p, vs, rfl, .inl hp, fun p hp => q.lst r (cutL_at lo hi al) hp⟩
theorem ge_sl {a : Expr} {lo hi : Option Expr} {p2 pos : Pos} {ma : M Bv} {ml mh : M (Option Int)} (hK : X.K = c.K) (ha : GB X c wx a ma) (hl : GO X c wx lo ml) (hh : GO X c wx hi mh) : GE X c wx (.Subscript a (.Slice lo hi none p2) pos) (mSl ma ml mh) :=
  PE.imp (pe_slice (sg_sl hK) ha hl hh) fun σ H Q ⟨W, ρ, h, r, l, p⟩ => tG_bind r l p fun d h1 v W1 H1 x1 r1 l1 a1 p1 => tG_bind r1 l1 p1 fun o h2 u W2 H2 x2 r2 l2 a2 p2 => tG_bind r2 l2 p2 fun o' h3 u' W3 H3 x3 r3 l3 a3 p3 => by
    obtain ⟨z, e1, k⟩ := fin_ok p3
    obtain ⟨y, ey, e1⟩ := opt_bind e1
    subst a2 a3
    exact ⟨W3, h3, y, z, r3, VAt.see r3 ey (BAt.ext x3 (BAt.ext x2 a1)), e1, k⟩

/-! ### built-in functions -/
/-- one argument, looked at in passing -/
def rV1 (c : Cc) (g : D → Option D) : List V → Hp → VK → Prop := fun xs H Q => ∃ x W h d z, xs = [x] ∧ HRel c W h H ∧ VAt c.toTp W H d x ∧ g d = some z ∧ KQ c W h H z Q
theorem call1_t {m : M Bv} {g : D → Option D} (σ : L2.St) (H : Hp) (Q : VK) (t : tD c wx (mCallV g m) σ H Q) : tCB (rV1 c g) (tCons (tG c wx (fun W H => BAt c.toTp W H) m) tNil) σ H Q := by
  obtain ⟨W, ρ, h, r, l, p⟩ := t
  exact tG_bind r l p fun d h1 v W1 H1 x1 r1 l1 a1 p1 => by
    obtain ⟨z, e1, k⟩ := fin_ok p1
    obtain ⟨y, ey, e1⟩ := opt_bind e1
    exact ⟨v, W1, h1, y, z, rfl, r1, VAt.see r1 ey a1, e1, k⟩
theorem ge_callB1 {x : Str} {id : String} {e : Expr} {p pos : Pos} {g : D → Option D} {ma : M Bv} (hc : CallR X (.builtin id) (rV1 c g)) (hm : X.mg x = none) (ha : GB X c wx e ma) (hv : bootBuiltins x = some (.builtin id) := by decide +kernel)
    (hg : Gl X x := by rfl) (hn : x ≠ "__name__" := by decide) (hdb : (x == ("__debug__" : Str)) = false := by decide) (he : starEach [e] X.env = (false, eval e X.env) :: starEach [] X.env := by rfl) (hpl : (backTo pos (starEach [] X.env)).any (·.1) = false := by rfl) :
    GE X c wx (.Call (.Name x p) [e] [] pos) (mCallV g ma) := PE.imp (pe_callB hc hg hm hv (pa_cons ha pa_nil he) hn hdb he hpl) fun σ H Q t => call1_t σ H Q t
theorem ge_callTy1 {x : Str} {T : String} {e : Expr} {p pos : Pos} {g : D → Option D} {ma : M Bv} (hc : CallR X (.type T) (rV1 c g)) (hm : X.mg x = none) (ha : GB X c wx e ma) (hv : bootBuiltins x = some (.type T) := by decide +kernel)
    (hg : Gl X x := by rfl) (hn : x ≠ "__name__" := by decide) (hdb : (x == ("__debug__" : Str)) = false := by decide) (he : starEach [e] X.env = (false, eval e X.env) :: starEach [] X.env := by rfl) (hpl : (backTo pos (starEach [] X.env)).any (·.1) = false := by rfl) :
    GE X c wx (.Call (.Name x p) [e] [] pos) (mCallV g ma) := PE.imp (pe_callTy hc hg hm hv (pa_cons ha pa_nil he) hn hdb he hpl) fun σ H Q t => call1_t σ H Q t
def gLen : D → Option D
  | .str s => if s.length ≤ big then some (.int s.length) else none
  | .lst s => some (.int s.length)
  | .tup s => some (.int s.length)
  | _ => none
theorem cg_len (hK : X.K = c.K) : CallR X (.builtin "len") (rV1 c gLen) := by
  intro pins s σ H xs us Q I rs ⟨x, W, h, d, z, e, r, ax, hz, q⟩
  subst e
  cases d <;> first | (simp only [gLen] at hz; cases hz; done) | skip
  · simp only [gLen] at hz
    split at hz
    · rename_i a hl
      cases hz
      simp only [VAt, At] at ax
      subst ax
      exact call_len pins s σ H _ us Q I rs ⟨_, a.length, rfl, ⟨big_le (by simpa [Str.length] using hl), by simp [Str.length]⟩, q.int r⟩
    · cases hz
  · simp only [gLen, Option.some.injEq] at hz
    subst hz
    simp only [VAt, At] at ax
    obtain ⟨p, vs, rfl, hp, al⟩ := ax
    exact call_len pins s σ H _ us Q I rs ⟨_, _, rfl, .inr ⟨vs, by rw [hK]; exact r.sqT hp, al.length⟩, q.int r⟩
  · simp only [gLen, Option.some.injEq] at hz
    subst hz
    simp only [VAt] at ax
    obtain ⟨p, vs, rfl, hp, al⟩ := ax
    exact call_len pins s σ H _ us Q I rs ⟨_, _, rfl, .inl ⟨vs, .inl hp, al.length⟩, q.int r⟩
def gInt : D → Option D
  | .int i => some (.int i)
  | .bl b => some (.int (if b then 1 else 0))
  | .str s => if s.length ≤ 640 then match PySem.intText? ⟨s.toArray⟩ with | some n => some (.int n) | none => none else none
  | _ => none
theorem cg_int : CallR X (.type "int") (rV1 c gInt) := by
  intro pins s σ H xs us Q I rs ⟨x, W, h, d, z, e, r, ax, hz, q⟩
  subst e
  cases d <;> first | (simp only [gInt] at hz; cases hz; done) | skip
  · simp only [gInt, Option.some.injEq] at hz
    simp only [VAt, At] at ax
    subst ax hz
    exact call_int1 pins s σ H _ us Q I rs (.inr ⟨_, rfl, q.int r⟩)
  · simp only [gInt, Option.some.injEq] at hz
    simp only [VAt, At] at ax
    subst ax hz
    exact call_int1 pins s σ H _ us Q I rs (.inl ⟨_, rfl, q.int r⟩)
  · rename_i a
    simp only [gInt] at hz
    split at hz
    · rename_i hl
      simp only [VAt, At] at ax
      subst ax
      cases ei : PySem.intText? ⟨a.toArray⟩ with
      | none => rw [ei] at hz; cases hz
      | some n =>
        rw [ei] at hz
        cases hz
        exact call_int_str pins s σ H _ us Q I rs ⟨_, n, rfl, ei, by simpa [Str.length] using hl, q.int r⟩
    · cases hz
def gStr : D → Option D
  | .int i => if 0 ≤ i ∧ i.natAbs < 2 ^ 1900 then some (.str (TL.numL i.toNat)) else none
  | _ => none
theorem str_num {i : Int} (h : 0 ≤ i) : (Str.ofString (toString i)) = ⟨(TL.numL i.toNat).toArray⟩ := by
  have e : i = ((i.toNat : Nat) : Int) := by omega
  rw [← TL.tl_num, ← e, TL.mk_tl]
theorem cg_str : CallR X (.type "str") (rV1 c gStr) := by
  intro pins s σ H xs us Q I rs ⟨x, W, h, d, z, e, r, ax, hz, q⟩
  subst e
  cases d <;> first | (simp only [gStr] at hz; cases hz; done) | skip
  simp only [gStr] at hz
  split at hz
  · rename_i hi
    cases hz
    simp only [VAt, At] at ax
    subst ax
    refine call_str_int pins s σ H _ us Q I rs ⟨_, rfl, Nat.lt_of_lt_of_le (PySem.Flt.log2_lt_of (by decide) hi.2) (by decide), ?_⟩
    have := q.str r
    rw [← str_num hi.1] at this
    exact this
  · cases hz
end
end DL

namespace DL
open PySem L2 PySem.Spec PyProof.Rows

/-! ### statements -/
inductive SO where
  | nx (ρ : Env) (h : Cells) | bk (ρ : Env) (h : Cells) | ct (ρ : Env) (h : Cells) | rt (d : D) (h : Cells) | exc (x : Exc) (h : Cells) | stuck
abbrev MS := Env → Cells → SO
def SO.of {α : Type} (o : Out α) (f : α → Cells → SO) (_ : Hld f := .mk) : SO := match o with
  | .ok a h => f a h
  | .exc x h => .exc x h
  | .stuck => .stuck
def SO.nxt (o : SO) (f : Env → Cells → SO) (_ : Hld f := .mk) : SO := match o with
  | .nx ρ h => f ρ h
  | o => o
@[simp] theorem so_ok {α : Type} (a : α) (h : Cells) (f : α → Cells → SO) : SO.of (.ok a h) f = f a h := id rfl
@[simp] theorem so_exc {α : Type} (x : Exc) (h : Cells) (f : α → Cells → SO) : SO.of (.exc x h) f = .exc x h := id rfl
@[simp] theorem so_stuck {α : Type} (f : α → Cells → SO) : SO.of .stuck f = .stuck := id rfl
@[simp] theorem nxt_nx (ρ : Env) (h : Cells) (f : Env → Cells → SO) : (SO.nx ρ h).nxt f = f ρ h := id rfl
@[simp] theorem nxt_bk (ρ : Env) (h : Cells) (f : Env → Cells → SO) : (SO.bk ρ h).nxt f = .bk ρ h := id rfl
@[simp] theorem nxt_ct (ρ : Env) (h : Cells) (f : Env → Cells → SO) : (SO.ct ρ h).nxt f = .ct ρ h := id rfl
@[simp] theorem nxt_rt (d : D) (h : Cells) (f : Env → Cells → SO) : (SO.rt d h).nxt f = .rt d h := id rfl
@[simp] theorem nxt_exc (d : Exc) (h : Cells) (f : Env → Cells → SO) : (SO.exc d h).nxt f = .exc d h := id rfl
@[simp] theorem nxt_stuck (f : Env → Cells → SO) : SO.stuck.nxt f = .stuck := id rfl

/-- where the statements began -/
structure Bs where
  W : Wd
  H : Hp
  ex : List Addr
structure SR (c : Cc) (B : Bs) (W : Wd) (ρ : Env) (h : Cells) (σ : L2.St) (H : Hp) : Prop where
  x : Ext B.W B.H B.ex W H
  r : HRel c W h H
  l : Loc c.toTp W ρ σ H
  o : OwnIn ρ σ B.ex B.H
def SPost (c : Cc) (wx : WX) (B : Bs) (o : SO) (D : Ends) : Prop := match o with
  | .nx ρ h => ∀ W σ H, SR c B W ρ h σ H → D.nx σ H
  | .bk ρ h => ∀ W σ H, SR c B W ρ h σ H → D.bk σ H
  | .ct ρ h => ∀ W σ H, SR c B W ρ h σ H → D.ct σ H
  | .rt d h => ∀ v W H, Ext B.W B.H B.ex W H → HRel c W h H → At c.toTp W d v → D.rt v H
  | .exc x h => ∀ cls dd W σ H, Ext B.W B.H B.ex W H → HRel c W h H → XAt c W H x cls dd → wx cls dd σ H
  | .stuck => False
def tS (c : Cc) (wx : WX) (m : MS) : TS := fun D σ H => ∃ B W ρ h, SR c B W ρ h σ H ∧ SPost c wx B (m ρ h) D
def GS (X : Cx) (c : Cc) (wx : WX) (st : Stmt) (m : MS) : Prop := PS X st (tS c wx m)
def GSs (X : Cx) (c : Cc) (wx : WX) (st : List Stmt) (m : MS) : Prop := PSs X st (tS c wx m)

section
variable {c : Cc} {wx : WX} {B : Bs} {W W' : Wd} {ρ : Env} {h h' : Cells} {σ : L2.St} {H H' : Hp} {D : Ends} {α β : Type} {R : Wd → Hp → α → β → Prop}
theorem SR.ext (s : SR c B W ρ h σ H) (x : Ext W H [] W' H') (r : HRel c W' h' H') : SR c B W' ρ h' σ H' := ⟨s.x.trans0 x, r, s.l.ext x, s.o⟩
/-- an expression within a statement -/
theorem S_bind {m : M α} {f : α → Cells → SO} {Q : β → Hp → Prop} (s : SR c B W ρ h σ H) (p : SPost c wx B (SO.of (m ρ h) f) D)
    (k : ∀ d h' v W' H', Ext W H [] W' H' → SR c B W' ρ h' σ H' → R W' H' d v → SPost c wx B (f d h') D → Q v H') : tG c wx R m σ H Q := by
  refine ⟨W, ρ, h, s.r, s.l, ?_⟩
  cases e : m ρ h with
  | ok d h' =>
    rw [e] at p
    exact fun v W' H' x r a => k d h' v W' H' x (s.ext x r) a p
  | exc x h' =>
    rw [e] at p
    exact fun cls dd W' H' x r a => p cls dd W' σ H' (s.x.trans0 x) r a
  | stuck =>
    rw [e] at p
    exact p
end

def sSeq (a b : MS) : MS := fun ρ h => (a ρ h).nxt b
def sNil : MS := fun ρ h => .nx ρ h
def sIf (t : M Bool) (a b : MS) : MS := fun ρ h => SO.of (t ρ h) fun x h1 => if x then a ρ h1 else b ρ h1
def sRet (m : M D) : MS := fun ρ h => SO.of (m ρ h) fun d h1 => .rt d h1
def sRetN : MS := fun _ h => .rt .non h
def sExpr (m : M D) : MS := fun ρ h => SO.of (m ρ h) fun _ h1 => .nx ρ h1
def sPass : MS := fun ρ h => .nx ρ h
def sBreak : MS := fun ρ h => .bk ρ h
def sCont : MS := fun ρ h => .ct ρ h
def sStuck : MS := fun _ _ => .stuck
section
variable {X : Cx} {c : Cc} {wx : WX}
theorem gss_nil : GSs X c wx [] sNil := PSs.imp pss_nil fun D σ H ⟨B, W, ρ, h, s, p⟩ => p W σ H s
theorem gss_cons {st : Stmt} {rest : List Stmt} {a b : MS} (h1 : GS X c wx st a) (h2 : GSs X c wx rest b) : GSs X c wx (st :: rest) (sSeq a b) :=
  PSs.imp (pss_cons h1 h2) fun D σ H ⟨B, W, ρ, h, s, p⟩ => by
    refine ⟨B, W, ρ, h, s, ?_⟩
    have p : SPost c wx B ((a ρ h).nxt b) D := p
    cases e : a ρ h with
    | nx ρ' h' => rw [e] at p; exact fun W' σ' H' s' => ⟨B, W', ρ', h', s', p⟩
    | bk _ _ => rw [e] at p; exact p
    | ct _ _ => rw [e] at p; exact p
    | rt _ _ => rw [e] at p; exact p
    | exc _ _ => rw [e] at p; exact p
    | stuck => rw [e] at p; exact p
theorem gss_one {st : Stmt} {a : MS} (h1 : GS X c wx st a) : GSs X c wx [st] a := pss_one h1
theorem gs_pass {pos : Pos} : GS X c wx (.Pass pos) sPass := PS.imp ps_pass fun D σ H ⟨B, W, ρ, h, s, p⟩ => p W σ H s
theorem gs_break {pos : Pos} : GS X c wx (.Break pos) sBreak := PS.imp ps_break fun D σ H ⟨B, W, ρ, h, s, p⟩ => p W σ H s
theorem gs_continue {pos : Pos} : GS X c wx (.Continue pos) sCont := PS.imp ps_continue fun D σ H ⟨B, W, ρ, h, s, p⟩ => p W σ H s
theorem gs_expr {e : Expr} {pos : Pos} {m : M D} (he : GE X c wx e m) (hs : swapsWith e none pos.line X.env = pure false := by rfl) : GS X c wx (.Expr e pos) (sExpr m) :=
  PS.imp (ps_expr he hs) fun D σ H ⟨B, W, ρ, h, s, p⟩ => S_bind s p fun d h1 v W1 H1 x1 s1 a1 p1 => p1 W1 σ H1 s1
theorem gs_ret {e : Expr} {pos : Pos} {m : M D} (he : GE X c wx e m) : GS X c wx (.Return (some e) pos) (sRet m) :=
  PS.imp (ps_ret he) fun D σ H ⟨B, W, ρ, h, s, p⟩ => S_bind s p fun d h1 v W1 H1 x1 s1 a1 p1 => p1 v W1 H1 s1.x s1.r a1
theorem gs_retN {pos : Pos} : GS X c wx (.Return none pos) sRetN := PS.imp ps_retN fun D σ H ⟨B, W, ρ, h, s, p⟩ => p _ W H s.x s.r (by simp only [At])
theorem gs_if {t : Expr} {a b : List Stmt} {pos : Pos} {mt : M Bool} {ma mb : MS} (ht : GT X c wx t mt) (ha : GSs X c wx a ma) (hb : GSs X c wx b mb) : GS X c wx (.If t a b pos) (sIf mt ma mb) :=
  PS.imp (ps_if ht ha hb) fun D σ H ⟨B, W, ρ, h, s, p⟩ => S_bind s p fun d h1 v W1 H1 x1 s1 a1 p1 => by
    subst a1
    cases d with
    | true => rw [if_pos rfl]; exact ⟨B, W1, ρ, h1, s1, p1⟩
    | false => rw [if_neg Bool.false_ne_true]; exact ⟨B, W1, ρ, h1, s1, p1⟩
/-- a statement that is not reached -/
theorem gs_never {st : Stmt} : GS X c wx st sStuck := PS.imp ps_never fun D σ H ⟨B, W, ρ, h, s, p⟩ => p
end

/-! ### stores -/
section
variable {c : Cc} {B : Bs} {W : Wd} {ρ : Env} {h : Cells} {σ : L2.St} {H : Hp}
theorem set_get {α : Type} {l : List α} {i j : Nat} {a b : α} (e : (l.set i a)[j]? = some b) : (j = i ∧ b = a ∧ i < l.length) ∨ (j ≠ i ∧ l[j]? = some b) := by
  by_cases hj : j = i
  · subst hj
    have hl : j < l.length := by
      have := (List.getElem?_eq_some_iff.mp e).1
      rw [List.length_set] at this
      exact this
    rw [List.getElem?_set_self hl] at e
    exact .inl ⟨rfl, (Option.some.inj e).symm, hl⟩
  · rw [List.getElem?_set_ne (Ne.symm hj)] at e
    exact .inr ⟨hj, e⟩
theorem SR.set {i : Nat} {d : D} {v : V} (s : SR c B W ρ h σ H) (a : At c.toTp W d v) : SR c B W (ρ.set i (some (.val d))) h (σ.set i (some v)) H where
  x := s.x
  r := s.r
  l := ⟨by rw [List.length_set, List.length_set]; exact s.l.len, fun j sv e => by
      rcases set_get e with ⟨rfl, e2, hl⟩ | ⟨hj, e⟩
      · cases e2
        exact ⟨v, List.getElem?_set_self (by rw [← s.l.len]; exact hl), a⟩
      · obtain ⟨w, e1, e2⟩ := s.l.at_ j sv e
        exact ⟨w, by rw [List.getElem?_set_ne (Ne.symm hj)]; exact e1, e2⟩,
    fun j k m m' p e1 e2 e3 e4 => by
      rcases set_get e1 with ⟨_, z, _⟩ | ⟨hj, e1⟩
      · cases z
      · rcases set_get e2 with ⟨_, z, _⟩ | ⟨hk, e2⟩
        · cases z
        · rw [List.getElem?_set_ne (Ne.symm hj)] at e3
          rw [List.getElem?_set_ne (Ne.symm hk)] at e4
          exact s.l.apart j k m m' p e1 e2 e3 e4⟩
  o := fun j m p e1 e2 => by
    rcases set_get e1 with ⟨_, z, _⟩ | ⟨hj, e1⟩
    · cases z
    · rw [List.getElem?_set_ne (Ne.symm hj)] at e2
      exact s.o j m p e1 e2
/-- a new object of one's own goes to a slot -/
theorem SR.own {i : Nat} {m : MO} {p : Addr} (s : SR c B W ρ h σ H) (a : MAt c.toTp W H p m) (g : W.G p = none) (n : p ∉ W.ι) (n0 : p ∈ B.ex ∨ nt B.H p = none)
    (ap : ∀ (j : Nat) m', j ≠ i → ρ[j]? = some (some (.own m')) → σ[j]? ≠ some (some (.ref p))) : SR c B W (ρ.set i (some (.own m))) h (σ.set i (some (.ref p))) H where
  x := s.x
  r := s.r
  l := ⟨by rw [List.length_set, List.length_set]; exact s.l.len, fun j sv e => by
      rcases set_get e with ⟨rfl, e2, hl⟩ | ⟨hj, e⟩
      · cases e2
        exact ⟨.ref p, List.getElem?_set_self (by rw [← s.l.len]; exact hl), p, rfl, a, g, n⟩
      · obtain ⟨w, e1, e2⟩ := s.l.at_ j sv e
        exact ⟨w, by rw [List.getElem?_set_ne (Ne.symm hj)]; exact e1, e2⟩,
    fun j k m1 m2 q e1 e2 e3 e4 => by
      rcases set_get e1 with ⟨hj, z, hl⟩ | ⟨hj, f1⟩
      · rcases set_get e2 with ⟨hk, z2, _⟩ | ⟨hk, f2⟩
        · rw [hj, hk]
        · rw [hj, List.getElem?_set_self (by rw [← s.l.len]; exact hl)] at e3
          cases e3
          rw [List.getElem?_set_ne (Ne.symm hk)] at e4
          exact absurd e4 (ap k m2 hk f2)
      · rcases set_get e2 with ⟨hk, z2, hl⟩ | ⟨hk, f2⟩
        · rw [hk, List.getElem?_set_self (by rw [← s.l.len]; exact hl)] at e4
          cases e4
          rw [List.getElem?_set_ne (Ne.symm hj)] at e3
          exact absurd e3 (ap j m1 hj f1)
        · rw [List.getElem?_set_ne (Ne.symm hj)] at e3
          rw [List.getElem?_set_ne (Ne.symm hk)] at e4
          exact s.l.apart j k m1 m2 q f1 f2 e3 e4⟩
  o := fun j m1 q e1 e2 => by
    rcases set_get e1 with ⟨rfl, z, hl⟩ | ⟨hj, e1⟩
    · rw [List.getElem?_set_self (by rw [← s.l.len]; exact hl)] at e2
      cases e2
      exact n0
    · rw [List.getElem?_set_ne (Ne.symm hj)] at e2
      exact s.o j m1 q e1 e2
/-- a slot forgotten -/
theorem SR.wipe1 {i : Nat} (s : SR c B W ρ h σ H) : SR c B W (ρ.set i none) h (σ.set i none) H where
  x := s.x
  r := s.r
  l := ⟨by rw [List.length_set, List.length_set]; exact s.l.len, fun j sv e => by
      rcases set_get e with ⟨rfl, e2, hl⟩ | ⟨hj, e⟩
      · cases e2
      · obtain ⟨w, e1, e2⟩ := s.l.at_ j sv e
        exact ⟨w, by rw [List.getElem?_set_ne (Ne.symm hj)]; exact e1, e2⟩,
    fun j k m m' p e1 e2 e3 e4 => by
      rcases set_get e1 with ⟨_, z, _⟩ | ⟨hj, e1⟩
      · cases z
      · rcases set_get e2 with ⟨_, z, _⟩ | ⟨hk, e2⟩
        · cases z
        · rw [List.getElem?_set_ne (Ne.symm hj)] at e3
          rw [List.getElem?_set_ne (Ne.symm hk)] at e4
          exact s.l.apart j k m m' p e1 e2 e3 e4⟩
  o := fun j m p e1 e2 => by
    rcases set_get e1 with ⟨_, z, _⟩ | ⟨hj, e1⟩
    · cases z
    · rw [List.getElem?_set_ne (Ne.symm hj)] at e2
      exact s.o j m p e1 e2
/-- an object that may change, changed: neither data nor a table -/
theorem mut_rel {p : Addr} {o u : HO} (r : HRel c W h H) (hp : H p = some u) (hu : match u with | .lst _ => True | .dK _ => True | .dT _ => True | .ins _ _ _ => True | _ => False) (g : W.G p = none)
    (hc : ∀ (j : Nat) m, h[j]? = some m → W.ι[j]? = some p → MAt c.toTp W (upd H p o) p m) : HRel c W h (upd H p o) where
  sub := fun a q e => by
    have z : a ≠ p := fun z => by rw [z, g] at e; cases e
    rw [upd_ne z]; exact r.sub a q e
  dat := r.dat
  len := r.len
  cel := fun j m q h1 h2 => by
    by_cases z : q = p
    · subst z; exact ⟨g, hc j m h1 h2⟩
    · obtain ⟨g1, a⟩ := r.cel j m q h1 h2
      exact ⟨g1, a.mono (.refl _) fun w e _ => by rw [upd_ne z]; exact e⟩
  nd := r.nd
  tab := fun q hq => by
    obtain ⟨ps, h1, h2, h3⟩ := r.tab q hq
    refine ⟨ps, ?_, h2, fun pos cv hcv => ?_⟩
    · rw [upd_ne (fun z => by rw [z, hp] at h1; cases h1; exact hu)]; exact h1
    · obtain ⟨ca, e1, e2⟩ := h3 pos cv hcv
      refine ⟨ca, e1, ?_⟩
      rw [upd_ne (fun z => by rw [z, hp] at e2; unfold LamX.CodeO at e2; cases e2; exact hu)]
      exact e2
theorem mat_upd {t : Tp} {W : Wd} {H : Hp} {p : Addr} {o : HO} {m : MO} (a : MAt t W (upd H p o) p m) : ∀ ps, o ≠ .tbl ps := by
  obtain ⟨o', e1, e2⟩ := a.some
  rw [upd_same] at e1
  cases e1
  exact e2
theorem mut_ext {p : Addr} {o u : HO} (x : Ext B.W B.H B.ex W H) (hp : H p = some u) (n0 : p ∈ B.ex ∨ nt B.H p = none ∨ p ∈ B.W.ι) (ho : ∀ ps, o ≠ .tbl ps) : Ext B.W B.H B.ex W (upd H p o) where
  le := x.le
  ng := x.ng
  ni := x.ni
  fr := fun a q e1 e2 e3 e4 => by
    have z : a ≠ p := fun z => by
      rw [z] at e1 e2 e3
      rcases n0 with z | z | z
      · exact e3 z
      · exact nt_yes e1 e4 z
      · exact e2 z
    rw [upd_ne z]; exact x.fr a q e1 e2 e3 e4
  dom := fun a e => by
    by_cases z : a = p
    · exact nt_yes (by rw [z, upd_same]) ho
    · have := x.dom a e
      unfold nt at this ⊢
      rw [upd_ne z]; exact this
/-- an object of a slot's own is changed -/
theorem SR.mutO {i : Nat} {m m' : MO} {p : Addr} {o u : HO} (s : SR c B W ρ h σ H) (hi : ρ[i]? = some (some (.own m))) (hs : σ[i]? = some (some (.ref p))) (hp : H p = some u)
    (hu : match u with | .lst _ => True | .dK _ => True | .dT _ => True | .ins _ _ _ => True | _ => False) (a : MAt c.toTp W (upd H p o) p m') : SR c B W (ρ.set i (some (.own m'))) h σ (upd H p o) := by
  obtain ⟨v, e1, q, e2, _, g, n⟩ := s.l.at_ i _ hi
  rw [hs] at e1
  cases e1
  cases e2
  have n0 := s.o i m p hi hs
  have s' : SR c B W (ρ.set i none) h (σ.set i none) H := s.wipe1
  have ne : ∀ (j : Nat) m2, j ≠ i → ρ[j]? = some (some (.own m2)) → σ[j]? ≠ some (some (.ref p)) := fun j m2 hj e e3 => hj (s.l.apart j i m2 m p e hi e3 hs)
  have s2 : SR c B W (ρ.set i none) h (σ.set i none) (upd H p o) := by
    refine ⟨mut_ext s'.x hp (n0.elim .inl fun z => .inr (.inl z)) (mat_upd a), mut_rel s'.r hp hu g fun j m2 h1 h2 => absurd (List.mem_of_getElem? h2) n, ⟨s'.l.len, fun j sv e => ?_, s'.l.apart⟩, s'.o⟩
    obtain ⟨w, e3, e4⟩ := s'.l.at_ j sv e
    refine ⟨w, e3, ?_⟩
    cases sv with
    | val d => exact e4
    | own m2 =>
      obtain ⟨q2, e5, e6, e7, e8⟩ := e4
      rcases set_get e with ⟨rfl, z, _⟩ | ⟨hj, e⟩
      · cases z
      · rw [List.getElem?_set_ne (Ne.symm hj)] at e3
        have z : q2 ≠ p := fun z => ne j m2 hj e (by rw [e3, e5, z])
        exact ⟨q2, e5, e6.mono (.refl _) fun w e _ => by rw [upd_ne z]; exact e, e7, e8⟩
  have s3 := s2.own (i := i) (m := m') (p := p) a g n n0 fun j m2 hj e => by
    rw [List.getElem?_set_ne (Ne.symm hj)] at e ⊢
    exact ne j m2 hj e
  rw [List.set_set, List.set_set] at s3
  have e : σ.set i (some (V.ref p)) = σ := by
    apply List.ext_getElem?
    intro j
    by_cases hj : j = i
    · subst hj
      rw [hs, List.getElem?_set_self (List.getElem?_eq_some_iff.mp hs).1]
    · rw [List.getElem?_set_ne (Ne.symm hj)]
  rw [e] at s3
  exact s3
end

def sSet (i : Nat) (m : M D) : MS := fun ρ h => SO.of (m ρ h) fun d h1 => .nx (ρ.set i (some (.val d))) h1
/-- a list of its own for a name -/
def sNewL (i : Nat) (m : M (List D)) : MS := fun ρ h => SO.of (m ρ h) fun ds h1 => if ds.length ≤ big then .nx (ρ.set i (some (.own (.lst ds)))) h1 else .stuck
def sApp (i : Nat) (m : M D) : MS := fun ρ h => match ρ[i]? with
  | some (some (.own (.lst ds))) => SO.of (m ρ h) fun d h1 => if ds.length < big then .nx (ρ.set i (some (.own (.lst (ds ++ [d]))))) h1 else .stuck
  | _ => .stuck
section
variable {X : Cx} {c : Cc} {wx : WX}
theorem gs_set {i : Nat} {x : Str} {e : Expr} {pos pos' : Pos} {m : M D} (he : GE X c wx e m) (hN : X.N.Nodup) (hi : X.N[i]? = some x := by rfl) (hx : L2.Loc X.env.scope x := by first | exact Or.inl rfl | exact Or.inr rfl)
    (hs : swapsWith e (some (.Name x pos')) pos.line X.env = pure false := by rfl) (hf : X.fn x = true ∨ X.env.scope.names.lookup x = some .local := by first | exact .inl rfl | exact .inr rfl) : GS X c wx (.Assign [.Name x pos'] e pos) (sSet i m) :=
  PS.imp (ps_set hN hi hx he hs hf) fun D σ H ⟨B, W, ρ, h, s, p⟩ => S_bind s p fun d h1 v W1 H1 x1 s1 a1 p1 => p1 W1 _ H1 (s1.set a1)
theorem new_own {c : Cc} {B : Bs} {W : Wd} {ρ : Env} {h : Cells} {σ : L2.St} {H : Hp} {i : Nat} {p : Addr} {ds : List D} {vs : List V} (s : SR c B W ρ h σ H) (hp : H p = none) (a : AtL c.toTp W ds vs) :
    SR c B W (ρ.set i (some (.own (.lst ds)))) h (σ.set i (some (.ref p))) (upd H p (.lst vs)) := by
  have s1 := s.ext (ext_free (o := .lst vs) s.r hp) (s.r.free hp)
  refine s1.own ⟨vs, upd_same, a⟩ (s.r.gnone hp) (s.r.nι hp) (.inr ?_) fun j m' _ e e2 => ?_
  · by_cases e : nt B.H p = none
    · exact e
    · exact absurd (nt_no hp) (s.x.dom p e)
  · obtain ⟨v, e3, q, e4, e5, _⟩ := s.l.at_ j _ e
    rw [e2] at e3
    cases e3
    cases e4
    obtain ⟨o, e6, _⟩ := e5.some
    rw [hp] at e6
    cases e6
theorem gs_newL {i : Nat} {x : Str} {es : List Expr} {pos pos' pos2 : Pos} {m : M (List D)} (he : GA X c wx es m) (hN : X.N.Nodup) (hi : X.N[i]? = some x := by rfl) (hx : L2.Loc X.env.scope x := by first | exact Or.inl rfl | exact Or.inr rfl)
    (hs : swapsWith (.List es pos2) (some (.Name x pos')) pos.line X.env = pure false := by rfl) (hf : X.fn x = true ∨ X.env.scope.names.lookup x = some .local := by first | exact .inl rfl | exact .inr rfl) : GS X c wx (.Assign [.Name x pos'] (.List es pos2) pos) (sNewL i m) :=
  PS.imp (ps_set hN hi hx (pe_lst he) hs hf) fun D σ H ⟨B, W, ρ, h, s, p⟩ => S_bind s p fun d h1 v W1 H1 x1 s1 a1 p1 => by
    by_cases hl : d.length ≤ big
    · rw [if_pos hl] at p1
      exact ⟨big_le (by rw [← AtL.length a1]; exact hl), fun q hq => p1 W1 _ _ (new_own s1 hq a1)⟩
    · rw [if_neg hl] at p1
      exact False.elim p1
theorem gs_app {i : Nat} {x : Str} {e : Expr} {pos px pa pc : Pos} {m : M D} (hK : X.K = c.K) (he : GE X c wx e m) (hN : X.N[i]? = some x := by rfl) (hv : Vis X.env.scope x := by first | exact Or.inl rfl | exact Or.inr (Or.inl rfl) | exact Or.inr (Or.inr rfl))
    (hd : (x == ("__debug__" : Str)) = false := by decide) (hcd : (x == ("__classdict__" : Str)) = false := by decide)
    (hbase : attributeBase (.Name x px) "append" X.env (eval (.Name x px) X.env) = eval (.Name x px) X.env := by rfl)
    (hfew : ((backTo pc (starEach [e] X.env)).all (fun x => !x.1) && (backToKw pc (keywordEach [] X.env)).all (fun x => x.1.isSome) && decide (([e] : List Expr).length + ([] : List Keyword).length + (if ([] : List Keyword).isEmpty then 0 else 1) < 30)) = true := by rfl)
    (hline : (pa.endLine == pc.line) = true := by rfl) (hs : starEach [e] X.env = (false, eval e X.env) :: starEach [] X.env := by rfl) (hplain : (backTo pc (starEach [] X.env)).any (·.1) = false := by rfl)
    (hs2 : swapsWith (.Call (.Attribute (.Name x px) "append" pa) [e] [] pc) none pos.line X.env = pure false := by rfl) : GS X c wx (.Expr (.Call (.Attribute (.Name x px) "append" pa) [e] [] pc) pos) (sApp i m) :=
  PS.imp (ps_expr (hs := hs2) (pe_bm F.plainAttrs_list F.slot_list_append F.type_list_append mt_append (pe_var hN hv hd hcd) (pa_cons he pa_nil hs) hbase hfew hline hs hplain)) fun D σ H ⟨B, W, ρ, h, s, p⟩ => by
    unfold sApp at p
    cases e1 : ρ[i]? with
    | none => rw [e1] at p; exact False.elim p
    | some o =>
      cases o with
      | none => rw [e1] at p; exact False.elim p
      | some sv =>
        cases sv with
        | val d => rw [e1] at p; exact False.elim p
        | own mo =>
          cases mo with
          | dic _ _ => rw [e1] at p; exact False.elim p
          | ins _ _ => rw [e1] at p; exact False.elim p
          | lst ds =>
            rw [e1] at p
            obtain ⟨v, e2, q, e3, e4, _⟩ := s.l.at_ i _ e1
            subst e3
            obtain ⟨vs, e5, _⟩ := id e4
            refine ⟨.ref q, e2, .inl ⟨rfl, vs, .inl (.inl e5)⟩, ?_⟩
            refine S_bind s p fun d h1 v W1 H1 x1 s1 a1 p1 => ?_
            obtain ⟨w, e6, q2, e7, e8, e9, e10⟩ := s1.l.at_ i _ e1
            rw [e2] at e6
            cases e6
            cases e7
            obtain ⟨vs1, e11, al⟩ := e8
            by_cases hl : ds.length < big
            · rw [if_pos hl] at p1
              refine ⟨q, vs1, v, rfl, rfl, e11, ?_, ?_⟩
              · rw [← al.length, sizeLine_eq]; exact hl
              · exact p1 W1 σ _ (s1.mutO (m' := .lst (ds ++ [d])) e1 e2 e11 trivial ⟨_, upd_same, al.append (AtL.cons a1 AtL.nil)⟩)
            · rw [if_neg hl] at p1
              exact False.elim p1
end
end DL

namespace DL
open PySem L2 PySem.Spec PyProof.Rows

/-! ### a name's own object becomes data -/
def frzE (ρ : Env) (i : Nat) : Env := match ρ[i]? with
  | some (some (.own (.lst ds))) => ρ.set i (some (.val (.lst ds)))
  | some (some (.own (.dic ks vs))) => ρ.set i (some (.val (.dic ks vs)))
  | _ => ρ
def sFrz (i : Nat) (m : MS) : MS := fun ρ h => m (frzE ρ i) h
section
variable {c : Cc} {B : Bs} {W : Wd} {ρ : Env} {h : Cells} {σ : L2.St} {H : Hp}
theorem frz_rel {p : Addr} {o : HO} (r : HRel c W h H) (hp : H p = some o) (hd : Dat o) (g : W.G p = none) (n : p ∉ W.ι) : HRel c (W.put p o) h H where
  sub := fun a u e => by
    have e' : upd W.G p o a = some u := e
    by_cases z : a = p
    · subst z; rw [upd_same] at e'; cases e'; exact .inl hp
    · rw [upd_ne z] at e'; exact r.sub a u e'
  dat := fun a u e => by
    have e' : upd W.G p o a = some u := e
    by_cases z : a = p
    · subst z; rw [upd_same] at e'; cases e'; exact hd
    · rw [upd_ne z] at e'; exact r.dat a u e'
  len := r.len
  cel := fun j m q h1 h2 => by
    obtain ⟨g1, a⟩ := r.cel j m q h1 h2
    have z : q ≠ p := fun z => n (by rw [← z]; exact List.mem_of_getElem? h2)
    exact ⟨by show upd W.G p o q = none; rw [upd_ne z]; exact g1, a.mono (put_le g) fun w e _ => e⟩
  nd := r.nd
  tab := r.tab
theorem frz_ext {p : Addr} {o : HO} (x : Ext B.W B.H B.ex W H) (hp : H p = some o) (g : W.G p = none) (n0 : p ∈ B.ex ∨ nt B.H p = none) : Ext B.W B.H B.ex (W.put p o) H where
  le := x.le.trans (put_le g)
  ng := fun a h1 h2 h3 => by
    have z : a ≠ p := fun z => by
      rw [z] at h1 h2
      exact n0.elim h2 h1
    show upd W.G p o a = none
    rw [upd_ne z]; exact x.ng a h1 h2 h3
  ni := x.ni
  fr := x.fr
  dom := x.dom
theorem SR.frz {i : Nat} {p : Addr} {o : HO} {m : MO} {d : D} (s : SR c B W ρ h σ H) (hi : ρ[i]? = some (some (.own m))) (hs : σ[i]? = some (some (.ref p))) (hp : H p = some o) (hd : Dat o) (a : At c.toTp (W.put p o) d (.ref p)) :
    SR c B (W.put p o) (ρ.set i (some (.val d))) h σ H := by
  obtain ⟨v, e1, q, e2, _, g, n⟩ := s.l.at_ i _ hi
  rw [hs] at e1
  cases e1
  cases e2
  have le : W.le (W.put p o) := put_le g
  refine ⟨frz_ext s.x hp g (s.o i m p hi hs), frz_rel s.r hp hd g n, ⟨by rw [List.length_set]; exact s.l.len, fun j sv e => ?_, fun j k m1 m2 q e1 e2 e3 e4 => ?_⟩, fun j m1 q e1 e2 => ?_⟩
  · rcases set_get e with ⟨rfl, e2, hl⟩ | ⟨hj, f⟩
    · cases e2
      exact ⟨.ref p, hs, a⟩
    · obtain ⟨w, e3, e4⟩ := s.l.at_ j sv f
      refine ⟨w, e3, ?_⟩
      cases sv with
      | val d => exact At.mono le e4
      | own m2 =>
        obtain ⟨q2, e5, e6, e7, e8⟩ := e4
        have z : q2 ≠ p := fun z => hj (s.l.apart j i m2 m p f hi (by rw [e3, e5, z]) hs)
        exact ⟨q2, e5, e6.mono le fun w e _ => e, by show upd W.G p o q2 = none; rw [upd_ne z]; exact e7, e8⟩
  · rcases set_get e1 with ⟨_, z, _⟩ | ⟨hj, f1⟩
    · cases z
    · rcases set_get e2 with ⟨_, z, _⟩ | ⟨hk, f2⟩
      · cases z
      · exact s.l.apart j k m1 m2 q f1 f2 e3 e4
  · rcases set_get e1 with ⟨_, z, _⟩ | ⟨hj, f1⟩
    · cases z
    · exact s.o j m1 q f1 e2
theorem SR.frzE (i : Nat) (s : SR c B W ρ h σ H) : ∃ W', SR c B W' (DL.frzE ρ i) h σ H := by
  unfold DL.frzE
  cases e : ρ[i]? with
  | none => exact ⟨W, s⟩
  | some o =>
    cases o with
    | none => exact ⟨W, s⟩
    | some sv =>
      cases sv with
      | val d => exact ⟨W, s⟩
      | own m =>
        cases m with
        | ins _ _ => exact ⟨W, s⟩
        | lst ds =>
          obtain ⟨v, e1, p, e2, ⟨vs, e3, e4⟩, g, n⟩ := s.l.at_ i _ e
          subst e2
          exact ⟨_, s.frz e e1 e3 trivial (by simp only [At]; exact ⟨p, vs, rfl, upd_same, AtL.mono (put_le g) e4⟩)⟩
        | dic ks ds =>
          obtain ⟨v, e1, p, e2, a, g, n⟩ := s.l.at_ i _ e
          subst e2
          rcases a with ⟨kvs, e3, e4, e5⟩ | ⟨kvs, e3, e4, e5⟩
          · exact ⟨_, s.frz e e1 e3 trivial (by simp only [At]; exact ⟨p, rfl, .inl ⟨kvs, upd_same, e4, AtL.mono (put_le g) e5⟩⟩)⟩
          · exact ⟨_, s.frz e e1 e3 trivial (by simp only [At]; exact ⟨p, rfl, .inr ⟨kvs, upd_same, e4, AtL.mono (put_le g) e5⟩⟩)⟩
end
section
variable {X : Cx} {c : Cc} {wx : WX}
theorem gss_frz (i : Nat) {st : List Stmt} {m : MS} (h : GSs X c wx st m) : GSs X c wx st (sFrz i m) := PSs.imp h fun D σ H ⟨B, W, ρ, h, s, p⟩ => by
  obtain ⟨W', s'⟩ := s.frzE i
  exact ⟨B, W', _, h, s', p⟩
theorem gs_frz (i : Nat) {st : Stmt} {m : MS} (h : GS X c wx st m) : GS X c wx st (sFrz i m) := PS.imp h fun D σ H ⟨B, W, ρ, h, s, p⟩ => by
  obtain ⟨W', s'⟩ := s.frzE i
  exact ⟨B, W', _, h, s', p⟩
end

/-! ### targets -/
abbrev Tgt := D → Env → Option Env
abbrev Tgts := List D → Env → Option Env
def tgN (i : Nat) : Tgt := fun d ρ => some (ρ.set i (some (.val d)))
def tgNil : Tgts := fun ds ρ => match ds with | [] => some ρ | _ => none
def tgCons (t : Tgt) (u : Tgts) : Tgts := fun ds ρ => match ds with | [] => none | d :: r => (t d ρ).bind fun ρ' => u r ρ'
def tgT (n : Nat) (u : Tgts) : Tgt := fun d ρ => match d with | .tup ds => if ds.length = n then u ds ρ else none | _ => none
/-- but for the slots vs -/
def Off (vs : List Nat) (σ σ' : L2.St) : Prop := σ'.length = σ.length ∧ ∀ i, i ∉ vs → σ'[i]? = σ[i]?
def gD (c : Cc) (vs : List Nat) (t : Tgt) : TG := fun x σ H Q => ∃ B W ρ h d ρ', SR c B W ρ h σ H ∧ At c.toTp W d x ∧ t d ρ = some ρ' ∧ ∀ σ', SR c B W ρ' h σ' H → Off vs σ σ' → Q σ' H
def gDs (c : Cc) (vs : List Nat) (t : Tgts) : TGs := fun xs σ H Q => ∃ B W ρ h ds ρ', SR c B W ρ h σ H ∧ AtL c.toTp W ds xs ∧ t ds ρ = some ρ' ∧ ∀ σ', SR c B W ρ' h σ' H → Off vs σ σ' → Q σ' H
def GG (X : Cx) (c : Cc) (tg : Expr) (vs : List Nat) (t : Tgt) : Prop := PG X tg (gD c vs t)
def GGs (X : Cx) (c : Cc) (tg : List Expr) (vs : List Nat) (t : Tgts) : Prop := PGs X tg (gDs c vs t)
theorem PG.imp {X : Cx} {e : Expr} {t t' : TG} (h : PG X e t) (f : ∀ x σ H Q, t' x σ H Q → t x σ H Q) : PG X e t' := ⟨fun p s σ H v u Q I r q => h.run p s σ H v u Q I r (f v σ H Q q)⟩
theorem PGs.imp {X : Cx} {e : List Expr} {t t' : TGs} (h : PGs X e t) (f : ∀ x σ H Q, t' x σ H Q → t x σ H Q) : PGs X e t' := ⟨fun p s σ H v u Q I r q => h.run p s σ H v u Q I r (f v σ H Q q)⟩
section
variable {X : Cx} {c : Cc} {wx : WX}
theorem gg_name {i : Nat} {x : Str} {pos : Pos} (hN : X.N.Nodup) (hi : X.N[i]? = some x := by rfl) (hx : L2.Loc X.env.scope x := by first | exact Or.inl rfl | exact Or.inr rfl)
    (hf : X.fn x = true ∨ X.env.scope.names.lookup x = some .local := by first | exact .inl rfl | exact .inr rfl) : GG X c (.Name x pos) [i] (tgN i) :=
  PG.imp (pg_name hN hi hx hf) fun x σ H Q ⟨B, W, ρ, h, d, ρ', s, a, e, k⟩ => by
    cases e
    exact k _ (s.set a) ⟨by rw [List.length_set], fun j hj => List.getElem?_set_ne fun z => hj (by rw [z]; exact List.mem_singleton.mpr rfl)⟩
theorem ggs_nil : GGs X c [] [] tgNil := PGs.imp pgs_nil fun xs σ H Q ⟨B, W, ρ, h, ds, ρ', s, a, e, k⟩ => by
  cases ds with
  | cons _ _ => cases e
  | nil =>
    cases e
    simp only [AtL] at a
    exact ⟨a, k _ s ⟨rfl, fun _ _ => rfl⟩⟩
theorem ggs_cons {e : Expr} {es : List Expr} {t : Tgt} {u : Tgts} {vs us : List Nat} (h1 : GG X c e vs t) (h2 : GGs X c es us u) (hs : (assignEach (e :: es) X.env).map (·.2) = assign e X.env :: (assignEach es X.env).map (·.2) := by rfl) : GGs X c (e :: es) (vs ++ us) (tgCons t u) :=
  PGs.imp (pgs_cons h1 h2 hs) fun xs σ H Q ⟨B, W, ρ, h, ds, ρ', s, a, e, k⟩ => by
    cases ds with
    | nil => cases e
    | cons d r =>
      obtain ⟨v, vs, rfl, a1, a2⟩ := a.uncons
      obtain ⟨ρ1, e1, e2⟩ := opt_bind e
      exact ⟨v, vs, rfl, B, W, ρ, h, d, ρ1, s, a1, e1, fun σ1 s1 o1 => ⟨B, W, ρ1, h, r, ρ', s1, a2, e2, fun σ2 s2 o2 => k σ2 s2 ⟨o2.1.trans o1.1, fun i hi => (o2.2 i fun z => hi (List.mem_append_right _ z)).trans (o1.2 i fun z => hi (List.mem_append_left _ z))⟩⟩⟩
theorem gg_tup {es : List Expr} {k : Nat} {pos : Pos} {n : Nat} {u : Tgts} {vs : List Nat} (hK : X.K = c.K) (hc : X.calm = true) (h : GGs X c es vs u) (hn : (assignEach es X.env).length = n := by rfl) (hst : (assignEach es X.env).findIdx? (·.1) = none := by rfl) :
    GG X c (.Tuple es k pos) vs (tgT n u) := PG.imp (pg_tup hc h hn hst) fun x σ H Q ⟨B, W, ρ, h, d, ρ', s, a, e, k⟩ => by
  cases d <;> first | (simp only [tgT] at e; cases e; done) | skip
  simp only [tgT] at e
  split at e
  · rename_i hl
    simp only [At] at a
    obtain ⟨p, vs, rfl, hp, al⟩ := a
    exact ⟨p, vs, rfl, by rw [hK]; exact s.r.sqT hp, by rw [← al.length]; exact hl, B, W, ρ, h, _, ρ', s, al, e, k⟩
  · cases e
/-- target = value, any target -/
def sAsg (t : Tgt) (m : M D) : MS := fun ρ h => SO.of (m ρ h) fun d h1 => match t d ρ with | some ρ' => .nx ρ' h1 | none => .stuck
theorem gs_asg {tg e : Expr} {pos : Pos} {t : Tgt} {vs : List Nat} {m : M D} (he : GE X c wx e m) (hg : GG X c tg vs t) (hs : swapsWithSole [tg] e pos.line X.env = pure false := by rfl) (hw : swappedStores [tg] e X.env = pure none := by rfl)
    (h1 : (assignEach [tg] X.env).map (·.2) = [assign tg X.env] := by rfl) : GS X c wx (.Assign [tg] e pos) (sAsg t m) :=
  PS.imp (ps_asg he hg hs hw h1) fun D σ H ⟨B, W, ρ, h, s, p⟩ => S_bind s p fun d h1 v W1 H1 x1 s1 a1 p1 => by
    cases e : t d ρ with
    | none => rw [e] at p1; exact False.elim p1
    | some ρ' => rw [e] at p1; exact ⟨B, W1, ρ, h1, d, ρ', s1, a1, e, fun σ' s' _ => p1 W1 σ' H1 s'⟩

/-! ### a, b = x, y: each a value, or a list of its own -/
def sPar2 (i j : Nat) (ma mb : M D) : MS := fun ρ h => SO.of (ma ρ h) fun x h1 => SO.of (mb ρ h1) fun y h2 => .nx ((ρ.set i (some (.val x))).set j (some (.val y))) h2
/-- the second one a list of its own -/
def sPar2L (i j : Nat) (ma : M D) (mb : M (List D)) : MS := fun ρ h => SO.of (ma ρ h) fun x h1 => SO.of (mb ρ h1) fun y h2 => if y.length ≤ big then .nx ((ρ.set i (some (.val x))).set j (some (.own (.lst y)))) h2 else .stuck
def sPar3 (i j k : Nat) (ma mb mc : M D) : MS := fun ρ h => SO.of (ma ρ h) fun x h1 => SO.of (mb ρ h1) fun y h2 => SO.of (mc ρ h2) fun z h3 => .nx (((ρ.set i (some (.val x))).set j (some (.val y))).set k (some (.val z))) h3
theorem gs_par2 {i j : Nat} {x y : Str} {a b : Expr} {px py pt pos : Pos} {kt k2 pt2} {ma mb : M D} (hc : X.calm = true) (ha : GE X c wx a ma) (hb : GE X c wx b mb) (hN : X.N.Nodup) (hi : X.N[i]? = some x := by rfl) (hj : X.N[j]? = some y := by rfl) (hij : i ≠ j := by decide)
    (hx : X.env.scope.names.lookup x = some .local := by rfl) (hy : X.env.scope.names.lookup y = some .local := by rfl) (h1 : starEach [a, b] X.env = (false, eval a X.env) :: starEach [b] X.env := by rfl) (h2 : starEach [b] X.env = (false, eval b X.env) :: starEach [] X.env := by rfl)
    (hw : swappedStores [.Tuple [.Name x px, .Name y py] kt pt] (.Tuple [a, b] k2 pt2) X.env = pure (some [x, y]) := by rfl) (hs : swapsWithSole [.Tuple [.Name x px, .Name y py] kt pt] (.Tuple [a, b] k2 pt2) pos.line X.env = pure false := by rfl) :
    GS X c wx (.Assign [.Tuple [.Name x px, .Name y py] kt pt] (.Tuple [a, b] k2 pt2) pos) (sPar2 i j ma mb) :=
  PS.imp (ps_par hc hN hi hj hij hx hy (pa_cons ha (pa_cons hb pa_nil h2) h1) hw hs) fun D σ H ⟨B, W, ρ, h, s, p⟩ => S_bind s p fun d h1 v W1 H1 x1 s1 a1 p1 => S_bind s1 p1 fun e h2 u W2 H2 x2 s2 a2 p2 =>
    ⟨v, u, rfl, p2 W2 _ H2 ((s2.set (At.mono x2.le a1)).set a2)⟩
theorem gs_par2L {i j : Nat} {x y : Str} {a : Expr} {bs : List Expr} {px py pt pos pl : Pos} {kt k2 pt2} {ma : M D} {mb : M (List D)} (hc : X.calm = true) (ha : GE X c wx a ma) (hb : GA X c wx bs mb) (hN : X.N.Nodup) (hi : X.N[i]? = some x := by rfl) (hj : X.N[j]? = some y := by rfl) (hij : i ≠ j := by decide)
    (hx : X.env.scope.names.lookup x = some .local := by rfl) (hy : X.env.scope.names.lookup y = some .local := by rfl) (h1 : starEach [a, .List bs pl] X.env = (false, eval a X.env) :: starEach [.List bs pl] X.env := by rfl)
    (h2 : starEach [.List bs pl] X.env = (false, eval (.List bs pl) X.env) :: starEach [] X.env := by rfl)
    (hw : swappedStores [.Tuple [.Name x px, .Name y py] kt pt] (.Tuple [a, .List bs pl] k2 pt2) X.env = pure (some [x, y]) := by rfl) (hs : swapsWithSole [.Tuple [.Name x px, .Name y py] kt pt] (.Tuple [a, .List bs pl] k2 pt2) pos.line X.env = pure false := by rfl) :
    GS X c wx (.Assign [.Tuple [.Name x px, .Name y py] kt pt] (.Tuple [a, .List bs pl] k2 pt2) pos) (sPar2L i j ma mb) :=
  PS.imp (ps_par hc hN hi hj hij hx hy (pa_cons ha (pa_cons (pe_lst hb) pa_nil h2) h1) hw hs) fun D σ H ⟨B, W, ρ, h, s, p⟩ => S_bind s p fun d h1 v W1 H1 x1 s1 a1 p1 => S_bind s1 p1 fun e h2 u W2 H2 x2 s2 a2 p2 => by
    by_cases hl : e.length ≤ big
    · rw [if_pos hl] at p2
      exact ⟨big_le (by rw [← AtL.length a2]; exact hl), fun q hq => ⟨v, .ref q, rfl, p2 W2 _ _ (new_own (s2.set (At.mono x2.le a1)) hq a2)⟩⟩
    · rw [if_neg hl] at p2
      exact False.elim p2
theorem gs_par3 {i j l : Nat} {x y z : Str} {a b d : Expr} {px py pz pt pos : Pos} {kt k2 pt2} {ma mb mc : M D} (hc : X.calm = true) (ha : GE X c wx a ma) (hb : GE X c wx b mb) (hd : GE X c wx d mc) (hN : X.N.Nodup) (hi : X.N[i]? = some x := by rfl) (hj : X.N[j]? = some y := by rfl) (hl : X.N[l]? = some z := by rfl)
    (hij : i ≠ j := by decide) (hil : i ≠ l := by decide) (hjl : j ≠ l := by decide)
    (hx : X.env.scope.names.lookup x = some .local := by rfl) (hy : X.env.scope.names.lookup y = some .local := by rfl) (hz : X.env.scope.names.lookup z = some .local := by rfl)
    (h1 : starEach [a, b, d] X.env = (false, eval a X.env) :: starEach [b, d] X.env := by rfl) (h2 : starEach [b, d] X.env = (false, eval b X.env) :: starEach [d] X.env := by rfl) (h3 : starEach [d] X.env = (false, eval d X.env) :: starEach [] X.env := by rfl)
    (hw : swappedStores [.Tuple [.Name x px, .Name y py, .Name z pz] kt pt] (.Tuple [a, b, d] k2 pt2) X.env = pure (some [x, y, z]) := by rfl)
    (hs : swapsWithSole [.Tuple [.Name x px, .Name y py, .Name z pz] kt pt] (.Tuple [a, b, d] k2 pt2) pos.line X.env = pure false := by rfl) :
    GS X c wx (.Assign [.Tuple [.Name x px, .Name y py, .Name z pz] kt pt] (.Tuple [a, b, d] k2 pt2) pos) (sPar3 i j l ma mb mc) :=
  PS.imp (ps_par3 hc hN hi hj hl hij hil hjl hx hy hz (pa_cons ha (pa_cons hb (pa_cons hd pa_nil h3) h2) h1) hw hs) fun D σ H ⟨B, W, ρ, h, s, p⟩ => S_bind s p fun d h1 v W1 H1 x1 s1 a1 p1 => S_bind s1 p1 fun e h2 u W2 H2 x2 s2 a2 p2 => S_bind s2 p2 fun f h3 w W3 H3 x3 s3 a3 p3 =>
    ⟨v, u, w, rfl, p3 W3 _ H3 (((s3.set (At.mono (x2.le.trans x3.le) a1)).set (At.mono x3.le a2)).set a3)⟩

/-! ### a list that several hold -/
/-- a new cell -/
def mNewL (m : M (List D)) : M D := fun ρ h => (m ρ h).bind fun ds h1 => if ds.length ≤ big then .ok (.cel h1.length) (h1 ++ [.lst ds]) else .stuck
def Wd.cell (W : Wd) (p : Addr) : Wd := ⟨W.G, W.ι ++ [p]⟩
theorem cell_ext {W : Wd} {h : Cells} {H : Hp} {p : Addr} {o : HO} (r : HRel c W h H) (hp : H p = none) : Ext W H [] (W.cell p) (upd H p o) where
  le := ⟨Same.refl _, List.prefix_append _ _⟩
  ng := fun a h1 _ h3 => h3
  ni := fun q hq => by
    rcases List.mem_append.mp (show q ∈ W.ι ++ [p] from hq) with z | z
    · exact .inl z
    · rw [List.mem_singleton] at z; rw [z]; exact .inr (nt_no hp)
  fr := fun a u e _ _ _ => by rw [upd_ne (ne_of_none e hp)]; exact e
  dom := fun a e => by
    have z : a ≠ p := fun z => e (by rw [z]; exact nt_no hp)
    unfold nt at e ⊢
    rw [upd_ne z]; exact e
theorem cell_rel {W : Wd} {h : Cells} {H : Hp} {p : Addr} {o : HO} {m : MO} (r : HRel c W h H) (hp : H p = none) (a : MAt c.toTp (W.cell p) (upd H p o) p m) : HRel c (W.cell p) (h ++ [m]) (upd H p o) := by
  have r' : HRel c W h (upd H p o) := r.free hp
  have le : W.le (W.cell p) := ⟨Same.refl _, List.prefix_append _ _⟩
  refine ⟨r'.sub, r'.dat, by show (W.ι ++ [p]).length = _; rw [List.length_append, List.length_append, r.len]; rfl, fun j m' q h1 h2 => ?_, ?_, r'.tab⟩
  · have h2 : (W.ι ++ [p])[j]? = some q := h2
    by_cases hj : j < h.length
    · rw [List.getElem?_append_left hj] at h1
      rw [List.getElem?_append_left (by rw [r.len]; exact hj)] at h2
      obtain ⟨g, a'⟩ := r'.cel j m' q h1 h2
      exact ⟨g, a'.mono le fun w e _ => e⟩
    · have hj' : h.length ≤ j := by omega
      rw [List.getElem?_append_right hj'] at h1
      rw [List.getElem?_append_right (by rw [r.len]; exact hj'), r.len] at h2
      have e0 : j - h.length = 0 := by
        have := (List.getElem?_eq_some_iff.mp h1).1
        simp at this
        omega
      rw [e0] at h1 h2
      cases h1
      cases h2
      exact ⟨r.gnone hp, a⟩
  · show (W.ι ++ [p]).Nodup
    rw [List.nodup_append]
    refine ⟨r.nd, by simp, fun a ha b hb => ?_⟩
    rw [List.mem_singleton] at hb
    rw [hb]
    exact fun z => r.nι hp (by rw [← z]; exact ha)
theorem ge_newL {es : List Expr} {pos : Pos} {ma : M (List D)} (ha : GA X c wx es ma) : GE X c wx (.List es pos) (mNewL ma) :=
  PE.imp (pe_lst ha) fun σ H Q ⟨W, ρ, h, r, l, p⟩ => tG_bind r l p fun ds h1 vs W1 H1 x1 r1 l1 a1 p1 => by
    by_cases hl : ds.length ≤ big
    · rw [if_pos hl] at p1
      refine ⟨big_le (by rw [← a1.length]; exact hl), fun q hq => p1 _ _ _ (cell_ext r1 hq) (cell_rel r1 hq ⟨vs, upd_same, AtL.mono (W := W1) (W' := W1.cell q) ⟨Same.refl _, List.prefix_append _ _⟩ a1⟩) ?_⟩
      simp only [At]
      refine ⟨q, rfl, ?_⟩
      show (W1.ι ++ [q])[h1.length]? = some q
      rw [← r1.len]
      simp
    · rw [if_neg hl] at p1
      exact False.elim p1
def setC (h : Cells) (o i d : D) : Option Cells := match o, i with
  | .cel n, .int k => match h[n]? with
    | some (.lst ds) => match ixN ds.length k with
      | some j => some (h.set n (.lst (ds.set j d)))
      | none => none
    | _ => none
  | _, _ => none
/-- o[i] = e, o a cell -/
def sSetC (mo mi me : M D) : MS := fun ρ h => SO.of (me ρ h) fun d h1 => SO.of (mo ρ h1) fun o h2 => SO.of (mi ρ h2) fun i h3 => match setC h3 o i d with | some h4 => .nx ρ h4 | none => .stuck
theorem AtL.set {t : Tp} {W : Wd} {d : D} {v : V} (a : At t W d v) : ∀ {ds : List D} {vs : List V} (j : Nat), AtL t W ds vs → AtL t W (ds.set j d) (vs.set j v)
  | [], _, j, h => by simp only [AtL] at h; subst h; exact AtL.nil
  | e :: ds, vs, j, h => by
    obtain ⟨w, r, rfl, h1, h2⟩ := h.uncons
    cases j with
    | zero => exact AtL.cons a h2
    | succ j => exact AtL.cons h1 (AtL.set a j h2)
theorem SR.mutC {B : Bs} {W : Wd} {ρ : Env} {h : Cells} {σ : L2.St} {H : Hp} {n : Nat} {m m' : MO} {p : Addr} {o u : HO} (s : SR c B W ρ h σ H) (hn : h[n]? = some m) (hi : W.ι[n]? = some p) (hp : H p = some u)
    (hu : match u with | .lst _ => True | .dK _ => True | .dT _ => True | .ins _ _ _ => True | _ => False) (a : MAt c.toTp W (upd H p o) p m') : SR c B W ρ (h.set n m') σ (upd H p o) := by
  obtain ⟨g, _⟩ := s.r.cel n m p hn hi
  have hm : p ∈ W.ι := List.mem_of_getElem? hi
  have n0 : p ∈ B.ex ∨ nt B.H p = none ∨ p ∈ B.W.ι := (s.x.ni p hm).elim (fun z => .inr (.inr z)) fun z => .inr (.inl z)
  refine ⟨mut_ext s.x hp n0 (mat_upd a), ⟨fun b q e => ?_, s.r.dat, by rw [List.length_set]; exact s.r.len, fun j m2 q h1 h2 => ?_, s.r.nd, fun q hq => ?_⟩, ⟨s.l.len, fun j sv e => ?_, s.l.apart⟩, s.o⟩
  · have z : b ≠ p := fun z => by rw [z, g] at e; cases e
    rw [upd_ne z]; exact s.r.sub b q e
  · rcases set_get h1 with ⟨rfl, e2, hl⟩ | ⟨hj, f⟩
    · rw [hi] at h2
      cases h2
      cases e2
      exact ⟨g, a⟩
    · obtain ⟨g2, a2⟩ := s.r.cel j m2 q f h2
      have z : q ≠ p := fun z => hj (by
        subst z
        have l1 := (List.getElem?_eq_some_iff.mp h2)
        have l2 := (List.getElem?_eq_some_iff.mp hi)
        obtain ⟨b1, c1⟩ := l1
        obtain ⟨b2, c2⟩ := l2
        exact (List.getElem_inj s.r.nd).mp (c1.trans c2.symm))
      exact ⟨g2, a2.mono (.refl _) fun w e _ => by rw [upd_ne z]; exact e⟩
  · obtain ⟨ps, h1, h2, h3⟩ := s.r.tab q hq
    refine ⟨ps, ?_, h2, fun pos cv hcv => ?_⟩
    · rw [upd_ne (fun z => by rw [z, hp] at h1; cases h1; exact hu)]; exact h1
    · obtain ⟨ca, e1, e2⟩ := h3 pos cv hcv
      refine ⟨ca, e1, ?_⟩
      rw [upd_ne (fun z => by rw [z, hp] at e2; unfold LamX.CodeO at e2; cases e2; exact hu)]
      exact e2
  · obtain ⟨w, e3, e4⟩ := s.l.at_ j sv e
    refine ⟨w, e3, ?_⟩
    cases sv with
    | val d => exact e4
    | own m2 =>
      obtain ⟨q2, e5, e6, e7, e8⟩ := e4
      have z : q2 ≠ p := fun z => e8 (by rw [z]; exact hm)
      exact ⟨q2, e5, e6.mono (.refl _) fun w e _ => by rw [upd_ne z]; exact e, e7, e8⟩
theorem gs_setC {o i e : Expr} {pos pos' : Pos} {mo mi me : M D} (ho : GE X c wx o mo) (hi : GE X c wx i mi) (he : GE X c wx e me)
    (hs : swapsWithSole [.Subscript o i pos'] e pos.line X.env = pure false := by rfl) (hw : swappedStores [.Subscript o i pos'] e X.env = pure none := by rfl) (h1 : (assignEach [.Subscript o i pos'] X.env).map (·.2) = [assign (.Subscript o i pos') X.env] := by rfl)
    (ha : ∀ v, assign (.Subscript o i pos') X.env v = (do let ov ← holding [v] (eval o X.env); let iv ← holding [v, ov] (eval i X.env); standAt pos'; holding [v, ov, iv] (setItem ov iv v); release [v, ov, iv] []) := by intro _; rfl) :
    GS X c wx (.Assign [.Subscript o i pos'] e pos) (sSetC mo mi me) :=
  PS.imp (ps_asg he (pg_sub ho hi set_list ha) hs hw h1) fun D σ H ⟨B, W, ρ, h, s, p⟩ => S_bind s p fun d h1 v W1 H1 x1 s1 a1 p1 => S_bind s1 p1 fun o h2 u W2 H2 x2 s2 a2 p2 => S_bind s2 p2 fun i h3 w W3 H3 x3 s3 a3 p3 => by
    cases o <;> first | exact False.elim p3 | skip
    cases i <;> first | exact False.elim p3 | skip
    rename_i n k
    simp only [setC] at p3
    cases em : h3[n]? with
    | none => rw [em] at p3; exact False.elim p3
    | some m =>
      rw [em] at p3
      cases m with
      | dic _ _ => exact False.elim p3
      | ins _ _ => exact False.elim p3
      | lst ds =>
        cases ek : ixN ds.length k with
        | none => simp only [ek] at p3; exact False.elim p3
        | some j =>
          simp only [ek] at p3
          have a2' := At.mono x3.le a2
          simp only [At] at a2' a3
          obtain ⟨q, rfl, hq⟩ := a2'
          subst a3
          obtain ⟨g, vs, e1, al⟩ := s3.r.cel n _ q em hq
          refine ⟨q, vs, k, j, rfl, rfl, e1, by rw [← al.length]; exact ek, ?_⟩
          exact p3 W3 σ _ (s3.mutC (m' := .lst (ds.set j d)) em hq e1 trivial ⟨_, upd_same, AtL.set (At.mono (x2.le.trans x3.le) a1) j al⟩)
end
end DL

namespace DL
open PySem L2 PySem.Spec PyProof.Rows

/-! ### what is walked -/
/-- an iterator that serves ds, from the world W on -/
def Serves (c : Cc) (J : It) (W : Wd) (ds : List D) : Prop := ∀ W' h H (i : Nat), W.le W' → HRel c W' h H → (ds.length = i → J.stop i H) ∧
  ∀ d, ds[i]? = some d → J.go i H ∧ ∀ x H2, J.yld i H x H2 → ∃ W2, Ext W' H [] W2 H2 ∧ HRel c W2 h H2 ∧ At c.toTp W2 d x
def IPost (c : Cc) (wx : WX) (W : Wd) (σ : L2.St) (H : Hp) (o : Out (List D)) (R : It → Hp → Prop) : Prop := match o with
  | .ok ds h' => ∀ J W' H', Ext W H [] W' H' → HRel c W' h' H' → Serves c J W' ds → R J H'
  | .exc x h' => ∀ cls dd W' H', Ext W H [] W' H' → HRel c W' h' H' → XAt c W' H' x cls dd → wx cls dd σ H'
  | .stuck => False
def tI (c : Cc) (wx : WX) (m : M (List D)) : TI := fun σ H R => ∃ W ρ h, HRel c W h H ∧ Loc c.toTp W ρ σ H ∧ IPost c wx W σ H (m ρ h) R
def GI (X : Cx) (c : Cc) (wx : WX) (tg e : Expr) (m : M (List D)) : Prop := PI X tg e (tI c wx m)
theorem PI.imp {X : Cx} {tg e : Expr} {t t' : TI} (h : PI X tg e t) (f : ∀ σ H Q, t' σ H Q → t σ H Q) : PI X tg e t' := ⟨fun p s σ H R I q => h.run p s σ H R I (f σ H R q)⟩
theorem PI.or {X : Cx} {tg e : Expr} {t u : TI} (h : PI X tg e t) (g : PI X tg e u) : PI X tg e (fun σ H R => t σ H R ∨ u σ H R) := ⟨fun p s σ H R I q => q.elim (h.run p s σ H R I) (g.run p s σ H R I)⟩
section
variable {X : Cx} {c : Cc} {wx : WX}
/-- from an expression's reading to what is walked -/
theorem I_bind {α β : Type} {R' : Wd → Hp → α → β → Prop} {m : M α} {f : α → Option (List D)} {σ : L2.St} {H : Hp} {R : It → Hp → Prop} {Q : β → Hp → Prop} (t : tI c wx (fun ρ h => (m ρ h).bind fun d h1 => fin (f d) h1) σ H R)
    (k : ∀ d ds h v W H, f d = some ds → HRel c W h H → R' W H d v → (∀ J W' H', Ext W H [] W' H' → HRel c W' h H' → Serves c J W' ds → R J H') → Q v H) : tG c wx R' m σ H Q := by
  obtain ⟨W, ρ, h, r, l, p⟩ := t
  refine ⟨W, ρ, h, r, l, ?_⟩
  replace p : IPost c wx W σ H ((m ρ h).bind fun d h1 => fin (f d) h1) R := p
  cases e : m ρ h with
  | ok d h' =>
    rw [e] at p
    replace p : IPost c wx W σ H (fin (f d) h') R := p
    cases ef : f d with
    | none =>
      rw [ef] at p
      exact False.elim p
    | some ds =>
      rw [ef] at p
      exact fun v W' H' x r' a => k d ds h' v W' H' ef r' a fun J W2 H2 x2 r2 sv => p J W2 H2 (x.trans0 x2) r2 sv
  | exc x h' =>
    rw [e] at p
    exact p
  | stuck =>
    rw [e] at p
    exact p
def itL : D → Option (List D)
  | .lst ds => some ds
  | _ => none
def itT : D → Option (List D)
  | .tup ds => some ds
  | _ => none
def itS : D → Option (List D)
  | .str s => some (s.map fun a => .str [a])
  | _ => none
def itAny : D → Option (List D)
  | .lst ds => some ds
  | .tup ds => some ds
  | .str s => some (s.map fun a => .str [a])
  | _ => none
def mIt (f : D → Option (List D)) (m : M D) : M (List D) := fun ρ h => (m ρ h).bind fun d h1 => fin (f d) h1
theorem sv_list {W : Wd} {a : Addr} {ds : List D} {vs : List V} (g : W.G a = some (.lst vs)) (al : AtL c.toTp W ds vs) : Serves c (Itl c.K a) W ds := fun W' h H i le r => by
  have e : SqL c.K H a vs := .inl (r.rd (.inl (le.g _ _ g)))
  refine ⟨fun hl => ⟨vs, e, by rw [← al.length]; exact Nat.le_of_eq hl⟩, fun d hd => ?_⟩
  obtain ⟨v, hv, av⟩ := al.get hd
  refine ⟨⟨vs, v, e, hv⟩, fun x H2 y => ?_⟩
  obtain ⟨rfl, y⟩ := y
  have := y vs e
  rw [hv] at this
  cases this
  exact ⟨W', Ext.refl _ _ _, r, At.mono le av⟩
theorem sv_tup {W : Wd} {a : Addr} {ds : List D} {vs : List V} (g : SqT c.K W.G a vs) (al : AtL c.toTp W ds vs) : Serves c (Itt c.K a) W ds := fun W' h H i le r => by
  have e : SqT c.K H a vs := r.sqT (sqT_mono le.g g)
  refine ⟨fun hl => ⟨vs, e, by rw [← al.length]; exact Nat.le_of_eq hl⟩, fun d hd => ?_⟩
  obtain ⟨v, hv, av⟩ := al.get hd
  refine ⟨⟨vs, v, e, hv⟩, fun x H2 y => ?_⟩
  obtain ⟨rfl, y⟩ := y
  have := y vs e
  rw [hv] at this
  cases this
  exact ⟨W', Ext.refl _ _ _, r, At.mono le av⟩
theorem gi_list {tg e : Expr} {m : M D} (hK : X.K = c.K) (he : GE X c wx e m) : GI X c wx tg e (mIt itL m) :=
  PI.imp (pi_list he) fun σ H R t => I_bind t fun d ds h v W H e r a k => by
    cases d <;> first | (simp only [itL] at e; cases e; done) | skip
    cases e
    simp only [At] at a
    obtain ⟨p, vs, rfl, g, al⟩ := a
    exact ⟨p, rfl, ⟨vs, .inl (r.rd (.inl g))⟩, by rw [hK]; exact k _ W H (Ext.refl _ _ _) r (sv_list g al)⟩
theorem gi_tup {tg e : Expr} {m : M D} (hK : X.K = c.K) (he : GE X c wx e m) : GI X c wx tg e (mIt itT m) :=
  PI.imp (pi_tup he) fun σ H R t => I_bind t fun d ds h v W H e r a k => by
    cases d <;> first | (simp only [itT] at e; cases e; done) | skip
    cases e
    simp only [At] at a
    obtain ⟨p, vs, rfl, g, al⟩ := a
    exact ⟨p, rfl, ⟨vs, by rw [hK]; exact r.sqT g⟩, by rw [hK]; exact k _ W H (Ext.refl _ _ _) r (sv_tup g al)⟩
theorem sv_str {W : Wd} {s : List Nat} : Serves c (Its ⟨s.toArray⟩) W (s.map fun a => .str [a]) := fun W' h H i le r => by
  refine ⟨fun hl => ?_, fun d hd => ?_⟩
  · rw [List.length_map] at hl
    show s.toArray.size ≤ i
    rw [List.size_toArray]
    exact Nat.le_of_eq hl
  · rw [List.getElem?_map] at hd
    cases e : s[i]? with
    | none => rw [e] at hd; cases hd
    | some a =>
      rw [e] at hd
      cases hd
      have hi := (List.getElem?_eq_some_iff.mp e).1
      refine ⟨by show i < s.toArray.size; rw [List.size_toArray]; exact hi, fun x H2 y => ?_⟩
      obtain ⟨rfl, q, y, rfl⟩ := y
      have y' : s[i]? = some q := by simpa using y
      rw [e] at y'
      cases y'
      exact ⟨W', Ext.refl _ _ _, r, by simp only [At]⟩
theorem gi_str {tg e : Expr} {m : M D} (he : GE X c wx e m) : GI X c wx tg e (mIt itS m) :=
  PI.imp (pi_str he) fun σ H R t => I_bind t fun d ds h v W H e r a k => by
    cases d <;> first | (simp only [itS] at e; cases e; done) | skip
    cases e
    simp only [At] at a
    subst a
    exact ⟨_, rfl, k _ W H (Ext.refl _ _ _) r sv_str⟩
/-- a list, a tuple or a text -/
theorem gi_any {tg e : Expr} {m : M D} (hK : X.K = c.K) (he : GE X c wx e m) : GI X c wx tg e (mIt itAny m) := by
  refine PI.imp (PI.or (gi_list (tg := tg) hK he) (PI.or (gi_tup (tg := tg) hK he) (gi_str (tg := tg) he))) fun σ H R t => ?_
  obtain ⟨W, ρ, h, r, l, p⟩ := t
  replace p : IPost c wx W σ H ((m ρ h).bind fun d h1 => fin (itAny d) h1) R := p
  have go : ∀ f : D → Option (List D), IPost c wx W σ H ((m ρ h).bind fun d h1 => fin (f d) h1) R → tI c wx (mIt f m) σ H R := fun f q => ⟨W, ρ, h, r, l, q⟩
  cases e : m ρ h with
  | ok d h' =>
    rw [e] at p
    replace p : IPost c wx W σ H (fin (itAny d) h') R := p
    cases d <;> first
      | exact False.elim p
      | exact .inl (go itL (by rw [e]; exact p))
      | exact .inr (.inl (go itT (by rw [e]; exact p)))
      | exact .inr (.inr (go itS (by rw [e]; exact p)))
  | exc x h' =>
    rw [e] at p
    exact .inl (go itL (by rw [e]; exact p))
  | stuck =>
    rw [e] at p
    exact False.elim p
def rngL (lo : Int) (n : Nat) : List D := (List.range n).map fun (i : Nat) => D.int (lo + (i : Int))
def itR1 : List D → Option (List D)
  | [.int n] => if n.natAbs < 2 ^ 62 then some (rngL 0 n.toNat) else none
  | _ => none
def itR2 : List D → Option (List D)
  | [.int i, .int j] => if i.natAbs < 2 ^ 62 ∧ j.natAbs < 2 ^ 62 then some (rngL i (j - i).toNat) else none
  | _ => none
def mItL (f : List D → Option (List D)) (m : M (List D)) : M (List D) := fun ρ h => (m ρ h).bind fun d h1 => fin (f d) h1
theorem sv_rng {W : Wd} {lo : Int} {n : Nat} : Serves c (Itr lo n) W (rngL lo n) := fun W' h H i le r => by
  refine ⟨fun hl => ?_, fun d hd => ?_⟩
  · unfold rngL at hl
    rw [List.length_map, List.length_range] at hl
    exact Nat.le_of_eq hl
  · unfold rngL at hd
    rw [List.getElem?_map] at hd
    by_cases hi : i < n
    · rw [List.getElem?_range hi] at hd
      cases hd
      refine ⟨hi, fun x H2 y => ?_⟩
      obtain ⟨rfl, rfl⟩ := y
      exact ⟨W', Ext.refl _ _ _, r, by simp only [At]⟩
    · rw [List.getElem?_eq_none (by rw [List.length_range]; omega)] at hd
      cases hd
theorem gi_range1 {tg a : Expr} {p pos : Pos} {m : M (List D)} (hm : X.mg "range" = none) (ha : GA X c wx [a] m) (hg : Gl X "range" := by rfl) (hs : starEach [a] X.env = [(false, eval a X.env)] := by rfl) : GI X c wx tg (.Call (.Name "range" p) [a] [] pos) (mItL itR1 m) :=
  PI.imp (pi_range1 hg hm ha hs) fun σ H R t => I_bind t fun ds is h v W H e r a k => by
    cases ds with
    | nil => simp only [itR1] at e; cases e
    | cons d ds =>
      cases ds with
      | cons _ _ => cases d <;> (simp only [itR1] at e; cases e)
      | nil =>
        cases d <;> first | (simp only [itR1] at e; cases e; done) | skip
        simp only [itR1] at e
        split at e
        · rename_i hb
          cases e
          obtain ⟨v1, vs, rfl, a1, a2⟩ := AtL.uncons a
          simp only [AtL] at a2
          simp only [At] at a1
          subst a1 a2
          exact ⟨_, rfl, by omega, by omega, k _ W H (Ext.refl _ _ _) r sv_rng⟩
        · cases e
theorem gi_range2 {tg a b : Expr} {p pos : Pos} {m : M (List D)} (hm : X.mg "range" = none) (ha : GA X c wx [a, b] m) (hg : Gl X "range" := by rfl) (hs : starEach [a, b] X.env = [(false, eval a X.env), (false, eval b X.env)] := by rfl) (hs2 : starEach [b] X.env = [(false, eval b X.env)] := by rfl) :
    GI X c wx tg (.Call (.Name "range" p) [a, b] [] pos) (mItL itR2 m) :=
  PI.imp (pi_range2 hg hm ha hs hs2) fun σ H R t => I_bind t fun ds is h v W H e r a k => by
    cases ds with
    | nil => simp only [itR2] at e; cases e
    | cons d ds =>
      cases ds with
      | nil => cases d <;> (simp only [itR2] at e; cases e)
      | cons d2 ds =>
        cases ds with
        | cons _ _ => cases d <;> cases d2 <;> (simp only [itR2] at e; cases e)
        | nil =>
          cases d <;> first | (simp only [itR2] at e; cases e; done) | skip
          cases d2 <;> first | (simp only [itR2] at e; cases e; done) | skip
          simp only [itR2] at e
          split at e
          · rename_i hb
            cases e
            obtain ⟨v1, vs, rfl, a1, a2⟩ := AtL.uncons a
            obtain ⟨v2, vs, rfl, a2, a3⟩ := AtL.uncons a2
            simp only [AtL] at a3
            simp only [At] at a1 a2
            subst a1 a2 a3
            exact ⟨_, _, rfl, by omega, k _ W H (Ext.refl _ _ _) r sv_rng⟩
          · cases e
end

/-! ### for -/
def sLoop (t : Tgt) (b : MS) : List D → MS
  | [] => fun ρ h => .nx ρ h
  | d :: ds => fun ρ h => match t d ρ with
    | none => .stuck
    | some ρ1 => match b ρ1 h with
      | .nx ρ2 h2 => sLoop t b ds ρ2 h2
      | .ct ρ2 h2 => sLoop t b ds ρ2 h2
      | .bk ρ2 h2 => .nx ρ2 h2
      | .rt d h => .rt d h
      | .exc x h => .exc x h
      | .stuck => .stuck
def sFor (mi : M (List D)) (t : Tgt) (b : MS) : MS := fun ρ h => SO.of (mi ρ h) fun ds h1 => sLoop t b ds ρ h1
/-- the objects that slots own -/
def ownAt (ρ : Env) (σ : L2.St) (i : Nat) : Option Addr := match ρ[i]?, σ[i]? with
  | some (some (.own _)), some (some (.ref p)) => some p
  | _, _ => none
def ownL (ρ : Env) (σ : L2.St) : List Addr := (List.range ρ.length).filterMap (ownAt ρ σ)
theorem ownL_mem {ρ : Env} {σ : L2.St} {i : Nat} {m : MO} {p : Addr} (e1 : ρ[i]? = some (some (.own m))) (e2 : σ[i]? = some (some (.ref p))) : p ∈ ownL ρ σ :=
  List.mem_filterMap.mpr ⟨i, List.mem_range.mpr (List.getElem?_eq_some_iff.mp e1).1, by unfold ownAt; rw [e1, e2]⟩
theorem of_ownL {ρ : Env} {σ : L2.St} {p : Addr} (h : p ∈ ownL ρ σ) : ∃ (i : Nat) (m : MO), ρ[i]? = some (some (SV.own m)) ∧ σ[i]? = some (some (V.ref p)) := by
  obtain ⟨i, _, e⟩ := List.mem_filterMap.mp h
  unfold ownAt at e
  split at e
  · rename_i m q e1 e2
    cases e
    exact ⟨i, m, e1, e2⟩
  · cases e
def Bs.at (W : Wd) (H : Hp) (ρ : Env) (σ : L2.St) : Bs := ⟨W, H, ownL ρ σ⟩
section
variable {X : Cx} {c : Cc} {wx : WX} {B : Bs} {W : Wd} {ρ : Env} {h : Cells} {σ : L2.St} {H : Hp}
theorem SR.here (s : SR c B W ρ h σ H) : SR c (Bs.at W H ρ σ) W ρ h σ H := ⟨Ext.refl _ _ _, s.r, s.l, fun i m p e1 e2 => .inl (ownL_mem e1 e2)⟩
theorem SR.exs (s : SR c B W ρ h σ H) : ∀ p ∈ ownL ρ σ, p ∈ B.ex ∨ nt B.H p = none := fun p hp => by
  obtain ⟨i, m, e1, e2⟩ := of_ownL hp
  exact s.o i m p e1 e2
theorem SR.exx (s : SR c B W ρ h σ H) {W' : Wd} {H' : Hp} (x : Ext W H (ownL ρ σ) W' H') : Ext B.W B.H B.ex W' H' := s.x.trans x s.exs
theorem SR.back (s : SR c B W ρ h σ H) {W' : Wd} {ρ' : Env} {h' : Cells} {σ' : L2.St} {H' : Hp} (s' : SR c (Bs.at W H ρ σ) W' ρ' h' σ' H') : SR c B W' ρ' h' σ' H' :=
  ⟨s.exx s'.x, s'.r, s'.l, fun i m p e1 e2 => (s'.o i m p e1 e2).elim (fun z => s.exs p z) fun z => by
    by_cases q : nt B.H p = none
    · exact .inr q
    · exact absurd z (s.x.dom p q)⟩
/-- seen from a later beginning -/
theorem SPost.re {o : SO} {D : Ends} (s : SR c B W ρ h σ H) (p : SPost c wx B o D) : SPost c wx (Bs.at W H ρ σ) o D := by
  cases o with
  | nx ρ h => exact fun W σ H s' => p W σ H (s.back s')
  | bk ρ h => exact fun W σ H s' => p W σ H (s.back s')
  | ct ρ h => exact fun W σ H s' => p W σ H (s.back s')
  | rt d h => exact fun v W H x r a => p v W H (s.exx x) r a
  | exc d h => exact fun cls dd W σ H x r a => p cls dd W σ H (s.exx x) r a
  | stuck => exact p
theorem gs_for {tg iter : Expr} {body : List Stmt} {pos : Pos} {mi : M (List D)} {t : Tgt} {b : MS} {vs : List Nat} (hc : X.calm = true) (hp : PassesOwn (model X.prog X.w) X.A X.env X.xe) (hi : GI X c wx tg iter mi) (hg : GG X c tg vs t) (hb : GSs X c wx body b)
    (hs : ∀ x, foldedSetIterable iter X.env x = pure x := by intro _; rfl) : GS X c wx (.For tg iter body [] pos) (sFor mi t b) :=
  PS.imp (ps_for hp hc hi hg hb hs) fun D σ H ⟨B, W, ρ, h, s, p⟩ => by
    refine ⟨W, ρ, h, s.r, s.l, ?_⟩
    have p : SPost c wx B (SO.of (mi ρ h) fun ds h1 => sLoop t b ds ρ h1) D := p
    cases e : mi ρ h with
    | exc x h' => rw [e] at p; exact fun cls dd W' H' x r a => p cls dd W' σ H' (s.x.trans0 x) r a
    | stuck => rw [e] at p; exact p
    | ok ds h' =>
      rw [e] at p
      intro J W1 H1 x1 r1 sv
      have s1 : SR c B W1 ρ h' σ H1 := s.ext x1 r1
      have p1 : SPost c wx (Bs.at W1 H1 ρ σ) (sLoop t b ds ρ h') D := SPost.re s1 p
      refine ⟨fun i m σ2 H2 => m = ds.length - i ∧ i ≤ ds.length ∧ ∃ W2 ρ2 h2, SR c (Bs.at W1 H1 ρ σ) W2 ρ2 h2 σ2 H2 ∧ SPost c wx (Bs.at W1 H1 ρ σ) (sLoop t b (ds.drop i) ρ2 h2) D, ⟨ds.length, by simp, Nat.zero_le _, W1, ρ, h', s1.here, p1⟩, ?_⟩
      rintro i m σ2 H2 ⟨rfl, hi, W2, ρ2, h2, s2, p2⟩
      obtain ⟨q1, q2⟩ := sv W2 h2 H2 i s2.x.le s2.r
      by_cases hlt : i < ds.length
      · have ed : ds.drop i = ds[i] :: ds.drop (i + 1) := List.drop_eq_getElem_cons hlt
        rw [ed] at p2
        obtain ⟨g1, g2⟩ := q2 ds[i] (List.getElem?_eq_getElem hlt)
        refine .inr ⟨g1, fun σ3 H3 => ∃ W3 ρ3 h3, SR c (Bs.at W1 H1 ρ σ) W3 ρ3 h3 σ3 H3 ∧ SPost c wx (Bs.at W1 H1 ρ σ) (sLoop t b (ds.drop (i + 1)) ρ3 h3) D, fun σ3 H3 ⟨W3, ρ3, h3, s3, p3⟩ => ⟨ds.length - (i + 1), by omega, rfl, hlt, W3, ρ3, h3, s3, p3⟩, fun x H3 y => ?_⟩
        obtain ⟨W3, x3, r3, a3⟩ := g2 x H3 y
        have s3 := s2.ext x3 r3
        simp only [sLoop] at p2
        cases et : t ds[i] ρ2 with
        | none => rw [et] at p2; exact False.elim p2
        | some ρ3 =>
          rw [et] at p2
          refine ⟨_, W3, ρ2, h2, ds[i], ρ3, s3, a3, et, fun σ4 s4 _ => ⟨_, W3, ρ3, h2, s4, ?_⟩⟩
          simp only at p2
          cases eb : b ρ3 h2 with
          | nx ρ4 h4 => rw [eb] at p2; exact fun W5 σ5 H5 s5 => ⟨W5, ρ4, h4, s5, p2⟩
          | ct ρ4 h4 => rw [eb] at p2; exact fun W5 σ5 H5 s5 => ⟨W5, ρ4, h4, s5, p2⟩
          | bk ρ4 h4 => rw [eb] at p2; exact p2
          | rt d h4 => rw [eb] at p2; exact p2
          | exc d h4 => rw [eb] at p2; exact p2
          | stuck => rw [eb] at p2; exact p2
      · have e0 : i = ds.length := by omega
        subst e0
        refine .inl ⟨q1 rfl, ?_⟩
        rw [List.drop_length] at p2
        exact p2 W2 σ2 H2 s2

/-! ### while -/
def sWhN (t : M Bool) (b : MS) : Nat → MS
  | 0 => fun _ _ => .stuck
  | n + 1 => fun ρ h => SO.of (t ρ h) fun x h1 => if x then (match b ρ h1 with
      | .nx ρ2 h2 => sWhN t b n ρ2 h2
      | .ct ρ2 h2 => sWhN t b n ρ2 h2
      | .bk ρ2 h2 => .nx ρ2 h2
      | .rt d h => .rt d h
      | .exc x h => .exc x h
      | .stuck => .stuck) else .nx ρ h1
def sWhile (t : M Bool) (b : MS) : MS := sWhN t b 1000000
theorem gs_while {tc : Expr} {body : List Stmt} {pos : Pos} {t : M Bool} {b : MS} (hp : PassesOwn (model X.prog X.w) X.A X.env X.xe) (ht : GT X c wx tc t) (hb : GSs X c wx body b) : GS X c wx (.While tc body [] pos) (sWhile t b) :=
  PS.imp (ps_while hp ht hb) fun D σ H ⟨B, W, ρ, h, s, p⟩ => by
    refine ⟨fun m σ2 H2 => ∃ W2 ρ2 h2, SR c B W2 ρ2 h2 σ2 H2 ∧ SPost c wx B (sWhN t b m ρ2 h2) D, ⟨1000000, W, ρ, h, s, p⟩, ?_⟩
    rintro m σ2 H2 ⟨W2, ρ2, h2, s2, p2⟩
    cases m with
    | zero => exact False.elim p2
    | succ n =>
      refine S_bind s2 p2 fun d h3 v W3 H3 x3 s3 a3 p3 => ?_
      subst a3
      cases d with
      | false =>
        rw [if_neg Bool.false_ne_true]
        exact p3 W3 σ2 H3 s3
      | true =>
        rw [if_pos rfl]
        refine ⟨fun σ4 H4 => ∃ W4 ρ4 h4, SR c B W4 ρ4 h4 σ4 H4 ∧ SPost c wx B (sWhN t b n ρ4 h4) D, fun σ4 H4 z => ⟨n, Nat.lt_succ_self n, z⟩, B, W3, ρ2, h3, s3, ?_⟩
        simp only [if_true] at p3
        cases eb : b ρ2 h3 with
        | nx ρ4 h4 => rw [eb] at p3; exact fun W5 σ5 H5 s5 => ⟨W5, ρ4, h4, s5, p3⟩
        | ct ρ4 h4 => rw [eb] at p3; exact fun W5 σ5 H5 s5 => ⟨W5, ρ4, h4, s5, p3⟩
        | bk ρ4 h4 => rw [eb] at p3; exact p3
        | rt d h4 => rw [eb] at p3; exact p3
        | exc d h4 => rw [eb] at p3; exact p3
        | stuck => rw [eb] at p3; exact p3
end
end DL

namespace DL
open PySem L2 PySem.Spec PyProof.Rows

/-! ### comprehensions -/
abbrev wx0 : WX := fun _ _ _ _ => False
def Out.calm {α : Type} : Out α → Out α
  | .exc _ _ => .stuck
  | o => o
def mLoop (t : Tgt) (tt : M Bool) (te : M D) (ρ : Env) : List D → List D → Cells → Out (List D)
  | [], acc, h => .ok acc h
  | d :: ds, acc, h => match t d ρ with
    | none => .stuck
    | some ρ1 => (tt ρ1 h).calm.bind fun b h1 => if b then (te ρ1 h1).calm.bind fun x h2 => if acc.length < big then mLoop t tt te ρ ds (acc ++ [x]) h2 else .stuck else mLoop t tt te ρ ds acc h1
def wipeE (ρ : Env) : List Nat → Env
  | [] => ρ
  | v :: vs => (wipeE ρ vs).set v none
def mLc (mi : M (List D)) (t : Tgt) (tt : M Bool) (te : M D) (vs : List Nat) : M (List D) := fun ρ h => (mi ρ h).bind fun ds h1 => mLoop t tt te (wipeE ρ vs) ds [] h1
def mTrue : M Bool := fun _ h => .ok true h
abbrev mLcV (mi : M (List D)) (t : Tgt) (tt : M Bool) (te : M D) (vs : List Nat) : M D := fun ρ h => (mLc mi t tt te vs ρ h).bind fun ds h1 => .ok (.lst ds) h1
section
variable {X : Cx} {c : Cc} {wx : WX}
theorem Loc.extX {t : Tp} {W W' : Wd} {ρ : Env} {σ : L2.St} {H H' : Hp} {ex : List Addr} (L : Loc t W ρ σ H) (x : Ext W H ex W' H') (hx : ∀ p ∈ ex, nt H p = none) : Loc t W' ρ σ H' where
  len := L.len
  at_ := fun i s e => by
    obtain ⟨v, e1, e2⟩ := L.at_ i s e
    refine ⟨v, e1, ?_⟩
    cases s with
    | val d => exact At.mono x.le e2
    | own m =>
      obtain ⟨p, e3, e4, e5, e6⟩ := e2
      obtain ⟨o, e7, e8⟩ := e4.some
      have n1 : nt H p ≠ none := nt_yes e7 e8
      have n2 : p ∉ ex := fun z => n1 (hx p z)
      exact ⟨p, e3, e4.mono x.le fun o h1 h2 => x.fr p o h1 e6 n2 h2, x.ng p n1 n2 e5, fun z => (x.ni p z).elim e6 n1⟩
  apart := L.apart
theorem Loc.wipe {t : Tp} {W : Wd} {ρ : Env} {σ : L2.St} {H : Hp} (l : Loc t W ρ σ H) : ∀ vs : List Nat, Loc t W (wipeE ρ vs) (wipe σ vs) H
  | [] => l
  | v :: vs => by
    have L := Loc.wipe l vs
    unfold wipeE L2.wipe
    refine ⟨by rw [List.length_set, List.length_set]; exact L.len, fun j sv e => ?_, fun j k m m' p e1 e2 e3 e4 => ?_⟩
    · rcases set_get e with ⟨_, z, _⟩ | ⟨hj, f⟩
      · cases z
      · obtain ⟨w, e1, e2⟩ := L.at_ j sv f
        exact ⟨w, by rw [List.getElem?_set_ne (Ne.symm hj)]; exact e1, e2⟩
    · rcases set_get e1 with ⟨_, z, _⟩ | ⟨hj, f1⟩
      · cases z
      · rcases set_get e2 with ⟨_, z, _⟩ | ⟨hk, f2⟩
        · cases z
        · rw [List.getElem?_set_ne (Ne.symm hj)] at e3
          rw [List.getElem?_set_ne (Ne.symm hk)] at e4
          exact L.apart j k m m' p f1 f2 e3 e4
theorem calm_post {α β : Type} {R : Wd → Hp → α → β → Prop} {W : Wd} {σ : L2.St} {H : Hp} {o : Out α} {α' β' : Type} {R' : Wd → Hp → α' → β' → Prop} {f : α → Cells → Out α'} {Q' : β' → Hp → Prop} {Q : β → Hp → Prop}
    (p : EPost c wx W σ H R' (o.calm.bind f) Q') (k : ∀ d h' v W' H', Ext W H [] W' H' → HRel c W' h' H' → R W' H' d v → EPost c wx W σ H R' (f d h') Q' → Q v H') {σ2 : L2.St} : EPost c wx0 W σ2 H R o Q := by
  cases o with
  | ok a h => exact fun v W' H' x r ra => k a h v W' H' x r ra p
  | exc x h => exact False.elim p
  | stuck => exact False.elim p
/-- the state while a comprehension runs: the list at D holds the items so far -/
structure LcW (c : Cc) (W1 : Wd) (H1 : Hp) (Dl : Addr) (acc : List D) (W : Wd) (h : Cells) (H : Hp) : Prop where
  x : Ext W1 H1 [Dl] W H
  r : HRel c W h H
  g : W.G Dl = none
  n : Dl ∉ W.ι
  l : ∃ vs, H Dl = some (.lst vs) ∧ AtL c.toTp W acc vs
theorem LcW.ext {W1 W W' : Wd} {H1 H H' : Hp} {Dl : Addr} {acc : List D} {h h' : Cells} (s : LcW c W1 H1 Dl acc W h H) (x : Ext W H [] W' H') (r : HRel c W' h' H') : LcW c W1 H1 Dl acc W' h' H' := by
  obtain ⟨vs, e, a⟩ := s.l
  have n1 : nt H Dl ≠ none := nt_yes e (fun _ z => nomatch z)
  exact ⟨s.x.trans0 x, r, x.ng Dl n1 (by simp) s.g, fun z => (x.ni Dl z).elim s.n n1, vs, x.fr Dl _ e s.n (by simp) (fun _ z => nomatch z), AtL.mono x.le a⟩
theorem LcW.app {W1 W : Wd} {H1 H : Hp} {Dl : Addr} {acc : List D} {h : Cells} {d : D} {v : V} {vs : List V} (s : LcW c W1 H1 Dl acc W h H) (e : H Dl = some (.lst vs)) (a : At c.toTp W d v) (hD : H1 Dl = none) : LcW c W1 H1 Dl (acc ++ [d]) W h (upd H Dl (.lst (vs ++ [v]))) := by
  obtain ⟨vs', e', al⟩ := s.l
  rw [e] at e'
  cases e'
  exact ⟨mut_ext (B := ⟨W1, H1, [Dl]⟩) s.x e (.inl (by simp)) (fun _ z => nomatch z), mut_rel s.r e trivial s.g fun j m _ h2 => absurd (List.mem_of_getElem? h2) s.n, s.g, s.n, _, upd_same, al.append (AtL.cons a AtL.nil)⟩
theorem wipe_get (σ : L2.St) : ∀ (vs : List Nat) (i : Nat), (L2.wipe σ vs)[i]? = if i ∈ vs ∧ i < σ.length then some none else σ[i]?
  | [], i => by simp [L2.wipe]
  | v :: vs, i => by
    unfold L2.wipe
    by_cases hi : v = i
    · subst hi
      by_cases hv : v < σ.length
      · rw [List.getElem?_set_self (by rw [L2.wipe_length]; exact hv), if_pos ⟨List.mem_cons_self, hv⟩]
      · rw [List.getElem?_eq_none (by rw [List.length_set, L2.wipe_length]; omega), if_neg (fun z => hv z.2), List.getElem?_eq_none (by omega)]
    · rw [List.getElem?_set_ne hi, wipe_get σ vs i]
      by_cases hv : i ∈ vs ∧ i < σ.length
      · rw [if_pos hv, if_pos ⟨List.mem_cons_of_mem _ hv.1, hv.2⟩]
      · rw [if_neg hv, if_neg (fun z => hv ⟨(List.mem_cons.mp z.1).elim (fun q => absurd q.symm hi) id, z.2⟩)]
theorem wipe_off {vs : List Nat} {σ σ' : L2.St} (o : Off vs (L2.wipe σ vs) σ') : L2.wipe σ' vs = L2.wipe σ vs := by
  apply List.ext_getElem?
  intro i
  rw [wipe_get, wipe_get]
  have hl : σ'.length = σ.length := o.1.trans (L2.wipe_length σ vs)
  rw [hl]
  by_cases hi : i ∈ vs ∧ i < σ.length
  · rw [if_pos hi]
    simp [hi]
  · rw [if_neg hi, if_neg hi]
    by_cases hv : i ∈ vs
    · have : ¬ i < σ.length := fun z => hi ⟨hv, z⟩
      rw [List.getElem?_eq_none (by omega), List.getElem?_eq_none (by omega)]
    · rw [o.2 i hv, wipe_get, if_neg hi]
theorem LcW.start {W1 : Wd} {H1 : Hp} {Dl : Addr} {h : Cells} (r : HRel c W1 h H1) (hD : H1 Dl = none) : LcW c W1 H1 Dl [] W1 h (upd H1 Dl (.lst [])) := by
  have x := ext_free (o := .lst []) r hD
  exact ⟨⟨x.le, fun a h1 _ h3 => h3, x.ni, fun a o h1 h2 _ h4 => x.fr a o h1 h2 (by simp) h4, x.dom⟩, r.free hD, r.gnone hD, r.nι hD, [], upd_same, AtL.nil⟩
theorem LcW.done {W1 W : Wd} {H1 H : Hp} {Dl : Addr} {acc : List D} {h : Cells} (s : LcW c W1 H1 Dl acc W h H) (hD : H1 Dl = none) : ∃ W', Ext W1 H1 [] W' H ∧ HRel c W' h H ∧ At c.toTp W' (.lst acc) (.ref Dl) := by
  obtain ⟨vs, e, al⟩ := s.l
  refine ⟨W.put Dl (.lst vs), ⟨s.x.le.trans (put_le s.g), fun a h1 _ h3 => ?_, s.x.ni, fun a o h1 h2 _ h4 => ?_, s.x.dom⟩, frz_rel s.r e trivial s.g s.n, ?_⟩
  · have z : a ≠ Dl := fun z => h1 (by rw [z]; exact nt_no hD)
    show upd W.G Dl _ a = none
    rw [upd_ne z]
    exact s.x.ng a h1 (by simpa using z) h3
  · have z : a ≠ Dl := fun z => by rw [z, hD] at h1; cases h1
    exact s.x.fr a o h1 h2 (by simpa using z) h4
  · simp only [At]
    exact ⟨Dl, vs, rfl, upd_same, AtL.mono (put_le s.g) al⟩
theorem lc_t {mi : M (List D)} {t : Tgt} {tt : M Bool} {te : M D} {vs : List Nat} (σ : L2.St) (H : Hp) (Q : VK) (tq : tD c wx (mLcV mi t tt te vs) σ H Q) :
    tLc (tI c wx mi) (gD c vs t) (tQ c wx0 tt) (tD c wx0 te) vs σ H Q := by
  obtain ⟨W, ρ, h, r, l, p⟩ := tq
  refine ⟨W, ρ, h, r, l, ?_⟩
  replace p : EPost c wx W σ H (fun W _ => At c.toTp W) (((mi ρ h).bind fun ds h1 => mLoop t tt te (wipeE ρ vs) ds [] h1).bind fun ds h1 => .ok (.lst ds) h1) Q := p
  cases e : mi ρ h with
  | exc x h' => rw [e] at p; exact p
  | stuck => rw [e] at p; exact p
  | ok ds h' =>
    rw [e] at p
    replace p : EPost c wx W σ H (fun W _ => At c.toTp W) ((mLoop t tt te (wipeE ρ vs) ds [] h').bind fun ds h1 => .ok (.lst ds) h1) Q := p
    intro J W1 H1 x1 r1 sv Dl hD
    have l1 : Loc c.toTp W1 ρ σ H1 := l.ext x1
    have p1 : EPost c wx W1 σ H1 (fun W _ => At c.toTp W) ((mLoop t tt te (wipeE ρ vs) ds [] h').bind fun ds h1 => .ok (.lst ds) h1) Q := by
      cases eo : (mLoop t tt te (wipeE ρ vs) ds [] h').bind (fun ds h1 => Out.ok (D.lst ds) h1) with
      | ok a h => rw [eo] at p; exact fun v W' H' x r a => p v W' H' (x1.trans0 x) r a
      | exc a h => rw [eo] at p; exact fun cls dd W' H' x r a => p cls dd W' H' (x1.trans0 x) r a
      | stuck => rw [eo] at p; exact p
    refine ⟨fun i m H => m = ds.length - i ∧ i ≤ ds.length ∧ ∃ W2 h2 acc, LcW c W1 H1 Dl acc W2 h2 H ∧ EPost c wx W1 σ H1 (fun W _ => At c.toTp W) ((mLoop t tt te (wipeE ρ vs) (ds.drop i) acc h2).bind fun ds h1 => .ok (.lst ds) h1) Q,
      ⟨ds.length, by simp, Nat.zero_le _, W1, h', [], LcW.start r1 hD, p1⟩, ?_⟩
    rintro i m H2 ⟨rfl, hi, W2, h2, acc, s2, p2⟩
    obtain ⟨q1, q2⟩ := sv W2 h2 H2 i s2.x.le s2.r
    by_cases hlt : i < ds.length
    · have ed : ds.drop i = ds[i] :: ds.drop (i + 1) := List.drop_eq_getElem_cons hlt
      rw [ed] at p2
      obtain ⟨g1, g2⟩ := q2 ds[i] (List.getElem?_eq_getElem hlt)
      refine .inr ⟨g1, fun H3 => ∃ W3 h3 acc, LcW c W1 H1 Dl acc W3 h3 H3 ∧ EPost c wx W1 σ H1 (fun W _ => At c.toTp W) ((mLoop t tt te (wipeE ρ vs) (ds.drop (i + 1)) acc h3).bind fun ds h1 => .ok (.lst ds) h1) Q,
        fun H3 z => ⟨ds.length - (i + 1), by omega, rfl, hlt, z⟩, fun x H3 y => ?_⟩
      obtain ⟨W3, x3, r3, a3⟩ := g2 x H3 y
      have s3 := s2.ext x3 r3
      simp only [mLoop] at p2
      cases et : t ds[i] (wipeE ρ vs) with
      | none => rw [et] at p2; exact False.elim p2
      | some ρ1 =>
        rw [et] at p2
        simp only at p2
        have l3 : Loc c.toTp W3 (wipeE ρ vs) (L2.wipe σ vs) H3 := (l1.wipe vs).extX s3.x fun p hp => by rw [List.mem_singleton.mp hp]; exact nt_no hD
        have sr : SR c (Bs.at W3 H3 (wipeE ρ vs) (L2.wipe σ vs)) W3 (wipeE ρ vs) h2 (L2.wipe σ vs) H3 := ⟨Ext.refl _ _ _, r3, l3, fun i m p e1 e2 => .inl (ownL_mem e1 e2)⟩
        refine ⟨_, W3, wipeE ρ vs, h2, ds[i], ρ1, sr, a3, et, fun σ4 s4 o4 => ⟨wipe_off o4, W3, ρ1, h2, s4.r, s4.l, ?_⟩⟩
        have pk : ∀ {α' β' : Type} {R' : Wd → Hp → α' → β' → Prop} {o : Out α'} {f : α' → Cells → Out D}, EPost c wx W1 σ H1 (fun W _ => At c.toTp W) ((o.calm.bind f)) Q → (∀ d h', o = .ok d h' → EPost c wx W1 σ H1 (fun W _ => At c.toTp W) (f d h') Q) := by
          intro α' β' R' o f z d h' eo
          rw [eo] at z
          exact z
        cases ett : tt ρ1 h2 with
        | exc _ _ => rw [ett] at p2; exact False.elim p2
        | stuck => rw [ett] at p2; exact False.elim p2
        | ok b h4 =>
          rw [ett] at p2
          intro b' W4 H4 x4 r4 eb
          subst eb
          have s5 := s3.ext x4 r4
          cases b with
          | false =>
            rw [if_neg Bool.false_ne_true]
            exact ⟨W4, h4, acc, s5, p2⟩
          | true =>
            rw [if_pos rfl]
            refine ⟨W4, ρ1, h4, r4, s4.l.ext x4, ?_⟩
            replace p2 : EPost c wx W1 σ H1 (fun W _ => At c.toTp W) (((te ρ1 h4).calm.bind fun x h2 => if acc.length < big then mLoop t tt te (wipeE ρ vs) (ds.drop (i + 1)) (acc ++ [x]) h2 else .stuck).bind fun ds h1 => .ok (.lst ds) h1) Q := p2
            cases ete : te ρ1 h4 with
            | exc _ _ => rw [ete] at p2; exact False.elim p2
            | stuck => rw [ete] at p2; exact False.elim p2
            | ok d h5 =>
              rw [ete] at p2
              replace p2 : EPost c wx W1 σ H1 (fun W _ => At c.toTp W) ((if acc.length < big then mLoop t tt te (wipeE ρ vs) (ds.drop (i + 1)) (acc ++ [d]) h5 else .stuck).bind fun ds h1 => .ok (.lst ds) h1) Q := p2
              by_cases hl : acc.length < big
              · rw [if_pos hl] at p2
                intro v W5 H5 x5 r5 a5
                have s6 := s5.ext x5 r5
                obtain ⟨us, e6, al⟩ := s6.l
                exact ⟨us, e6, by rw [← al.length, sizeLine_eq]; exact hl, W5, h5, acc ++ [d], s6.app e6 a5 hD, p2⟩
              · rw [if_neg hl] at p2
                exact False.elim p2
    · have e0 : i = ds.length := by omega
      subst e0
      rw [List.drop_length] at p2
      refine .inl ⟨q1 rfl, ?_⟩
      obtain ⟨W', x', r', a'⟩ := s2.done hD
      exact p2 _ W' H2 x' r' a'
def GTs (X : Cx) (c : Cc) (wx : WX) (ifs : List Expr) (m : M Bool) : Prop := PTs X ifs (tQ c wx m)
theorem PTs.imp {X : Cx} {e : List Expr} {t t' : TT} (h : PTs X e t) (f : ∀ σ H Q, t' σ H Q → t σ H Q) : PTs X e t' := ⟨fun p s σ H Q I q => h.run p s σ H Q I (f σ H Q q)⟩
theorem gts_nil : GTs X c wx [] mTrue := PTs.imp pts_nil fun σ H Q ⟨W, ρ, h, r, l, p⟩ => p _ _ _ (Ext.refl _ _ _) r rfl
theorem gts_one {e : Expr} {m : M Bool} (h : GT X c wx e m) : GTs X c wx [e] m := pts_one h
theorem ge_lc {elt tg iter : Expr} {ifs : List Expr} {scope : Scope} {own : List (Str × Nat)} {pos : Pos} {mi : M (List D)} {t : Tgt} {tt : M Bool} {te : M D} (hc : X.calm = true) (hN : X.N.Nodup) (hi : GI X c wx tg iter mi) (ok : blkC X.N X.env.scope scope own = true)
    (hg : ∀ (s : Shared) (H : Hp) (C : Addr) (cl : List (Str × Addr)) (fp : List Addr), GG (X.blk s H scope (compEnvC scope cl C X.env) fp) c tg (own.map (·.2)) t)
    (ht : ∀ (s : Shared) (H : Hp) (C : Addr) (cl : List (Str × Addr)) (fp : List Addr), GTs (X.blk s H scope (compEnvC scope cl C X.env) fp) c wx0 ifs tt)
    (he : ∀ (s : Shared) (H : Hp) (C : Addr) (cl : List (Str × Addr)) (fp : List Addr), GE (X.blk s H scope (compEnvC scope cl C X.env) fp) c wx0 elt te) (hs : ∀ x, foldedSetIterable iter X.env x = pure x := by intro _; rfl) :
    GE X c wx (.ListComp elt [⟨tg, iter, ifs, 0⟩] scope pos) (mLcV mi t tt te (own.map (·.2))) :=
  PE.imp (pe_lc hc hN hi (blkOk_by ok) hg ht he hs) fun σ H Q q => lc_t σ H Q q
theorem gs_setLc {i : Nat} {y : Str} {py : Pos} {elt tg iter : Expr} {ifs : List Expr} {scope : Scope} {own : List (Str × Nat)} {pos spos : Pos} {mi : M (List D)} {t : Tgt} {tt : M Bool} {te : M D} (hc : X.calm = true) (hN : X.N.Nodup) (hi : GI X c wx tg iter mi) (ok : blkC X.N X.env.scope scope own = true)
    (hg : ∀ (s : Shared) (H : Hp) (C : Addr) (cl : List (Str × Addr)) (fp : List Addr), GG (X.blk s H scope (compEnvC scope cl C X.env) fp) c tg (own.map (·.2)) t)
    (ht : ∀ (s : Shared) (H : Hp) (C : Addr) (cl : List (Str × Addr)) (fp : List Addr), GTs (X.blk s H scope (compEnvC scope cl C X.env) fp) c wx0 ifs tt)
    (he : ∀ (s : Shared) (H : Hp) (C : Addr) (cl : List (Str × Addr)) (fp : List Addr), GE (X.blk s H scope (compEnvC scope cl C X.env) fp) c wx0 elt te)
    (hsw : swapsWith (.ListComp elt [⟨tg, iter, ifs, 0⟩] scope pos) (some (.Name y py)) spos.line X.env = pure true) (hy : X.N[i]? = some y := by rfl) (hyl : X.env.scope.names.lookup y = some .local := by rfl) (hs : ∀ x, foldedSetIterable iter X.env x = pure x := by intro _; rfl) :
    GS X c wx (.Assign [.Name y py] (.ListComp elt [⟨tg, iter, ifs, 0⟩] scope pos) spos) (sSet i (mLcV mi t tt te (own.map (·.2)))) :=
  PS.imp (ps_setLc hc hN hy hyl hsw hi (blkOk_by ok) hg ht he hs) fun D σ H ⟨B, W, ρ, h, s, p⟩ => by
    refine lc_t (wx := wx) σ H _ ?_
    exact S_bind s p fun d h1 v W1 H1 x1 s1 a1 p1 => p1 W1 _ H1 (s1.set a1)
end
end DL

namespace DL
open PySem L2 PySem.Spec PyProof.Rows

/-! ### defs -/
abbrev FS := List D → Cells → Out D
def FPost (c : Cc) (W : Wd) (H : Hp) (o : Out D) (Q : VK) (E : XK) : Prop := match o with
  | .ok d h' => ∀ v W' H', Ext W H [] W' H' → HRel c W' h' H' → At c.toTp W' d v → Q v H'
  | .exc x h' => ∀ cls dd W' H', Ext W H [] W' H' → HRel c W' h' H' → XAt c W' H' x cls dd → E cls dd H'
  | .stuck => False
def spD (c : Cc) (n : Nat) (F : FS) : Sp := fun vs H Q E => vs.length = n ∧ ∃ W h ds, HRel c W h H ∧ AtL c.toTp W ds vs ∧ FPost c W H (F ds h) Q E
def mDef (n : Nat) (m : MS) : FS := fun ds h => match m (ds.map (fun d => some (SV.val d)) ++ List.replicate (n - ds.length) none) h with
  | .nx _ h' => .ok .non h'
  | .rt d h' => .ok d h'
  | .exc x h' => .exc x h'
  | _ => .stuck
/-- a def that may be called by its name -/
structure FnK (P : Program) (w : World) (K : PySem.W.Frag) (mg : Str → Option Value) (base : Heap) (c : Cc) (x : Str) (k n : Nat) (F : FS) : Prop where
  ex : ∃ f fd ps, FnOk P w K mg base (L2N.CX P w) k f fd ps (spD c n F) ∧ mg x = some (.ref f) ∧ PySem.W.keepIn K (.ref f) = true ∧ Binds K fd ps [] ∧ ps.length = n
theorem FnK.mono {P : Program} {w : World} {K : PySem.W.Frag} {mg : Str → Option Value} {base : Heap} {c : Cc} {x : Str} {k k' n : Nat} {F : FS} (h : FnK P w K mg base c x k n F) (hk : k ≤ k') : FnK P w K mg base c x k' n F := by
  obtain ⟨f, fd, ps, h1, h2⟩ := h.ex
  exact ⟨f, fd, ps, h1.mono hk, h2⟩
def mFn (F : FS) (ma : M (List D)) : M D := fun ρ h => (ma ρ h).bind fun ds h1 => F ds h1
section
variable {X : Cx} {c : Cc} {wx : WX}
theorem ge_call {x : Str} {k n : Nat} {F : FS} {p pos : Pos} {e : Expr} {es : List Expr} {ma : M (List D)} (hf : FnK X.prog X.w X.K X.mg X.base c x k n F) (hr : Room k X.A) (tk : L2N.Takes X wx) (ha : GA X c wx (e :: es) ma) (hl : (e :: es).length = n := by rfl)
    (hlen : ∀ ρ h ds h', ma ρ h = .ok ds h' → ds.length = (e :: es).length) (hg : Gl X x := by rfl)
    (hdb : (x == ("__debug__" : Str)) = false := by decide) (he : starEach (e :: es) X.env = (false, eval e X.env) :: starEach es X.env := by rfl) (hpl : (backTo pos (starEach es X.env)).any (·.1) = false := by rfl) :
    GE X c wx (.Call (.Name x p) (e :: es) [] pos) (mFn F ma) := by
  obtain ⟨f, fd, ps, h1, h2, h3, h4, h5⟩ := hf.ex
  refine PE.imp (pe_callS h1 hr hg h2 h3 h4 (fun σ => L2N.passAt tk σ) ha hdb he hpl) fun σ H Q ⟨W, ρ, h, r, l, q⟩ => ?_
  refine ⟨W, ρ, h, r, l, ?_⟩
  replace q : EPost c wx W σ H (fun W _ => At c.toTp W) ((ma ρ h).bind fun ds h1 => F ds h1) Q := q
  cases em : ma ρ h with
  | exc x h' => rw [em] at q; exact q
  | stuck => rw [em] at q; exact q
  | ok ds h' =>
    rw [em] at q
    replace q : EPost c wx W σ H (fun W _ => At c.toTp W) (F ds h') Q := q
    intro vs W1 H1 x1 r1 a1
    refine ⟨by rw [← AtL.length a1, hlen ρ h ds h' em, hl], W1, h', ds, r1, a1, ?_⟩
    cases ef : F ds h' with
    | ok d h2 => rw [ef] at q; exact fun v W' H' x r a => q v W' H' (x1.trans0 x) r a
    | exc d h2 => rw [ef] at q; exact fun cls dd W' H' x r a => q cls dd W' H' (x1.trans0 x) r a
    | stuck => rw [ef] at q; exact q
/-- how many arguments -/
theorem len_nil {ρ : Env} {h : Cells} {ds : List D} {h' : Cells} (e : mNil ρ h = .ok ds h') : ds.length = ([] : List Expr).length := by cases e; rfl
theorem len_cons {a : Expr} {es : List Expr} {ma : M D} {mr : M (List D)} (hr : ∀ ρ h ds h', mr ρ h = .ok ds h' → ds.length = es.length) : ∀ ρ h ds h', mCons ma mr ρ h = .ok ds h' → ds.length = (a :: es).length := fun ρ h ds h' e => by
  replace e : (ma ρ h).bind (fun x h1 => (mr ρ h1).bind fun xs h2 => Out.ok (x :: xs) h2) = .ok ds h' := e
  cases e1 : ma ρ h with
  | exc _ _ => rw [e1] at e; cases e
  | stuck => rw [e1] at e; cases e
  | ok x h1 =>
    rw [e1] at e
    replace e : (mr ρ h1).bind (fun xs h2 => Out.ok (x :: xs) h2) = .ok ds h' := e
    cases e2 : mr ρ h1 with
    | exc _ _ => rw [e2] at e; cases e
    | stuck => rw [e2] at e; cases e
    | ok xs h2 =>
      rw [e2] at e
      cases e
      simp [hr _ _ _ _ e2]
end
section
variable {P : Program} {w : World} {K : PySem.W.Frag} {mg : Str → Option Value} {base : Heap} {c : Cc}
theorem start_at {t : Tp} {W : Wd} {H : Hp} {N : List Str} {ds : List D} {vs : List V} (a : AtL t W ds vs) : Loc t W (ds.map (fun d => some (SV.val d)) ++ List.replicate (N.length - ds.length) none) (L2.start N vs) H := by
  have hl := a.length
  unfold L2.start
  refine ⟨by simp [hl], fun i s e => ?_, fun i j m m' p e1 _ _ _ => ?_⟩
  · by_cases hi : i < ds.length
    · rw [List.getElem?_append_left (by simpa using hi), List.getElem?_map] at e
      cases ed : ds[i]? with
      | none => rw [ed] at e; cases e
      | some d =>
        rw [ed] at e
        cases e
        obtain ⟨v, hv, av⟩ := a.get ed
        refine ⟨v, ?_, av⟩
        rw [List.getElem?_append_left (by simpa [← hl] using hi), List.getElem?_map, hv]
        rfl
    · rw [List.getElem?_append_right (by simpa using hi), List.getElem?_replicate] at e
      split at e <;> cases e
  · by_cases hi : i < ds.length
    · rw [List.getElem?_append_left (by simpa using hi), List.getElem?_map] at e1
      cases ed : ds[i]? with
      | none => rw [ed] at e1; cases e1
      | some d => rw [ed] at e1; cases e1
    · rw [List.getElem?_append_right (by simpa using hi), List.getElem?_replicate] at e1
      split at e1 <;> cases e1
/-- THE RULE for a def -/
theorem fn_ok {x qual : Str} {st : Stmt} {f : Addr} {fd : FuncData} {N ps : List Str} {k n : Nat} {m : MS} (F : Fun K x qual st f fd) (S : FnScope N ps (defScope st)) (hn : ps.length = n)
    (hbody : ∀ (cdv : Value) (A : Around) (outer : List PySem.Env) (s : Shared) (H : Hp) (E : XK), Room k (A.deeper (envOfC qual (defScope st) s.heap.objs.size f cdv)) →
      GSs (cxOf (L2N.CX P w) P w K mg base N qual (defScope st) f cdv A outer s H E) c (fun cls dd _ H' => E cls dd H') (defBody st) m) : FnOk P w K mg base (L2N.CX P w) (k + 1) f fd ps (spD c n (mDef N.length m)) := by
  obtain ⟨oc, od, kV, doc, pm, an, cdv, ct, osl, rfl, lk, hcd⟩ := F.ex
  refine fn_of lk hcd S (fun vs H Q E h => by rw [hn]; exact h.1) fun A outer s H vs Q E hr h => ⟨_, hbody cdv A outer s H E hr, ?_⟩
  obtain ⟨hl, W, hc, ds, r, a, p⟩ := h
  refine ⟨⟨W, H, []⟩, W, _, hc, ⟨Ext.refl _ _ _, r, start_at a, fun i m p e1 _ => ?_⟩, ?_⟩
  · by_cases hi : i < ds.length
    · rw [List.getElem?_append_left (by simpa using hi), List.getElem?_map] at e1
      cases ed : ds[i]? with
      | none => rw [ed] at e1; cases e1
      | some d => rw [ed] at e1; cases e1
    · rw [List.getElem?_append_right (by simpa using hi), List.getElem?_replicate] at e1
      split at e1 <;> cases e1
  · unfold mDef at p
    generalize m (ds.map (fun d => some (SV.val d)) ++ List.replicate (N.length - ds.length) none) hc = o at p ⊢
    cases o with
    | nx ρ h' => exact fun W' σ' H' s' => p .non W' H' s'.x s'.r (by simp only [At])
    | bk _ _ => exact False.elim p
    | ct _ _ => exact False.elim p
    | rt d h' => exact fun v W' H' x r a => p v W' H' x r a
    | exc d h' => exact fun cls dd W' σ' H' x r a => p cls dd W' H' x r a
    | stuck => exact False.elim p
theorem fn_k {x : Str} {f : Addr} {fd : FuncData} {ps : List Str} {k n : Nat} {F : FS} (o : FnOk P w K mg base (L2N.CX P w) k f fd ps (spD c n F)) (hk : PySem.W.keepIn K (.ref f) = true) (hmg : mg x = some (.ref f)) (hb : Binds K fd ps []) (hn : ps.length = n) : FnK P w K mg base c x k n F :=
  ⟨f, fd, ps, o, hmg, hk, hb, hn⟩
end

/-! ### isinstance, all, join, min -/
def tyN : D → Option String
  | .non => some "NoneType"
  | .bl _ => some "bool"
  | .int _ => some "int"
  | .str _ => some "str"
  | .tup _ => some "tuple"
  | .lst _ => some "list"
  | _ => none
def subTy (a b : String) : Bool := a == b || (a == "bool" && b == "int")
def isKnown (b : String) : Bool := b == "int" || b == "bool" || b == "str" || b == "list" || b == "tuple"
def gIsi : List D → Option D
  | [d, .ty b] => match tyN d with | some a => if isKnown b then some (.bl (subTy a b)) else none | none => none
  | _ => none
theorem kit_sub {K : PySem.W.Frag} {d : D} {a b : String} (h : tyN d = some a) (hb : isKnown b = true) : PySem.W.kitOne K (.type a) (.type b) = some (subTy a b) := by
  apply kit_ty
  have hb' : b = "int" ∨ b = "bool" ∨ b = "str" ∨ b = "list" ∨ b = "tuple" := by
    unfold isKnown at hb
    simp only [Bool.or_eq_true, beq_iff_eq] at hb
    rcases hb with (((h | h) | h) | h) | h
    · exact .inl h
    · exact .inr (.inl h)
    · exact .inr (.inr (.inl h))
    · exact .inr (.inr (.inr (.inl h)))
    · exact .inr (.inr (.inr (.inr h)))
  have ha : a = "NoneType" ∨ a = "bool" ∨ a = "int" ∨ a = "str" ∨ a = "tuple" ∨ a = "list" ∨ a = "dict" := by
    cases d <;> simp only [tyN] at h <;> cases h <;> simp
  rcases hb' with rfl | rfl | rfl | rfl | rfl <;> rcases ha with rfl | rfl | rfl | rfl | rfl | rfl | rfl <;> decide +kernel
theorem ty_at {c : Cc} {W : Wd} {h : Cells} {H : Hp} (r : HRel c W h H) {d : D} {v : V} {a : String} (x : At c.toTp W d v) (e : tyN d = some a) : TyX c.K H v (.type a) := by
  cases d <;> first | (simp only [tyN] at e; cases e; done) | skip
  · simp only [At] at x; cases e; subst x; exact .base .non
  · simp only [At] at x; cases e; subst x; exact .base (.bl _)
  · simp only [At] at x; cases e; subst x; exact .base (.int _)
  · simp only [At] at x; cases e; subst x; exact .base (.str _)
  · simp only [At] at x; cases e
    obtain ⟨p, vs, rfl, hp, _⟩ := x
    rcases r.sqT hp with (q | ⟨o, q⟩) | ⟨o, its, n, k1, k2, _⟩
    · exact .base (.tup q)
    · exact .fTuple q
    · exact .kTuple k1 k2
  · simp only [At] at x; cases e
    obtain ⟨p, vs, rfl, hp, _⟩ := x
    rcases r.sub _ _ hp with q | ⟨o, q⟩
    · exact .base (.lst q)
    · exact .base (.frz q)
section
variable {X : Cx} {c : Cc} {wx : WX}
theorem cg_isi (hK : X.K = c.K) : CallR X (.builtin "isinstance") (rGC c gIsi) := by
  intro pins s σ H xs us Q I rs ⟨W, h, ds, z, r, a, e, k⟩
  cases ds with
  | nil => cases e
  | cons d ds =>
    cases ds with
    | nil => cases e
    | cons d2 ds =>
      cases ds with
      | cons _ _ => cases d2 <;> cases e
      | nil =>
        cases d2 <;> first | (cases e; done) | skip
        rename_i b
        simp only [gIsi] at e
        cases et : tyN d with
        | none => rw [et] at e; cases e
        | some t =>
          rw [et] at e
          simp only at e
          split at e
          · rename_i hb
            cases e
            obtain ⟨v1, vs, rfl, a1, a2⟩ := a.uncons
            obtain ⟨v2, vs, rfl, a2, a3⟩ := a2.uncons
            simp only [AtL] at a3
            simp only [At] at a2
            subst a2 a3
            exact call_isi pins s σ H _ us Q I rs ⟨v1, .ty b, .type t, .type b, _, rfl, .ty b, by rw [hK]; exact ty_at r a1 et, kit_sub et hb, k.bl r⟩
          · cases e
def asBs : List D → Option (List Bool)
  | [] => some []
  | .bl b :: ds => match asBs ds with | some l => some (b :: l) | none => none
  | _ :: _ => none
def gAll : List D → Option D
  | [.lst ds] => match asBs ds with | some l => some (.bl (l.all id)) | none => none
  | _ => none
theorem asBs_at {t : Tp} {W : Wd} : ∀ {ds : List D} {vs : List V} {l : List Bool}, AtL t W ds vs → asBs ds = some l → vs = l.map V.bl
  | [], vs, l, a, e => by simp only [AtL] at a; cases e; exact a
  | d :: ds, vs, l, a, e => by
    obtain ⟨v, r, rfl, h1, h2⟩ := a.uncons
    cases d <;> first | (simp only [asBs] at e; cases e; done) | skip
    simp only [asBs] at e
    cases e2 : asBs ds with
    | none => rw [e2] at e; cases e
    | some l' =>
      rw [e2] at e
      cases e
      simp only [At] at h1
      rw [h1, asBs_at h2 e2]
      rfl
theorem cg_all (hc : X.calm = true) : CallR X (.builtin "all") (rGC c gAll) := by
  intro pins s σ H xs us Q I rs ⟨W, h, ds, z, r, a, e, k⟩
  cases ds with
  | nil => cases e
  | cons d ds =>
    cases ds with
    | cons _ _ => cases d <;> cases e
    | nil =>
      cases d <;> first | (cases e; done) | skip
      rename_i is
      simp only [gAll] at e
      cases e2 : asBs is with
      | none => rw [e2] at e; cases e
      | some l =>
        rw [e2] at e
        cases e
        obtain ⟨v1, vs, rfl, a1, a2⟩ := a.uncons
        simp only [AtL] at a2
        subst a2
        simp only [At] at a1
        obtain ⟨p, us', rfl, hp, al⟩ := a1
        have := asBs_at al e2
        subst this
        exact cr_all hc pins s σ H _ us Q I rs ⟨p, l, rfl, .inl (r.rd (.inl hp)), k.bl r⟩
def asSs : List D → Option (List (List Nat))
  | [] => some []
  | .str b :: ds => match asSs ds with | some l => some (b :: l) | none => none
  | _ :: _ => none
theorem asSs_at {t : Tp} {W : Wd} : ∀ {ds : List D} {vs : List V} {l : List (List Nat)}, AtL t W ds vs → asSs ds = some l → vs = (l.map fun s => (⟨s.toArray⟩ : Str)).map V.str
  | [], vs, l, a, e => by simp only [AtL] at a; cases e; exact a
  | d :: ds, vs, l, a, e => by
    obtain ⟨v, r, rfl, h1, h2⟩ := a.uncons
    cases d <;> first | (simp only [asSs] at e; cases e; done) | skip
    simp only [asSs] at e
    cases e2 : asSs ds with
    | none => rw [e2] at e; cases e
    | some l' =>
      rw [e2] at e
      cases e
      simp only [At] at h1
      rw [h1, asSs_at h2 e2]
      rfl
def sumLen (l : List (List Nat)) : Nat := (l.map (·.length)).sum
def gJoin : D → D → Option D
  | .str s, .lst ds => match asSs ds with | some l => if sumLen l + l.length * s.length ≤ big then some (.str (TL.joinL s l)) else none | none => none
  | .str s, .tup ds => match asSs ds with | some l => if sumLen l + l.length * s.length ≤ big then some (.str (TL.joinL s l)) else none | none => none
  | _, _ => none
def mJoin (mo ma : M D) : M D := fun ρ h => (mo ρ h).bind fun x h1 => match x with | .str _ => (ma ρ h1).bind fun y h2 => fin (gJoin x y) h2 | _ => .stuck
theorem lens_S (l : List (List Nat)) : ((l.map fun s => (⟨s.toArray⟩ : Str)).map (·.length)).sum = sumLen l := by
  unfold sumLen
  induction l with
  | nil => rfl
  | cons a l ih => simp only [List.map_cons, List.sum_cons, ih]; simp [Str.length]
theorem joinS (s : List Nat) (l : List (List Nat)) : Txt.join ⟨s.toArray⟩ (l.map fun s => (⟨s.toArray⟩ : Str)) = ⟨(TL.joinL s l).toArray⟩ := by
  have e := TL.tl_join ⟨s.toArray⟩ (l.map fun s => (⟨s.toArray⟩ : Str))
  rw [← TL.join_eq] at e
  have e2 : (l.map fun s => (⟨s.toArray⟩ : Str)).map TL.tl = l := by rw [List.map_map]; exact List.map_id' l
  rw [e2] at e
  exact TL.ext_tl e
theorem ge_join {o e : Expr} {apos pos : Pos} {mo ma : M D} (hK : X.K = c.K) (ho : GE X c wx o mo) (ha : GE X c wx e ma)
    (hpe : ∀ {to te : TE}, PE X o to → PE X e te → PE X (.Call (.Attribute o "join" apos) [e] [] pos) (tM1 (fun x xs H Q => ∃ a p, ∃ ys : List Str, x = .str a ∧ xs = [.ref p] ∧ (SqL X.K H p (ys.map V.str) ∨ SqT X.K H p (ys.map V.str)) ∧ (ys.map (·.length)).sum + ys.length * a.length ≤ 16777216 ∧ Q (.str (Txt.join a ys)) H) to te)) :
    GE X c wx (.Call (.Attribute o "join" apos) [e] [] pos) (mJoin mo ma) :=
  PE.imp (hpe ho ha) fun σ H Q ⟨W, ρ, h, r, l, p⟩ => tG_bind r l p fun d h1 v W1 H1 x1 r1 l1 a1 p1 => by
    cases d <;> first | exact False.elim p1 | skip
    rename_i s
    simp only [At] at a1
    subst a1
    refine ⟨⟨_, rfl⟩, ?_⟩
    refine tG_bind r1 l1 p1 fun e h2 u W2 H2 x2 r2 l2 a2 p2 => ?_
    obtain ⟨z, e1, k⟩ := fin_ok p2
    cases e <;> first | (simp only [gJoin] at e1; cases e1; done) | skip
    all_goals
      rename_i ds
      simp only [gJoin] at e1
      cases el : asSs ds with
      | none => rw [el] at e1; cases e1
      | some ls =>
        rw [el] at e1
        simp only at e1
        split at e1
        · rename_i hb
          cases e1
          simp only [At] at a2
          obtain ⟨q, vs, rfl, hq, al⟩ := a2
          have := asSs_at al el
          subst this
          refine ⟨⟨s.toArray⟩, q, ls.map fun s => (⟨s.toArray⟩ : Str), rfl, rfl, ?_, ?_, ?_⟩
          · first | exact .inl (.inl (r2.rd (.inl hq))) | exact .inr (by rw [hK]; exact r2.sqT hq)
          · rw [lens_S]
            simpa [Str.length, big] using hb
          · rw [joinS]
            exact k.str r2
        · cases e1
end
end DL

namespace DL
open PySem L2 PySem.Spec PyProof.Rows

theorem hu64 {k : Nat} {A : Around} (hr : Room k A) : A.units + 64 < cLine := by have := hr.un; omega
theorem hu65 {k : Nat} {A : Around} (hr : Room k A) : A.units + 65 < cLine := by have := hr.un; omega

theorem takesN0 {X : Cx} : L2N.Takes X (fun _ _ _ _ => False) := fun _ _ x => by
  obtain ⟨_, _, _, _, _, _, _, _, _, _, _, _, _, _, _, _, z⟩ := x
  exact z.elim

/-! ### min -/
def asIs : List D → Option (List Int)
  | [] => some []
  | .int b :: ds => match asIs ds with | some l => some (b :: l) | none => none
  | _ :: _ => none
theorem asIs_at {t : Tp} {W : Wd} : ∀ {ds : List D} {vs : List V} {l : List Int}, AtL t W ds vs → asIs ds = some l → vs = l.map V.int
  | [], vs, l, a, e => by simp only [AtL] at a; cases e; exact a
  | d :: ds, vs, l, a, e => by
    obtain ⟨v, r, rfl, h1, h2⟩ := a.uncons
    cases d <;> first | (simp only [asIs] at e; cases e; done) | skip
    simp only [asIs] at e
    cases e2 : asIs ds with
    | none => rw [e2] at e; cases e
    | some l' =>
      rw [e2] at e
      cases e
      simp only [At] at h1
      rw [h1, asIs_at h2 e2]
      rfl
def gMin : List D → Option D
  | [.tup ds] => match asIs ds with | some (x :: xs) => some (.int (xs.foldl min x)) | _ => none
  | [.lst ds] => match asIs ds with | some (x :: xs) => some (.int (xs.foldl min x)) | _ => none
  | _ => none
theorem foldl_min : ∀ (xs : List Int) (x : Int), (xs.foldl min x) ∈ x :: xs ∧ ∀ y ∈ x :: xs, xs.foldl min x ≤ y
  | [], x => by simp
  | a :: xs, x => by
    obtain ⟨h1, h2⟩ := foldl_min xs (min x a)
    rw [List.foldl_cons]
    constructor
    · rcases List.mem_cons.mp h1 with h | h
      · rw [h]
        by_cases q : x ≤ a
        · rw [Int.min_eq_left q]; simp
        · rw [Int.min_eq_right (by omega)]; simp
      · simp [h]
    · intro y hy
      have h3 := h2 (min x a) (by simp)
      rcases List.mem_cons.mp hy with h | h
      · subst h; omega
      · rcases List.mem_cons.mp h with h | h
        · subst h; omega
        · exact h2 y (by simp [h])
theorem reads_int {h : Heap} {v : Value} {k : Int} {as : List Addr} (r : Reads h v (.int k) as) : ∃ t, v = .int k t := by
  cases r
  exact ⟨_, rfl⟩
theorem dep_ints : ∀ xs : List Int, PyData.depthAll (xs.map PyData.int) ≤ 1
  | [] => by simp [PyData.depthAll]
  | x :: xs => by
    have := dep_ints xs
    simp only [List.map_cons, PyData.depthAll, PyData.depth]
    omega
theorem alike_ints (xs : List Int) : PySem.W.AlikeAll (xs.map PyData.int) := by
  refine ⟨fun x hx y hy => ?_, fun x hx => ?_⟩
  · obtain ⟨a, _, rfl⟩ := List.mem_map.mp hx
    obtain ⟨b, _, rfl⟩ := List.mem_map.mp hy
    rfl
  · obtain ⟨a, _, rfl⟩ := List.mem_map.mp hx
    exact fun z => nomatch z
section
variable {X : Cx} {c : Cc} {wx : WX}
theorem cg_min (hK : X.K = c.K) (hc : X.calm = true) (hu : X.A.units + 64 < cLine) : CallR X (.builtin "min") (rGC c gMin) := by
  intro pins s σ H xs us Q I rs ⟨W, h, ds, z, r, a, e, k⟩
  cases ds with
  | nil => cases e
  | cons d ds =>
    cases ds with
    | cons _ _ => cases d <;> cases e
    | nil =>
      cases d <;> first | (cases e; done) | skip
      · rename_i is
        simp only [gMin] at e
        cases e2 : asIs is with
        | none => rw [e2] at e; cases e
        | some l =>
          cases l with
          | nil => rw [e2] at e; cases e
          | cons y ys =>
            rw [e2] at e
            cases e
            obtain ⟨v1, vs, rfl, a1, a2⟩ := a.uncons
            simp only [AtL] at a2
            subst a2
            simp only [At] at a1
            obtain ⟨p, us', rfl, hp, al⟩ := a1
            have := asIs_at al e2
            subst this
            obtain ⟨its, rv, tl, _⟩ := I.tuple (by rw [hK]; exact r.sqT hp)
            rw [Vals.ref1 rs]
            have hi := rv.ints
            obtain ⟨o, g1, g2, n, g3⟩ := tl
            refine PySem.W.min_tuple_data (x := .int y) (xs := ys.map PyData.int) (I.ok.hd hc) ⟨o, g1, g2, n, g3⟩ (by simpa using hi.reads s.heap) (by simpa using alike_ints (y :: ys)) ?_ fun i v h' tk bs _ rd hk => ?_
            · have := dep_ints (y :: ys)
              simp only [List.map_cons] at this
              omega
            · rw [PySem.W.minD_ints] at rd
              obtain ⟨t, rfl⟩ := reads_int rd
              exact ⟨.int _, H, I.kept hk, ⟨_, rfl⟩, k.int r⟩
      · rename_i is
        simp only [gMin] at e
        cases e2 : asIs is with
        | none => rw [e2] at e; cases e
        | some l =>
          cases l with
          | nil => rw [e2] at e; cases e
          | cons y ys =>
            rw [e2] at e
            cases e
            obtain ⟨v1, vs, rfl, a1, a2⟩ := a.uncons
            simp only [AtL] at a2
            subst a2
            simp only [At] at a1
            obtain ⟨p, us', rfl, hp, al⟩ := a1
            have := asIs_at al e2
            subst this
            refine cr_min hc pins s σ H _ us Q I rs ⟨p, y :: ys, rfl, .inl (r.rd (.inl hp)), Nat.succ_pos _, fun m h1 h2 => ?_⟩
            obtain ⟨h3, h4⟩ := foldl_min ys y
            have : m = ys.foldl min y := Int.le_antisymm (h2 _ h3) (h4 _ h1)
            rw [this]
            exact k.int r
end

theorem sqTK {K : PySem.W.Frag} {H : Hp} {a : Addr} {xs : List V} (h : SqT K (fun _ => none) a xs) : SqT K H a xs := by
  rcases h with (z | ⟨o, z⟩) | z
  · cases z
  · cases z
  · exact .inr z
/-! ### the law's end -/
def okIn (ns : List Int) : Prop := ns.length ≤ 63
inductive isT : Out D → Prop
  | mk (h : Cells) : isT (.ok (.bl true) h)
def TrueAt (F : FS) : Prop := ∀ ns : List Int, okIn ns → isT (F [.lst (ns.map D.int)] []) ∧ isT (F [.klst (ns.map D.int)] [])
theorem isT_ok {o : Out D} (h : isT o) : ∃ h', o = .ok (.bl true) h' := by
  cases h
  exact ⟨_, rfl⟩
theorem ints_at {t : Tp} {W : Wd} : ∀ ns : List Int, AtL t W (ns.map D.int) (ns.map V.int)
  | [] => AtL.nil
  | x :: ns => AtL.cons (by simp only [At]) (ints_at ns)
theorem law_sp {c : Cc} {K : PySem.W.Frag} {F : FS} {H : Hp} {a : Addr} {ns : List Int} (hK : c.K = K) (hT : LamX.Tabs c.T H) (hF : TrueAt F) (hl : ns.length ≤ 63)
    (hs : SqL K H a (ns.map V.int)) : spD c 1 F [.ref a] H (fun v _ => v = .bl true) fun _ _ _ => False := by
  obtain ⟨t1, t2⟩ := hF ns hl
  refine ⟨rfl, ?_⟩
  rcases hs with hs | hs
  · obtain ⟨h', e⟩ := isT_ok t1
    refine ⟨⟨fun b => if b = a then some (.lst (ns.map V.int)) else none, []⟩, [], [.lst (ns.map D.int)], ⟨fun b o e => ?_, fun b o e => ?_, rfl, fun j m p e _ => ?_, List.nodup_nil, hT⟩, AtL.cons ?_ AtL.nil, ?_⟩
    · by_cases q : b = a
      · subst q
        simp at e
        subst e
        exact hs
      · simp [q] at e
    · by_cases q : b = a
      · subst q
        simp at e
        subst e
        exact True.intro
      · simp [q] at e
    · simp at e
    · simp only [At]
      exact ⟨a, _, rfl, by simp, ints_at ns⟩
    · rw [e]
      exact fun v W' H' _ _ x => by simpa only [At] using x
  · obtain ⟨h', e⟩ := isT_ok t2
    refine ⟨⟨fun b => none, []⟩, [], [.klst (ns.map D.int)], ⟨fun b o e => (nomatch e), fun b o e => (nomatch e), rfl, fun j m p e _ => ?_, List.nodup_nil, hT⟩, AtL.cons ?_ AtL.nil, ?_⟩
    · simp at e
    · simp only [At]
      exact ⟨a, _, rfl, by rw [hK]; exact .inr hs, ints_at ns⟩
    · rw [e]
      exact fun v W' H' _ _ x => by simpa only [At] using x
theorem noCX {P : Program} {w : World} {H : Hp} {s : Shared} {e : Value} {s' : Shared} (z : L2N.CX P w [] H s (fun _ _ _ => False) e s') : False := by
  obtain ⟨_, _, _, _, _, _, _, _, _, _, _, _, q⟩ := z
  exact q
/-- the def of the law: what is to be shown of a program without lambdas -/
theorem law_at {l : PySem.W.OpenLaw} {w : World} {K : PySem.W.Frag} {k : Nat} {x : Str} {mg : Str → Option Value} {fa : Addr} {h : Heap} {F : FS} {c : Cc} (hK : c.K = K) (hT : c.T = []) (hF : TrueAt F)
    (f : ∃ fd : FuncData, (∀ (s : Shared) (u : Value), BindsTo s fd ⟨[u], []⟩ [(x, u)]) ∧ ∀ base : Heap, K.In base → base.Ns mainGlobals mg → FnOk l.prog w K mg base (L2N.CX l.prog w) k fa fd [x] (spD c 1 F)) :
    LamX.LawAtS l w K (L2N.CX l.prog w) k 63 x mg fa h := by
  obtain ⟨fd, hb, hf⟩ := f
  exact ⟨fd, [], spD c 1 F, fun _ z => (nomatch z), fun _ z => (nomatch z), fun _ z => (nomatch z), hb, fun H a ns h1 h2 _ h4 => law_sp hK (by rw [hT]; exact fun _ z => (nomatch z)) hF h1 h4, fun base h1 h2 _ => hf base h1 h2⟩
end DL

/-! How the functions run: one step a rule. -/
namespace DL
open PySem L2
section
variable {α : Type} {ρ : Env} {h : Cells}
@[simp] theorem fin_some (z : α) : fin (some z) h = .ok z h := id rfl
@[simp] theorem fin_none : fin (none : Option α) h = .stuck := id rfl
@[simp] theorem mVar_ap (i : Nat) : mVar i ρ h = (match ρ[i]? with | some (some (.val d)) => .ok d h | _ => .stuck) := id rfl
@[simp] theorem mC_ap (d : D) : mC d ρ h = .ok d h := id rfl
@[simp] theorem mOp2_ap (g : D → D → Option D) (ma mb : M D) : mOp2 g ma mb ρ h = (ma ρ h).bind fun x h1 => (mb ρ h1).bind fun y h2 => fin (g x y) h2 := id rfl
@[simp] theorem mOp1_ap (g : D → Option D) (ma : M D) : mOp1 g ma ρ h = (ma ρ h).bind fun x h1 => fin (g x) h1 := id rfl
@[simp] theorem mNil_ap : mNil ρ h = .ok [] h := id rfl
@[simp] theorem mCons_ap (ma : M D) (mr : M (List D)) : mCons ma mr ρ h = (ma ρ h).bind fun x h1 => (mr ρ h1).bind fun xs h2 => .ok (x :: xs) h2 := id rfl
@[simp] theorem mCall_ap (g : List D → Option D) (ma : M (List D)) : mCall g ma ρ h = (ma ρ h).bind fun xs h1 => fin (g xs) h1 := id rfl
@[simp] theorem mAsB_ap (m : M D) : mAsB m ρ h = (m ρ h).bind fun x h1 => fin (asB x) h1 := id rfl
@[simp] theorem mTru_ap (m : M D) : mTru m ρ h = (m ρ h).bind fun x h1 => fin (truD x) h1 := id rfl
@[simp] theorem mAnd_ap (a b : M Bool) : mAnd a b ρ h = (a ρ h).bind fun x h1 => if x = true then b ρ h1 else .ok false h1 := id rfl
@[simp] theorem mOr_ap (a b : M Bool) : mOr a b ρ h = (a ρ h).bind fun x h1 => if x = true then .ok true h1 else b ρ h1 := id rfl
@[simp] theorem mNot_ap (a : M Bool) : mNot a ρ h = (a ρ h).bind fun x h1 => .ok (!x) h1 := id rfl
@[simp] theorem mAndV_ap (a b : M D) : mAndV a b ρ h = (a ρ h).bind fun x h1 => match x with | .bl true => b ρ h1 | .bl false => .ok (.bl false) h1 | _ => .stuck := id rfl
@[simp] theorem mOrV_ap (a b : M D) : mOrV a b ρ h = (a ρ h).bind fun x h1 => match x with | .bl true => .ok (.bl true) h1 | .bl false => b ρ h1 | _ => .stuck := id rfl
@[simp] theorem mNotV_ap (a : M D) : mNotV a ρ h = (a ρ h).bind fun x h1 => match x with | .bl b => .ok (.bl (!b)) h1 | _ => .stuck := id rfl
@[simp] theorem mIf_ap (t : M Bool) (a b : M D) : mIf t a b ρ h = (t ρ h).bind fun x h1 => if x = true then a ρ h1 else b ρ h1 := id rfl
@[simp] theorem mChain_ap (g g' : D → D → Option D) (ma mb mc : M D) : mChain g g' ma mb mc ρ h = (ma ρ h).bind fun x h1 => (mb ρ h1).bind fun y h2 => match g x y with
  | some (.bl true) => (mc ρ h2).bind fun z h3 => fin (g' y z) h3
  | some (.bl false) => .ok (.bl false) h2
  | _ => .stuck := id rfl
@[simp] theorem mBd_ap (m : M D) : mBd m ρ h = (m ρ h).bind fun d h1 => .ok (.d d) h1 := id rfl
@[simp] theorem mVarB_ap (i : Nat) : mVarB i ρ h = (match ρ[i]? with | some (some (.val d)) => .ok (.d d) h | some (some (.own m)) => .ok (.o m) h | _ => .stuck) := id rfl
@[simp] theorem mOpV_ap (g : D → D → Option D) (ma mb : M Bv) : mOpV g ma mb ρ h = (ma ρ h).bind fun x h1 => (mb ρ h1).bind fun y h2 => fin ((view h2 x).bind fun x => (view h2 y).bind fun y => g x y) h2 := id rfl
@[simp] theorem mCallV_ap (g : D → Option D) (ma : M Bv) : mCallV g ma ρ h = (ma ρ h).bind fun x h1 => fin ((view h1 x).bind g) h1 := id rfl
@[simp] theorem mPartN_ap : mPartN ρ h = .ok none h := id rfl
@[simp] theorem mPart_ap (m : M D) : mPart m ρ h = (m ρ h).bind fun d h1 => fin (asI d) h1 := id rfl
@[simp] theorem mSl_ap (ma : M Bv) (ml mh : M (Option Int)) : mSl ma ml mh ρ h = (ma ρ h).bind fun x h1 => (ml ρ h1).bind fun lo h2 => (mh ρ h2).bind fun hi h3 => fin ((view h3 x).bind (gSl lo hi)) h3 := id rfl
@[simp] theorem mNewL_ap (m : M (List D)) : mNewL m ρ h = (m ρ h).bind fun ds h1 => if ds.length ≤ big then .ok (.cel h1.length) (h1 ++ [.lst ds]) else .stuck := id rfl
@[simp] theorem mIt_ap (f : D → Option (List D)) (m : M D) : mIt f m ρ h = (m ρ h).bind fun d h1 => fin (f d) h1 := id rfl
@[simp] theorem mItL_ap (f : List D → Option (List D)) (m : M (List D)) : mItL f m ρ h = (m ρ h).bind fun d h1 => fin (f d) h1 := id rfl
@[simp] theorem mLc_ap (mi : M (List D)) (t : Tgt) (tt : M Bool) (te : M D) (vs : List Nat) : mLc mi t tt te vs ρ h = (mi ρ h).bind fun ds h1 => mLoop t tt te (wipeE ρ vs) ds [] h1 := id rfl
@[simp] theorem mLcV_ap (mi : M (List D)) (t : Tgt) (tt : M Bool) (te : M D) (vs : List Nat) : mLcV mi t tt te vs ρ h = (mi ρ h).bind fun ds h1 => (mLoop t tt te (wipeE ρ vs) ds [] h1).bind fun ds h1 => .ok (.lst ds) h1 := by
  show ((mi ρ h).bind fun ds h1 => mLoop t tt te (wipeE ρ vs) ds [] h1).bind _ = _
  cases mi ρ h <;> rfl
@[simp] theorem mTrue_ap : mTrue ρ h = .ok true h := id rfl
@[simp] theorem mFn_ap (F : FS) (ma : M (List D)) : mFn F ma ρ h = (ma ρ h).bind fun ds h1 => F ds h1 := id rfl
@[simp] theorem mJoin_ap (mo ma : M D) : mJoin mo ma ρ h = (mo ρ h).bind fun x h1 => match x with | .str _ => (ma ρ h1).bind fun y h2 => fin (gJoin x y) h2 | _ => .stuck := id rfl
@[simp] theorem sSeq_ap (a b : MS) : sSeq a b ρ h = (a ρ h).nxt b := id rfl
@[simp] theorem sNil_ap : sNil ρ h = .nx ρ h := id rfl
@[simp] theorem sIf_ap (t : M Bool) (a b : MS) : sIf t a b ρ h = SO.of (t ρ h) fun x h1 => if x = true then a ρ h1 else b ρ h1 := id rfl
@[simp] theorem sRet_ap (m : M D) : sRet m ρ h = SO.of (m ρ h) fun d h1 => .rt d h1 := id rfl
@[simp] theorem sRetN_ap : sRetN ρ h = .rt .non h := id rfl
@[simp] theorem sExpr_ap (m : M D) : sExpr m ρ h = SO.of (m ρ h) fun _ h1 => .nx ρ h1 := id rfl
@[simp] theorem sPass_ap : sPass ρ h = .nx ρ h := id rfl
@[simp] theorem sBreak_ap : sBreak ρ h = .bk ρ h := id rfl
@[simp] theorem sCont_ap : sCont ρ h = .ct ρ h := id rfl
@[simp] theorem sStuck_ap : sStuck ρ h = .stuck := id rfl
@[simp] theorem sSet_ap (i : Nat) (m : M D) : sSet i m ρ h = SO.of (m ρ h) fun d h1 => .nx (ρ.set i (some (.val d))) h1 := id rfl
@[simp] theorem sNewL_ap (i : Nat) (m : M (List D)) : sNewL i m ρ h = SO.of (m ρ h) fun ds h1 => if ds.length ≤ big then .nx (ρ.set i (some (.own (.lst ds)))) h1 else .stuck := id rfl
@[simp] theorem sApp_ap (i : Nat) (m : M D) : sApp i m ρ h = (match ρ[i]? with
  | some (some (.own (.lst ds))) => SO.of (m ρ h) fun d h1 => if ds.length < big then .nx (ρ.set i (some (.own (.lst (ds ++ [d]))))) h1 else .stuck
  | _ => .stuck) := id rfl
@[simp] theorem sFrz_ap (i : Nat) (m : MS) : sFrz i m ρ h = m (frzE ρ i) h := id rfl
@[simp] theorem tgN_ap (i : Nat) (d : D) : tgN i d ρ = some (ρ.set i (some (.val d))) := id rfl
@[simp] theorem tgNil_ap : tgNil [] ρ = some ρ := id rfl
@[simp] theorem tgCons_ap (t : Tgt) (u : Tgts) (d : D) (r : List D) : tgCons t u (d :: r) ρ = (t d ρ).bind fun ρ' => u r ρ' := id rfl
@[simp] theorem tgT_ap (n : Nat) (u : Tgts) (ds : List D) : tgT n u (.tup ds) ρ = if ds.length = n then u ds ρ else none := id rfl
@[simp] theorem sAsg_ap (t : Tgt) (m : M D) : sAsg t m ρ h = SO.of (m ρ h) fun d h1 => match t d ρ with | some ρ' => .nx ρ' h1 | none => .stuck := id rfl
@[simp] theorem sPar2_ap (i j : Nat) (ma mb : M D) : sPar2 i j ma mb ρ h = SO.of (ma ρ h) fun x h1 => SO.of (mb ρ h1) fun y h2 => .nx ((ρ.set i (some (.val x))).set j (some (.val y))) h2 := id rfl
@[simp] theorem sPar2L_ap (i j : Nat) (ma : M D) (mb : M (List D)) : sPar2L i j ma mb ρ h = SO.of (ma ρ h) fun x h1 => SO.of (mb ρ h1) fun y h2 => if y.length ≤ big then .nx ((ρ.set i (some (.val x))).set j (some (.own (.lst y)))) h2 else .stuck := id rfl
@[simp] theorem sPar3_ap (i j k : Nat) (ma mb mc : M D) : sPar3 i j k ma mb mc ρ h = SO.of (ma ρ h) fun x h1 => SO.of (mb ρ h1) fun y h2 => SO.of (mc ρ h2) fun z h3 => .nx (((ρ.set i (some (.val x))).set j (some (.val y))).set k (some (.val z))) h3 := id rfl
@[simp] theorem sSetC_ap (mo mi me : M D) : sSetC mo mi me ρ h = SO.of (me ρ h) fun d h1 => SO.of (mo ρ h1) fun o h2 => SO.of (mi ρ h2) fun i h3 => match setC h3 o i d with | some h4 => .nx ρ h4 | none => .stuck := id rfl
@[simp] theorem sFor_ap (mi : M (List D)) (t : Tgt) (b : MS) : sFor mi t b ρ h = SO.of (mi ρ h) fun ds h1 => sLoop t b ds ρ h1 := id rfl
@[simp] theorem sLoop_nil (t : Tgt) (b : MS) : sLoop t b [] ρ h = .nx ρ h := id rfl
@[simp] theorem calm_ok (a : α) : (Out.ok a h).calm = .ok a h := id rfl
@[simp] theorem mLoop_nil (t : Tgt) (tt : M Bool) (te : M D) (acc : List D) : mLoop t tt te ρ [] acc h = .ok acc h := id rfl
end
/-- one turn of a loop -/
def nxL (o : SO) (k : Env → Cells → SO) (_ : Hld k := .mk) : SO := match o with
  | .nx ρ h => k ρ h
  | .ct ρ h => k ρ h
  | .bk ρ h => .nx ρ h
  | o => o
@[simp] theorem nxL_nx (ρ : Env) (h : Cells) (k : Env → Cells → SO) : nxL (.nx ρ h) k = k ρ h := id rfl
@[simp] theorem nxL_ct (ρ : Env) (h : Cells) (k : Env → Cells → SO) : nxL (.ct ρ h) k = k ρ h := id rfl
@[simp] theorem nxL_bk (ρ : Env) (h : Cells) (k : Env → Cells → SO) : nxL (.bk ρ h) k = .nx ρ h := id rfl
@[simp] theorem nxL_rt (d : D) (h : Cells) (k : Env → Cells → SO) : nxL (.rt d h) k = .rt d h := id rfl
@[simp] theorem nxL_exc (d : Exc) (h : Cells) (k : Env → Cells → SO) : nxL (.exc d h) k = .exc d h := id rfl
theorem sLoop_cons (t : Tgt) (b : MS) (d : D) (ds : List D) (ρ : Env) (h : Cells) : sLoop t b (d :: ds) ρ h = match t d ρ with | none => .stuck | some ρ1 => nxL (b ρ1 h) (sLoop t b ds) := by
  simp only [sLoop]
  cases t d ρ with
  | none => rfl
  | some ρ1 => simp only; cases b ρ1 h <;> rfl
theorem mLoop_cons (t : Tgt) (tt : M Bool) (te : M D) (ρ : Env) (d : D) (ds acc : List D) (h : Cells) : mLoop t tt te ρ (d :: ds) acc h = match t d ρ with
    | none => .stuck
    | some ρ1 => (tt ρ1 h).calm.bind fun b h1 => if b = true then (te ρ1 h1).calm.bind fun x h2 => if acc.length < big then mLoop t tt te ρ ds (acc ++ [x]) h2 else .stuck else mLoop t tt te ρ ds acc h1 := rfl
/-- what a def's statements come to -/
def SO.res : SO → Out D
  | .nx _ h => .ok .non h
  | .rt d h => .ok d h
  | .exc x h => .exc x h
  | _ => .stuck
@[simp] theorem res_nx (ρ : Env) (h : Cells) : (SO.nx ρ h).res = .ok .non h := id rfl
@[simp] theorem res_rt (d : D) (h : Cells) : (SO.rt d h).res = .ok d h := id rfl
@[simp] theorem res_exc (d : Exc) (h : Cells) : (SO.exc d h).res = .exc d h := id rfl

/-! ### what one wants of it -/
inductive Gets {α : Type} : Out α → (α → Cells → Prop) → Prop
  | mk {a : α} {h : Cells} {P : α → Cells → Prop} : P a h → Gets (.ok a h) P
@[simp] theorem gets_ok {α : Type} {a : α} {h : Cells} {P : α → Cells → Prop} : Gets (.ok a h) P ↔ P a h := ⟨fun g => by cases g; assumption, .mk⟩
theorem Gets.of {α : Type} {o : Out α} {P : α → Cells → Prop} (g : Gets o P) : ∃ a h, o = .ok a h ∧ P a h := by
  cases g with
  | mk p => exact ⟨_, _, rfl, p⟩
theorem Gets.imp {α : Type} {o : Out α} {P Q : α → Cells → Prop} (g : Gets o P) (f : ∀ a h, P a h → Q a h) : Gets o Q := by
  obtain ⟨a, h, rfl, p⟩ := g.of
  exact .mk (f a h p)
inductive SP : SO → (Env → Cells → Prop) → (D → Cells → Prop) → Prop
  | nx {ρ : Env} {h : Cells} {N : Env → Cells → Prop} {R : D → Cells → Prop} : N ρ h → SP (.nx ρ h) N R
  | rt {d : D} {h : Cells} {N : Env → Cells → Prop} {R : D → Cells → Prop} : R d h → SP (.rt d h) N R
@[simp] theorem sp_nx {ρ : Env} {h : Cells} {N : Env → Cells → Prop} {R : D → Cells → Prop} : SP (.nx ρ h) N R ↔ N ρ h := ⟨fun g => by cases g; assumption, .nx⟩
@[simp] theorem sp_rt {d : D} {h : Cells} {N : Env → Cells → Prop} {R : D → Cells → Prop} : SP (.rt d h) N R ↔ R d h := ⟨fun g => by cases g; assumption, .rt⟩
theorem SP.imp {o : SO} {N N' : Env → Cells → Prop} {R R' : D → Cells → Prop} (g : SP o N R) (f : ∀ ρ h, N ρ h → N' ρ h) (f2 : ∀ d h, R d h → R' d h) : SP o N' R' := by
  cases g with
  | nx p => exact .nx (f _ _ p)
  | rt p => exact .rt (f2 _ _ p)
theorem SP.res {o : SO} {P : D → Cells → Prop} (g : SP o (fun _ h => P .non h) P) : Gets o.res P := by
  cases g with
  | nx p => exact .mk p
  | rt p => exact .mk p
theorem SP.nxt {o : SO} {f : Env → Cells → SO} {N : Env → Cells → Prop} {R : D → Cells → Prop} (g : SP o (fun ρ h => SP (f ρ h) N R) R) : SP (o.nxt f) N R := by
  cases g with
  | nx p => exact p
  | rt p => exact .rt p
theorem Gets.so {α : Type} {o : Out α} {f : α → Cells → SO} {N : Env → Cells → Prop} {R : D → Cells → Prop} (g : Gets o fun d h => SP (f d h) N R) : SP (SO.of o f) N R := by
  obtain ⟨a, h, rfl, p⟩ := g.of
  exact p
theorem Gets.bd {α β : Type} {o : Out α} {f : α → Cells → Out β} {P : β → Cells → Prop} (g : Gets o fun d h => Gets (f d h) P) : Gets (o.bind f) P := by
  obtain ⟨a, h, rfl, p⟩ := g.of
  exact p
/-- a loop by what holds ahead of each turn -/
theorem loop_sp {t : Tgt} {b : MS} {R : D → Cells → Prop} (I : Nat → Env → Cells → Prop) : ∀ (ds : List D) (n : Nat), (∀ i d ρ h, ds[i]? = some d → I (n + i) ρ h → ∃ ρ1, t d ρ = some ρ1 ∧ SP (b ρ1 h) (I (n + i + 1)) R) →
    ∀ ρ h, I n ρ h → SP (sLoop t b ds ρ h) (I (n + ds.length)) R
  | [], n, _, ρ, h, i0 => .nx i0
  | d :: ds, n, st, ρ, h, i0 => by
    obtain ⟨ρ1, e1, p⟩ := st 0 d ρ h rfl i0
    rw [sLoop_cons, e1]
    simp only
    generalize b ρ1 h = o at p
    cases p with
    | nx p =>
      rename_i ρ2 h2
      have := loop_sp I ds (n + 1) (fun i d ρ h e q => by
        have := st (i + 1) d ρ h (by simpa using e) (by rw [show n + (i + 1) = n + 1 + i by omega]; exact q)
        rw [show n + (i + 1) + 1 = n + 1 + i + 1 by omega] at this
        exact this) ρ2 h2 p
      rw [List.length_cons, show n + (ds.length + 1) = n + 1 + ds.length by omega]
      exact this
    | rt p => exact .rt p
/-- a comprehension likewise -/
theorem lc_gets {t : Tgt} {tt : M Bool} {te : M D} {ρ : Env} (I : Nat → List D → Cells → Prop) : ∀ (ds : List D) (n : Nat), (∀ i d acc h, ds[i]? = some d → I (n + i) acc h → ∃ ρ1, t d ρ = some ρ1 ∧ Gets (tt ρ1 h) fun b h1 =>
      if b = true then Gets (te ρ1 h1) fun x h2 => acc.length < big ∧ I (n + i + 1) (acc ++ [x]) h2 else I (n + i + 1) acc h1) → ∀ acc h, I n acc h → Gets (mLoop t tt te ρ ds acc h) (I (n + ds.length))
  | [], n, _, acc, h, i0 => .mk i0
  | d :: ds, n, st, acc, h, i0 => by
    obtain ⟨ρ1, e1, p⟩ := st 0 d acc h rfl i0
    have rest : ∀ acc h, I (n + 1) acc h → Gets (mLoop t tt te ρ ds acc h) (I (n + (d :: ds).length)) := fun acc h q => by
      have := lc_gets I ds (n + 1) (fun i d acc h e q => by
        have := st (i + 1) d acc h (by simpa using e) (by rw [show n + (i + 1) = n + 1 + i by omega]; exact q)
        rw [show n + (i + 1) + 1 = n + 1 + i + 1 by omega] at this
        exact this) acc h q
      rw [List.length_cons, show n + (ds.length + 1) = n + 1 + ds.length by omega]
      exact this
    rw [mLoop_cons, e1]
    simp only
    obtain ⟨b, h1, e2, p⟩ := p.of
    rw [e2]
    simp only [calm_ok, bind_ok]
    cases b with
    | false => exact rest _ _ p
    | true =>
      rw [if_pos rfl] at p ⊢
      obtain ⟨x, h2, e3, p1, p2⟩ := p.of
      rw [e3]
      simp only [calm_ok, bind_ok]
      rw [if_pos p1]
      exact rest _ _ p2
/-- a comprehension that changes nothing -/
theorem lc_pure {t : Tgt} {tt : M Bool} {te : M D} {ρ : Env} {h : Cells} (p : D → Bool) (f : D → D) : ∀ (ds acc : List D), acc.length + ds.length ≤ big → (∀ d ∈ ds, ∃ ρ1, t d ρ = some ρ1 ∧ tt ρ1 h = .ok (p d) h ∧ (p d = true → te ρ1 h = .ok (f d) h)) →
    mLoop t tt te ρ ds acc h = .ok (acc ++ (ds.filter p).map f) h
  | [], acc, _, _ => by simp
  | d :: ds, acc, hb, st => by
    obtain ⟨ρ1, e1, e2, e3⟩ := st d List.mem_cons_self
    rw [mLoop_cons, e1]
    simp only [e2, calm_ok, bind_ok]
    rw [List.length_cons] at hb
    cases q : p d with
    | false =>
      rw [if_neg Bool.false_ne_true, lc_pure p f ds acc (by omega) fun d hd => st d (List.mem_cons_of_mem _ hd), List.filter_cons, q, if_neg Bool.false_ne_true]
    | true =>
      rw [if_pos rfl, e3 q]
      simp only [calm_ok, bind_ok]
      rw [if_pos (by omega), lc_pure p f ds _ (by simp; omega) fun d hd => st d (List.mem_cons_of_mem _ hd), List.filter_cons, q, if_pos rfl, List.map_cons, List.append_assoc]
      rfl
theorem lc_map {t : Tgt} {te : M D} {ρ : Env} {h : Cells} (f : D → D) : ∀ (ds acc : List D), acc.length + ds.length ≤ big → (∀ d ∈ ds, ∃ ρ1, t d ρ = some ρ1 ∧ te ρ1 h = .ok (f d) h) → mLoop t mTrue te ρ ds acc h = .ok (acc ++ ds.map f) h := fun ds acc hb st => by
  rw [lc_pure (fun _ => true) f ds acc hb fun d hd => by
    obtain ⟨ρ1, e1, e2⟩ := st d hd
    exact ⟨ρ1, e1, rfl, fun _ => e2⟩]
  rw [List.filter_eq_self.mpr fun _ _ => rfl]
theorem gMul_l {i j : Int} (h : i.natAbs < 2 ^ 64) : gMul (.int i) (.int j) = some (.int (i * j)) := by
  show (if _ then _ else _) = _
  rw [if_pos (.inl (.inl h))]
theorem gMul_r {i j : Int} (h : j.natAbs < 2 ^ 64) : gMul (.int i) (.int j) = some (.int (i * j)) := by
  show (if _ then _ else _) = _
  rw [if_pos (.inl (.inr h))]
@[simp] theorem gMul_2l (j : Int) : gMul (.int 2) (.int j) = some (.int (2 * j)) := gMul_l (by decide)
@[simp] theorem gMul_2r (j : Int) : gMul (.int j) (.int 2) = some (.int (j * 2)) := gMul_r (by decide)
@[simp] theorem gAdd_int (i j : Int) : DL.gAdd (.int i) (.int j) = some (.int (i + j)) := id rfl
@[simp] theorem gSub_int (i j : Int) : DL.gSub (.int i) (.int j) = some (.int (i - j)) := id rfl
@[simp] theorem gLe_int (i j : Int) : gLe (.int i) (.int j) = some (.bl (decide (i ≤ j))) := id rfl
@[simp] theorem gLt_int (i j : Int) : gLt (.int i) (.int j) = some (.bl (decide (i < j))) := id rfl
@[simp] theorem gGe_int (i j : Int) : gGe (.int i) (.int j) = some (.bl (decide (j ≤ i))) := id rfl
@[simp] theorem gGt_int (i j : Int) : gGt (.int i) (.int j) = some (.bl (decide (j < i))) := id rfl
@[simp] theorem gEq_int (i j : Int) : gEq (.int i) (.int j) = some (.bl (decide (i = j))) := id rfl
@[simp] theorem gNe_int (i j : Int) : gNe (.int i) (.int j) = some (.bl (!decide (i = j))) := id rfl
@[simp] theorem gEq_str (i j : List Nat) : gEq (.str i) (.str j) = some (.bl (decide (i = j))) := id rfl
@[simp] theorem gNe_str (i j : List Nat) : gNe (.str i) (.str j) = some (.bl (!decide (i = j))) := id rfl
@[simp] theorem gEq_bl (i j : Bool) : gEq (.bl i) (.bl j) = some (.bl (decide (i = j))) := id rfl
@[simp] theorem gNe_bl (i j : Bool) : gNe (.bl i) (.bl j) = some (.bl (!decide (i = j))) := id rfl
@[simp] theorem gNeg_int (i : Int) : DL.gNeg (.int i) = some (.int (-i)) := id rfl
@[simp] theorem asB_bl (b : Bool) : asB (.bl b) = some b := id rfl
@[simp] theorem truD_bl (b : Bool) : truD (.bl b) = some b := id rfl
@[simp] theorem asI_int (i : Int) : asI (.int i) = some (some i) := id rfl
@[simp] theorem view_int (h : Cells) (i : Int) : view h (.d (.int i)) = some (.int i) := id rfl
@[simp] theorem view_str (h : Cells) (s : List Nat) : view h (.d (.str s)) = some (.str s) := id rfl
@[simp] theorem view_bl (h : Cells) (s : Bool) : view h (.d (.bl s)) = some (.bl s) := id rfl
@[simp] theorem view_tup (h : Cells) (s : List D) : view h (.d (.tup s)) = some (.tup s) := id rfl
@[simp] theorem view_lst (h : Cells) (s : List D) : view h (.d (.lst s)) = some (.lst s) := id rfl
@[simp] theorem view_non (h : Cells) : view h (.d .non) = some .non := id rfl
@[simp] theorem view_own (h : Cells) (s : List D) : view h (.o (.lst s)) = some (.lst s) := id rfl
theorem gLen_str {s : List Nat} (h : s.length ≤ big) : gLen (.str s) = some (.int s.length) := by
  show (if _ then _ else _) = _
  rw [if_pos h]
@[simp] theorem gLen_lst (s : List D) : gLen (.lst s) = some (.int s.length) := id rfl
@[simp] theorem gLen_tup (s : List D) : gLen (.tup s) = some (.int s.length) := id rfl
@[simp] theorem itAny_lst (s : List D) : itAny (.lst s) = some s := id rfl
@[simp] theorem itAny_tup (s : List D) : itAny (.tup s) = some s := id rfl
@[simp] theorem itAny_str (s : List Nat) : itAny (.str s) = some (s.map fun a => .str [a]) := id rfl
theorem itR1_nat {n : Nat} (h : n ≤ big) : itR1 [.int n] = some (rngL 0 n) := by
  show (if _ then _ else _) = _
  rw [if_pos (by unfold big at h; omega)]
  rfl
theorem rngL_len (lo : Int) (n : Nat) : (rngL lo n).length = n := by simp [rngL]
@[simp] theorem gIsi_int (i : Int) : gIsi [.int i, .ty "int"] = some (.bl true) := id rfl
@[simp] theorem gIsi_intb (i : Int) : gIsi [.int i, .ty "bool"] = some (.bl false) := id rfl
@[simp] theorem gIsi_str (i : List Nat) : gIsi [.str i, .ty "str"] = some (.bl true) := id rfl
theorem cutL_drop {α : Type} (xs : List α) (n : Nat) : cutL xs (some (n : Int)) none = xs.drop n := by
  unfold cutL
  rw [HT.sIx_nat, HT.sIx_none]
  by_cases h : n ≤ xs.length
  · rw [Nat.min_eq_left h, ← List.length_drop, List.take_length]
  · rw [Nat.min_eq_right (by omega), List.drop_eq_nil_of_le (Nat.le_refl _), List.drop_eq_nil_of_le (by omega)]; simp
theorem cutL_take {α : Type} (xs : List α) (n : Nat) : cutL xs none (some (n : Int)) = xs.take n := by
  unfold cutL
  rw [HT.sIx_nat, HT.sIx_none]
  by_cases h : n ≤ xs.length
  · rw [Nat.min_eq_left h]; simp
  · rw [Nat.min_eq_right (by omega), List.take_of_length_le (show xs.length ≤ n by omega)]; simp
theorem gSl_drop {s : List Nat} (h : s.length ≤ big) (n : Nat) : gSl (some (n : Int)) none (.str s) = some (.str (s.drop n)) := by
  show (if _ then _ else _) = _
  rw [if_pos h, cutL_drop]
theorem gSl_take {s : List Nat} (h : s.length ≤ big) (n : Nat) : gSl none (some (n : Int)) (.str s) = some (.str (s.take n)) := by
  show (if _ then _ else _) = _
  rw [if_pos h, cutL_take]
theorem gSlL_drop (s : List D) (n : Nat) : gSl (some (n : Int)) none (.lst s) = some (.lst (s.drop n)) := by
  show some (D.lst _) = _
  rw [cutL_drop]
theorem gSlL_take (s : List D) (n : Nat) : gSl none (some (n : Int)) (.lst s) = some (.lst (s.take n)) := by
  show some (D.lst _) = _
  rw [cutL_take]
theorem gIx_str {s : List Nat} (h : s.length ≤ big) {j x : Nat} (e : s[j]? = some x) : gIx (.str s) (.int (j : Int)) = some (.str [x]) := by
  show (if _ then _ else _) = _
  rw [if_pos h, L2.atI_nat e]
theorem gIx_lst {s : List D} {j : Nat} {x : D} (e : s[j]? = some x) : gIx (.lst s) (.int (j : Int)) = some x := L2.atI_nat e
theorem gIx_tup {s : List D} {j : Nat} {x : D} (e : s[j]? = some x) : gIx (.tup s) (.int (j : Int)) = some x := L2.atI_nat e
theorem gets_eq {α : Type} {o : Out α} {a : α} {h : Cells} (g : Gets o fun d h' => d = a ∧ h' = h) : o = .ok a h := by
  obtain ⟨_, _, rfl, rfl, rfl⟩ := g.of
  rfl
theorem gTup_le {xs : List D} (h : xs.length ≤ big) : gTup xs = some (.tup xs) := by
  show (if _ then _ else _) = _
  rw [if_pos h]
theorem gLst_le {xs : List D} (h : xs.length ≤ big) : gLst xs = some (.lst xs) := by
  show (if _ then _ else _) = _
  rw [if_pos h]
@[simp] theorem gTup_2 (a b : D) : gTup [a, b] = some (.tup [a, b]) := gTup_le (by show 2 ≤ big; decide)
@[simp] theorem gTup_3 (a b c : D) : gTup [a, b, c] = some (.tup [a, b, c]) := gTup_le (by show 3 ≤ big; decide)
@[simp] theorem gTup_4 (a b c d : D) : gTup [a, b, c, d] = some (.tup [a, b, c, d]) := gTup_le (by show 4 ≤ big; decide)
@[simp] theorem gLst_0 : gLst [] = some (.lst []) := gLst_le (by show 0 ≤ big; decide)
@[simp] theorem gLst_1 (a : D) : gLst [a] = some (.lst [a]) := gLst_le (by show 1 ≤ big; decide)
@[simp] theorem gLst_2 (a b : D) : gLst [a, b] = some (.lst [a, b]) := gLst_le (by show 2 ≤ big; decide)
@[simp] theorem gLst_3 (a b c : D) : gLst [a, b, c] = some (.lst [a, b, c]) := gLst_le (by show 3 ≤ big; decide)
@[simp] theorem gLst_4 (a b c d : D) : gLst [a, b, c, d] = some (.lst [a, b, c, d]) := gLst_le (by show 4 ≤ big; decide)
theorem rngL_get {lo : Int} {n i : Nat} {d : D} (e : (rngL lo n)[i]? = some d) : i < n ∧ d = .int (lo + (i : Int)) := by
  unfold rngL at e
  rw [List.getElem?_map] at e
  by_cases h : i < n
  · rw [List.getElem?_range h] at e
    cases e
    exact ⟨h, rfl⟩
  · rw [List.getElem?_eq_none (by simp; omega)] at e
    cases e
end DL

/-! More statements: a list of its own by +. -/
namespace DL
open PySem L2 PySem.Spec PyProof.Rows
section
variable {X : Cx} {c : Cc} {wx : WX}
def rCatP (K : PySem.W.Frag) : R2 := fun x y H Q => ∃ l b xs zs, x = .ref l ∧ y = .ref b ∧ SqL K H l xs ∧ SqL K H b zs ∧ xs.length + zs.length ≤ sizeLine ∧ ∀ p, H p = none → Q (.ref p) (upd H p (.lst (xs ++ zs)))
theorem op_catP : OpR X (binaryOp .Add) (rCatP X.K) := by
  intro pins s σ H x y v u Q I rx ry ⟨l, b, xs, zs, e1, e2, q1, q2, hz, q⟩
  subst e1 e2
  cases rx
  cases ry
  obtain ⟨its, r1, pl, _⟩ := I.list q1
  obtain ⟨its2, r2, pl2, _⟩ := I.list q2
  refine add_plain pl pl2 ?_ (by rw [List.size_toArray, List.size_toArray, ← r1.length, ← r2.length]; exact hz)
  rw [List.append_toArray]
  exact ⟨.ref _, _, I.lnew (t' := s.toks) (r1.append r2) (by rw [List.length_append]; exact hz), rfl, q _ I.fresh⟩
def sOwnCat (i : Nat) (ma : M Bv) (mb : M (List D)) : MS := fun ρ h => SO.of (ma ρ h) fun x h1 => SO.of (mb ρ h1) fun ys h2 => match view h2 x with
  | some (.lst xs) => if xs.length + ys.length ≤ big then .nx (ρ.set i (some (.own (.lst (xs ++ ys))))) h2 else .stuck
  | _ => .stuck
theorem gs_ownCat {i : Nat} {x : Str} {a : Expr} {es : List Expr} {pos pos' p2 p3 : Pos} {ma : M Bv} {mb : M (List D)} (hK : X.K = c.K) (ha : GB X c wx a ma) (hb : GA X c wx es mb) (hN : X.N.Nodup) (hi : X.N[i]? = some x := by rfl) (hx : L2.Loc X.env.scope x := by first | exact Or.inl rfl | exact Or.inr rfl)
    (hs : swapsWith (.BinOp a .Add (.List es p2) p3) (some (.Name x pos')) pos.line X.env = pure false := by rfl) (hf : X.fn x = true ∨ X.env.scope.names.lookup x = some .local := by first | exact .inl rfl | exact .inr rfl) :
    GS X c wx (.Assign [.Name x pos'] (.BinOp a .Add (.List es p2) p3) pos) (sOwnCat i ma mb) :=
  PS.imp (ps_set hN hi hx (pe_op op_catP ha (pe_lst hb)) hs hf) fun D σ H ⟨B, W, ρ, h, s, p⟩ => S_bind s p fun d h1 v W1 H1 x1 s1 a1 p1 => S_bind s1 p1 fun ys h2 vs W2 H2 x2 s2 a2 p2 => by
    cases ev : view h2 d with
    | none => rw [ev] at p2; exact False.elim p2
    | some z =>
      rw [ev] at p2
      cases z <;> first | exact False.elim p2 | skip
      rename_i xs
      by_cases hl : xs.length + ys.length ≤ big
      · have p3 : SPost c wx B (if xs.length + ys.length ≤ big then SO.nx (ρ.set i (some (.own (.lst (xs ++ ys))))) h2 else .stuck) D := p2
        rw [if_pos hl] at p3
        obtain ⟨l, us, ev1, rd, al⟩ := VAt.see s2.r ev (BAt.ext x2 a1)
        have l1 := al.length
        have l2 := AtL.length a2
        refine ⟨big_le (by rw [← l2]; omega), fun q hq => ?_⟩
        have old : Rd (upd H2 q (.lst vs)) l (.lst us) := rd.imp (fun z => by rw [upd_ne (ne_of_none z hq)]; exact z) fun ⟨o, z⟩ => ⟨o, by rw [upd_ne (ne_of_none z hq)]; exact z⟩
        refine ⟨l, q, us, vs, ev1, rfl, .inl old, .inl (.inl upd_same), big_le (by rw [← l1, ← l2]; exact hl), fun t ht => ?_⟩
        have htq : t ≠ q := fun z => by rw [z, upd_same] at ht; cases ht
        have ht2 : H2 t = none := by rw [upd_ne htq] at ht; exact ht
        have s3 : SR c B W2 ρ h2 σ (upd H2 q (.lst vs)) := s2.ext (ext_free (o := .lst vs) s2.r hq) (s2.r.free hq)
        exact p3 W2 _ _ (new_own s3 ht (AtL.append al a2))
      · have p3 : SPost c wx B (if xs.length + ys.length ≤ big then SO.nx (ρ.set i (some (.own (.lst (xs ++ ys))))) h2 else .stuck) D := p2
        rw [if_neg hl] at p3
        exact False.elim p3
end
end DL

/-! While an exception is handled: a list's and a zip's end, zip as an iterable, a list comprehension. -/
namespace DH
open PySem PySem.Spec PyProof.Rows L2 HotX L2H
section
variable {pr : Program} {w : World} {A : Around} {E : Value → Shared → Prop} {s : Shared}
/-- next of a list's iterator at its end: StopIteration, its context told -/
theorem end_list {it l x1 : Addr} {i : Nat} {items : Array Value} {Q : Value → Shared → Prop} (hot : HotAt A x1 s.heap) (n1 : x1 ≠ it) (hi : s.heap.IsListIter it l i) (hl : s.heap.IsList l items) (hx : items[i]? = none)
    (hE : ∀ h' e, Heap.ExtBut it s.heap h' → (∃ o, h'.get? e = some o ∧ o.cls = .type "StopIteration") → E (.ref e) { s with heap := h' }) :
    wpAny (model pr w) A (Builtin.SmallTypes.nextOf (.ref it)) Q E s := by
  obtain ⟨hh, o1, vs1, g1, d1, c1⟩ := hot
  obtain ⟨oi, gi, ci, di⟩ := id hi
  obtain ⟨ol, gl, cl, nl, dl⟩ := hl
  unfold Builtin.SmallTypes.nextOf
  refine wpAny_bind (wpAny_callSpecial?_slot (name := Str.ofString "__next__") hi.typeIs slot_listiter_next (wpAny_call_entry slot_listiter_next hi.typeIs entry_listiter_next ?goal (args_listiter_next _)))
  case goal =>
    show wpAny _ _ (field (.ref it) 0 >>= _) _ _ s
    refine wpAny_bind (wpAny_field gi di (x := .ref l) rfl ?_)
    show wpAny _ _ (if (Value.ref l == Value.none) = true then _ else _) _ _ s
    have nn : ¬ (Value.ref l == Value.none) = true := Bool.false_ne_true
    rw [if_neg nn]
    show wpAny _ _ (field (.ref it) 1 >>= _) _ _ s
    refine wpAny_bind (wpAny_field gi di (x := .int i 0) rfl ?_)
    show wpAny _ _ (seqItems? (.ref l) >>= _) _ _ s
    refine wpAny_bind (wpAny_seqItems gl dl ?_)
    simp only [Int.toNat_natCast, hx]
    refine wpAny_bind (wpAny_rule (wpAny_bind (wpAny_setField gi di (by simp) ?_)))
    show wpAny _ _ (newExc (.type "StopIteration") [] >>= _) _ _ _
    refine wpAny_bind ?_
    simp only [newExc, newTuple]
    refine wpAny_bind (wpAny_newObj_type ?_ (by size_fits))
    refine wpAny_bind (m := firstArgMember _ _) (wpAny_of_eq (a := Value.none) (by first | rfl | (simp only [firstArgMember]; rfl)) ?_)
    refine wpAny_newObj_type ?_ (by size_fits)
    have u1 : (s.heap.update it (Obj.mapFields fun a => a.setIfInBounds 0 Value.none)).get? x1 = some o1 := by
      rw [Heap.get?_update_other _ _ n1.symm]; exact g1
    refine raiseNew_hot (x1 := x1) ⟨hh, o1, vs1, Heap.get?_push_of_some _ (Heap.get?_push_of_some _ u1), d1, c1⟩ (Nat.ne_of_lt (Heap.lt_size (Heap.get?_push_of_some _ u1))) (Heap.get?_push_size _ rfl) rfl (by first | (simp; done) | (simp; omega)) ?_
    refine hE _ _ (fun b o hb e => ?_) ⟨_, Heap.get?_update_self _ (Heap.get?_push_size _ rfl) rfl, rfl⟩
    have e1 : (s.heap.update it (Obj.mapFields fun a => a.setIfInBounds 0 Value.none)).get? b = some o := by
      rw [Heap.get?_update_other _ _ (Ne.symm hb)]; exact e
    rw [Heap.get?_update_other _ _ (Nat.ne_of_gt (Heap.lt_size (Heap.get?_push_of_some _ e1)))]
    exact Heap.get?_push_of_some _ (Heap.get?_push_of_some _ e1)
/-- a zip's next where its first list is through -/
theorem end_zip {z TI TO i1 i2 l1 l2 x1 : Addr} {k1 : Nat} {xs : Array Value} {Q : Option Value → Shared → Prop} (hot : HotAt A x1 s.heap) (nz : x1 ≠ z) (n1 : x1 ≠ i1) (D : ZipApart z TI TO i1 i2 l1 l2)
    (hz : IsZip s.heap z TI TO .none) (hTI : IsPair s.heap TI (.ref i1) (.ref i2)) (h1 : s.heap.IsListIter i1 l1 k1) (hl1 : s.heap.IsList l1 xs) (hend : xs[k1]? = none)
    (hQ : ∀ h', (∀ c o, c ≠ z → c ≠ i1 → s.heap.get? c = some o → h'.get? c = some o) → Q none { s with heap := h' }) : wpAny (model pr w) A (pyNext (.ref z)) Q E s := by
  have hT : s.TypeIs (.ref z) "zip" := ⟨_, hz, rfl⟩
  obtain ⟨hh, o1, vs1, g1, d1, c1⟩ := hot
  unfold pyNext
  refine wpAny_bind (wpAny_attempt (wpAny_callSpecial?_slot (name := Str.ofString "__next__") hT F.slot_zip_next (wpAny_call_entry F.slot_zip_next hT F.entry_zip_next ?goal (F.args_zip_next_1 _))))
  case goal =>
    show wpAny _ _ (field (.ref z) 2 >>= _) _ _ _
    refine wpAny_bind (wpAny_field hz rfl (x := .bool false) rfl ?_)
    show wpAny _ _ (field (.ref z) 3 >>= _) _ _ _
    refine wpAny_bind (wpAny_field hz rfl (x := .ref TI) rfl (wpAny_bind (wpAny_seqItems hTI rfl ?_)))
    show wpAny _ _ (Builtin.SmallTypes.ownedTupleIsFree (.ref z) >>= _) _ _ _
    refine wpAny_bind ?_
    unfold Builtin.SmallTypes.ownedTupleIsFree
    refine wpAny_bind (wpAny_field hz rfl (x := .none) rfl (wpAny_pure ?_))
    simp only [if_true]
    refine wpAny_bind (wpAny_rule (wpAny_bind (wpAny_field hz rfl (x := .ref TO) rfl ?_)))
    refine wpAny_bind (wpAny_setField_rec hz (by simp) fun h2 hz2 hs2 => ?_)
    refine wpAny_bind ?_
    simp only [List.zipIdx_cons, List.zipIdx_nil, List.forIn_cons, List.forIn_nil]
    refine wpAny_bind (wpAny_bind (wpAny_onRaise ?_))
    show wpAny _ _ (Builtin.SmallTypes.nextOf (.ref i1) >>= _) _ _ _
    refine wpAny_bind (end_list (s := { s with heap := h2 }) (x1 := x1) ⟨hh, o1, vs1, hs2.extBut _ _ nz g1, d1, c1⟩ n1 (h1.extBut hs2.extBut D.i1z) (hl1.extBut hs2.extBut D.l1z) hend fun h3 e x3 he => ?_)
    obtain ⟨oe, ge, ce⟩ := he
    have z3 : IsZip h3 z TI TO .ellipsis := x3 _ _ D.i1z.symm hz2
    have ez : e ≠ z := fun q => by
      subst q
      rw [z3] at ge
      cases ge
      simp at ce
    refine wpAny_setField_rec z3 (by simp) fun h4 _ hs4 => ?_
    refine wpAny_bind (wpAny_isInstance (T := "StopIteration") (b := true) ⟨oe, hs4.extBut _ _ ez ge, ce⟩ isSubtype_stop ?_)
    exact wpAny_pure (hQ _ fun c o m1 m2 g => hs4.extBut _ _ m1 (x3 _ _ m2 (hs2.extBut _ _ m1 g)))
end
theorem five {α : Type} {c a1 a2 a3 a4 a5 : α} (h : c ∈ [a1, a2, a3, a4, a5]) {p : α → Prop} (h1 : p a1) (h2 : p a2) (h3 : p a3) (h4 : p a4) (h5 : p a5) : p c := by
  simp only [List.mem_cons, List.not_mem_nil, or_false] at h
  rcases h with rfl | rfl | rfl | rfl | rfl <;> assumption
/-- two lists in step, while an exception is handled: the first one no longer than the second -/
def ItZ (K : PySem.W.Frag) (a b : Addr) : It where
  go := fun i H => ∃ (xs ys : List V) (x y : V), SqL K H a xs ∧ SqL K H b ys ∧ xs[i]? = some x ∧ ys[i]? = some y
  yld := fun i H v H' => ∃ T x y, v = .ref T ∧ H T = none ∧ H' = upd H T (.tup [x, y]) ∧ (∀ xs, SqL K H a xs → xs[i]? = some x) ∧ ∀ ys, SqL K H b ys → ys[i]? = some y
  stop := fun i H => ∃ xs ys : List V, SqL K H a xs ∧ SqL K H b ys ∧ xs.length ≤ i
theorem turn_z {P : Program} {w : World} {K : PySem.W.Frag} {es : List Expr} {kk : Nat} {tp : Pos} {a b z TI TO i1 i2 : Addr} (D : ZipApart z TI TO i1 i2 a b) :
    TurnH P w K (.Tuple es kk tp) (ItZ K a b) [z, TI, TO, i1, i2] z (fun i h => IsZip h z TI TO .none ∧ IsPair h TI (.ref i1) (.ref i2) ∧ (∃ x y, IsPair h TO x y) ∧ h.IsListIter i1 a i ∧ h.IsListIter i2 b i) where
  mem := by simp
  obj := fun i h ⟨s1, s2, ⟨x, y, s3⟩, ⟨o1, e1, _, d1⟩, o2, e2, _, d2⟩ c hc =>
    five hc (p := fun c => ∃ o, h.get? c = some o ∧ ∀ v, o.data ≠ .cell v) ⟨_, s1, fun v q => nomatch q⟩ ⟨_, s2, fun v q => nomatch q⟩ ⟨_, s3, fun v q => nomatch q⟩ ⟨o1, e1, fun v q => by rw [d1] at q; cases q⟩ ⟨o2, e2, fun v q => by rw [d2] at q; cases q⟩
  keep := fun i h h' ⟨s1, s2, ⟨x, y, s3⟩, s4, s5⟩ k =>
    ⟨k _ (by simp) _ s1, k _ (by simp) _ s2, ⟨x, y, k _ (by simp) _ s3⟩, s4.at fun o q => k _ (by simp) o q, s5.at fun o q => k _ (by simp) o q⟩
  item := by
    intro X hP hw hK hc i pins s σ H E I hf ⟨s1, s2, ⟨x0, y0, s3⟩, s4, s5⟩ ⟨xs, ys, x, y, qx, qy, ex, ey⟩
    subst hP hw hK
    obtain ⟨us, ru, pu, _⟩ := I.list qx
    obtain ⟨vs, rv, pv, _⟩ := I.list qy
    obtain ⟨u, gu, ru1⟩ := ru.get ex
    obtain ⟨v, gv, rv1⟩ := rv.get ey
    have zl : z < s.heap.objs.size := Heap.lt_size s1
    refine wpAny_pyNext_zip_item D s1 s2 s3 s4 s5 pu.isList pv.isList (x := u) (y := v) (by simpa using gu) (by simpa using gv) fun h1 z1 t1 a1 b1 n1 _ k1 => ⟨_, rfl, ?_⟩
    refine wpAny_letOwnedTupleGo_zip (s := { s with heap := h1 }) z1 fun h2 z2 sb => ?_
    have out : ∀ {c : Addr}, c ∉ [z, TI, TO, i1, i2] → c ≠ z ∧ c ≠ TO ∧ c ≠ i1 ∧ c ≠ i2 := fun {c} n => by
      simp only [List.mem_cons, List.not_mem_nil, or_false, not_or] at n
      exact ⟨n.1, n.2.2.1, n.2.2.2.1, n.2.2.2.2⟩
    have nw : ObjOk X.prog X.w (upd H s.heap.objs.size (.tup [x, y])) h2 s.heap.objs.size (.tup [x, y]) :=
      ⟨by show 2 ≤ sizeLine; decide, [u, v], .cons ru1 (.cons rv1 .nil), _, (sb.2 _ (Nat.ne_of_gt zl)).trans n1, rfl, _, rfl⟩
    have J : Inv X pins σ (upd H s.heap.objs.size (.tup [x, y])) { s with heap := h2 } := I.turnedNew (t' := s.toks) (ch := [z, TI, TO, i1, i2]) (fun c o n q => by
      obtain ⟨m1, m2, m3, m4⟩ := out n
      exact (sb.2 c m1).trans (k1 c o m1 m2 m3 m4 q)) hf (Nat.le_refl _) nw
    refine ⟨.ref s.heap.objs.size, _, J, rfl, ⟨_, x, y, rfl, I.hok.fresh (Nat.le_refl _), rfl, fun l hl => by rw [I.list_inj hl qx]; exact ex, fun l hl => by rw [I.list_inj hl qy]; exact ey⟩, ⟨z2, (sb.2 _ D.TIz).trans (k1 _ _ D.TIz D.TITO D.TIi1 D.TIi2 s2), ⟨u, v, (sb.2 _ D.TOz).trans t1⟩, a1.at fun o q => (sb.2 _ D.i1z).trans q, b1.at fun o q => (sb.2 _ D.i2z).trans q⟩, fun c hcm => ?_⟩
    have lt : c < s.heap.objs.size := five hcm (p := fun c => c < s.heap.objs.size) zl (Heap.lt_size s2) (Heap.lt_size s3) (let ⟨_, e, _⟩ := s4; Heap.lt_size e) (let ⟨_, e, _⟩ := s5; Heap.lt_size e)
    rw [upd_ne (Nat.ne_of_lt lt)]
    exact (hf c hcm).1
  done := by
    intro X hP hw hK hc i pins s σ H E I hf ⟨s1, s2, ⟨x0, y0, s3⟩, s4, s5⟩ ⟨xs, ys, qx, qy, hend⟩
    subst hP hw hK
    obtain ⟨p, ⟨hh, v1, dp, cp⟩, hp⟩ := hc
    have P1 := I.pin p (List.mem_append_left _ hp)
    obtain ⟨us, ru, pu, _⟩ := I.list qx
    have l1 := ru.length
    have nin : ∀ c ∈ [z, TI, TO, i1, i2], p.1 ≠ c := fun c hcm q => (hf c hcm).2.2.2.2.2 p (List.mem_append_left _ hp) q
    exact end_zip ⟨hh, p.2, v1, P1.1, dp, cp⟩ (nin z (by simp)) (nin i1 (by simp)) D s1 s2 s4 pu.isList (by simp; omega) fun h1 k1 => ⟨rfl, I.turnedL (t' := s.toks) (ch := [z, TI, TO, i1, i2]) (fun c o n q => k1 c o (fun e => n (by simp [e])) (fun e => n (by simp [e])) q) hf⟩
  self := fun A i s Q E st h => wpAny_pyIter_zip st.1 h
/-- zip(a, b) -/
def iZ (K : PySem.W.Frag) (ta : TA) : TI := fun σ H R => ta σ H fun vs H1 => ∃ a b xs ys, vs = [.ref a, .ref b] ∧ SqL K H1 a xs ∧ SqL K H1 b ys ∧ R (ItZ K a b) H1
theorem pi_z {X : Cx} {e e2 : Expr} {ta : TA} {p pos tp : Pos} {es : List Expr} {kk : Nat} (hg : Gl X "zip") (hm : X.mg "zip" = none) (ha : PA X [e, e2] ta)
    (h1 : starEach [e, e2] X.env = (false, eval e X.env) :: starEach [e2] X.env := by rfl) (h2 : (backTo pos (starEach [e2] X.env)).any (·.1) = false := by rfl) :
    PIH X (.Tuple es kk tp) (.Call (.Name "zip" p) [e, e2] [] pos) (iZ X.K ta) := ⟨fun pins s σ H R I h => by
  refine Call_ (ld_blt I hg hm PyProof.Rows.boot_zip (PyProof.Rows.callWith_type1 (thn (ha.run pos pins s σ H _ I h) fun us s1 ⟨vs, H1, I1, r1, a, b, xs, ys, ev, qx, qy, q⟩ => ?_) h1 h2))
  subst ev
  cases r1 with
  | cons ra rr =>
  cases rr with
  | cons rb rr =>
    cases rr
    cases ra
    cases rb
    obtain ⟨us, ru, pu, _⟩ := I1.list qx
    obtain ⟨vs, rv, pv, _⟩ := I1.list qy
    refine call_zip_2 pu.isList pv.isList fun h3 z1 z2 z3 z4 z5 _ k3 => wpAny_pyIter_zip z1 ?_
    have ge : ∀ c ∈ [s1.heap.objs.size + 4, s1.heap.objs.size + 2, s1.heap.objs.size + 3, s1.heap.objs.size, s1.heap.objs.size + 1], s1.heap.objs.size ≤ c := fun c hc => five hc (p := fun c => s1.heap.objs.size ≤ c) (by omega) (by omega) (by omega) (by omega) (by omega)
    exact ⟨_, _, _, _, H1, rfl, I1.kept (t' := s1.toks) k3, turn_z (PySem.W.ktu_apart s1.heap.objs.size a b pu.lt pv.lt), ⟨z1, z2, ⟨_, _, z3⟩, z4, z5⟩, fun c hc => I1.fpOk (ge c hc) (I1.hok.fresh (ge c hc)), q⟩⟩

/-! ### a list comprehension -/
/-- its block's context: the exception that is handled stays told -/
abbrev hblk (X : Cx) (s : Shared) (H : Hp) (scope : Scope) (ce : PySem.Env) (fp : List Addr) : Cx := { X.blk s H scope ce fp with pn := X.pn }
theorem fs_stk {X : Cx} (ok : X.Ok) {b : Addr} (h : b ∈ frs X.stack) : b = X.env.locals ∨ b ∈ X.fs := by
  rcases ok.stk with e | ⟨e, e2⟩
  · rw [e] at h; exact .inr h
  · rw [e] at h
    obtain ⟨v, hv, q⟩ := List.mem_filterMap.mp h
    rcases List.mem_cons.mp hv with rfl | hv
    · rw [e2] at q; exact .inl (Option.some.inj q).symm
    · exact .inr (List.mem_filterMap.mpr ⟨v, hv, q⟩)
theorem up_blk {X : Cx} {σ : L2.St} {H H0 : Hp} {s s0 : Shared} {scope : Scope} {ce : PySem.Env} {fp : List Addr} (I : Inv (X.blk s0 H0 scope ce fp) [] σ H s)
    (hp : ∀ q ∈ X.pn, s.heap.get? q.1 = some q.2 ∧ H q.1 = none ∧ q.1 ≠ ce.locals ∧ q.1 ∉ frs X.stack ∧ ∀ v, q.2.data ≠ .cell v) : Inv (hblk X s0 H0 scope ce fp) [] σ H s :=
  ⟨⟨I.ok.mod, I.ok.kind, I.ok.glob, I.ok.blt, I.ok.above, I.ok.inj, I.ok.has, I.ok.cab, I.ok.hd, I.ok.frames, I.ok.stk, I.ok.exf, I.ok.bs, I.ok.bsz, I.ok.noex, I.ok.exfs, I.ok.funs, I.ok.frf⟩,
    I.os, I.bare, I.base, I.loc, I.cell, I.free, I.freeC, fun q hq => hp q (by simpa using (show q ∈ X.pn ++ ([] : List (Addr × Obj)) from hq)), I.hok, I.len⟩
def tZc (wi : TI) (g : TG) (tt : TT) (te : TE) (vs : List Nat) : TE := fun σ H Q => wi σ H fun J H1 => ∀ D, H1 D = none → ∃ W : Nat → Nat → Hp → Prop, (∃ m, W 0 m (upd H1 D (.lst []))) ∧ ∀ i m H, W i m H →
  (J.stop i H ∧ Q (.ref D) H) ∨ (J.go i H ∧ ∃ N : Hp → Prop, (∀ H', N H' → ∃ m', m' < m ∧ W (i + 1) m' H') ∧ ∀ x H', J.yld i H x H' → g x (wipe σ vs) H' fun σ2 H2 => wipe σ2 vs = wipe σ vs ∧ tt σ2 H2 fun b H3 =>
    if b = true then te σ2 H3 fun y H4 => ∃ acc, H4 D = some (.lst acc) ∧ acc.length < sizeLine ∧ N (upd H4 D (.lst (acc ++ [y]))) else N H3)
theorem pe_zc {X : Cx} {elt tg iter : Expr} {ifs : List Expr} {scope : Scope} {own : List (Str × Nat)} {pos : Pos} {wi : TI} {g : TG} {tt : TT} {te : TE} (hc : HotC X) (hN : X.N.Nodup) (hi : PIH X tg iter wi) (ok : BlkOk X.N X.env.scope scope own)
    (hg : ∀ (s : Shared) (H : Hp) (C : Addr) (cl : List (Str × Addr)) (fp : List Addr), PG (hblk X s H scope (compEnvC scope cl C X.env) fp) tg g)
    (ht : ∀ (s : Shared) (H : Hp) (C : Addr) (cl : List (Str × Addr)) (fp : List Addr), PTs (hblk X s H scope (compEnvC scope cl C X.env) fp) ifs tt)
    (he : ∀ (s : Shared) (H : Hp) (C : Addr) (cl : List (Str × Addr)) (fp : List Addr), PE (hblk X s H scope (compEnvC scope cl C X.env) fp) elt te) (hs : ∀ x, foldedSetIterable iter X.env x = pure x := by intro _; rfl) :
    PE X (.ListComp elt [⟨tg, iter, ifs, 0⟩] scope pos) (tZc wi g tt te (own.map (·.2))) := ⟨fun pins s σ H Q I h => by
  rw [eval_ListComp]
  have free : ∀ y ∈ scope.names, y.2 = .free → ∃ c, X.env.cells.lookup y.1 = some c := fun y hy e => (ok.free y hy e).elim (fun k => I.ok.has _ (.inl k)) fun k => I.ok.has _ (.inr k)
  refine wpAny_comprehension_free (use := none) rfl hs (closure_ok free) ok.kind (fun y hy e => by rw [ok.uniq y hy, e]) (thn (hi.run pins s σ H _ I h) fun xv s1 hx => thn hx fun itv s2 ⟨it, fp, tn, J, H2, eit, I2, T, st2, f2, q⟩ => ?_)
  subst eit
  refine wpAny_newObj_type (newEnv_comp ?_) (by show 0 ≤ sizeLine; decide)
  obtain ⟨D, eD⟩ : ∃ D, D = s2.heap.objs.size := ⟨_, rfl⟩
  obtain ⟨W, ⟨m0, w0⟩, turn⟩ := q D (I2.hok.fresh (Nat.le_of_eq eD.symm))
  obtain ⟨H3, eH⟩ : ∃ H3, H3 = upd H2 D (.lst []) := ⟨_, rfl⟩
  obtain ⟨s3, e3⟩ : ∃ s3 : Shared, s3 = { s2 with heap := s2.heap.push { cls := .type "list", data := .seq ([] : List Value).toArray } } := ⟨_, rfl⟩
  have h3 : s3.heap = s2.heap.push { cls := .type "list", data := .seq ([] : List Value).toArray } := by rw [e3]
  rw [← eH] at w0
  have I3 : Inv X pins σ H3 s3 := by
    rw [e3, eH, eD]
    exact I2.laid (t' := s2.toks) (fun b o e => Heap.get?_push_of_some _ e) (Nat.le_refl _) ⟨Nat.zero_le _, [], 0, .nil, Heap.get?_push_size _ rfl⟩
  have old : ∀ b ∈ fp, b < s2.heap.objs.size := fun b hb => let ⟨o, e, _⟩ := T.obj _ _ st2 b hb; Heap.lt_size e
  have f3 : ∀ b ∈ fp, FpOk X pins H3 b ∧ b < s3.heap.objs.size := fun b hb =>
    ⟨⟨by rw [eH, upd_ne (by rw [eD]; exact Nat.ne_of_lt (old b hb))]; exact (f2 b hb).1, (f2 b hb).2⟩, by rw [h3, Heap.size_push]; exact Nat.lt_succ_of_lt (old b hb)⟩
  have st3 : tn 0 s3.heap := T.keep _ _ _ st2 fun b _ o e => by rw [h3]; exact Heap.get?_push_of_some _ e
  have B0 := block_start I3 ok hN f3
  have pg := hg s3 H3 s3.heap.objs.size (cellsFrom (s3.heap.objs.size + 1) scope.names (cloFrom X.env.cells scope.names [])) fp
  have pt := ht s3 H3 s3.heap.objs.size (cellsFrom (s3.heap.objs.size + 1) scope.names (cloFrom X.env.cells scope.names [])) fp
  have pe := he s3 H3 s3.heap.objs.size (cellsFrom (s3.heap.objs.size + 1) scope.names (cloFrom X.env.cells scope.names [])) fp
  obtain ⟨ce, ec⟩ : ∃ ce, ce = compEnvC scope (cellsFrom (s3.heap.objs.size + 1) scope.names (cloFrom X.env.cells scope.names [])) s3.heap.objs.size X.env := ⟨_, rfl⟩
  have cL : ce.locals = s3.heap.objs.size := by rw [ec]; rfl
  rw [← ec] at B0 pg pt pe
  obtain ⟨s4, e4⟩ : ∃ s4 : Shared, s4 = { s3 with heap := pushCells (s3.heap.push { cls := .type "dict", data := .dict #[] }) scope.names } := ⟨_, rfl⟩
  have k4 : ∀ b o, s3.heap.get? b = some o → s4.heap.get? b = some o := fun b o e => by rw [e4]; exact pushCells_keeps _ _ _ _ (Heap.get?_push_of_some _ e)
  rw [← e4] at B0
  have B4 : Inv (hblk X s3 H3 scope ce fp) [] (wipe σ (own.map (·.2))) H3 s4 := up_blk B0 fun q hq => by
    obtain ⟨a1, a2, a3, a4, a5⟩ := I3.pin q (List.mem_append_left _ hq)
    refine ⟨k4 _ _ a1, a2, by rw [cL]; exact Nat.ne_of_lt (Heap.lt_size a1), fun z => ?_, a5⟩
    exact (fs_stk I.ok z).elim a3 a4
  have st4 : tn 0 s4.heap := T.keep _ _ _ st3 fun b _ o e => k4 b o e
  have n4 : ∀ b ∈ fp, H3 b = none := fun b hb => (f3 b hb).1.1
  have hc' : HotC (hblk X s3 H3 scope ce fp) := let ⟨p, h1, h2⟩ := hc; ⟨p, h1, h2⟩
  have fpk : ∀ {σ' : L2.St} {H' : Hp} {s' : Shared}, Inv (hblk X s3 H3 scope ce fp) [] σ' H' s' → (∀ b ∈ fp, H' b = none) → ∀ b ∈ fp, FpOk (hblk X s3 H3 scope ce fp) [] H' b := fun {σ' H' s'} I' hn b hb =>
    ⟨hn b hb, (I'.ok.exf b hb).1, I'.ok.exfs b hb, .inl hb, fun x c e => (I'.ok.exf b hb).2 x c e, fun q hq => by
      have hq' : q ∈ X.pn := by simpa using (show q ∈ X.pn ++ ([] : List (Addr × Obj)) from hq)
      exact (f3 b hb).1.2.2.2.2.2 q (List.mem_append_left _ hq')⟩
  have main : codeAny (model X.prog X.w) X.A (.compStart (.ListComp elt [⟨tg, iter, ifs, 0⟩] scope pos) 0 (.ref it) (.ref D) ce) (compPost (model X.prog X.w) X.A X.xe none (EP X pins σ Q) (.ref D) s3.heap.objs.size) s4 := by
    have loop : codeAny (model X.prog X.w) X.A (.compLoop (.ListComp elt [⟨tg, iter, ifs, 0⟩] scope pos) 0 (.ref it) (.ref D) ce) (compPost (model X.prog X.w) X.A X.xe none (EP X pins σ Q) (.ref D) s3.heap.objs.size) s4 := by
      refine compLoop_any (fun n s' => ∃ i H', Inv (hblk X s3 H3 scope ce fp) [] (wipe σ (own.map (·.2))) H' s' ∧ tn i s'.heap ∧ (∀ b ∈ fp, H' b = none) ∧ W i n H') ?_ m0 ⟨0, H3, B4, st4, n4, w0⟩
      rintro n s5 ⟨i, H5, I5, st5, n5, w5⟩
      rcases turn i n H5 w5 with ⟨stop, qq⟩ | ⟨go, N, hN', step⟩
      · refine thnF (T.done (hblk X s3 H3 scope ce fp) rfl rfl rfl hc' i [] s5 _ H5 (fun _ _ => False) I5 (fpk I5 n5) st5 stop) fun r s6 ⟨hr, I6⟩ => ?_
        subst hr
        have J : Inv X pins σ H5 s6 := I3.call' (ch := fp) I6.os I6.base I6.hok I6.bare fun b hb => ⟨(f3 b hb).1.2.2.2.1, (f3 b hb).1.2.1, (f3 b hb).1.2.2.2.2.1, (f3 b hb).1.2.2.2.2.2⟩
        have nC : H5 s3.heap.objs.size = none := by rw [← cL]; exact I6.free
        obtain ⟨m, hn, _⟩ := I6.loc
        obtain ⟨a0, a1, a2, a3, a4, a5⟩ := I3.fpOk (b := s3.heap.objs.size) (Nat.le_refl _) nC
        refine ⟨m, by rw [← cL]; exact hn, fun h7 sb => ⟨.ref D, H5, J.turned (t' := s6.toks) (fun b o hb e => (sb.2 b hb).trans e) a0 a1 a3 a4 a5, rfl, qq⟩⟩
      · refine thnF (T.item (hblk X s3 H3 scope ce fp) rfl rfl rfl hc' i [] s5 _ H5 (fun _ _ => False) I5 (fpk I5 n5) st5 go) fun r s6 ⟨u, hr, h6⟩ => ?_
        subst hr
        refine thnF h6 fun _ s7 ⟨x, H7, I7, r7, y7, st7, n7⟩ => ?_
        refine thnF (pg.run _ s7 _ H7 x u _ (I7.pinned (fpk I7 n7) (T.obj _ _ st7)) r7 (step x H7 y7)) fun _ s8 ⟨σ8, H8, I8, hw8, q8⟩ => ?_
        refine thnF (pt.run _ s8 σ8 H8 _ I8 q8) fun b s9 ⟨H9, I9, q9⟩ => ?_
        have again : ∀ {s' : Shared} {H' : Hp}, Inv (hblk X s3 H3 scope ce fp) ([] ++ pinsAt fp s7.heap) σ8 H' s' → N H' → ∃ m, m < n ∧ ∃ i H', Inv (hblk X s3 H3 scope ce fp) [] (wipe σ (own.map (·.2))) H' s' ∧ tn i s'.heap ∧ (∀ b ∈ fp, H' b = none) ∧ W i m H' := fun {s' H'} J nx => by
          obtain ⟨m', lt, w'⟩ := hN' H' nx
          have kept : ∀ b ∈ fp, ∀ o, s7.heap.get? b = some o → s'.heap.get? b = some o ∧ H' b = none := fun b hb o e =>
            have z := J.pin (b, o) (List.mem_append_right _ (List.mem_append_right _ (mem_pinsAt hb e)))
            ⟨z.1, z.2.1⟩
          refine ⟨m', lt, i + 1, H', (J.unpinned (pins := [])).weak (by rw [← hw8, wipe_length]) (fun j v e => ?_), T.keep _ _ _ st7 fun b hb o e => (kept b hb o e).1, fun b hb => ?_, w'⟩
          · rw [← hw8] at e
            exact (wipe_some e).1
          · obtain ⟨o, e, _⟩ := T.obj _ _ st7 b hb
            exact (kept b hb o e).2
        cases b with
        | false =>
          simp only [Bool.false_eq_true, if_false] at q9 ⊢
          exact again I9 q9
        | true =>
          simp only [if_true] at q9 ⊢
          refine thnF (pe.run _ s9 σ8 H9 _ I9 q9) fun z s10 ⟨yv, H10, I10, r10, acc, g10, z10, nx⟩ => ?_
          exact app_ok (X := hblk X s3 H3 scope ce fp) I10 g10 z10 r10 fun s11 I11 => again I11 nx
    exact codeAny_compStart_list loop (T.self X.A 0 _ _ _ st4 loop)
  subst e4 ec e3 eH eD
  exact main⟩
end DH

/-! While an exception is handled: a tuple as a target. -/
namespace DH
open PySem PySem.Spec PyProof.Rows L2 HotX L2H
section
variable {pr : Program} {w : World} {A : Around} {E : Value → Shared → Prop} {s : Shared}
theorem end_tup {it t x1 : Addr} {i : Nat} {items : Array Value} {Q : Option Value → Shared → Prop} (hot : HotAt A x1 s.heap) (n1 : x1 ≠ it) (hi : s.heap.IsTupleIter it t i) (hl : s.heap.IsTuple t items) (hx : items[i]? = none)
    (hQ : ∀ h', Heap.ExtBut it s.heap h' → Q none { s with heap := h' }) : wpAny (model pr w) A (pyNext (.ref it)) Q E s := by
  obtain ⟨hh, o1, vs1, g1, d1, c1⟩ := hot
  obtain ⟨oi, gi, ci, di⟩ := id hi
  obtain ⟨ol, gl, cl, nl, dl⟩ := hl
  unfold pyNext
  refine wpAny_bind (wpAny_attempt (wpAny_callSpecial?_slot (name := Str.ofString "__next__") hi.typeIs F.slot_tuple_iterator_next (wpAny_call_entry F.slot_tuple_iterator_next hi.typeIs F.entry_tuple_iterator_next ?goal (F.args_tuple_iterator_next_1 _))))
  case goal =>
    show wpAny _ _ (field (.ref it) 0 >>= _) _ _ s
    refine wpAny_bind (wpAny_field gi di (x := .ref t) rfl ?_)
    show wpAny _ _ (if (Value.ref t == Value.none) = true then _ else _) _ _ s
    have nn : ¬ (Value.ref t == Value.none) = true := Bool.false_ne_true
    rw [if_neg nn]
    show wpAny _ _ (field (.ref it) 1 >>= _) _ _ s
    refine wpAny_bind (wpAny_field gi di (x := .int i 0) rfl ?_)
    show wpAny _ _ (seqItems? (.ref t) >>= _) _ _ s
    refine wpAny_bind (wpAny_seqItems gl dl ?_)
    simp only [Int.toNat_natCast, hx]
    refine wpAny_bind (wpAny_rule (wpAny_bind (wpAny_setField gi di (by simp) ?_)))
    show wpAny _ _ (newExc (.type "StopIteration") [] >>= _) _ _ _
    refine wpAny_bind ?_
    simp only [newExc, newTuple]
    refine wpAny_bind (wpAny_newObj_type ?_ (by size_fits))
    refine wpAny_bind (m := firstArgMember _ _) (wpAny_of_eq (a := Value.none) (by first | rfl | (simp only [firstArgMember]; rfl)) ?_)
    refine wpAny_newObj_type ?_ (by size_fits)
    have u1 : (s.heap.update it (Obj.mapFields fun a => a.setIfInBounds 0 Value.none)).get? x1 = some o1 := by
      rw [Heap.get?_update_other _ _ n1.symm]; exact g1
    refine raiseNew_hot (x1 := x1) ⟨hh, o1, vs1, Heap.get?_push_of_some _ (Heap.get?_push_of_some _ u1), d1, c1⟩ (Nat.ne_of_lt (Heap.lt_size (Heap.get?_push_of_some _ u1))) (Heap.get?_push_size _ rfl) rfl (by first | (simp; done) | (simp; omega)) ?_
    refine wpAny_bind (wpAny_isInstance (T := "StopIteration") (b := true) ⟨_, Heap.get?_update_self _ (Heap.get?_push_size _ rfl) rfl, rfl⟩ isSubtype_stop ?_)
    refine wpAny_pure (hQ _ fun b o hb e => ?_)
    have e1 : (s.heap.update it (Obj.mapFields fun a => a.setIfInBounds 0 Value.none)).get? b = some o := by
      rw [Heap.get?_update_other _ _ (Ne.symm hb)]; exact e
    rw [Heap.get?_update_other _ _ (Nat.ne_of_gt (Heap.lt_size (Heap.get?_push_of_some _ e1)))]
    exact Heap.get?_push_of_some _ (Heap.get?_push_of_some _ e1)
theorem asg_tup {env : PySem.Env} {es : List Expr} {k : Nat} {pos : Pos} {t x1 : Addr} {items : Array Value} {Q : Unit → Shared → Prop} (hot : HotAt A x1 s.heap) (ht : s.heap.IsTuple t items) (hn : (assignEach es env).length = items.size) (hst : (assignEach es env).findIdx? (·.1) = none)
    (h : ∀ h', Heap.ExtBut s.heap.objs.size s.heap h' → wpAny (model pr w) A (assignInOrder ((assignEach es env).map (·.2)) items.toList) Q E { s with heap := h' }) : wpAny (model pr w) A (assign (.Tuple es k pos) env (.ref t)) Q E s := by
  rw [arm_assign_Tuple]
  refine wpAny_bind (wpAny_standAt ?_)
  unfold unpack
  rw [hn, hst]
  refine wpAny_bind (wpAny_holding ?_)
  have lt : t ≠ s.heap.objs.size := let ⟨o, ho, _⟩ := ht; Nat.ne_of_lt (Heap.lt_size ho)
  obtain ⟨hh, o1, vs1, g1, d1, c1⟩ := hot
  unfold unpackItems
  refine wpAny_bind ?_
  unfold notIterableAtAll
  refine wpAny_bind (wpAny_specialOf ht.typeIs F.slot_tuple_iter.lookup (wpAny_pure ?_))
  simp only [Bool.false_eq_true, if_false]
  refine wpAny_bind (wpAny_holding (wpAny_pyIter_tuple ht ?_))
  refine wpAny_bind (wpAny_holding (wpAny_draw_tuple lt items.size 0 _ _ ⟨_, Heap.get?_push_size _ rfl, rfl, rfl⟩ (ht.push _) (by omega) fun h1 i1 sb1 => ?_))
  have all : List.take items.size (List.drop 0 items.toList) = items.toList := by
    rw [List.drop_zero]
    exact List.take_of_length_le (by simp)
  rw [all, if_neg (by simp)]
  have t1 : h1.IsTuple t items := (ht.push _).extBut sb1.extBut lt
  have nx : x1 ≠ s.heap.objs.size := Nat.ne_of_lt (Heap.lt_size g1)
  refine wpAny_bind (wpAny_holding (end_tup (s := { s with heap := h1 }) (x1 := x1) ⟨hh, o1, vs1, sb1.extBut _ _ nx (Heap.get?_push_of_some _ g1), d1, c1⟩ nx i1 t1 (by simp) fun h2 x2 => ?_))
  simp only [Option.isSome_none, Bool.false_eq_true, if_false]
  exact wpAny_pure (h h2 fun b o hb e => x2 b o hb (sb1.extBut b o hb (Heap.get?_push_of_some _ e)))
end
/-- (a, b, ..) = a tuple of that length -/
theorem pg_tz {X : Cx} {es : List Expr} {k : Nat} {pos : Pos} {t : TGs} {n : Nat} (hc : HotC X) (h : PGs X es t) (hn : (assignEach es X.env).length = n := by rfl) (hst : (assignEach es X.env).findIdx? (·.1) = none := by rfl) : PG X (.Tuple es k pos) (gTup X.K n t) := ⟨fun pins s σ H v u Q I r ⟨a, xs, e1, hq, hl, hw⟩ => by
  subst e1
  cases r
  obtain ⟨its, rv, ht, hz⟩ := I.tuple hq
  obtain ⟨x1, hot⟩ := hc.at I
  refine asg_tup hot ht (by simp [hn, ← hl, rv.length]) hst fun h' hx => ?_
  have I1 : Inv X pins σ H { s with heap := h' } := I.kept (t' := s.toks) fun b o e => hx b o (Nat.ne_of_lt (Heap.lt_size e)) e
  exact h.run pins _ σ H xs _ Q I1 (by simpa using rv) hw⟩
/-- isinstance(e, c), e the exception that the context tells -/
theorem cr_isH {X : Cx} {a D : Addr} {oe : Obj} (hp : (a, oe) ∈ X.pn) (C : ExcC X.K D) (hz : Zc (.ref D) none oe) (hf : ∃ vs, oe.data = .fields vs) : CallR X (.builtin "isinstance") (rIsE X.K D a) := by
  intro pins s σ H xs us Q I r ⟨c, cv, b, ex, hcv, e, q⟩
  subst ex
  cases r with
  | cons rx rr =>
    cases rr with
    | cons rt rr =>
      cases rr
      cases rx
      cases hcv _ rt
      have hget := (I.pin (a, oe) (List.mem_append_left _ hp)).1
      obtain ⟨vs, hv⟩ := hf
      have J : PySem.W.InstAt s.heap a oe D none := by
        cases oe with
        | mk oc od oda osl =>
          obtain ⟨h1, h2⟩ := hz
          simp only at h1 h2 hv
          subst h1 h2 hv
          exact ⟨hget, rfl, rfl, trivial⟩
      refine PySem.W.kia_one (PySem.W.handS_kitx_exc C.hg C.hk C.hs C.hd C.ha C.hn C.ht C.hm) I.kIn J e (fun z => nomatch z) fun tk => ?_
      exact ⟨.bl b, H, I.kept (t' := tk) fun _ _ z => z, rfl, q⟩
end DH

/-! While an exception is handled: a def is called, its promise told of the very exception. -/
namespace DH
open PySem PySem.Spec PyProof.Rows L2 HotX L2H
theorem run_hot {CX : CXT} {P : Program} {w : World} {K : PySem.W.Frag} {mg : Str → Option Value} {base : Heap} {k : Nat} {f : Addr} {x qual : Str} {st : Stmt} {fd : FuncData} {N ps : List Str} (F : L2.Fun K x qual st f fd) (S : FnScope N ps (defScope st))
    {A : Around} {outer : List PySem.Env} {s : Shared} {H : Hp} {args : Args} {us : List Value} {vs : List V} {Q : VK} {E : XK} {p : Addr × Obj} (hr : RoomH (k + 1) A) (hot : Hot1 A p) (hpin : PinOk outer H s p) (e0 : Env0 P w K mg base A outer s H)
    (hb : BindsTo s fd args (ps.zip us)) (r : Vals vs us) (hl : vs.length = ps.length)
    (hbody : ∀ cdv : Value, RoomH k (A.deeper (envOfC qual (defScope st) s.heap.objs.size f cdv)) → ∃ t, PSs (cxH CX P w K mg base N qual (defScope st) f cdv A outer s H E p) (defBody st) t ∧ t { nx := fun _ H' => Q .non H', rt := Q } (L2.start N vs) H) :
    codeAny (model P w) A (.call (.ref f) args) (CR CX outer P w H s Q E) s := by
  obtain ⟨oc, od, kV, doc, pm, an, cdv, ct, osl, rfl, lk, hcd⟩ := F.ex
  have KX : K.In s.heap := e0.mod.kin.keeps fun b o e => (e0.bs b o e).1
  have lim : s.heap.NoLimit := e0.mod.nolimit.keeps fun b o e => (e0.bs b o e).1
  refine codeAny_call_function hr.depth (KX _ _ lk) rfl S.co S.gen rfl (PySem.W.codeRec_of KX hcd) (hb _ _ _ _ ?_)
  refine wpAny_newFunctionEnv_cells S.kind (fun y hy => ?_) fun env he s1 x1 => ?_
  · obtain ⟨n, v⟩ := y
    rcases S.par n (List.of_mem_zip hy).1 with q | q
    · exact .inl q
    · exact .inr ⟨q, PySem.W.cellsFrom_some _ _ _ (.inl q)⟩
  · subst he
    refine ⟨lim.keeps x1.toInCall.keep, codeAny_func ?_⟩
    obtain ⟨t, ht, hq⟩ := hbody cdv (hr.deeper _)
    have J0 : Inv (cxH CX P w K mg base N qual (defScope st) f cdv A outer s H E p) [] (L2.start N vs) H s1 := inv_startH S hpin e0 hl r x1
    refine wpAny_mono (ht.run [] s1 (L2.start N vs) H _ J0 hq) (fun fl s' hs => ?_) fun _ _ z => z
    cases fl with
    | ret u =>
      obtain ⟨v, σ', H', J, rv, q⟩ := hs
      exact ⟨v, H', J.os, J.bare, J.base, J.hok, rv, q⟩
    | next =>
      obtain ⟨σ', H', J, q⟩ := hs
      exact ⟨.non, H', J.os, J.bare, J.base, J.hok, rfl, q⟩
    | brk =>
      obtain ⟨_, _, _, q⟩ := hs
      exact False.elim q
    | cont =>
      obtain ⟨_, _, _, q⟩ := hs
      exact False.elim q
end DH

/-! A lambda without parameters, handed to a def that calls it within try; the context of what is caught is known. -/
namespace DH
open PySem PySem.Spec PyProof.Rows L2 LamX
/-- the context of the lambda's body -/
def lamN (X : Cx) (A : Around) (outer : List PySem.Env) (s : Shared) (H : Hp) (E : XK) (scope : Scope) (f c' : Addr) : Cx :=
  { LamX.lamCx X A outer s H E scope f c' with
    xe := fun e s' => wpAny (model X.prog X.w) (A.deeper (lamEnv X scope s.heap.objs.size f c')) (leaving (lamEnv X scope s.heap.objs.size f c') e) (fun _ s'' => L2N.CX X.prog X.w outer H s E e s'') (fun e' s'' => L2N.CX X.prog X.w outer H s E e' s'') s' }
theorem to_lamN {X : Cx} {A : Around} {outer : List PySem.Env} {s : Shared} {H : Hp} {E : XK} {scope : Scope} {f c' : Addr} {pins : List (Addr × Obj)} {σ : L2.St} {H' : Hp} {s' : Shared} (I : Inv (LamX.lamCx X A outer s H E scope f c') pins σ H' s') : Inv (lamN X A outer s H E scope f c') pins σ H' s' :=
  ⟨⟨I.ok.mod, I.ok.kind, I.ok.glob, I.ok.blt, I.ok.above, I.ok.inj, I.ok.has, I.ok.cab, I.ok.hd, I.ok.frames, I.ok.stk, I.ok.exf, I.ok.bs, I.ok.bsz, I.ok.noex, I.ok.exfs, I.ok.funs, I.ok.frf⟩,
    I.os, I.bare, I.base, I.loc, I.cell, I.free, I.freeC, I.pin, I.hok, I.len⟩
section
variable {X : Cx} {pins : List (Addr × Obj)} {σ : L2.St} {H : Hp} {s : Shared}
/-- the lambda's object, as it was made -/
abbrev lamO (X : Cx) (params : Arguments) (body : Expr) (scope : Scope) (pm : Value) (c' : Addr) (ctv : Value) : Obj :=
  PySem.W.kla_obj "<lambda>" (X.env.qual ++ "<lambda>") params body scope (cloFrom X.env.cells scope.names []) pm c' ctv
/-- the context of the def that got it, within its try -/
abbrev gotCx (CXg : CXT) (X : Cx) (Ng : List Str) (qg : Str) (sg : Scope) (g : Addr) (cdg : Value) (s : Shared) (H : Hp) (Eg : XK) (pn : List (Addr × Obj)) (xe : Value → Shared → Prop) : Cx :=
  (cxOf CXg X.prog X.w X.K X.mg X.base Ng qg sg g cdg X.A X.stack s H Eg).tr pn xe
theorem act {CXg : CXT} {Ng : List Str} {qg : Str} {sg : Scope} {g : Addr} {cdg : Value} {Eg : XK} {pn : List (Addr × Obj)} {xe : Value → Shared → Prop} {f c' : Addr} {pm ctv : Value} {params : Arguments} {body : Expr} {scope : Scope} {k i : Nat} {a : Str} {W : WX} {E : XK} {tb : TE} {p1 p2 : Pos}
    (I : Inv X pins σ H s) (L : LamS X.env.scope scope) (hf : s.heap.get? f = some (lamO X params body scope pm c' ctv)) (hfn : H f = none) (hfr : f ∉ frs X.stack)
    (hbind : bindArgs (PySem.W.kla_fn "<lambda>" (X.env.qual ++ "<lambda>") params body scope (cloFrom X.env.cells scope.names []) pm (.ref c') ctv) ⟨[], []⟩ = pure [])
    (tk : L2N.Takes (gotCx CXg X Ng qg sg g cdg s H Eg pn xe) W) (hW : ∀ cls d σ' H', E cls d H' → W cls d σ' H') (hr : Room (k + 1) (X.A.deeper (envOfC qg sg s.heap.objs.size g cdg)))
    (hbody : ∀ (A : Around) (outer : List PySem.Env) (s : Shared) (H : Hp), Room k (A.deeper (lamEnv X scope s.heap.objs.size f c')) → PE (lamN X A outer s H E scope f c') body tb)
    (hN : Ng[i]? = some a) (hv : Vis sg a) (hd : (a == ("__debug__" : Str)) = false := by decide) (hcd : (a == ("__classdict__" : Str)) = false := by decide) :
    PE (gotCx CXg X Ng qg sg g cdg s H Eg pn xe) (.Call (.Name a p1) [] [] p2) (fun σZ HZ Q => σZ[i]? = some (some (.ref f)) ∧ HZ c' = some (CodeO c' (X.env.qual ++ "<lambda>")) ∧ tb σ HZ Q) := ⟨fun pinsZ sZ σZ HZ Q IZ ⟨hs, hco, ht⟩ => by
  refine wpAny_Call_Name_kw (thn ((pe_var (pos := p1) (i := i) hN hv hd hcd).run pinsZ sZ σZ HZ (fun v H1 => v = .ref f ∧ H1 = HZ) IZ ⟨.ref f, hs, rfl, rfl⟩) fun u s1 ⟨v, H1, I1, r1, ev, e1⟩ => ?_)
  subst ev
  subst e1
  obtain rfl : u = Value.ref f := r1
  have un : Un (frs X.stack) [] H H1 s.heap s1.heap := I1.base
  have gf := un.keep f _ hf hfn hfr (fun z => nomatch (show f ∈ ([] : List Addr) from z))
  refine PySem.W.callWith_F0 ⟨_, _, _, _, gf⟩ (wpAny_call ?_)
  obtain ⟨⟨oc, vs, t, hoc, hdc, hvc⟩, _, _⟩ := I1.hok c' _ hco
  have run : codeAny (model X.prog X.w) (X.A.deeper (envOfC qg sg s.heap.objs.size g cdg)) (.call (.ref f) ⟨[], []⟩) (CR (L2N.CX X.prog X.w) (envOfC qg sg s.heap.objs.size g cdg :: X.stack) X.prog X.w H1 s1 Q E) s1 := by
    refine PySem.W.kla_callFunE hr.depth gf rfl L.co L.gen rfl ⟨c', oc, vs, t, rfl, hoc, hdc, hvc⟩ ?_
    rw [hbind]
    refine wpAny_pure (wpAny_newFunctionEnv (fun y hy => (L.own y hy).2) (fun y hy => absurd hy (by simp)) (fun h2 hns sb => ⟨I1.nolimit.fresh _ sb, ?_⟩) L.kind)
    show codeAny _ _ (.expr body (lamEnv X scope s1.heap.objs.size f c')) _ _
    have J := to_lamN (lam_start2 (f := f) (c' := c') (E := E) (tk := s1.toks + ([] : List (Str × Value)).length) I L I1.env0 hr.hd un hns fun b o e => sb.extBut b o (Nat.ne_of_lt (Heap.lt_size e)) (Heap.get?_push_of_some _ e))
    refine PySem.W.kla_codeExpr (wpAny_mono ((hbody _ _ s1 H1 (hr.deeper _)).run [] _ _ H1 Q J ht) (fun v s' hq => ?_) fun _ _ z => z)
    obtain ⟨v', H', J', rv, q⟩ := hq
    exact ⟨v', H', J'.os, J'.bare, J'.base, J'.hok, rv, q⟩
  refine codeAny_mono run fun r s' hq => ?_
  cases r with
  | error e => exact L2N.passes_call tk hW pinsZ σZ H1 s1 e s' I1 hq
  | ok fl =>
    cases fl with
    | ret u => exact I1.after hq
    | next => exact False.elim hq
    | brk => exact False.elim hq
    | cont => exact False.elim hq⟩
/-- the def that gets it: TT is what it makes of the lambda's reading -/
def Gives (X : Cx) (Ng : List Str) (x : Str) (sg : Scope) (g : Addr) (cdg : Value) (bg : List Stmt) (a q : Str) (TT : (XK → Hp → VK → Prop) → Hp → VK → XK → Prop) : Prop :=
  ∀ (f c' : Addr) (s : Shared) (H : Hp) (Q : VK) (Eg : XK) (tl : XK → Hp → VK → Prop),
    (∀ (W : WX) (pn : List (Addr × Obj)) (xe : Value → Shared → Prop) (E : XK) (p1 p2 : Pos), L2N.Takes (gotCx (L2N.CX X.prog X.w) X Ng x sg g cdg s H Eg pn xe) W → (∀ cls d σ' H', E cls d H' → W cls d σ' H') →
      PE (gotCx (L2N.CX X.prog X.w) X Ng x sg g cdg s H Eg pn xe) (.Call (.Name a p1) [] [] p2) (fun σZ HZ Q => σZ[0]? = some (some (.ref f)) ∧ HZ c' = some (CodeO c' q) ∧ tl E HZ Q)) →
    H c' = some (CodeO c' q) → TT tl H Q Eg →
    ∃ t, PSs (cxOf (L2N.CX X.prog X.w) X.prog X.w X.K X.mg X.base Ng x sg g cdg X.A X.stack s H Eg) bg t ∧ t { nx := fun _ H' => Q .non H', rt := Q } (L2.start Ng [.ref f]) H
theorem pe_lam {T : List (Addr × Str)} {TT : (XK → Hp → VK → Prop) → Hp → VK → XK → Prop} {x a : Str} {st : Stmt} {g c P : Addr} {fd : FuncData} {k : Nat} {Ng : List Str} {params : Arguments} {body : Expr} {scope : Scope} {t : XK → TE} {wx : WX} {p lpos pos : Pos} (hm : X.mg x = some (.ref g)) (F : L2.Fun X.K x x st g fd)
    (hb : L2.Binds X.K fd [a] []) (Sg : FnScope Ng [a] (defScope st)) (hNg : Ng[0]? = some a) (hva : Vis (defScope st) a) (hG : ∀ cdv, Gives X Ng x (defScope st) g cdv (defBody st) a (X.env.qual ++ "<lambda>") TT) (tk : L2N.Takes X wx)
    (TB : TabB X.base X.mg c P) (hcode : X.env.code = .ref c) (hmT : (P, X.env.qual ++ "<lambda>") ∈ T) (hu : ∀ p ∈ T, p.1 = P → p.2 = X.env.qual ++ "<lambda>") (hr : Room (k + 2) X.A) (L : LamS X.env.scope scope)
    (hbody : ∀ (A : Around) (outer : List PySem.Env) (s : Shared) (H : Hp) (E : XK) (f c' : Addr), Room k (A.deeper (lamEnv X scope s.heap.objs.size f c')) → PE (lamN X A outer s H E scope f c') body (t E))
    (hbind : ∀ (q : Str) (cl : List (Str × Addr)) (pm cv ctv : Value), bindArgs (PySem.W.kla_fn "<lambda>" q params body scope cl pm cv ctv) ⟨[], []⟩ = pure [] := by intros; rfl) (hdef : defaultsOf params X.env = ([], []) := by rfl)
    (hg : Gl X x := by rfl) (hdb : (x == ("__debug__" : Str)) = false := by decide) (hd : (a == ("__debug__" : Str)) = false := by decide) (hcd : (a == ("__classdict__" : Str)) = false := by decide) :
    PE X (.Call (.Name x p) [.Lambda params body scope lpos] [] pos) (fun σ H Q => Tabs T H ∧ ∀ H1, ExtN H H1 → Tabs T H1 → TT (fun E H' Q' => t E σ H' Q') H1 Q (WE wx σ)) := ⟨fun pins s σ H Q I ⟨hT, h⟩ => by
  obtain ⟨oc, od, kV, doc, pm, an, cdv, ct, osl, rfl, lk, hcg⟩ := F.ex
  refine wpAny_Call_Name_kw (ld_glob I hg hm ?_ hdb)
  refine PySem.W.callWith_K (h₀ := X.base) I.ok.mod.kin F.kp ?_ (by rfl) (by rfl)
  show wpAny _ _ (spliced ((false, eval (.Lambda params body scope lpos) X.env) :: backTo pos (starEach [] X.env))) _ _ s
  refine Calls.spliced_cons (lam_make2 I TB hcode hmT hu hT hdef (L.has I.ok) fun f c' pm' ctv H1 s' I1 eN T1 hf hfn hfr hco => ?_)
  refine Calls.spliced_nil ⟨I1.kIn, wpAny_call ?_⟩
  have run : codeAny (model X.prog X.w) X.A (.call (.ref g) ⟨[.ref f], []⟩) (CR (L2N.CX X.prog X.w) X.stack X.prog X.w H1 s' Q (WE wx σ)) s' := by
    refine run_ofS (N := Ng) (ps := [a]) (us := [.ref f]) (vs := [.ref f]) lk hcg Sg hr I1.env0 (hb s' [.ref f] I1.kIn rfl) (.cons rfl .nil) rfl fun hr' => ?_
    exact hG cdv f c' s' H1 Q (WE wx σ) (fun E H' Q' => t E σ H' Q') (fun W pn xe E p1 p2 tk hW => act (i := 0) I1 L hf hfn hfr (hbind _ _ _ _ _) tk hW hr' (fun A outer s H hr2 => hbody A outer s H E f c' hr2) hNg hva hd hcd) hco (h H1 eN T1)
  refine codeAny_mono run fun r s2 hq => ?_
  cases r with
  | error e => exact L2N.passAt tk σ pins H1 s' e s2 I1 hq
  | ok fl =>
    cases fl with
    | ret u => exact I1.after hq
    | next => exact False.elim hq
    | brk => exact False.elim hq
    | cont => exact False.elim hq⟩
end
end DH

/-! try with several clauses, each with a name; the context of what is caught is known. -/
namespace DH
open PySem PySem.Spec PyProof.Rows L2 L2N
/-- what is wished of an exception by the clauses -/
def wClauses (K : PySem.W.Frag) (i : Nat) (Wout : WX) (D : Ends) : List (Value × (Addr → Value → Option Addr → TS)) → WX
  | [] => Wout
  | (c, ts) :: r => fun cls d σ H => ∃ b, PySem.W.exmOne K cls c = some b ∧
      (b = true → ∀ a, H a = none → ts a cls d { nx := fun σ' H' => D.nx (σ'.set i none) H', rt := D.rt, bk := fun σ' H' => D.bk (σ'.set i none) H', ct := fun σ' H' => D.ct (σ'.set i none) H' } (σ.set i (some (.ref a))) H) ∧
      (b = false → wClauses K i Wout D r cls d σ H)
inductive Clauses (X : Cx) (n : Str) : List ExceptHandler → List (Value × (Addr → Value → Option Addr → TS)) → Prop
  | nil : Clauses X n [] []
  | cons {x : Str} {c : Value} {ts : Addr → Value → Option Addr → TS} {b₀ : Stmt} {suite : List Stmt} {np pos' : Pos} {hds : List ExceptHandler} {l : List (Value × (Addr → Value → Option Addr → TS))} (hc : Names X x c)
      (hsu : ∀ (a : Addr) (oe : Obj) (cls : Value) (d : Option Addr) (pn : List (Addr × Obj)), Zn cls d oe → (∃ vs, oe.data = .fields vs) → PSs (X.suite a ((a, oe) :: pn)) (b₀ :: suite) (ts a cls d)) (r : Clauses X n hds l) :
      Clauses X n (.ExceptHandler (some (.Name x np)) (some n) (b₀ :: suite) pos' :: hds) ((c, ts) :: l)
section
variable {X : Cx} {n : Str} {i : Nat} {body : List Stmt} {h₀ : ExceptHandler} {hds : List ExceptHandler} {l : List (Value × (Addr → Value → Option Addr → TS))} {pos : Pos} {tb : WX → TS} {Wout : WX}
theorem ps_tries (hs : X.stack = X.env :: X.outer) (hf : X.env.frame = some X.env.locals) (hN : X.N.Nodup) (hi : X.N[i]? = some n) (hln : X.env.kindOf n = some .local) (tk : L2N.Takes X Wout)
    (hb : ∀ (W : WX) (pn : List (Addr × Obj)) (xe : Value → Shared → Prop), L2N.Takes (X.tr pn xe) W → PassesOwn (model X.prog X.w) X.A X.env xe → PSs (X.tr pn xe) body (tb W))
    (hh : Clauses X n (h₀ :: hds) l) : PS X (.Try body (h₀ :: hds) [] [] pos) (fun D σ H => tb (wClauses X.K i Wout D l) D σ H) := ⟨fun pins s σ H D I h => by
  have ok := I.ok
  have hfr : X.A.frames = some (X.env :: X.outer) := by rw [ok.frames, hs]
  have hloc : L2.Loc X.env.scope n := .inl hln
  refine wpAny_Try_except ?_
  refine wpAny_mono ((hb (wClauses X.K i Wout D l) (X.pn ++ pins) (fun e s₁ => wpAny (model X.prog X.w) X.A (noteFrame e X.env) (fun _ s₂ => wpAny (model X.prog X.w) X.A (setFlight e none) (fun _ s₃ =>
    wpAny (model X.prog X.w) X.A (handleBy e X.env (h₀ :: hds)) (SP X pins D) X.xe s₃) X.xe s₂) X.xe s₁) (fun u s' xx => ?caught) PassesOwn.looking).run [] s σ H D (I.toTry _) h) (fun f s1 hsp => ?calm) (fun e s1 he => he)
  case calm =>
    cases f with
    | next => obtain ⟨σ', H', J', q⟩ := hsp; exact wpAny_execs_nil ⟨σ', H', J'.ofTry ok, q⟩
    | brk => obtain ⟨σ', H', J', q⟩ := hsp; exact ⟨σ', H', J'.ofTry ok, q⟩
    | cont => obtain ⟨σ', H', J', q⟩ := hsp; exact ⟨σ', H', J'.ofTry ok, q⟩
    | ret u => obtain ⟨v, σ', H', J', r, q⟩ := hsp; exact ⟨v, σ', H', J'.ofTry ok, r, q⟩
  case caught =>
    obtain ⟨a, B, sI, pins', σ', H', cls, d, rfl, J', nb, up, sky, na, os, ag, w⟩ := xx
    have J : Inv X pins σ' H' sI := J'.ofTry ok
    rw [show (X.tr (X.pn ++ pins) _).stack = X.env :: X.outer from hs] at sky
    show wpAny (model X.prog X.w) X.A (noteFrame (.ref a) X.env) _ _ _
    refine L2N.Sky.land Zn.steady hfr hf sky fun h3 fl3 up3 => ?_
    have J3 : Inv X pins σ' H' { s' with heap := h3 } := J.landed nb fl3.1 (up.trans up3) os ag
    have nfr : a ∉ frs (X.env :: X.outer) := fun hm => by
      obtain ⟨oe, vs, he, _, hd⟩ := fl3.there
      obtain ⟨_, o', e', hnf⟩ := fl3.2.2.1.mem hm
      rw [he] at e'; cases e'
      exact hnf _ hd
    have nL : a ≠ X.env.locals := fun z => nfr (List.mem_filterMap.mpr ⟨X.env, List.mem_cons_self, by rw [hf, z]⟩)
    have nF : a ∉ X.fs := fun hm => by
      obtain ⟨e, he, q⟩ := List.mem_filterMap.mp hm
      exact nfr (List.mem_filterMap.mpr ⟨e, List.mem_cons_of_mem _ he, q⟩)
    obtain ⟨oe3, vs3, he3, hz3, hd3⟩ := fl3.there
    have S3 := J3.suite he3 hd3 na nL nF
    have LT : PySem.W.Looks (model X.prog X.w) h3 (typeOf (.ref a)) cls := fun A Q E s k q => wpAny_typeOf_ref (k _ _ he3) (by rw [hz3.1]; exact q)
    suffices go : ∀ {hds' : List ExceptHandler} {l' : List (Value × (Addr → Value → Option Addr → TS))}, Clauses X n hds' l' → wClauses X.K i Wout D l' cls d σ' H' →
        wpAny (model X.prog X.w) X.A (handleBy (.ref a) X.env hds') (SP X pins D) X.xe { s' with heap := h3 } from go hh w
    intro hds' l' hk
    induction hk with
    | nil =>
      intro w
      refine wpAny_handleBy_nil ?_
      obtain ⟨_, _, _, oe, vs, T, oT, ts', he, hz, hd, h1, hr⟩ := id fl3
      unfold PySem.passOn
      refine wpAny_bind (wpAny_field he hd h1 ?_)
      rw [if_neg (show ¬ ((Value.ref T == Value.none) = true) from by simp)]
      have fin : wpAny (model X.prog X.w) X.A (setFlight (.ref a) X.env.frame) (fun _ s4 => wpAny (model X.prog X.w) X.A (throw (.ref a) : Sem Flow) (SP X pins D) X.xe s4) X.xe { s' with heap := h3 } := by
        rw [hf]
        exact HandSPX.setFlight_upZ fl3 fun h4 hh4 up4 => wpAny_throw (tk _ _ ⟨a, B, sI, pins, σ', H', cls, d, rfl, J, nb, (up.trans up3).trans up4, .inr (.inr (by rw [hs]; exact hh4)), na, os, ag, w⟩)
      first
        | exact wpAny_bind (wpAny_pure (wpAny_bind fin))
        | exact wpAny_bind fin
    | @cons x c ts b₀ suite np pos' hds2 l2 hc hsu r ih =>
      intro w
      obtain ⟨b, hb1, hyes, hno⟩ := w
      refine wpAny_handleBy_cons (codeAny_handlers_test ?_) (by intro q; cases q)
      have LM := PySem.W.exm_one (M := model X.prog X.w) J3.kIn LT hb1
      suffices test : ∀ {Q E : Value → Shared → Prop}, Q c { s' with heap := h3 } → wpAny (model X.prog X.w) (X.A.mark (some (.ref a))) (eval (.Name x np) X.env) Q E { s' with heap := h3 } by
        refine test (LM.here ?_)
        cases b with
        | false => exact ih (hno rfl)
        | true =>
          refine codeAny_handlers_suite_as (HandSPX.lands_againZ fl3 fun h4 fl4 up4 => ?_)
          have J4 : Inv X pins σ' H' { s' with heap := h4 } := J.landed nb fl4.1 ((up.trans up3).trans up4) os ag
          obtain ⟨oe4, vs4, he4, hz4, hd4⟩ := fl4.there
          refine store_ok (X := X.suite a ((a, oe4) :: (X.pn ++ pins))) (v := .ref a) (J4.suite he4 hd4 na nL nF) hN hi hloc rfl (fun s5 S5 => ?_) (.inr hln)
          refine wpAny_mono ((hsu a oe4 cls d (X.pn ++ pins) hz4 ⟨_, hd4⟩).run [] s5 _ H' _ S5 (hyes rfl a na)) (fun f s6 hsp => ?_) fun _ _ z => False.elim z
          have fin : ∀ {σ6 : L2.St} {H6 : Hp} {Q : Shared → Prop}, Inv (X.suite a ((a, oe4) :: (X.pn ++ pins))) [] σ6 H6 s6 → (∀ s7, Inv X pins (σ6.set i none) H6 s7 → Q s7) →
              wpAny (model X.prog X.w) X.A (do bindName X.env n .none; unbindBehindTheSuite X.env n pos') (fun _ s7 => Q s7) X.xe s6 := fun S6 hq => gone_ok (S6.unsuite ok) hN hi hln hq
          cases f with
          | next => obtain ⟨σ6, H6, S6, q6⟩ := hsp; exact fin S6 fun s7 J7 => ⟨_, _, J7, q6⟩
          | brk => obtain ⟨σ6, H6, S6, q6⟩ := hsp; exact fin S6 fun s7 J7 => ⟨_, _, J7, q6⟩
          | cont => obtain ⟨σ6, H6, S6, q6⟩ := hsp; exact fin S6 fun s7 J7 => ⟨_, _, J7, q6⟩
          | ret u => obtain ⟨v6, σ6, H6, S6, r6, q6⟩ := hsp; exact fin S6 fun s7 J7 => ⟨_, _, _, J7, r6, q6⟩
      intro Q E q
      obtain ⟨hg, hdbg, hm | ⟨hm, hv, hnn⟩⟩ := hc
      · exact ld_glob (X := X.suite a ((a, oe3) :: (X.pn ++ pins))) S3 hg hm q hdbg
      · exact ld_blt (X := X.suite a ((a, oe3) :: (X.pn ++ pins))) S3 hg hm hv q hnn hdbg⟩
end
end DH

/-! What `_law_kin(e)` needs: split, zip, isinstance of the handled exception. -/
namespace DL
open PySem L2 PySem.Spec PyProof.Rows
/-! ### split -/
def gSplit : D → D → Option D
  | .str s, .str t => if t ≠ [] ∧ t.all (· < 256) = true ∧ s.length + 2 ≤ big then some (.lst ((TL.spl t 0 [] s).map D.str)) else none
  | _, _ => none
def mStrM (g : D → D → Option D) (mo ma : M D) : M D := fun ρ h => (mo ρ h).bind fun x h1 => match x with | .str _ => (ma ρ h1).bind fun y h2 => fin (g x y) h2 | _ => .stuck
@[simp] theorem mStrM_ap {ρ : Env} {h : Cells} (g : D → D → Option D) (mo ma : M D) : mStrM g mo ma ρ h = (mo ρ h).bind fun x h1 => match x with | .str _ => (ma ρ h1).bind fun y h2 => fin (g x y) h2 | _ => .stuck := id rfl
theorem strs_at {t : Tp} {W : Wd} : ∀ l : List (List Nat), AtL t W (l.map D.str) ((l.map fun s => (⟨s.toArray⟩ : Str)).map V.str)
  | [] => AtL.nil
  | x :: l => AtL.cons (by simp only [At]) (strs_at l)
section
variable {X : Cx} {c : Cc} {wx : WX}
theorem ge_split {o e : Expr} {apos pos : Pos} {mo ma : M D} (ho : GE X c wx o mo) (ha : GE X c wx e ma)
    (hpe : ∀ {to te : TE}, PE X o to → PE X e te → PE X (.Call (.Attribute o "split" apos) [e] [] pos) (tM1 (fun x xs H Q => ∃ a b, x = .str a ∧ xs = [.str b] ∧ (b.length == 0) = false ∧ a.length + 2 ≤ sizeLine ∧ rNewStrs (Txt.split a b) H Q) to te)) :
    GE X c wx (.Call (.Attribute o "split" apos) [e] [] pos) (mStrM gSplit mo ma) :=
  PE.imp (hpe ho ha) fun σ H Q ⟨W, ρ, h, r, l, p⟩ => tG_bind r l p fun d h1 v W1 H1 x1 r1 l1 a1 p1 => by
    cases d <;> first | exact False.elim p1 | skip
    rename_i s
    simp only [At] at a1
    subst a1
    refine ⟨⟨_, rfl⟩, ?_⟩
    refine tG_bind r1 l1 p1 fun e h2 u W2 H2 x2 r2 l2 a2 p2 => ?_
    obtain ⟨z, e1, k⟩ := fin_ok p2
    cases e <;> first | (simp only [gSplit] at e1; cases e1; done) | skip
    rename_i t
    simp only [gSplit] at e1
    split at e1
    · rename_i hb
      cases e1
      simp only [At] at a2
      subst a2
      refine ⟨_, _, rfl, rfl, ?_, by rw [sizeLine_eq]; simpa [Str.length, big] using hb.2.2, fun p hp => ?_⟩
      · have : t.length ≠ 0 := fun z => hb.1 (List.length_eq_zero_iff.mp z)
        simpa [Str.length] using hb.1
      · have e2 := TL.split_spl ⟨s.toArray⟩ ⟨t.toArray⟩ hb.1 (TL.kind_ok (by simpa using hb.2.1))
        have e3 : Txt.split ⟨s.toArray⟩ ⟨t.toArray⟩ = (TL.spl t 0 [] s).map fun s => (⟨s.toArray⟩ : Str) := by
          apply TL.map_tl_inj
          rw [e2, List.map_map]
          exact (List.map_id' _).symm
        rw [e3]
        exact k.lst r2 (strs_at _) hp
    · cases e1
end
end DL
namespace DH
open DL PySem PySem.Spec PyProof.Rows L2 HotX L2H
/-! ### zip -/
def itZ : List D → Option (List D)
  | [.lst xs, .lst ys] => if xs.length ≤ ys.length then some (List.zipWith (fun a b => D.tup [a, b]) xs ys) else none
  | _ => none
def GIH (X : Cx) (c : Cc) (wx : WX) (tg e : Expr) (m : M (List D)) : Prop := PIH X tg e (tI c wx m)
theorem PIH.imp {X : Cx} {tg e : Expr} {t t' : TI} (h : PIH X tg e t) (f : ∀ σ H Q, t' σ H Q → t σ H Q) : PIH X tg e t' := ⟨fun p s σ H R I q => h.run p s σ H R I (f σ H R q)⟩
theorem sv_zip {c : Cc} {W : Wd} {a b : Addr} {xs ys : List D} {us vs : List V} (g1 : W.G a = some (.lst us)) (g2 : W.G b = some (.lst vs)) (al : AtL c.toTp W xs us) (bl : AtL c.toTp W ys vs) (hl : xs.length ≤ ys.length) :
    Serves c (ItZ c.K a b) W (List.zipWith (fun a b => D.tup [a, b]) xs ys) := fun W' h H i le r => by
  have e1 : SqL c.K H a us := .inl (r.rd (.inl (le.g _ _ g1)))
  have e2 : SqL c.K H b vs := .inl (r.rd (.inl (le.g _ _ g2)))
  refine ⟨fun hi => ⟨us, vs, e1, e2, ?_⟩, fun d hd => ?_⟩
  · rw [← al.length]
    rw [List.length_zipWith] at hi
    omega
  · rw [List.getElem?_zipWith] at hd
    cases ex : xs[i]? with
    | none => simp [ex] at hd
    | some x =>
      cases ey : ys[i]? with
      | none => simp [ex, ey] at hd
      | some y =>
        simp only [ex, ey, Option.some.injEq] at hd
        subst hd
        obtain ⟨u, hu, au⟩ := al.get ex
        obtain ⟨v, hv, av⟩ := bl.get ey
        refine ⟨⟨us, vs, u, v, e1, e2, hu, hv⟩, fun z H2 y => ?_⟩
        obtain ⟨T, p, q, rfl, hT, rfl, y1, y2⟩ := y
        have y1 := y1 _ e1
        have y2 := y2 _ e2
        rw [hu] at y1
        rw [hv] at y2
        cases y1
        cases y2
        refine ⟨_, ext_new (o := .tup [u, v]) r hT, r.new hT trivial, ?_⟩
        simp only [At]
        have le2 := le.trans (put_le (o := .tup [u, v]) (r.gnone hT))
        exact ⟨T, [u, v], rfl, .inl (.inl upd_same), AtL.cons (At.mono le2 au) (AtL.cons (At.mono le2 av) AtL.nil)⟩
section
variable {X : Cx} {c : Cc} {wx : WX}
theorem gi_zipH {e e2 : Expr} {p pos tp : Pos} {es : List Expr} {kk : Nat} {m : M (List D)} (hK : X.K = c.K) (hm : X.mg "zip" = none) (ha : GA X c wx [e, e2] m) (hg : Gl X "zip" := by rfl)
    (h1 : starEach [e, e2] X.env = (false, eval e X.env) :: starEach [e2] X.env := by rfl) (h2 : (backTo pos (starEach [e2] X.env)).any (·.1) = false := by rfl) :
    GIH X c wx (.Tuple es kk tp) (.Call (.Name "zip" p) [e, e2] [] pos) (mItL itZ m) :=
  PIH.imp (pi_z hg hm ha h1 h2) fun σ H R t => I_bind t fun ds is h v W H e r a k => by
    cases ds with
    | nil => cases e
    | cons d ds =>
      cases ds with
      | nil => cases d <;> cases e
      | cons d2 ds =>
        cases ds with
        | cons _ _ => cases d <;> cases d2 <;> cases e
        | nil =>
          cases d <;> first | (cases e; done) | skip
          cases d2 <;> first | (cases e; done) | skip
          rename_i xs ys
          simp only [itZ] at e
          split at e
          · rename_i hl
            cases e
            obtain ⟨v1, vs1, rfl, a1, b1⟩ := AtL.uncons a
            obtain ⟨v2, vs2, rfl, a2, b2⟩ := AtL.uncons b1
            simp only [AtL] at b2
            subst b2
            simp only [At] at a1 a2
            obtain ⟨pa, us, rfl, g1, al⟩ := a1
            obtain ⟨pb, vs, rfl, g2, bl⟩ := a2
            exact ⟨pa, pb, us, vs, rfl, .inl (r.rd (.inl g1)), .inl (r.rd (.inl g2)), by rw [hK]; exact k _ W H (Ext.refl _ _ _) r (sv_zip g1 g2 al bl hl)⟩
          · cases e
theorem gg_tupH {es : List Expr} {k : Nat} {pos : Pos} {n : Nat} {u : Tgts} {vs : List Nat} (hK : X.K = c.K) (hc : HotC X) (h : GGs X c es vs u) (hn : (assignEach es X.env).length = n := by rfl) (hst : (assignEach es X.env).findIdx? (·.1) = none := by rfl) :
    GG X c (.Tuple es k pos) vs (tgT n u) := PG.imp (pg_tz hc h hn hst) fun x σ H Q ⟨B, W, ρ, h, d, ρ', s, a, e, k⟩ => by
  cases d <;> first | (simp only [tgT] at e; cases e; done) | skip
  simp only [tgT] at e
  split at e
  · rename_i hl
    simp only [At] at a
    obtain ⟨p, vs, rfl, hp, al⟩ := a
    exact ⟨p, vs, rfl, by rw [hK]; exact s.r.sqT hp, by rw [← al.length]; exact hl, B, W, ρ, h, _, ρ', s, al, e, k⟩
  · cases e
theorem hot_blk (hc : HotC X) (s : Shared) (H : Hp) (scope : Scope) (ce : PySem.Env) (fp : List Addr) : HotC (hblk X s H scope ce fp) := let ⟨p, h1, h2⟩ := hc; ⟨p, h1, h2⟩
theorem ge_lcH {elt tg iter : Expr} {ifs : List Expr} {scope : Scope} {own : List (Str × Nat)} {pos : Pos} {mi : M (List D)} {t : Tgt} {tt : M Bool} {te : M D} (hc : HotC X) (hN : X.N.Nodup) (hi : GIH X c wx tg iter mi) (ok : blkC X.N X.env.scope scope own = true)
    (hg : ∀ (s : Shared) (H : Hp) (C : Addr) (cl : List (Str × Addr)) (fp : List Addr), GG (hblk X s H scope (compEnvC scope cl C X.env) fp) c tg (own.map (·.2)) t)
    (ht : ∀ (s : Shared) (H : Hp) (C : Addr) (cl : List (Str × Addr)) (fp : List Addr), GTs (hblk X s H scope (compEnvC scope cl C X.env) fp) c wx0 ifs tt)
    (he : ∀ (s : Shared) (H : Hp) (C : Addr) (cl : List (Str × Addr)) (fp : List Addr), GE (hblk X s H scope (compEnvC scope cl C X.env) fp) c wx0 elt te) (hs : ∀ x, foldedSetIterable iter X.env x = pure x := by intro _; rfl) :
    GE X c wx (.ListComp elt [⟨tg, iter, ifs, 0⟩] scope pos) (mLcV mi t tt te (own.map (·.2))) :=
  PE.imp (pe_zc hc hN hi (blkOk_by ok) hg ht he hs) fun σ H Q q => lc_t σ H Q q
/-! ### isinstance of the handled exception -/
def gIsE (f : D → Option Bool) : List D → Option D
  | [.glb 99, t] => match f t with | some b => some (.bl b) | none => none
  | _ => none
theorem cg_isE {a Dd : Addr} {oe : Obj} {f : D → Option Bool} (hp : (a, oe) ∈ X.pn) (C : ExcC X.K Dd) (hz : Zc (.ref Dd) none oe) (hf : ∃ vs, oe.data = .fields vs) (hg : c.gl 99 = .ref a)
    (ht : ∀ t b, f t = some b → ∀ W v, At c.toTp W t v → ∃ cv : Value, (∀ u, RelV v u → u = cv) ∧ PySem.W.kitOne X.K (.ref Dd) cv = some b) : CallR X (.builtin "isinstance") (rGC c (gIsE f)) := by
  intro pins s σ H xs us Q I rs ⟨W, h, ds, z, r, a', e, k⟩
  have ho : ∃ t b, ds = [.glb 99, t] ∧ f t = some b ∧ z = .bl b := by
    unfold gIsE at e
    split at e
    · rename_i t
      cases ef : f t with
      | none => rw [ef] at e; cases e
      | some b => rw [ef] at e; cases e; exact ⟨t, b, rfl, ef, rfl⟩
    · cases e
  obtain ⟨t, b, rfl, ef, rfl⟩ := ho
  obtain ⟨v1, vs1, rfl, a1, b1⟩ := a'.uncons
  obtain ⟨v2, vs2, rfl, a2, b2⟩ := b1.uncons
  simp only [AtL] at b2
  subst b2
  simp only [At] at a1
  rw [hg] at a1
  subst a1
  obtain ⟨cv, h1, h2⟩ := ht t b ef W v2 a2
  exact cr_isH hp C hz hf pins s σ H _ us Q I rs ⟨v2, cv, b, rfl, h1, h2, k.bl r⟩
end
end DH

/-! The classes of errors; `_law_kin`; `_law_try`. -/
namespace DH
open DL PySem PySem.Spec PyProof.Rows L2 HotX L2H LamX
/-! ### the classes -/
abbrev bmVE : List Value := [.type "ValueError", .type "Exception", .type "BaseException", .type "object"]
structure ErrC (K : PySem.W.Frag) (C : Addr) : Prop where
  ec : ExcC K C
  tP : PySem.W.typeIn K (.ref C) = some (.type "type")
  kP : PySem.W.keepIn K (.ref C) = true
def errB1 (K : PySem.W.Frag) (D : Addr) : Bool :=
  decide (PySem.W.findIn K (.ref D) "__getattribute__" = some (some (.builtin "BaseException.__getattribute__"))) && (decide (PySem.W.findIn K (.ref D) "__getattr__" = some none) && (decide (PySem.W.subIn K (.ref D) (.type "BaseException") = some true) && (PySem.W.hasDictIn K D &&
  (decide (PySem.W.findIn K (.ref D) "__class__" = some (some (.builtin "object.__class__"))) && (decide (PySem.W.specialIn K (.builtin "object.__class__") "__get__" = some (some (.builtin "getset_descriptor.__get__"))) && (decide (PySem.W.takesIn K (.builtin "object.__class__") = some true) &&
  (decide (PySem.W.mroIn K D (.type "object") = some true) && (decide (PySem.W.typeIn K (.ref D) = some (.type "type")) && PySem.W.keepIn K (.ref D)))))))))
theorem bands {a b : Bool} (h : (a && b) = true) : a = true ∧ b = true := Bool.and_eq_true_iff.mp h
theorem errB1_ok {K : PySem.W.Frag} {D : Addr} (h : errB1 K D = true) : ErrC K D := by
  obtain ⟨h1, h⟩ := bands h
  obtain ⟨h2, h⟩ := bands h
  obtain ⟨h3, h⟩ := bands h
  obtain ⟨h4, h⟩ := bands h
  obtain ⟨h5, h⟩ := bands h
  obtain ⟨h6, h⟩ := bands h
  obtain ⟨h7, h⟩ := bands h
  obtain ⟨h8, h⟩ := bands h
  obtain ⟨h9, h10⟩ := bands h
  exact ⟨⟨of_decide_eq_true h1, of_decide_eq_true h2, of_decide_eq_true h3, h4, of_decide_eq_true h5, of_decide_eq_true h6, of_decide_eq_true h7, of_decide_eq_true h8⟩, of_decide_eq_true h9, h10⟩
/-- the classes in the order of `_law_kin`, behind them RingError -/
structure Errs (K : PySem.W.Frag) (C : Nat → Addr) : Prop where
  one : ∀ n < 14, ErrC K (C n)
  own : ∀ n < 12, PySem.W.excIn K (C n) bmVE "ValueError.__new__" = true
  kin : ∀ n < 13, ∀ j < 13, PySem.W.kitOne K (.ref (C n)) (.ref (C j)) = some (n == j)
  val : ∀ n < 13, PySem.W.kitOne K (.ref (C n)) (.type "ValueError") = some true
  many : ∀ n < 13, PySem.W.exmOne K (.ref (C n)) (.ref (C 12)) = some (n == 12)
  ring : ∀ n < 13, PySem.W.exmOne K (.ref (C n)) (.ref (C 13)) = some true
def clsF (cs : List Addr) (n : Nat) : Addr := cs.getD n 0
def errB (K : PySem.W.Frag) (cs : List Addr) : Bool :=
  (List.range 14).all (fun n => errB1 K (clsF cs n)) && ((List.range 12).all (fun n => PySem.W.excIn K (clsF cs n) bmVE "ValueError.__new__") &&
  ((List.range 13).all (fun n => (List.range 13).all fun j => decide (PySem.W.kitOne K (.ref (clsF cs n)) (.ref (clsF cs j)) = some (n == j))) && ((List.range 13).all (fun n => decide (PySem.W.kitOne K (.ref (clsF cs n)) (.type "ValueError") = some true)) &&
  ((List.range 13).all (fun n => decide (PySem.W.exmOne K (.ref (clsF cs n)) (.ref (clsF cs 12)) = some (n == 12))) && (List.range 13).all (fun n => decide (PySem.W.exmOne K (.ref (clsF cs n)) (.ref (clsF cs 13)) = some true))))))
theorem range_all {m : Nat} {f : Nat → Bool} (h : (List.range m).all f = true) : ∀ n < m, f n = true := fun n hn => List.all_eq_true.mp h n (List.mem_range.mpr hn)
theorem errB_ok {K : PySem.W.Frag} {cs : List Addr} (h : errB K cs = true) : Errs K (clsF cs) := by
  obtain ⟨h1, h⟩ := bands h
  obtain ⟨h2, h⟩ := bands h
  obtain ⟨h3, h⟩ := bands h
  obtain ⟨h4, h⟩ := bands h
  obtain ⟨h5, h6⟩ := bands h
  exact ⟨fun n hn => errB1_ok (range_all h1 n hn), range_all h2, fun n hn j hj => of_decide_eq_true (range_all (range_all h3 n hn) j hj), fun n hn => of_decide_eq_true (range_all h4 n hn), fun n hn => of_decide_eq_true (range_all h5 n hn), fun n hn => of_decide_eq_true (range_all h6 n hn)⟩
def labels : List (List Nat) := [[115, 116, 97, 110, 100, 105, 110, 103], [112, 111, 115, 116], [112, 111, 115, 116, 115], [110, 117, 109, 98, 101, 114], [97, 114, 99, 115], [109, 111, 118, 101], [119, 97, 121], [114, 105, 110, 103], [116, 101, 120, 116], [98, 97, 114, 114, 101, 100], [117, 110, 108, 105, 107, 101], [117, 110, 100, 111], [109, 97, 110, 121]]
/-- what `_law_kin` tells of the class n -/
def kinS (n : Nat) : List Nat := labels.getD n [] ++ [32, 43]
def kinF (n : Nat) : D → Option Bool
  | .glb j => if j < 13 then some (n == j) else none
  | .ty s => if s = "ValueError" then some true else none
  | _ => none
/-- a context in which glb 99 is the handled exception -/
def cK (K : PySem.W.Frag) (T : List (Addr × Str)) (C : Nat → Addr) (a : Addr) : Cc := ⟨⟨K, fun j => if j = 99 then .ref a else .ref (C j)⟩, T, fun _ => .none⟩
theorem cg_kin {X : Cx} {T : List (Addr × Str)} {C : Nat → Addr} {a : Addr} {oe : Obj} {n : Nat} (hE : Errs X.K C) (hn : n < 13) (hp : (a, oe) ∈ X.pn) (hz : Zc (.ref (C n)) none oe) (hf : ∃ vs, oe.data = .fields vs) :
    CallR X (.builtin "isinstance") (rGC (cK X.K T C a) (gIsE (kinF n))) :=
  cg_isE (Dd := C n) hp (hE.one n (by omega)).ec hz hf rfl fun t b e W v at_ => by
    cases t <;> first | (cases e; done) | skip
    · rename_i j
      simp only [kinF] at e
      split at e
      · rename_i hj
        cases e
        simp only [At] at at_
        have e99 : ¬ j = 99 := by omega
        have ev : v = .ref (C j) := by rw [at_]; show (if j = 99 then V.ref a else .ref (C j)) = _; rw [if_neg e99]
        subst ev
        exact ⟨.ref (C j), fun u r => r, hE.kin n hn j hj⟩
      · cases e
    · simp only [kinF] at e
      split at e
      · rename_i hj
        cases e
        simp only [At] at at_
        subst at_ hj
        exact ⟨.type "ValueError", fun u r => r, hE.val n hn⟩
      · cases e
/-! ### `_law_kin(e)` -/
structure KinOk (P : Program) (w : World) (K : PySem.W.Frag) (mg : Str → Option Value) (base : Heap) (k : Nat) (T : List (Addr × Str)) (C : Nat → Addr) : Prop where
  ex : ∃ f fd, mg "_law_kin" = some (.ref f) ∧ PySem.W.keepIn K (.ref f) = true ∧ Binds K fd ["e"] [] ∧
    ∀ n < 12, ∀ (A : Around) (outer : List PySem.Env) (s : Shared) (H : Hp) (args : Args) (p : Addr × Obj) (Q : VK) (E : XK), RoomH k A → Hot1 A p → PinOk outer H s p → Env0 P w K mg base A outer s H → BindsTo s fd args [("e", .ref p.1)] →
      Zc (.ref (C n)) none p.2 → (∃ vs, p.2.data = .fields vs) → Tabs T H → (∀ H', ExtN H H' → Tabs T H' → Q (.str ⟨(kinS n).toArray⟩) H') → codeAny (model P w) A (.call (.ref f) args) (CR (L2N.CX P w) outer P w H s Q E) s
theorem KinOk.mono {P : Program} {w : World} {K : PySem.W.Frag} {mg : Str → Option Value} {base : Heap} {k k' : Nat} {T : List (Addr × Str)} {C : Nat → Addr} (h : KinOk P w K mg base k T C) (hk : k ≤ k') : KinOk P w K mg base k' T C := by
  obtain ⟨f, fd, h1, h2, h3, h4⟩ := h.ex
  exact ⟨f, fd, h1, h2, h3, fun n hn A outer s H args p Q E hr => h4 n hn A outer s H args p Q E (hr.mono hk)⟩
theorem kin_ok {P : Program} {w : World} {K : PySem.W.Frag} {mg : Str → Option Value} {base : Heap} {T : List (Addr × Str)} {C : Nat → Addr} {f : Addr} {fd : FuncData} {st : Stmt} {N : List Str} {k : Nat} {m : Nat → MS} (F : L2.Fun K "_law_kin" "_law_kin" st f fd) (S : FnScope N ["e"] (defScope st))
    (hm : mg "_law_kin" = some (.ref f)) (hb : Binds K fd ["e"] [])
    (hbody : ∀ n < 12, ∀ (a : Addr) (oe : Obj) (cdv : Value) (A : Around) (outer : List PySem.Env) (s : Shared) (H : Hp) (E : XK), Hot1 A (a, oe) → Zc (.ref (C n)) none oe → (∃ vs, oe.data = .fields vs) →
      GSs (cxH (L2N.CX P w) P w K mg base N "_law_kin" (defScope st) f cdv A outer s H E (a, oe)) (cK K T C a) wx0 (defBody st) (m n))
    (hres : ∀ n < 12, mDef N.length (m n) [.glb 99] [] = .ok (.str (kinS n)) []) : KinOk P w K mg base (k + 1) T C := by
  refine ⟨f, fd, hm, F.kp, hb, fun n hn A outer s H args p Q E hr hot hpin e0 hbd hz hf hT q => ?_⟩
  obtain ⟨a, oe⟩ := p
  refine run_hot (ps := ["e"]) (us := [.ref a]) (vs := [.ref a]) F S hr hot hpin e0 hbd (.cons rfl .nil) rfl fun cdv hr' => ⟨_, hbody n hn a oe cdv A outer s H E hot hz hf, ?_⟩
  let W0 : Wd := ⟨fun _ => none, []⟩
  have r0 : HRel (cK K T C a) W0 [] H := ⟨fun _ _ z => (nomatch z), fun _ _ z => (nomatch z), rfl, fun j m p z _ => by simp at z, List.nodup_nil, hT⟩
  have al : AtL (cK K T C a).toTp W0 [.glb 99] [.ref a] := AtL.cons (by simp only [At]; rfl) AtL.nil
  have fin : ∀ v (W' : Wd) H', Ext W0 H [] W' H' → HRel (cK K T C a) W' [] H' → At (cK K T C a).toTp W' (.str (kinS n)) v → Q v H' := fun v W' H' x r av => by
    simp only [At] at av
    subst av
    exact q H' (fun b o e ne => x.fr b o e (fun z => nomatch z) (fun z => nomatch z) ne) r.tab
  refine ⟨⟨W0, H, []⟩, W0, _, [], ⟨Ext.refl _ _ _, r0, start_at al, fun i m p e1 _ => ?_⟩, ?_⟩
  · cases i with
    | zero => cases e1
    | succ i =>
      rw [List.getElem?_append_right (by simp), List.getElem?_replicate] at e1
      split at e1 <;> cases e1
  · have e := hres n hn
    unfold mDef at e
    revert e
    generalize m n ([D.glb 99].map (fun d => some (SV.val d)) ++ List.replicate (N.length - [D.glb 99].length) none) [] = o
    intro e
    cases o with
    | nx _ _ => cases e
    | bk _ _ => cases e
    | ct _ _ => cases e
    | exc _ _ => cases e
    | stuck => cases e
    | rt d h => cases e; exact fin
def tKin (T : List (Addr × Str)) (C : Nat → Addr) (i : Nat) (a : Addr) (cls : Value) (d : Option Addr) : TE := fun σ H Q => σ[i]? = some (some (.ref a)) ∧ ∃ n, n < 12 ∧ cls = .ref (C n) ∧ d = none ∧ Tabs T H ∧ ∀ H', ExtN H H' → Tabs T H' → Q (.str ⟨(kinS n).toArray⟩) H'
theorem pe_kin {X : Cx} {k i : Nat} {T : List (Addr × Str)} {C : Nat → Addr} {a : Addr} {oe : Obj} {cls : Value} {d : Option Addr} {pn : List (Addr × Obj)} {q p2 pos : Pos} (hz : L2N.Zn cls d oe) (hf : ∃ vs, oe.data = .fields vs) (hk : KinOk X.prog X.w X.K X.mg X.base k T C) (hr : Room k X.A)
    (hg : Gl X "_law_kin") (hN : X.N[i]? = some "e") (hv : Vis X.env.scope "e")
    (he : starEach [.Name "e" p2] X.env = (false, eval (.Name "e" p2) X.env) :: starEach [] X.env := by rfl) (hpl : (backTo pos (starEach [] X.env)).any (·.1) = false := by rfl) :
    PE (X.suite a ((a, oe) :: pn)) (.Call (.Name "_law_kin" q) [.Name "e" p2] [] pos) (tKin T C i a cls d) := ⟨fun pins s σ H Q I ⟨hs, n, hn, ec, ed, hT, hq⟩ => by
  subst ec ed
  obtain ⟨f, fd, hm, hkp, hb, hrun⟩ := hk.ex
  refine wpAny_Call_Name_kw (ld_glob I hg hm ?_)
  have pa : PA (X.suite a ((a, oe) :: pn)) [.Name "e" p2] (tCons (tVar i) tNil) := pa_cons (pe_var hN hv (by decide) (by decide)) pa_nil he
  refine PySem.W.callWith_K (h₀ := X.base) I.ok.mod.kin hkp (thn (pa.run pos pins s σ H (fun vs H1 => vs = [.ref a] ∧ H = H1) I ⟨.ref a, hs, rfl, rfl⟩) fun us s1 ⟨vs, H1, I1, r, e1, e2⟩ => ⟨I1.kIn, ?_⟩) he hpl
  subst e1 e2
  cases r with
  | cons ru rn =>
  cases rn
  cases ru
  have b := hb s1 [.ref a] I1.kIn rfl
  have P1 := I1.pin (a, oe) (List.mem_append_left _ List.mem_cons_self)
  have hpin : PinOk X.stack H s1 (a, oe) := ⟨P1.1, P1.2.1, fun hm => (List.mem_cons.mp (I1.stkSub a hm)).elim P1.2.2.1 P1.2.2.2.1, P1.2.2.2.2⟩
  have hot : Hot1 (X.A.mark (some (.ref a))) (a, oe) := by
    obtain ⟨vs, hd⟩ := hf
    exact ⟨rfl, vs, hd, hz.2.2 vs hd⟩
  refine wpAny_call (codeAny_mono (hrun n hn (X.A.mark (some (.ref a))) X.stack s1 H ⟨[.ref a], []⟩ (a, oe) Q (fun _ _ _ => False) ⟨hr.dp, hr.un⟩ hot hpin I1.env0 b hz.zc hf hT hq) fun r s' hq => ?_)
  cases r with
  | error e =>
    obtain ⟨_, _, _, _, _, _, _, _, _, _, _, _, z⟩ := hq
    exact z.elim
  | ok fl =>
    cases fl with
    | ret u => exact I1.after hq
    | next => exact False.elim hq
    | brk => exact False.elim hq
    | cont => exact False.elim hq⟩
end DH

/-! `_law_try`: what it makes of a lambda. -/
namespace DH
open DL PySem PySem.Spec PyProof.Rows L2 HotX L2H LamX
def told : List Nat := [116, 111, 108, 100]
/-- what the lambda's exceptions, its value come to -/
def tryE (T : List (Addr × Str)) (C : Nat → Addr) (Q : VK) : XK := fun cls d H' => ∃ n, n < 12 ∧ cls = .ref (C n) ∧ d = none ∧ Tabs T H' ∧ ∀ H2, ExtN H' H2 → Tabs T H2 → Q (.str ⟨(kinS n).toArray⟩) H2
def tryQ (Q : VK) : VK := fun v H' => ∀ p, H' p = none → Q (.ref p) (upd H' p (.tup [.str ⟨told.toArray⟩, v]))
def TTry (T : List (Addr × Str)) (C : Nat → Addr) : (XK → Hp → VK → Prop) → Hp → VK → XK → Prop := fun tl H Q _ =>
  ∀ (E' : XK) (Q' : VK), (∀ cls d H', tryE T C Q cls d H' → E' cls d H') → (∀ v H', tryQ Q v H' → Q' v H') → tl E' H Q'
theorem takes_len {X : Cx} {W : WX} (tk : L2N.Takes X W) : L2N.Takes X (fun cls d σ H => σ.length = X.N.length → W cls d σ H) := fun u s' x => by
  obtain ⟨a, B, sI, pins, σ, H, cls, d, e, I, h1, h2, h3, h4, h5, h6, w⟩ := x
  exact tk u s' ⟨a, B, sI, pins, σ, H, cls, d, e, I, h1, h2, h3, h4, h5, h6, w I.len⟩
theorem try_gives {X : Cx} {T : List (Addr × Str)} {C : Nat → Addr} {k : Nat} {sg : Scope} {g : Addr} {cdg : Value} {q : Str} (hE : Errs X.K C) (hk : KinOk X.prog X.w X.K X.mg X.base k T C) (hr : ∀ env, Room k (X.A.deeper env))
    (hm12 : X.mg "TooMany" = some (.ref (C 12))) (hm13 : X.mg "RingError" = some (.ref (C 13)))
    (s1 : sg.names.lookup ("found" : Str) = some .local) (s2 : sg.names.lookup ("e" : Str) = some .local) (s3 : sg.names.lookup ("TooMany" : Str) = some .globalImplicit) (s4 : sg.names.lookup ("RingError" : Str) = some .globalImplicit) (s5 : sg.names.lookup ("_law_kin" : Str) = some .globalImplicit)
    {j1 j2 k8 : Nat} {p1 p2 p3 p4 p5 p6 p7 p9 p10 p11 p16 p17 p18 p19 p20 p21 p22 p23 p24 p25 p26 : Pos} {b₀ : Stmt} {bs : List Stmt} {X0 : Expr} :
    Gives X ["call_so", "found", "e"] "_law_try" sg g cdg [.Assign [.Name "found" p1] (.Constant .none j1 p2) p3,
      .Try [.Assign [.Name "found" p4] (.Tuple [.Constant (.str "told") j2 p5, .Call (.Name "call_so" p6) [] [] p7] k8 p9) p10]
        [.ExceptHandler (some (.Name "TooMany" p11)) (some "e") (b₀ :: bs) p16, .ExceptHandler (some (.Name "RingError" p17)) (some "e") [.Assign [.Name "found" p18] (.Call (.Name "_law_kin" p19) [.Name "e" p20] [] p21) p22] p23] [] [] p24,
      .Return (some (.Name "found" p25)) p26] "call_so" q (TTry T C) := by
  intro f c' s H Q Eg tl act hco hTT
  have nd : (["call_so", "found", "e"] : List Str).Nodup := by decide
  let Z := cxOf (L2N.CX X.prog X.w) X.prog X.w X.K X.mg X.base ["call_so", "found", "e"] "_law_try" sg g cdg X.A X.stack s H Eg
  refine ⟨_, pss_cons (ps_set (X := Z) (i := 1) nd rfl (.inl s1) pe_non (hf := .inr s1)) (pss_cons (ps_tries (X := Z) (i := 2) (Wout := fun cls d _ H => Eg cls d H)
      (tb := fun W D σ H => ∃ E : XK, (∀ cls d σ' H', E cls d H' → (σ'.length = Z.N.length → W cls d σ' H')) ∧ tAsg (tTup (tCons (tC (.str "told")) (tCons (fun σZ HZ Q => σZ[0]? = some (some (.ref f)) ∧ HZ c' = some (CodeO c' q) ∧ tl E HZ Q) tNil))) (gName 1) D σ H)
      (l := [(.ref (C 12), fun _ _ _ _ _ _ => False), (.ref (C 13), fun a cls d => tAsg (tKin T C 2 a cls d) (gName 1))])
      rfl rfl nd rfl s2 (L2N.takes_of rfl rfl rfl rfl) (fun W pn xe tk _ => ?_)
      (.cons ⟨s3, by decide, .inl hm12⟩ (fun a oe cls d pn _ _ => ?_) (.cons ⟨s4, by decide, .inl hm13⟩ (fun a oe cls d pn hz hf => ?_) .nil)))
      (pss_one (ps_ret (X := Z) (pe_var (i := 1) rfl (.inl s1) (by decide) (by decide))))), ?_⟩
  · refine ⟨fun pins s σ H D I ⟨E, hW, h3⟩ => ?_⟩
    have hp := act (fun cls d σ' H' => σ'.length = Z.N.length → W cls d σ' H') pn xe E p6 p7 (takes_len tk) hW
    refine (pss_one (ps_set (X := Z.tr pn xe) (i := 1) nd rfl (.inl s1) (pe_tup (pa_cons (pe_str (x := "told")) (pa_cons hp pa_nil (by rfl)) (by rfl))) (by rfl) (.inr s1))).run pins s σ H D I h3
  · exact ⟨fun _ _ _ _ _ _ z => False.elim z⟩
  · refine pss_one (ps_set (i := 1) nd rfl (.inl s1) (pe_kin hz hf hk (hr _) s5 rfl (.inl s2)) (by rfl) (.inr s1))
  · refine ⟨fun cls d H' => ∀ σ' : L2.St, σ'.length = Z.N.length → _, fun cls d σ' H' h1 h2 => h1 σ' h2, ?_⟩
    refine ⟨rfl, hco, hTT _ _ (fun cls d H' ⟨n, hn, e1, e2, hT, hq⟩ σ' hl => ?_) fun v H' hq => ?_⟩
    · subst e1 e2
      refine ⟨_, hE.many n (by omega), fun e => ?_, fun _ => ⟨true, hE.ring n (by omega), fun _ a _ => ?_, fun z => Bool.noConfusion z⟩⟩
      · have := eq_of_beq e
        omega
      · match σ', hl with
        | [x, y, z], _ => exact ⟨rfl, n, hn, rfl, rfl, hT, fun H2 h1 h2 => ⟨_, rfl, hq H2 h1 h2⟩⟩
    · exact ⟨by show 2 ≤ sizeLine; decide, fun p hp => ⟨_, rfl, hq p hp⟩⟩
end DH

/-! `_law_try(lambda: ..)` as a function; defs that hold lambdas; the law's end with their tables. -/
namespace DH
open DL PySem PySem.Spec PyProof.Rows L2 HotX L2H LamX
def tryO (o : Out D) : Out D := match o with
  | .ok d h => .ok (.tup [.str told, d]) h
  | .exc ⟨n, none⟩ h => if n < 12 then .ok (.str (kinS n)) h else .stuck
  | _ => .stuck
def mTry (m : M D) : M D := fun ρ h => tryO (m ρ h)
@[simp] theorem mTry_ap {ρ : DL.Env} {h : Cells} (m : M D) : mTry m ρ h = tryO (m ρ h) := id rfl
@[simp] theorem tryO_ok (d : D) (h : Cells) : tryO (.ok d h) = .ok (.tup [.str told, d]) h := id rfl
theorem ext_N {c : Cc} {W : Wd} {h : Cells} {H H1 : Hp} (r : HRel c W h H) (e : ExtN H H1) (t : Tabs c.T H1) : Ext W H [] W H1 ∧ HRel c W h H1 := by
  have live : ∀ a, nt H a ≠ none → ∃ o, H a = some o ∧ ∀ ps, o ≠ .tbl ps := fun a z => by
    unfold nt at z
    cases q : H a with
    | none => rw [q] at z; exact absurd rfl z
    | some o => exact ⟨o, rfl, fun ps y => by subst y; rw [q] at z; exact z rfl⟩
  refine ⟨⟨.refl _, fun _ _ _ z => z, fun _ z => .inl z, fun a o h1 _ _ h2 => e a o h1 h2, fun a z => ?_⟩, ⟨fun a o z => ?_, r.dat, r.len, fun j m p h1 h2 => ?_, r.nd, t⟩⟩
  · obtain ⟨o, h1, h2⟩ := live a z
    exact nt_yes (e a o h1 h2) h2
  · rcases r.sub a o z with q | ⟨ob, q⟩
    · exact .inl (e a o q fun ps y => by have := r.dat a o z; rw [y] at this; exact this)
    · exact .inr ⟨ob, e a _ q fun _ y => nomatch y⟩
  · obtain ⟨g, a⟩ := r.cel j m p h1 h2
    exact ⟨g, a.mono (.refl _) fun o z n => e p o z n⟩
/-- the code object of the def at f -/
def CodeIs (K : PySem.W.Frag) (f : Addr) (cdv : Value) : Prop := ∃ oc od fd osl, K.lookup f = some ⟨oc, od, .func fd, osl⟩ ∧ fd.code = cdv
theorem CodeIs.one {K : PySem.W.Frag} {f : Addr} {c d : Value} (a : CodeIs K f c) (b : CodeIs K f d) : c = d := by
  obtain ⟨oc, od, fd, osl, h1, h2⟩ := a
  obtain ⟨oc', od', fd', osl', h3, h4⟩ := b
  rw [h1] at h3
  cases h3
  exact h2.symm.trans h4
/-- the table of a def that holds lambdas: they bear the name q -/
structure LamTab (K : PySem.W.Frag) (mg : Str → Option Value) (base : Heap) (T : List (Addr × Str)) (f : Addr) (q : Str) : Prop where
  ex : ∃ c P, CodeIs K f (.ref c) ∧ TabB base mg c P ∧ (P, q) ∈ T ∧ ∀ p ∈ T, p.1 = P → p.2 = q
/-- the def that tries, and what it needs -/
structure TryK (P : Program) (w : World) (K : PySem.W.Frag) (mg : Str → Option Value) (base : Heap) (k : Nat) (T : List (Addr × Str)) (C : Nat → Addr) : Prop where
  er : Errs K C
  kin : KinOk P w K mg base k T C
  m12 : mg "TooMany" = some (.ref (C 12))
  m13 : mg "RingError" = some (.ref (C 13))
  ex : ∃ g st fd, mg "_law_try" = some (.ref g) ∧ L2.Fun K "_law_try" "_law_try" st g fd ∧ Binds K fd ["call_so"] [] ∧ FnScope ["call_so", "found", "e"] ["call_so"] (defScope st) ∧ Vis (defScope st) "call_so" ∧
    (defScope st).names.lookup ("found" : Str) = some .local ∧ (defScope st).names.lookup ("e" : Str) = some .local ∧ (defScope st).names.lookup ("TooMany" : Str) = some .globalImplicit ∧ (defScope st).names.lookup ("RingError" : Str) = some .globalImplicit ∧ (defScope st).names.lookup ("_law_kin" : Str) = some .globalImplicit ∧
    ∃ (j1 j2 k8 : Nat) (p1 p2 p3 p4 p5 p6 p7 p9 p10 p11 p16 p17 p18 p19 p20 p21 p22 p23 p24 p25 p26 : Pos) (b₀ : Stmt) (bs : List Stmt), defBody st = [.Assign [.Name "found" p1] (.Constant .none j1 p2) p3,
      .Try [.Assign [.Name "found" p4] (.Tuple [.Constant (.str "told") j2 p5, .Call (.Name "call_so" p6) [] [] p7] k8 p9) p10]
        [.ExceptHandler (some (.Name "TooMany" p11)) (some "e") (b₀ :: bs) p16, .ExceptHandler (some (.Name "RingError" p17)) (some "e") [.Assign [.Name "found" p18] (.Call (.Name "_law_kin" p19) [.Name "e" p20] [] p21) p22] p23] [] [] p24,
      .Return (some (.Name "found" p25)) p26]
section
variable {X : Cx} {c : Cc} {wx : WX}
theorem ge_try {C : Nat → Addr} {k k2 : Nat} {f : Addr} {params : Arguments} {body : Expr} {scope : Scope} {m : M D} {p lpos pos : Pos} (hxc : ∀ n < 12, c.xc n = .ref (C n)) (tr : TryK X.prog X.w X.K X.mg X.base k c.T C) (lt : LamTab X.K X.mg X.base c.T f (X.env.qual ++ "<lambda>")) (hcode : CodeIs X.K f X.env.code)
    (tk : L2N.Takes X wx) (hr : Room (k2 + 2) X.A) (hk : k ≤ k2 + 1) (L : LamS X.env.scope scope)
    (hbody : ∀ (A : Around) (outer : List PySem.Env) (s : Shared) (H : Hp) (E : XK) (f c' : Addr), Room k2 (A.deeper (lamEnv X scope s.heap.objs.size f c')) → GE (lamN X A outer s H E scope f c') c (fun cls d _ H => E cls d H) body m)
    (hbind : ∀ (q : Str) (cl : List (Str × Addr)) (pm cv ctv : Value), bindArgs (PySem.W.kla_fn "<lambda>" q params body scope cl pm cv ctv) ⟨[], []⟩ = pure [] := by intros; rfl) (hdef : defaultsOf params X.env = ([], []) := by rfl)
    (hg : Gl X "_law_try" := by rfl) : GE X c wx (.Call (.Name "_law_try" p) [.Lambda params body scope lpos] [] pos) (mTry m) := by
  obtain ⟨g, st, fd, hm, F, hb, Sg, hva, s1, s2, s3, s4, s5, j1, j2, k8, p1, p2, p3, p4, p5, p6, p7, p9, p10, p11, p16, p17, p18, p19, p20, p21, p22, p23, p24, p25, p26, b₀, bs, hbd⟩ := tr.ex
  obtain ⟨c0, P, hc0, TB, hmT, hu⟩ := lt.ex
  have hco : X.env.code = .ref c0 := hcode.one hc0
  refine PE.imp (pe_lam (T := c.T) (TT := TTry c.T C) (t := fun E => tD c (fun cls d _ H => E cls d H) m) hm F hb Sg rfl hva (fun cdv => ?_) tk TB hco hmT hu hr L hbody hbind hdef hg) fun σ H Q ⟨W, ρ, h, r, l, q⟩ => ?_
  · rw [hbd]
    exact try_gives (k := k) (X0 := .Name "e" p20) tr.er tr.kin (fun env => ⟨hr.hd, by have := hr.dp; show X.A.depth + 1 + 3 * k + 5 < _; omega, by have := hr.un; show X.A.units + 3 + 16 * k + 200 < _; omega⟩) tr.m12 tr.m13 s1 s2 s3 s4 s5
  · refine ⟨r.tab, fun H1 en t1 E' Q' hE hQ => ?_⟩
    obtain ⟨x1, r1⟩ := ext_N r en t1
    refine ⟨W, ρ, h, r1, l.ext x1, ?_⟩
    replace q : EPost c wx W σ H (fun W _ => At c.toTp W) (tryO (m ρ h)) Q := q
    cases em : m ρ h with
    | stuck => rw [em] at q; exact q
    | ok d h' =>
      rw [em] at q
      intro v W' H' x r' a
      refine hQ v H' fun p hp => ?_
      have k : KQ c W' h' H' (.tup [.str told, d]) Q := fun v2 W2 H2 x2 r2 a2 => q v2 W2 H2 ((x1.trans0 x).trans0 x2) r2 a2
      exact k.tup r' (AtL.cons (by simp only [At]) (AtL.cons a AtL.nil)) hp
    | exc z h' =>
      obtain ⟨n, lim⟩ := z
      cases lim with
      | some _ => rw [em] at q; exact False.elim q
      | none =>
        rw [em] at q
        by_cases hn : n < 12
        · replace q : EPost c wx W σ H (fun W _ => At c.toTp W) (if n < 12 then .ok (.str (kinS n)) h' else .stuck) Q := q
          rw [if_pos hn] at q
          intro cls dd W' H' x r' ⟨e1, e2⟩
          refine hE cls dd H' ⟨n, hn, e1.trans (hxc n hn), e2, r'.tab, fun H2 en2 t2 => ?_⟩
          obtain ⟨x2, r2⟩ := ext_N r' en2 t2
          exact q _ W' H2 ((x1.trans0 x).trans0 x2) r2 (by simp only [At])
        · replace q : EPost c wx W σ H (fun W _ => At c.toTp W) (if n < 12 then .ok (.str (kinS n)) h' else .stuck) Q := q
          rw [if_neg hn] at q
          exact False.elim q
end
section
variable {P : Program} {w : World} {K : PySem.W.Frag} {mg : Str → Option Value} {base : Heap} {c : Cc}
/-- THE RULE for a def that holds lambdas: its code object is told -/
theorem fn_okC {x qual : Str} {st : Stmt} {f : Addr} {fd : FuncData} {N ps : List Str} {k n : Nat} {m : MS} (F : Fun K x qual st f fd) (S : FnScope N ps (defScope st)) (hn : ps.length = n)
    (hbody : ∀ (cdv : Value) (A : Around) (outer : List PySem.Env) (s : Shared) (H : Hp) (E : XK), CodeIs K f cdv → Room k (A.deeper (envOfC qual (defScope st) s.heap.objs.size f cdv)) →
      GSs (cxOf (L2N.CX P w) P w K mg base N qual (defScope st) f cdv A outer s H E) c (fun cls dd _ H' => E cls dd H') (defBody st) m) : FnOk P w K mg base (L2N.CX P w) (k + 1) f fd ps (spD c n (mDef N.length m)) := by
  obtain ⟨oc, od, kV, doc, pm, an, cdv, ct, osl, rfl, lk, hcd⟩ := F.ex
  have hci : CodeIs K f cdv := ⟨_, _, _, _, lk, rfl⟩
  refine L2.fn_of lk hcd S (fun vs H Q E h => by rw [hn]; exact h.1) fun A outer s H vs Q E hr h => ⟨_, hbody cdv A outer s H E hci hr, ?_⟩
  obtain ⟨hl, W, hc, ds, r, a, p⟩ := h
  refine ⟨⟨W, H, []⟩, W, _, hc, ⟨Ext.refl _ _ _, r, start_at a, fun i m p e1 _ => ?_⟩, ?_⟩
  · by_cases hi : i < ds.length
    · rw [List.getElem?_append_left (by simpa using hi), List.getElem?_map] at e1
      cases ed : ds[i]? with
      | none => rw [ed] at e1; cases e1
      | some d => rw [ed] at e1; cases e1
    · rw [List.getElem?_append_right (by simpa using hi), List.getElem?_replicate] at e1
      split at e1 <;> cases e1
  · unfold mDef at p
    generalize m (ds.map (fun d => some (SV.val d)) ++ List.replicate (N.length - ds.length) none) hc = o at p ⊢
    cases o with
    | nx ρ h' => exact fun W' σ' H' s' => p .non W' H' s'.x s'.r (by simp only [At])
    | bk _ _ => exact False.elim p
    | ct _ _ => exact False.elim p
    | rt d h' => exact fun v W' H' x r a => p v W' H' x r a
    | exc d h' => exact fun cls dd W' σ' H' x r a => p cls dd W' H' x r a
    | stuck => exact False.elim p
end
/-! ### the law's end -/
/-- the table of the def at f -/
def TabOf (K : PySem.W.Frag) (f : Addr) (h : Heap) : Prop := ∀ (c P : Addr) (o : Obj) (fd : FuncData) (e : Value) (dd : Option Addr) (vs : Array Value) (sl : Array (Option Value)), K.lookup f = some o → o.data = .func fd → fd.code = .ref c → K.lookup c = some ⟨e, dd, .fields vs, sl⟩ → vs[11]? = some (.ref P) →
  h.get? P = some { cls := .none, data := .fields #[] } ∧ PySem.W.CodeHd h c P
theorem walk_ofTab {l : PySem.W.OpenLaw} {n k : Nat} {q : Program} {loose : List Str} {XP : (Str → Option Value) → Heap → Prop} {YP : World → Heap → Prop} {d : DefRec} {K : Params → PySem.W.Frag} {CX : World → CXT} {x : Str} (names : List Str)
    (hn : l.most = some n) (hn2 : n ≤ sizeLine) (hdf : d.params.defaults = []) (hr : Room k callerA) (hrec : (names.all fun x => (recsOf q).any fun e => e.name == x) = true) (hY : ∀ (w : World) (h : Heap), YP w h → (K w.params).In h)
    (F : ∀ (w : World) (mg : Str → Option Value) (fa : Addr) (h : Heap), YP w h → (K w.params).In h → h.Ns mainGlobals mg → mg d.name = some (.ref fa) → (∀ x ∈ names, ∀ f, mg x = some (.ref f) → TabOf (K w.params) f h) → LawAtS l w (K w.params) (CX w) k n x mg fa h)
    (hCX : ∀ (w : World) (H : Hp) (s : Shared) (e : Value) (s' : Shared), CX w [] H s (fun _ _ _ => False) e s' → False) :
    PySem.W.WalkO q loose XP YP l.row.toRowW d [] (fun f vs => PySem.call f vs) := by
  refine Att.attach_callB hn hdf fun w s₀ s₁ mg mb fa o pm cd doc a vs ns G Y ho hd hcd hmg hobj hints hlen hbits hg => ?_
  have KX := hY w _ Y
  have own : ∀ x ∈ names, ∀ f, mg x = some (.ref f) → TabOf (K w.params) f s₁.heap := fun x hx f hf c P o1 fd1 e dd vs1 sl k1 k2 k3 k4 k5 => by
    obtain ⟨dL, hm, hn1⟩ := List.any_eq_true.mp (List.all_eq_true.mp hrec x hx)
    obtain ⟨a', o', fd', c', P', h1, h2, h3, h4, h5, h6⟩ := G.T.tab dL hm
    rw [beq_iff_eq.mp hn1, hf] at h1
    cases h1
    rw [KX _ _ k1] at h2
    cases h2
    rw [k2] at h3
    cases h3
    rw [k3] at h4
    cases h4
    have hd2 := PySem.W.CodeHd.of h5 h6
    obtain ⟨⟨oc, vc, e1, _, e3, e4⟩, hP⟩ := h6
    rw [KX _ _ k4] at e1
    cases e1
    cases e3
    rw [k5] at e4
    cases e4
    exact ⟨hP, hd2⟩
  obtain ⟨fd, cs, sp, hT, nT, C, hb, hsp, hF⟩ := F w mg fa _ Y KX G.T.g hmg own
  exact law_callTs KX G.T.g G.T.b G.T.builtins G.T.nolimit hg hT nT C G.T.bmain hobj hints (Nat.le_trans hlen hn2) hr hF hb (fun H hH hS => hsp H a ns hlen hbits hH hS) fun H e s' => hCX w H s₁ e s'
/-- what is to be shown of a program with lambdas: ts, the defs that hold them: their names, code objects, tables, and the lambdas' names -/
theorem law_atL {l : PySem.W.OpenLaw} {w : World} {K : PySem.W.Frag} {k : Nat} {x : Str} {mg : Str → Option Value} {fa : Addr} {h : Heap} {F : FS} {c : Cc} (cs : List (Addr × Addr × Str)) (hK : c.K = K) (hT : c.T = cs.map (·.2)) (hF : TrueAt F)
    (h1 : ∀ p ∈ cs, h.get? p.2.1 = some { cls := .none, data := .fields #[] } ∧ PySem.W.CodeHd h p.1 p.2.1) (h2 : ∀ p ∈ cs, K.lookup p.2.1 = none)
    (f : ∃ fd : FuncData, (∀ (s : Shared) (u : Value), BindsTo s fd ⟨[u], []⟩ [(x, u)]) ∧ ∀ base : Heap, K.In base → base.Ns mainGlobals mg → (∀ p ∈ cs, TabB base mg p.1 p.2.1) → FnOk l.prog w K mg base (L2N.CX l.prog w) k fa fd [x] (spD c 1 F)) :
    LamX.LawAtS l w K (L2N.CX l.prog w) k 63 x mg fa h := by
  obtain ⟨fd, hb, hf⟩ := f
  refine ⟨fd, cs.map fun p => (p.1, p.2.1), spD c 1 F, fun p hp => ?_, fun p hp => ?_, fun p hp => ?_, hb, fun H a ns g1 g2 g3 g4 => law_sp hK (fun p hp => ?_) hF g1 g4, fun base b1 b2 b3 => hf base b1 b2 fun p hp => b3 (p.1, p.2.1) (List.mem_map.mpr ⟨p, hp, rfl⟩)⟩
  · obtain ⟨q, hq, rfl⟩ := List.mem_map.mp hp
    exact (h1 q hq).1
  · obtain ⟨q, hq, rfl⟩ := List.mem_map.mp hp
    exact h2 q hq
  · obtain ⟨q, hq, rfl⟩ := List.mem_map.mp hp
    exact (h1 q hq).2
  · rw [hT] at hp
    obtain ⟨q, hq, rfl⟩ := List.mem_map.mp hp
    exact TabS.nil (g3 (q.1, q.2.1) (List.mem_map.mpr ⟨q, hq, rfl⟩))
end DH

/-! enumerate over a list, a tuple, a text. -/
namespace DE
open DL PySem PySem.Spec PyProof.Rows L2
/-- what is gone through -/
inductive Sq where
  | lst (a : Addr) | tup (a : Addr) | str (x : Str)
def Sq.v : Sq → V
  | .lst a => .ref a
  | .tup a => .ref a
  | .str x => .str x
def Sq.at (K : PySem.W.Frag) : Sq → Hp → List V → Prop
  | .lst a, H, xs => SqL K H a xs
  | .tup a, H, xs => SqT K H a xs
  | .str x, _, xs => xs = x.cps.toList.map fun c => V.str ⟨#[c]⟩
def Sq.st (it : Addr) : Sq → Nat → Heap → Prop
  | .lst a, i, h => h.IsListIter it a i
  | .tup a, i, h => h.IsTupleIter it a i
  | .str x, i, h => ∃ t, h.IsStrIter it (strIterType x) x t i
theorem Sq.obj {S : Sq} {it : Addr} {i : Nat} {h : Heap} (st : S.st it i h) : ∃ o vs, h.get? it = some o ∧ o.data = .fields vs ∧ (o.cls = .type "list_iterator" ∨ o.cls = .type "tuple_iterator" ∨ ∃ x, o.cls = .type (strIterType x)) := by
  cases S with
  | lst a => obtain ⟨o, e, c, d⟩ := st; exact ⟨o, _, e, d, .inl c⟩
  | tup a => obtain ⟨o, e, c, d⟩ := st; exact ⟨o, _, e, d, .inr (.inl c)⟩
  | str x => obtain ⟨t, o, e, c, d⟩ := st; exact ⟨o, _, e, d, .inr (.inr ⟨x, c⟩)⟩
theorem Sq.st_at {S : Sq} {it : Addr} {i : Nat} {h h' : Heap} (st : S.st it i h) (k : ∀ o, h.get? it = some o → h'.get? it = some o) : S.st it i h' := by
  cases S with
  | lst a => exact Heap.IsListIter.at st k
  | tup a => exact Heap.IsTupleIter.at st k
  | str x => obtain ⟨t, o, e, r⟩ := st; exact ⟨t, o, k o e, r⟩
theorem vals_getR : ∀ {xs : List V} {us : List Value} {i : Nat} {u : Value}, Vals xs us → us[i]? = some u → ∃ x, xs[i]? = some x ∧ RelV x u
  | _, _, _, _, .nil, e => by simp at e
  | _, _, 0, _, .cons r _, e => by simp at e; subst e; exact ⟨_, rfl, r⟩
  | _, _, i + 1, _, .cons _ rr, e => by
    obtain ⟨x, h1, h2⟩ := vals_getR (i := i) rr (by simpa using e)
    exact ⟨x, by simpa using h1, h2⟩
/-- what is known of the iterator at it at a turn -/
structure Drawn (prog : Program) (w : World) (A : Around) (S : Sq) (it : Addr) (xs : List V) (i : Nat) (h : Heap) : Prop where
  ex : ∃ (fp : List Addr) (P : Nat → Value → Prop) (St : Nat → Heap → Prop), Draws prog w A it fp xs.length P St ∧ St i h ∧ it ∈ fp ∧ (∀ b ∈ fp, b = it ∨ ∃ o, h.get? b = some o ∧ (o.cls = .type "list" ∨ o.cls = .type "tuple")) ∧
    (∀ j h', St j h' → S.st it j h') ∧ ∀ j v, P j v → ∃ x, xs[j]? = some x ∧ RelV x v
section
variable {X : Cx} {pins : List (Addr × Obj)} {σ : L2.St} {H : Hp} {s : Shared}
theorem drawn {A : Around} {S : Sq} {it : Addr} {xs : List V} {i : Nat} (hA : A.handled = none) (I : Inv X pins σ H s) (hq : S.at X.K H xs) (st : S.st it i s.heap) : Drawn X.prog X.w A S it xs i s.heap := by
  cases S with
  | lst a =>
    obtain ⟨its, rv, p, _⟩ := I.list hq
    obtain ⟨o, e, c, d⟩ := id st
    obtain ⟨ol, el, cl, nl, dl⟩ := p.isList
    have ne : a ≠ it := fun z => by rw [z, e] at el; cases el; rw [c] at cl; exact absurd (Value.type.inj cl) (by decide)
    refine ⟨[it, a], fun i v => its.toArray[i]? = some v, fun i h => h.IsListIter it a i ∧ h.IsList a its.toArray, by rw [rv.length]; exact Draws.list hA it a ne its.toArray, ⟨st, p.isList⟩, by simp, fun b hb => ?_, fun j h' z => z.1, fun j v e => ?_⟩
    · have : b = it ∨ b = a := by simpa using hb
      rcases this with z | z
      · exact .inl z
      · exact .inr ⟨ol, by rw [z]; exact el, .inl cl⟩
    · obtain ⟨x, hx, r⟩ := vals_getR rv (by simpa using e)
      exact ⟨x, hx, r⟩
  | tup a =>
    obtain ⟨its, rv, p, _⟩ := I.tuple hq
    obtain ⟨o, e, c, d⟩ := id st
    obtain ⟨ol, el, cl, nl, dl⟩ := id p
    have ne : a ≠ it := fun z => by rw [z, e] at el; cases el; rw [c] at cl; exact absurd (Value.type.inj cl) (by decide)
    refine ⟨[it, a], fun i v => its.toArray[i]? = some v, fun i h => h.IsTupleIter it a i ∧ h.IsTuple a its.toArray, by rw [rv.length]; exact Draws.tuple hA it a ne its.toArray, ⟨st, p⟩, by simp, fun b hb => ?_, fun j h' z => z.1, fun j v e => ?_⟩
    · have : b = it ∨ b = a := by simpa using hb
      rcases this with z | z
      · exact .inl z
      · exact .inr ⟨ol, by rw [z]; exact el, .inr cl⟩
    · obtain ⟨x, hx, r⟩ := vals_getR rv (by simpa using e)
      exact ⟨x, hx, r⟩
  | str x =>
    have hq : xs = x.cps.toList.map fun c => V.str ⟨#[c]⟩ := hq
    obtain ⟨t, st⟩ := st
    refine ⟨[it], fun i v => ∃ c u, x.cps[i]? = some c ∧ v = .str ⟨#[c]⟩ u, fun i h => h.IsStrIter it (strIterType x) x t i, by rw [hq]; simpa using Draws.text hA it x t, st, by simp, fun b hb => .inl (by simpa using hb), fun j h' z => ⟨t, z⟩, fun j v ⟨c, u, e1, e2⟩ => ?_⟩
    subst hq e2
    refine ⟨.str ⟨#[c]⟩, ?_, ⟨u, rfl⟩⟩
    rw [List.getElem?_map]
    have : x.cps.toList[j]? = some c := by simpa using e1
    rw [this]
    rfl
end
set_option maxHeartbeats 4000000 in
theorem meets_enum1 {v : Value} {o : Obj} {H : Heap → Prop} (B : Begins v o H) :
    Meets (Builtin.«enumerate.__new__» ⟨[.type "enumerate", v], []⟩) (fun _ R s => H s.heap ∧
      R (.ok (.ret (.ref (s.heap.push o).objs.size))) { s with heap := (s.heap.push o).push { cls := .type "enumerate", data := .fields #[.none, .bool false, .ref s.heap.objs.size, rawInt 0, .none, .none] } }) :=
  .of_wp fun prog w A R s h => by
    obtain ⟨hp, g, d, tk, os⟩ := s
    obtain ⟨h1, h⟩ := h
    have hsub := sub_enumerate
    have q1 : ∀ {A' : Around} {E : Value → Shared → Prop} {Q : Value → Shared → Prop}, Q (.ref hp.objs.size) ⟨hp.push o, g, d, tk, os⟩ → wpAny (model prog w) A' (pyIter v) Q E ⟨hp, g, d, tk, os⟩ :=
      fun q => B.iter prog w _ _ ⟨hp, g, d, tk, os⟩ _ h1 q
    wp_walk using q1
    refine wpAny_stack_any fun st => wpAny_pure ?_
    split
    · rename_i c _ _ _ _ _
      cases (c == Value.type "enumerate") <;> (wp_walk using q1; exact ⟨_, rfl, h⟩)
    · wp_walk using q1
      exact ⟨_, rfl, h⟩
section
variable {prog : Program} {w : World} {A : Around} {E : Value → Shared → Prop} {s : Shared}
theorem enum1 {v : Value} {o : Obj} {H : Heap → Prop} {Q : Value → Shared → Prop} (B : Begins v o H) (h1 : H s.heap)
    (h : ∀ h', IsEnum h' (s.heap.objs.size + 1) s.heap.objs.size 0 .none → h'.get? s.heap.objs.size = some o → h'.objs.size = s.heap.objs.size + 2 →
      (∀ b o, s.heap.get? b = some o → h'.get? b = some o) → Q (.ref (s.heap.objs.size + 1)) { s with heap := h' }) :
    wpAny (model prog w) A (call (.type "enumerate") [v]) Q E s := by
  have hz : (s.heap.push o).objs.size = s.heap.objs.size + 1 := Heap.size_push ..
  have he : ((s.heap.push o).push { cls := .type "enumerate", data := .fields #[.none, .bool false, .ref s.heap.objs.size, rawInt 0, .none, .none] }).get? (s.heap.objs.size + 1) = some { cls := .type "enumerate", data := .fields #[.none, .bool false, .ref s.heap.objs.size, rawInt 0, .none, .none] } := by
    rw [← hz]
    exact Heap.get?_push_size _ rfl
  refine callType_new F.called_enumerate (by decide) (F.typeCall_enumerate_1 _) (F.newCall_enumerate_1 _) (fun obj => F.args_object_init_2 obj _) F.entry_enumerate_new (meets_enum1 B) ⟨h1, ?_⟩
  show _ ∧ _
  rw [hz]
  exact ⟨⟨_, he, rfl⟩, h _ he (Heap.get?_push_of_some _ (Heap.get?_push_size _ B.free)) (by rw [Heap.size_push, hz]) fun b o x => Heap.get?_push_of_some _ (Heap.get?_push_of_some _ x)⟩
end
def ItG (K : PySem.W.Frag) (S : Sq) : It where
  go := fun i H => ∃ (xs : List V) (x : V), S.at K H xs ∧ xs[i]? = some x
  yld := fun i H v H' => ∃ T x, v = .ref T ∧ H T = none ∧ H' = upd H T (.tup [.int (i : Nat), x]) ∧ ∀ xs, S.at K H xs → xs[i]? = some x
  stop := fun i H => ∃ xs : List V, S.at K H xs ∧ xs.length = i
theorem at_inj {X : Cx} {pins : List (Addr × Obj)} {σ : L2.St} {H : Hp} {s : Shared} {S : Sq} {xs ys : List V} (I : Inv X pins σ H s) (h1 : S.at X.K H xs) (h2 : S.at X.K H ys) : xs = ys := by
  cases S with
  | lst a => exact I.list_inj h1 h2
  | tup a => exact I.tuple_inj h1 h2
  | str x => exact (show xs = _ from h1).trans (show ys = _ from h2).symm
theorem strIterType_ne (x : Str) : strIterType x = "str_ascii_iterator" ∨ strIterType x = "str_iterator" := by
  unfold strIterType
  split
  · exact .inl rfl
  · exact .inr rfl
theorem it_ne_enum {S : Sq} {e it : Addr} {i : Nat} {h : Heap} {c : Int} {old : Value} (he : IsEnum h e it c old) (st : S.st it i h) : e ≠ it := fun z => by
  obtain ⟨o, vs, e1, _, h3⟩ := Sq.obj st
  have he' : h.get? e = _ := he
  rw [z, e1] at he'
  cases he'
  rcases h3 with h3 | h3 | ⟨x, h3⟩
  · exact absurd (Value.type.inj h3) (by decide)
  · exact absurd (Value.type.inj h3) (by decide)
  · have := Value.type.inj h3
    rcases strIterType_ne x with y | y <;> rw [y] at this <;> exact absurd this (by decide)
theorem turn_enumG {P : Program} {w : World} {K : PySem.W.Frag} {elts : List Expr} {kk : Nat} {tpos : Pos} (S : Sq) (e it : Addr) :
    Turn P w K (.Tuple elts kk tpos) (ItG K S) [e, it] e (fun i h => (∃ old, IsEnum h e it ((i : Nat) : Int) old) ∧ S.st it i h) where
  mem := by simp
  obj := fun i h st b hb => by
    obtain ⟨⟨old, he⟩, hs⟩ := st
    have e' : b = e ∨ b = it := by simpa using hb
    rcases e' with z | z
    · rw [z]; exact ⟨_, he, fun v q => nomatch q⟩
    · obtain ⟨o, vs, e1, e2, _⟩ := Sq.obj hs
      rw [z]; exact ⟨o, e1, fun v q => by rw [e2] at q; cases q⟩
  keep := fun i h h' st k => let ⟨⟨old, he⟩, hs⟩ := st; ⟨⟨old, k e (by simp) _ he⟩, Sq.st_at hs fun o q => k it (by simp) o q⟩
  item := by
    intro X hP hw hK hc i pins s σ H E I hf st hg
    subst hP hw hK
    obtain ⟨⟨old, he⟩, hs⟩ := st
    obtain ⟨xs, x, hq, hx⟩ := hg
    have hne := it_ne_enum he hs
    obtain ⟨fp, Pr, St, D, st0, hif, hfp, hst, hPr⟩ := (drawn (A := X.A.in1) (I.ok.hd hc) I hq hs).ex
    have hef : e ∉ fp := fun z => by
      rcases hfp e z with z | ⟨o, e1, e2⟩
      · exact hne z
      · have he' : s.heap.get? e = _ := he
        rw [e1] at he'
        cases he'
        rcases e2 with z | z <;> exact absurd (Value.type.inj z) (by decide)
    have hel : e < s.heap.objs.size := Heap.lt_size he
    have hil : it < s.heap.objs.size := by obtain ⟨_, _, q, _⟩ := Sq.obj hs; exact Heap.lt_size q
    have hi : i < xs.length := (List.getElem?_eq_some_iff.mp hx).1
    refine wpAny_pyNext_enum_itemD D he st0 hi hne hef fun u h' tk hu ho hst' hT hsz hk => ⟨_, rfl, ?_⟩
    obtain ⟨y, hy, ru⟩ := hPr i u hu
    refine wpAny_letOwnedTupleGo_enum (s := { s with heap := h', toks := tk + 1 }) ho fun h2 he' sb => ?_
    have hT2 : h2.get? s.heap.objs.size = some { cls := .type "tuple", data := .seq #[.int i tk, u] } := (sb.2 _ (Nat.ne_of_gt hel)).trans hT
    have new : ObjOk X.prog X.w (upd H s.heap.objs.size (.tup [.int (i : Nat), y])) h2 s.heap.objs.size (.tup [.int (i : Nat), y]) :=
      ⟨by show 2 ≤ sizeLine; decide, [.int i tk, u], .cons ⟨_, rfl⟩ (.cons ru .nil), ⟨_, hT2, rfl, _, rfl⟩⟩
    have I1 : Inv X pins σ (upd H s.heap.objs.size (.tup [.int (i : Nat), y])) { s with heap := h2, toks := tk + 1 } :=
      I.turnedNew (ch := [e, it]) (fun b ob hb q => (sb.2 b (fun z => hb (by simp [z]))).trans (hk b ob (fun z => hb (by simp [z])) (fun z => hb (by simp [z])) q)) hf (Nat.le_refl _) new
    refine ⟨.ref s.heap.objs.size, _, I1, rfl, ⟨_, y, rfl, I.hok.fresh (Nat.le_refl _), rfl, fun ys hz => by rw [at_inj I hz hq]; exact hy⟩, ⟨⟨u, ?_⟩, Sq.st_at (hst _ _ hst') fun o q => (sb.2 it (Ne.symm hne)).trans q⟩, fun b hb => ?_⟩
    · have e1 : ((i + 1 : Nat) : Int) = (i : Int) + 1 := by omega
      rw [e1]; exact he'
    · have e' : b = e ∨ b = it := by simpa using hb
      have hb' : b < s.heap.objs.size := by rcases e' with z | z <;> rw [z] <;> assumption
      rw [upd_ne (Nat.ne_of_lt hb')]
      exact (hf b hb).1
  done := by
    intro X hP hw hK hc i pins s σ H E I hf st hg
    subst hP hw hK
    obtain ⟨⟨old, he⟩, hs⟩ := st
    obtain ⟨xs, hq, hx⟩ := hg
    obtain ⟨fp, Pr, St, D, st0, hif, hfp, hst, hPr⟩ := (drawn (A := X.A.in1) (I.ok.hd hc) I hq hs).ex
    obtain ⟨f0, f1, f2, f3, f4, f5⟩ := hf it (by simp)
    rw [← hx] at st0
    exact wpAny_pyNext_enum_endD D he st0 fun h' eb => ⟨rfl, I.turned (t' := s.toks) (fun b o hb q => eb b o hb q) f0 f1 f3 f4 f5⟩
  self := fun A i s Q E st h => let ⟨⟨_, he⟩, _⟩ := st; wpAny_pyIter_enum he h
def iEnumG (K : PySem.W.Frag) (te : TE) : TI := fun σ H R => te σ H fun v H1 => ∃ (S : Sq) (xs : List V), v = S.v ∧ S.at K H1 xs ∧ R (ItG K S) H1
theorem pi_enumG {X : Cx} {e : Expr} {te : TE} {p pos tpos : Pos} {elts : List Expr} {kk : Nat} (hg : Gl X "enumerate") (hm : X.mg "enumerate" = none) (he : PE X e te) (hs : starEach [e] X.env = [(false, eval e X.env)] := by rfl) :
    PI X (.Tuple elts kk tpos) (.Call (.Name "enumerate" p) [e] [] pos) (iEnumG X.K te) := ⟨fun pins s σ H R I h => by
  refine Call_ (ld_blt I hg hm boot_enumerate (PyProof.Rows.callWith_type1 (thn ((pa_cons he pa_nil hs).run pos pins s σ H (fun vs H1 => match vs with | [v] => ∃ (S : Sq) (xs : List V), v = S.v ∧ S.at X.K H1 xs ∧ R (ItG X.K S) H1 | _ => False) I h) fun us s1 ⟨vs, H1, I1, r1, q0⟩ => ?_) hs rfl))
  · cases r1 with
    | nil => exact False.elim q0
    | cons r rr =>
    cases rr with
    | cons _ _ => exact False.elim q0
    | nil =>
    obtain ⟨S, xs, ex, hq, q⟩ := q0
    subst ex
    have fin : ∀ (o : Obj) (Hb : Heap → Prop) (v : Value), Begins v o Hb → Hb s1.heap → (∀ h', h'.get? s1.heap.objs.size = some o → S.st s1.heap.objs.size 0 h') → wpAny (model X.prog X.w) X.A (call (.type "enumerate") [v]) (fun v s1 => wpAny (model X.prog X.w) X.A (pyIter v) (PIE X pins σ (.Tuple elts kk tpos) R) X.xe s1) X.xe s1 := fun o Hb v B hb hst => by
      refine enum1 B hb fun h' he hit hsz hk => wpAny_pyIter_enum he ?_
      have I2 : Inv X pins σ H1 { s1 with heap := h' } := I1.kept (t' := s1.toks) hk
      refine ⟨s1.heap.objs.size + 1, [s1.heap.objs.size + 1, s1.heap.objs.size], _, _, H1, rfl, I2, turn_enumG S (s1.heap.objs.size + 1) s1.heap.objs.size, ⟨⟨.none, he⟩, hst _ hit⟩, fun b hb => ?_, q⟩
      have e' : b = s1.heap.objs.size + 1 ∨ b = s1.heap.objs.size := by simpa using hb
      have hle : s1.heap.objs.size ≤ b := by rcases e' with z | z <;> rw [z] <;> omega
      exact I1.fpOk hle (I1.hok.fresh hle)
    cases S with
    | lst a =>
      cases r
      obtain ⟨its, rv, p', hz⟩ := I1.list hq
      exact fin _ _ _ (begins_list a its.toArray) p'.isList fun h' e => ⟨_, e, rfl, rfl⟩
    | tup a =>
      cases r
      obtain ⟨its, rv, p', hz⟩ := I1.tuple hq
      exact fin _ _ _ (begins_tuple a its.toArray) p' fun h' e => ⟨_, e, rfl, rfl⟩
    | str x =>
      obtain ⟨t, rfl⟩ := r
      exact fin _ _ _ (begins_text x t) trivial fun h' e => ⟨t, _, e, rfl, rfl⟩⟩
/-! ### as a list of data -/
def enumD (n : Nat) : List D → List D
  | [] => []
  | d :: r => .tup [.int (n : Nat), d] :: enumD (n + 1) r
theorem enumD_len : ∀ (ds : List D) (n : Nat), (enumD n ds).length = ds.length
  | [], _ => rfl
  | _ :: r, n => by simp [enumD, enumD_len r]
theorem enumD_get : ∀ (ds : List D) (n i : Nat), (enumD n ds)[i]? = (ds[i]?).map fun d => .tup [.int ((n + i : Nat) : Int), d]
  | [], n, i => by simp [enumD]
  | d :: r, n, 0 => by simp [enumD]
  | d :: r, n, i + 1 => by
    have := enumD_get r (n + 1) i
    rw [show n + 1 + i = n + (i + 1) by omega] at this
    simpa [enumD] using this
def itE : D → Option (List D)
  | .lst ds => some (enumD 0 ds)
  | .tup ds => some (enumD 0 ds)
  | .str s => some (enumD 0 (s.map fun a => .str [a]))
  | _ => none
theorem sv_enum {c : Cc} {W : Wd} {S : Sq} {ds : List D} {vs : List V} (al : AtL c.toTp W ds vs) (hS : ∀ W' h H, W.le W' → HRel c W' h H → S.at c.K H vs) : Serves c (ItG c.K S) W (enumD 0 ds) := fun W' h H i le r => by
  have e := hS W' h H le r
  refine ⟨fun hi => ?_, fun d hd => ?_⟩
  · rw [enumD_len] at hi
    exact ⟨vs, e, by rw [← al.length]; exact hi⟩
  · rw [enumD_get] at hd
    cases ex : ds[i]? with
    | none => rw [ex] at hd; cases hd
    | some x =>
      rw [ex] at hd
      cases hd
      obtain ⟨u, hu, au⟩ := al.get ex
      refine ⟨⟨vs, u, e, hu⟩, fun z H2 y => ?_⟩
      obtain ⟨T, p, rfl, hT, rfl, y1⟩ := y
      have y1 := y1 _ e
      rw [hu] at y1
      cases y1
      refine ⟨_, ext_new (o := .tup [.int (i : Nat), u]) r hT, r.new hT trivial, ?_⟩
      simp only [At]
      have le2 := le.trans (put_le (o := .tup [.int (i : Nat), u]) (r.gnone hT))
      exact ⟨T, [.int (i : Nat), u], rfl, .inl (.inl upd_same), AtL.cons (by simp only [At]; rw [Nat.zero_add]) (AtL.cons (At.mono le2 au) AtL.nil)⟩
theorem chars_at {t : Tp} {W : Wd} : ∀ s : List Nat, AtL t W (s.map fun a => D.str [a]) (s.map fun c => V.str ⟨#[c]⟩)
  | [] => AtL.nil
  | x :: s => AtL.cons (by simp only [At]) (chars_at s)
theorem gi_enum {X : Cx} {c : Cc} {wx : WX} {e : Expr} {p pos tpos : Pos} {elts : List Expr} {kk : Nat} {m : M D} (hK : X.K = c.K) (hm : X.mg "enumerate" = none) (he : GE X c wx e m) (hg : Gl X "enumerate" := by rfl) (hs : starEach [e] X.env = [(false, eval e X.env)] := by rfl) :
    GI X c wx (.Tuple elts kk tpos) (.Call (.Name "enumerate" p) [e] [] pos) (mIt itE m) :=
  PI.imp (pi_enumG hg hm he hs) fun σ H R t => I_bind t fun d ds h v W H e r a k => by
    cases d <;> first | (simp only [itE] at e; cases e; done) | skip
    · cases e
      simp only [At] at a
      subst a
      exact ⟨.str _, _, rfl, rfl, by rw [hK]; exact k _ W H (Ext.refl _ _ _) r (sv_enum (chars_at _) fun _ _ _ _ _ => rfl)⟩
    · cases e
      simp only [At] at a
      obtain ⟨q, vs, rfl, g, al⟩ := a
      refine ⟨.tup q, vs, rfl, by rw [hK]; exact r.sqT g, by rw [hK]; exact k _ W H (Ext.refl _ _ _) r (sv_enum al fun _ _ _ le r' => r'.sqT (sqT_mono le.g g))⟩
    · cases e
      simp only [At] at a
      obtain ⟨q, vs, rfl, g, al⟩ := a
      refine ⟨.lst q, vs, rfl, .inl (r.rd (.inl g)), by rw [hK]; exact k _ W H (Ext.refl _ _ _) r (sv_enum al fun _ _ _ le r' => .inl (r'.rd (.inl (le.g _ _ g))))⟩
end DE

/-! raise; tuple, list, sorted of data; s.rindex(sign); xs[::-1]. -/
namespace DM
open DL PySem PySem.Spec PyProof.Rows L2 DH
section
variable {X : Cx} {c : Cc} {wx : WX}
/-! ### raise -/
def sRaise (n : Nat) : MS := fun ρ h => .exc ⟨n, none⟩ h
@[simp] theorem sRaise_ap {ρ : DL.Env} {h : Cells} (n : Nat) : sRaise n ρ h = .exc ⟨n, none⟩ h := id rfl
theorem gs_raise {C : Nat → Addr} {n : Nat} {x m : Str} {j : Nat} {p p2 pos pos2 : Pos} (hE : Errs X.K C) (hn : n < 12) (hm : X.mg x = some (.ref (C n))) (hxc : c.xc n = .ref (C n)) (hc : X.calm = true) (tk : L2N.Takes X wx) (hg : Gl X x := by rfl)
    (hdb : (x == ("__debug__" : Str)) = false := by decide) : GS X c wx (.Raise (some (.Call (.Name x p) [.Constant (.str m) j p2] [] pos)) none pos2) (sRaise n) :=
  PS.imp (L2N.ps_raise hc tk (L2N.pmk_own PySem.F.excBase_ValueError (hE.own n hn) hm (hE.one n (by omega)).kP (raises_own (hE.one n (by omega)).ec.hs (hE.one n (by omega)).tP) hg hdb)) fun D σ H ⟨B, W, ρ, h, s, p⟩ => p (.ref (C n)) none W σ H s.x s.r ⟨hxc.symm, rfl⟩
/-! ### tuple, list -/
def gTuple : D → Option D
  | .lst ds => some (.tup ds)
  | .tup ds => some (.tup ds)
  | _ => none
theorem cg_tuple (hK : X.K = c.K) : CallR X (.type "tuple") (rV1 c gTuple) := by
  intro pins s σ H xs us Q I rs ⟨x, W, h, d, z, e, r, ax, hz, q⟩
  subst e
  cases d <;> first | (simp only [gTuple] at hz; cases hz; done) | skip
  · cases hz
    simp only [VAt, At] at ax
    obtain ⟨p, vs, rfl, hp, al⟩ := ax
    exact call_tuple_of pins s σ H _ us Q I rs ⟨p, vs, rfl, .inr ⟨by rw [hK]; exact r.sqT hp, q.here r (by simp only [At]; exact ⟨p, vs, rfl, hp, al⟩)⟩⟩
  · cases hz
    simp only [VAt] at ax
    obtain ⟨p, vs, rfl, hp, al⟩ := ax
    exact call_tuple_of pins s σ H _ us Q I rs ⟨p, vs, rfl, .inl ⟨.inl hp, fun l hl => q.tup r al hl⟩⟩
def gList : D → Option D
  | .lst ds => some (.lst ds)
  | .tup ds => some (.lst ds)
  | _ => none
theorem cg_list (hK : X.K = c.K) : CallR X (.type "list") (rV1 c gList) := by
  intro pins s σ H xs us Q I rs ⟨x, W, h, d, z, e, r, ax, hz, q⟩
  subst e
  cases d <;> first | (simp only [gList] at hz; cases hz; done) | skip
  · cases hz
    simp only [VAt, At] at ax
    obtain ⟨p, vs, rfl, hp, al⟩ := ax
    exact call_list_of pins s σ H _ us Q I rs ⟨p, vs, rfl, .inr (by rw [hK]; exact r.sqT hp), fun l hl => q.lst r al hl⟩
  · cases hz
    simp only [VAt] at ax
    obtain ⟨p, vs, rfl, hp, al⟩ := ax
    exact call_list_of pins s σ H _ us Q I rs ⟨p, vs, rfl, .inl (.inl hp), fun l hl => q.lst r al hl⟩
/-! ### sorted, of numbers -/
def insI (x : Int) : List Int → List Int
  | [] => [x]
  | y :: r => if x ≤ y then x :: y :: r else y :: insI x r
def sortI : List Int → List Int
  | [] => []
  | x :: r => insI x (sortI r)
theorem insI_perm (x : Int) : ∀ l : List Int, (insI x l).Perm (x :: l)
  | [] => .refl _
  | y :: r => by
    unfold insI
    split
    · exact .refl _
    · exact ((insI_perm x r).cons y).trans (.swap x y r)
theorem sortI_perm : ∀ l : List Int, (sortI l).Perm l
  | [] => .refl _
  | x :: r => (insI_perm x _).trans ((sortI_perm r).cons x)
theorem insI_sorted (x : Int) : ∀ l : List Int, l.Pairwise (· ≤ ·) → (insI x l).Pairwise (· ≤ ·)
  | [], _ => List.pairwise_singleton _ _
  | y :: r, h => by
    obtain ⟨h1, h2⟩ := List.pairwise_cons.mp h
    unfold insI
    split
    · rename_i hx
      refine List.pairwise_cons.mpr ⟨fun z hz => ?_, h⟩
      rcases List.mem_cons.mp hz with rfl | hz
      · exact hx
      · have := h1 z hz; omega
    · rename_i hx
      refine List.pairwise_cons.mpr ⟨fun z hz => ?_, insI_sorted x r h2⟩
      rcases List.mem_cons.mp ((insI_perm x r).mem_iff.mp hz) with rfl | hz
      · omega
      · exact h1 z hz
theorem sortI_sorted : ∀ l : List Int, (sortI l).Pairwise (· ≤ ·)
  | [] => List.Pairwise.nil
  | x :: r => insI_sorted x _ (sortI_sorted r)
theorem sorted_one : ∀ {l l' : List Int}, l.Perm l' → l.Pairwise (· ≤ ·) → l'.Pairwise (· ≤ ·) → l = l'
  | [], l', p, _, _ => p.nil_eq
  | x :: r, l', p, h, h' => by
    cases l' with
    | nil => exact absurd p.length_eq (by simp)
    | cons y r' =>
      obtain ⟨h1, h2⟩ := List.pairwise_cons.mp h
      obtain ⟨g1, g2⟩ := List.pairwise_cons.mp h'
      have e : x = y := by
        rcases List.mem_cons.mp (p.mem_iff.mp List.mem_cons_self) with e | e
        · exact e
        · rcases List.mem_cons.mp (p.mem_iff.mpr List.mem_cons_self) with e2 | e2
          · exact e2.symm
          · have a := h1 y e2
            have b := g1 x e
            omega
      subst e
      rw [sorted_one (List.Perm.cons_inv p) h2 g2]
def gSorted : D → Option D
  | .lst ds => match asIs ds with | some l => some (.lst ((sortI l).map D.int)) | none => none
  | _ => none
theorem cg_sorted : CallR X (.builtin "sorted") (rV1 c gSorted) := by
  intro pins s σ H xs us Q I rs ⟨x, W, h, d, z, e, r, ax, hz, q⟩
  subst e
  cases d <;> first | (simp only [gSorted] at hz; cases hz; done) | skip
  rename_i ds
  simp only [gSorted] at hz
  cases e2 : asIs ds with
  | none => rw [e2] at hz; cases hz
  | some l =>
    rw [e2] at hz
    cases hz
    simp only [VAt] at ax
    obtain ⟨p, vs, rfl, hp, al⟩ := ax
    have := asIs_at al e2
    subst this
    refine cr_sortedI pins s σ H _ us Q I rs ⟨p, l, rfl, .inl hp, fun ns' p' h1 h2 hp' => ?_⟩
    have : ns' = sortI l := sorted_one (h1.trans (sortI_perm l).symm) h2 (sortI_sorted l)
    rw [this]
    exact q.lst r (ints_at _) hp'
/-! ### s.rindex(sign) -/
def rix (a : Nat) : List Nat → Option Nat
  | [] => none
  | b :: r => match rix a r with
    | some k => some (k + 1)
    | none => if b = a then some 0 else none
theorem rix_none {a : Nat} : ∀ {l : List Nat}, rix a l = none → a ∉ l
  | [], _ => by simp
  | b :: r, h => by
    simp only [rix] at h
    cases e : rix a r with
    | some k => rw [e] at h; cases h
    | none =>
      rw [e] at h
      simp only at h
      split at h
      · cases h
      · rename_i hb
        have := rix_none e
        simp only [List.mem_cons, not_or]
        exact ⟨fun z => hb z.symm, this⟩
theorem rix_some {a : Nat} : ∀ {l : List Nat} {i : Nat}, rix a l = some i → l[i]? = some a ∧ ∀ k, i < k → l[k]? ≠ some a
  | [], _, h => by cases h
  | b :: r, i, h => by
    simp only [rix] at h
    cases e : rix a r with
    | some k =>
      rw [e] at h
      cases h
      obtain ⟨h1, h2⟩ := rix_some e
      exact ⟨by simpa using h1, fun j hj => by
        cases j with
        | zero => omega
        | succ j => simpa using h2 j (by omega)⟩
    | none =>
      rw [e] at h
      simp only at h
      split at h
      · rename_i hb
        cases h
        have := rix_none e
        refine ⟨by simp [hb], fun j hj => ?_⟩
        cases j with
        | zero => omega
        | succ j => intro z; exact this (List.mem_of_getElem? (by simpa using z))
      · cases h
def gRindex : D → D → Option D
  | .str s, .str [a] => match rix a s with | some k => some (.int (k : Nat)) | none => none
  | _, _ => none
theorem pre1 {a : Nat} {l : List Nat} {i : Nat} : TL.pre [a] (l.drop i) = true ↔ l[i]? = some a := by
  unfold TL.pre
  simp only [List.length_singleton]
  by_cases h : i < l.length
  · rw [List.drop_eq_getElem_cons h, List.take_succ_cons, List.take_zero, List.getElem?_eq_getElem h]
    simp
  · rw [List.drop_eq_nil_of_le (by omega), List.getElem?_eq_none (by omega)]
    simp
theorem rindex_at {s : List Nat} {a k : Nat} (h : rix a s = some k) : Txt.rindex0 ⟨s.toArray⟩ ⟨#[a]⟩ = some k := by
  obtain ⟨h1, h2⟩ := rix_some h
  have iff : ∀ i, PySem.StrLaws.At (⟨s.toArray⟩ : Str) ⟨#[a]⟩ (⟨s.toArray⟩ : Str).length i ↔ s[i]? = some a := fun i => by
    rw [TL.at_iff (y := ⟨#[a]⟩) (by simp)]
    exact pre1
  rcases PySem.StrLaws.last_spec ⟨s.toArray⟩ ⟨#[a]⟩ with ⟨_, n⟩ | ⟨i, e, h3, h4⟩
  · exact absurd ((iff k).mpr h1) (n k)
  · have e3 := (iff i).mp h3
    have : i = k := by
      rcases Nat.lt_trichotomy i k with q | q | q
      · exact absurd ((iff k).mpr h1) (h4 k q)
      · exact q
      · exact absurd e3 (h2 i q)
    rw [← this]
    exact e
theorem mt_rindex1 : MtR X "str.rindex" (fun x xs H Q => ∃ (a b : Str) (k : Nat), x = .str a ∧ xs = [.str b] ∧ Txt.rindex0 a b = some k ∧ Q (.int (k : Nat)) H) := by
  intro pins s σ H x xs v us Q I rx rs ⟨a, b, k, e1, e2, q, w⟩
  subst e1 e2
  obtain ⟨t, rfl⟩ := rx
  cases rs with
  | cons r1 rs =>
    cases rs
    obtain ⟨u, rfl⟩ := r1
    exact call_gives PySem.F.slot_str_rindex (typeIs_str _ _ _) PySem.F.entry_str_rindex (PySem.F.args_str_rindex_2 _ _) (gives_str_rindex a b t u k q) ⟨.int (k : Nat), H, I.tok _, ⟨_, rfl⟩, w⟩
theorem ge_rindex {o e : Expr} {apos pos : Pos} {mo ma : M D} (ho : GE X c wx o mo) (ha : GE X c wx e ma)
    (hs : starEach [e] X.env = [(false, eval e X.env)] := by rfl) (hbase : attributeBase o "rindex" X.env (eval o X.env) = eval o X.env := by rfl) (hline : (apos.endLine == pos.line) = true := by rfl) :
    GE X c wx (.Call (.Attribute o "rindex" apos) [e] [] pos) (mStrM gRindex mo ma) :=
  PE.imp (pe_m1 F.slot_str_rindex F.type_str_rindex mt_rindex1 ho ha hs hbase hline) fun σ H Q ⟨W, ρ, h, r, l, p⟩ => tG_bind r l p fun d h1 v W1 H1 x1 r1 l1 a1 p1 => by
    cases d <;> first | exact False.elim p1 | skip
    rename_i s
    simp only [At] at a1
    subst a1
    refine ⟨⟨_, rfl⟩, ?_⟩
    refine tG_bind r1 l1 p1 fun e h2 u W2 H2 x2 r2 l2 a2 p2 => ?_
    obtain ⟨z, e1, k⟩ := fin_ok p2
    cases e <;> first | (cases e1; done) | skip
    rename_i t
    cases t with
    | nil => cases e1
    | cons a t =>
      cases t with
      | cons _ _ => cases e1
      | nil =>
        simp only [gRindex] at e1
        cases er : rix a s with
        | none => rw [er] at e1; cases e1
        | some i =>
          rw [er] at e1
          cases e1
          simp only [At] at a2
          subst a2
          exact ⟨_, _, i, rfl, rfl, rindex_at er, k.int r2⟩
/-! ### xs[::-1] -/
def gRev : D → Option D
  | .lst ds => some (.lst ds.reverse)
  | .str s => if s.length ≤ big then some (.str s.reverse) else none
  | _ => none
theorem str_rev (x : Str) (u : Tok) : slicePicked x none none (some (-1, u)) = (List.range x.length).reverse := by
  unfold slicePicked
  show Builtin.Str.strSliceIndices none none (-1) x.length = _
  rw [picked_rev, PySem.W.krv_range]
theorem range_get {α : Type} (l : List α) : (List.range l.length).filterMap (l.toArray[·]?) = l := by
  have := PySem.W.krv_all l.toArray
  simpa using this
theorem ge_rev {e : Expr} {k : Nat} {p1 p2 p3 pos : Pos} {m : M Bv} (he : GB X c wx e m) : GE X c wx (.Subscript e (.Slice none none (some (.UnaryOp .USub (.Constant (.int 1) k p1) p2)) p3) pos) (mCallV gRev m) := ⟨fun pins s σ H Q I t => by
  refine Subscript_ (thn (he.run pins s σ H (fun v H1 => ∃ W h d z, HRel c W h H1 ∧ VAt c.toTp W H1 d v ∧ gRev d = some z ∧ KQ c W h H1 z Q) I ?_) fun v s1 ⟨x, H1, I1, r1, W, h, d, z, rr, ax, hz, q⟩ => ?_)
  · obtain ⟨W, ρ, h, r, l, p⟩ := t
    exact tG_bind r l p fun d h1 v W1 H1 x1 r1 l1 a1 p1 => by
      obtain ⟨z, e1, k⟩ := fin_ok p1
      obtain ⟨y, ey, e1⟩ := opt_bind e1
      exact ⟨W1, h1, y, z, r1, VAt.see r1 ey a1, e1, k⟩
  have hst : PO X (some (.UnaryOp .USub (.Constant (.int 1) k p1) p2)) (tPart (tUn (rU fun i => .int (-i)) (tC (.int 1)))) := po_some (pe_un un_neg pe_int)
  refine wpAny_Slice (thn (po_none.run pins s1 σ H1 (fun o H2 => o = none ∧ H2 = H1) I1 ⟨rfl, rfl⟩) fun vl s2 ⟨l, H2, I2, pl, el, e2⟩ => ?_)
  subst el e2
  refine thn (po_none.run pins s2 σ H2 (fun o H3 => o = none ∧ H3 = H2) I2 ⟨rfl, rfl⟩) fun vu s3 ⟨u, H3, I3, pu, eu, e3⟩ => ?_
  subst eu e3
  refine thn (hst.run pins s3 σ H3 (fun o H4 => o = some (-1) ∧ H4 = H3) I3 ⟨1, rfl, -1, rfl, rfl, rfl⟩) fun vs s4 ⟨o, H4, I4, ps, eo, e4⟩ => ?_
  subst eo e4
  have I5 : Inv X pins σ H4 { s4 with heap := s4.heap.push { cls := .type "slice", data := .fields #[vl, vu, vs] } } := I4.kept (t' := s4.toks) fun b ob q => Heap.get?_push_of_some _ q
  cases d <;> first | (simp only [gRev] at hz; cases hz; done) | skip
  · rename_i a
    simp only [gRev] at hz
    split at hz
    · rename_i hl
      cases hz
      simp only [VAt, At] at ax
      subst ax
      obtain ⟨t, rfl⟩ := r1
      obtain ⟨l, rfl, el⟩ := IsPart.raw pl
      obtain ⟨u, rfl, eu⟩ := IsPart.raw pu
      obtain ⟨w, rfl, ew⟩ := IsPart.raw ps
      have el : l = none := by cases l with | none => rfl | some _ => cases el
      have eu : u = none := by cases u with | none => rfl | some _ => cases eu
      obtain ⟨tw, ew⟩ : ∃ tw, w = some (-1, tw) := by
        cases w with
        | none => cases ew
        | some p => obtain ⟨i, tw⟩ := p; cases ew; exact ⟨tw, rfl⟩
      subst el eu ew
      refine tail_any (ops := [.str ⟨a.toArray⟩ t, .ref s4.heap.objs.size]) (typeIs_str _ _ _) (F.slot_str_getitem.lookup) ?_ (by with_unfolding_all rfl)
      refine wpAny_getItem_str_slice (l := none) (u := none) (st := some (-1, tw)) ⟨_, Heap.get?_push_size _ rfl, rfl, rfl⟩ rfl ?_
      unfold sliceMade
      rw [if_neg (by simp)]
      have e : ((slicePicked (⟨a.toArray⟩ : Str) none none (some (-1, tw))).filterMap (a.toArray[·]?)) = a.reverse := by
        rw [str_rev, List.filterMap_reverse]
        show ((List.range a.toArray.size).filterMap _).reverse = _
        rw [List.size_toArray, range_get]
      show Made.post (Made.str ⟨((slicePicked (⟨a.toArray⟩ : Str) none none (some (-1, tw))).filterMap (a.toArray[·]?)).toArray⟩) _ _
      rw [e]
      refine ⟨big_le (by simpa [Str.length] using hl), .str _, _, I5.tok _, ⟨_, rfl⟩, q.str rr⟩
    · cases hz
  · cases hz
    simp only [VAt] at ax
    obtain ⟨a, xs, rfl, hp, al⟩ := ax
    cases r1
    obtain ⟨its, r, ht, hz⟩ := I5.list (.inl hp)
    have hlen := r.length
    refine tail_any (ops := [.ref a, .ref s4.heap.objs.size]) ht.isList.typeIs (PySem.slot_list_getitem.lookup) ?_ (by with_unfolding_all rfl)
    refine wpAny_getItem_list_slice ht.isList (Heap.IsSliceOf.new _ vl vu vs) pl pu ps (by decide) ?_ (by rw [List.size_toArray]; omega)
    rw [PySem.W.krv_pick]
    refine ⟨.ref _, _, I5.laid (t' := s4.toks) (o := .lst xs.reverse) (fun b ob q => Heap.get?_push_of_some _ q) (Nat.le_refl _) ?_, rfl, q.lst rr al.reverse (I5.hok.fresh (Nat.le_refl _))⟩
    exact ⟨by rw [List.length_reverse]; exact hz, _, 0, r.reverse, Heap.get?_push_size _ rfl⟩⟩
end
end DM

/-! A comprehension with two for. -/
namespace DM
open DL PySem PySem.Spec PyProof.Rows L2 DH
def mLoop2 (t : Tgt) (tt : M Bool) (mi1 : M (List D)) (t1 : Tgt) (tt1 : M Bool) (te : M D) (vs1 : List Nat) (ρ : DL.Env) : List D → List D → Cells → Out (List D)
  | [], acc, h => .ok acc h
  | d :: ds, acc, h => match t d ρ with
    | none => .stuck
    | some ρ1 => (tt ρ1 h).calm.bind fun b h1 => if b then (mi1 ρ1 h1).calm.bind fun es h2 => (mLoop t1 tt1 te (wipeE ρ1 vs1) es acc h2).bind fun acc' h3 => mLoop2 t tt mi1 t1 tt1 te vs1 ρ ds acc' h3 else mLoop2 t tt mi1 t1 tt1 te vs1 ρ ds acc h1
def mLc2 (mi : M (List D)) (t : Tgt) (tt : M Bool) (mi1 : M (List D)) (t1 : Tgt) (tt1 : M Bool) (te : M D) (vs vs1 : List Nat) : M D := fun ρ h => (mi ρ h).bind fun ds h1 => (mLoop2 t tt mi1 t1 tt1 te vs1 (wipeE ρ vs) ds [] h1).bind fun ds h1 => .ok (.lst ds) h1
@[simp] theorem mLc2_ap {ρ : DL.Env} {h : Cells} (mi : M (List D)) (t : Tgt) (tt : M Bool) (mi1 : M (List D)) (t1 : Tgt) (tt1 : M Bool) (te : M D) (vs vs1 : List Nat) :
    mLc2 mi t tt mi1 t1 tt1 te vs vs1 ρ h = (mi ρ h).bind fun ds h1 => (mLoop2 t tt mi1 t1 tt1 te vs1 (wipeE ρ vs) ds [] h1).bind fun ds h1 => .ok (.lst ds) h1 := id rfl
section
variable {X : Cx} {c : Cc} {wx : WX}
theorem Loc.extO {t : Tp} {W W' : Wd} {ρ : DL.Env} {σ : L2.St} {H H' : Hp} {ex : List Addr} (L : DL.Loc t W ρ σ H) (x : Ext W H ex W' H') (hx : ∀ (i : Nat) m p, ρ[i]? = some (some (.own m)) → σ[i]? = some (some (.ref p)) → p ∉ ex) : DL.Loc t W' ρ σ H' where
  len := L.len
  at_ := fun i s e => by
    obtain ⟨v, e1, e2⟩ := L.at_ i s e
    refine ⟨v, e1, ?_⟩
    cases s with
    | val d => exact At.mono x.le e2
    | own m =>
      obtain ⟨p, e3, e4, e5, e6⟩ := e2
      subst e3
      obtain ⟨o, e7, e8⟩ := e4.some
      have n1 : nt H p ≠ none := nt_yes e7 e8
      have n2 := hx i m p e e1
      exact ⟨p, rfl, e4.mono x.le fun o h1 h2 => x.fr p o h1 e6 n2 h2, x.ng p n1 n2 e5, fun z => (x.ni p z).elim e6 n1⟩
  apart := L.apart
theorem wipeE_some {ρ : DL.Env} : ∀ {vs : List Nat} {i : Nat} {s : SV}, (wipeE ρ vs)[i]? = some (some s) → ρ[i]? = some (some s)
  | [], _, _, h => h
  | v :: vs, i, s, h => by
    unfold wipeE at h
    rcases set_get h with ⟨_, z, _⟩ | ⟨_, f⟩
    · cases z
    · exact wipeE_some f
/-- what is to come behind acc -/
abbrev Fin1 (c : Cc) (wx : WX) (W1 : Wd) (σ : L2.St) (H1 : Hp) (Q : VK) (o : Out (List D)) : Prop := EPost c wx W1 σ H1 (fun W _ => At c.toTp W) (o.bind fun ds h1 => .ok (D.lst ds) h1) Q
theorem lc2_t {mi mi1 : M (List D)} {t t1 : Tgt} {tt tt1 : M Bool} {te : M D} {vs vs1 : List Nat} (σ : L2.St) (H : Hp) (Q : VK) (tq : tD c wx (mLc2 mi t tt mi1 t1 tt1 te vs vs1) σ H Q) :
    tLc2 (tI c wx mi) (gD c vs t) (tQ c wx0 tt) (tI c wx0 mi1) (gD c vs1 t1) (tQ c wx0 tt1) (tD c wx0 te) vs vs1 σ H Q := by
  obtain ⟨W, ρ, h, r, l, p⟩ := tq
  refine ⟨W, ρ, h, r, l, ?_⟩
  replace p : EPost c wx W σ H (fun W _ => At c.toTp W) ((mi ρ h).bind fun ds h1 => (mLoop2 t tt mi1 t1 tt1 te vs1 (wipeE ρ vs) ds [] h1).bind fun ds h1 => .ok (.lst ds) h1) Q := p
  cases e : mi ρ h with
  | exc x h' => rw [e] at p; exact p
  | stuck => rw [e] at p; exact p
  | ok ds h' =>
    rw [e] at p
    intro J W1 H1 x1 r1 sv Dl hD
    have l1 : DL.Loc c.toTp W1 ρ σ H1 := l.ext x1
    have p1 : Fin1 c wx W1 σ H1 Q (mLoop2 t tt mi1 t1 tt1 te vs1 (wipeE ρ vs) ds [] h') := by
      replace p : EPost c wx W σ H (fun W _ => At c.toTp W) ((mLoop2 t tt mi1 t1 tt1 te vs1 (wipeE ρ vs) ds [] h').bind fun ds h1 => .ok (D.lst ds) h1) Q := p
      unfold Fin1
      cases eo : (mLoop2 t tt mi1 t1 tt1 te vs1 (wipeE ρ vs) ds [] h').bind (fun ds h1 => Out.ok (D.lst ds) h1) with
      | ok a h => rw [eo] at p; exact fun v W' H' x r a => p v W' H' (x1.trans0 x) r a
      | exc a h => rw [eo] at p; exact fun cls dd W' H' x r a => p cls dd W' H' (x1.trans0 x) r a
      | stuck => rw [eo] at p; exact p
    refine ⟨fun i m H => m = ds.length - i ∧ i ≤ ds.length ∧ ∃ W2 h2 acc, LcW c W1 H1 Dl acc W2 h2 H ∧ Fin1 c wx W1 σ H1 Q (mLoop2 t tt mi1 t1 tt1 te vs1 (wipeE ρ vs) (ds.drop i) acc h2),
      ⟨ds.length, by simp, Nat.zero_le _, W1, h', [], LcW.start r1 hD, p1⟩, ?_⟩
    rintro i m H2 ⟨rfl, hi, W2, h2, acc, s2, p2⟩
    obtain ⟨q1, q2⟩ := sv W2 h2 H2 i s2.x.le s2.r
    by_cases hlt : i < ds.length
    · have ed : ds.drop i = ds[i] :: ds.drop (i + 1) := List.drop_eq_getElem_cons hlt
      rw [ed] at p2
      obtain ⟨g1, g2⟩ := q2 ds[i] (List.getElem?_eq_getElem hlt)
      refine .inr ⟨g1, fun H3 => ∃ W3 h3 acc, LcW c W1 H1 Dl acc W3 h3 H3 ∧ Fin1 c wx W1 σ H1 Q (mLoop2 t tt mi1 t1 tt1 te vs1 (wipeE ρ vs) (ds.drop (i + 1)) acc h3),
        fun H3 z => ⟨ds.length - (i + 1), by omega, rfl, hlt, z⟩, fun x H3 y => ?_⟩
      obtain ⟨W3, x3, r3, a3⟩ := g2 x H3 y
      have s3 := s2.ext x3 r3
      unfold Fin1 at p2
      simp only [mLoop2] at p2
      cases et : t ds[i] (wipeE ρ vs) with
      | none => rw [et] at p2; exact False.elim p2
      | some ρ1 =>
        rw [et] at p2
        simp only at p2
        have l3 : DL.Loc c.toTp W3 (wipeE ρ vs) (L2.wipe σ vs) H3 := (l1.wipe vs).extX s3.x fun p hp => by rw [List.mem_singleton.mp hp]; exact nt_no hD
        have sr : SR c (Bs.at W3 H3 (wipeE ρ vs) (L2.wipe σ vs)) W3 (wipeE ρ vs) h2 (L2.wipe σ vs) H3 := ⟨Ext.refl _ _ _, r3, l3, fun i m p e1 e2 => .inl (ownL_mem e1 e2)⟩
        refine ⟨_, W3, wipeE ρ vs, h2, ds[i], ρ1, sr, a3, et, fun σ4 s4 o4 => ⟨wipe_off o4, W3, ρ1, h2, s4.r, s4.l, ?_⟩⟩
        cases ett : tt ρ1 h2 with
        | exc _ _ => rw [ett] at p2; exact False.elim p2
        | stuck => rw [ett] at p2; exact False.elim p2
        | ok b h4 =>
          rw [ett] at p2
          intro b' W4 H4 x4 r4 eb
          subst eb
          have s5 := s3.ext x4 r4
          have l5 := s4.l.ext x4
          cases b with
          | false =>
            rw [if_neg Bool.false_ne_true]
            exact ⟨W4, h4, acc, s5, p2⟩
          | true =>
            rw [if_pos rfl]
            refine ⟨W4, ρ1, h4, r4, l5, ?_⟩
            replace p2 : EPost c wx W1 σ H1 (fun W _ => At c.toTp W) (((mi1 ρ1 h4).calm.bind fun es h2 => (mLoop t1 tt1 te (wipeE ρ1 vs1) es acc h2).bind fun acc' h3 => mLoop2 t tt mi1 t1 tt1 te vs1 (wipeE ρ vs) (ds.drop (i + 1)) acc' h3).bind fun ds h1 => .ok (.lst ds) h1) Q := p2
            cases emi : mi1 ρ1 h4 with
            | exc _ _ => rw [emi] at p2; exact False.elim p2
            | stuck => rw [emi] at p2; exact False.elim p2
            | ok es h5 =>
              rw [emi] at p2
              intro J1 W5 H5 x5 r5 sv1
              have s6 := s5.ext x5 r5
              have l6 := l5.ext x5
              refine ⟨fun j k H => k = es.length - j ∧ j ≤ es.length ∧ ∃ W6 h6 acc6, Ext W5 H5 [Dl] W6 H ∧ LcW c W1 H1 Dl acc6 W6 h6 H ∧ Fin1 c wx W1 σ H1 Q ((mLoop t1 tt1 te (wipeE ρ1 vs1) (es.drop j) acc6 h6).bind fun acc' h3 => mLoop2 t tt mi1 t1 tt1 te vs1 (wipeE ρ vs) (ds.drop (i + 1)) acc' h3),
                ⟨es.length, by simp, Nat.zero_le _, W5, h5, acc, Ext.refl _ _ _, s6, p2⟩, ?_⟩
              rintro j k H6 ⟨rfl, hj, W6, h6, acc6, x6, s7, p6⟩
              obtain ⟨q3, q4⟩ := sv1 W6 h6 H6 j x6.le s7.r
              by_cases hlj : j < es.length
              · have ed1 : es.drop j = es[j] :: es.drop (j + 1) := List.drop_eq_getElem_cons hlj
                rw [ed1] at p6
                obtain ⟨g3, g4⟩ := q4 es[j] (List.getElem?_eq_getElem hlj)
                refine .inr ⟨g3, fun H7 => ∃ W7 h7 acc7, Ext W5 H5 [Dl] W7 H7 ∧ LcW c W1 H1 Dl acc7 W7 h7 H7 ∧ Fin1 c wx W1 σ H1 Q ((mLoop t1 tt1 te (wipeE ρ1 vs1) (es.drop (j + 1)) acc7 h7).bind fun acc' h3 => mLoop2 t tt mi1 t1 tt1 te vs1 (wipeE ρ vs) (ds.drop (i + 1)) acc' h3),
                  fun H7 z => ⟨es.length - (j + 1), by omega, rfl, hlj, z⟩, fun y H7 yy => ?_⟩
                obtain ⟨W7, x7, r7, a7⟩ := g4 y H7 yy
                have s8 := s7.ext x7 r7
                have x8 : Ext W5 H5 [Dl] W7 H7 := x6.trans0 x7
                unfold Fin1 at p6
                simp only [mLoop] at p6
                cases et1 : t1 es[j] (wipeE ρ1 vs1) with
                | none => rw [et1] at p6; exact False.elim p6
                | some ρ2 =>
                  rw [et1] at p6
                  simp only at p6
                  have own4 : ∀ (i : Nat) m p, (wipeE ρ1 vs1)[i]? = some (some (.own m)) → (L2.wipe σ4 vs1)[i]? = some (some (.ref p)) → p ∉ [Dl] := fun i m p e1 e2 z => by
                    have z : p = Dl := List.mem_singleton.mp z
                    have e1' := wipeE_some e1
                    have e2' := (wipe_some e2).1
                    obtain ⟨v, e3, q, e4, e5, _⟩ := s4.l.at_ i _ e1'
                    rw [e2'] at e3
                    cases e3
                    cases e4
                    obtain ⟨o, e7, e8⟩ := e5.some
                    rcases s4.o i m p e1' e2' with y | y
                    · obtain ⟨i', m', f1, f2⟩ := of_ownL y
                      obtain ⟨v, f3, q, f4, f5, _⟩ := (l1.wipe vs).at_ i' _ f1
                      rw [f2] at f3
                      cases f3
                      cases f4
                      obtain ⟨o', f7, f8⟩ := f5.some
                      rw [z, hD] at f7
                      cases f7
                    · exact nt_yes e7 e8 y
                  have l8 : DL.Loc c.toTp W7 (wipeE ρ1 vs1) (L2.wipe σ4 vs1) H7 := Loc.extO (l6.wipe vs1) x8 own4
                  have sr1 : SR c (Bs.at W7 H7 (wipeE ρ1 vs1) (L2.wipe σ4 vs1)) W7 (wipeE ρ1 vs1) h6 (L2.wipe σ4 vs1) H7 := ⟨Ext.refl _ _ _, r7, l8, fun i m p e1 e2 => .inl (ownL_mem e1 e2)⟩
                  refine ⟨_, W7, wipeE ρ1 vs1, h6, es[j], ρ2, sr1, a7, et1, fun σ9 s9 o9 => ⟨wipe_off o9, W7, ρ2, h6, s9.r, s9.l, ?_⟩⟩
                  cases ett1 : tt1 ρ2 h6 with
                  | exc _ _ => rw [ett1] at p6; exact False.elim p6
                  | stuck => rw [ett1] at p6; exact False.elim p6
                  | ok b h8 =>
                    rw [ett1] at p6
                    intro b' W8 H8 x9 r8 eb
                    subst eb
                    have s10 := s8.ext x9 r8
                    have x10 : Ext W5 H5 [Dl] W8 H8 := x8.trans0 x9
                    cases b with
                    | false =>
                      rw [if_neg Bool.false_ne_true]
                      exact ⟨W8, h8, acc6, x10, s10, p6⟩
                    | true =>
                      rw [if_pos rfl]
                      refine ⟨W8, ρ2, h8, r8, s9.l.ext x9, ?_⟩
                      replace p6 : Fin1 c wx W1 σ H1 Q ((((te ρ2 h8).calm.bind fun x h2 => if acc6.length < big then mLoop t1 tt1 te (wipeE ρ1 vs1) (es.drop (j + 1)) (acc6 ++ [x]) h2 else .stuck)).bind fun acc' h3 => mLoop2 t tt mi1 t1 tt1 te vs1 (wipeE ρ vs) (ds.drop (i + 1)) acc' h3) := p6
                      cases ete : te ρ2 h8 with
                      | exc _ _ => rw [ete] at p6; exact False.elim p6
                      | stuck => rw [ete] at p6; exact False.elim p6
                      | ok d h9 =>
                        rw [ete] at p6
                        replace p6 : Fin1 c wx W1 σ H1 Q ((if acc6.length < big then mLoop t1 tt1 te (wipeE ρ1 vs1) (es.drop (j + 1)) (acc6 ++ [d]) h9 else .stuck).bind fun acc' h3 => mLoop2 t tt mi1 t1 tt1 te vs1 (wipeE ρ vs) (ds.drop (i + 1)) acc' h3) := p6
                        by_cases hl : acc6.length < big
                        · rw [if_pos hl] at p6
                          intro v W9 H9 x11 r9 a9
                          have s11 := s10.ext x11 r9
                          obtain ⟨us, e6, al⟩ := s11.l
                          refine ⟨us, e6, by rw [← al.length, sizeLine_eq]; exact hl, W9, h9, acc6 ++ [d], ?_, s11.app e6 a9 hD, p6⟩
                          exact mut_ext (B := ⟨W5, H5, [Dl]⟩) (x10.trans0 x11) e6 (.inl (by simp)) fun _ z => nomatch z
                        · rw [if_neg hl] at p6
                          exact False.elim p6
              · have e0 : j = es.length := by omega
                subst e0
                rw [List.drop_length] at p6
                exact .inl ⟨q3 rfl, W6, h6, acc6, s7, p6⟩
    · have e0 : i = ds.length := by omega
      subst e0
      rw [List.drop_length] at p2
      refine .inl ⟨q1 rfl, ?_⟩
      obtain ⟨W', x', r', a'⟩ := s2.done hD
      exact p2 _ W' H2 x' r' a'
theorem gg_weak {tg : Expr} {vs vs' : List Nat} {t : Tgt} (h : GG X c tg vs t) (hv : vs.all (fun i => vs'.contains i) = true) : GG X c tg vs' t :=
  PG.imp h fun x σ H Q ⟨B, W, ρ, h, d, ρ', s, a, e, k⟩ => ⟨B, W, ρ, h, d, ρ', s, a, e, fun σ' s' o => k σ' s' ⟨o.1, fun i hi => o.2 i fun z => hi (by simpa using List.all_eq_true.mp hv i z)⟩⟩
theorem ge_lc2 {elt tg iter tg1 iter1 : Expr} {ifs ifs1 : List Expr} {scope : Scope} {own : List (Str × Nat)} {vs1 : List Nat} {pos : Pos} {mi mi1 : M (List D)} {t t1 : Tgt} {tt tt1 : M Bool} {te : M D} (hc : X.calm = true) (hN : X.N.Nodup) (hi : GI X c wx tg iter mi) (ok : blkC X.N X.env.scope scope own = true) (hv : vs1.all (fun i => (own.map (·.2)).contains i) = true)
    (hg : ∀ (s : Shared) (H : Hp) (C : Addr) (cl : List (Str × Addr)) (fp : List Addr), GG (X.blk s H scope (compEnvC scope cl C X.env) fp) c tg (own.map (·.2)) t)
    (ht : ∀ (s : Shared) (H : Hp) (C : Addr) (cl : List (Str × Addr)) (fp : List Addr), GTs (X.blk s H scope (compEnvC scope cl C X.env) fp) c wx0 ifs tt)
    (hi1 : ∀ (s : Shared) (H : Hp) (C : Addr) (cl : List (Str × Addr)) (fp : List Addr), GI (X.blk s H scope (compEnvC scope cl C X.env) fp) c wx0 tg1 iter1 mi1)
    (hg1 : ∀ (s : Shared) (H : Hp) (C : Addr) (cl : List (Str × Addr)) (fp : List Addr), GG (X.blk s H scope (compEnvC scope cl C X.env) fp) c tg1 vs1 t1)
    (ht1 : ∀ (s : Shared) (H : Hp) (C : Addr) (cl : List (Str × Addr)) (fp : List Addr), GTs (X.blk s H scope (compEnvC scope cl C X.env) fp) c wx0 ifs1 tt1)
    (he : ∀ (s : Shared) (H : Hp) (C : Addr) (cl : List (Str × Addr)) (fp : List Addr), GE (X.blk s H scope (compEnvC scope cl C X.env) fp) c wx0 elt te) (hs : ∀ x, foldedSetIterable iter X.env x = pure x := by intro _; rfl) (hs1 : ∀ env x, foldedSetIterable iter1 env x = pure x := by intro _ _; rfl) :
    GE X c wx (.ListComp elt [⟨tg, iter, ifs, 0⟩, ⟨tg1, iter1, ifs1, 0⟩] scope pos) (mLc2 mi t tt mi1 t1 tt1 te (own.map (·.2)) vs1) :=
  PE.imp (pe_lc2 hc hN hi (blkOk_by ok) (fun i h => by simpa using List.all_eq_true.mp hv i h) hg ht hi1 hg1 ht1 he hs hs1) fun σ H Q q => lc2_t σ H Q q
end
end DM

/-! What the defs of a program with lambdas and errors stand on. -/
namespace DM
open DL PySem PySem.Spec PyProof.Rows L2 DH LamX
/-- the name of the lambdas of the def x -/
def lamQ (x : Str) : Str := (envOfC x { kind := .function, names := [], isGenerator := false, isCoroutine := false, more := [] } 0 0 .none).qual ++ "<lambda>"
structure OkP (LD : List Str) (P : Program) (w : World) (K : PySem.W.Frag) (mg : Str → Option Value) (base : Heap) (c : Cc) (C : Nat → Addr) : Prop where
  hk : c.K = K
  hn : ∀ n, c.gl n ≠ .non
  hg : ∀ n < 14, c.gl n = .ref (C n)
  hx : ∀ n < 12, c.xc n = .ref (C n)
  er : Errs K C
  lam : ∀ x ∈ LD, ∀ f, mg x = some (.ref f) → LamTab K mg base c.T f (lamQ x)
theorem fn_stuck {P : Program} {w : World} {K : PySem.W.Frag} {mg : Str → Option Value} {base : Heap} {CX : CXT} {k n : Nat} {f : Addr} {fd : FuncData} {ps : List Str} {c : Cc} (hn : ps.length = n) : FnOk P w K mg base CX k f fd ps (spD c n fun _ _ => .stuck) :=
  ⟨fun vs H Q E h => by rw [hn]; exact h.1, fun A outer s H args us vs Q E _ _ _ _ h => by
    obtain ⟨_, _, _, _, _, _, p⟩ := h
    exact False.elim p⟩
/-- a def that holds lambdas: its name, its place, its code object, its table -/
structure LamD where
  x : Str
  f : Addr
  c : Addr
  P : Addr
structure LamOk (K : PySem.W.Frag) (mg : Str → Option Value) (h : Heap) (d : LamD) : Prop where
  m : mg d.x = some (.ref d.f)
  ci : CodeIs K d.f (.ref d.c)
  tab : h.get? d.P = some { cls := .none, data := .fields #[] } ∧ PySem.W.CodeHd h d.c d.P
  no : K.lookup d.P = none
theorem lam_mk {K : PySem.W.Frag} {mg : Str → Option Value} {h : Heap} {x : Str} {f c P : Addr} {oc e : Value} {od dd : Option Addr} {fd : FuncData} {vs : Array Value} {sl sl2 : Array (Option Value)} (m : mg x = some (.ref f)) (lk : K.lookup f = some ⟨oc, od, .func fd, sl⟩) (hc : fd.code = .ref c)
    (lc : K.lookup c = some ⟨e, dd, .fields vs, sl2⟩) (hv : vs[11]? = some (.ref P)) (no : K.lookup P = none) (t : ∀ f, mg x = some (.ref f) → TabOf K f h) : LamOk K mg h ⟨x, f, c, P⟩ :=
  ⟨m, ⟨_, _, _, _, lk, hc⟩, t f m c P _ fd e dd vs sl2 lk rfl hc lc hv, no⟩
def cMain (K : PySem.W.Frag) (LD : List LamD) (cs : List Addr) : Cc := ⟨⟨K, fun j => .ref (clsF cs j)⟩, LD.map fun d => (d.P, lamQ d.x), fun n => .ref (clsF cs n)⟩
theorem ok_main {LD : List LamD} {P : Program} {w : World} {K : PySem.W.Frag} {mg : Str → Option Value} {base h : Heap} {cs : List Addr} (hE : errB K cs = true) (hL : ∀ d ∈ LD, LamOk K mg h d) (hnd : (LD.map (·.P)).Nodup) (hB : ∀ d ∈ LD, TabB base mg d.c d.P) : OkP (LD.map (·.x)) P w K mg base (cMain K LD cs) (clsF cs) where
  hk := rfl
  hn := fun _ z => nomatch z
  hg := fun _ _ => rfl
  hx := fun _ _ => rfl
  er := errB_ok hE
  lam := fun x hx f hm => by
    obtain ⟨d, hd, rfl⟩ := List.mem_map.mp hx
    have o := hL d hd
    have e : f = d.f := by
      have := o.m
      rw [hm] at this
      injection this with this
      injection this
    subst e
    refine ⟨d.c, d.P, o.ci, hB d hd, List.mem_map.mpr ⟨d, hd, rfl⟩, fun p hp e => ?_⟩
    obtain ⟨d', hd', rfl⟩ := List.mem_map.mp hp
    have : d' = d := by
      have nd := hnd
      rw [List.nodup_iff_pairwise_ne] at nd
      clear o hm hx hp
      induction LD with
      | nil => cases hd
      | cons a r ih =>
        obtain ⟨h1, h2⟩ := List.pairwise_cons.mp (show List.Pairwise (· ≠ ·) (a.P :: r.map (·.P)) from nd)
        rcases List.mem_cons.mp hd with z | z
        · rcases List.mem_cons.mp hd' with z' | z'
          · rw [z, z']
          · exact absurd (show d.P = d'.P from e.symm) (by rw [z]; exact h1 _ (List.mem_map.mpr ⟨d', z', rfl⟩))
        · rcases List.mem_cons.mp hd' with z' | z'
          · exact absurd (show d'.P = d.P from e) (by rw [z']; exact h1 _ (List.mem_map.mpr ⟨d, z, rfl⟩))
          · exact ih (fun x hx => hL x (List.mem_cons_of_mem _ hx)) (List.nodup_iff_pairwise_ne.mpr h2) (fun x hx => hB x (List.mem_cons_of_mem _ hx)) z z' h2
    rw [this]
theorem law_atG {l : PySem.W.OpenLaw} {w : World} {K : PySem.W.Frag} {k : Nat} {x : Str} {mg : Str → Option Value} {fa : Addr} {h : Heap} {F : FS} {LD : List LamD} {cs : List Addr} (hL : ∀ d ∈ LD, LamOk K mg h d) (hF : TrueAt F)
    (f : ∃ fd : FuncData, (∀ (s : Shared) (u : Value), BindsTo s fd ⟨[u], []⟩ [(x, u)]) ∧ ∀ base : Heap, (∀ d ∈ LD, TabB base mg d.c d.P) → FnOk l.prog w K mg base (L2N.CX l.prog w) k fa fd [x] (spD (cMain K LD cs) 1 F)) :
    LamX.LawAtS l w K (L2N.CX l.prog w) k 63 x mg fa h := by
  obtain ⟨fd, hb, hf⟩ := f
  refine law_atL (c := cMain K LD cs) (LD.map fun d => (d.c, d.P, lamQ d.x)) rfl (by show LD.map _ = _; rw [List.map_map]; rfl) hF (fun p hp => ?_) (fun p hp => ?_) ⟨fd, hb, fun base _ _ b3 => hf base fun d hd => b3 _ (List.mem_map.mpr ⟨d, hd, rfl⟩)⟩
  · obtain ⟨d, hd, rfl⟩ := List.mem_map.mp hp
    exact (hL d hd).tab
  · obtain ⟨d, hd, rfl⟩ := List.mem_map.mp hp
    exact (hL d hd).no
end DM

/-! Sets of the signs of a text: made, counted, put in order. -/
namespace SgS
open PySem PySem.Spec PyProof.Rows L2 PySem.Froz
section
variable {P : Program} {w : World} {A : Around} {E : Value → Shared → Prop} {s : Shared} {a : Addr}
def txt (e : Int × Value) : Str := match e.2 with
  | .str x _ => x
  | _ => ⟨#[]⟩
/-- the set at a holds the texts l, each once, in some order; it can be walked -/
structure Holds (P : Program) (w : World) (h : Heap) (a : Addr) (l : List Str) (D : SD) : Prop where
  at_ : h.get? a = some (sObj "set" D)
  ok : TxOk P w D l
  ris : Ris D.2.2.place.toList
  led : w.params.followText "set-order" = true ∨ D.2.2.led = true
  str : ∀ e ∈ D.1.toList, ∃ x u, e.2 = Value.str x u
  perm : (D.1.toList.map txt).Perm l
  nd : l.Nodup
theorem tail_facts {ep : Nat} {es1 : Array (Int × Value)} {t2 : SetTable} {b : Bool} : (tailTx ep es1 t2 b).1.toList.Perm es1.toList ∧ (Ris t2.place.toList → Ris (tailTx ep es1 t2 b).2.2.place.toList) ∧ (tailTx ep es1 t2 b).2.2.led = t2.led := by
  unfold tailTx
  by_cases c : (!b && t2.tooFull) = true
  · simp only [c, if_true]
    exact ⟨relayAll_perm _ _ _, fun _ => relayAll_ris _ _ _, relayAll_led _ _ _⟩
  · simp only [c, if_false]
    exact ⟨List.Perm.refl _, id, rfl⟩
theorem add_facts {h : Int} {v : Value} {D : SD} : (addTx h v D).1.toList.Perm ((h, v) :: D.1.toList) ∧ (Ris D.2.2.place.toList → Ris (addTx h v D).2.2.place.toList) ∧ (addTx h v D).2.2.led = D.2.2.led := by
  obtain ⟨p1, p2, p3⟩ := tail_facts (ep := D.2.1) (es1 := (layNew D.2.2 D.1 h v).1) (t2 := if (layNew D.2.2 D.1 h v).2.1.plain = true then { (layNew D.2.2 D.1 h v).2.1 with plain := false } else (layNew D.2.2 D.1 h v).2.1) (b := (layNew D.2.2 D.1 h v).2.2.1)
  have pm := layNew_perm D.2.2 D.1 h v
  rw [Array.toList_push] at pm
  refine ⟨p1.trans (pm.trans (List.perm_append_singleton _ _)), fun r => p2 ?_, p3.trans ?_⟩
  · have := layNew_ris D.2.2 D.1 h v r
    split <;> exact this
  · have := layNew_led D.2.2 D.1 h v
    split <;> exact this
theorem Holds.frame {h h' : Heap} {l : List Str} {D : SD} (H : Holds P w h a l D) (k : ∀ o, h.get? a = some o → h'.get? a = some o) : Holds P w h' a l D := { H with at_ := k _ H.at_ }
/-- one sign more -/
theorem Holds.add {l : List Str} {D : SD} {k : Str} {u : Tok} {Q : Bool → Shared → Prop} (H : Holds P w s.heap a l D) (hb : l.length + 1 < scanBound)
    (hQ : ∀ h' l' D' b, (∀ c o, c ≠ a → s.heap.get? c = some o → h'.get? c = some o) → Holds P w h' a l' D' → (∀ x, x ∈ l' ↔ x = k ∨ x ∈ l) → l'.length ≤ l.length + 1 → Q b { s with heap := h' }) :
    wpAny (model P w) A (setAddHashed a (.str k u) (hashStr w k)) Q E s := by
  by_cases hk : k ∈ l
  · obtain ⟨es, ep, t⟩ := D
    have hd : (sObj "set" (es, ep, t)).data = .set es ep t := rfl
    have hb0 : es.size < scanBound := by have : es.size = l.length := H.ok.sz; omega
    obtain ⟨e, he, pe⟩ := (H.ok.mem k).mp hk
    unfold setAddHashed setAddHashedIn
    refine wpAny_holding (wpAny_bind (wpAny_setState_of H.at_ hd H.ok.fit ?_)); dsimp only
    rw [byScan_of rfl hb0 H.ok.el]; simp only [↓reduceIte]; unfold setAddByScan
    refine wpAny_bind (wpAny_bind (wpAny_rule (wpAny_bind (wpAny_setScan_of (knd := strKind P w) (k := k) (is_str k u) H.at_ hd H.ok.fit H.ok.el ?_))))
    have hs := hQ s.heap l (es, ep, t) false (fun _ _ _ z => z) H (fun x => ⟨.inr, fun z => z.elim (fun z => z ▸ hk) id⟩) (by omega)
    cases hf : List.findIdx? (fun e => (strKind P w).is k e.2) es.toList with
    | none =>
      have c := List.findIdx?_eq_none_iff.mp hf e he
      rw [pe] at c; cases c
    | some j => dsimp only; exact wpAny_pure (wpAny_pure hs)
  · refine add_x H.at_ H.ok hk hb ?_
    obtain ⟨p1, p2, p3⟩ := add_facts (h := hashStr w k) (v := .str k u) (D := D)
    refine hQ _ (k :: l) (addTx (hashStr w k) (.str k u) D) true (fun c o hc e => (Heap.get?_update_other _ _ (Ne.symm hc)).trans e) ⟨get_upd _ H.at_ rfl, add_ok u H.ok, p2 H.ris, ?_, fun e he => ?_, ?_, List.nodup_cons.mpr ⟨hk, H.nd⟩⟩ (fun x => List.mem_cons) (by simp)
    · rw [p3]; exact H.led
    · rcases List.mem_cons.mp (p1.mem_iff.mp he) with z | z
      · rw [z]; exact ⟨_, _, rfl⟩
      · exact H.str e z
    · exact (p1.map txt).trans (List.Perm.cons _ H.perm)
/-- the rest of a text's signs -/
theorem upd_loop {I : Addr} {fp wr : List Addr} {n : Nat} {x : Str} {St : Nat → Heap → Prop} {R : Result → Shared → Prop} (W : Walks P w A.in1 I fp wr n (SignAt x) St) (hn : n = x.cps.size) (hf : a ∉ fp) (hb : n + 1 < scanBound) :
    ∀ (m i : Nat) (s : Shared), n - i = m → i ≤ n → St i s.heap → (∃ l D, Holds P w s.heap a l D ∧ l.length ≤ i ∧ ∀ y, y ∈ l ↔ ∃ c ∈ x.cps.toList.take i, y = ⟨#[c]⟩) →
      (∀ h' tk l D, (∀ b o, b ≠ a → b ∉ wr → s.heap.get? b = some o → h'.get? b = some o) → Holds P w h' a l D → l.length ≤ n → (∀ y, y ∈ l ↔ ∃ c ∈ x.cps.toList, y = ⟨#[c]⟩) → R (.ok (.ret .none)) { s with heap := h', toks := tk }) →
      codeAny (model P w) A (.builtin "set.update.loop" ⟨[.ref a, .ref I], []⟩) R s := by
  have ha : a ∉ wr := fun z => hf (W.sub _ z)
  intro m; induction m with
  | zero =>
    intro i s hm hi st ⟨l, D, H, hl, hy⟩ hR
    obtain rfl : i = n := by omega
    refine codeAny_builtin PyProof.Rows.F.entry_set_update_loop ?_
    rw [Around.under_plainId PyProof.Rows.F.plain_set_update_loop _]
    refine wpAny_bind (W.done s _ _ st fun h' tk hk => ?_)
    show wpAny _ A.in1 (ret Value.none) _ _ _
    refine wpAny_pure (hR h' tk l D (fun b o _ h2 e => hk b o h2 e) (H.frame fun o e => hk a o ha e) hl ?_)
    rw [List.take_of_length_le (by rw [hn]; simp)] at hy; exact hy
  | succ m ih =>
    intro i s hm hi st ⟨l, D, H, hl, hy⟩ hR
    have hlt : i < n := by omega
    refine codeAny_builtin PyProof.Rows.F.entry_set_update_loop ?_
    rw [Around.under_plainId PyProof.Rows.F.plain_set_update_loop _]
    refine wpAny_bind (W.item i s _ _ hlt st fun v h1 tk hv st1 hk => ?_)
    obtain ⟨c, t, hc, rfl⟩ := hv
    show wpAny _ A.in1 (holding [Value.str ⟨#[c]⟩ t] (setAdd a (.str ⟨#[c]⟩ t)) >>= _) _ _ _
    refine wpAny_bind (wpAny_holding ?_); unfold setAdd
    refine wpAny_holding (wpAny_bind ((strKind P w).pyHash (k := ⟨#[c]⟩) (is_str _ _) ?_))
    have H1 : Holds P w h1 a l D := H.frame fun o e => hk a o ha e
    refine Holds.add (s := { s with heap := h1, toks := tk + 1 }) H1 (by omega) fun h2 l2 D2 b hk2 H2 hm2 hl2 => ?_
    refine wpAny_pure ⟨plainId_quiet PyProof.Rows.F.plain_set_update_loop _, ih (i + 1) { s with heap := h2, toks := tk + 1 } (by omega) hlt (W.frame _ h1 h2 st1 fun b hb o e => hk2 b o (fun z => hf (z ▸ hb)) e) ⟨l2, D2, H2, by omega, fun y => ?_⟩ fun h3 tk3 l3 D3 hk3 H3 hl3 hy3 => hR h3 tk3 l3 D3 (fun b o h4 h5 e => hk3 b o h4 h5 (hk2 b o h4 (hk b o h5 e))) H3 hl3 hy3⟩
    rw [hm2, hy, List.take_add_one, show x.cps.toList[i]? = some c by rw [Array.getElem?_toList]; exact hc]
    constructor
    · rintro (rfl | ⟨d, hd, rfl⟩)
      · exact ⟨c, by simp, rfl⟩
      · exact ⟨d, List.mem_append_left _ hd, rfl⟩
    · rintro ⟨d, hd, rfl⟩
      rcases List.mem_append.mp hd with z | z
      · exact .inr ⟨d, z, rfl⟩
      · simp at z; subst z; exact .inl rfl
end
section
variable {P : Program} {w : World} {A : Around} {E : Value → Shared → Prop} {s : Shared}
/-- the payload of a set as it begins -/
abbrev d0 (w : World) : SD := (#[], 0, .fresh 0 0 (!w.params.followText "set-order"))
theorem Holds.zero {h : Heap} {a : Addr} (e : h.get? a = some (sObj "set" (d0 w))) : Holds P w h a [] (d0 w) where
  at_ := e
  ok := TxOk.nil rfl
  ris := List.Pairwise.nil
  led := by
    show _ ∨ (!w.params.followText "set-order") = true
    cases w.params.followText "set-order" <;> simp
  str := fun e he => by simp at he
  perm := List.Perm.nil
  nd := List.nodup_nil
/-- set(x), x a text -/
theorem call_set {x : Str} {t : Tok} {Q : Value → Shared → Prop} (hh : A.handled = none) (hb : x.cps.size + 1 < scanBound)
    (hQ : ∀ h' tk l D, Holds P w h' s.heap.objs.size l D → l.length ≤ x.cps.size → (∀ y, y ∈ l ↔ ∃ c ∈ x.cps.toList, y = ⟨#[c]⟩) → (∀ b o, s.heap.get? b = some o → h'.get? b = some o) → Q (.ref s.heap.objs.size) { s with heap := h', toks := tk }) :
    wpAny (model P w) A (call (.type "set") [.str x t]) Q E s := by
  obtain ⟨c, tl, hmro⟩ := PySem.F.called_set.mro
  have hmade := PySem.F.called_set.made; have hsub := PySem.F.called_set.sub
  have h1 := PySem.F.called_set.notType; have h2 := PySem.F.called_set.canCreate; have hct := PySem.F.typeCall_set_1 (.str x t)
  refine wpAny_call (codeAny_of_tree ?_); show wpAny _ _ (callAny (.type "set") _) _ _ _
  refine wpAny_pure ⟨Code.quiet_builtin _ (by decide +kernel), codeAny_builtin PySem.F.entry_type_call ?_⟩; rw [Around.under_plain (weight_type_call_type "set" [.str x t] []) rfl]
  repeat (any_goals (first | assumption | wp_step))
  refine codeAny_mono (code_set_led1 (.str x t) (E := E) (Q₁ := fun v s₁ => v = .ref s.heap.objs.size ∧ s₁ = { s with heap := s.heap.push (sObj "set" (d0 w)) }) ⟨rfl, rfl⟩) fun r s₁ hr => ?_
  cases r with
  | error e => exact hr
  | ok fl =>
    cases fl with
    | ret obj =>
      obtain ⟨rfl, rfl⟩ := hr
      have hS : (s.heap.push (sObj "set" (d0 w))).get? s.heap.objs.size = some (sObj "set" (d0 w)) := Heap.get?_push_size _ rfl
      have hT : Shared.TypeIs { s with heap := s.heap.push (sObj "set" (d0 w)) } (.ref s.heap.objs.size) "set" := ⟨_, hS, rfl⟩
      have hli := PySem.F.called_set.init.lookup; have hbi := PySem.F.called_set.init.bind (.ref s.heap.objs.size)
      repeat (any_goals (first | assumption | wp_step))
      refine codeAny_mono (codeAny_call_builtin (R := wants (fun r s₂ => r = .none ∧ ∃ h' tk l D, s₂ = { s with heap := h', toks := tk } ∧ Holds P w h' s.heap.objs.size l D ∧ l.length ≤ x.cps.size ∧ (∀ y, y ∈ l ↔ ∃ c ∈ x.cps.toList, y = ⟨#[c]⟩) ∧
          (∀ b o, s.heap.get? b = some o → h'.get? b = some o)) E) PySem.F.called_set.init.plain PySem.F.entry_set_init (check_set_init_1 hT ?_)) fun r₂ s₂ hr₂ => ?_
      · have q1 := PySem.F.sub_str_set; have q2 := PySem.F.sub_str_frozenset
        have q3 : (Value.type "str" == Value.type "dict") = false := by decide
        have q4 := typeIs_str ({ s with heap := s.heap.push (sObj "set" (d0 w)) } : Shared) x t
        unfold Builtin.«set.__init__» noKeywords Builtin.Frozenset.updateFrom
        generalize hPI : pyIter = PI
        wp_walk
        subst hPI
        refine wpAny_pyIter_str fun o St W st => wpAny_bind (wpAny_runValue ?_)
        have hz : (s.heap.push (sObj "set" (d0 w))).objs.size = s.heap.objs.size + 1 := Heap.size_push ..
        have hS2 := Heap.get?_push_of_some o hS
        refine upd_loop (W A.in1.in1.in1 (by simp [hh])) rfl (by rw [hz]; simp) hb _ 0 _ rfl (Nat.zero_le _) st ⟨[], d0 w, Holds.zero hS2, Nat.le_refl _, fun y => by simp⟩ fun h' tk l D k H hl hy => ?_
        show wpAny _ _ _ _ _ _
        refine wpAny_pure ?_
        show wpAny _ _ (ret Value.none) _ _ _
        refine wpAny_pure ⟨rfl, h', tk, l, D, rfl, H, hl, hy, fun b u e => k b u (Nat.ne_of_lt (Heap.lt_size e)) ?_ (Heap.get?_push_of_some _ (Heap.get?_push_of_some _ e))⟩
        rw [hz, List.mem_singleton]
        exact Nat.ne_of_lt (Nat.lt_succ_of_lt (Heap.lt_size e))
      · cases r₂ with
        | error e => exact hr₂
        | ok fl₂ =>
          cases fl₂ with
          | ret r =>
            obtain ⟨rfl, h', tk, l, D, rfl, H, hl, hy, hk⟩ := hr₂
            repeat (any_goals (first | assumption | wp_step))
            exact hQ _ _ _ _ H hl hy hk
          | _ => exact hr₂.elim
    | _ => exact hr.elim
theorem strs_of : ∀ l : List Value, (∀ v ∈ l, ∃ x u, v = Value.str x u) → StrsAre l (l.map fun v => match v with | .str x _ => x | _ => ⟨#[]⟩)
  | [], _ => .nil
  | v :: l, h => by
    obtain ⟨k, tk, rfl⟩ := h v List.mem_cons_self
    exact .cons k tk (strs_of l fun u hu => h u (List.mem_cons_of_mem _ hu))
/-- len of it -/
theorem call_len {a : Addr} {l : List Str} {D : SD} {Q : Value → Shared → Prop} (H : Holds P w s.heap a l D) (hb : l.length < scanBound) (hQ : ∀ tk tk', Q (.int l.length tk) { s with toks := tk' }) :
    wpAny (model P w) A (call (.builtin "len") [.ref a]) Q E s := by
  obtain ⟨es, ep, t⟩ := D
  have hsz : es.size = l.length := H.ok.sz
  have : scanBound < 2 ^ 63 := by decide
  refine call_len_set H.at_ ⟨rfl, rfl, rfl⟩ rfl H.ok.fit (by rw [hsz]; omega) ?_
  rw [hsz]
  exact hQ _ _
/-- sorted of it -/
theorem call_sorted {a : Addr} {l : List Str} {D : SD} {Q : Value → Shared → Prop} (H : Holds P w s.heap a l D) (hh : A.handled = none) (h64 : l.length < 64)
    (hQ : ∀ s' p (out : Array Value) (c : Nat) ss, (∀ b o, s.heap.get? b = some o → s'.heap.get? b = some o) → s'.gens = s.gens → s'.os = s.os → s.heap.objs.size ≤ p → s'.heap.get? p = some (seqObj "list" out c) → StrsAre out.toList ss → ss.Perm l → sortedS ss = true → Q (.ref p) s') :
    wpAny (model P w) A (call (.builtin "sorted") [.ref a]) Q E s := by
  obtain ⟨es, ep, t⟩ := D
  have hsz : es.size = l.length := H.ok.sz
  have hsb : es.size < scanBound := Nat.lt_of_lt_of_le (by rw [hsz]; exact h64) (by decide)
  refine Calls.call_function_entry kind_sorted plain_sorted entry_sorted (args_sorted1 _) ?_
  unfold Builtin.«sorted»; refine wpAny_bind (m := checkCount "sorted" 1 1 _) (wpAny_pure ?_)
  refine wpAny_bind (collect_set (A := A.in1) hh ⟨_, H.at_, rfl, rfl⟩ H.ok.fit hsb H.ris H.led fun s1 vs k1 hz g1 o1 pm => ?_)
  have hvl : vs.length = l.length := by rw [pm.length_eq, List.length_map, Array.length_toList]; exact hsz
  have hS := strs_of vs fun v hv => by
    obtain ⟨e, he, q⟩ := List.mem_map.mp (pm.mem_iff.mp hv)
    obtain ⟨x, u, h1⟩ := H.str e he
    exact ⟨x, u, by rw [← q]; exact h1⟩
  have pk : (vs.map fun v => match v with | .str x _ => x | _ => ⟨#[]⟩).Perm l := by
    have q := pm.map fun v : Value => (match v with | .str x _ => x | _ => ⟨#[]⟩ : Str)
    rw [List.map_map] at q
    exact q.trans H.perm
  refine wpAny_bind (wpAny_newList ?_ (by rw [hvl, sizeLine_eq]; omega))
  have hoL : (s1.heap.push (seqObj "list" vs.toArray 0)).get? s1.heap.objs.size = some (seqObj "list" vs.toArray 0) := Heap.get?_push_size _ rfl
  refine wpAny_bind (wpAny_holding (wpAny_call_entry slot_list_sort ⟨_, hoL, rfl⟩ entry_list_sort (list_sort_treeK strKind_oneLt hoL hS.keysOf (fun v₁ v₂ rest e => keyKind_strs (by rw [← e]; exact hS)) (by rw [hvl]; exact h64) fun st' hp hs => ⟨_, rfl, ?_⟩) (args_list_sort _)))
  obtain ⟨ss', a1, a2, a3⟩ := sorted_out_str hS hp hs
  generalize (arrOf st').map (·.2) = out at a1 ⊢
  obtain ⟨c, hc⟩ := sortedHeap_at (vs := vs) (out := out) hoL
  refine wpAny_pure ⟨_, rfl, hQ _ s1.heap.objs.size out c ss' (fun b u e => ?_) g1 o1 hz hc a1 (a2.trans pk) a3⟩
  have q := k1 b u e; have hlt := Heap.lt_size q
  exact (sortedHeap_old (Nat.ne_of_lt hlt) (by rw [size_push']; exact Nat.lt_succ_of_lt hlt)).trans (Heap.get?_push_of_some _ q)
end
end SgS

/-! len(set(text)), sorted(set(text)) of data. -/
namespace DM
open DL PySem PySem.Spec PyProof.Rows L2 DH
/-- a sign put in its place, once -/
def insN (x : Nat) : List Nat → List Nat
  | [] => [x]
  | y :: r => if x < y then x :: y :: r else if x = y then y :: r else y :: insN x r
def sgs : List Nat → List Nat
  | [] => []
  | x :: r => insN x (sgs r)
theorem mem_insN {x z : Nat} : ∀ {l : List Nat}, z ∈ insN x l ↔ z = x ∨ z ∈ l
  | [] => by simp [insN]
  | y :: r => by
    unfold insN
    split
    · simp
    · split
      · rename_i h; subst h; simp
      · rw [List.mem_cons, mem_insN (l := r), List.mem_cons]
        exact ⟨fun h => h.elim (fun z => .inr (.inl z)) fun h => h.elim .inl fun z => .inr (.inr z), fun h => h.elim (fun z => .inr (.inl z)) fun h => h.elim .inl fun z => .inr (.inr z)⟩
theorem insN_lt (x : Nat) : ∀ l : List Nat, l.Pairwise (· < ·) → (insN x l).Pairwise (· < ·)
  | [], _ => List.pairwise_singleton _ _
  | y :: r, h => by
    obtain ⟨h1, h2⟩ := List.pairwise_cons.mp h
    unfold insN
    split
    · rename_i hx
      refine List.pairwise_cons.mpr ⟨fun z hz => ?_, h⟩
      rcases List.mem_cons.mp hz with rfl | hz
      · exact hx
      · have := h1 z hz; omega
    · split
      · exact h
      · refine List.pairwise_cons.mpr ⟨fun z hz => ?_, insN_lt x r h2⟩
        rcases mem_insN.mp hz with rfl | hz
        · omega
        · exact h1 z hz
theorem mem_sgs {z : Nat} : ∀ {l : List Nat}, z ∈ sgs l ↔ z ∈ l
  | [] => by simp [sgs]
  | x :: r => by rw [sgs, mem_insN, mem_sgs (l := r), List.mem_cons]
theorem sgs_lt : ∀ l : List Nat, (sgs l).Pairwise (· < ·)
  | [] => List.Pairwise.nil
  | x :: r => insN_lt x _ (sgs_lt r)
theorem sgs_nd (l : List Nat) : (sgs l).Nodup := (sgs_lt l).imp fun h => Nat.ne_of_lt h
theorem perm_of_mem {α : Type} [DecidableEq α] : ∀ {l l' : List α}, l.Nodup → l'.Nodup → (∀ x, x ∈ l ↔ x ∈ l') → l.Perm l'
  | [], l', _, _, h => by
    cases l' with
    | nil => exact .refl _
    | cons y r => exact absurd ((h y).mpr List.mem_cons_self) (by simp)
  | x :: r, l', d, d', h => by
    obtain ⟨d1, d2⟩ := List.nodup_cons.mp d
    have hx := (h x).mp List.mem_cons_self
    refine ((perm_of_mem d2 (d'.erase x) fun y => ?_).cons x).trans (List.perm_cons_erase hx).symm
    rw [List.Nodup.mem_erase_iff d', ← h y, List.mem_cons]
    constructor
    · intro hy
      exact ⟨fun e => d1 (e ▸ hy), .inr hy⟩
    · rintro ⟨h1, h2 | h2⟩
      · exact absurd h2 h1
      · exact h2
def sg (c : Nat) : Str := ⟨#[c]⟩
theorem sg_inj {a b : Nat} (h : sg a = sg b) : a = b := by
  have : (#[a] : Array Nat) = #[b] := congrArg Str.cps h
  simpa using this
theorem sgl_nd (s : List Nat) : ((sgs s).map sg).Nodup := by
  rw [List.Nodup, List.pairwise_map]
  exact (sgs_nd s).imp fun h e => h (sg_inj e)
theorem set_perm {s : List Nat} {l : List Str} (nd : l.Nodup) (h : ∀ y, y ∈ l ↔ ∃ c ∈ s, y = ⟨#[c]⟩) : l.Perm ((sgs s).map sg) := by
  refine perm_of_mem nd (sgl_nd s) fun y => ?_
  rw [h, List.mem_map]
  constructor
  · rintro ⟨c, hc, rfl⟩; exact ⟨c, mem_sgs.mpr hc, rfl⟩
  · rintro ⟨c, hc, rfl⟩; exact ⟨c, mem_sgs.mp hc, rfl⟩
theorem lt_sg (a b : Nat) : ltCps (sg a).cps.toList (sg b).cps.toList = decide (a < b) := by
  show ltCps [a] [b] = _
  rw [ltCps_eq, decide_eq_decide]
  constructor
  · intro h
    rcases List.cons_lt_cons_iff.mp h with h | ⟨_, h⟩
    · exact h
    · exact absurd h (List.lt_irrefl _)
  · intro h; exact List.cons_lt_cons_iff.mpr (.inl h)
theorem ris_sg : ∀ (a : Nat) (l : List Nat), risingS (sg a) (l.map sg) = true → (a :: l).Pairwise (· ≤ ·)
  | a, [], _ => List.pairwise_singleton _ _
  | a, b :: l, h => by
    have h' : (!ltCps (sg b).cps.toList (sg a).cps.toList && risingS (sg b) (l.map sg)) = true := h
    rw [lt_sg, Bool.and_eq_true] at h'
    have ih := ris_sg b l h'.2
    have hab : a ≤ b := by have := h'.1; simpa using this
    refine List.pairwise_cons.mpr ⟨fun z hz => ?_, ih⟩
    rcases List.mem_cons.mp hz with rfl | hz
    · exact hab
    · exact Nat.le_trans hab ((List.pairwise_cons.mp ih).1 z hz)
theorem le_one : ∀ {l l' : List Nat}, l.Perm l' → l.Pairwise (· ≤ ·) → l'.Pairwise (· ≤ ·) → l = l'
  | [], l', p, _, _ => p.nil_eq
  | x :: r, l', p, h, h' => by
    cases l' with
    | nil => exact absurd p.length_eq (by simp)
    | cons y r' =>
      obtain ⟨h1, h2⟩ := List.pairwise_cons.mp h
      obtain ⟨g1, g2⟩ := List.pairwise_cons.mp h'
      have e : x = y := by
        rcases List.mem_cons.mp (p.mem_iff.mp List.mem_cons_self) with e | e
        · exact e
        · rcases List.mem_cons.mp (p.mem_iff.mpr List.mem_cons_self) with e2 | e2
          · exact e2.symm
          · have a := h1 y e2
            have b := g1 x e
            omega
      subst e
      rw [le_one (List.Perm.cons_inv p) h2 g2]
theorem of_sg : ∀ {ss : List Str}, (∀ y ∈ ss, ∃ c, y = sg c) → ∃ l : List Nat, ss = l.map sg
  | [], _ => ⟨[], rfl⟩
  | y :: ss, h => by
    obtain ⟨c, rfl⟩ := h y List.mem_cons_self
    obtain ⟨l, rfl⟩ := of_sg fun z hz => h z (List.mem_cons_of_mem _ hz)
    exact ⟨c :: l, rfl⟩
theorem set_sorted {s : List Nat} {l ss : List Str} (nd : l.Nodup) (h : ∀ y, y ∈ l ↔ ∃ c ∈ s, y = ⟨#[c]⟩) (p : ss.Perm l) (hs : sortedS ss = true) : ss = (sgs s).map sg := by
  have p2 := p.trans (set_perm nd h)
  obtain ⟨l, rfl⟩ := of_sg (ss := ss) fun y hy => by
    obtain ⟨c, _, rfl⟩ := List.mem_map.mp (p2.mem_iff.mp hy)
    exact ⟨c, rfl⟩
  have ln : l.Nodup := by
    have := p2.nodup_iff.mpr (sgl_nd s)
    rw [List.Nodup, List.pairwise_map] at this
    exact this.imp fun h e => h (congrArg sg e)
  have p3 : l.Perm (sgs s) := perm_of_mem ln (sgs_nd s) fun x => by
    have := p2.mem_iff (a := sg x)
    simp only [List.mem_map] at this
    constructor
    · intro hx
      obtain ⟨y, hy, e⟩ := this.mp ⟨x, hx, rfl⟩
      rw [← sg_inj e]; exact hy
    · intro hx
      obtain ⟨y, hy, e⟩ := this.mpr ⟨x, hx, rfl⟩
      rw [← sg_inj e]; exact hy
  have hl : l.Pairwise (· ≤ ·) := by
    cases l with
    | nil => exact .nil
    | cons a l => exact ris_sg a l hs
  rw [le_one p3 hl ((sgs_lt s).imp Nat.le_of_lt)]
/-! ### the calls -/
section
variable {X : Cx} {c : Cc} {wx : WX}
def gLenSet : D → Option D
  | .str s => if s.length ≤ 1000 then some (.int (sgs s).length) else none
  | _ => none
def gSortSet : D → Option D
  | .str s => if s.length ≤ 60 then some (.lst ((sgs s).map fun c => .str [c])) else none
  | _ => none
def tSgs (n : Nat) (ta : TE) (k : List Nat → VK → Hp → Prop) : TE := fun σ H Q => ta σ H fun x H1 => ∃ s : List Nat, x = .str ⟨s.toArray⟩ ∧ s.length ≤ n ∧ k s Q H1
theorem pe_lenSgs {a : Expr} {ta : TE} {p p2 q pos : Pos} (hc : X.calm = true) (hg : Gl X "len") (hm : X.mg "len" = none) (hg2 : Gl X "set") (hm2 : X.mg "set" = none) (ha : PE X a ta)
    (na : starEach [a] X.env = (false, eval a X.env) :: starEach [] X.env := by rfl) : PE X (.Call (.Name "len" p) [.Call (.Name "set" p2) [a] [] q] [] pos) (tSgs 1000 ta fun s Q H => Q (.int (sgs s).length) H) := by
  refine ⟨fun pins s σ H Q I h => Call_ (ld_blt I hg hm boot_len (PyProof.Rows.callWith_builtin1 (PyProof.Rows.args_cons ?_ rfl) rfl rfl))⟩
  refine Call_ (ld_blt I hg2 hm2 boot_set (PyProof.Rows.callWith_type1 (PyProof.Rows.args_cons (thn (ha.run pins s σ H _ I h) fun v s1 ⟨x, H1, I1, r1, q1⟩ => PyProof.Rows.args_nil ?_) na) na rfl))
  obtain ⟨cs, rfl, hl, q1⟩ := q1
  obtain ⟨tk, rfl⟩ := r1
  refine SgS.call_set (I1.ok.hd hc) (Nat.lt_of_le_of_lt (m := 1001) (by simpa using hl) (by decide)) fun h' t' l D HH hle hy hk => PyProof.Rows.args_nil ?_
  have pl := (set_perm (s := cs) HH.nd (by simpa using hy)).length_eq
  rw [List.length_map] at pl
  have I2 : Inv X pins σ H1 { s1 with heap := h', toks := t' } := I1.kept hk
  refine SgS.call_len HH (Nat.lt_of_le_of_lt (m := 1000) (Nat.le_trans hle (by simpa using hl)) (by decide)) fun t1 t2 => ⟨.int (sgs cs).length, H1, I2.tok _, ⟨t1, by rw [pl]⟩, q1⟩
theorem pe_sortSgs {a : Expr} {ta : TE} {p p2 q pos : Pos} (hc : X.calm = true) (hg : Gl X "sorted") (hm : X.mg "sorted" = none) (hg2 : Gl X "set") (hm2 : X.mg "set" = none) (ha : PE X a ta)
    (na : starEach [a] X.env = (false, eval a X.env) :: starEach [] X.env := by rfl) : PE X (.Call (.Name "sorted" p) [.Call (.Name "set" p2) [a] [] q] [] pos) (tSgs 60 ta fun s Q H => ∀ r, H r = none → Q (.ref r) (upd H r (.lst (((sgs s).map sg).map V.str)))) := by
  refine ⟨fun pins s σ H Q I h => Call_ (ld_blt I hg hm boot_sorted (PyProof.Rows.callWith_builtin1 (PyProof.Rows.args_cons ?_ rfl) rfl rfl))⟩
  refine Call_ (ld_blt I hg2 hm2 boot_set (PyProof.Rows.callWith_type1 (PyProof.Rows.args_cons (thn (ha.run pins s σ H _ I h) fun v s1 ⟨x, H1, I1, r1, q1⟩ => PyProof.Rows.args_nil ?_) na) na rfl))
  obtain ⟨cs, rfl, hl, q1⟩ := q1
  obtain ⟨tk, rfl⟩ := r1
  refine SgS.call_set (I1.ok.hd hc) (Nat.lt_of_le_of_lt (m := 61) (by simpa using hl) (by decide)) fun h' t' l D HH hle hy hk => PyProof.Rows.args_nil ?_
  have hl60 : l.length ≤ 60 := Nat.le_trans hle (by simpa using hl)
  have I2 : Inv X pins σ H1 { s1 with heap := h', toks := t' } := I1.kept hk
  refine SgS.call_sorted (s := { s1 with heap := h', toks := t' }) HH (I2.ok.hd hc) (by omega) fun s' r out cc ss k g o hp hg hi pm hs => ?_
  have e := set_sorted HH.nd (by simpa using hy) pm hs
  subst e
  have hlen : (((sgs cs).map sg).map V.str).length ≤ sizeLine := by
    have := pm.length_eq
    rw [List.length_map, this, sizeLine_eq]; omega
  have hn : H1 r = none := I2.hok.fresh hp
  have J : Inv X pins σ (upd H1 r (.lst (((sgs cs).map sg).map V.str))) { s1 with heap := s'.heap, gens := s'.gens, drawn := s'.drawn, toks := s'.toks } :=
    I2.call (s := { s1 with heap := h', toks := t' }) (ch := []) (Un.laid (h := h') k hp hn) (I2.hok.laid k hp ⟨hlen, out.toList, cc, vals_of_strs hi, hg⟩) (by rw [g]; exact I2.bare) (fun _ z => nomatch z)
  have e : s' = { s1 with heap := s'.heap, gens := s'.gens, drawn := s'.drawn, toks := s'.toks } := by
    cases s'; cases s1; cases o; rfl
  rw [e]
  exact ⟨.ref r, _, J, rfl, q1 r hn⟩
theorem ge_lenSet {a : Expr} {ma : M D} {p p2 q pos : Pos} (hc : X.calm = true) (hm : X.mg "len" = none) (hm2 : X.mg "set" = none) (ha : GE X c wx a ma) (hg : Gl X "len" := by rfl) (hg2 : Gl X "set" := by rfl)
    (na : starEach [a] X.env = (false, eval a X.env) :: starEach [] X.env := by rfl) : GE X c wx (.Call (.Name "len" p) [.Call (.Name "set" p2) [a] [] q] [] pos) (mOp1 gLenSet ma) :=
  PE.imp (pe_lenSgs hc hg hm hg2 hm2 ha na) fun σ H Q ⟨W, ρ, h, r, l, p⟩ => tG_bind r l p fun d h1 v W1 H1 x1 r1 l1 a1 p1 => by
    obtain ⟨z, e1, k⟩ := fin_ok p1
    cases d <;> first | (simp only [gLenSet] at e1; cases e1; done) | skip
    simp only [gLenSet] at e1
    split at e1
    · rename_i hl
      cases e1
      simp only [At] at a1
      exact ⟨_, a1, hl, k.int r1⟩
    · cases e1
theorem sgs_at {t : Tp} {W : Wd} : ∀ l : List Nat, AtL t W (l.map fun c => .str [c]) ((l.map sg).map V.str)
  | [] => AtL.nil
  | a :: l => AtL.cons (by simp only [At]; rfl) (sgs_at l)
theorem ge_sortSet {a : Expr} {ma : M D} {p p2 q pos : Pos} (hc : X.calm = true) (hm : X.mg "sorted" = none) (hm2 : X.mg "set" = none) (ha : GE X c wx a ma) (hg : Gl X "sorted" := by rfl) (hg2 : Gl X "set" := by rfl)
    (na : starEach [a] X.env = (false, eval a X.env) :: starEach [] X.env := by rfl) : GE X c wx (.Call (.Name "sorted" p) [.Call (.Name "set" p2) [a] [] q] [] pos) (mOp1 gSortSet ma) :=
  PE.imp (pe_sortSgs hc hg hm hg2 hm2 ha na) fun σ H Q ⟨W, ρ, h, r, l, p⟩ => tG_bind r l p fun d h1 v W1 H1 x1 r1 l1 a1 p1 => by
    obtain ⟨z, e1, k⟩ := fin_ok p1
    cases d <;> first | (simp only [gSortSet] at e1; cases e1; done) | skip
    simp only [gSortSet] at e1
    split at e1
    · rename_i hl
      cases e1
      simp only [At] at a1
      exact ⟨_, a1, hl, fun r hr => k.lst r1 (sgs_at _) hr⟩
    · cases e1
end
end DM

/-! Dicts of signs that several hold: made with a pair, asked, written. -/
namespace DM
open DL PySem PySem.Spec PyProof.Rows L2 DH
section
variable {X : Cx} {c : Cc} {wx : WX}
/-! ### asked -/
def keyed : D → Bool
  | .int _ => true
  | .str _ => true
  | _ => false
def gDInB : D → D → Option Bool
  | x, .dic (k :: ks) _ => if keyed x && keyed k then some ((k :: ks).any fun y => eqF y x) else none
  | _, _ => none
def gDIn (x y : D) : Option D := match gDInB x y with | some b => some (.bl b) | none => none
def gDNotIn (x y : D) : Option D := match gDInB x y with | some b => some (.bl (!b)) | none => none
def toK : D → Key
  | .int i => .inl i
  | .str s => .inr ⟨s.toArray⟩
  | _ => .inl 0
theorem keyD_toK {d : D} (h : keyed d = true) : keyD (toK d) = d := by
  cases d <;> first | (simp only [keyed] at h; cases h; done) | rfl
theorem toK_keyD (k : Key) : toK (keyD k) = k := by cases k <;> rfl
theorem keyed_keyD (k : Key) : keyed (keyD k) = true := by cases k <;> rfl
theorem eqF_keyD (a b : Key) : eqF (keyD a) (keyD b) = decide (a = b) := by
  rw [Bool.eq_iff_iff, decide_eq_true_eq]
  cases a <;> cases b <;> simp only [keyD, eqF, beq_iff_eq, Sum.inl.injEq, Sum.inr.injEq, reduceCtorEq, Bool.false_eq_true]
  rename_i x y
  obtain ⟨⟨x⟩⟩ := x
  obtain ⟨⟨y⟩⟩ := y
  simp
theorem at_kV {t : Tp} {W : Wd} {d : D} {v : V} (a : At t W d v) (h : keyed d = true) : v = kV (toK d) := by
  cases d <;> first | (simp only [keyed] at h; cases h; done) | (simp only [At] at a; exact a)
theorem any_valV {k : Key} : ∀ kvs : List (Key × V), (kvs.map (fun p => keyD p.1)).any (fun y => eqF y (keyD k)) = (valV kvs k).isSome
  | [] => rfl
  | p :: r => by
    rw [List.map_cons, List.any_cons, any_valV r, eqF_keyD]
    by_cases e : p.1 = k
    · rw [valV_pos e]; simp [e]
    · rw [valV_neg e]; simp [e]
theorem og_din_aux (hK : X.K = c.K) {pins : List (Addr × Obj)} {σ : L2.St} {H : Hp} {s : Shared} {W : Wd} {h : Cells} {d e : D} {x y : V} {b : Bool} (r : HRel c W h H) (ax : VAt c.toTp W H d x) (ay : VAt c.toTp W H e y) (hz : gDInB d e = some b) :
    ∃ a o, y = .ref a ∧ DGet H a x o ∧ o.isSome = b := by
  cases e <;> first | (simp only [gDInB] at hz; cases hz; done) | skip
  rename_i ks vs
  cases ks with
  | nil => simp only [gDInB] at hz; cases hz
  | cons k ks =>
    simp only [gDInB] at hz
    split at hz
    · rename_i hk
      obtain ⟨h1, h2⟩ := Bool.and_eq_true_iff.mp hk
      cases hz
      simp only [VAt] at ay
      obtain ⟨a, rfl, ay⟩ := ay
      have ex : x = kV (toK d) := by
        refine at_kV (t := c.toTp) (W := W) ?_ h1
        cases d <;> first | (simp only [keyed] at h1; cases h1; done) | exact ax
      rcases ay with ⟨kvs, g, e1, al⟩ | ⟨kvs, g, e1, al⟩
      · refine ⟨a, _, rfl, .inl ⟨kvs, toK d, g, ex, rfl⟩, ?_⟩
        have := any_valV (k := toK d) kvs
        rw [keyD_toK h1, ← e1] at this
        exact this.symm
      · exfalso
        cases kvs with
        | nil => cases e1
        | cons p r =>
          rw [List.map_cons] at e1
          rw [(List.cons.inj e1).1] at h2
          simp only [keyed] at h2
          cases h2
    · cases hz
theorem og_din (hK : X.K = c.K) (hu : X.A.units + 1 < cLine) : OpR X (compareOp .In) (rV2 c gDIn) := by
  intro pins s σ H x y v u Q I rx ry ⟨W, h, d, e, z, r, ax, ay, hz, q⟩
  obtain ⟨b, e1, rfl⟩ := and_some hz
  obtain ⟨a, o, rfl, g, ob⟩ := og_din_aux (pins := pins) (σ := σ) (s := s) hK r ax ay e1
  obtain rfl : u = Value.ref a := ry
  exact d_in hu I g rx fun s3 I3 => ⟨.bl b, H, I3, by rw [ob]; rfl, q.bl r⟩
theorem og_dnotIn (hK : X.K = c.K) (hu : X.A.units + 1 < cLine) : OpR X (compareOp .NotIn) (rV2 c gDNotIn) := by
  intro pins s σ H x y v u Q I rx ry ⟨W, h, d, e, z, r, ax, ay, hz, q⟩
  obtain ⟨b, e1, rfl⟩ := andn_some hz
  obtain ⟨a, o, rfl, g, ob⟩ := og_din_aux (pins := pins) (σ := σ) (s := s) hK r ax ay e1
  obtain rfl : u = Value.ref a := ry
  exact d_notIn hu I g rx fun s3 I3 => ⟨.bl (!b), H, I3, by rw [ob]; rfl, q.bl r⟩
/-! ### written: a new key -/
def setD (h : Cells) (o i d : D) : Option Cells := match o with
  | .cel n => match h[n]? with
    | some (.dic (k :: ks) vs) => if keyed i && keyed k && decide (ks.length < 1000000) && !((k :: ks).any fun y => eqF y i) then some (h.set n (.dic ((k :: ks) ++ [i]) (vs ++ [d]))) else none
    | _ => none
  | _ => none
def sSetD (mo mi me : M D) : MS := fun ρ h => SO.of (me ρ h) fun d h1 => SO.of (mo ρ h1) fun o h2 => SO.of (mi ρ h2) fun i h3 => match setD h3 o i d with | some h4 => .nx ρ h4 | none => .stuck
@[simp] theorem sSetD_ap {ρ : DL.Env} {h : Cells} (mo mi me : M D) : sSetD mo mi me ρ h = SO.of (me ρ h) fun d h1 => SO.of (mo ρ h1) fun o h2 => SO.of (mi ρ h2) fun i h3 => match setD h3 o i d with | some h4 => .nx ρ h4 | none => .stuck := id rfl
theorem gs_setD {o i e : Expr} {pos pos' : Pos} {mo mi me : M D} (hu : X.A.units + 1 < cLine) (ho : GE X c wx o mo) (hi : GE X c wx i mi) (he : GE X c wx e me)
    (hs : swapsWith e (some (.Subscript o i pos')) pos.line X.env = pure false := by rfl) : GS X c wx (.Assign [.Subscript o i pos'] e pos) (sSetD mo mi me) :=
  PS.imp (ps_dput hu ho hi he hs) fun D σ H ⟨B, W, ρ, h, s, p⟩ => S_bind s p fun d h1 v W1 H1 x1 s1 a1 p1 => S_bind s1 p1 fun o h2 u W2 H2 x2 s2 a2 p2 => S_bind s2 p2 fun i h3 w W3 H3 x3 s3 a3 p3 => by
    cases o <;> first | exact False.elim p3 | skip
    rename_i n
    simp only [setD] at p3
    cases em : h3[n]? with
    | none => rw [em] at p3; exact False.elim p3
    | some m =>
      rw [em] at p3
      cases m with
      | lst _ => exact False.elim p3
      | ins _ _ => exact False.elim p3
      | dic ks vs =>
        cases ks with
        | nil => exact False.elim p3
        | cons k ks =>
          simp only at p3
          by_cases hb : (keyed i && keyed k && decide (ks.length < 1000000) && !((k :: ks).any fun y => eqF y i)) = true
          · rw [if_pos hb] at p3
            simp only [Bool.and_eq_true, decide_eq_true_eq, Bool.not_eq_true'] at hb
            obtain ⟨⟨⟨h1, h2⟩, h3'⟩, h4⟩ := hb
            have a2' := At.mono x3.le a2
            simp only [At] at a2'
            obtain ⟨q, rfl, hq⟩ := a2'
            obtain ⟨g, ma⟩ := s3.r.cel n _ q em hq
            have ew : w = kV (toK i) := at_kV a3 h1
            rcases ma with ⟨kvs, e1, ek, al⟩ | ⟨kvs, e1, ek, al⟩
            · have hl : kvs.length = ks.length + 1 := by
                have := congrArg List.length ek
                simpa using this.symm
              have hn : (valV kvs (toK i)).isSome = false := by
                have := any_valV (k := toK i) kvs
                rw [keyD_toK h1, ← ek] at this
                rw [← this]; exact h4
              have ep : putK kvs (toK i) v = kvs ++ [(toK i, v)] := by
                unfold putK
                rw [valV_any, hn]; rfl
              refine ⟨q, _, rfl, .inl ⟨kvs, toK i, e1, ew, by rw [hl, sizeLine_eq]; omega, rfl⟩, ?_⟩
              rw [ep]
              refine p3 W3 σ _ (s3.mutC (m' := .dic ((k :: ks) ++ [i]) (vs ++ [d])) em hq e1 trivial (.inl ⟨_, upd_same, ?_, ?_⟩))
              · rw [List.map_append, ← ek]
                simp [keyD_toK h1]
              · rw [List.map_append]
                exact AtL.append al (AtL.cons (At.mono (x2.le.trans x3.le) a1) AtL.nil)
            · exfalso
              cases kvs with
              | nil => cases ek
              | cons p r =>
                rw [List.map_cons] at ek
                rw [(List.cons.inj ek).1] at h2
                simp only [keyed] at h2
                cases h2
          · rw [if_neg hb] at p3
            exact False.elim p3
/-! ### made with one pair -/
def mNewD (mk mv : M D) : M D := fun ρ h => (mk ρ h).bind fun k h1 => (mv ρ h1).bind fun v h2 => if keyed k then .ok (.cel h2.length) (h2 ++ [.dic [k] [v]]) else .stuck
@[simp] theorem mNewD_ap {ρ : DL.Env} {h : Cells} (mk mv : M D) : mNewD mk mv ρ h = (mk ρ h).bind fun k h1 => (mv ρ h1).bind fun v h2 => if keyed k then .ok (.cel h2.length) (h2 ++ [.dic [k] [v]]) else .stuck := id rfl
theorem adopt_ext {W W2 : Wd} {H H2 : Hp} {p : Addr} {o : HO} (x : Ext W H [] W2 H2) (hp : H p = none) : Ext W H [] (W2.cell p) (upd H2 p o) where
  le := x.le.trans ⟨Same.refl _, List.prefix_append _ _⟩
  ng := fun a h1 h2 h3 => x.ng a h1 h2 h3
  ni := fun q hq => by
    rcases List.mem_append.mp (show q ∈ W2.ι ++ [p] from hq) with z | z
    · exact x.ni q z
    · rw [List.mem_singleton] at z; rw [z]; exact .inr (nt_no hp)
  fr := fun a u e h1 h2 h3 => by rw [upd_ne (ne_of_none e hp)]; exact x.fr a u e h1 h2 h3
  dom := fun a e => by
    have z : a ≠ p := fun z => e (by rw [z]; exact nt_no hp)
    have := x.dom a e
    unfold nt at this ⊢
    rw [upd_ne z]; exact this
theorem adopt_rel {W : Wd} {h : Cells} {H : Hp} {p : Addr} {o : HO} {m : MO} (r : HRel c W h H) (hp : H p = some (.dK [])) (hG : W.G p = none) (hι : p ∉ W.ι) (a : MAt c.toTp (W.cell p) (upd H p o) p m) : HRel c (W.cell p) (h ++ [m]) (upd H p o) := by
  have le : W.le (W.cell p) := ⟨Same.refl _, List.prefix_append _ _⟩
  refine ⟨fun b q e => ?_, r.dat, by show (W.ι ++ [p]).length = _; rw [List.length_append, List.length_append, r.len]; rfl, fun j m' q h1 h2 => ?_, ?_, ?_⟩
  · have z : b ≠ p := fun z => by rw [z] at e; exact absurd (hG.symm.trans e) (by simp)
    rw [upd_ne z]; exact r.sub b q e
  · have h2 : (W.ι ++ [p])[j]? = some q := h2
    by_cases hj : j < h.length
    · rw [List.getElem?_append_left hj] at h1
      rw [List.getElem?_append_left (by rw [r.len]; exact hj)] at h2
      obtain ⟨g, a'⟩ := r.cel j m' q h1 h2
      have z : q ≠ p := fun z => hι (by rw [← z]; exact List.mem_of_getElem? h2)
      exact ⟨g, a'.mono le fun w e _ => by rw [upd_ne z]; exact e⟩
    · have hj' : h.length ≤ j := by omega
      rw [List.getElem?_append_right hj'] at h1
      rw [List.getElem?_append_right (by rw [r.len]; exact hj'), r.len] at h2
      have e0 : j - h.length = 0 := by
        have := (List.getElem?_eq_some_iff.mp h1).1
        simp at this
        omega
      rw [e0] at h1 h2
      cases h1
      cases h2
      exact ⟨hG, a⟩
  · show (W.ι ++ [p]).Nodup
    rw [List.nodup_append]
    refine ⟨r.nd, by simp, fun a ha b hb => ?_⟩
    rw [List.mem_singleton] at hb
    rw [hb]
    exact fun z => hι (by rw [← z]; exact ha)
  · intro q hq
    obtain ⟨ps, h1, h2, h3⟩ := r.tab q hq
    refine ⟨ps, ?_, h2, fun pos cv hcv => ?_⟩
    · rw [upd_ne (fun z => by rw [z, hp] at h1; cases h1)]; exact h1
    · obtain ⟨ca, e1, e2⟩ := h3 pos cv hcv
      refine ⟨ca, e1, ?_⟩
      rw [upd_ne (fun z => by rw [z, hp] at e2; unfold LamX.CodeO at e2; cases e2)]
      exact e2
theorem ge_newD {k v : Expr} {pos : Pos} {mk mv : M D} (hk : GE X c wx k mk) (hv : GE X c wx v mv) : GE X c wx (.Dict [some k] [v] pos) (mNewD mk mv) :=
  PE.imp (pe_disp (pps_cons hk hv pps_nil) rfl rfl (by simp) (by simp)) fun σ H Q ⟨W, ρ, h, r, l, p⟩ q hq => by
    have x0 : Ext W H [] W (upd H q (.dK [])) := ext_free r hq
    have r0 := r.free (o := .dK []) hq
    have l0 := l.ext x0
    have nq : nt (upd H q (.dK [])) q ≠ none := nt_yes upd_same fun _ z => nomatch z
    refine ⟨W, ρ, h, r0, l0, ?_⟩
    replace p : EPost c wx W σ H (fun W _ => At c.toTp W) ((mk ρ h).bind fun k h1 => (mv ρ h1).bind fun v h2 => if keyed k then .ok (.cel h2.length) (h2 ++ [.dic [k] [v]]) else .stuck) Q := p
    cases ek : mk ρ h with
    | stuck => rw [ek] at p; exact p
    | exc x h1 => rw [ek] at p; exact fun cls dd W' H' x r a => p cls dd W' H' (x0.trans0 x) r a
    | ok k1 h1 =>
      rw [ek] at p
      intro x W1 H1 x1 r1 a1
      replace p : EPost c wx W σ H (fun W _ => At c.toTp W) ((mv ρ h1).bind fun v h2 => if keyed k1 then .ok (.cel h2.length) (h2 ++ [.dic [k1] [v]]) else .stuck) Q := p
      refine ⟨W1, ρ, h1, r1, l0.ext x1, ?_⟩
      cases ev : mv ρ h1 with
      | stuck => rw [ev] at p; exact p
      | exc x h2 => rw [ev] at p; exact fun cls dd W' H' x r a => p cls dd W' H' ((x0.trans0 x1).trans0 x) r a
      | ok v1 h2 =>
        rw [ev] at p
        intro y W2 H2 x2 r2 a2
        replace p : EPost c wx W σ H (fun W _ => At c.toTp W) (if keyed k1 then .ok (.cel h2.length) (h2 ++ [.dic [k1] [v1]]) else .stuck) Q := p
        by_cases hkk : keyed k1 = true
        · rw [if_pos hkk] at p
          have x12 := x1.trans0 x2
          have e2 : H2 q = some (.dK []) := x12.fr q _ upd_same (r.nι hq) (by simp) fun _ z => nomatch z
          have g2 : W2.G q = none := x12.ng q nq (by simp) (r.gnone hq)
          have n2 : q ∉ W2.ι := fun z => (x12.ni q z).elim (r.nι hq) nq
          refine ⟨e2, [(toK k1, y)], by rw [at_kV a1 hkk]; rfl, by simp, ?_⟩
          have em : mergeK [] [(toK k1, y)] = [(toK k1, y)] := rfl
          rw [em]
          refine p _ _ _ (adopt_ext ((x0.trans0 x1).trans0 x2) hq) (adopt_rel r2 e2 g2 n2 (.inl ⟨_, upd_same, by simp [keyD_toK hkk], ?_⟩)) ?_
          · exact AtL.mono (W := W2) (W' := W2.cell q) ⟨Same.refl _, List.prefix_append _ _⟩ (AtL.cons a2 AtL.nil)
          · simp only [At]
            refine ⟨q, rfl, ?_⟩
            show (W2.ι ++ [q])[h2.length]? = some q
            rw [← r2.len]
            simp
        · rw [if_neg hkk] at p
          exact False.elim p
end
end DM

/-! zip, range with a step, list(range), list.index, tuples turned about. -/
namespace DM
open DL PySem PySem.Spec PyProof.Rows L2 DH
section
variable {prog : Program} {w : World} {A : Around} {E : Value → Shared → Prop} {s : Shared}
theorem rev_places (n : Nat) : Builtin.Slice.sliceAdjust none none (-1) (n : Int) = ((n : Int) - 1, -1) ∧ Builtin.Slice.slicePlaces ((n : Int) - 1) (-1) (-1) = n := by
  constructor
  · first | rfl | (simp [Builtin.Slice.sliceAdjust]; done)
  · unfold Builtin.Slice.slicePlaces
    have h1 : ¬ (-1 : Int) > 0 := by omega
    simp only [h1, if_false]
    rw [show (- -1 : Int) = 1 by decide, Int.ediv_one]
    split <;> omega
theorem fm_cong {α β : Type} {f g : α → Option β} : ∀ {l : List α}, (∀ x ∈ l, f x = g x) → l.filterMap f = l.filterMap g
  | [], _ => rfl
  | x :: l, h => by
    rw [List.filterMap_cons, List.filterMap_cons, h x List.mem_cons_self, fm_cong fun y hy => h y (List.mem_cons_of_mem _ hy)]
theorem rev_pick (xs : Array Value) : ((List.range xs.size).filterMap fun (k : Nat) => xs[(((xs.size : Nat) : Int) - 1 + (k : Int) * (-1)).toNat]?) = xs.toList.reverse := by
  have e : ∀ k ∈ List.range xs.size, xs[(((xs.size : Nat) : Int) - 1 + (k : Int) * (-1)).toNat]? = xs[xs.size - 1 - k]? := fun k hk => by
    have : (((xs.size : Nat) : Int) - 1 + (k : Int) * (-1)).toNat = xs.size - 1 - k := by have := List.mem_range.mp hk; omega
    rw [this]
  rw [fm_cong e]
  have := PySem.W.krv_range xs.size
  have e2 : (List.range xs.size).filterMap (fun k => xs[xs.size - 1 - k]?) = ((List.range xs.size).map fun k => xs.size - 1 - k).filterMap (xs[·]?) := by rw [List.filterMap_map]; rfl
  rw [e2, this, List.filterMap_reverse, PySem.W.krv_all]
theorem getItem_tuple_rev {t sl : Addr} {items : Array Value} {vl vu vs : Value} {Q : Value → Shared → Prop} (ht : IsTup s.heap t items) (hs : s.heap.IsSliceOf sl vl vu vs) (pl : IsPart vl none) (pu : IsPart vu none) (ps : IsPart vs (some (-1)))
    (h : Q (.ref s.heap.objs.size) { s with heap := s.heap.push { cls := .type "tuple", data := .seq items.toList.reverse.toArray } }) (hz : items.size ≤ sizeLine) : wpAny (model prog w) A (getItem (.ref t) (.ref sl)) Q E s := by
  have hsz : sizeOk (.seq items.toList.reverse.toArray) := by
    show items.toList.reverse.toArray.size ≤ sizeLine
    rw [List.size_toArray, List.length_reverse, Array.length_toList]; exact hz
  obtain ⟨os, hos, hcs, hds⟩ := id hs
  have hTs : s.TypeIs (.ref sl) "slice" := ⟨os, hos, hcs⟩
  unfold getItem
  try with_reducible refine wpAny_holding ?_
  first | refine wpAny_bind (wpAny_pure ?_) | skip
  refine wpAny_bind (wpAny_sequenceKey ht.typeIs (by decide) (wpAny_bind (wpAny_callSpecial?_slot (name := Str.ofString "__getitem__") ht.typeIs PyProof.Rows.slot_tuple_getitem
    (wpAny_call_entry PyProof.Rows.slot_tuple_getitem ht.typeIs entry_tuple_getitem ?_ (args_tuple_getitem _ _)))))
  show wpAny _ _ (Builtin.Tuple.tupleItemsOf (.ref t) >>= _) _ _ s
  refine wpAny_bind (PyProof.Rows.tupleItemsOf_ ht (wpAny_bind (wpAny_typeOf hTs ?_)))
  rw [if_pos (by decide)]
  refine wpAny_bind ?_
  unfold Builtin.Slice.sliceApplied Builtin.Slice.sliceFields
  refine wpAny_bind (wpAny_bind (wpAny_field hos hds (x := vl) rfl (wpAny_bind (wpAny_field hos hds (x := vu) rfl (wpAny_bind (wpAny_field hos hds (x := vs) rfl (wpAny_pure ?_)))))))
  refine wpAny_bind (HT.slicePart_ ps ?_)
  show wpAny _ _ (if ((-1 : Int) == 0) = true then _ else _) _ _ s
  rw [if_neg (by decide)]
  refine wpAny_bind (HT.slicePart_ pl (wpAny_bind (HT.slicePart_ pu (wpAny_bind (wpAny_pure ?_)))))
  show wpAny _ _ (match Builtin.Slice.sliceAdjust none none (-1) (items.size : Int) with | (lo, hi) => pure (lo, (-1 : Int), Builtin.Slice.slicePlaces lo hi (-1))) _ _ s
  rw [(rev_places items.size).1]
  show wpAny _ _ (pure (((items.size : Int) - 1), (-1 : Int), Builtin.Slice.slicePlaces ((items.size : Int) - 1) (-1) (-1))) _ _ s
  rw [(rev_places items.size).2]
  refine wpAny_pure ?_
  show wpAny _ _ (if (((items.size : Int) - 1) == 0 && (-1 : Int) == 1 && items.size == items.size) = true then _ else _) _ _ s
  rw [if_neg (by simp), rev_pick]
  first
    | exact wpAny_bind (m := Builtin.Tuple.tupleExact _) (wpAny_newObj_type (wpAny_pure ⟨_, rfl, wpAny_pure h⟩) hsz)
    | exact wpAny_bind (m := Builtin.Tuple.tupleExact _) (wpAny_newObj_type (wpAny_bind (wpAny_pure (wpAny_pure ⟨_, rfl, wpAny_pure h⟩))) hsz)
    | exact wpAny_bind (wpAny_bind (m := Builtin.Tuple.tupleExact _) (wpAny_newObj_type (wpAny_pure (wpAny_pure ⟨_, rfl, wpAny_pure h⟩)) hsz))
    | exact wpAny_bind (wpAny_bind (m := Builtin.Tuple.tupleExact _) (wpAny_newObj_type (wpAny_pure ⟨_, rfl, wpAny_pure h⟩) hsz))
end
section
variable {X : Cx} {c : Cc} {wx : WX}
/-! ### xs[::-1], tuples too -/
def gRev2 : D → Option D
  | .tup ds => some (.tup ds.reverse)
  | d => gRev d
theorem ge_rev2 {e : Expr} {k : Nat} {p1 p2 p3 pos : Pos} {m : M Bv} (hK : X.K = c.K) (he : GB X c wx e m) : GE X c wx (.Subscript e (.Slice none none (some (.UnaryOp .USub (.Constant (.int 1) k p1) p2)) p3) pos) (mCallV gRev2 m) := ⟨fun pins s σ H Q I t => by
  refine Subscript_ (thn (he.run pins s σ H (fun v H1 => ∃ W h d z, HRel c W h H1 ∧ VAt c.toTp W H1 d v ∧ gRev2 d = some z ∧ KQ c W h H1 z Q) I ?_) fun v s1 ⟨x, H1, I1, r1, W, h, d, z, rr, ax, hz, q⟩ => ?_)
  · obtain ⟨W, ρ, h, r, l, p⟩ := t
    exact tG_bind r l p fun d h1 v W1 H1 x1 r1 l1 a1 p1 => by
      obtain ⟨z, e1, k⟩ := fin_ok p1
      obtain ⟨y, ey, e1⟩ := opt_bind e1
      exact ⟨W1, h1, y, z, r1, VAt.see r1 ey a1, e1, k⟩
  have hst : PO X (some (.UnaryOp .USub (.Constant (.int 1) k p1) p2)) (tPart (tUn (rU fun i => .int (-i)) (tC (.int 1)))) := po_some (pe_un un_neg pe_int)
  refine wpAny_Slice (thn (po_none.run pins s1 σ H1 (fun o H2 => o = none ∧ H2 = H1) I1 ⟨rfl, rfl⟩) fun vl s2 ⟨l, H2, I2, pl, el, e2⟩ => ?_)
  subst el e2
  refine thn (po_none.run pins s2 σ H2 (fun o H3 => o = none ∧ H3 = H2) I2 ⟨rfl, rfl⟩) fun vu s3 ⟨u, H3, I3, pu, eu, e3⟩ => ?_
  subst eu e3
  refine thn (hst.run pins s3 σ H3 (fun o H4 => o = some (-1) ∧ H4 = H3) I3 ⟨1, rfl, -1, rfl, rfl, rfl⟩) fun vs s4 ⟨o, H4, I4, ps, eo, e4⟩ => ?_
  subst eo e4
  have I5 : Inv X pins σ H4 { s4 with heap := s4.heap.push { cls := .type "slice", data := .fields #[vl, vu, vs] } } := I4.kept (t' := s4.toks) fun b ob q => Heap.get?_push_of_some _ q
  cases d <;> first | (simp only [gRev2, gRev] at hz; cases hz; done) | skip
  · rename_i a
    simp only [gRev2, gRev] at hz
    split at hz
    · rename_i hl
      cases hz
      simp only [VAt, At] at ax
      subst ax
      obtain ⟨t, rfl⟩ := r1
      obtain ⟨l, rfl, el⟩ := IsPart.raw pl
      obtain ⟨u, rfl, eu⟩ := IsPart.raw pu
      obtain ⟨w, rfl, ew⟩ := IsPart.raw ps
      have el : l = none := by cases l with | none => rfl | some _ => cases el
      have eu : u = none := by cases u with | none => rfl | some _ => cases eu
      obtain ⟨tw, ew⟩ : ∃ tw, w = some (-1, tw) := by
        cases w with
        | none => cases ew
        | some p => obtain ⟨i, tw⟩ := p; cases ew; exact ⟨tw, rfl⟩
      subst el eu ew
      refine tail_any (ops := [.str ⟨a.toArray⟩ t, .ref s4.heap.objs.size]) (typeIs_str _ _ _) (F.slot_str_getitem.lookup) ?_ (by with_unfolding_all rfl)
      refine wpAny_getItem_str_slice (l := none) (u := none) (st := some (-1, tw)) ⟨_, Heap.get?_push_size _ rfl, rfl, rfl⟩ rfl ?_
      unfold sliceMade
      rw [if_neg (by simp)]
      have e : ((slicePicked (⟨a.toArray⟩ : Str) none none (some (-1, tw))).filterMap (a.toArray[·]?)) = a.reverse := by
        rw [str_rev, List.filterMap_reverse]
        show ((List.range a.toArray.size).filterMap _).reverse = _
        rw [List.size_toArray, range_get]
      show Made.post (Made.str ⟨((slicePicked (⟨a.toArray⟩ : Str) none none (some (-1, tw))).filterMap (a.toArray[·]?)).toArray⟩) _ _
      rw [e]
      refine ⟨big_le (by simpa [Str.length] using hl), .str _, _, I5.tok _, ⟨_, rfl⟩, q.str rr⟩
    · cases hz
  · cases hz
    simp only [VAt, At] at ax
    obtain ⟨a, xs, rfl, hp, al⟩ := ax
    cases r1
    obtain ⟨its, r, ht, hz⟩ := I5.tuple (by rw [hK]; exact rr.sqT hp)
    have hlen := r.length
    refine tail_any (ops := [.ref a, .ref s4.heap.objs.size]) ht.typeIs (PyProof.Rows.slot_tuple_getitem.lookup) ?_ (by with_unfolding_all rfl)
    refine getItem_tuple_rev ht (Heap.IsSliceOf.new _ vl vu vs) pl pu ps ?_ (by rw [List.size_toArray]; omega)
    refine ⟨.ref _, _, I5.laid (t' := s4.toks) (o := .tup xs.reverse) (fun b ob q => Heap.get?_push_of_some _ q) (Nat.le_refl _) ?_, rfl, q.tup rr al.reverse (I5.hok.fresh (Nat.le_refl _))⟩
    refine ⟨by rw [List.length_reverse]; exact hz, its.reverse, r.reverse, ⟨_, Heap.get?_push_size _ rfl, rfl, 0, ?_⟩⟩
    simp
  · cases hz
    simp only [VAt] at ax
    obtain ⟨a, xs, rfl, hp, al⟩ := ax
    cases r1
    obtain ⟨its, r, ht, hz⟩ := I5.list (.inl hp)
    have hlen := r.length
    refine tail_any (ops := [.ref a, .ref s4.heap.objs.size]) ht.isList.typeIs (PySem.slot_list_getitem.lookup) ?_ (by with_unfolding_all rfl)
    refine wpAny_getItem_list_slice ht.isList (Heap.IsSliceOf.new _ vl vu vs) pl pu ps (by decide) ?_ (by rw [List.size_toArray]; omega)
    rw [PySem.W.krv_pick]
    refine ⟨.ref _, _, I5.laid (t' := s4.toks) (o := .lst xs.reverse) (fun b ob q => Heap.get?_push_of_some _ q) (Nat.le_refl _) ?_, rfl, q.lst rr al.reverse (I5.hok.fresh (Nat.le_refl _))⟩
    exact ⟨by rw [List.length_reverse]; exact hz, _, 0, r.reverse, Heap.get?_push_size _ rfl⟩⟩
/-! ### zip of two lists, of two tuples -/
def pairD (xs ys : List D) : List D := List.zipWith (fun a b => D.tup [a, b]) xs ys
def itZ2 : List D → Option (List D)
  | [.lst xs, .lst ys] => some (pairD xs ys)
  | [.tup xs, .tup ys] => some (pairD xs ys)
  | _ => none
theorem sv_zip2 {W : Wd} {J : It} {xs ys : List D} {us vs : List V} (al : AtL c.toTp W xs us) (bl : AtL c.toTp W ys vs)
    (hs : ∀ W' h H i, W.le W' → HRel c W' h H → (us.length ≤ i ∨ vs.length ≤ i) → J.stop i H)
    (hg : ∀ W' h H i u v, W.le W' → HRel c W' h H → us[i]? = some u → vs[i]? = some v → J.go i H ∧ ∀ x H2, J.yld i H x H2 → ∃ T, x = .ref T ∧ H T = none ∧ H2 = upd H T (.tup [u, v])) : Serves c J W (pairD xs ys) := fun W' h H i le r => by
  refine ⟨fun hi => hs W' h H i le r ?_, fun d hd => ?_⟩
  · rw [← al.length, ← bl.length]
    unfold pairD at hi
    rw [List.length_zipWith] at hi
    omega
  · unfold pairD at hd
    rw [List.getElem?_zipWith] at hd
    cases ex : xs[i]? with
    | none => simp [ex] at hd
    | some x =>
      cases ey : ys[i]? with
      | none => simp [ex, ey] at hd
      | some y =>
        simp only [ex, ey, Option.some.injEq] at hd
        subst hd
        obtain ⟨u, hu, au⟩ := al.get ex
        obtain ⟨v, hv, av⟩ := bl.get ey
        obtain ⟨g1, g2⟩ := hg W' h H i u v le r hu hv
        refine ⟨g1, fun z H2 yy => ?_⟩
        obtain ⟨T, rfl, hT, rfl⟩ := g2 z H2 yy
        refine ⟨_, ext_new (o := .tup [u, v]) r hT, r.new hT trivial, ?_⟩
        simp only [At]
        have le2 := le.trans (put_le (o := .tup [u, v]) (r.gnone hT))
        exact ⟨T, [u, v], rfl, .inl (.inl upd_same), AtL.cons (At.mono le2 au) (AtL.cons (At.mono le2 av) AtL.nil)⟩
theorem gi_zip2 {e e2 : Expr} {p pos tp : Pos} {es : List Expr} {kk : Nat} {m : M (List D)} (hK : X.K = c.K) (hm : X.mg "zip" = none) (ha : GA X c wx [e, e2] m) (hg : Gl X "zip" := by rfl)
    (h1 : starEach [e, e2] X.env = (false, eval e X.env) :: starEach [e2] X.env := by rfl) (h2 : (backTo pos (starEach [e2] X.env)).any (·.1) = false := by rfl) :
    GI X c wx (.Tuple es kk tp) (.Call (.Name "zip" p) [e, e2] [] pos) (mItL itZ2 m) :=
  PI.imp (RZ.pi_zipA hg hm ha h1 h2) fun σ H R t => I_bind t fun ds is h v W H e r a k => by
    cases ds with
    | nil => cases e
    | cons d ds =>
      cases ds with
      | nil => cases d <;> cases e
      | cons d2 ds =>
        cases ds with
        | cons _ _ => cases d <;> cases d2 <;> cases e
        | nil =>
          obtain ⟨v1, vs1, rfl, a1, b1⟩ := AtL.uncons a
          obtain ⟨v2, vs2, rfl, a2, b2⟩ := AtL.uncons b1
          simp only [AtL] at b2
          subst b2
          cases d <;> first | (cases e; done) | skip
          · cases d2 <;> first | (cases e; done) | skip
            rename_i xs ys
            cases e
            simp only [At] at a1 a2
            obtain ⟨pa, us, rfl, g1, al⟩ := a1
            obtain ⟨pb, vs, rfl, g2, bl⟩ := a2
            refine ⟨pa, pb, us, vs, rfl, .inr ⟨by rw [hK]; exact r.sqT g1, by rw [hK]; exact r.sqT g2, ?_⟩⟩
            rw [hK]
            refine k _ W H (Ext.refl _ _ _) r (sv_zip2 al bl (fun W' h H i le r' hi => ⟨us, vs, r'.sqT (sqT_mono le.g g1), r'.sqT (sqT_mono le.g g2), hi⟩) fun W' h H i u v le r' hu hv => ?_)
            have e1 := r'.sqT (sqT_mono le.g g1)
            have e2 := r'.sqT (sqT_mono le.g g2)
            refine ⟨⟨us, vs, u, v, e1, e2, hu, hv⟩, fun x H2 yy => ?_⟩
            obtain ⟨T, p, q, rfl, hT, rfl, y1, y2⟩ := yy
            have y1 := y1 _ e1
            have y2 := y2 _ e2
            rw [hu] at y1
            rw [hv] at y2
            cases y1
            cases y2
            exact ⟨T, rfl, hT, rfl⟩
          · cases d2 <;> first | (cases e; done) | skip
            rename_i xs ys
            cases e
            simp only [At] at a1 a2
            obtain ⟨pa, us, rfl, g1, al⟩ := a1
            obtain ⟨pb, vs, rfl, g2, bl⟩ := a2
            refine ⟨pa, pb, us, vs, rfl, .inl ⟨.inl (r.rd (.inl g1)), .inl (r.rd (.inl g2)), ?_⟩⟩
            rw [hK]
            refine k _ W H (Ext.refl _ _ _) r (sv_zip2 al bl (fun W' h H i le r' hi => ⟨us, vs, .inl (r'.rd (.inl (le.g _ _ g1))), .inl (r'.rd (.inl (le.g _ _ g2))), hi⟩) fun W' h H i u v le r' hu hv => ?_)
            have e1 : SqL c.K H pa us := .inl (r'.rd (.inl (le.g _ _ g1)))
            have e2 : SqL c.K H pb vs := .inl (r'.rd (.inl (le.g _ _ g2)))
            refine ⟨⟨us, vs, u, v, e1, e2, hu, hv⟩, fun x H2 yy => ?_⟩
            obtain ⟨T, p, q, rfl, hT, rfl, y1, y2⟩ := yy
            have y1 := y1 _ e1
            have y2 := y2 _ e2
            rw [hu] at y1
            rw [hv] at y2
            cases y1
            cases y2
            exact ⟨T, rfl, hT, rfl⟩
/-! ### range downwards -/
def dwn (i : Int) (n : Nat) : List D := (List.range n).map fun k : Nat => .int (i - (k : Int))
def itR3 : List D → Option (List D)
  | [.int i, .int j, .int k] => if k = -1 ∧ i.natAbs < 2 ^ 62 ∧ j.natAbs < 2 ^ 62 then some (dwn i (i - j).toNat) else none
  | _ => none
theorem sv_dwn {W : Wd} {i : Int} {n : Nat} : Serves c (Itc i (-1) n) W (dwn i n) := fun W' h H k le r => by
  refine ⟨fun hl => ?_, fun d hd => ?_⟩
  · unfold dwn at hl
    rw [List.length_map, List.length_range] at hl
    exact Nat.le_of_eq hl
  · unfold dwn at hd
    rw [List.getElem?_map] at hd
    by_cases hk : k < n
    · rw [List.getElem?_range hk] at hd
      cases hd
      refine ⟨hk, fun x H2 y => ?_⟩
      obtain ⟨rfl, rfl⟩ := y
      refine ⟨W', Ext.refl _ _ _, r, ?_⟩
      simp only [At]
      congr 1
      omega
    · rw [List.getElem?_eq_none (by simpa using hk)] at hd
      cases hd
theorem gi_range3 {tg a b d : Expr} {p pos : Pos} {m : M (List D)} (hm : X.mg "range" = none) (ha : GA X c wx [a, b, d] m) (hg : Gl X "range" := by rfl)
    (hs : starEach [a, b, d] X.env = (false, eval a X.env) :: starEach [b, d] X.env := by rfl) (hpl : (backTo pos (starEach [b, d] X.env)).any (·.1) = false := by rfl) :
    GI X c wx tg (.Call (.Name "range" p) [a, b, d] [] pos) (mItL itR3 m) :=
  PI.imp (pi_range3 hg hm ha hs hpl) fun σ H R t => I_bind t fun ds is h v W H e r a k => by
    match ds, e with
    | [.int i, .int j, .int s], e =>
      simp only [itR3] at e
      split at e
      · rename_i hb
        obtain ⟨rfl, hi, hj⟩ := hb
        cases e
        obtain ⟨v1, vs, rfl, a1, q1⟩ := AtL.uncons a
        obtain ⟨v2, vs, rfl, a2, q2⟩ := AtL.uncons q1
        obtain ⟨v3, vs, rfl, a3, q3⟩ := AtL.uncons q2
        simp only [AtL] at q3
        simp only [At] at a1 a2 a3
        subst a1 a2 a3 q3
        exact ⟨i, j, -1, (i - j).toNat, rfl, RgC.neg (by omega) (by omega) (by omega) (by omega), k _ W H (Ext.refl _ _ _) r sv_dwn⟩
      · cases e
/-! ### xs.index(number) -/
def idxF (x : D) : List D → Option Nat
  | [] => none
  | y :: r => if eqF y x then some 0 else (idxF x r).map (· + 1)
theorem idxF_some {x : D} : ∀ {l : List D} {j : Nat}, idxF x l = some j → (∃ y, l[j]? = some y ∧ eqF y x = true) ∧ ∀ k, k < j → ∀ y, l[k]? = some y → eqF y x = false
  | [], _, h => by cases h
  | y :: r, j, h => by
    simp only [idxF] at h
    split at h
    · rename_i e
      cases h
      exact ⟨⟨y, rfl, e⟩, fun k hk => by omega⟩
    · rename_i e
      cases ei : idxF x r with
      | none => rw [ei] at h; cases h
      | some i =>
        rw [ei] at h
        cases h
        obtain ⟨h1, h2⟩ := idxF_some ei
        refine ⟨h1, fun k hk y' hy => ?_⟩
        cases k with
        | zero => simp at hy; subst hy; simpa using e
        | succ k => exact h2 k (Nat.lt_of_succ_lt_succ hk) y' (by simpa using hy)
def gIndex : D → D → Option D
  | .lst ds, x => if flatD x && ds.all flatD then match idxF x ds with | some j => some (.int (j : Nat)) | none => none else none
  | _, _ => none
def mIndex (mo ma : M D) : M D := fun ρ h => (mo ρ h).bind fun o h1 => match o with
  | .lst ds => (ma ρ h1).bind fun x h2 => fin (gIndex (.lst ds) x) h2
  | _ => .stuck
@[simp] theorem mIndex_ap {ρ : DL.Env} {h : Cells} (mo ma : M D) : mIndex mo ma ρ h = (mo ρ h).bind fun o h1 => match o with
  | .lst ds => (ma ρ h1).bind fun x h2 => fin (gIndex (.lst ds) x) h2
  | _ => .stuck := id rfl
theorem ge_index {o e : Expr} {apos pos : Pos} {mo ma : M D} (hK : X.K = c.K) (ho : GE X c wx o mo) (ha : GE X c wx e ma)
    (hs : starEach [e] X.env = [(false, eval e X.env)] := by rfl)
    (hbase : attributeBase o "index" X.env (eval o X.env) = eval o X.env := by rfl)
    (hfew : ((backTo pos (starEach [e] X.env)).all (fun x => !x.1) && (backToKw pos (keywordEach [] X.env)).all (fun x => x.1.isSome)
      && decide ([e].length + ([] : List Keyword).length + (if ([] : List Keyword).isEmpty then 0 else 1) < 30)) = true := by rfl)
    (hline : (apos.endLine == pos.line) = true := by rfl) (hs2 : starEach [e] X.env = (false, eval e X.env) :: starEach [] X.env := by rfl) (hplain : (backTo pos (starEach [] X.env)).any (·.1) = false := by rfl) :
    GE X c wx (.Call (.Attribute o "index" apos) [e] [] pos) (mIndex mo ma) :=
  PE.imp (pe_bm PySem.F.plainAttrs_list PySem.F.slot_list_index PySem.F.type_list_index mt_index ho (pa_cons ha pa_nil hs) hbase hfew hline hs2 hplain) fun σ H Q ⟨W, ρ, h, r, l, p⟩ => tG_bind r l p fun d h1 v W1 H1 x1 r1 l1 a1 p1 => by
    cases d <;> first | exact False.elim p1 | skip
    rename_i ds
    simp only [At] at a1
    obtain ⟨q, vs, rfl, hq, al⟩ := a1
    refine ⟨.inl ⟨rfl, vs, .inl (r1.rd (.inl hq))⟩, ?_⟩
    refine tG_bind r1 l1 p1 fun x h2 u W2 H2 x2 r2 l2 a2 p2 => ?_
    obtain ⟨z, e1, k⟩ := fin_ok p2
    simp only [gIndex] at e1
    split at e1
    · rename_i hb
      obtain ⟨b1, b2⟩ := Bool.and_eq_true_iff.mp hb
      cases ei : idxF x ds with
      | none => rw [ei] at e1; cases e1
      | some j =>
        rw [ei] at e1
        cases e1
        obtain ⟨⟨y, hy, ey⟩, no⟩ := idxF_some ei
        have al2 := AtL.mono x2.le al
        obtain ⟨vy, hvy, ay⟩ := al2.get hy
        have f := List.all_eq_true.mp b2
        refine ⟨q, vs, u, j, vy, rfl, rfl, .inl (r2.rd (.inl (x2.le.g _ _ hq))), flat_at a2 b1, flat_all al2 b2, hvy, by rw [eqF_at ay a2 (f y (List.mem_of_getElem? hy)) b1]; exact ey, fun m z' hm hz => ?_, k.int r2⟩
        obtain ⟨yd, hyd⟩ : ∃ yd, ds[m]? = some yd := by
          have : m < ds.length := by rw [al2.length]; exact (List.getElem?_eq_some_iff.mp hz).1
          exact ⟨_, List.getElem?_eq_getElem this⟩
        obtain ⟨vz, hvz, az⟩ := al2.get hyd
        rw [hz] at hvz
        cases hvz
        rw [eqF_at az a2 (f yd (List.mem_of_getElem? hyd)) b1]
        exact no m hm yd hyd
    · cases e1
end
end DM

/-! An own exception over ValueError whose __init__ is: super().__init__(m); self.f = x. -/
namespace TmX
open PySem PySem.Spec PySem.W PySem.Calls PyProof.Rows L2
section
variable {prog : Program} {w : World} {A : Around} {E : Value → Shared → Prop} {h : Heap} {g : Array GenState} {d : Drawn} {t : Nat} {os : OsState}
/-- the bound ValueError.__init__ is called -/
theorem call_mw {nm q : Str} {C N u e t0 : Addr} {bs bm : List Value} {hdct : Bool} {sn : List Str} {sub : List Value} {ab : Bool} {col : Option Bool} {dd : Option Addr} {k0 k1 k2 k3 k5 : Option Value} {rest : List Value} {Q : Value → Shared → Prop}
    (hC : h.get? C = some (excClassObj nm q C N bs bm hdct sn sub ab col dd k0 k1 k2 k3 k5 "ValueError.__new__")) (he : h.get? e = some (HandSPX.excO C t0)) (hu : h.get? u = some (kxs_mw "ValueError.__init__" e)) (hz : rest.length ≤ sizeLine)
    (hq : ∀ h' t1, (∀ b o, b ≠ e → h.get? b = some o → h'.get? b = some o) → h'.get? e = some (HandSPX.excO C t1) → Q .none ⟨h', g, d, t, os⟩) :
    wpAny (model prog w) A (call (.ref u) rest) Q E ⟨h, g, d, t, os⟩ := by
  refine wpAny_call (codeAny_of_tree ?_); show wpAny _ A.in1 (callAny (.ref u) ⟨rest, []⟩) _ _ _
  simp only [callAny]; refine wpAny_bind (wpAny_load hu ?_)
  simp only [kxs_mw, show (Value.type "method-wrapper" == Value.type "method" || Value.type "method-wrapper" == Value.type "builtin_function_or_method" || Value.type "method-wrapper" == Value.type "method-wrapper") = true by decide, if_true]
  refine W.KFB.if_so (by decide) (wpAny_bind (ESX.check_bound F.excBase_ValueError hC he rfl (wpAny_bind (wpAny_pure (wpAny_pure ⟨Code.quiet_builtin _ (by decide +kernel), codeAny_builtin F.excBase_ValueError.initEntry ?_⟩)))))
  rw [Around.under_plainId F.excBase_ValueError.init.plain _]
  wp_walk
  refine hq _ h.objs.size (fun b o hb ho => (Heap.get?_update_other _ _ (Ne.symm hb)).trans (Heap.get?_push_of_some _ ho)) ?_
  rw [Heap.get?_update_self _ (Heap.get?_push_of_some _ he) rfl]; rfl
end
/-! ### the context: the frame holds the cell __class__ -/
section
variable {CX : CXT} {P : Program} {w : World} {K : PySem.W.Frag} {mg : Str → Option Value} {base : Heap} {qual : Str} {scope : Scope} {f cc : Addr} {cdv : Value} {A : Around} {outer : List PySem.Env} {s : Shared} {H : Hp} {E : XK}
def cxT (CX : CXT) (P : Program) (w : World) (K : PySem.W.Frag) (mg : Str → Option Value) (base : Heap) (N : List Str) (qual : Str) (scope : Scope) (f cc : Addr) (cdv : Value) (A : Around) (outer : List PySem.Env) (s : Shared) (H : Hp) (E : XK) : Cx where
  prog := P
  w := w
  K := K
  mg := mg
  base := base
  A := A.deeper (ksEnv qual scope s.heap.objs.size f cdv cc)
  N := N
  s_0 := s
  H_0 := H
  env := ksEnv qual scope s.heap.objs.size f cdv cc
  outer := outer
  stack := ksEnv qual scope s.heap.objs.size f cdv cc :: outer
  ex := []
  calm := true
  fn := fun _ => false
  pn := []
  xe := fun e s' => wpAny (model P w) (A.deeper (ksEnv qual scope s.heap.objs.size f cdv cc)) (leaving (ksEnv qual scope s.heap.objs.size f cdv cc) e) (fun _ s'' => CX outer H s E e s'') (fun e' s'' => CX outer H s E e' s'') s'
/-- what the scope of __init__(self, f) is -/
structure ScT (a b : Str) (scope : Scope) : Prop where
  kind : scope.kind = .function
  ne : a ≠ b
  la : scope.names.lookup a = some .local
  lb : scope.names.lookup b = some .local
  sup : scope.names.lookup ("super" : Str) = some .globalImplicit
  cls : scope.names.lookup ("__class__" : Str) = some .free
  noc : ∀ x ∈ scope.names, x.2 ≠ .cell
  only : ∀ x, (scope.names.lookup x = some .cell ∨ scope.names.lookup x = some .free) → x = "__class__"
theorem startT {a b : Str} {us : List Value} {x y : V} {h₀ : Heap} {tk : Nat} {cl : Value} {cld : Option Addr} {o : Option Value} {csl : Array (Option Value)} (S : ScT a b scope) (hd : A.handled = none) (e0 : Env0 P w K mg base A outer s H) (r : Vals [x, y] us)
    (hcell : K.lookup cc = some ⟨cl, cld, .cell o, csl⟩) (ns : h₀.Ns s.heap.objs.size (fun z => ([a, b].zip us).reverse.lookup z)) (hk : ∀ b o, s.heap.get? b = some o → h₀.get? b = some o) :
    Inv (cxT CX P w K mg base [a, b] qual scope f cc cdv A outer s H E) [] [some x, some y] H { s with heap := h₀, toks := tk } := by
  have bcc : base.get? cc = some ⟨cl, cld, .cell o, csl⟩ := e0.mod.kin _ _ hcell
  have one : ∀ z c, (cxT CX P w K mg base [a, b] qual scope f cc cdv A outer s H E).env.cells.lookup z = some c → z = "__class__" ∧ c = cc := fun z c h => by
    have h : (match z == ("__class__" : Str) with | true => some cc | false => none) = some c := h
    cases q : z == ("__class__" : Str) with
    | true => rw [q] at h; exact ⟨eq_of_beq q, (Option.some.inj h).symm⟩
    | false => rw [q] at h; cases h
  have noA : ∀ p : Addr, p ∉ (cxT CX P w K mg base [a, b] qual scope f cc cdv A outer s H E).ex := fun p z => absurd (show p ∈ ([] : List Addr) from z) (by simp)
  obtain ⟨u1, u2, rfl, r1, r2⟩ : ∃ u1 u2, us = [u1, u2] ∧ RelV x u1 ∧ RelV y u2 := by
    cases r with
    | cons r1 rr =>
      cases rr with
      | cons r2 rr =>
        cases rr
        exact ⟨_, _, rfl, r1, r2⟩
  have hz : ([a, b].zip [u1, u2]).reverse = [(b, u2), (a, u1)] := rfl
  have na : (a == b) = false := by simpa using S.ne
  refine ⟨⟨e0.mod, S.kind, rfl, rfl, Nat.le_refl _, fun y z c h1 h2 => (one y c h1).1.trans (one z c h2).1.symm, fun z hz => ⟨cc, ?_⟩, fun y c h _ => Bool.noConfusion (show false = true from h), fun _ => hd, Around.frames_deeper e0.frames, .inr ⟨rfl, rfl⟩, fun p z => absurd z (noA p), e0.bs, e0.bsz, fun p _ _ => noA p, fun p z => absurd z (noA p), e0.funs, e0.frf⟩,
    rfl, e0.bare, Un.kept hk, ⟨_, ns, fun i z v h1 h2 h3 => ?_⟩, fun z c h => ?_, e0.hok.fresh (Nat.le_refl _), fun z c h => ?_, fun p hp => absurd (show p ∈ ([] : List (Addr × Obj)) from hp) (by simp), e0.hok.kept hk, rfl⟩
  · rw [S.only z hz]; rfl
  · match i, h1, h2 with
    | 0, h1, h2 =>
      cases h1; cases h2
      refine ⟨u1, r1, .inl ⟨S.la, ?_⟩⟩
      rw [hz]
      show (match a == b with | true => some u2 | false => (match a == a with | true => some u1 | false => none)) = some u1
      rw [na, beq_self_eq_true]
    | 1, h1, h2 =>
      cases h1; cases h2
      refine ⟨u2, r2, .inl ⟨S.lb, ?_⟩⟩
      rw [hz]
      show (match b == b with | true => some u2 | false => _) = some u2
      rw [beq_self_eq_true]
  · rw [(one z c h).2]
    exact ⟨_, _, hk _ _ (e0.bs _ _ bcc).1, rfl⟩
  · rw [(one z c h).2]
    exact (e0.bs _ _ bcc).2
/-- what the written part says of the class and of its __init__ -/
structure TmC (P : Program) (K : PySem.W.Frag) (mg : Str → Option Value) (C f cc : Addr) (name qual : Str) (params : Arguments) (body : List Stmt) (scope : Scope) (a : Str) (cdv : Value) : Prop where
  T : OexC K C
  lk : ∃ oc od dV kV doc pm an ct osl, K.lookup f = some ⟨oc, od, .func (ksFn name qual params body scope dV kV doc pm an cdv ct cc), osl⟩
  hcd : PySem.W.codeIn K cdv qual = true
  code : ∃ cda ccl cdd vs ccs file tf, cdv = .ref cda ∧ K.lookup cda = some ⟨ccl, cdd, .fields vs, ccs⟩ ∧ vs[2]? = some (.str file tf) ∧ ((P.main.file : Str) == file) = true
  cell : ∃ cl cld csl, K.lookup cc = some ⟨cl, cld, .cell (some (.ref C)), csl⟩
  cd : ∃ cd, clsIn K C = some cd
  mro : mroIn K C (.ref C) = some true
  up : ks_superIn K C C "__init__" = some (some (.builtin "ValueError.__init__"))
  sub : subIn K (.ref C) (.type "ValueError") = some true
  ho : nsIn K cStatics "thirdparty.any" = some none
  sup : mg "super" = none
  top : (P.main.scope.names.lookup ("super" : Str)).isSome = false
  par : ∃ ar, (params.posonlyargs ++ params.args).head? = some ar ∧ ar.arg = a
theorem boot_super : bootBuiltins "super" = some (.type "super") := by first | rfl | kernel_rfl
theorem super_st {a b name msg : Str} {params : Arguments} {body : List Stmt} {C e : Addr} {k : Nat} {p0 p1 p2 p3 p4 p5 : Pos} {pins : List (Addr × Obj)} {y : V} {H' : Hp} {s' : Shared} {Er : Value → Shared → Prop} (S : ScT a b scope) (Tc : TmC P K mg C f cc name qual params body scope a cdv)
    (I : Inv (cxT CX P w K mg base [a, b] qual scope f cc cdv A outer s H E) pins [some (.ref e), some y] H' s') (he : H' e = some (exo e C none)) {pl : Sem Bool}
    (hev : ∀ env : PySem.Env, eval (.Call (.Attribute (.Call (.Name "super" p0) [] [] p1) "__init__" p2) [.Constant (.str msg) k p3] [] p4) env = (do
      let ov ← attributeBase (.Call (.Name "super" p0) [] [] p1) "__init__" env (eval (.Call (.Name "super" p0) [] [] p1) env)
      standAt p2.atName
      let (f, first) ← holding [ov] (getMethod ov "__init__" pl)
      callWith p4 f first (backTo p4 (starEach [.Constant (.str msg) k p3] env)) []))
    (hsw : ∀ env : PySem.Env, swapsWith (.Call (.Attribute (.Call (.Name "super" p0) [] [] p1) "__init__" p2) [.Constant (.str msg) k p3] [] p4) none p5.line env = pure false) :
    _root_.PySem.wpAt (model P w) (cxT CX P w K mg base [a, b] qual scope f cc cdv A outer s H E).A (.func body (cxT CX P w K mg base [a, b] qual scope f cc cdv A outer s H E).env)
      (exec (.Expr (.Call (.Attribute (.Call (.Name "super" p0) [] [] p1) "__init__" p2) [.Constant (.str msg) k p3] [] p4) p5) (cxT CX P w K mg base [a, b] qual scope f cc cdv A outer s H E).env)
      (fun fl s2 => fl = .next ∧ Inv (cxT CX P w K mg base [a, b] qual scope f cc cdv A outer s H E) pins [some (.ref e), some y] H' s2) Er s' := by
  obtain ⟨oc, od, dV, kV, doc, pm, an, ct, osl, lk⟩ := Tc.lk
  obtain ⟨cda, ccl, cdd, vs, ccs, file, tf, rfl, lcode, hvs, hfile⟩ := Tc.code
  obtain ⟨cl, cld, csl, lcell⟩ := Tc.cell
  obtain ⟨cd, hcd⟩ := Tc.cd
  obtain ⟨ar, har, hara⟩ := Tc.par
  obtain ⟨nm, q, N, bs, bm, sn, sub, ab, col, dd, k0, k1, k2, k3, k5, lC, hbm⟩ := Tc.T.cls
  obtain ⟨t1, ho⟩ := exo_at I.hok he
  obtain ⟨m, hn, hl⟩ := I.loc
  have hm : m a = some (.ref e) := by
    obtain ⟨u, ru, hu⟩ := hl 0 a (.ref e) rfl rfl (.inl S.la)
    obtain rfl : u = .ref e := ru
    rcases hu with ⟨_, h⟩ | ⟨h, _⟩
    · exact h
    · have e1 : (cxT CX P w K mg base [a, b] qual scope f cc (.ref cda) A outer s H E).env.kindOf a = some .local := S.la
      rw [e1] at h
      rcases h with h | h <;> cases h
  obtain ⟨mb, hb1, hb2⟩ := I.mod.blt
  have hglob := I.mod.glob.keeps I.bk
  have hblt := hb1.keeps I.bk
  have KX : K.In s'.heap := I.kIn
  have hquiet := I.quiet
  obtain ⟨hh, g, d, t, os⟩ := s'
  obtain ⟨oD, hD1, hD2⟩ : ∃ oD, hh.get? C = some oD ∧ oD.data = .cls cd := by
    unfold clsIn at hcd
    split at hcd
    · rename_i c d cd' sl lo
      cases hcd
      exact ⟨_, KX _ _ lo, rfl⟩
    · cases hcd
  refine ks_wpAt_Expr_any (ks_wpAt_MethodCall ?_ (hev _)) hquiet (hsw _)
  refine ks_wpAt_super_base S.sup S.cls (by decide) rfl (KX _ _ lk) rfl har rfl (KX _ _ lcode) rfl hvs hfile Tc.top ?_
  refine ks_loadName_global S.kind S.sup (Calls.loadGlobal_builtin hglob Tc.sup hblt ((hb2 "super" (by decide)).trans boot_super) ⟨rfl, ?_⟩)
  refine wpAny_loadName_free S.kind S.cls rfl ⟨_, KX _ _ lcell, rfl⟩ ?_
  rw [hara]
  refine wpAny_loadName_local S.kind S.la hn hm ?_
  refine ks_wpAny_isType_cls hD1 hD2 ⟨rfl, ?_⟩
  refine ks_wpAny_call_super hD1 hD2 ho rfl (fun c z => by cases z) (looks_mroIn KX Tc.mro) fun h1 e1 kp1 => ?_
  have KX1 : K.In h1 := KX.keeps kp1
  have ho1 := kp1 _ _ ho
  have I1 : InstAt h1 e (HandSPX.excO C t1) C none := ⟨ho1, rfl, rfl, trivial⟩
  have hup := Tc.up
  unfold ks_superIn at hup
  rw [hcd] at hup
  refine kxs_getMethod kxs_ValueError e1 (looks_opaque KX1 Tc.ho) (l₀ := cd.mro) (fun A Q E s kk q => wpAny_bind ((looks_clsIn KX1 hcd) A _ E s kk (wpAny_pure q))) rfl KX1 hup (I1.type.andThen (looks_subIn KX1 Tc.sub)) (ks_ne KX1 I1 hcd) rfl ?_
  refine kxs_callWith (i := "ValueError.__init__") (x := e) rfl (evalArgs_plain ?_)
  refine PyProof.Rows.args_cons (wpAny_Constant_str (PyProof.Rows.args_nil ?_)) rfl
  have hu : (h1.push (kxs_mw "ValueError.__init__" e)).get? h1.objs.size = some (kxs_mw "ValueError.__init__" e) := Heap.get?_push_size _ rfl
  refine ⟨hu, ?_⟩
  refine call_mw (Heap.get?_push_of_some _ (KX1 _ _ lC)) (Heap.get?_push_of_some _ ho1) hu (by rw [sizeLine_eq]; simp) fun h2 t2 kp2 hx2 => ⟨rfl, ?_⟩
  have J0 : Inv (cxT CX P w K mg base [a, b] qual scope f cc (.ref cda) A outer s H E) pins [some (.ref e), some y] H' ⟨h1.push (kxs_mw "ValueError.__init__" e), g, d, t, os⟩ := I.kept (t' := t) fun b u z => Heap.get?_push_of_some _ (kp1 b u z)
  have J := J0.write (t' := t) (x := e) (e := e) (o := exo e C none) (by rw [he]; exact True.intro) (.inl rfl) kp2 ⟨_, hx2⟩ (exo_ok hx2)
  have eu : upd H' e (exo e C none) = H' := by
    funext p
    by_cases hp : p = e
    · rw [hp, upd_same, he]
    · rw [upd_ne hp]
  rw [eu] at J
  exact J.tok _
/-- self.f = y on an exception of C that has no dict yet -/
def spT (C : Addr) (fld : Str) : Sp := fun vs H Q _ => ∃ (e : Addr) (y : V), vs = [.ref e, y] ∧ H e = some (exo e C none) ∧ ∀ dx, H dx = none → dx ≠ e → Q .non (upd (upd H dx (exd dx [(fld, y)])) e (exo e C (some dx)))
theorem fn_T {k : Nat} {a b name fld msg : Str} {params : Arguments} {C : Addr} {j : Nat} {p0 p1 p2 p3 p4 p5 pa pb p' pos : Pos} {fd : FuncData} {pl : Sem Bool}
    (S : ScT a b scope) (hco : scope.isCoroutine = false) (hgen : scope.isGenerator = false)
    (Tc : TmC P K mg C f cc name qual params [.Expr (.Call (.Attribute (.Call (.Name "super" p0) [] [] p1) "__init__" p2) [.Constant (.str msg) j p3] [] p4) p5, .Assign [.Attribute (.Name a pa) fld p'] (.Name b pb) pos] scope a cdv)
    (hfd : ∃ oc od osl, K.lookup f = some ⟨oc, od, .func fd, osl⟩) (hno : PySem.W.findIn K (.ref C) fld = some none)
    (hda : (a == ("__debug__" : Str)) = false) (hdb : (b == ("__debug__" : Str)) = false) (hca : (a == ("__classdict__" : Str)) = false) (hcb : (b == ("__classdict__" : Str)) = false)
    (hev : ∀ env : PySem.Env, eval (.Call (.Attribute (.Call (.Name "super" p0) [] [] p1) "__init__" p2) [.Constant (.str msg) j p3] [] p4) env = (do
      let ov ← attributeBase (.Call (.Name "super" p0) [] [] p1) "__init__" env (eval (.Call (.Name "super" p0) [] [] p1) env)
      standAt p2.atName
      let (f, first) ← holding [ov] (getMethod ov "__init__" pl)
      callWith p4 f first (backTo p4 (starEach [.Constant (.str msg) j p3] env)) []))
    (hsw : ∀ env : PySem.Env, swapsWith (.Call (.Attribute (.Call (.Name "super" p0) [] [] p1) "__init__" p2) [.Constant (.str msg) j p3] [] p4) none p5.line env = pure false)
    (hsw2 : ∀ env : PySem.Env, swapsWith (.Name b pb) (some (.Attribute (.Name a pa) fld p')) pos.line env = pure false) :
    FnOk P w K mg base CX (k + 1) f fd [a, b] (spT C fld) := by
  obtain ⟨oc, od, dV, kV, doc, pm, an, ct, osl, lk⟩ := Tc.lk
  obtain ⟨oc2, od2, osl2, lk2⟩ := hfd
  rw [lk] at lk2
  cases lk2
  obtain ⟨cl, cld, csl, lcell⟩ := Tc.cell
  refine ⟨fun vs H Q E ⟨e, y, h, _⟩ => by rw [h]; rfl, fun A outer s H args us vs Q E hr e0 hb r hsp => ?_⟩
  obtain ⟨e, y, rfl, he, hq⟩ := hsp
  have KX : K.In s.heap := e0.mod.kin.keeps fun b o e => (e0.bs b o e).1
  have lim : s.heap.NoLimit := e0.mod.nolimit.keeps fun b o e => (e0.bs b o e).1
  refine ks_codeAny_call_defAt (body := [.Expr (.Call (.Attribute (.Call (.Name "super" p0) [] [] p1) "__init__" p2) [.Constant (.str msg) j p3] [] p4) p5, .Assign [.Attribute (.Name a pa) fld p'] (.Name b pb) pos]) (binds := [a, b].zip us)
    (Nat.lt_of_le_of_lt (by omega) hr.dp) (KX _ _ lk) rfl lim (PySem.W.codeRec_of KX Tc.hcd) rfl hb (fun x hx z => ?_) (fun x hx => ?_) (fun h₀ ns hk => ?_) hco hgen S.kind
  · exact S.noc x hx z
  · have := (List.of_mem_zip hx).1
    rcases List.mem_cons.mp this with q | q
    · rw [q]; exact S.la
    · rw [List.mem_singleton.mp q]; exact S.lb
  have I : Inv (cxT CX P w K mg base [a, b] qual scope f cc cdv A outer s H E) [] [some (.ref e), some y] H { s with heap := h₀, toks := s.toks + ([a, b].zip us).length } := startT S hr.hd e0 r lcell ns hk
  refine ks_wpAt_execs_cons (ks_wpAt_mono (super_st S Tc I he hev hsw) (fun fl s2 hs => ?_) fun _ _ z => z)
  obtain ⟨rfl, J⟩ := hs
  have hps := pss_one (X := cxT CX P w K mg base [a, b] qual scope f cc cdv A outer s H E) (ps_ost (f := fld) (p' := p') (pos := pos) (pe_var (i := 0) (pos := pa) rfl (.inl S.la) hda hca) (pe_var (i := 1) (pos := pb) rfl (.inl S.lb) hdb hcb) (hsw2 _))
  refine wpAt_of_wpAny (wpAny_mono (hps.run [] s2 _ H { nx := fun _ H' => Q .non H', rt := Q } J ⟨y, rfl, .ref e, rfl, e, C, rfl, Tc.T, hno, .inl ⟨he, hq⟩⟩) (fun fl s3 hs => ?_) fun _ _ z => z)
  have fin : ∀ {σ' : L2.St} {H' : Hp} {v : V} {u : Value}, Inv (cxT CX P w K mg base [a, b] qual scope f cc cdv A outer s H E) [] σ' H' s3 → RelV v u → Q v H' → CE outer P w H s Q u s3 :=
    fun {σ' H' v u} J rv q => ⟨v, H', J.os, J.bare, J.base, J.hok, rv, q⟩
  cases fl with
  | ret u =>
    obtain ⟨v, σ', H', J, rv, q⟩ := hs
    exact fin J rv q
  | next =>
    obtain ⟨σ', H', J, q⟩ := hs
    exact fin (v := V.non) (u := Value.none) J rfl q
  | brk =>
    obtain ⟨_, _, _, q⟩ := hs
    exact False.elim q
  | cont =>
    obtain ⟨_, _, _, q⟩ := hs
    exact False.elim q
end
end TmX
namespace TmX
open PySem PySem.Spec PySem.W PySem.Calls PyProof.Rows L2 DL DM DH
/-- what is left of the class: its __init__ does as spT says -/
structure TooK (P : Program) (w : World) (K : PySem.W.Frag) (mg : Str → Option Value) (base : Heap) (C : Addr) : Prop where
  T : OexC K C
  ex : ∃ fI fd, PySem.W.findIn K (.ref C) "__init__" = some (some (.ref fI)) ∧ PySem.W.typeIn K (.ref fI) = some (.type "function") ∧ FnOk P w K mg base (L2N.CX P w) 1 fI fd ["self", "limit"] (spT C "limit") ∧ Binds K fd ["self", "limit"] []
section
variable {X : Cx} {c : Cc} {wx : WX} {e : Expr} {ta : TE} {x : Str} {p pos pos2 : Pos} {C : Addr}
theorem pmk_T (Tk : TooK X.prog X.w X.K X.mg X.base C) (hr : Room 2 X.A) (tk : L2N.Takes X wx) (hg : Gl X x) (hm : X.mg x = some (.ref C)) (ha : PE X e ta)
    (hdb : (x == ("__debug__" : Str)) = false := by decide) (he : starEach [e] X.env = (false, eval e X.env) :: starEach [] X.env := by rfl) (hpl : (backTo pos (starEach [] X.env)).any (·.1) = false := by rfl) :
    L2N.PMk X (.Call (.Name x p) [e] [] pos) (fun σ H Q => ta σ H fun v H1 => ∀ d, H1 d = none → Q (.ref C) (some d) (upd H1 d (.xd [("limit", v)]))) := by
  intro pins s σ H Q I h
  obtain ⟨fI, fd, iC, tI, F1, hb⟩ := Tk.ex
  obtain ⟨nm, q, N, bs, bm, sn, sub, ab, col, dd, k0, k1, k2, k3, k5, hC, hbm⟩ := Tk.T.cls
  refine wpAny_Call_Name_kw (ld_glob I hg hm ?_ hdb)
  have hpa : PA X [e] (tCons ta tNil) := pa_cons ha pa_nil he
  refine PySem.W.callWith_K (h₀ := X.base) I.ok.mod.kin Tk.T.kC (thn (hpa.run pos pins s σ H (fun vs H1 => match vs with | [v] => ∀ d, H1 d = none → Q (.ref C) (some d) (upd H1 d (.xd [("limit", v)])) | _ => False) I h) fun us s1 ⟨vs, H1, I1, r1, q0⟩ => ⟨I1.kIn, ?_⟩) he hpl
  obtain ⟨v, rfl, q1⟩ : ∃ v, vs = [v] ∧ ∀ d, H1 d = none → Q (.ref C) (some d) (upd H1 d (.xd [("limit", v)])) := by
    match vs, q0 with
    | [v], q0 => exact ⟨v, rfl, q0⟩
  show wpAny _ _ (call (.ref C) us) _ _ _
  obtain ⟨hp, g, dr, t0, os⟩ := s1
  have hsz : hp.objs.size ≤ hp.objs.size + 1 := Nat.le_succ _
  have hn : H1 (hp.objs.size + 1) = none := I1.hok.fresh hsz
  have kk : ∀ b o, hp.get? b = some o → ((hp.push (PySem.W.kdv_tup us)).push (PySem.HandSPX.excO C hp.objs.size)).get? b = some o := fun b o z => Heap.get?_push_of_some _ (Heap.get?_push_of_some _ z)
  have hget : ((hp.push (PySem.W.kdv_tup us)).push (PySem.HandSPX.excO C hp.objs.size)).get? (hp.objs.size + 1) = some (PySem.HandSPX.excO C hp.objs.size) := by heap_get
  have I2 : Inv X pins σ (upd H1 (hp.objs.size + 1) (exo (hp.objs.size + 1) C none)) ⟨(hp.push (PySem.W.kdv_tup us)).push (PySem.HandSPX.excO C hp.objs.size), g, dr, t0, os⟩ := I1.laid (t' := t0) kk hsz (exo_ok hget)
  have hul : us.length = 1 := (Paired.length r1).symm
  have r2 : Vals (V.ref (hp.objs.size + 1) :: [v]) (Value.ref (hp.objs.size + 1) :: us) := .cons rfl r1
  have hsp : spT C "limit" [.ref (hp.objs.size + 1), v] (upd H1 (hp.objs.size + 1) (exo (hp.objs.size + 1) C none))
      (fun u H2 => u = .non ∧ ∃ d, d ≠ hp.objs.size + 1 ∧ H1 d = none ∧ H2 = upd (upd (upd H1 (hp.objs.size + 1) (exo (hp.objs.size + 1) C none)) d (exd d [("limit", v)])) (hp.objs.size + 1) (exo (hp.objs.size + 1) C (some d))) (fun _ _ _ => False) :=
    ⟨_, v, rfl, upd_same, fun dx hd hne => ⟨rfl, dx, hne, by rw [upd_ne hne] at hd; exact hd, rfl⟩⟩
  have hlen : (Value.ref (hp.objs.size + 1) :: us ++ []).length = ["self", "limit"].length := by simp [hul]
  have hb2 := hb _ (Value.ref (hp.objs.size + 1) :: us) I2.kIn hlen
  rw [List.append_nil] at hb2
  refine wpAny_call (PySem.HandSPX.call_own F.excBase_ValueError (fun Y => PySem.HandSPX.refsVE_contains Y bm hbm) (I1.kIn _ _ hC) (PySem.W.looks_findIn I1.kIn iC) (fun self => PySem.W.bind_fn I1.kIn self tI) (by rw [hul, sizeLine_eq]; omega)
    (codeAny_mono (F1.run _ X.stack _ _ ⟨Value.ref (hp.objs.size + 1) :: us, []⟩ (Value.ref (hp.objs.size + 1) :: us) _ _ (fun _ _ _ => False) (hr.make C us []) (I2.env0.make C us []) hb2 r2 hsp) fun r s' hq' => ?_))
  cases r with
  | error er => exact tk er s' (L2N.XE.of_call I2 (fun _ _ _ z => False.elim z) hq')
  | ok fl =>
    cases fl with
    | ret u =>
      obtain ⟨v', H2, os2, bare2, un2, hok2, rv, ev, d, hne, hd1, eH⟩ := hq'
      subst ev
      have hne' : hp.objs.size + 1 ≠ d := Ne.symm hne
      have ea : H2 (hp.objs.size + 1) = some (exo (hp.objs.size + 1) C (some d)) := by rw [eH, upd_same]
      have ed : H2 d = some (exd d [("limit", v)]) := by rw [eH, upd_ne hne, upd_same]
      obtain ⟨h2, g2, d2, t2, os'⟩ := s'
      obtain ⟨t1, G, J, kG, ge, hoe, na⟩ := mk_end0 (d2 := d2) (t2 := t2) I1 hsz kk un2 hok2 os2 bare2 ea ed hd1
      have e3 : upd (L2.del H2 (hp.objs.size + 1)) d (.xd [("limit", v)]) = upd H1 d (.xd [("limit", v)]) := by
        funext b
        by_cases hbd : b = d
        · rw [hbd, upd_same, upd_same]
        · rw [upd_ne hbd, upd_ne hbd]
          by_cases hba : b = hp.objs.size + 1
          · rw [hba, L2.del_same, hn]
          · rw [L2.del_ne hba, eH, upd_ne hba, upd_ne hbd, upd_ne hba]
      refine ⟨rv, ?_⟩
      exact ⟨_, _, _, ⟨G, g2, d2, t2, os'⟩, _, .ref C, some d, rfl, J, kG, ge, hoe, ⟨rfl, rfl, fun vs z => by cases z; rfl⟩, rfl, rfl, na, rfl, bare2, raises_own Tk.T.exC Tk.T.tyC, by rw [e3]; exact q1 d hd1⟩
    | next => exact False.elim hq'
    | brk => exact False.elim hq'
    | cont => exact False.elim hq'
end
end TmX

/-! isinstance of a caught error that may have a dict. -/
namespace TmX
open PySem PySem.Spec PySem.W PySem.Calls PyProof.Rows L2
section
variable {prog : Program} {w : World} {A : Around} {E : Value → Shared → Prop} {s : Shared} {K : Frag} {x D : Addr} {ox : Obj} {od : Option Obj}
theorem findObj_dG {C : Addr} {name : Str} {a g : Value} (hc : (clsIn K C).isSome = true) (ha : findIn K (.ref C) name = some (some a)) (hg : specialIn K a "__get__" = some (some g)) (ht : takesIn K a = some true) : findObj K C od name = some (.bind g a) := by
  cases od with
  | none => exact findObj_dataN hc ha hg ht
  | some o => exact findObj_data hc ha hg ht
theorem class_isSome (C : ExcC K D) : (clsIn K D).isSome = true := by
  obtain ⟨cd, hc, _⟩ := any_some C.hd
  rw [hc]; rfl
/-- x.__class__ -/
theorem cls_of {Q : Option Value → Shared → Prop} (C : ExcC K D) (X : K.In s.heap) (I : InstAt s.heap x ox D od) (h : Q (some (.ref D)) { s with toks := s.toks + 1 }) : wpAny (model prog w) A (getAttr? (.ref x) "__class__") Q E s := by
  have hf : findObj K D od "__class__" = some (.bind (.builtin "getset_descriptor.__get__") (.builtin "object.__class__")) := findObj_dG (class_isSome C) C.ha C.hn C.ht
  obtain ⟨hp, g, d, t, os⟩ := s
  have lt := I.type (M := model prog w); have lg := looks_findIn (M := model prog w) X C.hg; have lk := looks_findIn (M := model prog w) X C.hk; have lf := looks_find (M := model prog w) X I hf
  have lb : Looks (model prog w) hp (isInstance (.ref x) (.type "BaseException")) true := lt.andThen (looks_subIn X C.hs)
  have n2 : (Value.builtin "BaseException.__getattribute__" == Value.builtin "object.__getattribute__") = false := by decide +kernel
  have n1 : (onTheHeap (Value.ref D) && Value.builtin "BaseException.__getattribute__" == Value.builtin "object.__getattribute__") = false := by rw [n2]; rfl
  unfold getAttr? getAttrBy? getAttrBy; refine wpAny_bind (wpAny_mkText (wpAny_bind (wpAny_attempt (wpAny_holding (wpAny_bind (lt.at (wpAny_bind (lg.at ?_))))))))
  show wpAny _ _ (if (onTheHeap (Value.ref D) && Value.builtin "BaseException.__getattribute__" == Value.builtin "object.__getattribute__") = true then _ else _) _ _ _
  rw [n1, if_neg Bool.false_ne_true]; unfold getAttrByItsOwn hookBefore; refine wpAny_bind ?_
  rw [if_pos (show onTheHeap (Value.ref D) = true from rfl)]; refine lk.at (wpAny_bind (wpAny_attempt (wpAny_holding ?_))); unfold callGetattribute
  rw [show (false && onTheHeap (Value.builtin "BaseException.__getattribute__")) = false from rfl, if_neg Bool.false_ne_true]; unfold boundAndCalled
  rw [PySem.F.excAttr_ValueError.ga.bind (.ref x)]; refine wpAny_bind (wpAny_pure ?_); show wpAny _ _ (call (.builtin "BaseException.__getattribute__") [.ref x, .str "__class__" t]) _ _ _
  refine wpAny_call (codeAny_call_builtin PySem.F.excAttr_ValueError.ga.plain PySem.F.entry_bexc_ga (@check_slot (model prog w) _ _ ⟨hp, g, d, t + 1, os⟩ "BaseException.__getattribute__" "BaseException" "__getattribute__" (.ref x) [.str "__class__" t] [] _ (by decide +kernel) (by decide +kernel) lb (PySem.F.args_bexc_ga (.ref x) (.str "__class__" t)) ?_))
  unfold Builtin.«object.__getattribute__»; refine wpAny_bind (wpAny_of_eq (a := ((Value.ref x : Value), [Value.str "__class__" t])) (by first | rfl | (simp only [slotArgs]; rfl)) (wpAny_bind (wpAny_pure (wpAny_bind (lt.at (wpAny_bind (lf.at ?_)))))))
  show wpAny _ _ (holding [Value.builtin "object.__class__"] (call (.builtin "getset_descriptor.__get__") [.builtin "object.__class__", .ref x, .ref D]) >>= ret) _ _ _
  refine wpAny_bind (wpAny_holding (wpAny_call (class_get (s := ⟨hp, g, d, t + 1, os⟩) (ox := ox) (od := od) X I C.hm (wpAny_pure ?_))))
  show wpAny _ _ (handedOut (.ref D)) _ _ _; rw [handedOut_of (v := .ref D) rfl]
  first | exact wpAny_pure (wpAny_pure h) | exact wpAny_pure h | exact wpAny_pure (wpAny_bind (wpAny_pure (wpAny_pure h)))
theorem kit_exc (C : ExcC K D) : KitX K (.ref x) (.ref D) (fun h => ∃ od, InstAt h x ox D od) where
  ty := fun _ _ _ ⟨_, I⟩ => I.type
  it := fun M h X _ => by
    obtain ⟨o, cd, e1, e2⟩ : ∃ o cd, K.lookup D = some o ∧ o.data = .cls cd := by
      obtain ⟨cd, hc⟩ := Option.isSome_iff_exists.mp (class_isSome C)
      unfold clsIn at hc
      split at hc
      · rename_i lo
        exact ⟨_, _, lo, rfl⟩
      · cases hc
    intro A' Q' E' s' k q
    obtain ⟨hp, g, d, t, os⟩ := s'
    exact ks_wpAny_isType_cls (k _ _ (X _ _ e1)) e2 q
  ne := (PySem.W.handS_kitx_exc (x := x) (ox := ox) C.hg C.hk C.hs C.hd C.ha C.hn C.ht C.hm).ne
  ca := fun X ⟨_, I⟩ k => cls_of C X I k
end
/-- isinstance(e, c), e the handled exception, which may have a dict -/
theorem cr_isG {X : Cx} {a D : Addr} {oe : Obj} (hp : (a, oe) ∈ X.pn) (C : ExcC X.K D) (hz : oe.cls = .ref D) (hx : X.ex = []) (hd : ∀ dd, oe.dict = some dd → ∃ o, X.s_0.heap.get? dd = some o) (hf : ∃ vs, oe.data = .fields vs) : CallR X (.builtin "isinstance") (rIsE X.K D a) := by
  intro pins s σ H xs us Q I r ⟨c, cv, b, ex, hcv, e, q⟩
  subst ex
  cases r with
  | cons rx rr =>
    cases rr with
    | cons rt rr =>
      cases rr
      cases rx
      cases hcv _ rt
      have hget := (I.pin (a, oe) (List.mem_append_left _ hp)).1
      obtain ⟨vs, hv⟩ := hf
      have J : ∃ od, PySem.W.InstAt s.heap a oe D od := by
        cases oe with
        | mk oc od oda osl =>
          simp only at hz hv hd
          subst hz hv
          cases od with
          | none => exact ⟨none, hget, rfl, rfl, trivial⟩
          | some dd =>
            obtain ⟨o0, h0⟩ := hd dd rfl
            obtain ⟨o1, h1⟩ := I.base.there dd o0 h0 (by rw [hx]; simp)
            exact ⟨some o1, hget, rfl, rfl, h1⟩
      refine PySem.W.kia_one (kit_exc (ox := oe) C) I.kIn J e (fun z => nomatch z) fun tk => ?_
      exact ⟨.bl b, H, I.kept (t' := tk) fun _ _ z => z, rfl, q⟩
end TmX
namespace DH
open DL PySem PySem.Spec PyProof.Rows L2 HotX L2H LamX
theorem cg_kinG {X : Cx} {T : List (Addr × Str)} {C : Nat → Addr} {a : Addr} {oe : Obj} {n : Nat} (hE : Errs X.K C) (hn : n < 13) (hp : (a, oe) ∈ X.pn) (hx : X.ex = []) (hz : oe.cls = .ref (C n)) (hd : ∀ dd, oe.dict = some dd → ∃ o, X.s_0.heap.get? dd = some o) (hf : ∃ vs, oe.data = .fields vs) :
    CallR X (.builtin "isinstance") (rGC (cK X.K T C a) (gIsE (kinF n))) := by
  have ht : ∀ t b, kinF n t = some b → ∀ W v, At (cK X.K T C a).toTp W t v → ∃ cv : Value, (∀ u, RelV v u → u = cv) ∧ PySem.W.kitOne X.K (.ref (C n)) cv = some b := fun t b e W v at_ => by
    cases t <;> first | (cases e; done) | skip
    · rename_i j
      simp only [kinF] at e
      split at e
      · rename_i hj
        cases e
        simp only [At] at at_
        have e99 : ¬ j = 99 := by omega
        have ev : v = .ref (C j) := by rw [at_]; show (if j = 99 then V.ref a else .ref (C j)) = _; rw [if_neg e99]
        subst ev
        exact ⟨.ref (C j), fun u r => r, hE.kin n hn j hj⟩
      · cases e
    · simp only [kinF] at e
      split at e
      · rename_i hj
        cases e
        simp only [At] at at_
        subst at_ hj
        exact ⟨.type "ValueError", fun u r => r, hE.val n hn⟩
      · cases e
  intro pins s σ H xs us Q I rs ⟨W, h, ds, z, r, a', e, k⟩
  have ho : ∃ t b, ds = [.glb 99, t] ∧ kinF n t = some b ∧ z = .bl b := by
    unfold gIsE at e
    split at e
    · rename_i t
      cases ef : kinF n t with
      | none => rw [ef] at e; cases e
      | some b => rw [ef] at e; cases e; exact ⟨t, b, rfl, ef, rfl⟩
    · cases e
  obtain ⟨t, b, rfl, ef, rfl⟩ := ho
  obtain ⟨v1, vs1, rfl, a1, b1⟩ := a'.uncons
  obtain ⟨v2, vs2, rfl, a2, b2⟩ := b1.uncons
  simp only [AtL] at b2
  subst b2
  simp only [At] at a1
  have hg : (cK X.K T C a).gl 99 = .ref a := rfl
  rw [hg] at a1
  subst a1
  obtain ⟨cv, h1, h2⟩ := ht t b ef W v2 a2
  exact TmX.cr_isG hp (hE.one n (by omega)).ec hz hx hd hf pins s σ H _ us Q I rs ⟨v2, cv, b, rfl, h1, h2, k.bl r⟩
/-! ### `_law_kin(e)`, TooMany too -/
structure KinOk2 (P : Program) (w : World) (K : PySem.W.Frag) (mg : Str → Option Value) (base : Heap) (k : Nat) (T : List (Addr × Str)) (C : Nat → Addr) : Prop where
  ex : ∃ f fd, mg "_law_kin" = some (.ref f) ∧ PySem.W.keepIn K (.ref f) = true ∧ Binds K fd ["e"] [] ∧
    ∀ n < 13, ∀ (A : Around) (outer : List PySem.Env) (s : Shared) (H : Hp) (args : Args) (p : Addr × Obj) (Q : VK) (E : XK), RoomH k A → Hot1 A p → PinOk outer H s p → Env0 P w K mg base A outer s H → BindsTo s fd args [("e", .ref p.1)] →
      p.2.cls = .ref (C n) → (∀ dd, p.2.dict = some dd → ∃ o, s.heap.get? dd = some o) → (∃ vs, p.2.data = .fields vs) → Tabs T H → (∀ H', ExtN H H' → Tabs T H' → Q (.str ⟨(kinS n).toArray⟩) H') → codeAny (model P w) A (.call (.ref f) args) (CR (L2N.CX P w) outer P w H s Q E) s
theorem kin_ok2 {P : Program} {w : World} {K : PySem.W.Frag} {mg : Str → Option Value} {base : Heap} {T : List (Addr × Str)} {C : Nat → Addr} {f : Addr} {fd : FuncData} {st : Stmt} {N : List Str} {k : Nat} {m : Nat → MS} (F : L2.Fun K "_law_kin" "_law_kin" st f fd) (S : FnScope N ["e"] (defScope st))
    (hm : mg "_law_kin" = some (.ref f)) (hb : Binds K fd ["e"] [])
    (hbody : ∀ n < 13, ∀ (a : Addr) (oe : Obj) (cdv : Value) (A : Around) (outer : List PySem.Env) (s : Shared) (H : Hp) (E : XK), Hot1 A (a, oe) → oe.cls = .ref (C n) → (∀ dd, oe.dict = some dd → ∃ o, s.heap.get? dd = some o) → (∃ vs, oe.data = .fields vs) →
      GSs (cxH (L2N.CX P w) P w K mg base N "_law_kin" (defScope st) f cdv A outer s H E (a, oe)) (cK K T C a) wx0 (defBody st) (m n))
    (hres : ∀ n < 13, mDef N.length (m n) [.glb 99] [] = .ok (.str (kinS n)) []) : KinOk2 P w K mg base (k + 1) T C := by
  refine ⟨f, fd, hm, F.kp, hb, fun n hn A outer s H args p Q E hr hot hpin e0 hbd hz hd hf hT q => ?_⟩
  obtain ⟨a, oe⟩ := p
  refine run_hot (ps := ["e"]) (us := [.ref a]) (vs := [.ref a]) F S hr hot hpin e0 hbd (.cons rfl .nil) rfl fun cdv hr' => ⟨_, hbody n hn a oe cdv A outer s H E hot hz hd hf, ?_⟩
  let W0 : Wd := ⟨fun _ => none, []⟩
  have r0 : HRel (cK K T C a) W0 [] H := ⟨fun _ _ z => (nomatch z), fun _ _ z => (nomatch z), rfl, fun j m p z _ => by simp at z, List.nodup_nil, hT⟩
  have al : AtL (cK K T C a).toTp W0 [.glb 99] [.ref a] := AtL.cons (by simp only [At]; rfl) AtL.nil
  have fin : ∀ v (W' : Wd) H', Ext W0 H [] W' H' → HRel (cK K T C a) W' [] H' → At (cK K T C a).toTp W' (.str (kinS n)) v → Q v H' := fun v W' H' x r av => by
    simp only [At] at av
    subst av
    exact q H' (fun b o e ne => x.fr b o e (fun z => nomatch z) (fun z => nomatch z) ne) r.tab
  refine ⟨⟨W0, H, []⟩, W0, _, [], ⟨Ext.refl _ _ _, r0, start_at al, fun i m p e1 _ => ?_⟩, ?_⟩
  · cases i with
    | zero => cases e1
    | succ i =>
      rw [List.getElem?_append_right (by simp), List.getElem?_replicate] at e1
      split at e1 <;> cases e1
  · have e := hres n hn
    unfold mDef at e
    revert e
    generalize m n ([D.glb 99].map (fun d => some (SV.val d)) ++ List.replicate (N.length - [D.glb 99].length) none) [] = o
    intro e
    cases o with
    | nx _ _ => cases e
    | bk _ _ => cases e
    | ct _ _ => cases e
    | exc _ _ => cases e
    | stuck => cases e
    | rt d h => cases e; exact fin
def tKin2 (T : List (Addr × Str)) (C : Nat → Addr) (i : Nat) (a : Addr) (cls : Value) (d : Option Addr) : TE := fun σ H Q => σ[i]? = some (some (.ref a)) ∧ ∃ n, n < 13 ∧ cls = .ref (C n) ∧ (∀ dd, d = some dd → ∃ fs, H dd = some (.xd fs)) ∧ Tabs T H ∧ ∀ H', ExtN H H' → Tabs T H' → Q (.str ⟨(kinS n).toArray⟩) H'
theorem pe_kin2 {X : Cx} {k i : Nat} {T : List (Addr × Str)} {C : Nat → Addr} {a : Addr} {oe : Obj} {cls : Value} {d : Option Addr} {pn : List (Addr × Obj)} {q p2 pos : Pos} (hz : L2N.Zn cls d oe) (hf : ∃ vs, oe.data = .fields vs) (hk : KinOk2 X.prog X.w X.K X.mg X.base k T C) (hr : Room k X.A)
    (hg : Gl X "_law_kin") (hN : X.N[i]? = some "e") (hv : Vis X.env.scope "e")
    (he : starEach [.Name "e" p2] X.env = (false, eval (.Name "e" p2) X.env) :: starEach [] X.env := by rfl) (hpl : (backTo pos (starEach [] X.env)).any (·.1) = false := by rfl) :
    PE (X.suite a ((a, oe) :: pn)) (.Call (.Name "_law_kin" q) [.Name "e" p2] [] pos) (tKin2 T C i a cls d) := ⟨fun pins s σ H Q I ⟨hs, n, hn, ec, hdd, hT, hq⟩ => by
  subst ec
  obtain ⟨f, fd, hm, hkp, hb, hrun⟩ := hk.ex
  refine wpAny_Call_Name_kw (ld_glob I hg hm ?_)
  have pa : PA (X.suite a ((a, oe) :: pn)) [.Name "e" p2] (tCons (tVar i) tNil) := pa_cons (pe_var hN hv (by decide) (by decide)) pa_nil he
  refine PySem.W.callWith_K (h₀ := X.base) I.ok.mod.kin hkp (thn (pa.run pos pins s σ H (fun vs H1 => vs = [.ref a] ∧ H = H1) I ⟨.ref a, hs, rfl, rfl⟩) fun us s1 ⟨vs, H1, I1, r, e1, e2⟩ => ⟨I1.kIn, ?_⟩) he hpl
  subst e1 e2
  cases r with
  | cons ru rn =>
  cases rn
  cases ru
  have b := hb s1 [.ref a] I1.kIn rfl
  have P1 := I1.pin (a, oe) (List.mem_append_left _ List.mem_cons_self)
  have hpin : PinOk X.stack H s1 (a, oe) := ⟨P1.1, P1.2.1, fun hm => (List.mem_cons.mp (I1.stkSub a hm)).elim P1.2.2.1 P1.2.2.2.1, P1.2.2.2.2⟩
  have hot : Hot1 (X.A.mark (some (.ref a))) (a, oe) := by
    obtain ⟨vs, hd⟩ := hf
    exact ⟨rfl, vs, hd, hz.2.2 vs hd⟩
  have hdd2 : ∀ dd, oe.dict = some dd → ∃ o, s1.heap.get? dd = some o := fun dd e => by
    obtain ⟨fs, hfs⟩ := hdd dd (by rw [← hz.2.1]; exact e)
    exact objOk_get (I1.hok dd _ hfs)
  refine wpAny_call (codeAny_mono (hrun n hn (X.A.mark (some (.ref a))) X.stack s1 H ⟨[.ref a], []⟩ (a, oe) Q (fun _ _ _ => False) ⟨hr.dp, hr.un⟩ hot hpin I1.env0 b hz.1 hdd2 hf hT hq) fun r s' hq => ?_)
  cases r with
  | error e =>
    obtain ⟨_, _, _, _, _, _, _, _, _, _, _, _, z⟩ := hq
    exact z.elim
  | ok fl =>
    cases fl with
    | ret u => exact I1.after hq
    | next => exact False.elim hq
    | brk => exact False.elim hq
    | cont => exact False.elim hq⟩
end DH

/-! `_law_try(lambda: ..)` where TooMany may be raised; raise TooMany(x). -/
namespace DH
open DL PySem PySem.Spec PyProof.Rows L2 HotX L2H LamX
def tryE2 (T : List (Addr × Str)) (C : Nat → Addr) (Q : VK) : XK := fun cls d H' => (∃ n, n < 12 ∧ cls = .ref (C n) ∧ d = none ∧ Tabs T H' ∧ ∀ H2, ExtN H' H2 → Tabs T H2 → Q (.str ⟨(kinS n).toArray⟩) H2) ∨
  (cls = .ref (C 12) ∧ ∃ dd v, d = some dd ∧ H' dd = some (.xd [("limit", v)]) ∧ Tabs T H' ∧ ∀ H2, ExtN H' H2 → Tabs T H2 → ∀ p, H2 p = none → Q (.ref p) (upd H2 p (.tup [.str ⟨(kinS 12).toArray⟩, v])))
def TTry2 (T : List (Addr × Str)) (C : Nat → Addr) : (XK → Hp → VK → Prop) → Hp → VK → XK → Prop := fun tl H Q _ =>
  ∀ (E' : XK) (Q' : VK), (∀ cls d H', tryE2 T C Q cls d H' → E' cls d H') → (∀ v H', tryQ Q v H' → Q' v H') → tl E' H Q'
theorem try_gives2 {X : Cx} {T : List (Addr × Str)} {C : Nat → Addr} {k : Nat} {sg : Scope} {g : Addr} {cdg : Value} {q : Str} (hE : Errs X.K C) (hk : KinOk2 X.prog X.w X.K X.mg X.base k T C) (hxf : XfC X.K (C 12)) (hno : PySem.W.findIn X.K (.ref (C 12)) "limit" = some none) (hr : ∀ env, Room k (X.A.deeper env))
    (hm12 : X.mg "TooMany" = some (.ref (C 12))) (hm13 : X.mg "RingError" = some (.ref (C 13)))
    (s1 : sg.names.lookup ("found" : Str) = some .local) (s2 : sg.names.lookup ("e" : Str) = some .local) (s3 : sg.names.lookup ("TooMany" : Str) = some .globalImplicit) (s4 : sg.names.lookup ("RingError" : Str) = some .globalImplicit) (s5 : sg.names.lookup ("_law_kin" : Str) = some .globalImplicit)
    {j1 j2 k8 kq : Nat} {p1 p2 p3 p4 p5 p6 p7 p9 p10 p11 p16 p17 p18 p19 p20 p21 p22 p23 p24 p25 p26 q1 q2 q3 q4 q5 q6 q7 q8 : Pos} :
    Gives X ["call_so", "found", "e"] "_law_try" sg g cdg [.Assign [.Name "found" p1] (.Constant .none j1 p2) p3,
      .Try [.Assign [.Name "found" p4] (.Tuple [.Constant (.str "told") j2 p5, .Call (.Name "call_so" p6) [] [] p7] k8 p9) p10]
        [.ExceptHandler (some (.Name "TooMany" p11)) (some "e") [.Assign [.Name "found" q1] (.Tuple [.Call (.Name "_law_kin" q2) [.Name "e" q3] [] q4, .Attribute (.Name "e" q5) "limit" q6] kq q7) q8] p16, .ExceptHandler (some (.Name "RingError" p17)) (some "e") [.Assign [.Name "found" p18] (.Call (.Name "_law_kin" p19) [.Name "e" p20] [] p21) p22] p23] [] [] p24,
      .Return (some (.Name "found" p25)) p26] "call_so" q (TTry2 T C) := by
  intro f c' s H Q Eg tl act hco hTT
  have nd : (["call_so", "found", "e"] : List Str).Nodup := by decide
  let Z := cxOf (L2N.CX X.prog X.w) X.prog X.w X.K X.mg X.base ["call_so", "found", "e"] "_law_try" sg g cdg X.A X.stack s H Eg
  refine ⟨_, pss_cons (ps_set (X := Z) (i := 1) nd rfl (.inl s1) pe_non (hf := .inr s1)) (pss_cons (ps_tries (X := Z) (i := 2) (Wout := fun cls d _ H => Eg cls d H)
      (tb := fun W D σ H => ∃ E : XK, (∀ cls d σ' H', E cls d H' → (σ'.length = Z.N.length → W cls d σ' H')) ∧ tAsg (tTup (tCons (tC (.str "told")) (tCons (fun σZ HZ Q => σZ[0]? = some (some (.ref f)) ∧ HZ c' = some (CodeO c' q) ∧ tl E HZ Q) tNil))) (gName 1) D σ H)
      (l := [(.ref (C 12), fun a cls d => tAsg (tTup (tCons (tKin2 T C 2 a cls d) (tCons (tXf a cls d (C 12) "limit" (tVar 2)) tNil))) (gName 1)), (.ref (C 13), fun a cls d => tAsg (tKin2 T C 2 a cls d) (gName 1))])
      rfl rfl nd rfl s2 (L2N.takes_of rfl rfl rfl rfl) (fun W pn xe tk _ => ?_)
      (.cons ⟨s3, by decide, .inl hm12⟩ (fun a oe cls d pn hz hf => ?_) (.cons ⟨s4, by decide, .inl hm13⟩ (fun a oe cls d pn hz hf => ?_) .nil)))
      (pss_one (ps_ret (X := Z) (pe_var (i := 1) rfl (.inl s1) (by decide) (by decide))))), ?_⟩
  · refine ⟨fun pins s σ H D I ⟨E, hW, h3⟩ => ?_⟩
    have hp := act (fun cls d σ' H' => σ'.length = Z.N.length → W cls d σ' H') pn xe E p6 p7 (takes_len tk) hW
    refine (pss_one (ps_set (X := Z.tr pn xe) (i := 1) nd rfl (.inl s1) (pe_tup (pa_cons (pe_str (x := "told")) (pa_cons hp pa_nil (by rfl)) (by rfl))) (by rfl) (.inr s1))).run pins s σ H D I h3
  · refine pss_one (ps_set (X := Z.suite a ((a, oe) :: pn)) (i := 1) nd rfl (.inl s1) (pe_tup (pa_cons (pe_kin2 (X := Z) hz hf hk (hr _) s5 rfl (.inl s2)) (pa_cons (pe_xf (X := Z) hxf hno hz.zc hf (pe_var rfl (.inl s2) (by decide) (by decide))) pa_nil (by rfl)) (by rfl))) (by rfl) (.inr s1))
  · refine pss_one (ps_set (i := 1) nd rfl (.inl s1) (pe_kin2 hz hf hk (hr _) s5 rfl (.inl s2)) (by rfl) (.inr s1))
  · refine ⟨fun cls d H' => ∀ σ' : L2.St, σ'.length = Z.N.length → _, fun cls d σ' H' h1 h2 => h1 σ' h2, ?_⟩
    refine ⟨rfl, hco, hTT _ _ (fun cls d H' hx σ' hl => ?_) fun v H' hq => ?_⟩
    · rcases hx with ⟨n, hn, e1, e2, hT, hq⟩ | ⟨e1, dd, v, e2, hdd, hT, hq⟩
      · subst e1 e2
        refine ⟨_, hE.many n (by omega), fun e => ?_, fun _ => ⟨true, hE.ring n (by omega), fun _ a _ => ?_, fun z => Bool.noConfusion z⟩⟩
        · have := eq_of_beq e
          omega
        · match σ', hl with
          | [x, y, z], _ => exact ⟨rfl, n, by omega, rfl, (fun dd z => by cases z), hT, fun H2 h1 h2 => ⟨_, rfl, hq H2 h1 h2⟩⟩
      · subst e1 e2
        refine ⟨_, hE.many 12 (by omega), fun _ a _ => ?_, fun z => absurd z (by decide)⟩
        match σ', hl with
        | [x, y, z], _ =>
          refine ⟨rfl, 12, by omega, rfl, fun dd' z => ?_, hT, fun H2 h1 h2 => ?_⟩
          · cases z; exact ⟨_, hdd⟩
          · refine ⟨_, rfl, rfl, rfl, dd, _, v, rfl, h1 _ _ hdd (fun _ z => nomatch z), rfl, ?_⟩
            exact ⟨by show 2 ≤ sizeLine; decide, fun p hp => ⟨_, rfl, hq H2 h1 h2 p hp⟩⟩
    · exact ⟨by show 2 ≤ sizeLine; decide, fun p hp => ⟨_, rfl, hq p hp⟩⟩
def tryO2 (o : Out D) : Out D := match o with
  | .ok d h => .ok (.tup [.str told, d]) h
  | .exc ⟨n, none⟩ h => if n < 12 then .ok (.str (kinS n)) h else .stuck
  | .exc ⟨n, some d⟩ h => if n = 12 then .ok (.tup [.str (kinS 12), d]) h else .stuck
  | _ => .stuck
def mTry2 (m : M D) : M D := fun ρ h => tryO2 (m ρ h)
@[simp] theorem mTry2_ap {ρ : DL.Env} {h : Cells} (m : M D) : mTry2 m ρ h = tryO2 (m ρ h) := id rfl
@[simp] theorem tryO2_ok (d : D) (h : Cells) : tryO2 (.ok d h) = .ok (.tup [.str told, d]) h := id rfl
/-- the def that tries, and what it needs -/
structure TryK2 (P : Program) (w : World) (K : PySem.W.Frag) (mg : Str → Option Value) (base : Heap) (k : Nat) (T : List (Addr × Str)) (C : Nat → Addr) : Prop where
  er : Errs K C
  kin : KinOk2 P w K mg base k T C
  xf : XfC K (C 12)
  no : PySem.W.findIn K (.ref (C 12)) "limit" = some none
  m12 : mg "TooMany" = some (.ref (C 12))
  m13 : mg "RingError" = some (.ref (C 13))
  ex : ∃ g st fd, mg "_law_try" = some (.ref g) ∧ L2.Fun K "_law_try" "_law_try" st g fd ∧ Binds K fd ["call_so"] [] ∧ FnScope ["call_so", "found", "e"] ["call_so"] (defScope st) ∧ Vis (defScope st) "call_so" ∧
    (defScope st).names.lookup ("found" : Str) = some .local ∧ (defScope st).names.lookup ("e" : Str) = some .local ∧ (defScope st).names.lookup ("TooMany" : Str) = some .globalImplicit ∧ (defScope st).names.lookup ("RingError" : Str) = some .globalImplicit ∧ (defScope st).names.lookup ("_law_kin" : Str) = some .globalImplicit ∧
    ∃ (j1 j2 k8 kq : Nat) (p1 p2 p3 p4 p5 p6 p7 p9 p10 p11 p16 p17 p18 p19 p20 p21 p22 p23 p24 p25 p26 q1 q2 q3 q4 q5 q6 q7 q8 : Pos), defBody st = [.Assign [.Name "found" p1] (.Constant .none j1 p2) p3,
      .Try [.Assign [.Name "found" p4] (.Tuple [.Constant (.str "told") j2 p5, .Call (.Name "call_so" p6) [] [] p7] k8 p9) p10]
        [.ExceptHandler (some (.Name "TooMany" p11)) (some "e") [.Assign [.Name "found" q1] (.Tuple [.Call (.Name "_law_kin" q2) [.Name "e" q3] [] q4, .Attribute (.Name "e" q5) "limit" q6] kq q7) q8] p16, .ExceptHandler (some (.Name "RingError" p17)) (some "e") [.Assign [.Name "found" p18] (.Call (.Name "_law_kin" p19) [.Name "e" p20] [] p21) p22] p23] [] [] p24,
      .Return (some (.Name "found" p25)) p26]
section
variable {X : Cx} {c : Cc} {wx : WX}
theorem ge_try2 {C : Nat → Addr} {k k2 : Nat} {f : Addr} {params : Arguments} {body : Expr} {scope : Scope} {m : M D} {p lpos pos : Pos} (hxc : ∀ n < 13, c.xc n = .ref (C n)) (tr : TryK2 X.prog X.w X.K X.mg X.base k c.T C) (lt : LamTab X.K X.mg X.base c.T f (X.env.qual ++ "<lambda>")) (hcode : CodeIs X.K f X.env.code)
    (tk : L2N.Takes X wx) (hr : Room (k2 + 2) X.A) (hk : k ≤ k2 + 1) (L : LamS X.env.scope scope)
    (hbody : ∀ (A : Around) (outer : List PySem.Env) (s : Shared) (H : Hp) (E : XK) (f c' : Addr), Room k2 (A.deeper (lamEnv X scope s.heap.objs.size f c')) → GE (lamN X A outer s H E scope f c') c (fun cls d _ H => E cls d H) body m)
    (hbind : ∀ (q : Str) (cl : List (Str × Addr)) (pm cv ctv : Value), bindArgs (PySem.W.kla_fn "<lambda>" q params body scope cl pm cv ctv) ⟨[], []⟩ = pure [] := by intros; rfl) (hdef : defaultsOf params X.env = ([], []) := by rfl)
    (hg : Gl X "_law_try" := by rfl) : GE X c wx (.Call (.Name "_law_try" p) [.Lambda params body scope lpos] [] pos) (mTry2 m) := by
  obtain ⟨g, st, fd, hm, F, hb, Sg, hva, s1, s2, s3, s4, s5, j1, j2, k8, kq, p1, p2, p3, p4, p5, p6, p7, p9, p10, p11, p16, p17, p18, p19, p20, p21, p22, p23, p24, p25, p26, q1, q2, q3, q4, q5, q6, q7, q8, hbd⟩ := tr.ex
  obtain ⟨c0, P, hc0, TB, hmT, hu⟩ := lt.ex
  have hco : X.env.code = .ref c0 := hcode.one hc0
  refine PE.imp (pe_lam (T := c.T) (TT := TTry2 c.T C) (t := fun E => tD c (fun cls d _ H => E cls d H) m) hm F hb Sg rfl hva (fun cdv => ?_) tk TB hco hmT hu hr L hbody hbind hdef hg) fun σ H Q ⟨W, ρ, h, r, l, q⟩ => ?_
  · rw [hbd]
    exact try_gives2 (k := k) tr.er tr.kin tr.xf tr.no (fun env => ⟨hr.hd, by have := hr.dp; show X.A.depth + 1 + 3 * k + 5 < _; omega, by have := hr.un; show X.A.units + 3 + 16 * k + 200 < _; omega⟩) tr.m12 tr.m13 s1 s2 s3 s4 s5
  · refine ⟨r.tab, fun H1 en t1 E' Q' hE hQ => ?_⟩
    obtain ⟨x1, r1⟩ := ext_N r en t1
    refine ⟨W, ρ, h, r1, l.ext x1, ?_⟩
    replace q : EPost c wx W σ H (fun W _ => At c.toTp W) (tryO2 (m ρ h)) Q := q
    cases em : m ρ h with
    | stuck => rw [em] at q; exact q
    | ok d h' =>
      rw [em] at q
      intro v W' H' x r' a
      refine hQ v H' fun p hp => ?_
      have k : KQ c W' h' H' (.tup [.str told, d]) Q := fun v2 W2 H2 x2 r2 a2 => q v2 W2 H2 ((x1.trans0 x).trans0 x2) r2 a2
      exact k.tup r' (AtL.cons (by simp only [At]) (AtL.cons a AtL.nil)) hp
    | exc z h' =>
      obtain ⟨n, lim⟩ := z
      cases lim with
      | some dl =>
        rw [em] at q
        by_cases hn : n = 12
        · replace q : EPost c wx W σ H (fun W _ => At c.toTp W) (if n = 12 then .ok (.tup [.str (kinS 12), dl]) h' else .stuck) Q := q
          rw [if_pos hn] at q
          subst hn
          intro cls dd W' H' x r' ⟨e1, a, v, e2, hxd, av⟩
          refine hE cls dd H' (.inr ⟨e1.trans (hxc 12 (by omega)), a, v, e2, hxd, r'.tab, fun H2 en2 t2 p hp => ?_⟩)
          obtain ⟨x2, r2⟩ := ext_N r' en2 t2
          have k : KQ c W' h' H2 (.tup [.str (kinS 12), dl]) Q := fun v2 W2 H3 x3 r3 a3 => q v2 W2 H3 (((x1.trans0 x).trans0 x2).trans0 x3) r3 a3
          exact k.tup r2 (AtL.cons (by simp only [At]) (AtL.cons av AtL.nil)) hp
        · replace q : EPost c wx W σ H (fun W _ => At c.toTp W) (if n = 12 then .ok (.tup [.str (kinS 12), dl]) h' else .stuck) Q := q
          rw [if_neg hn] at q
          exact False.elim q
      | none =>
        rw [em] at q
        by_cases hn : n < 12
        · replace q : EPost c wx W σ H (fun W _ => At c.toTp W) (if n < 12 then .ok (.str (kinS n)) h' else .stuck) Q := q
          rw [if_pos hn] at q
          intro cls dd W' H' x r' ⟨e1, e2⟩
          refine hE cls dd H' (.inl ⟨n, hn, e1.trans (hxc n (by omega)), e2, r'.tab, fun H2 en2 t2 => ?_⟩)
          obtain ⟨x2, r2⟩ := ext_N r' en2 t2
          exact q _ W' H2 ((x1.trans0 x).trans0 x2) r2 (by simp only [At])
        · replace q : EPost c wx W σ H (fun W _ => At c.toTp W) (if n < 12 then .ok (.str (kinS n)) h' else .stuck) Q := q
          rw [if_neg hn] at q
          exact False.elim q
end
end DH
namespace DM
open DL PySem PySem.Spec PyProof.Rows L2 DH
section
variable {X : Cx} {c : Cc} {wx : WX}
/-! ### raise TooMany(x) -/
def sRaiseL (n : Nat) (me : M D) : MS := fun ρ h => SO.of (me ρ h) fun d h1 => .exc ⟨n, some d⟩ h1
@[simp] theorem sRaiseL_ap {ρ : DL.Env} {h : Cells} (n : Nat) (me : M D) : sRaiseL n me ρ h = SO.of (me ρ h) fun d h1 => .exc ⟨n, some d⟩ h1 := id rfl
theorem gs_raiseL {C : Nat → Addr} {n : Nat} {x : Str} {e : Expr} {p pos pos2 : Pos} {me : M D} (Tk : TmX.TooK X.prog X.w X.K X.mg X.base (C n)) (hr : Room 2 X.A) (hm : X.mg x = some (.ref (C n))) (hxc : c.xc n = .ref (C n)) (hc : X.calm = true) (tk : L2N.Takes X wx) (he : GE X c wx e me) (hg : Gl X x := by rfl)
    (hdb : (x == ("__debug__" : Str)) = false := by decide) (hst : starEach [e] X.env = (false, eval e X.env) :: starEach [] X.env := by rfl) (hpl : (backTo pos (starEach [] X.env)).any (·.1) = false := by rfl) : GS X c wx (.Raise (some (.Call (.Name x p) [e] [] pos)) none pos2) (sRaiseL n me) :=
  PS.imp (L2N.ps_raise hc tk (TmX.pmk_T Tk hr tk hg hm he hdb hst hpl)) fun D σ H ⟨B, W, ρ, h, s, q⟩ => S_bind s q fun d h1 v W1 H1 x1 s1 a1 q1 => fun a ha =>
    q1 (.ref (C n)) (some a) W1 σ _ (s1.x.trans0 (ext_free s1.r ha)) (s1.r.free ha) ⟨hxc.symm, a, v, rfl, upd_same, a1⟩
end
end DM

/-! calls without arguments, a list unpacked, list(range(n)). -/
namespace DM
open DL PySem PySem.Spec PyProof.Rows L2 DH
section
variable {X : Cx} {c : Cc} {wx : WX}
theorem pe_callS0 {CX : CXT} {x : Str} {k : Nat} {f : Addr} {fd : FuncData} {ps : List Str} {sp : Sp} {E : L2.St → XK} {p pos : Pos} (F : FnOk X.prog X.w X.K X.mg X.base CX k f fd ps sp) (hr : Room k X.A) (hg : Gl X x) (hm : X.mg x = some (.ref f)) (hk : PySem.W.keepIn X.K (.ref f) = true) (hb : Binds X.K fd ps [])
    (hx : ∀ σ, PassesAt CX X σ (E σ)) (hdb : (x == ("__debug__" : Str)) = false := by decide) : PE X (.Call (.Name x p) [] [] pos) (tCallS sp E tNil) :=
  ⟨fun pins s σ H Q I h => wpAny_Call_Name_kw (ld_glob I hg hm (PySem.W.callWith_K0 I.kIn hk (run_fnS F hr hb (hx σ) I .nil h)) hdb)⟩
theorem ge_call0 {x : Str} {k : Nat} {F : FS} {p pos : Pos} (hf : FnK X.prog X.w X.K X.mg X.base c x k 0 F) (hr : Room k X.A) (tk : L2N.Takes X wx) (hg : Gl X x := by rfl) (hdb : (x == ("__debug__" : Str)) = false := by decide) : GE X c wx (.Call (.Name x p) [] [] pos) (mFn F mNil) := by
  obtain ⟨f, fd, ps, h1, h2, h3, h4, h5⟩ := hf.ex
  refine PE.imp (pe_callS0 h1 hr hg h2 h3 h4 (fun σ => L2N.passAt tk σ) hdb) fun σ H Q ⟨W, ρ, h, r, l, q⟩ => ?_
  replace q : EPost c wx W σ H (fun W _ => At c.toTp W) (F [] h) Q := q
  refine ⟨rfl, W, h, [], r, AtL.nil, ?_⟩
  cases ef : F [] h with
  | ok d h2 => rw [ef] at q; exact q
  | exc d h2 => rw [ef] at q; exact q
  | stuck => rw [ef] at q; exact q
/-! ### a list unpacked -/
def tgL (n : Nat) (u : Tgts) : Tgt := fun d ρ => match d with
  | .lst ds => if ds.length = n then u ds ρ else none
  | _ => none
theorem gg_lst {es : List Expr} {k : Nat} {pos : Pos} {n : Nat} {u : Tgts} {vs : List Nat} (hK : X.K = c.K) (hc : X.calm = true) (h : GGs X c es vs u) (hn : (assignEach es X.env).length = n := by rfl) (hst : (assignEach es X.env).findIdx? (·.1) = none := by rfl) :
    GG X c (.Tuple es k pos) vs (tgL n u) := PG.imp (pg_lst hc h hn hst) fun x σ H Q ⟨B, W, ρ, h, d, ρ', s, a, e, k⟩ => by
  cases d <;> first | (simp only [tgL] at e; cases e; done) | skip
  simp only [tgL] at e
  split at e
  · rename_i hl
    simp only [At] at a
    obtain ⟨p, vs, rfl, hp, al⟩ := a
    exact ⟨p, vs, rfl, .inl (s.r.rd (.inl hp)), by rw [← al.length]; exact hl, B, W, ρ, h, _, ρ', s, al, e, k⟩
  · cases e
/-! ### list(range(n)) -/
def gListRange : D → Option D
  | .int i => if 0 ≤ i ∧ i ≤ 1000000 then some (.lst (rngL 0 i.toNat)) else none
  | _ => none
theorem ints_pt : ∀ (l : List Value) (k : Nat), (∀ i v, l[i]? = some v → ∃ t : Tok, v = Value.int ((k + i : Nat) : Int) t) → IntsAre l ((List.range' k l.length).map fun j : Nat => (j : Int))
  | [], _, _ => .nil
  | v :: l, k, h => by
    obtain ⟨t, rfl⟩ := h 0 v rfl
    refine .cons _ t ?_
    exact ints_pt l (k + 1) fun i u hu => by
      obtain ⟨t, e⟩ := h (i + 1) u hu
      exact ⟨t, by rw [e]; congr 1; omega⟩
theorem pe_listRange {a : Expr} {ta : TE} {p p2 q pos : Pos} (hc : X.calm = true) (hg : Gl X "list") (hm : X.mg "list" = none) (hg2 : Gl X "range") (hm2 : X.mg "range" = none) (ha : PE X a ta)
    (na : starEach [a] X.env = (false, eval a X.env) :: starEach [] X.env := by rfl) : PE X (.Call (.Name "list" p) [.Call (.Name "range" p2) [a] [] q] [] pos) (fun σ H Q => ta σ H fun x H1 => ∃ n : Nat, x = .int (n : Int) ∧ n ≤ 1000000 ∧ ∀ r, H1 r = none → Q (.ref r) (upd H1 r (.lst ((List.range n).map fun j : Nat => V.int (j : Int))))) := by
  refine ⟨fun pins s σ H Q I h => Call_ (ld_blt I hg hm boot_list (PyProof.Rows.callWith_type1 (PyProof.Rows.args_cons ?_ rfl) rfl rfl))⟩
  refine Call_ (ld_blt I hg2 hm2 boot_range (PyProof.Rows.callWith_type1 (PyProof.Rows.args_cons (thn (ha.run pins s σ H _ I h) fun v s1 ⟨x, H1, I1, r1, q1⟩ => PyProof.Rows.args_nil ?_) na) na rfl))
  obtain ⟨n, rfl, hl, q1⟩ := q1
  obtain ⟨tk, rfl⟩ := r1
  refine call_range_1 (PyProof.Rows.args_nil ?_)
  have I2 : Inv X pins σ H1 { s1 with heap := s1.heap.push { cls := .type "range", data := .fields #[.int 0 s1.toks, .int (n : Int) tk, .int 1 (s1.toks + 1)] }, toks := s1.toks + 1 + 1 } := I1.kept fun b o e => Heap.get?_push_of_some _ e
  have hs : Builtin.Range.small 0 (n : Int) 1 = true := small_one (by decide) (by decide) (by omega) (by omega)
  have hz : Builtin.Range.rangeSize 0 (n : Int) 1 = n := by
    rw [rangeSize_one]
    split <;> omega
  refine call_list_range (n := n) (I2.ok.hd hc) (IsRange.new s1.heap 0 (n : Int) 1 s1.toks tk (s1.toks + 1)) hs hz (Nat.le_trans hl (by decide)) fun h' t' acc c' hk hget hit => ?_
  have hia : IntsAre acc.toList ((List.range n).map fun j : Nat => (j : Int)) := by
    have hl2 : acc.toList.length = n := by rw [Array.length_toList]; exact hit.1
    have := ints_pt acc.toList 0 fun i v e => by
      obtain ⟨t, e2⟩ := hit.2 i v (by rw [Array.getElem?_toList] at e; exact e)
      have e3 : (0 : Int) + (i : Int) * 1 = ((0 + i : Nat) : Int) := by omega
      exact ⟨t, by rw [← e3]; exact e2⟩
    rw [hl2, ← List.range_eq_range'] at this
    exact this
  have hn : H1 (s1.heap.push { cls := .type "range", data := .fields #[.int 0 s1.toks, .int (n : Int) tk, .int 1 (s1.toks + 1)] }).objs.size = none := I2.hok.fresh (Nat.le_refl _)
  have hv := vals_of_ints hia
  rw [List.map_map] at hv
  refine ⟨.ref _, _, I2.laid (t' := t') (o := .lst ((List.range n).map fun j : Nat => V.int (j : Int))) hk (Nat.le_refl _) ⟨by rw [List.length_map, List.length_range, sizeLine_eq]; omega, acc.toList, c', hv, hget⟩, rfl, q1 _ hn⟩
theorem rngL_at {t : Tp} {W : Wd} {n : Nat} : AtL t W (rngL 0 n) ((List.range n).map fun j : Nat => V.int (j : Int)) := by
  have gen : ∀ l : List Nat, AtL t W (l.map fun i : Nat => D.int (0 + (i : Int))) (l.map fun j : Nat => V.int (j : Int)) := fun l => by
    induction l with
    | nil => exact AtL.nil
    | cons a l ih => exact AtL.cons (by simp only [At]; rw [Int.zero_add]) ih
  exact gen _
theorem ge_listRange {a : Expr} {ma : M D} {p p2 q pos : Pos} (hc : X.calm = true) (hm : X.mg "list" = none) (hm2 : X.mg "range" = none) (ha : GE X c wx a ma) (hg : Gl X "list" := by rfl) (hg2 : Gl X "range" := by rfl)
    (na : starEach [a] X.env = (false, eval a X.env) :: starEach [] X.env := by rfl) : GE X c wx (.Call (.Name "list" p) [.Call (.Name "range" p2) [a] [] q] [] pos) (mOp1 gListRange ma) :=
  PE.imp (pe_listRange hc hg hm hg2 hm2 ha na) fun σ H Q ⟨W, ρ, h, r, l, p⟩ => tG_bind r l p fun d h1 v W1 H1 x1 r1 l1 a1 p1 => by
    obtain ⟨z, e1, k⟩ := fin_ok p1
    cases d <;> first | (simp only [gListRange] at e1; cases e1; done) | skip
    rename_i i
    simp only [gListRange] at e1
    split at e1
    · rename_i hb
      cases e1
      simp only [At] at a1
      obtain ⟨n, rfl⟩ : ∃ n : Nat, i = n := ⟨i.toNat, by omega⟩
      refine ⟨n, a1, by omega, fun r hr => k.lst r1 ?_ hr⟩
      rw [Int.toNat_natCast]
      exact rngL_at
    · cases e1
end
end DM

/-! What the defs of a program stand on where TooMany is raised. -/
namespace DM
open DL PySem PySem.Spec PyProof.Rows L2 DH LamX
structure OkT (LD : List Str) (P : Program) (w : World) (K : PySem.W.Frag) (mg : Str → Option Value) (base : Heap) (c : Cc) (C : Nat → Addr) : Prop extends OkP LD P w K mg base c C where
  hx13 : ∀ n < 13, c.xc n = .ref (C n)
  too : TmX.TooK P w K mg base (C 12)
  xf : XfC K (C 12)
  no : PySem.W.findIn K (.ref (C 12)) "limit" = some none
theorem okT_main {LD : List LamD} {P : Program} {w : World} {K : PySem.W.Frag} {mg : Str → Option Value} {base h : Heap} {cs : List Addr} (hE : errB K cs = true) (hL : ∀ d ∈ LD, LamOk K mg h d) (hnd : (LD.map (·.P)).Nodup) (hB : ∀ d ∈ LD, TabB base mg d.c d.P)
    (too : TmX.TooK P w K mg base (clsF cs 12)) (xf : xfB K (clsF cs 12) = true) (no : PySem.W.findIn K (.ref (clsF cs 12)) "limit" = some none) : OkT (LD.map (·.x)) P w K mg base (cMain K LD cs) (clsF cs) :=
  { ok_main (P := P) (w := w) hE hL hnd hB with hx13 := fun _ _ => rfl, too := too, xf := xfB_ok xf, no := no }
end DM
namespace TmX
open PySem PySem.Spec PySem.W PySem.Calls PyProof.Rows L2
def scB (a b : Str) (sc : Scope) : Bool := (sc.names.all fun y => y.2 != .cell && (y.2 != .free || y.1 == ("__class__" : Str)))
theorem scT_by {a b : Str} {sc : Scope} (h : scB a b sc = true) (kind : sc.kind = .function) (ne : a ≠ b) (la : sc.names.lookup a = some .local) (lb : sc.names.lookup b = some .local) (sup : sc.names.lookup ("super" : Str) = some .globalImplicit) (cls : sc.names.lookup ("__class__" : Str) = some .free) : ScT a b sc where
  kind := kind
  ne := ne
  la := la
  lb := lb
  sup := sup
  cls := cls
  noc := fun x hx e => by
    have := List.all_eq_true.mp h x hx
    rw [e] at this
    simp at this
  only := fun x hx => by
    rcases hx with e | e
    · have := List.all_eq_true.mp h _ (PySem.mem_of_lookup e)
      simp at this
    · have := List.all_eq_true.mp h _ (PySem.mem_of_lookup e)
      simpa using this
/-- from what stands in the written part -/
theorem too_mk {P : Program} {w : World} {K : PySem.W.Frag} {mg : Str → Option Value} {C fI cc cda : Addr} {qual : Str} {st : Stmt} {oc : Value} {od : Option Addr} {dV kV doc pm ct : Value} {an : Option Addr} {osl : Array (Option Value)}
    {ccl : Value} {cdd : Option Addr} {vs : Array Value} {ccs : Array (Option Value)} {file : Str} {tf : Tok} {cl : Value} {cld : Option Addr} {csl : Array (Option Value)} {ar : Arg}
    {nm q : Str} {N : Addr} {bs bm : List Value} {sn : List Str} {sub : List Value} {ab : Bool} {col : Option Bool} {dd : Option Addr} {k0 k1 k2 k3 k5 : Option Value}
    {j : Nat} {p0 p1 p2 p3 p4 p5 pa pb p' pos : Pos} {msg : Str} {pl : Sem Bool}
    (hC : K.lookup C = some (excClassObj nm q C N bs bm true sn sub ab col dd k0 k1 k2 k3 k5 "ValueError.__new__")) (hbm : PySem.HandSPX.refsVE bm = true)
    (sa : PySem.W.findIn K (.ref C) "__setattr__" = some (some (.builtin "object.__setattr__"))) (exC : PySem.W.subIn K (.ref C) (.type "BaseException") = some true) (tyC : PySem.W.typeIn K (.ref C) = some (.type "type")) (kC : PySem.W.keepIn K (.ref C) = true)
    (iC : PySem.W.findIn K (.ref C) "__init__" = some (some (.ref fI))) (tI : PySem.W.typeIn K (.ref fI) = some (.type "function"))
    (lk : K.lookup fI = some ⟨oc, od, .func (ksFn "__init__" qual (defArgs st) (defBody st) (defScope st) dV kV doc pm an (.ref cda) ct cc), osl⟩) (hcd : PySem.W.codeIn K (.ref cda) qual = true)
    (lcode : K.lookup cda = some ⟨ccl, cdd, .fields vs, ccs⟩) (hvs : vs[2]? = some (.str file tf)) (hfile : ((P.main.file : Str) == file) = true) (lcell : K.lookup cc = some ⟨cl, cld, .cell (some (.ref C)), csl⟩)
    (hcls : (clsIn K C).isSome = true) (mro : mroIn K C (.ref C) = some true) (up : ks_superIn K C C "__init__" = some (some (.builtin "ValueError.__init__"))) (sub' : subIn K (.ref C) (.type "ValueError") = some true) (ho : nsIn K cStatics "thirdparty.any" = some none)
    {h : Heap} (X : K.In h) (G : h.Ns mainGlobals mg) (nsup : PySem.W.nsIn K mainGlobals "super" = some none) (top : (P.main.scope.names.lookup ("super" : Str)).isSome = false) (hno : PySem.W.findIn K (.ref C) "limit" = some none)
    (par : ((defArgs st).posonlyargs ++ (defArgs st).args).head? = some ar) (hpar : ar.arg = "self") (S : ScT "self" "limit" (defScope st)) (hco : (defScope st).isCoroutine = false) (hgen : (defScope st).isGenerator = false)
    (hbd : defBody st = [.Expr (.Call (.Attribute (.Call (.Name "super" p0) [] [] p1) "__init__" p2) [.Constant (.str msg) j p3] [] p4) p5, .Assign [.Attribute (.Name "self" pa) "limit" p'] (.Name "limit" pb) pos])
    (hb : ∀ us : List Value, us.length = 2 → bindArgs (ksFn "__init__" qual (defArgs st) (defBody st) (defScope st) dV kV doc pm an (.ref cda) ct cc) ⟨us, []⟩ = pure (([("self" : Str), ("limit" : Str)] : List Str).zip us))
    (hev : ∀ env : PySem.Env, eval (.Call (.Attribute (.Call (.Name "super" p0) [] [] p1) "__init__" p2) [.Constant (.str msg) j p3] [] p4) env = (do
      let ov ← attributeBase (.Call (.Name "super" p0) [] [] p1) "__init__" env (eval (.Call (.Name "super" p0) [] [] p1) env)
      standAt p2.atName
      let (f, first) ← holding [ov] (getMethod ov "__init__" pl)
      callWith p4 f first (backTo p4 (starEach [.Constant (.str msg) j p3] env)) []))
    (hsw : ∀ env : PySem.Env, swapsWith (.Call (.Attribute (.Call (.Name "super" p0) [] [] p1) "__init__" p2) [.Constant (.str msg) j p3] [] p4) none p5.line env = pure false)
    (hsw2 : ∀ env : PySem.Env, swapsWith (.Name "limit" pb) (some (.Attribute (.Name "self" pa) "limit" p')) pos.line env = pure false) : ∀ base : Heap, TooK P w K mg base C := by
  intro base
  have sup : mg "super" = none := PySem.W.mg_none_of X G nsup
  have T : OexC K C := ⟨⟨nm, q, N, bs, bm, sn, sub, ab, col, dd, k0, k1, k2, k3, k5, hC, hbm⟩, sa, exC, tyC, kC⟩
  rw [hbd] at lk hb
  refine ⟨T, fI, _, iC, tI, ?_, Binds.all (fun us hl => hb us hl)⟩
  refine fn_T (k := 0) S hco hgen (Tc := ⟨T, ⟨_, _, _, _, _, _, _, _, _, lk⟩, hcd, ⟨cda, _, _, vs, _, file, tf, rfl, lcode, hvs, hfile⟩, ⟨_, _, _, lcell⟩, Option.isSome_iff_exists.mp hcls, mro, up, sub', ho, sup, top, ar, par, hpar⟩) ⟨_, _, _, lk⟩ hno (by decide) (by decide) (by decide) (by decide) hev hsw hsw2
end TmX
namespace DM
open DL PySem PySem.Spec PyProof.Rows L2 DH
/-- the statements of a class -/
def clsB (s : Stmt) : List Stmt := match s with
  | .ClassDef _ _ _ b _ _ _ _ _ _ _ => b
  | _ => []
theorem hu1 {k : Nat} {A : Around} (hr : Room k A) : A.units + 1 < cLine := by have := hr.un; omega
end DM

/-! A list of its own out of list(x); a store into it. -/
namespace DM
open DL PySem L2 PySem.Spec PyProof.Rows
section
variable {X : Cx} {c : Cc} {wx : WX}
def sOwnOf (i : Nat) (ma : M Bv) : MS := fun ρ h => SO.of (ma ρ h) fun x h1 => match (view h1 x).bind gList with
  | some (.lst ds) => .nx (ρ.set i (some (.own (.lst ds)))) h1
  | _ => .stuck
theorem gList_lst {d z : D} (e : gList d = some z) : ∃ ds, z = .lst ds ∧ (d = .lst ds ∨ d = .tup ds) := by
  cases d <;> first | (simp only [gList] at e; cases e; done) | skip
  · cases e; exact ⟨_, rfl, .inr rfl⟩
  · cases e; exact ⟨_, rfl, .inl rfl⟩
theorem gs_ownOf {i : Nat} {x : Str} {a : Expr} {pos pos' p p2 : Pos} {ma : M Bv} (hK : X.K = c.K) (hm : X.mg "list" = none) (ha : GB X c wx a ma) (hN : X.N.Nodup) (hi : X.N[i]? = some x := by rfl) (hx : L2.Loc X.env.scope x := by first | exact Or.inl rfl | exact Or.inr rfl)
    (hg : Gl X "list" := by rfl) (he : starEach [a] X.env = (false, eval a X.env) :: starEach [] X.env := by rfl) (hpl : (backTo p2 (starEach [] X.env)).any (·.1) = false := by rfl)
    (hs : swapsWith (.Call (.Name "list" p) [a] [] p2) (some (.Name x pos')) pos.line X.env = pure false := by rfl) (hf : X.fn x = true ∨ X.env.scope.names.lookup x = some .local := by first | exact .inl rfl | exact .inr rfl) :
    GS X c wx (.Assign [.Name x pos'] (.Call (.Name "list" p) [a] [] p2) pos) (sOwnOf i ma) :=
  PS.imp (ps_set hN hi hx (pe_callTy call_list_of hg hm (by decide +kernel) (pa_cons ha pa_nil he) (by decide) (by decide) he hpl) hs hf) fun D σ H ⟨B, W, ρ, h, s, p⟩ => S_bind s p fun d h1 v W1 H1 x1 s1 a1 p1 => by
    cases ev : (view h1 d).bind gList with
    | none => rw [ev] at p1; exact False.elim p1
    | some z =>
      rw [ev] at p1
      obtain ⟨y, ey, e1⟩ := opt_bind ev
      obtain ⟨ds, rfl, hd⟩ := gList_lst e1
      have ay := VAt.see s1.r ey a1
      rcases hd with rfl | rfl
      · simp only [VAt] at ay
        obtain ⟨q, vs, rfl, hp, al⟩ := ay
        exact ⟨q, vs, rfl, .inl (.inl hp), fun l hl => p1 W1 _ _ (new_own s1 hl al)⟩
      · simp only [VAt, At] at ay
        obtain ⟨q, vs, rfl, hp, al⟩ := ay
        exact ⟨q, vs, rfl, .inr (by rw [hK]; exact s1.r.sqT hp), fun l hl => p1 W1 _ _ (new_own s1 hl al)⟩
/-- some[i] = e -/
def sOwnSet (i : Nat) (mi me : M D) : MS := fun ρ h => SO.of (me ρ h) fun d h1 => match ρ[i]? with
  | some (some (.own (.lst ds))) => SO.of (mi ρ h1) fun k h2 => match k with
    | .int n => match ixN ds.length n with
      | some j => .nx (ρ.set i (some (.own (.lst (ds.set j d))))) h2
      | none => .stuck
    | _ => .stuck
  | _ => .stuck
theorem gs_ownSet {i : Nat} {x : Str} {ie e : Expr} {px pos pos' : Pos} {mi me : M D} (hi : GE X c wx ie mi) (he : GE X c wx e me) (hN : X.N[i]? = some x := by rfl) (hv : Vis X.env.scope x := by first | exact Or.inl rfl | exact Or.inr (Or.inl rfl) | exact Or.inr (Or.inr rfl))
    (hd : (x == ("__debug__" : Str)) = false := by decide) (hcd : (x == ("__classdict__" : Str)) = false := by decide)
    (hs : swapsWithSole [.Subscript (.Name x px) ie pos'] e pos.line X.env = pure false := by rfl) (hw : swappedStores [.Subscript (.Name x px) ie pos'] e X.env = pure none := by rfl) (h1 : (assignEach [.Subscript (.Name x px) ie pos'] X.env).map (·.2) = [assign (.Subscript (.Name x px) ie pos') X.env] := by rfl)
    (ha : ∀ v, assign (.Subscript (.Name x px) ie pos') X.env v = (do let ov ← holding [v] (eval (.Name x px) X.env); let iv ← holding [v, ov] (eval ie X.env); standAt pos'; holding [v, ov, iv] (setItem ov iv v); release [v, ov, iv] []) := by intro _; rfl) :
    GS X c wx (.Assign [.Subscript (.Name x px) ie pos'] e pos) (sOwnSet i mi me) :=
  PS.imp (ps_asg he (pg_sub (pe_var hN hv hd hcd) hi set_list ha) hs hw h1) fun D σ H ⟨B, W, ρ, h, s, p⟩ => S_bind s p fun d h1 v W1 H1 x1 s1 a1 p1 => by
    cases e1 : ρ[i]? with
    | none => rw [e1] at p1; exact False.elim p1
    | some o =>
      cases o with
      | none => rw [e1] at p1; exact False.elim p1
      | some sv =>
        cases sv with
        | val d => rw [e1] at p1; exact False.elim p1
        | own mo =>
          cases mo with
          | dic _ _ => rw [e1] at p1; exact False.elim p1
          | ins _ _ => rw [e1] at p1; exact False.elim p1
          | lst ds =>
            rw [e1] at p1
            obtain ⟨v2, e2, q, e3, e4, _⟩ := s1.l.at_ i _ e1
            subst e3
            refine ⟨.ref q, e2, ?_⟩
            refine S_bind s1 p1 fun k h2 u W2 H2 x2 s2 a2 p2 => ?_
            cases k <;> first | exact False.elim p2 | skip
            rename_i n
            cases ek : ixN ds.length n with
            | none => simp only [ek] at p2; exact False.elim p2
            | some j =>
              simp only [ek] at p2
              simp only [At] at a2
              subst a2
              obtain ⟨w, e6, q2, e7, e8, _⟩ := s2.l.at_ i _ e1
              rw [e2] at e6
              cases e6
              cases e7
              obtain ⟨vs1, e11, al⟩ := e8
              refine ⟨q, vs1, n, j, rfl, rfl, e11, by rw [← al.length]; exact ek, ?_⟩
              exact p2 W2 σ _ (s2.mutO (m' := .lst (ds.set j d)) e1 e2 e11 trivial ⟨_, upd_same, AtL.set (At.mono x2.le a1) j al⟩)
end
end DM

/-! sorted(set(..)) of a list of ints, of a tuple of pairs; isinstance(x, (tuple, list)); pairs by order. -/
namespace SgS
open PySem PySem.Spec PyProof.Rows L2 PySem.Froz
section
variable {P : Program} {w : World} {A : Around} {E : Value → Shared → Prop} {s : Shared}
/-- set(x), x a list or a tuple: what its loop makes -/
theorem call_setSeq {l : Addr} {items : Array Value} {Hd : Heap → Prop} {Q : Value → Shared → Prop} (hh : A.handled = none) (hl : s.heap.IsList l items ∨ s.heap.IsTuple l items)
    (step : ∀ (B : Around) (I : Addr) (fp : List Addr) (St : Nat → Shared → Prop) (s1 : Shared) (R : Result → Shared → Prop), B.in1.units = A.units + 3 →
      WalksS P w B.in1 I fp [I] (fun a b => b = a) items.size (fun i v => items[i]? = some v) St → s.heap.objs.size ∉ fp → St 0 s1 → s1.heap.get? s.heap.objs.size = some (sObj "set" (d0 w)) →
      (∀ b o, s.heap.get? b = some o → s1.heap.get? b = some o) → s.heap.objs.size < I →
      (∀ s2, Moved [s.heap.objs.size, I] (fun a b => b = a) s1 s2 → Hd s2.heap → R (.ok (.ret .none)) s2) → codeAny (model P w) B (.builtin "set.update.loop" ⟨[.ref s.heap.objs.size, .ref I], []⟩) R s1)
    (hQ : ∀ h' tk, Hd h' → (∀ b o, s.heap.get? b = some o → h'.get? b = some o) → Q (.ref s.heap.objs.size) { s with heap := h', toks := tk }) :
    wpAny (model P w) A (call (.type "set") [.ref l]) Q E s := by
  obtain ⟨c, tl, hmro⟩ := PySem.F.called_set.mro
  have hmade := PySem.F.called_set.made; have hsub := PySem.F.called_set.sub
  have h1 := PySem.F.called_set.notType; have h2 := PySem.F.called_set.canCreate; have hct := PySem.F.typeCall_set_1 (.ref l)
  refine wpAny_call (codeAny_of_tree ?_); show wpAny _ _ (callAny (.type "set") _) _ _ _
  refine wpAny_pure ⟨Code.quiet_builtin _ (by decide +kernel), codeAny_builtin PySem.F.entry_type_call ?_⟩; rw [Around.under_plain (weight_type_call_type "set" [.ref l] []) rfl]
  repeat (any_goals (first | assumption | wp_step))
  refine codeAny_mono (code_set_led1 (.ref l) (E := E) (Q₁ := fun v s₁ => v = .ref s.heap.objs.size ∧ s₁ = { s with heap := s.heap.push (sObj "set" (d0 w)) }) ⟨rfl, rfl⟩) fun r s₁ hr => ?_
  cases r with
  | error e => exact hr
  | ok fl =>
    cases fl with
    | ret obj =>
      obtain ⟨rfl, rfl⟩ := hr
      have hS : (s.heap.push (sObj "set" (d0 w))).get? s.heap.objs.size = some (sObj "set" (d0 w)) := Heap.get?_push_size _ rfl
      have hT : Shared.TypeIs { s with heap := s.heap.push (sObj "set" (d0 w)) } (.ref s.heap.objs.size) "set" := ⟨_, hS, rfl⟩
      have hli := PySem.F.called_set.init.lookup; have hbi := PySem.F.called_set.init.bind (.ref s.heap.objs.size)
      repeat (any_goals (first | assumption | wp_step))
      have hz : (s.heap.push (sObj "set" (d0 w))).objs.size = s.heap.objs.size + 1 := Heap.size_push ..
      refine codeAny_mono (codeAny_call_builtin (R := wants (fun r s₂ => r = .none ∧ ∃ h' tk, s₂ = { s with heap := h', toks := tk } ∧ Hd h' ∧ (∀ b o, s.heap.get? b = some o → h'.get? b = some o)) E) PySem.F.called_set.init.plain PySem.F.entry_set_init (check_set_init_1 hT ?_)) fun r₂ s₂ hr₂ => ?_
      · have fin : ∀ (I : Addr) (ob : Obj) (s2 : Shared), I = s.heap.objs.size + 1 → Moved [s.heap.objs.size, I] (fun a b => b = a) { s with heap := (s.heap.push (sObj "set" (d0 w))).push ob } s2 → Hd s2.heap → ∃ h' tk, s2 = { s with heap := h', toks := tk } ∧ Hd h' ∧ (∀ b o, s.heap.get? b = some o → h'.get? b = some o) := fun I ob s2 eI hm hd => by
          obtain ⟨h', g2, d', tk', os'⟩ := s2
          obtain ⟨m1, m2, m3, m4, m5⟩ := hm
          cases m2; cases m3; cases m4
          refine ⟨h', tk', rfl, hd, fun b o e => m1 b o ?_ (Heap.get?_push_of_some _ (Heap.get?_push_of_some _ e))⟩
          have := Heap.lt_size e
          intro hb
          simp only [List.mem_cons, List.not_mem_nil, or_false] at hb
          rcases hb with e2 | e2
          · exact Nat.ne_of_lt this e2
          · rw [e2, eI] at this
            exact Nat.lt_irrefl _ (Nat.lt_of_succ_lt this)
        rcases hl with hl | hl
        · obtain ⟨ol, hol, hcl, nl, hdl⟩ := hl
          obtain ⟨oc, od, odt, osl⟩ := ol
          simp only at hcl hdl
          subst hcl; subst hdl
          have hol' : (s.heap.push (sObj "set" (d0 w))).get? l = some { cls := .type "list", dict := od, data := .seq items nl, slots := osl } := Heap.get?_push_of_some _ hol
          have q1 := PySem.F.sub_list_set; have q2 := PySem.F.sub_list_frozenset
          have q3 : (Value.type "list" == Value.type "dict") = false := by decide
          have hl1 : (s.heap.push (sObj "set" (d0 w))).IsList l items := ⟨_, hol', rfl, nl, rfl⟩
          have hlS := Heap.lt_size hol
          unfold Builtin.«set.__init__» noKeywords Builtin.Frozenset.updateFrom
          generalize hPI : pyIter = PI
          wp_walk
          subst hPI
          refine wpAny_pyIter_list hl1 (wpAny_bind (wpAny_runValue ?_))
          have hneI : l ≠ (s.heap.push (sObj "set" (d0 w))).objs.size := by rw [hz]; exact Nat.ne_of_lt (Nat.lt_succ_of_lt hlS)
          refine step _ _ _ _ _ _ rfl (Walks.list (by simp [hh]) _ l hneI items).toS ?_ ⟨⟨_, Heap.get?_push_size _ rfl, rfl, rfl⟩, hl1.push _⟩ (Heap.get?_push_of_some _ hS) (fun b o e => Heap.get?_push_of_some _ (Heap.get?_push_of_some _ e)) (by rw [hz]; exact Nat.lt_succ_self _) fun s2 hm hd => ?_
          · rw [hz]
            intro hb
            simp only [List.mem_cons, List.not_mem_nil, or_false] at hb
            rcases hb with e2 | e2
            · exact Nat.ne_of_lt (Nat.lt_succ_self _) e2
            · exact Nat.ne_of_gt hlS e2
          · obtain ⟨h', tk, e, hd, k⟩ := fin _ _ _ hz hm hd
            show wpAny _ _ _ _ _ _
            refine wpAny_pure ?_
            show wpAny _ _ (ret Value.none) _ _ _
            exact wpAny_pure ⟨rfl, h', tk, e, hd, k⟩
        · obtain ⟨ol, hol, hcl, nl, hdl⟩ := hl
          obtain ⟨oc, od, odt, osl⟩ := ol
          simp only at hcl hdl
          subst hcl; subst hdl
          have hol' : (s.heap.push (sObj "set" (d0 w))).get? l = some { cls := .type "tuple", dict := od, data := .seq items nl, slots := osl } := Heap.get?_push_of_some _ hol
          have q1 := PySem.F.sub_tuple_set; have q2 := PySem.F.sub_tuple_frozenset
          have q3 : (Value.type "tuple" == Value.type "dict") = false := by decide
          have hl1 : (s.heap.push (sObj "set" (d0 w))).IsTuple l items := ⟨_, hol', rfl, nl, rfl⟩
          have hlS := Heap.lt_size hol
          unfold Builtin.«set.__init__» noKeywords Builtin.Frozenset.updateFrom
          generalize hPI : pyIter = PI
          wp_walk
          subst hPI
          refine wpAny_pyIter_tuple hl1 (wpAny_bind (wpAny_runValue ?_))
          have hneI : l ≠ (s.heap.push (sObj "set" (d0 w))).objs.size := by rw [hz]; exact Nat.ne_of_lt (Nat.lt_succ_of_lt hlS)
          refine step _ _ _ _ _ _ rfl (Walks.tuple (by simp [hh]) _ l hneI items).toS ?_ ⟨⟨_, Heap.get?_push_size _ rfl, rfl, rfl⟩, hl1.push _⟩ (Heap.get?_push_of_some _ hS) (fun b o e => Heap.get?_push_of_some _ (Heap.get?_push_of_some _ e)) (by rw [hz]; exact Nat.lt_succ_self _) fun s2 hm hd => ?_
          · rw [hz]
            intro hb
            simp only [List.mem_cons, List.not_mem_nil, or_false] at hb
            rcases hb with e2 | e2
            · exact Nat.ne_of_lt (Nat.lt_succ_self _) e2
            · exact Nat.ne_of_gt hlS e2
          · obtain ⟨h', tk, e, hd, k⟩ := fin _ _ _ hz hm hd
            show wpAny _ _ _ _ _ _
            refine wpAny_pure ?_
            show wpAny _ _ (ret Value.none) _ _ _
            exact wpAny_pure ⟨rfl, h', tk, e, hd, k⟩
      · cases r₂ with
        | error e => exact hr₂
        | ok fl₂ =>
          cases fl₂ with
          | ret r =>
            obtain ⟨rfl, h', tk, rfl, hd, hk⟩ := hr₂
            repeat (any_goals (first | assumption | wp_step))
            exact hQ _ _ hd hk
          | _ => exact hr₂.elim
    | _ => exact hr.elim
theorem call_setI {l : Addr} {items : Array Value} (ns : List Int) {Q : Value → Shared → Prop} (hh : A.handled = none) (hl : s.heap.IsList l items ∨ s.heap.IsTuple l items) (hit : IntsAre items.toList ns) (hb : ns.length + 1 < scanBound)
    (hQ : ∀ h' tk c, SetR w h' s.heap.objs.size (fun j => decide (j ∈ ns)) c → c ≤ ns.length → (∀ b o, s.heap.get? b = some o → h'.get? b = some o) → Q (.ref s.heap.objs.size) { s with heap := h', toks := tk }) :
    wpAny (model P w) A (call (.type "set") [.ref l]) Q E s := by
  have hn : items.size = ns.length := by
    have q := IntsAre.length hit
    rw [Array.length_toList] at q; exact q
  have hval : ∀ (i : Nat) (v : Value), items[i]? = some v → ∃ k t, ns[i]? = some k ∧ v = .int k t := fun i v hv => by
    have hi : i < ns.length := by rw [← hn]; exact (Array.getElem?_eq_some_iff.mp hv).1
    obtain ⟨t, e⟩ := PyProof.Rows.IntsAre.int_at hit i v (by rw [Array.getElem?_toList]; exact hv)
    refine ⟨ns[i], t, List.getElem?_eq_getElem hi, ?_⟩
    rw [e, List.getD_eq_getElem?_getD, List.getElem?_eq_getElem hi] <;> rfl
  refine call_setSeq (Hd := fun h' => ∃ c, c ≤ ns.length ∧ SetR w h' s.heap.objs.size (fun j => decide (j ∈ ns)) c) hh hl (fun B I fp St s1 R _ W hf st0 hS keep hlt hR => ?_) fun h' tk ⟨c, h1, h2⟩ k => hQ h' tk c h2 h1 k
  exact set_update_ints W _ hf ns hn hb hval (items.size - 0) 0 s1 (by omega) (Nat.zero_le _) st0 ⟨0, Nat.le_refl 0, setR_new_at hS⟩ fun s' c hm hc hS' => hR s' hm ⟨c, by rw [← hn]; exact hc, hS'⟩
theorem call_setT {l : Addr} {items : Array Value} (ks : List (Addr × List Int)) {Q : Value → Shared → Prop} (hh : A.handled = none) (hl : s.heap.IsList l items ∨ s.heap.IsTuple l items) (hit : items.toList = ks.map fun p => Value.ref p.1)
    (hk : ∀ p ∈ ks, IsT P w s.heap p.2 p.1) (hfew : ks.length < 64) (hu : A.units + 3 < cLine)
    (hQ : ∀ h' tk L es ep t, SetTR P w h' s.heap.objs.size L es ep t → Got ks ks.length L → (∀ b o, s.heap.get? b = some o → h'.get? b = some o) → Q (.ref s.heap.objs.size) { s with heap := h', toks := tk }) :
    wpAny (model P w) A (call (.type "set") [.ref l]) Q E s := by
  have hn : items.size = ks.length := by
    have q := congrArg List.length hit
    rw [Array.length_toList, List.length_map] at q; exact q
  have hval : ∀ (i : Nat) (v : Value), items[i]? = some v → ∃ p, ks[i]? = some p ∧ v = .ref p.1 := fun i v hv => by
    have q : items.toList[i]? = some v := by rw [Array.getElem?_toList]; exact hv
    rw [hit, List.getElem?_map] at q
    cases hq : ks[i]? with
    | none => rw [hq] at q; cases q
    | some p => rw [hq] at q; exact ⟨p, rfl, (Option.some.inj q).symm⟩
  have non : ∀ b, s.heap.objs.size ≤ b → s.heap.get? b = none := fun b hb => by
    cases q : s.heap.get? b with
    | none => rfl
    | some o => exact absurd (Nat.lt_of_lt_of_le (Heap.lt_size q) hb) (Nat.lt_irrefl _)
  refine call_setSeq (Hd := fun h' => ∃ L es ep t, SetTR P w h' s.heap.objs.size L es ep t ∧ Got ks ks.length L) hh hl (fun B I fp St s1 R hB W hf st0 hS keep hlt hR => ?_) fun h' tk ⟨L, es, ep, t, h1, h2⟩ k => hQ h' tk L es ep t h1 h2 k
  refine set_update_tups W _ hf ks hn hfew hval s.heap hk (non _ (Nat.le_refl _)) (fun b hb => non b (by rw [List.mem_singleton.mp hb]; exact Nat.le_of_lt hlt)) (by rw [hB]; exact hu) (items.size - 0) 0 s1 (by omega) (Nat.zero_le _) st0 keep
    ⟨[], #[], 0, _, setTR_fresh hS, Got.zero ks⟩ fun s' L es ep t hm hS' g' hkp => hR s' hm ⟨L, es, ep, t, hS', by rw [← hn]; exact g'⟩
end
end SgS
namespace DM
open DL PySem PySem.Spec PyProof.Rows L2 DH
/-! ### ints put in their places, once -/
def insZ (x : Int) : List Int → List Int
  | [] => [x]
  | y :: r => if x < y then x :: y :: r else if x = y then y :: r else y :: insZ x r
def sgz : List Int → List Int
  | [] => []
  | x :: r => insZ x (sgz r)
theorem mem_insZ {x z : Int} : ∀ {l : List Int}, z ∈ insZ x l ↔ z = x ∨ z ∈ l
  | [] => by simp [insZ]
  | y :: r => by
    unfold insZ
    split
    · simp
    · split
      · rename_i h; subst h; simp
      · rw [List.mem_cons, mem_insZ (l := r), List.mem_cons]
        exact ⟨fun h => h.elim (fun z => .inr (.inl z)) fun h => h.elim .inl fun z => .inr (.inr z), fun h => h.elim (fun z => .inr (.inl z)) fun h => h.elim .inl fun z => .inr (.inr z)⟩
theorem insZ_lt (x : Int) : ∀ l : List Int, l.Pairwise (· < ·) → (insZ x l).Pairwise (· < ·)
  | [], _ => List.pairwise_singleton _ _
  | y :: r, h => by
    obtain ⟨h1, h2⟩ := List.pairwise_cons.mp h
    unfold insZ
    split
    · rename_i hx
      refine List.pairwise_cons.mpr ⟨fun z hz => ?_, h⟩
      rcases List.mem_cons.mp hz with rfl | hz
      · exact hx
      · have := h1 z hz; omega
    · split
      · exact h
      · refine List.pairwise_cons.mpr ⟨fun z hz => ?_, insZ_lt x r h2⟩
        rcases mem_insZ.mp hz with rfl | hz
        · omega
        · exact h1 z hz
theorem mem_sgz {z : Int} : ∀ {l : List Int}, z ∈ sgz l ↔ z ∈ l
  | [] => by simp [sgz]
  | x :: r => by rw [sgz, mem_insZ, mem_sgz (l := r), List.mem_cons]
theorem sgz_lt : ∀ l : List Int, (sgz l).Pairwise (· < ·)
  | [] => List.Pairwise.nil
  | x :: r => insZ_lt x _ (sgz_lt r)
theorem lt_oneZ : ∀ {l l' : List Int}, l.Pairwise (· < ·) → l'.Pairwise (· < ·) → (∀ x, x ∈ l ↔ x ∈ l') → l = l'
  | [], l', _, _, h => by
    cases l' with
    | nil => rfl
    | cons y r => exact absurd ((h y).mpr List.mem_cons_self) (by simp)
  | x :: r, l', p, p', h => by
    cases l' with
    | nil => exact absurd ((h x).mp List.mem_cons_self) (by simp)
    | cons y r' =>
      obtain ⟨h1, h2⟩ := List.pairwise_cons.mp p
      obtain ⟨g1, g2⟩ := List.pairwise_cons.mp p'
      have e : x = y := by
        rcases List.mem_cons.mp ((h x).mp List.mem_cons_self) with e | e
        · exact e
        · rcases List.mem_cons.mp ((h y).mpr List.mem_cons_self) with e2 | e2
          · exact e2.symm
          · have a := h1 y e2
            have b := g1 x e
            omega
      subst e
      congr 1
      refine lt_oneZ h2 g2 fun z => ?_
      have hz := h z
      simp only [List.mem_cons] at hz
      constructor
      · intro q
        rcases hz.mp (.inr q) with e | e
        · have := h1 z q; omega
        · exact e
      · intro q
        rcases hz.mpr (.inr q) with e | e
        · have := g1 z q; omega
        · exact e
def asPs : List D → Option (List (Int × Int))
  | [] => some []
  | .tup [.int a, .int b] :: ds => if 0 ≤ a ∧ a < 64 ∧ 0 ≤ b ∧ b < 64 then (match asPs ds with | some l => some ((a, b) :: l) | none => none) else none
  | _ :: _ => none
def unP (c : Int) : D := .tup [.int (c / 64), .int (c % 64)]
def gSortSetI : D → Option D
  | .lst ds => match asIs ds with | some l => if l.length < 60 then some (.lst ((sgz l).map .int)) else none | none => none
  | _ => none
def gSortSetT : D → Option D
  | .tup ds => match asPs ds with | some l => if l.length < 60 then some (.lst ((sgz (l.map fun p => p.1 * 64 + p.2)).map unP)) else none | none => none
  | _ => none
section
variable {X : Cx} {c : Cc} {wx : WX}
def tSetI (K : PySem.W.Frag) (ta : TE) : TE := fun σ H Q => ta σ H fun x H1 => ∃ (l : Addr) (ns : List Int), x = .ref l ∧ SqL K H1 l (ns.map V.int) ∧ ns.length < 60 ∧ ∀ r, H1 r = none → Q (.ref r) (upd H1 r (.lst ((sgz ns).map V.int)))
theorem pe_sortSetI {a : Expr} {ta : TE} {p p2 q pos : Pos} (hc : X.calm = true) (hg : Gl X "sorted") (hm : X.mg "sorted" = none) (hg2 : Gl X "set") (hm2 : X.mg "set" = none) (ha : PE X a ta)
    (na : starEach [a] X.env = (false, eval a X.env) :: starEach [] X.env := by rfl) : PE X (.Call (.Name "sorted" p) [.Call (.Name "set" p2) [a] [] q] [] pos) (tSetI X.K ta) := by
  refine ⟨fun pins s σ H Q I h => Call_ (ld_blt I hg hm boot_sorted (PyProof.Rows.callWith_builtin1 (PyProof.Rows.args_cons ?_ rfl) rfl rfl))⟩
  refine Call_ (ld_blt I hg2 hm2 boot_set (PyProof.Rows.callWith_type1 (PyProof.Rows.args_cons (thn (ha.run pins s σ H _ I h) fun v s1 ⟨x, H1, I1, r1, q1⟩ => PyProof.Rows.args_nil ?_) na) na rfl))
  obtain ⟨l, ns, rfl, hl, h60, q1⟩ := q1
  cases r1
  obtain ⟨its, rv, pl, hz⟩ := I1.list hl
  refine SgS.call_setI ns (I1.ok.hd hc) (.inl pl.isList) (by simpa using ints_of_vals rv) (Nat.lt_of_le_of_lt (m := 61) (by omega) (by decide)) fun h' t' cn R hcn hk => PyProof.Rows.args_nil ?_
  have I2 : Inv X pins σ H1 { s1 with heap := h', toks := t' } := I1.kept hk
  refine sorted_set (s := { s1 with heap := h', toks := t' }) R (I2.ok.hd hc) (by omega) fun s' r out cc ms k g o hp hg hi hs hm hln => ?_
  have e : ms = sgz ns := lt_oneZ hs (sgz_lt ns) fun x => by rw [hm, mem_sgz, decide_eq_true_eq]
  subst e
  have hlen : ((sgz ns).map V.int).length ≤ sizeLine := by rw [List.length_map, hln, sizeLine_eq]; omega
  have hn : H1 r = none := I2.hok.fresh hp
  have J : Inv X pins σ (upd H1 r (.lst ((sgz ns).map V.int))) { s1 with heap := s'.heap, gens := s'.gens, drawn := s'.drawn, toks := s'.toks } :=
    I2.call (s := { s1 with heap := h', toks := t' }) (ch := []) (Un.laid (h := h') k hp hn) (I2.hok.laid k hp ⟨hlen, out.toList, cc, vals_of_ints hi, hg⟩) (by rw [g]; exact I2.bare) (fun _ z => nomatch z)
  have e : s' = { s1 with heap := s'.heap, gens := s'.gens, drawn := s'.drawn, toks := s'.toks } := by
    cases s'; cases s1; cases o; rfl
  rw [e]
  exact ⟨.ref r, _, J, rfl, q1 r hn⟩
def tSetT (K : PySem.W.Frag) (ta : TE) : TE := fun σ H Q => ta σ H fun x H1 => ∃ (l : Addr) (ks : List (Addr × List Int)), x = .ref l ∧ SqT K H1 l (ks.map fun p => V.ref p.1) ∧ (∀ p ∈ ks, SqT K H1 p.1 (p.2.map V.int)) ∧ ks.length < 60 ∧ (∀ p ∈ ks, p.2.length = 2 ∧ TS.Bd 64 p.2) ∧
  ∀ (L' : List (Addr × List Int)) r, (∀ p ∈ L', p ∈ ks) → (∀ p ∈ ks, p.2 ∈ L'.map (·.2)) → (L'.map (·.2)).Nodup → L'.Pairwise (fun q r => TS.code 64 q.2 ≤ TS.code 64 r.2) → H1 r = none → Q (.ref r) (upd H1 r (.lst (L'.map fun q => V.ref q.1)))
theorem pe_sortSetT {a : Expr} {ta : TE} {p p2 q pos : Pos} (hc : X.calm = true) (hu : X.A.units + 64 < cLine) (hg : Gl X "sorted") (hm : X.mg "sorted" = none) (hg2 : Gl X "set") (hm2 : X.mg "set" = none) (ha : PE X a ta)
    (na : starEach [a] X.env = (false, eval a X.env) :: starEach [] X.env := by rfl) : PE X (.Call (.Name "sorted" p) [.Call (.Name "set" p2) [a] [] q] [] pos) (tSetT X.K ta) := by
  refine ⟨fun pins s σ H Q I h => Call_ (ld_blt I hg hm boot_sorted (PyProof.Rows.callWith_builtin1 (PyProof.Rows.args_cons ?_ rfl) rfl rfl))⟩
  refine Call_ (ld_blt I hg2 hm2 boot_set (PyProof.Rows.callWith_type1 (PyProof.Rows.args_cons (thn (ha.run pins s σ H _ I h) fun v s1 ⟨x, H1, I1, r1, q1⟩ => PyProof.Rows.args_nil ?_) na) na rfl))
  obtain ⟨l, ks, rfl, hl, hk, h60, hB, q1⟩ := q1
  cases r1
  obtain ⟨its, rv, ⟨ob, ho, hcl, n, hd⟩, hz⟩ := I1.tuple hl
  refine SgS.call_setT (P := X.prog) (w := X.w) ks (I1.ok.hd hc) (.inr ⟨ob, ho, hcl, n, hd⟩) (by simpa using refs_of_vals rv) (fun p hp => I1.isT (hk p hp)) (by omega) (Nat.lt_of_le_of_lt (Nat.add_le_add_left (by decide) _) hu) fun h' t' L es ep t R g hkp => PyProof.Rows.args_nil ?_
  have I2 : Inv X pins σ H1 { s1 with heap := h', toks := t' } := I1.kept hkp
  have sub : ∀ p ∈ L, p ∈ ks := fun p hp => List.mem_of_mem_take (g.sub p hp)
  refine sorted_setT (s := { s1 with heap := h', toks := t' }) (d := 2) (B := 64) R (I2.ok.hd hc) (by decide) (fun p hp => hB p (sub p hp)) fun s' r out cc L' k g' o hp hg hout pm pw => ?_
  have hlen : (L'.map fun q => V.ref q.1).length ≤ sizeLine := by
    have := R.few
    rw [List.length_map, pm.length_eq, sizeLine_eq]; omega
  have hn : H1 r = none := I2.hok.fresh hp
  have hv : Vals (L'.map fun q => V.ref q.1) out.toList := by rw [hout]; exact vals_of_refs L'
  have J : Inv X pins σ (upd H1 r (.lst (L'.map fun q => V.ref q.1))) { s1 with heap := s'.heap, gens := s'.gens, drawn := s'.drawn, toks := s'.toks } :=
    I2.call (s := { s1 with heap := h', toks := t' }) (ch := []) (Un.laid (h := h') k hp hn) (I2.hok.laid k hp ⟨hlen, out.toList, cc, hv, hg⟩) (by rw [g']; exact I2.bare) (fun _ z => nomatch z)
  have e : s' = { s1 with heap := s'.heap, gens := s'.gens, drawn := s'.drawn, toks := s'.toks } := by
    cases s'; cases s1; cases o; rfl
  rw [e]
  refine ⟨.ref r, _, J, rfl, q1 L' r (fun p hp => sub p (pm.mem_iff.mp hp)) (fun p hp => ?_) ((pm.map (·.2)).nodup_iff.mpr R.nd) pw hn⟩
  exact (pm.map (·.2)).mem_iff.mpr (g.all p (by rw [List.take_length]; exact hp))
theorem ints_at {t : Tp} {W : Wd} : ∀ l : List Int, AtL t W (l.map D.int) (l.map V.int)
  | [] => AtL.nil
  | a :: l => AtL.cons (by simp only [At]) (ints_at l)
theorem asIs_vals {t : Tp} {W : Wd} : ∀ {ds : List D} {l : List Int} {vs : List V}, asIs ds = some l → AtL t W ds vs → vs = l.map V.int
  | [], l, vs, e, a => by simp only [AtL] at a; cases e; exact a
  | d :: ds, l, vs, e, a => by
    obtain ⟨v, r, rfl, h1, h2⟩ := a.uncons
    cases d <;> first | (simp only [asIs] at e; cases e; done) | skip
    simp only [asIs] at e
    cases e2 : asIs ds with
    | none => rw [e2] at e; cases e
    | some l' =>
      rw [e2] at e
      cases e
      simp only [At] at h1
      rw [h1, asIs_vals e2 h2]
      rfl
theorem ge_sortSetI {a : Expr} {ma : M D} {p p2 q pos : Pos} (hc : X.calm = true) (hm : X.mg "sorted" = none) (hm2 : X.mg "set" = none) (ha : GE X c wx a ma) (hg : Gl X "sorted" := by rfl) (hg2 : Gl X "set" := by rfl)
    (na : starEach [a] X.env = (false, eval a X.env) :: starEach [] X.env := by rfl) : GE X c wx (.Call (.Name "sorted" p) [.Call (.Name "set" p2) [a] [] q] [] pos) (mOp1 gSortSetI ma) :=
  PE.imp (pe_sortSetI hc hg hm hg2 hm2 ha na) fun σ H Q ⟨W, ρ, h, r, l, p⟩ => tG_bind r l p fun d h1 v W1 H1 x1 r1 l1 a1 p1 => by
    obtain ⟨z, e1, k⟩ := fin_ok p1
    cases d <;> first | (simp only [gSortSetI] at e1; cases e1; done) | skip
    simp only [gSortSetI] at e1
    split at e1
    · rename_i ns hns
      split at e1
      · rename_i hl
        cases e1
        simp only [At] at a1
        obtain ⟨q, vs, rfl, hq, al⟩ := a1
        obtain rfl := asIs_vals hns al
        exact ⟨q, ns, rfl, .inl (r1.rd (.inl hq)), hl, fun r hr => k.lst r1 (ints_at _) hr⟩
      · cases e1
    · cases e1
/-- pairs as they stand -/
theorem asPs_vals {t : Tp} {W : Wd} : ∀ {ds : List D} {l : List (Int × Int)} {vs : List V}, asPs ds = some l → AtL t W ds vs → ∃ ks : List (Addr × List Int), vs = ks.map (fun p => V.ref p.1) ∧ ks.map (·.2) = l.map (fun p => [p.1, p.2]) ∧ ∀ p ∈ ks, ∃ a b : Int, p.2 = [a, b] ∧ 0 ≤ a ∧ a < 64 ∧ 0 ≤ b ∧ b < 64 ∧ SqT t.K W.G p.1 [.int a, .int b]
  | [], l, vs, e, a => by simp only [AtL] at a; cases e; exact ⟨[], a, rfl, fun _ z => nomatch z⟩
  | d :: ds, l, vs, e, al => by
    obtain ⟨v, r, rfl, h1, h2⟩ := al.uncons
    unfold asPs at e
    split at e
    · rename_i e0; cases e0
    · rename_i a b ds' e0
      cases e0
      split at e
      · rename_i hb
        split at e
        · rename_i l' e2
          cases e
          obtain ⟨ks, k1, k2, k3⟩ := asPs_vals e2 h2
          simp only [At] at h1
          obtain ⟨q, us, rfl, hq, aq⟩ := h1
          obtain ⟨v1, r1, rfl, b1, aq⟩ := aq.uncons
          obtain ⟨v2, r2, rfl, b2, aq⟩ := aq.uncons
          simp only [AtL] at aq
          simp only [At] at b1 b2
          subst aq b1 b2
          refine ⟨(q, [a, b]) :: ks, by rw [k1]; rfl, by rw [List.map_cons, k2]; rfl, fun p hp => ?_⟩
          rcases List.mem_cons.mp hp with rfl | hp
          · exact ⟨a, b, rfl, hb.1, hb.2.1, hb.2.2.1, hb.2.2.2, hq⟩
          · exact k3 p hp
        · cases e
      · cases e
    · cases e
theorem code2 (a b : Int) : TS.code 64 [a, b] = a * 64 + b := code_pair a b
theorem unP_at {t : Tp} {W : Wd} : ∀ L : List (Addr × List Int), (∀ p ∈ L, ∃ a b : Int, p.2 = [a, b] ∧ 0 ≤ a ∧ a < 64 ∧ 0 ≤ b ∧ b < 64 ∧ SqT t.K W.G p.1 [.int a, .int b]) → AtL t W ((L.map fun p => TS.code 64 p.2).map unP) (L.map fun q => V.ref q.1)
  | [], _ => AtL.nil
  | p :: L, h => by
    obtain ⟨a, b, e, h1, h2, h3, h4, h5⟩ := h p List.mem_cons_self
    refine AtL.cons ?_ (unP_at L fun q hq => h q (List.mem_cons_of_mem _ hq))
    show At t W (unP (TS.code 64 p.2)) _
    rw [e, code2]
    unfold unP
    rw [show (a * 64 + b) / 64 = a by omega, show (a * 64 + b) % 64 = b by omega]
    simp only [At, AtL]
    exact ⟨p.1, _, rfl, h5, _, _, rfl, rfl, _, _, rfl, rfl, rfl⟩
theorem ge_sortSetT {a : Expr} {ma : M D} {p p2 q pos : Pos} (hK : X.K = c.K) (hc : X.calm = true) (hu : X.A.units + 64 < cLine) (hm : X.mg "sorted" = none) (hm2 : X.mg "set" = none) (ha : GE X c wx a ma) (hg : Gl X "sorted" := by rfl) (hg2 : Gl X "set" := by rfl)
    (na : starEach [a] X.env = (false, eval a X.env) :: starEach [] X.env := by rfl) : GE X c wx (.Call (.Name "sorted" p) [.Call (.Name "set" p2) [a] [] q] [] pos) (mOp1 gSortSetT ma) :=
  PE.imp (pe_sortSetT hc hu hg hm hg2 hm2 ha na) fun σ H Q ⟨W, ρ, h, r, l, p⟩ => tG_bind r l p fun d h1 v W1 H1 x1 r1 l1 a1 p1 => by
    obtain ⟨z, e1, k⟩ := fin_ok p1
    cases d <;> first | (simp only [gSortSetT] at e1; cases e1; done) | skip
    simp only [gSortSetT] at e1
    split at e1
    · rename_i ps hps
      split at e1
      · rename_i hl
        cases e1
        simp only [At] at a1
        obtain ⟨q, vs, rfl, hq, al⟩ := a1
        obtain ⟨ks, rfl, k2, k3⟩ := asPs_vals hps al
        have hlen : ks.length = ps.length := by
          have := congrArg List.length k2
          simpa using this
        refine ⟨q, ks, rfl, by rw [hK]; exact r1.sqT hq, fun p hp => ?_, by omega, fun p hp => ?_, fun L' r hs ha hn hw hr => ?_⟩
        · obtain ⟨a, b, e, _, _, _, _, h5⟩ := k3 p hp
          rw [e, hK]; exact r1.sqT h5
        · obtain ⟨a, b, e, b1, b2, b3, b4, _⟩ := k3 p hp
          rw [e]
          refine ⟨rfl, fun m hm => ?_⟩
          simp only [List.mem_cons, List.not_mem_nil, or_false] at hm
          rcases hm with rfl | rfl <;> omega
        · have inj : ∀ p ∈ ks, ∀ q ∈ ks, TS.code 64 p.2 = TS.code 64 q.2 → p.2 = q.2 := fun p hp q hq e => by
            obtain ⟨a, b, e1, b1, b2, b3, b4, _⟩ := k3 p hp
            obtain ⟨a', b', e2, c1, c2, c3, c4, _⟩ := k3 q hq
            rw [e1, e2, code2, code2] at e
            rw [e1, e2, show a = a' by omega, show b = b' by omega]
          have e : sgz (ps.map fun p => p.1 * 64 + p.2) = L'.map fun p => TS.code 64 p.2 := by
            refine lt_oneZ (sgz_lt _) ?_ fun x => ?_
            · rw [List.pairwise_map]
              rw [List.Nodup, List.pairwise_map] at hn
              refine (hw.and hn).imp_of_mem fun {p q} hp hq ⟨g1, g2⟩ => ?_
              have : TS.code 64 p.2 ≠ TS.code 64 q.2 := fun z => g2 (inj p (hs p hp) q (hs q hq) z)
              omega
            · have e3 : (ps.map fun p => p.1 * 64 + p.2) = ks.map fun p => TS.code 64 p.2 := by
                have : (ps.map fun p => [p.1, p.2]).map (TS.code 64) = (ks.map (·.2)).map (TS.code 64) := by rw [k2]
                rw [List.map_map, List.map_map] at this
                rw [← show ks.map ((TS.code 64) ∘ (·.2)) = ks.map fun p => TS.code 64 p.2 from rfl, ← this]
                exact List.map_congr_left fun p _ => (code2 p.1 p.2).symm
              rw [mem_sgz, e3]
              simp only [List.mem_map]
              constructor
              · rintro ⟨p, hp, rfl⟩
                obtain ⟨q, hq, eq⟩ := List.mem_map.mp (ha p hp)
                exact ⟨q, hq, by rw [eq]⟩
              · rintro ⟨p, hp, rfl⟩
                exact ⟨p, hs p hp, rfl⟩
          rw [e] at k
          exact k.lst r1 (unP_at L' fun p hp => k3 p (hs p hp)) hr
      · cases e1
    · cases e1
/-! ### isinstance(x, (tuple, list)) -/
def gIsTL (d : D) : Option D := match tyN d with
  | some a => some (.bl (subTy a "tuple" || subTy a "list"))
  | none => none
theorem kit_any2 {K : PySem.W.Frag} {d : D} {a : String} (h : tyN d = some a) : PySem.W.kitAny K (.type a) [.type "tuple", .type "list"] = some (subTy a "tuple" || subTy a "list") := by
  refine kitAny_cons (kit_sub h (by decide)) (fun e => ?_) (fun e => by rw [e]; rfl)
  rw [e, Bool.false_or]
  exact kitAny_cons (kit_sub h (by decide)) (fun e => by rw [e]; rfl) (fun e => e)
theorem ge_isTL {e : Expr} {p p1 p2 tpos pos : Pos} {k} {me : M D} (hK : X.K = c.K) (hm : X.mg "isinstance" = none) (hm1 : X.mg "tuple" = none) (hm2 : X.mg "list" = none) (he : GE X c wx e me) (hg : Gl X "isinstance" := by rfl) (hg1 : Gl X "tuple" := by rfl) (hg2 : Gl X "list" := by rfl)
    (s1 : starEach [e, .Tuple [.Name "tuple" p1, .Name "list" p2] k tpos] X.env = (false, eval e X.env) :: starEach [.Tuple [.Name "tuple" p1, .Name "list" p2] k tpos] X.env := by rfl) :
    GE X c wx (.Call (.Name "isinstance" p) [e, .Tuple [.Name "tuple" p1, .Name "list" p2] k tpos] [] pos) (mOp1 gIsTL me) :=
  PE.imp (pe_callB call_isiT hg hm (by decide +kernel) (pa_cons he (pa_cons (pe_tup (pa_cons (pe_bltn (v := .ty "tuple") hg1 hm1 (by decide +kernel) rfl (by decide) (by decide)) (pa_cons (pe_bltn (v := .ty "list") hg2 hm2 (by decide +kernel) rfl (by decide) (by decide)) pa_nil))) pa_nil) s1) (by decide) (by decide) s1) fun σ H Q ⟨W, ρ, h, r, l, p⟩ => tG_bind r l p fun d h1 v W1 H1 x1 r1 l1 a1 p1 => by
    obtain ⟨z, e1, k⟩ := fin_ok p1
    unfold gIsTL at e1
    cases et : tyN d with
    | none => rw [et] at e1; cases e1
    | some t =>
      rw [et] at e1
      cases e1
      refine ⟨by show 2 ≤ sizeLine; rw [sizeLine_eq]; omega, fun T hT => ?_⟩
      refine ⟨v, T, [.ty "tuple", .ty "list"], .type t, [.type "tuple", .type "list"], _, rfl, upd_same, .cons (.ty _) (.cons (.ty _) .nil), ?_, kit_any2 et, ?_⟩
      · rw [hK]; exact ty_at (r1.free hT) a1 et
      · exact k _ _ _ (ext_free r1 hT) (r1.free hT) (by simp only [At])
/-! ### pairs by their order -/
def gLtT : D → D → Option D
  | .tup [.int a, .int b], .tup [.int x, .int y] => some (.bl (decide (a < x ∨ (a = x ∧ b < y))))
  | _, _ => none
theorem og_ltT (hK : X.K = c.K) (hu : X.A.units < cLine) : OpR X (compareOp .Lt) (rG2 c gLtT) := by
  intro pins s σ H x y v u Q I rx ry ⟨W, h, d, e, z, r, ax, ay, hz, q⟩
  unfold gLtT at hz
  split at hz
  · rename_i a b a' b'
    cases hz
    simp only [At] at ax ay
    obtain ⟨p1, vs, rfl, hp1, al1⟩ := ax
    obtain ⟨p2, us, rfl, hp2, al2⟩ := ay
    simp only [AtL, At] at al1 al2
    obtain ⟨_, _, rfl, rfl, _, _, rfl, rfl, rfl⟩ := al1
    obtain ⟨_, _, rfl, rfl, _, _, rfl, rfl, rfl⟩ := al2
    refine op_ltT hu pins s σ H _ _ v u Q I rx ry ⟨p1, p2, [a, b], [a', b'], rfl, rfl, by rw [hK]; exact r.sqT hp1, by rw [hK]; exact r.sqT hp2, ?_⟩
    have e : HT.lexLt [a, b] [a', b'] = decide (a < a' ∨ (a = a' ∧ b < b')) := by
      simp only [HT.lexLt]
      by_cases c1 : a = a'
      · subst c1
        by_cases c2 : b = b'
        · subst c2; simp
        · simp [c2]
      · simp [c1]
    rw [e]
    exact q.bl r
  · cases hz
end
end DM

/-! Own objects as cells: made, their fields, properties, classmethods; f-strings. -/
namespace DB
open DL PySem PySem.Spec PyProof.Rows L2 DH DM
section
variable {X : Cx} {c : Cc} {wx : WX}
/-! ### f-strings -/
def gFmt : D → Option D
  | .str s => if s.length ≤ big then some (.str s) else none
  | .int i => if 0 ≤ i ∧ i.natAbs < 2 ^ 1900 then some (.str (TL.numL i.toNat)) else none
  | _ => none
theorem ge_fmt {e : Expr} {pos : Pos} {me : M D} (he : GE X c wx e me) : GE X c wx (.FormattedValue e (-1) none pos) (mOp1 gFmt me) :=
  PE.imp (pe_fmt he) fun σ H Q ⟨W, ρ, h, r, l, p⟩ => tG_bind r l p fun d h1 v W1 H1 x1 r1 l1 a1 p1 => by
    obtain ⟨z, e1, k⟩ := fin_ok p1
    cases d <;> first | (simp only [gFmt] at e1; cases e1; done) | skip
    · rename_i i
      simp only [gFmt] at e1
      split at e1
      · rename_i hi
        cases e1
        simp only [At] at a1
        have := k.str r1
        rw [← str_num hi.1] at this
        exact .inr ⟨i, a1, Nat.lt_of_lt_of_le (PySem.Flt.log2_lt_of (by decide) hi.2) (by decide), this⟩
      · cases e1
    · rename_i s
      simp only [gFmt] at e1
      split at e1
      · rename_i hs
        cases e1
        simp only [At] at a1
        exact .inl ⟨_, a1, big_le (by simpa [Str.length] using hs), k.str r1⟩
      · cases e1
def mCat : List (M D) → List Nat → M D
  | [], acc => fun _ h => .ok (.str acc) h
  | m :: r, acc => fun ρ h => (m ρ h).bind fun d h1 => match d with
    | .str s => if acc.length + s.length ≤ big then mCat r (acc ++ s) ρ h1 else .stuck
    | _ => .stuck
inductive GJ (X : Cx) (c : Cc) (wx : WX) : List Expr → List (M D) → Prop
  | nil : GJ X c wx [] []
  | cons {e : Expr} {m : M D} {es : List Expr} {ms : List (M D)} : GE X c wx e m → GJ X c wx es ms → GJ X c wx (e :: es) (m :: ms)
theorem GJ.pj {es : List Expr} {ms : List (M D)} (g : GJ X c wx es ms) : PJ X es (ms.map (tD c wx)) := by
  induction g with
  | nil => exact .nil
  | cons h _ ih => exact .cons h ih
theorem cat_run {σ : L2.St} : ∀ {ms : List (M D)} {acc : List Nat} {H : Hp} {Q : VK}, tD c wx (mCat ms acc) σ H Q → tJs (ms.map (tD c wx)) ⟨acc.toArray⟩ σ H fun out H1 => Q (.str out) H1
  | [], acc, H, Q, ⟨W, ρ, h, r, l, p⟩ => p _ W H (Ext.refl _ _ _) r (by simp only [At])
  | m :: ms, acc, H, Q, ⟨W, ρ, h, r, l, p⟩ => tG_bind r l p fun d h1 v W1 H1 x1 r1 l1 a1 p1 => by
    cases d <;> first | exact False.elim p1 | skip
    rename_i s
    simp only [At] at a1
    by_cases hl : acc.length + s.length ≤ big
    · replace p1 : EPost c wx W1 σ H1 (fun W _ => At c.toTp W) (mCat ms (acc ++ s) ρ h1) Q := by
        have e : (if acc.length + s.length ≤ big then mCat ms (acc ++ s) ρ h1 else .stuck) = mCat ms (acc ++ s) ρ h1 := if_pos hl
        rw [← e]; exact p1
      have ea : (⟨acc.toArray⟩ : Str) ++ ⟨s.toArray⟩ = ⟨(acc ++ s).toArray⟩ := by
        show (⟨acc.toArray ++ s.toArray⟩ : Str) = _
        rw [List.append_toArray]
      refine ⟨⟨s.toArray⟩, a1, ?_, ?_⟩
      · rw [ea]
        exact big_le (by simpa [Str.length] using hl)
      · rw [ea]
        exact cat_run ⟨W1, ρ, h1, r1, l1, p1⟩
    · have e : (if acc.length + s.length ≤ big then mCat ms (acc ++ s) ρ h1 else .stuck) = (.stuck : Out D) := if_neg hl
      have p2 : EPost c wx W1 σ H1 (fun W _ => At c.toTp W) (if acc.length + s.length ≤ big then mCat ms (acc ++ s) ρ h1 else .stuck) Q := p1
      rw [e] at p2
      exact False.elim p2
theorem ge_joined {v1 v2 : Expr} {rest : List Expr} {ms : List (M D)} {pos : Pos} (g : GJ X c wx (v1 :: v2 :: rest) ms) : GE X c wx (.JoinedStr (v1 :: v2 :: rest) pos) (mCat ms []) :=
  PE.imp (pe_joined g.pj) fun σ H Q t => cat_run t
theorem ge_joined1 {e : Expr} {m : M D} {pos : Pos} (g : GE X c wx e m) : GE X c wx (.JoinedStr [e] pos) m := pe_joined1 g
/-! ### fields -/
theorem FAt.look {t : Tp} {W : Wd} {f : Str} {d : D} : ∀ {fs : List (Str × D)} {vs : List (Str × V)}, FAt t W fs vs → fs.lookup f = some d → ∃ v, vs.lookup f = some v ∧ At t W d v
  | [], _, _, e => by cases e
  | (x, y) :: r, vs, a, e => by
    simp only [FAt] at a
    obtain ⟨v, us, rfl, a1, a2⟩ := a
    rw [List.lookup_cons] at e ⊢
    cases hb : f == x with
    | true => rw [hb] at e; cases e; exact ⟨v, rfl, a1⟩
    | false => rw [hb] at e; exact FAt.look a2 e
def putD (f : Str) (d : D) : List (Str × D) → List (Str × D)
  | [] => [(f, d)]
  | (g, x) :: r => if g = f then (g, d) :: r else (g, x) :: putD f d r
theorem FAt.put {t : Tp} {W : Wd} {f : Str} {d : D} {v : V} (a : At t W d v) : ∀ {fs : List (Str × D)} {vs : List (Str × V)}, FAt t W fs vs → FAt t W (putD f d fs) (putF f v vs)
  | [], vs, h => by
    simp only [FAt] at h
    subst h
    simp only [putD, putF, FAt]
    exact ⟨v, [], rfl, a, rfl⟩
  | (x, y) :: r, vs, h => by
    simp only [FAt] at h
    obtain ⟨w, us, rfl, a1, a2⟩ := h
    simp only [putD, putF]
    by_cases e : x = f
    · rw [if_pos e, if_pos e]
      simp only [FAt]
      exact ⟨v, us, rfl, a, a2⟩
    · rw [if_neg e, if_neg e]
      simp only [FAt]
      exact ⟨w, _, rfl, a1, FAt.put a a2⟩
theorem FAt.len {t : Tp} {W : Wd} : ∀ {fs : List (Str × D)} {vs : List (Str × V)}, FAt t W fs vs → fs.length = vs.length
  | [], vs, h => by simp only [FAt] at h; subst h; rfl
  | (x, y) :: r, vs, h => by
    simp only [FAt] at h
    obtain ⟨w, us, rfl, a1, a2⟩ := h
    simp [FAt.len a2]
/-- the fields of the object d of the class n -/
def insOf (n : Nat) (h : Cells) (d : D) : Option (List (Str × D)) := match d with
  | .cel k => match h[k]? with
    | some (.ins n' fs) => if n' = n then some fs else none
    | _ => none
  | _ => none
theorem insOf_some {n : Nat} {h : Cells} {d : D} {fs : List (Str × D)} (e : insOf n h d = some fs) : ∃ k, d = .cel k ∧ h[k]? = some (.ins n fs) := by
  unfold insOf at e
  split at e
  · rename_i k
    split at e
    · rename_i n' fs' e2
      split at e
      · rename_i e3
        cases e
        exact ⟨k, rfl, by rw [e2, e3]⟩
      · cases e
    · cases e
  · cases e
theorem ins_at {W : Wd} {h : Cells} {H : Hp} {n C : Nat} {d : D} {v : V} {fs : List (Str × D)} (r : HRel c W h H) (hg : c.gl n = .ref C) (e : insOf n h d = some fs) (a : At c.toTp W d v) :
    ∃ k p dx vs, d = .cel k ∧ h[k]? = some (.ins n fs) ∧ v = .ref p ∧ W.ι[k]? = some p ∧ H p = some (.ins C dx vs) ∧ FAt c.toTp W fs vs := by
  obtain ⟨k, rfl, e2⟩ := insOf_some e
  simp only [At] at a
  obtain ⟨p, rfl, hp⟩ := a
  obtain ⟨_, C', dx, vs, h1, h2, h3⟩ := r.cel k _ p e2 hp
  rw [hg] at h1
  cases h1
  exact ⟨k, p, dx, vs, rfl, e2, rfl, hp, h2, h3⟩
def mFld (n : Nat) (f : Str) (m : M D) : M D := fun ρ h => (m ρ h).bind fun d h1 => match insOf n h1 d with
  | some fs => fin (fs.lookup f) h1
  | none => .stuck
theorem ge_fld {e : Expr} {f : Str} {pos : Pos} {n : Nat} {C : Addr} {me : M D} (hK : X.K = c.K) (hg : c.gl n = .ref C) (hC : Cls X.K C) (hn : NoAttr X.K C f) (he : GE X c wx e me) (hb : attributeBase e f X.env (eval e X.env) = eval e X.env := by rfl) :
    GE X c wx (.Attribute e f pos) (mFld n f me) :=
  PE.imp (pe_fld he hb) fun σ H Q ⟨W, ρ, h, r, l, p⟩ => tG_bind r l p fun d h1 v W1 H1 x1 r1 l1 a1 p1 => by
    cases ei : insOf n h1 d with
    | none => rw [ei] at p1; exact False.elim p1
    | some fs =>
      rw [ei] at p1
      obtain ⟨z, e1, k⟩ := fin_ok p1
      obtain ⟨j, q, dx, vs, rfl, _, rfl, _, hq, fa⟩ := ins_at r1 hg ei a1
      obtain ⟨v, lv, av⟩ := DB.FAt.look fa e1
      exact ⟨q, C, dx, vs, v, rfl, hq, hC, hn, lv, k.here r1 av⟩
def sFldS (n : Nat) (f : Str) (mo me : M D) : MS := fun ρ h => SO.of (me ρ h) fun d h1 => SO.of (mo ρ h1) fun o h2 => match insOf n h2 o with
  | some fs => match o with
    | .cel k => if fs.length < 1000 then .nx ρ (h2.set k (.ins n (putD f d fs))) else .stuck
    | _ => .stuck
  | none => .stuck
theorem gs_fld {o e : Expr} {f : Str} {pos pos' : Pos} {n : Nat} {C : Addr} {mo me : M D} (hg : c.gl n = .ref C) (hC : Cls X.K C) (hn : NoAttr X.K C f) (ho : GE X c wx o mo) (he : GE X c wx e me)
    (hs : swapsWith e (some (.Attribute o f pos')) pos.line X.env = pure false := by rfl) : GS X c wx (.Assign [.Attribute o f pos'] e pos) (sFldS n f mo me) :=
  PS.imp (ps_fld ho he hs) fun D σ H ⟨B, W, ρ, h, s, p⟩ => S_bind s p fun d h1 v W1 H1 x1 s1 a1 p1 => S_bind s1 p1 fun o h2 u W2 H2 x2 s2 a2 p2 => by
    cases ei : insOf n h2 o with
    | none => rw [ei] at p2; exact False.elim p2
    | some fs =>
      rw [ei] at p2
      obtain ⟨k, q, dx, vs, rfl, ek, rfl, hi, hq, fa⟩ := ins_at s2.r hg ei a2
      replace p2 : SPost c wx B (if fs.length < 1000 then SO.nx ρ (h2.set k (.ins n (putD f d fs))) else SO.stuck) D := p2
      by_cases hl : fs.length < 1000
      · rw [if_pos hl] at p2
        refine ⟨q, C, dx, vs, rfl, hq, hC, hn, by rw [← DB.FAt.len fa]; exact hl, p2 W2 _ _ (s2.mutC ek hi hq trivial ⟨C, dx, _, hg, upd_same, DB.FAt.put (At.mono x2.le a1) fa⟩)⟩
      · rw [if_neg hl] at p2
        exact False.elim p2
/-! ### made -/
theorem passN {E0 : XK} (tk : L2N.Takes X (fun cls dd _ H' => E0 cls dd H')) : Passes (L2N.CX X.prog X.w) X E0 := fun pins σ H s e s' I cx => L2N.passAt tk σ pins H s e s' I cx
def mkT (k : Nat) (o : Out D) : Out D := o.bind fun r h2 => match r with
  | .non => .ok (.cel k) h2
  | _ => .stuck
def mMk (n : Nat) (F : FS) (ma : M (List D)) : M D := fun ρ h => (ma ρ h).bind fun ds h1 => mkT h1.length (F (.cel h1.length :: ds) (h1 ++ [.ins n []]))
theorem epost_ext {W W1 : Wd} {σ : L2.St} {H H1 : Hp} {α β : Type} {R : Wd → Hp → α → β → Prop} {o : Out α} {Q : β → Hp → Prop} (x1 : Ext W H [] W1 H1) (q : EPost c wx W σ H R o Q) : EPost c wx W1 σ H1 R o Q := by
  cases o with
  | ok d h2 => exact fun v W' H' x r a => q v W' H' (x1.trans0 x) r a
  | exc d h2 => exact fun cls dd W' H' x r a => q cls dd W' H' (x1.trans0 x) r a
  | stuck => exact q
theorem mk_post {W : Wd} {σ : L2.St} {H : Hp} {h : Cells} {n m C : Nat} {F : FS} {ds : List D} {vs : List V} {Q : VK} {E0 : XK} (r : HRel c W h H) (a : AtL c.toTp W ds vs) (hg : c.gl n = .ref C) (hl : ds.length + 1 = m)
    (p : EPost c (fun cls dd _ H' => E0 cls dd H') W σ H (fun W _ => At c.toTp W) (mkT h.length (F (.cel h.length :: ds) (h ++ [.ins n []]))) Q) :
    ∀ x dx, H x = none → H dx = none → dx ≠ x → spD c m F (.ref x :: (vs ++ [])) (upd (upd H dx (.own x)) x (.ins C dx [])) (fun v H2 => v = .non ∧ Q (.ref x) H2) E0 := fun x dx hx hdx ne => by
  have r1 : HRel c W h (upd H dx (.own x)) := r.free hdx
  have hx1 : upd H dx (.own x) x = none := by rw [upd_ne (Ne.symm ne)]; exact hx
  have r2 : HRel c (W.cell x) (h ++ [.ins n []]) (upd (upd H dx (.own x)) x (.ins C dx [])) := cell_rel r1 hx1 ⟨C, dx, [], hg, upd_same, by simp only [FAt]⟩
  have e2 : Ext W H [] (W.cell x) (upd (upd H dx (.own x)) x (.ins C dx [])) := (ext_free r hdx).trans0 (cell_ext r1 hx1)
  have ac : At c.toTp (W.cell x) (.cel h.length) (.ref x) := by
    simp only [At]
    refine ⟨x, rfl, ?_⟩
    show (W.ι ++ [x])[h.length]? = some x
    rw [← r.len, List.getElem?_append_right (Nat.le_refl _)]
    simp
  rw [List.append_nil]
  refine ⟨by rw [List.length_cons, ← AtL.length a]; exact hl, W.cell x, _, .cel h.length :: ds, r2, AtL.cons ac (AtL.mono e2.le a), ?_⟩
  generalize F (.cel h.length :: ds) (h ++ [.ins n []]) = o at p
  cases o with
  | stuck => exact p
  | exc d h2 => exact fun cls dd W' H' x' r' a' => p cls dd W' H' (e2.trans0 x') r' a'
  | ok d h2 =>
    cases d <;> first | exact False.elim p | skip
    refine fun v W' H' x' r' a' => ?_
    simp only [At] at a'
    exact ⟨a', p _ W' H' (e2.trans0 x') r' (At.mono x'.le ac)⟩
theorem mk_args {W : Wd} {ρ : DL.Env} {σ : L2.St} {H : Hp} {h : Cells} {n m C j : Nat} {F : FS} {ma : M (List D)} {Q : VK} {E0 : XK} (r : HRel c W h H) (l : DL.Loc c.toTp W ρ σ H) (hg : c.gl n = .ref C) (hl : j + 1 = m) (hlen : ∀ ρ h ds h', ma ρ h = .ok ds h' → ds.length = j)
    (q : EPost c (fun cls dd _ H' => E0 cls dd H') W σ H (fun W _ => At c.toTp W) (mMk n F ma ρ h) Q) :
    tL c (fun cls dd _ H' => E0 cls dd H') ma σ H (fun vs H2 => ∀ x dx, H2 x = none → H2 dx = none → dx ≠ x → spD c m F (.ref x :: (vs ++ [])) (upd (upd H2 dx (.own x)) x (.ins C dx [])) (fun v H2 => v = .non ∧ Q (.ref x) H2) E0) := ⟨W, ρ, h, r, l, by
  replace q : EPost c (fun cls dd _ H' => E0 cls dd H') W σ H (fun W _ => At c.toTp W) ((ma ρ h).bind fun ds h1 => mkT h1.length (F (.cel h1.length :: ds) (h1 ++ [.ins n []]))) Q := q
  cases em : ma ρ h with
  | exc x h' => rw [em] at q; exact q
  | stuck => rw [em] at q; exact q
  | ok ds h' =>
    rw [em] at q
    intro vs W1 H1 x1 r1 a1
    exact mk_post (σ := σ) r1 a1 hg (by rw [hlen ρ h ds h' em, ← hl]) (epost_ext x1 q)⟩
theorem ge_mk {x : Str} {n k m : Nat} {C f : Addr} {fd : FuncData} {ps : List Str} {F : FS} {p pos : Pos} {e : Expr} {es : List Expr} {ma : M (List D)} {E0 : XK} (hg : c.gl n = .ref C) (M : Mk X.K C f) (hF : FnOk X.prog X.w X.K X.mg X.base (L2N.CX X.prog X.w) k f fd ps (spD c m F)) (hb : Binds X.K fd ps []) (hr : Room (k + 1) X.A)
    (tk : L2N.Takes X (fun cls dd _ H' => E0 cls dd H')) (hm : X.mg x = some (.ref C)) (ha : GA X c (fun cls dd _ H' => E0 cls dd H') (e :: es) ma) (hl : (e :: es).length + 1 = m := by rfl) (hlen : ∀ ρ h ds h', ma ρ h = .ok ds h' → ds.length = (e :: es).length) (hgl : Gl X x := by rfl) (hdb : (x == ("__debug__" : Str)) = false := by decide)
    (he : starEach (e :: es) X.env = (false, eval e X.env) :: starEach es X.env := by rfl) (hpl : (backTo pos (starEach es X.env)).any (·.1) = false := by rfl) : GE X c (fun cls dd _ H' => E0 cls dd H') (.Call (.Name x p) (e :: es) [] pos) (mMk n F ma) :=
  PE.imp (pe_make M hF hr hgl hm hb .nil (passN tk) ha hdb he hpl) fun σ H Q ⟨W, ρ, h, r, l, q⟩ => mk_args r l hg hl hlen q
/-- cls(..), cls a name that holds the class -/
def mMkV (i n : Nat) (F : FS) (ma : M (List D)) : M D := fun ρ h => match ρ[i]? with
  | some (some (.val (.glb k))) => if k = n then mMk n F ma ρ h else .stuck
  | _ => .stuck
theorem ge_mkV {a : Str} {i n k m : Nat} {C f : Addr} {fd : FuncData} {ps : List Str} {F : FS} {p pos : Pos} {e : Expr} {es : List Expr} {ma : M (List D)} {E0 : XK} (hg : c.gl n = .ref C) (M : Mk X.K C f) (hF : FnOk X.prog X.w X.K X.mg X.base (L2N.CX X.prog X.w) k f fd ps (spD c m F)) (hb : Binds X.K fd ps []) (hr : Room (k + 1) X.A)
    (tk : L2N.Takes X (fun cls dd _ H' => E0 cls dd H')) (ha : GA X c (fun cls dd _ H' => E0 cls dd H') (e :: es) ma) (hl : (e :: es).length + 1 = m := by rfl) (hlen : ∀ ρ h ds h', ma ρ h = .ok ds h' → ds.length = (e :: es).length) (hN : X.N[i]? = some a := by rfl)
    (hv : Vis X.env.scope a := by first | exact Or.inl rfl | exact Or.inr (Or.inl rfl) | exact Or.inr (Or.inr rfl)) (hd : (a == ("__debug__" : Str)) = false := by decide) (hcd : (a == ("__classdict__" : Str)) = false := by decide)
    (he : starEach (e :: es) X.env = (false, eval e X.env) :: starEach es X.env := by rfl) (hpl : (backTo pos (starEach es X.env)).any (·.1) = false := by rfl) : GE X c (fun cls dd _ H' => E0 cls dd H') (.Call (.Name a p) (e :: es) [] pos) (mMkV i n F ma) := ⟨fun pins s σ H Q I ⟨W, ρ, h, r, l, q⟩ => by
  replace q : EPost c (fun cls dd _ H' => E0 cls dd H') W σ H (fun W _ => At c.toTp W) (match ρ[i]? with | some (some (.val (.glb k))) => if k = n then mMk n F ma ρ h else .stuck | _ => .stuck) Q := q
  cases ei : ρ[i]? with
  | none => rw [ei] at q; exact False.elim q
  | some o =>
    rw [ei] at q
    cases o with
    | none => exact False.elim q
    | some sv =>
      cases sv with
      | own m => exact False.elim q
      | val d =>
        cases d <;> first | exact False.elim q | skip
        rename_i k'
        replace q : EPost c (fun cls dd _ H' => E0 cls dd H') W σ H (fun W _ => At c.toTp W) (if k' = n then mMk n F ma ρ h else .stuck) Q := q
        by_cases hk : k' = n
        · rw [if_pos hk] at q
          obtain ⟨v, es1, av⟩ := l.at_ i _ ei
          have av' : At c.toTp W (.glb k') v := av
          simp only [At] at av'
          rw [hk, hg] at av'
          subst av'
          refine wpAny_Call_Name_kw (thn ((pe_var (pos := p) hN hv hd hcd).run pins s σ H (fun v H1 => v = .ref C ∧ H1 = H) I ⟨.ref C, es1, rfl, rfl⟩) fun u s1 ⟨v, H1, I1, r1, ev, q1⟩ => ?_)
          subst ev q1
          obtain rfl : u = Value.ref C := r1
          refine PySem.W.callWith_K (h₀ := X.base) I1.ok.mod.kin M.kp (thn (ha.run pos pins s1 σ H1 _ I1 (mk_args r l hg hl hlen q)) fun us s2 ⟨vs, H2, I2, rv, q2⟩ => ⟨I2.kIn, ?_⟩) he hpl
          exact run_make M hF hr hb .nil (passN tk) I2 rv q2
        · rw [if_neg hk] at q
          exact False.elim q⟩
/-! ### a classmethod -/
def mCM (n : Nat) (F : FS) (ma : M (List D)) : M D := fun ρ h => (ma ρ h).bind fun ds h1 => F (.glb n :: ds) h1
theorem ge_cm {x me : Str} {n k m : Nat} {C f pp : Addr} {mc : Value} {fd : FuncData} {ps : List Str} {F : FS} {p pos apos : Pos} {e : Expr} {es : List Expr} {ma : M (List D)} {E0 : XK} {pl : Sem Bool} (hg : c.gl n = .ref C) (hR : ClX.CRead X.K C mc) (hC : ClX.CMet X.K C mc me pp f)
    (hF : FnOk X.prog X.w X.K X.mg X.base (L2N.CX X.prog X.w) k f fd ps (spD c m F)) (hb : Binds X.K fd ps []) (hr : Room k X.A) (tk : L2N.Takes X (fun cls dd _ H' => E0 cls dd H')) (hm : X.mg x = some (.ref C)) (ha : GA X c (fun cls dd _ H' => E0 cls dd H') (e :: es) ma)
    (hl : (e :: es).length + 1 = m := by rfl) (hlen : ∀ ρ h ds h', ma ρ h = .ok ds h' → ds.length = (e :: es).length) (hgl : Gl X x := by rfl) (hdb : (x == ("__debug__" : Str)) = false := by decide)
    (he : starEach (e :: es) X.env = (false, eval e X.env) :: starEach es X.env := by rfl) (hpl : (backTo pos (starEach es X.env)).any (·.1) = false := by rfl)
    (ht : eval (.Call (.Attribute (.Name x p) me apos) (e :: es) [] pos) X.env = (do
      let ov ← eval (.Name x p) X.env
      standAt apos.atName
      let (f, first) ← holding [ov] (getMethod ov me pl)
      callWith pos f first (backTo pos (starEach (e :: es) X.env)) (backToKw pos (keywordEach [] X.env))) := by rfl) :
    GE X c (fun cls dd _ H' => E0 cls dd H') (.Call (.Attribute (.Name x p) me apos) (e :: es) [] pos) (mCM n F ma) :=
  PE.imp (ClX.pe_cmeth (pe_glob (v := .ref C) hgl hm rfl hdb) hR hC (hF.raw hb .nil) hr (passN tk) ha he hpl ht) fun σ H Q ⟨W, ρ, h, r, l, q⟩ => ⟨rfl, W, ρ, h, r, l, by
    replace q : EPost c (fun cls dd _ H' => E0 cls dd H') W σ H (fun W _ => At c.toTp W) ((ma ρ h).bind fun ds h1 => F (.glb n :: ds) h1) Q := q
    cases em : ma ρ h with
    | exc x h' => rw [em] at q; exact q
    | stuck => rw [em] at q; exact q
    | ok ds h' =>
      rw [em] at q
      replace q : EPost c (fun cls dd _ H' => E0 cls dd H') W σ H (fun W _ => At c.toTp W) (F (.glb n :: ds) h') Q := q
      intro vs W1 H1 x1 r1 a1
      refine ⟨?_, W1, h', .glb n :: ds, r1, ?_, ?_⟩
      · rw [List.append_nil, List.length_cons, ← AtL.length a1, hlen ρ h ds h' em, ← hl]
      · rw [List.append_nil]
        exact AtL.cons (by simp only [At]; exact hg.symm) a1
      · generalize F (.glb n :: ds) h' = o at q
        cases o with
        | ok d h2 => exact fun v W' H' x r a => q v W' H' (x1.trans0 x) r a
        | exc d h2 => exact fun cls dd W' H' x r a => q cls dd W' H' (x1.trans0 x) r a
        | stuck => exact q⟩
/-! ### a property -/
def mProp (n : Nat) (F : FS) (m : M D) : M D := fun ρ h => (m ρ h).bind fun d h1 => match insOf n h1 d with
  | some _ => (F [d] h1).calm
  | none => .stuck
theorem passNo : Passes (L2N.CX X.prog X.w) X.nox (fun _ _ _ => False) := fun pins σ H s e s' I z => by
  obtain ⟨_, _, _, _, _, _, _, _, _, _, _, _, _, _, _, _, _, _, _, h⟩ := z
theorem ge_prop {e : Expr} {f : Str} {pos : Pos} {n k : Nat} {C g pp : Addr} {fd : FuncData} {ps : List Str} {F : FS} {me : M D} (hg : c.gl n = .ref C) (hC : Cls X.K C) (hP : PropOf X.K C f pp g) (hF : FnOk X.prog X.w X.K X.mg X.base (L2N.CX X.prog X.w) k g fd ps (spD c 1 F)) (hb : Binds X.K fd ps []) (hr : Room (k + 1) X.A)
    (he : GE X c wx e me) (hab : attributeBase e f X.env (eval e X.env) = eval e X.env := by rfl) : GE X c wx (.Attribute e f pos) (mProp n F me) :=
  PE.imp (pe_prop he hC hP hF hr hb .nil passNo hab) fun σ H Q ⟨W, ρ, h, r, l, p⟩ => tG_bind r l p fun d h1 v W1 H1 x1 r1 l1 a1 p1 => by
    cases ei : insOf n h1 d with
    | none => rw [ei] at p1; exact False.elim p1
    | some fs =>
      rw [ei] at p1
      obtain ⟨j, q, dx, vs, rfl, _, rfl, _, hq, fa⟩ := ins_at r1 hg ei a1
      refine ⟨q, dx, vs, rfl, hq, rfl, W1, h1, [.cel j], r1, AtL.cons a1 AtL.nil, ?_⟩
      replace p1 : EPost c wx W1 σ H1 (fun W _ => At c.toTp W) (F [.cel j] h1).calm Q := p1
      cases ef : F [.cel j] h1 with
      | stuck => rw [ef] at p1; exact p1
      | exc d h2 => rw [ef] at p1; exact False.elim p1
      | ok d h2 => rw [ef] at p1; exact p1
/-! ### str(o) -/
def mStrO (n : Nat) (F : FS) (m : M D) : M D := fun ρ h => (m ρ h).bind fun d h1 => match insOf n h1 d with
  | some _ => match F [d] h1 with
    | .ok (.str s) h2 => .ok (.str s) h2
    | _ => .stuck
  | none => .stuck
def rStrO (c : Cc) (C : Addr) (F : FS) : List V → Hp → VK → Prop := fun vs H Q => ∃ a dx fs, vs = [.ref a] ∧ H a = some (.ins C dx fs) ∧ spD c 1 F [.ref a] H (fun v H2 => ∃ y, v = .str y ∧ Q v H2) (fun _ _ _ => False)
theorem call_strO {k : Nat} {C g : Addr} {fd : FuncData} {ps : List Str} {F : FS} (hs : PySem.W.findIn X.K (.ref C) "__str__" = some (some (.ref g))) (hf : PySem.W.isFn X.K (.ref g) = true) (hF : FnOk X.prog X.w X.K X.mg X.base (L2N.CX X.prog X.w) k g fd ps (spD c 1 F)) (hb : Binds X.K fd ps []) (hl : ps.length = 1) (hr : Room (k + 2) X.A) :
    CallR X (.type "str") (rStrO c C F) := by
  intro pins s σ H xs us Q I r ⟨a, dx, fs, ex, ea, h⟩
  subst ex
  rw [Vals.ref1 r]
  obtain ⟨mA, O, _⟩ := ins_get I.hok ea
  obtain ⟨od, J, _⟩ := O.look
  have hu : X.A.in1.in1.units < cLine := by have := hr.un; show X.A.units + 2 < cLine; omega
  refine PySem.W.kso_call hu I.kIn J hs hf (wpAny_call (codeAny_mono (hF.run X.A.in1.in1 X.stack s H ⟨[.ref a], []⟩ [.ref a] [.ref a] _ _ hr.in1.in1 I.env0.in1.in1 (hb s [.ref a] I.kIn (by rw [hl]; rfl)) (.cons rfl .nil) h) fun r s' hq => ?_))
  cases r with
  | error er => exact False.elim (passNo pins σ H s er s' (I.wish _) hq)
  | ok fl =>
    cases fl with
    | ret u =>
      obtain ⟨v, H', I3, rv, y, rfl, q3⟩ := I.after hq
      obtain ⟨t, rfl⟩ := rv
      exact ⟨.str y, H', I3, ⟨t, rfl⟩, q3⟩
    | next => exact False.elim hq
    | brk => exact False.elim hq
    | cont => exact False.elim hq
theorem ge_strO {e : Expr} {p pos : Pos} {n k : Nat} {C g : Addr} {fd : FuncData} {ps : List Str} {F : FS} {me : M D} (hg : c.gl n = .ref C) (hs : PySem.W.findIn X.K (.ref C) "__str__" = some (some (.ref g))) (hf : PySem.W.isFn X.K (.ref g) = true) (hF : FnOk X.prog X.w X.K X.mg X.base (L2N.CX X.prog X.w) k g fd ps (spD c 1 F)) (hb : Binds X.K fd ps []) (hl : ps.length = 1) (hr : Room (k + 2) X.A)
    (hm : X.mg "str" = none) (he : GE X c wx e me) (hgl : Gl X "str" := by rfl) (hes : starEach [e] X.env = (false, eval e X.env) :: starEach [] X.env := by rfl) (hpl : (backTo pos (starEach [] X.env)).any (·.1) = false := by rfl) :
    GE X c wx (.Call (.Name "str" p) [e] [] pos) (mStrO n F me) :=
  PE.imp (pe_callTy (call_strO (c := c) hs hf hF hb hl hr) hgl hm (by decide +kernel) (pa_cons he pa_nil hes) (by decide) (by decide) hes hpl) fun σ H Q ⟨W, ρ, h, r, l, p⟩ => tG_bind r l p fun d h1 v W1 H1 x1 r1 l1 a1 p1 => by
    cases ei : insOf n h1 d with
    | none => rw [ei] at p1; exact False.elim p1
    | some fs =>
      rw [ei] at p1
      obtain ⟨j, q, dx, vs, rfl, _, rfl, _, hq, fa⟩ := ins_at r1 hg ei a1
      refine ⟨q, dx, vs, rfl, hq, rfl, W1, h1, [.cel j], r1, AtL.cons a1 AtL.nil, ?_⟩
      replace p1 : EPost c wx W1 σ H1 (fun W _ => At c.toTp W) (match F [.cel j] h1 with | .ok (.str s) h2 => .ok (.str s) h2 | _ => .stuck) Q := p1
      generalize F [.cel j] h1 = o at p1
      cases o with
      | stuck => exact p1
      | exc d h2 => exact False.elim p1
      | ok d h2 =>
        cases d <;> first | exact False.elim p1 | skip
        rename_i s
        refine fun v W' H' x' r' a' => ?_
        have a2 := a'
        simp only [At] at a2
        exact ⟨_, a2, p1 v W' H' x' r' a'⟩
end
end DB

/-! Lists of lists that change: xs != [], targets out of such; strip. -/
namespace DB
open DL PySem PySem.Spec PyProof.Rows L2 DH DM
section
variable {X : Cx} {c : Cc} {wx : WX}
/-! ### xs != [] -/
def dpH (h : Cells) : D → Option PyData
  | .cel k => match h[k]? with
    | some (.lst ds) => (match toPyL ds with | some l => some (.list l) | none => none)
    | _ => none
  | d => toPy d
def dpHL (h : Cells) : List D → Option (List PyData)
  | [] => some []
  | d :: r => match dpH h d, dpHL h r with
    | some p, some l => some (p :: l)
    | _, _ => none
theorem dp_at {W : Wd} {h : Cells} {H : Hp} (r : HRel c W h H) {d : D} {v : V} {p : PyData} (a : At c.toTp W d v) (e : dpH h d = some p) : Dp c.K H v p := by
  cases d <;> first
    | exact toPy_dp rfl r (show At c.toTp W _ v from a) e
    | skip
  rename_i k
  simp only [dpH] at e
  simp only [At] at a
  obtain ⟨q, rfl, hq⟩ := a
  cases em : h[k]? with
  | none => rw [em] at e; cases e
  | some m =>
    rw [em] at e
    obtain ⟨_, ma⟩ := r.cel k m q em hq
    cases m with
    | dic _ _ => cases e
    | ins _ _ => cases e
    | lst ds =>
      obtain ⟨vs, h1, al⟩ := ma
      cases e2 : toPyL ds with
      | none => simp only [e2] at e; cases e
      | some l =>
        simp only [e2] at e
        cases e
        exact .lst (.inl (.inl h1)) (toPyL_dp rfl r al e2)
theorem dpL_at {W : Wd} {h : Cells} {H : Hp} (r : HRel c W h H) : ∀ {ds : List D} {vs : List V} {l : List PyData}, AtL c.toTp W ds vs → dpHL h ds = some l → DpAll c.K H vs l
  | [], vs, l, a, e => by simp only [AtL] at a; subst a; cases e; exact .nil
  | d :: ds, vs, l, a, e => by
    obtain ⟨v, u, rfl, a1, a2⟩ := a.uncons
    simp only [dpHL] at e
    cases e1 : dpH h d with
    | none => rw [e1] at e; cases e
    | some p =>
      cases e2 : dpHL h ds with
      | none => rw [e1, e2] at e; cases e
      | some q => rw [e1, e2] at e; cases e; exact .cons (dp_at r a1 e1) (dpL_at r a2 e2)
def gNeE (h : Cells) (x : Bv) : Option D := match view h x with
  | some (.lst ds) => (match dpHL h ds with
    | some l => if SeqAt.shaped (.list l) = true then some (.bl (!l.isEmpty)) else none
    | none => none)
  | _ => none
def mNeE (ma : M Bv) : M D := fun ρ h => (ma ρ h).bind fun x h1 => fin (gNeE h1 x) h1
theorem neE_t {ma : M Bv} (hK : X.K = c.K) (σ : L2.St) (H : Hp) (Q : VK) (t : tD c wx (mNeE ma) σ H Q) : tOp (rNeD X.K) (tG c wx (fun W H => BAt c.toTp W H) ma) (tLst tNil) σ H Q := by
  obtain ⟨W, ρ, h, r, l, p⟩ := t
  exact tG_bind r l p fun d h1 v W1 H1 x1 r1 l1 a1 p1 => by
    obtain ⟨z, e1, k⟩ := fin_ok p1
    refine ⟨by show 0 ≤ sizeLine; exact Nat.zero_le _, fun q hq => ?_⟩
    unfold gNeE at e1
    split at e1
    · rename_i ds ev
      split at e1
      · rename_i ls el
        split at e1
        · rename_i hs
          cases e1
          have va := VAt.see r1 ev a1
          obtain ⟨a, vs, rfl, hr, al⟩ := va
          have r2 := r1.free (o := .lst []) hq
          have hr2 : SqL c.K (upd H1 q (.lst [])) a vs := by
            refine .inl ?_
            rcases hr with z | ⟨o, z⟩
            · exact .inl (by rw [upd_ne (ne_of_none z hq)]; exact z)
            · exact .inr ⟨o, by rw [upd_ne (ne_of_none z hq)]; exact z⟩
          refine ⟨.list ls, .list [], ?_, ?_, hs, by decide, ?_⟩
          · rw [hK]; exact .lst hr2 (dpL_at r2 al el)
          · rw [hK]; exact .lst (.inl (.inl upd_same)) .nil
          · have : PyData.eqv (.list ls) (.list []) = ls.isEmpty := by cases ls <;> simp [PyData.eqv, PyData.eqvAll]
            rw [this]
            exact k _ _ _ (ext_free r1 hq) r2 (by simp only [At])
        · cases e1
      · cases e1
    · cases e1
theorem ge_neE {a : Expr} {pos p2 : Pos} {ma : M Bv} (hK : X.K = c.K) (hu : X.A.units + 64 < cLine) (ha : GB X c wx a ma) (hm : behindInMarks .NotEq (.List [] p2) = false := by rfl) : GE X c wx (.Compare a [.NotEq] [.List [] p2] pos) (mNeE ma) :=
  PE.imp (pe_cmpR (op_neD hu) ha (pe_lst pa_nil) hm) fun σ H Q t => neE_t hK σ H Q t
theorem gt_neE {a : Expr} {pos p2 : Pos} {ma : M Bv} (hK : X.K = c.K) (hu : X.A.units + 64 < cLine) (ha : GB X c wx a ma) (hm : behindInMarks .NotEq (.List [] p2) = false := by rfl) : GT X c wx (.Compare a [.NotEq] [.List [] p2] pos) (mAsB (mNeE ma)) :=
  PT.imp (pt_cmpR (op_neD hu) ha (pe_lst pa_nil) hm) fun σ H Q t => neE_t hK _ _ _ (asB_t t)
/-! ### targets that see what the lists hold -/
abbrev TgtC := Cells → D → DL.Env → Option DL.Env
def gDC (c : Cc) (vs : List Nat) (t : TgtC) : TG := fun x σ H Q => ∃ B W ρ h d ρ', SR c B W ρ h σ H ∧ At c.toTp W d x ∧ t h d ρ = some ρ' ∧ ∀ σ', SR c B W ρ' h σ' H → Off vs σ σ' → Q σ' H
def GGC (X : Cx) (c : Cc) (tg : Expr) (vs : List Nat) (t : TgtC) : Prop := PG X tg (gDC c vs t)
/-- a tuple of names, the item a list that changes -/
def tgC (n : Nat) (u : Tgts) : TgtC := fun h d ρ => match d with
  | .cel k => match h[k]? with
    | some (.lst ds) => if ds.length = n then u ds ρ else none
    | _ => none
  | _ => none
theorem ggc_lst {es : List Expr} {k : Nat} {pos : Pos} {n : Nat} {u : Tgts} {vs : List Nat} (hK : X.K = c.K) (hc : X.calm = true) (h : GGs X c es vs u) (hn : (assignEach es X.env).length = n := by rfl) (hst : (assignEach es X.env).findIdx? (·.1) = none := by rfl) :
    GGC X c (.Tuple es k pos) vs (tgC n u) := PG.imp (pg_lst hc h hn hst) fun x σ H Q ⟨B, W, ρ, h, d, ρ', s, a, e, kk⟩ => by
  cases d <;> first | (simp only [tgC] at e; cases e; done) | skip
  rename_i j
  simp only [tgC] at e
  simp only [At] at a
  obtain ⟨q, rfl, hq⟩ := a
  cases em : h[j]? with
  | none => rw [em] at e; cases e
  | some m =>
    rw [em] at e
    obtain ⟨_, ma⟩ := s.r.cel j m q em hq
    cases m with
    | dic _ _ => cases e
    | ins _ _ => cases e
    | lst ds =>
      obtain ⟨us, h1, al⟩ := ma
      simp only at e
      split at e
      · rename_i hl
        exact ⟨q, us, rfl, .inl (.inl h1), by rw [← al.length]; exact hl, B, W, ρ, h, _, ρ', s, al, e, kk⟩
      · cases e
def mLoopC (t : TgtC) (tt : M Bool) (te : M D) (ρ : DL.Env) : List D → List D → Cells → Out (List D)
  | [], acc, h => .ok acc h
  | d :: ds, acc, h => match t h d ρ with
    | none => .stuck
    | some ρ1 => (tt ρ1 h).calm.bind fun b h1 => if b then (te ρ1 h1).calm.bind fun x h2 => if acc.length < big then mLoopC t tt te ρ ds (acc ++ [x]) h2 else .stuck else mLoopC t tt te ρ ds acc h1
def mLcC (mi : M (List D)) (t : TgtC) (tt : M Bool) (te : M D) (vs : List Nat) : M (List D) := fun ρ h => (mi ρ h).bind fun ds h1 => mLoopC t tt te (wipeE ρ vs) ds [] h1
abbrev mLcVC (mi : M (List D)) (t : TgtC) (tt : M Bool) (te : M D) (vs : List Nat) : M D := fun ρ h => (mLcC mi t tt te vs ρ h).bind fun ds h1 => .ok (.lst ds) h1
theorem lc_tC {mi : M (List D)} {t : TgtC} {tt : M Bool} {te : M D} {vs : List Nat} (σ : L2.St) (H : Hp) (Q : VK) (tq : tD c wx (mLcVC mi t tt te vs) σ H Q) :
    tLc (tI c wx mi) (gDC c vs t) (tQ c wx0 tt) (tD c wx0 te) vs σ H Q := by
  obtain ⟨W, ρ, h, r, l, p⟩ := tq
  refine ⟨W, ρ, h, r, l, ?_⟩
  replace p : EPost c wx W σ H (fun W _ => At c.toTp W) (((mi ρ h).bind fun ds h1 => mLoopC t tt te (wipeE ρ vs) ds [] h1).bind fun ds h1 => .ok (.lst ds) h1) Q := p
  cases e : mi ρ h with
  | exc x h' => rw [e] at p; exact p
  | stuck => rw [e] at p; exact p
  | ok ds h' =>
    rw [e] at p
    replace p : EPost c wx W σ H (fun W _ => At c.toTp W) ((mLoopC t tt te (wipeE ρ vs) ds [] h').bind fun ds h1 => .ok (.lst ds) h1) Q := p
    intro J W1 H1 x1 r1 sv Dl hD
    have l1 : Loc c.toTp W1 ρ σ H1 := l.ext x1
    have p1 : EPost c wx W1 σ H1 (fun W _ => At c.toTp W) ((mLoopC t tt te (wipeE ρ vs) ds [] h').bind fun ds h1 => .ok (.lst ds) h1) Q := by
      cases eo : (mLoopC t tt te (wipeE ρ vs) ds [] h').bind (fun ds h1 => Out.ok (D.lst ds) h1) with
      | ok a h => rw [eo] at p; exact fun v W' H' x r a => p v W' H' (x1.trans0 x) r a
      | exc a h => rw [eo] at p; exact fun cls dd W' H' x r a => p cls dd W' H' (x1.trans0 x) r a
      | stuck => rw [eo] at p; exact p
    refine ⟨fun i m H => m = ds.length - i ∧ i ≤ ds.length ∧ ∃ W2 h2 acc, LcW c W1 H1 Dl acc W2 h2 H ∧ EPost c wx W1 σ H1 (fun W _ => At c.toTp W) ((mLoopC t tt te (wipeE ρ vs) (ds.drop i) acc h2).bind fun ds h1 => .ok (.lst ds) h1) Q,
      ⟨ds.length, by simp, Nat.zero_le _, W1, h', [], LcW.start r1 hD, p1⟩, ?_⟩
    rintro i m H2 ⟨rfl, hi, W2, h2, acc, s2, p2⟩
    obtain ⟨q1, q2⟩ := sv W2 h2 H2 i s2.x.le s2.r
    by_cases hlt : i < ds.length
    · have ed : ds.drop i = ds[i] :: ds.drop (i + 1) := List.drop_eq_getElem_cons hlt
      rw [ed] at p2
      obtain ⟨g1, g2⟩ := q2 ds[i] (List.getElem?_eq_getElem hlt)
      refine .inr ⟨g1, fun H3 => ∃ W3 h3 acc, LcW c W1 H1 Dl acc W3 h3 H3 ∧ EPost c wx W1 σ H1 (fun W _ => At c.toTp W) ((mLoopC t tt te (wipeE ρ vs) (ds.drop (i + 1)) acc h3).bind fun ds h1 => .ok (.lst ds) h1) Q,
        fun H3 z => ⟨ds.length - (i + 1), by omega, rfl, hlt, z⟩, fun x H3 y => ?_⟩
      obtain ⟨W3, x3, r3, a3⟩ := g2 x H3 y
      have s3 := s2.ext x3 r3
      simp only [mLoopC] at p2
      cases et : t h2 ds[i] (wipeE ρ vs) with
      | none => rw [et] at p2; exact False.elim p2
      | some ρ1 =>
        rw [et] at p2
        simp only at p2
        have l3 : Loc c.toTp W3 (wipeE ρ vs) (L2.wipe σ vs) H3 := (l1.wipe vs).extX s3.x fun p hp => by rw [List.mem_singleton.mp hp]; exact nt_no hD
        have sr : SR c (Bs.at W3 H3 (wipeE ρ vs) (L2.wipe σ vs)) W3 (wipeE ρ vs) h2 (L2.wipe σ vs) H3 := ⟨Ext.refl _ _ _, r3, l3, fun i m p e1 e2 => .inl (ownL_mem e1 e2)⟩
        refine ⟨_, W3, wipeE ρ vs, h2, ds[i], ρ1, sr, a3, et, fun σ4 s4 o4 => ⟨wipe_off o4, W3, ρ1, h2, s4.r, s4.l, ?_⟩⟩
        have pk : ∀ {α' β' : Type} {R' : Wd → Hp → α' → β' → Prop} {o : Out α'} {f : α' → Cells → Out D}, EPost c wx W1 σ H1 (fun W _ => At c.toTp W) ((o.calm.bind f)) Q → (∀ d h', o = .ok d h' → EPost c wx W1 σ H1 (fun W _ => At c.toTp W) (f d h') Q) := by
          intro α' β' R' o f z d h' eo
          rw [eo] at z
          exact z
        cases ett : tt ρ1 h2 with
        | exc _ _ => rw [ett] at p2; exact False.elim p2
        | stuck => rw [ett] at p2; exact False.elim p2
        | ok b h4 =>
          rw [ett] at p2
          intro b' W4 H4 x4 r4 eb
          subst eb
          have s5 := s3.ext x4 r4
          cases b with
          | false =>
            rw [if_neg Bool.false_ne_true]
            exact ⟨W4, h4, acc, s5, p2⟩
          | true =>
            rw [if_pos rfl]
            refine ⟨W4, ρ1, h4, r4, s4.l.ext x4, ?_⟩
            replace p2 : EPost c wx W1 σ H1 (fun W _ => At c.toTp W) (((te ρ1 h4).calm.bind fun x h2 => if acc.length < big then mLoopC t tt te (wipeE ρ vs) (ds.drop (i + 1)) (acc ++ [x]) h2 else .stuck).bind fun ds h1 => .ok (.lst ds) h1) Q := p2
            cases ete : te ρ1 h4 with
            | exc _ _ => rw [ete] at p2; exact False.elim p2
            | stuck => rw [ete] at p2; exact False.elim p2
            | ok d h5 =>
              rw [ete] at p2
              replace p2 : EPost c wx W1 σ H1 (fun W _ => At c.toTp W) ((if acc.length < big then mLoopC t tt te (wipeE ρ vs) (ds.drop (i + 1)) (acc ++ [d]) h5 else .stuck).bind fun ds h1 => .ok (.lst ds) h1) Q := p2
              by_cases hl : acc.length < big
              · rw [if_pos hl] at p2
                intro v W5 H5 x5 r5 a5
                have s6 := s5.ext x5 r5
                obtain ⟨us, e6, al⟩ := s6.l
                exact ⟨us, e6, by rw [← al.length, sizeLine_eq]; exact hl, W5, h5, acc ++ [d], s6.app e6 a5 hD, p2⟩
              · rw [if_neg hl] at p2
                exact False.elim p2
    · have e0 : i = ds.length := by omega
      subst e0
      rw [List.drop_length] at p2
      refine .inl ⟨q1 rfl, ?_⟩
      obtain ⟨W', x', r', a'⟩ := s2.done hD
      exact p2 _ W' H2 x' r' a'
theorem ge_lcC {elt tg iter : Expr} {ifs : List Expr} {scope : Scope} {own : List (Str × Nat)} {pos : Pos} {mi : M (List D)} {t : TgtC} {tt : M Bool} {te : M D} (hc : X.calm = true) (hN : X.N.Nodup) (hi : GI X c wx tg iter mi) (ok : blkC X.N X.env.scope scope own = true)
    (hg : ∀ (s : Shared) (H : Hp) (C : Addr) (cl : List (Str × Addr)) (fp : List Addr), GGC (X.blk s H scope (compEnvC scope cl C X.env) fp) c tg (own.map (·.2)) t)
    (ht : ∀ (s : Shared) (H : Hp) (C : Addr) (cl : List (Str × Addr)) (fp : List Addr), GTs (X.blk s H scope (compEnvC scope cl C X.env) fp) c wx0 ifs tt)
    (he : ∀ (s : Shared) (H : Hp) (C : Addr) (cl : List (Str × Addr)) (fp : List Addr), GE (X.blk s H scope (compEnvC scope cl C X.env) fp) c wx0 elt te) (hs : ∀ x, foldedSetIterable iter X.env x = pure x := by intro _; rfl) :
    GE X c wx (.ListComp elt [⟨tg, iter, ifs, 0⟩] scope pos) (mLcVC mi t tt te (own.map (·.2))) :=
  PE.imp (pe_lc hc hN hi (blkOk_by ok) hg ht he hs) fun σ H Q q => lc_tC σ H Q q
/-! ### strip -/
def gStrip : D → D → Option D
  | .str s, .str t => if s.length ≤ big then some (.str (Txt.stripChars ⟨s.toArray⟩ ⟨t.toArray⟩).cps.toList) else none
  | _, _ => none
end
end DB

/-! strip of signs; a, b = x, t.split(..) where b is a list of its own. -/
namespace DB
open DL PySem PySem.Spec PyProof.Rows L2 DH DM
section
variable {X : Cx} {c : Cc} {wx : WX}
theorem ge_strip {o e : Expr} {apos pos : Pos} {mo ma : M D} (ho : GE X c wx o mo) (ha : GE X c wx e ma)
    (hs : starEach [e] X.env = [(false, eval e X.env)] := by rfl) (hbase : attributeBase o "strip" X.env (eval o X.env) = eval o X.env := by rfl) (hline : (apos.endLine == pos.line) = true := by rfl) :
    GE X c wx (.Call (.Attribute o "strip" apos) [e] [] pos) (mStrM gStrip mo ma) :=
  PE.imp (pe_m1 PySem.F.slot_str_strip PySem.F.type_str_strip mt_stripChars ho ha hs hbase hline) fun σ H Q ⟨W, ρ, h, r, l, p⟩ => tG_bind r l p fun d h1 v W1 H1 x1 r1 l1 a1 p1 => by
    cases d <;> first | exact False.elim p1 | skip
    rename_i s
    simp only [At] at a1
    subst a1
    refine ⟨⟨_, rfl⟩, ?_⟩
    refine tG_bind r1 l1 p1 fun e h2 u W2 H2 x2 r2 l2 a2 p2 => ?_
    obtain ⟨z, e1, k⟩ := fin_ok p2
    cases e <;> first | (simp only [gStrip] at e1; cases e1; done) | skip
    rename_i t
    simp only [gStrip] at e1
    split at e1
    · rename_i hb
      cases e1
      simp only [At] at a2
      exact ⟨_, _, rfl, by rw [a2], big_le (by simpa [Str.length] using hb), k.str r2⟩
    · cases e1
def sPar2S (i j : Nat) (ma mo me : M D) : MS := fun ρ h => SO.of (ma ρ h) fun x h1 => SO.of (mo ρ h1) fun s h2 => match s with
  | .str _ => SO.of (me ρ h2) fun t h3 => match gSplit s t with
    | some (.lst ds) => .nx ((ρ.set i (some (.val x))).set j (some (.own (.lst ds)))) h3
    | _ => .stuck
  | _ => .stuck
theorem gs_par2S {i j : Nat} {x y : Str} {a o e : Expr} {px py pt pos apos pc : Pos} {kt k2 pt2} {ma mo me : M D} (hc : X.calm = true) (ha : GE X c wx a ma) (ho : GE X c wx o mo) (he : GE X c wx e me)
    (hpe : ∀ {to te : TE}, PE X o to → PE X e te → PE X (.Call (.Attribute o "split" apos) [e] [] pc) (tM1 (fun x xs H Q => ∃ a b, x = .str a ∧ xs = [.str b] ∧ (b.length == 0) = false ∧ a.length + 2 ≤ sizeLine ∧ rNewStrs (Txt.split a b) H Q) to te))
    (hN : X.N.Nodup) (hi : X.N[i]? = some x := by rfl) (hj : X.N[j]? = some y := by rfl) (hij : i ≠ j := by decide)
    (hx : X.env.scope.names.lookup x = some .local := by rfl) (hy : X.env.scope.names.lookup y = some .local := by rfl) (h1 : starEach [a, .Call (.Attribute o "split" apos) [e] [] pc] X.env = (false, eval a X.env) :: starEach [.Call (.Attribute o "split" apos) [e] [] pc] X.env := by rfl)
    (h2 : starEach [.Call (.Attribute o "split" apos) [e] [] pc] X.env = (false, eval (.Call (.Attribute o "split" apos) [e] [] pc) X.env) :: starEach [] X.env := by rfl)
    (hw : swappedStores [.Tuple [.Name x px, .Name y py] kt pt] (.Tuple [a, .Call (.Attribute o "split" apos) [e] [] pc] k2 pt2) X.env = pure (some [x, y]) := by rfl) (hs : swapsWithSole [.Tuple [.Name x px, .Name y py] kt pt] (.Tuple [a, .Call (.Attribute o "split" apos) [e] [] pc] k2 pt2) pos.line X.env = pure false := by rfl) :
    GS X c wx (.Assign [.Tuple [.Name x px, .Name y py] kt pt] (.Tuple [a, .Call (.Attribute o "split" apos) [e] [] pc] k2 pt2) pos) (sPar2S i j ma mo me) :=
  PS.imp (ps_par hc hN hi hj hij hx hy (pa_cons ha (pa_cons (hpe ho he) pa_nil h2) h1) hw hs) fun D σ H ⟨B, W, ρ, h, s, p⟩ => S_bind s p fun d h1 v W1 H1 x1 s1 a1 p1 => S_bind s1 p1 fun so h2 u W2 H2 x2 s2 a2 p2 => by
    cases so <;> first | exact False.elim p2 | skip
    rename_i st
    simp only [At] at a2
    subst a2
    refine ⟨⟨_, rfl⟩, ?_⟩
    refine S_bind s2 p2 fun t h3 w W3 H3 x3 s3 a3 p3 => ?_
    cases t <;> first | exact False.elim p3 | skip
    rename_i tt
    simp only [gSplit] at p3
    simp only [At] at a3
    subst a3
    split at p3
    · rename_i ds eds
      split at eds
      · rename_i hb
        cases eds
        refine ⟨_, _, rfl, rfl, ?_, by rw [sizeLine_eq]; simpa [Str.length, big] using hb.2.2, fun q hq => ?_⟩
        · simpa [Str.length] using hb.1
        · have e2 := TL.split_spl ⟨st.toArray⟩ ⟨tt.toArray⟩ hb.1 (TL.kind_ok (by simpa using hb.2.1))
          have e3 : Txt.split ⟨st.toArray⟩ ⟨tt.toArray⟩ = (TL.spl tt 0 [] st).map fun s => (⟨s.toArray⟩ : Str) := by
            apply TL.map_tl_inj
            rw [e2, List.map_map]
            exact (List.map_id' _).symm
          rw [e3]
          refine ⟨v, .ref q, rfl, p3 W3 _ _ (new_own (s3.set (At.mono (x2.le.trans x3.le) a1)) hq (strs_at _))⟩
      · cases eds
    · exact False.elim p3
end
/-! ### what the defs stand on -/
structure OkB (LD : List Str) (P : Program) (w : World) (K : PySem.W.Frag) (mg : Str → Option Value) (base : Heap) (c : Cc) (C : Nat → Addr) : Prop extends OkT LD P w K mg base c C where
  hga : ∀ n, c.gl n = .ref (C n)
theorem okB_main {LD : List LamD} {P : Program} {w : World} {K : PySem.W.Frag} {mg : Str → Option Value} {base h : Heap} {cs : List Addr} (hE : errB K cs = true) (hL : ∀ d ∈ LD, LamOk K mg h d) (hnd : (LD.map (·.P)).Nodup) (hB : ∀ d ∈ LD, LamX.TabB base mg d.c d.P)
    (too : TmX.TooK P w K mg base (clsF cs 12)) (xf : xfB K (clsF cs 12) = true) (no : PySem.W.findIn K (.ref (clsF cs 12)) "limit" = some none) : OkB (LD.map (·.x)) P w K mg base (cMain K LD cs) (clsF cs) :=
  { okT_main (P := P) (w := w) hE hL hnd hB too xf no with hga := fun _ => rfl }
end DB

/-! Rings on three posts: plain mathematics. A standing is a list of posts (0, 1, 2), the greatest ring first. -/
namespace Mth
def T : List Nat → Nat → Nat
  | [], _ => 0
  | p :: x, g => if p = g then T x g else 2 ^ x.length + T x (3 - p - g)
def once (a : Nat) (x : List Nat) (b : Nat) (y : List Nat) : Nat := T x (3 - a - b) + 1 + T y (3 - a - b)
def twice (a : Nat) (x : List Nat) (b : Nat) (y : List Nat) : Nat := T x b + 1 + 2 ^ x.length + T y a
def dist : List Nat → List Nat → Nat
  | a :: x, b :: y => if a = b then dist x y else min (once a x b y) (twice a x b y)
  | _, _ => 0
def Ok (x : List Nat) : Prop := ∀ p ∈ x, p < 3
def cans (a : Nat) (x : List Nat) : List Nat := [0, 1, 2].filter fun r => !decide (a = r) && (!decide (a ∈ x) && !decide (r ∈ x))
def later : List Nat → List (List Nat)
  | [] => []
  | a :: x => (cans a x).map (· :: x) ++ (later x).map (a :: ·)

theorem Ok.tail {a : Nat} {x : List Nat} (h : Ok (a :: x)) : Ok x := fun p hp => h p (List.mem_cons_of_mem _ hp)
theorem Ok.head {a : Nat} {x : List Nat} (h : Ok (a :: x)) : a < 3 := h a List.mem_cons_self
theorem Ok.cons {a : Nat} {x : List Nat} (h : a < 3) (g : Ok x) : Ok (a :: x) := fun p hp => by
  rcases List.mem_cons.mp hp with rfl | hp
  · exact h
  · exact g p hp
theorem T_lt : ∀ (x : List Nat) (g : Nat), T x g < 2 ^ x.length
  | [], _ => by simp [T]
  | p :: x, g => by
    have h1 := T_lt x g
    have h2 := T_lt x (3 - p - g)
    simp only [T, List.length_cons, Nat.pow_succ]
    split <;> omega
theorem T_rep : ∀ (n : Nat) (m g : Nat), g < 3 → T (List.replicate n m) g = if m = g then 0 else 2 ^ n - 1
  | 0, m, g, _ => by simp [T]
  | n + 1, m, g, hg => by
    rw [List.replicate_succ]
    simp only [T]
    by_cases h : m = g
    · rw [if_pos h, if_pos h, T_rep n m g hg, if_pos h]
    · rw [if_neg h, if_neg h, T_rep n m _ (by omega), if_neg (by omega), List.length_replicate, Nat.pow_succ]
      have := Nat.two_pow_pos n
      omega
/-- all rings on one post, as T sees it -/
theorem T_zero : ∀ {x : List Nat} {g : Nat}, T x g = 0 ↔ x = List.replicate x.length g
  | [], g => by simp [T]
  | p :: x, g => by
    simp only [T, List.length_cons, List.replicate_succ, List.cons.injEq]
    by_cases h : p = g
    · rw [if_pos h, T_zero]; simp [h]
    · have := Nat.two_pow_pos x.length
      rw [if_neg h]
      constructor
      · intro; omega
      · exact fun z => absurd z.1 h
/-! ### where the greatest ring may go -/
theorem rep_of {x : List Nat} (ok : Ok x) {a r : Nat} (ha : a < 3) (hr : r < 3) (n : a ≠ r) (h1 : a ∉ x) (h2 : r ∉ x) : x = List.replicate x.length (3 - a - r) := by
  apply List.eq_replicate_iff.mpr
  refine ⟨rfl, fun b hb => ?_⟩
  have := ok b hb
  have e1 : b ≠ a := fun z => h1 (z ▸ hb)
  have e2 : b ≠ r := fun z => h2 (z ▸ hb)
  omega
theorem mem_cans {a r : Nat} {x : List Nat} : r ∈ cans a x ↔ r < 3 ∧ a ≠ r ∧ a ∉ x ∧ r ∉ x := by
  unfold cans
  rw [List.mem_filter]
  simp only [Bool.and_eq_true, Bool.not_eq_true', decide_eq_false_iff_not]
  constructor
  · rintro ⟨h, h2⟩
    refine ⟨?_, h2⟩
    simp at h
    omega
  · rintro ⟨h, h2⟩
    refine ⟨?_, h2⟩
    simp
    omega
theorem cans_rep {a r : Nat} {x : List Nat} (ok : Ok x) (ha : a < 3) (h : r ∈ cans a x) : r < 3 ∧ a ≠ r ∧ x = List.replicate x.length (3 - a - r) := by
  obtain ⟨h1, h2, h3, h4⟩ := mem_cans.mp h
  exact ⟨h1, h2, rep_of ok ha h1 h2 h3 h4⟩
/-- three cases: no way, the only way, no smaller rings -/
theorem cans_cases {a : Nat} {x : List Nat} (ok : Ok x) (ha : a < 3) : (cans a x = [] ∧ x ≠ [] ∧ ∀ m, m ≠ a → x ≠ List.replicate x.length m) ∨
    (∃ r, r < 3 ∧ r ≠ a ∧ x ≠ [] ∧ x = List.replicate x.length (3 - a - r) ∧ cans a x = [r]) ∨ x = [] := by
  by_cases h0 : x = []
  · exact .inr (.inr h0)
  · by_cases h1 : a ∈ x
    · refine .inl ⟨?_, h0, fun m hm e => ?_⟩
      · apply List.eq_nil_iff_forall_not_mem.mpr
        intro r hr
        exact (mem_cans.mp hr).2.2.1 h1
      · rw [e] at h1
        exact hm (List.eq_of_mem_replicate h1).symm
    · obtain ⟨m, t, rfl⟩ := List.exists_cons_of_ne_nil h0
      have hm : m < 3 := ok.head
      have hma : m ≠ a := fun z => h1 (by simp [z])
      by_cases h2 : (3 - a - m) ∈ (m :: t)
      · refine .inl ⟨?_, h0, fun q hq e => ?_⟩
        · apply List.eq_nil_iff_forall_not_mem.mpr
          intro r hr
          obtain ⟨g1, g2, g3, g4⟩ := mem_cans.mp hr
          have : r ≠ m := fun z => g4 (by simp [z])
          have : r = 3 - a - m := by omega
          exact g4 (this ▸ h2)
        · rw [e] at h2
          have e1 := List.eq_of_mem_replicate h2
          have e2 : m = q := by
            have : m ∈ List.replicate (m :: t).length q := by rw [← e]; simp
            exact List.eq_of_mem_replicate this
          omega
      · refine .inr (.inl ⟨3 - a - m, by omega, by omega, h0, ?_, ?_⟩)
        · exact rep_of ok ha (by omega) (by omega) h1 h2
        · have hr : 3 - a - (3 - a - m) = m := by omega
          unfold cans
          have c : a = 0 ∨ a = 1 ∨ a = 2 := by omega
          have d : m = 0 ∨ m = 1 ∨ m = 2 := by omega
          rcases c with rfl | rfl | rfl <;> rcases d with rfl | rfl | rfl <;> first | (exact absurd rfl hma) | (simp [List.mem_cons] at h1 h2; simp [List.filter_cons, h1, h2])
theorem cans_nil {a : Nat} (ha : a < 3) : ∃ r r', cans a [] = [r, r'] ∧ r < 3 ∧ r' < 3 ∧ r ≠ a ∧ r' ≠ a ∧ r ≠ r' := by
  have c : a = 0 ∨ a = 1 ∨ a = 2 := by omega
  rcases c with rfl | rfl | rfl
  · exact ⟨1, 2, rfl, by decide⟩
  · exact ⟨0, 2, rfl, by decide⟩
  · exact ⟨0, 1, rfl, by decide⟩
theorem rep_eq {n m k : Nat} (h : List.replicate (n + 1) m = List.replicate (n + 1) k) : m = k := by
  rw [List.replicate_succ, List.replicate_succ] at h
  exact (List.cons.inj h).1
theorem cnt1 {α : Type} (p : α → Bool) (r : α) : [r].countP p = if p r = true then 1 else 0 := by simp [List.countP_cons]
theorem cnt2 {α : Type} (p : α → Bool) (r r' : α) : [r, r'].countP p = (if p r' = true then 1 else 0) + (if p r = true then 1 else 0) := by simp [List.countP_cons]
/-! ### to a post -/
theorem later_len : ∀ {x x' : List Nat}, x' ∈ later x → x'.length = x.length
  | [], _, h => by simp [later] at h
  | a :: x, x', h => by
    simp only [later, List.mem_append, List.mem_map] at h
    rcases h with ⟨r, _, rfl⟩ | ⟨z, hz, rfl⟩
    · rfl
    · simp [later_len hz]
theorem later_ok : ∀ {x x' : List Nat}, Ok x → x' ∈ later x → Ok x'
  | [], _, _, h => by simp [later] at h
  | a :: x, x', ok, h => by
    simp only [later, List.mem_append, List.mem_map] at h
    rcases h with ⟨r, hr, rfl⟩ | ⟨z, hz, rfl⟩
    · exact Ok.cons (mem_cans.mp hr).1 ok.tail
    · exact Ok.cons ok.head (later_ok ok.tail hz)
/-- what a move of the greatest ring does to T -/
theorem T_top {a r g : Nat} {n : Nat} (ha : a < 3) (hr : r < 3) (hg : g < 3) (h : a ≠ r) : 
    (a = g → T (r :: List.replicate n (3 - a - r)) g = T (a :: List.replicate n (3 - a - r)) g + 1) ∧
    (r = g → T (r :: List.replicate n (3 - a - r)) g + 1 = T (a :: List.replicate n (3 - a - r)) g) ∧
    (a ≠ g → r ≠ g → T (r :: List.replicate n (3 - a - r)) g = T (a :: List.replicate n (3 - a - r)) g) := by
  have := Nat.two_pow_pos n
  refine ⟨fun e => ?_, fun e => ?_, fun e1 e2 => ?_⟩
  · simp only [T, List.length_replicate]
    rw [if_neg (by omega), if_pos e, T_rep _ _ _ (by omega), T_rep _ _ _ (by omega), if_pos (by omega), if_neg (by omega)]
    omega
  · simp only [T, List.length_replicate]
    rw [if_pos e, if_neg (by omega), T_rep _ _ _ (by omega), T_rep _ _ _ (by omega), if_neg (by omega), if_pos (by omega)]
    omega
  · simp only [T, List.length_replicate]
    rw [if_neg (by omega), if_neg (by omega), T_rep _ _ _ (by omega), T_rep _ _ _ (by omega), if_neg (by omega), if_neg (by omega)]
theorem T_step : ∀ {x x' : List Nat} {g : Nat}, Ok x → g < 3 → x' ∈ later x → T x' g ≤ T x g + 1 ∧ T x g ≤ T x' g + 1
  | [], _, _, _, _, h => by simp [later] at h
  | a :: x, x', g, ok, hg, h => by
    simp only [later, List.mem_append, List.mem_map] at h
    rcases h with ⟨r, hr, rfl⟩ | ⟨z, hz, rfl⟩
    · obtain ⟨h1, h2, h3⟩ := cans_rep ok.tail ok.head hr
      obtain ⟨t1, t2, t3⟩ := T_top (n := x.length) ok.head h1 hg h2
      rw [← h3] at t1 t2 t3
      by_cases e1 : a = g
      · have := t1 e1; omega
      · by_cases e2 : r = g
        · have := t2 e2; omega
        · have := t3 e1 e2; omega
    · have ha := ok.head
      have hl := later_len hz
      simp only [T]
      by_cases e : a = g
      · rw [if_pos e, if_pos e]
        exact T_step ok.tail hg hz
      · have := T_step (g := 3 - a - g) ok.tail (by omega) hz
        rw [if_neg e, if_neg e, hl]
        omega
/-- how many moves come nearer to a post -/
theorem T_cnt : ∀ {x : List Nat} {g : Nat}, Ok x → g < 3 → (later x).countP (fun x' => decide (T x' g + 1 = T x g)) = if x = List.replicate x.length g then 0 else 1
  | [], g, _, _ => by simp [later]
  | a :: x, g, ok, hg => by
    have ha := ok.head
    simp only [later, List.countP_append, List.countP_map]
    by_cases e : a = g
    · subst e
      have hin : (later x).countP ((fun x' => decide (T x' a + 1 = T (a :: x) a)) ∘ (a :: ·)) = (later x).countP (fun x' => decide (T x' a + 1 = T x a)) := by
        apply List.countP_congr
        intro z _
        simp [T]
      have htop : (cans a x).countP ((fun x' => decide (T x' a + 1 = T (a :: x) a)) ∘ (· :: x)) = 0 := by
        apply List.countP_eq_zero.mpr
        intro r hr
        obtain ⟨h1, h2, h3⟩ := cans_rep ok.tail ha hr
        have t1 := (T_top (n := x.length) ha h1 hg h2).1 rfl
        rw [← h3] at t1
        simp only [Function.comp, decide_eq_true_eq]
        omega
      rw [hin, htop, T_cnt ok.tail hg, List.length_cons, List.replicate_succ]
      simp
    · have hs : 3 - a - g < 3 := by omega
      have hin : (later x).countP ((fun x' => decide (T x' g + 1 = T (a :: x) g)) ∘ (a :: ·)) = (later x).countP (fun x' => decide (T x' (3 - a - g) + 1 = T x (3 - a - g))) := by
        apply List.countP_congr
        intro z hz
        have := later_len hz
        simp only [Function.comp, decide_eq_true_eq, T, if_neg e, this]
        omega
      have hne : ¬ (a :: x) = List.replicate (a :: x).length g := by
        rw [List.length_cons, List.replicate_succ]
        exact fun z => e (List.cons.inj z).1
      rw [hin, T_cnt ok.tail hs, if_neg hne]
      have htop : (cans a x).countP ((fun x' => decide (T x' g + 1 = T (a :: x) g)) ∘ (· :: x)) = if x = List.replicate x.length (3 - a - g) then 1 else 0 := by
        rcases cans_cases ok.tail ha with ⟨h1, _, h3⟩ | ⟨r, h1, h2, h3, h4, h5⟩ | h0
        · rw [h1, if_neg (h3 _ (by omega))]; rfl
        · rw [h5]
          obtain ⟨t1, t2, t3⟩ := T_top (n := x.length) ha h1 hg (Ne.symm h2)
          rw [← h4] at t1 t2 t3
          by_cases e2 : r = g
          · have := t2 e2
            subst e2
            rw [if_pos h4]
            simp only [List.countP_cons, List.countP_nil, Function.comp]
            rw [if_pos (by simpa using this)]
          · have := t3 e e2
            rw [if_neg ?_]
            · simp only [List.countP_cons, List.countP_nil, Function.comp]
              rw [if_neg (by simp; omega)]
            · intro z
              have hx : x.length = (x.length - 1) + 1 := by
                have : x.length ≠ 0 := fun q => h3 (List.eq_nil_of_length_eq_zero q)
                omega
              rw [h4] at z
              rw [List.length_replicate] at z
              rw [hx] at z
              have := rep_eq z
              omega
        · subst h0
          obtain ⟨r, r', h1, h2, h3, h4, h5, h6⟩ := cans_nil ha
          rw [h1, if_pos (show ([] : List Nat) = List.replicate ([] : List Nat).length (3 - a - g) from rfl)]
          have p1 : ∀ r, ((fun x' => decide (T x' g + 1 = T [a] g)) ∘ (· :: [])) r = decide (r = g) := fun r => by
            have e1 : T [a] g = 1 := by simp [T, e]
            show decide (T [r] g + 1 = T [a] g) = decide (r = g)
            rw [e1]
            by_cases q : r = g <;> simp [T, q]
          rw [cnt2, p1, p1]
          by_cases e2 : r = g
          · rw [if_neg (by simp; omega), if_pos (by simpa using e2)]
          · rw [if_pos (by simp; omega), if_neg (by simpa using e2)]
      rw [htop]
      split <;> simp
/-! ### from one to the other -/
def tie : List Nat → List Nat → Bool
  | a :: x, b :: y => if a = b then tie x y else decide (once a x b y = twice a x b y)
  | _, _ => false
theorem twice_pos (a : Nat) (x : List Nat) (b : Nat) (y : List Nat) : 1 ≤ twice a x b y := by
  have := Nat.two_pow_pos x.length
  unfold twice; omega
theorem dist_self : ∀ x : List Nat, dist x x = 0
  | [] => rfl
  | a :: x => by simp [dist, dist_self x]
theorem dist_pos {x y : List Nat} : x.length = y.length → dist x y = 0 → x = y := by
  induction x generalizing y with
  | nil => intro h _; exact (List.eq_nil_of_length_eq_zero h.symm).symm
  | cons a x ih =>
    cases y with
    | nil => intro h; simp at h
    | cons b y =>
      intro h e
      simp only [dist] at e
      by_cases q : a = b
      · rw [if_pos q] at e
        rw [q, ih (by simpa using h) e]
      · rw [if_neg q] at e
        have h2 := twice_pos a x b y
        have h1 : 1 ≤ once a x b y := by unfold once; omega
        omega
theorem dist_symm : ∀ {x y : List Nat}, x.length = y.length → dist x y = dist y x
  | [], [], _ => rfl
  | [], _ :: _, h => by simp at h
  | _ :: _, [], h => by simp at h
  | a :: x, b :: y, h => by
    have hl : x.length = y.length := by simpa using h
    simp only [dist]
    by_cases q : a = b
    · rw [if_pos q, if_pos q.symm, dist_symm hl]
    · rw [if_neg q, if_neg (Ne.symm q)]
      have e : 3 - a - b = 3 - b - a := by omega
      unfold once twice
      rw [e, hl]
      omega
theorem dist_lt : ∀ {x y : List Nat}, x.length = y.length → dist x y < 2 ^ x.length
  | [], [], _ => by simp [dist]
  | [], _ :: _, h => by simp at h
  | _ :: _, [], h => by simp at h
  | a :: x, b :: y, h => by
    have hl : x.length = y.length := by simpa using h
    simp only [dist, List.length_cons, Nat.pow_succ]
    by_cases q : a = b
    · have := dist_lt hl
      rw [if_pos q]; omega
    · rw [if_neg q]
      unfold once
      have h1 := T_lt x (3 - a - b)
      have h2 := T_lt y (3 - a - b)
      rw [← hl] at h2
      omega
theorem dist_pre (x y : List Nat) : ∀ c : List Nat, dist (c ++ x) (c ++ y) = dist x y
  | [] => rfl
  | a :: c => by simp [dist, dist_pre x y c]
theorem to_rep : ∀ {x : List Nat} {g : Nat}, Ok x → g < 3 → dist x (List.replicate x.length g) = T x g ∧ tie x (List.replicate x.length g) = false
  | [], _, _, _ => by simp [dist, tie, T]
  | p :: x, g, ok, hg => by
    have hp := ok.head
    simp only [List.length_cons, List.replicate_succ, dist, tie, T]
    by_cases q : p = g
    · rw [if_pos q, if_pos q, if_pos q]
      exact to_rep ok.tail hg
    · rw [if_neg q, if_neg q, if_neg q]
      unfold once twice
      rw [T_rep _ _ _ (by omega), T_rep _ _ _ (by omega), if_neg (by omega), if_neg (by omega)]
      have := Nat.two_pow_pos x.length
      have := T_lt x (3 - p - g)
      constructor
      · omega
      · simp; omega
theorem dist_rep {x : List Nat} {g : Nat} (ok : Ok x) (hg : g < 3) : dist x (List.replicate x.length g) = T x g := (to_rep ok hg).1
theorem rep_dist {x : List Nat} {g : Nat} (ok : Ok x) (hg : g < 3) : dist (List.replicate x.length g) x = T x g := by
  rw [dist_symm (by simp), dist_rep ok hg]
/-- the greatest ring leaves its post though it need not -/
theorem top_same {a r : Nat} {x y : List Nat} (ok : Ok x) (oky : Ok y) (ha : a < 3) (hl : x.length = y.length) (hr : r ∈ cans a x) : dist (r :: x) (a :: y) = dist x y + 1 := by
  obtain ⟨h1, h2, h3⟩ := cans_rep ok ha hr
  simp only [dist]
  rw [if_neg (Ne.symm h2)]
  have e : dist x y = T y (3 - a - r) := by
    rw [h3, hl, rep_dist oky (by omega)]
  have e1 : T x (3 - r - a) = 0 := by rw [h3, T_rep _ _ _ (by omega), if_pos (by omega)]
  have e2 : T x a = 2 ^ x.length - 1 := by rw [h3, T_rep _ _ _ (by omega), if_neg (by omega), List.length_replicate]
  have e3 : 3 - r - a = 3 - a - r := by omega
  unfold once twice
  rw [e1, e2, e, e3]
  have := T_lt y (3 - a - r)
  rw [← hl] at this
  have := Nat.two_pow_pos x.length
  omega
/-- .. though it must -/
theorem top_diff {a b r : Nat} {x y : List Nat} (ok : Ok x) (oky : Ok y) (ha : a < 3) (hb : b < 3) (q : a ≠ b) (hl : x.length = y.length) (hr : r ∈ cans a x) :
    (r = b → dist (r :: x) (b :: y) + 1 = dist (a :: x) (b :: y) ∧ once a x b y < twice a x b y) ∧
    (r ≠ b → x = List.replicate x.length b ∧ dist (r :: x) (b :: y) = min (twice a x b y - 1) (once a x b y + 1)) := by
  obtain ⟨h1, h2, h3⟩ := cans_rep ok ha hr
  have hp := Nat.two_pow_pos x.length
  refine ⟨fun e => ?_, fun e => ?_⟩
  · subst e
    simp only [dist, if_true]
    rw [if_neg q]
    have e0 : dist x y = T y (3 - a - r) := by
      rw [h3, hl, rep_dist oky (by omega)]
    have e1 : T x (3 - a - r) = 0 := by rw [h3, T_rep _ _ _ (by omega), if_pos (by omega)]
    have e2 : T x r = 2 ^ x.length - 1 := by rw [h3, T_rep _ _ _ (by omega), if_neg (by omega), List.length_replicate]
    have := T_lt y (3 - a - r)
    rw [← hl] at this
    unfold once twice
    rw [e0, e1, e2]
    omega
  · have em : 3 - a - r = b := by omega
    have es : 3 - a - b = r := by omega
    have es2 : 3 - r - b = a := by omega
    rw [em] at h3
    refine ⟨h3, ?_⟩
    simp only [dist]
    rw [if_neg e]
    have e1 : T x b = 0 := by rw [h3, T_rep _ _ _ (by omega), if_pos rfl]
    have e2 : T x a = 2 ^ x.length - 1 := by rw [h3, T_rep _ _ _ (by omega), if_neg (by omega), List.length_replicate]
    have e3 : T x r = 2 ^ x.length - 1 := by rw [h3, T_rep _ _ _ (by omega), if_neg (by omega), List.length_replicate]
    unfold once twice
    rw [es, es2, e1, e2, e3]
    omega
theorem dist_step : ∀ {x y z : List Nat}, Ok x → Ok y → x.length = y.length → z ∈ later x → dist z y ≤ dist x y + 1 ∧ dist x y ≤ dist z y + 1
  | [], _, _, _, _, _, h => by simp [later] at h
  | _ :: _, [], _, _, _, h, _ => by simp at h
  | a :: x, b :: y, z, ok, oky, hl', h => by
    have hl : x.length = y.length := by simpa using hl'
    have ha := ok.head
    have hb := oky.head
    simp only [later, List.mem_append, List.mem_map] at h
    rcases h with ⟨r, hr, rfl⟩ | ⟨z, hz, rfl⟩
    · by_cases q : a = b
      · subst q
        rw [top_same ok.tail oky.tail ha hl hr]
        simp [dist]
        omega
      · obtain ⟨t1, t2⟩ := top_diff ok.tail oky.tail ha hb q hl hr
        by_cases e : r = b
        · have := (t1 e).1; omega
        · have := (t2 e).2
          rw [this]
          simp only [dist]
          rw [if_neg q]
          have h2 : 1 ≤ twice a x b y := twice_pos a x b y
          omega
    · simp only [dist]
      by_cases q : a = b
      · rw [if_pos q, if_pos q]
        exact dist_step ok.tail oky.tail hl hz
      · rw [if_neg q, if_neg q]
        have h1 := T_step (g := 3 - a - b) ok.tail (by omega) hz
        have h2 := T_step (g := b) ok.tail hb hz
        have h3 := later_len hz
        unfold once twice
        rw [h3]
        omega
theorem dist_cnt : ∀ {x y : List Nat}, Ok x → Ok y → x.length = y.length → x ≠ y →
    1 ≤ (later x).countP (fun z => decide (dist z y + 1 = dist x y)) ∧ (later x).countP (fun z => decide (dist z y + 1 = dist x y)) ≤ if tie x y = true then 2 else 1
  | [], [], _, _, _, h => absurd rfl h
  | [], _ :: _, _, _, h, _ => by simp at h
  | _ :: _, [], _, _, h, _ => by simp at h
  | a :: x, b :: y, ok, oky, hl', hne => by
    have hl : x.length = y.length := by simpa using hl'
    have ha := ok.head
    have hb := oky.head
    simp only [later, List.countP_append, List.countP_map]
    by_cases q : a = b
    · subst q
      have hin : (later x).countP ((fun z => decide (dist z (a :: y) + 1 = dist (a :: x) (a :: y))) ∘ (a :: ·)) = (later x).countP (fun z => decide (dist z y + 1 = dist x y)) := by
        apply List.countP_congr
        intro z _
        simp [dist]
      have htop : (cans a x).countP ((fun z => decide (dist z (a :: y) + 1 = dist (a :: x) (a :: y))) ∘ (· :: x)) = 0 := by
        apply List.countP_eq_zero.mpr
        intro r hr
        have := top_same ok.tail oky.tail ha hl hr
        simp only [Function.comp, decide_eq_true_eq]
        rw [this]
        simp only [dist, if_true]
        omega
      rw [hin, htop, Nat.zero_add]
      have := dist_cnt ok.tail oky.tail hl (fun z => hne (by rw [z]))
      simpa only [tie, if_true] using this
    · have hs : 3 - a - b < 3 := by omega
      have etie : tie (a :: x) (b :: y) = decide (once a x b y = twice a x b y) := by simp only [tie]; rw [if_neg q]
      have ed : dist (a :: x) (b :: y) = min (once a x b y) (twice a x b y) := by simp only [dist]; rw [if_neg q]
      have edz : ∀ z, dist (a :: z) (b :: y) = min (once a z b y) (twice a z b y) := fun z => by simp only [dist]; rw [if_neg q]
      rw [etie]
      have c1 := T_cnt (g := 3 - a - b) ok.tail hs
      have c2 := T_cnt (g := b) ok.tail hb
      have key : ∀ z ∈ later x, T z (3 - a - b) ≤ T x (3 - a - b) + 1 ∧ T x (3 - a - b) ≤ T z (3 - a - b) + 1 ∧ T z b ≤ T x b + 1 ∧ T x b ≤ T z b + 1 ∧ once a z b y + T x (3 - a - b) = once a x b y + T z (3 - a - b) ∧ twice a z b y + T x b = twice a x b y + T z b := fun z hz => by
        have h1 := T_step (g := 3 - a - b) ok.tail hs hz
        have h2 := T_step (g := b) ok.tail hb hz
        have h3 := later_len hz
        refine ⟨h1.1, h1.2, h2.1, h2.2, ?_, ?_⟩
        · unfold once; omega
        · unfold twice; rw [h3]; omega
      -- the greatest ring's own moves
      have htop : (cans a x).countP ((fun z => decide (dist z (b :: y) + 1 = dist (a :: x) (b :: y))) ∘ (· :: x)) =
          if once a x b y < twice a x b y then (if x = List.replicate x.length (3 - a - b) then 1 else 0) else (if x = List.replicate x.length b then 1 else 0) := by
        rcases cans_cases ok.tail ha with ⟨h1, _, h3⟩ | ⟨r, h1, h2, h3, h4, h5⟩ | h0
        · rw [h1, if_neg (h3 _ (by omega)), if_neg (h3 _ (by omega))]
          simp
        · have hx : x.length = (x.length - 1) + 1 := by
            have : x.length ≠ 0 := fun q => h3 (List.eq_nil_of_length_eq_zero q)
            omega
          have uniq : ∀ m, x = List.replicate x.length m → m = 3 - a - r := fun m e => by
            rw [h4, List.length_replicate, hx] at e
            exact (rep_eq e).symm
          obtain ⟨t1, t2⟩ := top_diff ok.tail oky.tail ha hb q hl (show r ∈ cans a x by rw [h5]; simp)
          rw [h5, cnt1]
          have pr : ((fun z => decide (dist z (b :: y) + 1 = dist (a :: x) (b :: y))) ∘ (· :: x)) r = decide (dist (r :: x) (b :: y) + 1 = dist (a :: x) (b :: y)) := rfl
          rw [pr]
          by_cases e : r = b
          · obtain ⟨t3, t4⟩ := t1 e
            have g1 : x = List.replicate x.length (3 - a - b) := by rw [← e]; exact h4
            have g2 : decide (dist (r :: x) (b :: y) + 1 = dist (a :: x) (b :: y)) = true := decide_eq_true t3
            rw [g2, if_pos rfl, if_pos t4, if_pos g1]
          · obtain ⟨t3, t4⟩ := t2 e
            have n1 : ¬ x = List.replicate x.length (3 - a - b) := fun z => by
              have := uniq _ z; omega
            have p1 : 1 ≤ twice a x b y := twice_pos a x b y
            rw [if_neg n1, if_pos t3]
            by_cases h : once a x b y < twice a x b y
            · have g2 : decide (dist (r :: x) (b :: y) + 1 = dist (a :: x) (b :: y)) = false := decide_eq_false (by rw [t4, ed]; omega)
              rw [g2, if_pos h, if_neg Bool.false_ne_true]
            · have g2 : decide (dist (r :: x) (b :: y) + 1 = dist (a :: x) (b :: y)) = true := decide_eq_true (by rw [t4, ed]; omega)
              rw [g2, if_neg h, if_pos rfl]
        · subst h0
          have ey : y = [] := List.eq_nil_of_length_eq_zero hl.symm
          subst ey
          obtain ⟨r, r', h1, h2, h3, h4, h5, h6⟩ := cans_nil ha
          rw [h1]
          have o1 : once a [] b [] = 1 := rfl
          have w1 : twice a [] b [] = 2 := rfl
          rw [ed, o1, w1]
          have d1 : ∀ r, dist [r] [b] = if r = b then 0 else 1 := fun r => by
            simp only [dist, once, twice, T]
            split <;> simp
          have p1 : ∀ r, ((fun z => decide (dist z [b] + 1 = min 1 2)) ∘ (· :: [])) r = decide (r = b) := fun r => by
            show decide (dist [r] [b] + 1 = min 1 2) = decide (r = b)
            rw [d1]
            by_cases q : r = b <;> simp [q]
          rw [cnt2, p1, p1, if_pos (show 1 < 2 by omega), if_pos (show ([] : List Nat) = List.replicate ([] : List Nat).length (3 - a - b) from rfl)]
          by_cases e2 : r = b
          · rw [if_neg (by simp; omega), if_pos (by simpa using e2)]
          · rw [if_pos (by simp; omega), if_neg (by simpa using e2)]
      rw [htop]
      have n0 : once a x b y < twice a x b y ∨ ¬ x = List.replicate x.length (3 - a - b) := by
        by_cases e : x = List.replicate x.length (3 - a - b)
        · left
          have e1 : T x (3 - a - b) = 0 := T_zero.mpr e
          have e2 : T x b = 2 ^ x.length - 1 := by rw [e, T_rep _ _ _ hb, if_neg (by omega), List.length_replicate]
          have := T_lt y (3 - a - b)
          rw [← hl] at this
          unfold once twice
          omega
        · exact .inr e
      rcases Nat.lt_trichotomy (once a x b y) (twice a x b y) with h | h | h
      · have hin : (later x).countP ((fun z => decide (dist z (b :: y) + 1 = dist (a :: x) (b :: y))) ∘ (a :: ·)) = (later x).countP (fun z => decide (T z (3 - a - b) + 1 = T x (3 - a - b))) := by
          apply List.countP_congr
          intro z hz
          have := key z hz
          simp only [Function.comp, decide_eq_true_eq, ed, edz]
          omega
        have g2 : decide (once a x b y = twice a x b y) = false := decide_eq_false (by omega)
        rw [hin, c1, if_pos h, g2, if_neg Bool.false_ne_true]
        by_cases e : x = List.replicate x.length (3 - a - b)
        · rw [if_pos e, if_pos e]; omega
        · rw [if_neg e, if_neg e]; omega
      · have hlo : (later x).countP (fun z => decide (T z (3 - a - b) + 1 = T x (3 - a - b))) ≤ (later x).countP ((fun z => decide (dist z (b :: y) + 1 = dist (a :: x) (b :: y))) ∘ (a :: ·)) := by
          apply List.countP_mono_left
          intro z hz
          have := key z hz
          simp only [Function.comp, decide_eq_true_eq, ed, edz]
          omega
        have hhi : (later x).countP ((fun z => decide (dist z (b :: y) + 1 = dist (a :: x) (b :: y))) ∘ (a :: ·)) ≤ (later x).countP (fun z => decide (T z (3 - a - b) + 1 = T x (3 - a - b))) + (later x).countP (fun z => decide (T z b + 1 = T x b)) := by
          rw [show (later x).countP ((fun z => decide (dist z (b :: y) + 1 = dist (a :: x) (b :: y))) ∘ (a :: ·)) = (later x).countP (fun z => decide (T z (3 - a - b) + 1 = T x (3 - a - b)) || decide (T z b + 1 = T x b)) from ?_]
          · clear hlo c1 c2 key htop
            induction later x with
            | nil => simp
            | cons z l ih =>
              simp only [List.countP_cons]
              by_cases u : T z (3 - a - b) + 1 = T x (3 - a - b) <;> by_cases v : T z b + 1 = T x b <;> simp [u, v] <;> omega
          · apply List.countP_congr
            intro z hz
            have := key z hz
            simp only [Function.comp, Bool.or_eq_true, decide_eq_true_eq, ed, edz]
            omega
        rcases n0 with n0 | n0
        · omega
        · rw [c1, if_neg n0] at hlo hhi
          rw [c2] at hhi
          have g2 : decide (once a x b y = twice a x b y) = true := decide_eq_true h
          rw [if_neg (show ¬ once a x b y < twice a x b y by omega), g2, if_pos rfl]
          by_cases e : x = List.replicate x.length b
          · rw [if_pos e] at hhi ⊢; omega
          · rw [if_neg e] at hhi ⊢; omega
      · have hin : (later x).countP ((fun z => decide (dist z (b :: y) + 1 = dist (a :: x) (b :: y))) ∘ (a :: ·)) = (later x).countP (fun z => decide (T z b + 1 = T x b)) := by
          apply List.countP_congr
          intro z hz
          have := key z hz
          simp only [Function.comp, decide_eq_true_eq, ed, edz]
          omega
        have g2 : decide (once a x b y = twice a x b y) = false := decide_eq_false (by omega)
        rw [hin, c2, if_neg (show ¬ once a x b y < twice a x b y by omega), g2, if_neg Bool.false_ne_true]
        by_cases e : x = List.replicate x.length b
        · rw [if_pos e, if_pos e]; omega
        · rw [if_neg e, if_neg e]; omega
/-- as far as any way -/
theorem triangle : ∀ (n : Nat) {x y z : List Nat}, Ok x → Ok y → Ok z → x.length = y.length → y.length = z.length → dist x y = n → dist x z ≤ dist x y + dist y z
  | 0, x, y, z, _, _, _, h1, h2, e => by
    have := dist_pos h1 e
    subst this
    omega
  | n + 1, x, y, z, okx, oky, okz, h1, h2, e => by
    have hne : x ≠ y := fun q => by rw [q, dist_self] at e; cases e
    have c := (dist_cnt okx oky h1 hne).1
    obtain ⟨w, hw, hd⟩ := List.countP_pos_iff.mp (Nat.lt_of_lt_of_le Nat.zero_lt_one c)
    have hd' : dist w y + 1 = dist x y := by simpa using hd
    have hlw := later_len hw
    have ih := triangle n (later_ok okx hw) oky okz (by rw [hlw]; exact h1) h2 (by omega)
    have := (dist_step okx okz (h1.trans h2) hw).2
    omega
end Mth

/-! == and in of plain data, as functions. -/
namespace DQ
open DL PySem PySem.Spec PyProof.Rows L2
mutual
def eqD : D → D → Bool
  | .non, y => match y with | .non => true | _ => false
  | .bl a, y => match y with | .bl b => a == b | .int b => (if a then 1 else 0) == b | _ => false
  | .int a, y => match y with | .int b => a == b | .bl b => a == (if b then 1 else 0) | _ => false
  | .str a, y => match y with | .str b => a == b | _ => false
  | .lst a, y => match y with | .lst b => eqL a b | _ => false
  | .tup a, y => match y with | .tup b => eqL a b | _ => false
  | .dic _ _, _ => false
  | .cel _, _ => false
  | .glb _, _ => false
  | .ty _, _ => false
  | .klst _, _ => false
def eqL : List D → List D → Bool
  | [], y => match y with | [] => true | _ :: _ => false
  | a :: r, y => match y with | [] => false | b :: s => eqD a b && eqL r s
end
mutual
def okD : D → Bool
  | .non => true
  | .bl _ => true
  | .int _ => true
  | .str s => s.all (· < 0x110000)
  | .lst l => okL l
  | .tup l => okL l
  | .dic _ _ => false
  | .cel _ => false
  | .glb _ => false
  | .ty _ => false
  | .klst _ => false
def okL : List D → Bool
  | [] => true
  | a :: r => okD a && okL r
end
mutual
def dpD : D → Nat
  | .lst l => dpL l + 1
  | .tup l => dpL l + 1
  | .non => 0
  | .bl _ => 0
  | .int _ => 0
  | .str _ => 0
  | .dic _ _ => 0
  | .cel _ => 0
  | .glb _ => 0
  | .ty _ => 0
  | .klst _ => 0
def dpL : List D → Nat
  | [] => 0
  | a :: r => max (dpD a) (dpL r)
end
mutual
theorem toPy_ok : ∀ {d : D}, okD d = true → ∃ p, toPy d = some p ∧ p.canLay0 = true ∧ p.depth = dpD d
  | .non, _ => ⟨.none, by simp [toPy, PyData.canLay0, PyData.depth, dpD]⟩
  | .bl b, _ => ⟨.bool b, by simp [toPy, PyData.canLay0, PyData.depth, dpD]⟩
  | .int b, _ => ⟨.int b, by simp [toPy, PyData.canLay0, PyData.depth, dpD]⟩
  | .str b, h => ⟨.str ⟨b.toArray⟩, by
      simp only [okD] at h
      simp only [toPy, PyData.canLay0, PyData.depth, dpD, PyData.strOk]
      exact ⟨trivial, by simpa using h, trivial⟩⟩
  | .lst l, h => by
    obtain ⟨ps, e1, e2, e3⟩ := toPyL_ok (d := l) (by simpa only [okD] using h)
    exact ⟨.list ps, by simp only [toPy, e1, PyData.canLay0, PyData.depth, dpD, e2, e3, and_self]⟩
  | .tup l, h => by
    obtain ⟨ps, e1, e2, e3⟩ := toPyL_ok (d := l) (by simpa only [okD] using h)
    exact ⟨.tuple ps, by simp only [toPy, e1, PyData.canLay0, PyData.depth, dpD, e2, e3, and_self]⟩
  | .dic _ _, h => by simp only [okD] at h; cases h
  | .cel _, h => by simp only [okD] at h; cases h
  | .glb _, h => by simp only [okD] at h; cases h
  | .ty _, h => by simp only [okD] at h; cases h
  | .klst _, h => by simp only [okD] at h; cases h
theorem toPyL_ok : ∀ {d : List D}, okL d = true → ∃ p, toPyL d = some p ∧ PyData.canLayAll0 p = true ∧ PyData.depthAll p = dpL d
  | [], _ => ⟨[], by simp [toPyL, PyData.canLayAll0, PyData.depthAll, dpL]⟩
  | a :: r, h => by
    simp only [okL, Bool.and_eq_true] at h
    obtain ⟨p, e1, e2, e3⟩ := toPy_ok (d := a) h.1
    obtain ⟨ps, f1, f2, f3⟩ := toPyL_ok (d := r) h.2
    exact ⟨p :: ps, by simp only [toPyL, e1, f1, PyData.canLayAll0, e2, f2, PyData.depthAll, e3, f3, dpL, Bool.and_self, and_self]⟩
end
theorem toPy_L {l : List D} {p : PyData} (e : toPy (.lst l) = some p) : ∃ ps, toPyL l = some ps ∧ p = .list ps := by
  simp only [toPy] at e
  cases e2 : toPyL l with
  | none => rw [e2] at e; cases e
  | some ps => rw [e2] at e; cases e; exact ⟨ps, rfl, rfl⟩
theorem toPy_T {l : List D} {p : PyData} (e : toPy (.tup l) = some p) : ∃ ps, toPyL l = some ps ∧ p = .tuple ps := by
  simp only [toPy] at e
  cases e2 : toPyL l with
  | none => rw [e2] at e; cases e
  | some ps => rw [e2] at e; cases e; exact ⟨ps, rfl, rfl⟩
theorem toPy_C {a : D} {r : List D} {p : List PyData} (e : toPyL (a :: r) = some p) : ∃ q qs, toPy a = some q ∧ toPyL r = some qs ∧ p = q :: qs := by
  simp only [toPyL] at e
  cases e1 : toPy a with
  | none => rw [e1] at e; cases e
  | some q =>
    cases e2 : toPyL r with
    | none => rw [e1, e2] at e; cases e
    | some qs => rw [e1, e2] at e; cases e; exact ⟨q, qs, rfl, rfl, rfl⟩
mutual
theorem eqv_ok : ∀ {x y : D} {p q : PyData}, toPy x = some p → toPy y = some q → PyData.eqv p q = eqD x y
  | .non, y, p, q, h, g => by
    simp only [toPy] at h; cases h
    cases y <;> simp only [toPy] at g <;> first | (cases g; simp [PyData.eqv, eqD]; done) | (cases g; done) | skip
    all_goals (split at g <;> first | (cases g; simp [PyData.eqv, eqD]; done) | (cases g; done))
  | .bl b, y, p, q, h, g => by
    simp only [toPy] at h; cases h
    cases y <;> simp only [toPy] at g <;> first | (cases g; simp [PyData.eqv, eqD]; done) | (cases g; done) | skip
    all_goals (split at g <;> first | (cases g; simp [PyData.eqv, eqD]; done) | (cases g; done))
  | .int b, y, p, q, h, g => by
    simp only [toPy] at h; cases h
    cases y <;> simp only [toPy] at g <;> first | (cases g; simp [PyData.eqv, eqD]; done) | (cases g; done) | skip
    all_goals (split at g <;> first | (cases g; simp [PyData.eqv, eqD]; done) | (cases g; done))
  | .str b, y, p, q, h, g => by
    simp only [toPy] at h; cases h
    cases y <;> simp only [toPy] at g <;> first | (cases g; simp [PyData.eqv, eqD, beq_str]; done) | (cases g; done) | skip
    all_goals (split at g <;> first | (cases g; simp [PyData.eqv, eqD]; done) | (cases g; done))
  | .lst l, y, p, q, h, g => by
    obtain ⟨ps, e1, rfl⟩ := toPy_L h
    cases y
    case lst m =>
      obtain ⟨qs, e2, rfl⟩ := toPy_L g
      simp only [PyData.eqv, eqD]
      exact eqvL_ok e1 e2
    all_goals (simp only [toPy] at g <;> first | (cases g; simp [PyData.eqv, eqD]; done) | (cases g; done) | (split at g <;> first | (cases g; simp [PyData.eqv, eqD]; done) | (cases g; done)))
  | .tup l, y, p, q, h, g => by
    obtain ⟨ps, e1, rfl⟩ := toPy_T h
    cases y
    case tup m =>
      obtain ⟨qs, e2, rfl⟩ := toPy_T g
      simp only [PyData.eqv, eqD]
      exact eqvL_ok e1 e2
    all_goals (simp only [toPy] at g <;> first | (cases g; simp [PyData.eqv, eqD]; done) | (cases g; done) | (split at g <;> first | (cases g; simp [PyData.eqv, eqD]; done) | (cases g; done)))
  | .dic _ _, _, _, _, h, _ => by simp only [toPy] at h; cases h
  | .cel _, _, _, _, h, _ => by simp only [toPy] at h; cases h
  | .glb _, _, _, _, h, _ => by simp only [toPy] at h; cases h
  | .ty _, _, _, _, h, _ => by simp only [toPy] at h; cases h
  | .klst _, _, _, _, h, _ => by simp only [toPy] at h; cases h
theorem eqvL_ok : ∀ {x y : List D} {p q : List PyData}, toPyL x = some p → toPyL y = some q → PyData.eqvAll p q = eqL x y
  | [], y, p, q, h, g => by
    simp only [toPyL] at h; cases h
    cases y with
    | nil => simp only [toPyL] at g; cases g; simp [PyData.eqvAll, eqL]
    | cons b s => obtain ⟨q1, qs, e1, e2, rfl⟩ := toPy_C g; simp [PyData.eqvAll, eqL]
  | a :: r, y, p, q, h, g => by
    obtain ⟨p1, ps, e1, e2, rfl⟩ := toPy_C h
    cases y with
    | nil => simp only [toPyL] at g; cases g; simp [PyData.eqvAll, eqL]
    | cons b s =>
      obtain ⟨q1, qs, f1, f2, rfl⟩ := toPy_C g
      simp only [PyData.eqvAll, eqL]
      rw [eqv_ok e1 f1, eqvL_ok e2 f2]
end
theorem shaped_ok {p : PyData} (h : p.canLay0 = true) (d : p.depth ≤ 64) : SeqAt.shaped p = true := by
  unfold SeqAt.shaped
  rw [h, decide_eq_true d]
  rfl
theorem gEqDeep_ok {x y : D} (hx : okD x = true) (hy : okD y = true) (dx : dpD x ≤ 64) (dy : dpD y ≤ 64) : gEqDeep x y = some (eqD x y) := by
  obtain ⟨p, e1, e2, e3⟩ := toPy_ok hx
  obtain ⟨q, f1, f2, f3⟩ := toPy_ok hy
  unfold gEqDeep
  rw [e1, f1]
  simp only
  rw [if_pos ⟨shaped_ok e2 (by omega), shaped_ok f2 (by omega)⟩, eqv_ok e1 f1]
theorem gEqB_ok {x y : D} (hx : okD x = true) (hy : okD y = true) (dx : dpD x ≤ 64) (dy : dpD y ≤ 64) : gEqB x y = some (eqD x y) := by
  have deep := gEqDeep_ok hx hy dx dy
  unfold gEqB
  split
  · simp only [eqD]; congr 1
  · simp only [eqD]; exact congrArg some (Bool.eq_iff_iff.mpr (by simp))
  · simp only [eqD]; congr 1
  · simp [eqD]
  · simp [eqD]
  · simp [eqD]
  · simp [eqD]
  · exact deep
theorem gEq_ok {x y : D} (hx : okD x = true) (hy : okD y = true) (dx : dpD x ≤ 64) (dy : dpD y ≤ 64) : gEq x y = some (.bl (eqD x y)) := by
  unfold gEq
  rw [gEqB_ok hx hy dx dy]
theorem gNe_ok {x y : D} (hx : okD x = true) (hy : okD y = true) (dx : dpD x ≤ 64) (dy : dpD y ≤ 64) : gNe x y = some (.bl (!eqD x y)) := by
  unfold gNe
  rw [gEqB_ok hx hy dx dy]
/-! ### in -/
theorem okL_mem : ∀ {l : List D} {x : D}, okL l = true → x ∈ l → okD x = true
  | a :: r, x, h, m => by
    simp only [okL, Bool.and_eq_true] at h
    rcases List.mem_cons.mp m with rfl | m
    · exact h.1
    · exact okL_mem h.2 m
theorem dpL_mem : ∀ {l : List D} {x : D}, x ∈ l → dpD x ≤ dpL l
  | a :: r, x, m => by
    simp only [dpL]
    rcases List.mem_cons.mp m with rfl | m
    · omega
    · have := dpL_mem m; omega
theorem eqF_eq {x y : D} (hx : flatD x = true) (hy : flatD y = true) : eqF x y = eqD x y := by
  cases x <;> first | (simp only [flatD] at hx; cases hx; done) | skip
  all_goals
    cases y <;> first | (simp only [flatD] at hy; cases hy; done) | skip
  all_goals simp [eqF, eqD]
theorem toPyL_any {p : PyData} {x : D} (e : toPy x = some p) : ∀ {ys : List D} {l : List PyData}, toPyL ys = some l → (l.any fun z => PyData.eqv z p) = ys.any fun z => eqD z x
  | [], l, h => by simp only [toPyL] at h; cases h; rfl
  | a :: r, l, h => by
    obtain ⟨q, qs, e1, e2, rfl⟩ := toPy_C h
    rw [List.any_cons, List.any_cons, eqv_ok e1 e, toPyL_any e e2]
theorem inDeep_ok {x : D} {ys : List D} (hx : okD x = true) (hy : okL ys = true) (dx : dpD x ≤ 63) (dy : dpL ys ≤ 63) : inDeep x ys = some (ys.any fun z => eqD z x) := by
  obtain ⟨p, e1, e2, e3⟩ := toPy_ok hx
  obtain ⟨q, f1, f2, f3⟩ := toPyL_ok hy
  unfold inDeep
  rw [e1, f1]
  simp only
  rw [if_pos ⟨shaped_ok e2 (by omega), shaped_ok (by simp only [PyData.canLay0]; exact f2) (by simp only [PyData.depth]; omega)⟩, toPyL_any e1 f1]
theorem inF_eq {x : D} {ys : List D} (h : (flatD x && ys.all flatD) = true) : inF x ys = ys.any fun z => eqD z x := by
  rw [Bool.and_eq_true] at h
  unfold inF
  rw [Bool.eq_iff_iff, List.any_eq_true, List.any_eq_true]
  constructor
  · rintro ⟨z, hz, e⟩; exact ⟨z, hz, by rw [← eqF_eq (List.all_eq_true.mp h.2 z hz) h.1]; exact e⟩
  · rintro ⟨z, hz, e⟩; exact ⟨z, hz, by rw [eqF_eq (List.all_eq_true.mp h.2 z hz) h.1]; exact e⟩
theorem gInB_lst {x : D} {ys : List D} (hx : okD x = true) (hy : okL ys = true) (dx : dpD x ≤ 63) (dy : dpL ys ≤ 63) : gInB x (.lst ys) = some (ys.any fun z => eqD z x) := by
  have e : gInB x (.lst ys) = if flatD x && ys.all flatD then some (inF x ys) else inDeep x ys := by
    cases x <;> first | rfl | (rename_i s; cases s with | nil => rfl | cons a r => cases r <;> rfl)
  rw [e]
  split
  · rename_i h; rw [inF_eq h]
  · exact inDeep_ok hx hy dx dy
theorem gInB_tup {x : D} {ys : List D} (hx : okD x = true) (hy : okL ys = true) (dx : dpD x ≤ 63) (dy : dpL ys ≤ 63) : gInB x (.tup ys) = some (ys.any fun z => eqD z x) := by
  have e : gInB x (.tup ys) = if flatD x && ys.all flatD then some (inF x ys) else inDeep x ys := by
    cases x <;> first | rfl | (rename_i s; cases s with | nil => rfl | cons a r => cases r <;> rfl)
  rw [e]
  split
  · rename_i h; rw [inF_eq h]
  · exact inDeep_ok hx hy dx dy
theorem gIn_lst {x : D} {ys : List D} (hx : okD x = true) (hy : okL ys = true) (dx : dpD x ≤ 63) (dy : dpL ys ≤ 63) : gIn x (.lst ys) = some (.bl (ys.any fun z => eqD z x)) := by unfold gIn; rw [gInB_lst hx hy dx dy]
theorem gIn_tup {x : D} {ys : List D} (hx : okD x = true) (hy : okL ys = true) (dx : dpD x ≤ 63) (dy : dpL ys ≤ 63) : gIn x (.tup ys) = some (.bl (ys.any fun z => eqD z x)) := by unfold gIn; rw [gInB_tup hx hy dx dy]
theorem gNotIn_lst {x : D} {ys : List D} (hx : okD x = true) (hy : okL ys = true) (dx : dpD x ≤ 63) (dy : dpL ys ≤ 63) : gNotIn x (.lst ys) = some (.bl (!ys.any fun z => eqD z x)) := by unfold gNotIn; rw [gInB_lst hx hy dx dy]
theorem gNotIn_tup {x : D} {ys : List D} (hx : okD x = true) (hy : okL ys = true) (dx : dpD x ≤ 63) (dy : dpL ys ≤ 63) : gNotIn x (.tup ys) = some (.bl (!ys.any fun z => eqD z x)) := by unfold gNotIn; rw [gInB_tup hx hy dx dy]
@[simp] theorem gIn_sign (a : Nat) (z : List Nat) : gIn (.str [a]) (.str z) = some (.bl (decide (a ∈ z))) := id rfl
@[simp] theorem gNotIn_sign (a : Nat) (z : List Nat) : gNotIn (.str [a]) (.str z) = some (.bl (!decide (a ∈ z))) := id rfl
/-- equal without bools: the same tree -/
theorem eqD_refl_int (i : Int) : eqD (.int i) (.int i) = true := by simp [eqD]
theorem eqL_nil (l : List D) : eqL l [] = l.isEmpty := by cases l <;> simp [eqL]
theorem eqL_nil' (l : List D) : eqL [] l = l.isEmpty := by cases l <;> simp [eqL]
end DQ

namespace LW
open PySem L2 PySem.Spec PyProof.Rows DL DH DM DE DB HotX L2H LamX
def top (i : Nat) : Stmt := PySem.Challenge.pw_ringtowers_k09_standings_written_and_rea.main.body.getD i (.Pass ⟨0, 0, 0, 0⟩)
abbrev LD : List Str := ["law"]
abbrev s_TooMany_init : Stmt := (clsB (top 14)).getD 0 (.Pass ⟨0, 0, 0, 0⟩)
abbrev s_is_within : Stmt := top 18
theorem sc_is_within : FnScope ["value", "low", "high"] ["value", "low", "high"] (defScope s_is_within) := ⟨rfl, rfl, rfl, by decide +kernel, rfl, by decide +kernel, by decide +kernel⟩
abbrev s_is_standing_value : Stmt := top 19
theorem sc_is_standing_value : FnScope ["value", "sign"] ["value"] (defScope s_is_standing_value) := ⟨rfl, rfl, rfl, by decide +kernel, rfl, by decide +kernel, by decide +kernel⟩
abbrev s_need_standing : Stmt := top 20
theorem sc_need_standing : FnScope ["value"] ["value"] (defScope s_need_standing) := ⟨rfl, rfl, rfl, by decide +kernel, rfl, by decide +kernel, by decide +kernel⟩
abbrev s_need_post : Stmt := top 21
theorem sc_need_post : FnScope ["value"] ["value"] (defScope s_need_post) := ⟨rfl, rfl, rfl, by decide +kernel, rfl, by decide +kernel, by decide +kernel⟩
abbrev s_third : Stmt := top 22
theorem sc_third : FnScope ["one", "other"] ["one", "other"] (defScope s_third) := ⟨rfl, rfl, rfl, by decide +kernel, rfl, by decide +kernel, by decide +kernel⟩
abbrev s_posts_of : Stmt := top 23
theorem sc_posts_of : FnScope ["standing", "sign"] ["standing"] (defScope s_posts_of) := ⟨rfl, rfl, rfl, by decide +kernel, rfl, by decide +kernel, by decide +kernel⟩
abbrev s_tops_of : Stmt := top 24
theorem sc_tops_of : FnScope ["standing", "post"] ["standing"] (defScope s_tops_of) := ⟨rfl, rfl, rfl, by decide +kernel, rfl, by decide +kernel, by decide +kernel⟩
abbrev s_can_move : Stmt := top 25
theorem sc_can_move : FnScope ["standing", "ring", "post", "tops"] ["standing", "ring", "post"] (defScope s_can_move) := ⟨rfl, rfl, rfl, by decide +kernel, rfl, by decide +kernel, by decide +kernel⟩
abbrev s_is_move_pair : Stmt := top 26
theorem sc_is_move_pair : FnScope ["standing", "value"] ["standing", "value"] (defScope s_is_move_pair) := ⟨rfl, rfl, rfl, by decide +kernel, rfl, by decide +kernel, by decide +kernel⟩
abbrev s_text_of : Stmt := top 28
theorem sc_text_of : FnScope ["standing", "runs", "many", "at", "post"] ["standing"] (defScope s_text_of) := ⟨rfl, rfl, rfl, by decide +kernel, rfl, by decide +kernel, by decide +kernel⟩
abbrev s_number_in : Stmt := top 29
theorem sc_number_in : FnScope ["word", "sign"] ["word"] (defScope s_number_in) := ⟨rfl, rfl, rfl, by decide +kernel, rfl, by decide +kernel, by decide +kernel⟩
abbrev s_standing_in : Stmt := top 30
theorem sc_standing_in : FnScope ["value", "found", "word", "parts"] ["value"] (defScope s_standing_in) := ⟨rfl, rfl, rfl, by decide +kernel, rfl, by decide +kernel, by decide +kernel⟩
abbrev s_standing_text : Stmt := top 31
theorem sc_standing_text : FnScope ["standing"] ["standing"] (defScope s_standing_text) := ⟨rfl, rfl, rfl, by decide +kernel, rfl, by decide +kernel, by decide +kernel⟩
abbrev s_read_standing : Stmt := top 32
theorem sc_read_standing : FnScope ["value"] ["value"] (defScope s_read_standing) := ⟨rfl, rfl, rfl, by decide +kernel, rfl, by decide +kernel, by decide +kernel⟩
abbrev s_doubled : Stmt := top 34
theorem sc_doubled : FnScope ["many", "found", "turn"] ["many"] (defScope s_doubled) := ⟨rfl, rfl, rfl, by decide +kernel, rfl, by decide +kernel, by decide +kernel⟩
abbrev s_to_one : Stmt := top 35
theorem sc_to_one : FnScope ["posts", "goal", "found", "post"] ["posts", "goal"] (defScope s_to_one) := ⟨rfl, rfl, rfl, by decide +kernel, rfl, by decide +kernel, by decide +kernel⟩
abbrev s_parted : Stmt := top 36
theorem sc_parted : FnScope ["one", "other", "at"] ["one", "other"] (defScope s_parted) := ⟨rfl, rfl, rfl, by decide +kernel, rfl, by decide +kernel, by decide +kernel⟩
abbrev s_both_worths : Stmt := top 37
theorem sc_both_worths : FnScope ["one", "other", "first", "second", "post", "goal", "spare", "once"] ["one", "other"] (defScope s_both_worths) := ⟨rfl, rfl, rfl, by decide +kernel, rfl, by decide +kernel, by decide +kernel⟩
abbrev s_fewest_of : Stmt := top 38
theorem sc_fewest_of : FnScope ["one", "other"] ["one", "other"] (defScope s_fewest_of) := ⟨rfl, rfl, rfl, by decide +kernel, rfl, by decide +kernel, by decide +kernel⟩
abbrev s_Rings_init : Stmt := (clsB (top 40)).getD 1 (.Pass ⟨0, 0, 0, 0⟩)
theorem sc_Rings_init : FnScope ["self", "standing"] ["self", "standing"] (defScope s_Rings_init) := ⟨rfl, rfl, rfl, by decide +kernel, rfl, by decide +kernel, by decide +kernel⟩
abbrev s_Rings_read : Stmt := (clsB (top 40)).getD 2 (.Pass ⟨0, 0, 0, 0⟩)
theorem sc_Rings_read : FnScope ["cls", "value"] ["cls", "value"] (defScope s_Rings_read) := ⟨rfl, rfl, rfl, by decide +kernel, rfl, by decide +kernel, by decide +kernel⟩
abbrev s_Rings_source : Stmt := (clsB (top 40)).getD 3 (.Pass ⟨0, 0, 0, 0⟩)
theorem sc_Rings_source : FnScope ["self"] ["self"] (defScope s_Rings_source) := ⟨rfl, rfl, rfl, by decide +kernel, rfl, by decide +kernel, by decide +kernel⟩
abbrev s_Rings_str : Stmt := (clsB (top 40)).getD 18 (.Pass ⟨0, 0, 0, 0⟩)
theorem sc_Rings_str : FnScope ["self"] ["self"] (defScope s_Rings_str) := ⟨rfl, rfl, rfl, by decide +kernel, rfl, by decide +kernel, by decide +kernel⟩
abbrev s__law_deck : Stmt := top 42
theorem sc__law_deck : FnScope ["cell", "turn"] ["cell", "turn"] (defScope s__law_deck) := ⟨rfl, rfl, rfl, by decide +kernel, rfl, by decide +kernel, by decide +kernel⟩
abbrev s__law_pick : Stmt := top 43
theorem sc__law_pick : FnScope ["deck", "size", "found", "number"] ["deck", "size"] (defScope s__law_pick) := ⟨rfl, rfl, rfl, by decide +kernel, rfl, by decide +kernel, by decide +kernel⟩
abbrev s__law_one : Stmt := top 44
theorem sc__law_one : FnScope ["deck", "some"] ["deck", "some"] (defScope s__law_one) := ⟨rfl, rfl, rfl, by decide +kernel, rfl, by decide +kernel, by decide +kernel⟩
abbrev s__law_sort : Stmt := top 45
theorem sc__law_sort : FnScope ["thing"] ["thing"] (defScope s__law_sort) := ⟨rfl, rfl, rfl, by decide +kernel, rfl, by decide +kernel, by decide +kernel⟩
abbrev s__law_same : Stmt := top 46
theorem sc__law_same : FnScope ["told", "due", "k", "part"] ["told", "due"] (defScope s__law_same) := ⟨rfl, rfl, rfl, by decide +kernel, rfl, by decide +kernel, by decide +kernel⟩
abbrev s__law_kin : Stmt := top 47
theorem sc__law_kin : FnScope ["e", "sorts", "labels", "label", "good"] ["e"] (defScope s__law_kin) := ⟨rfl, rfl, rfl, by decide +kernel, rfl, by decide +kernel, by decide +kernel⟩
abbrev s__law_try : Stmt := top 48
theorem sc__law_try : FnScope ["call_so", "found", "e"] ["call_so"] (defScope s__law_try) := ⟨rfl, rfl, rfl, by decide +kernel, rfl, by decide +kernel, by decide +kernel⟩
abbrev s__law_standing : Stmt := top 49
theorem sc__law_standing : FnScope ["deck", "many", "way_so", "found", "post", "part", "ring"] ["deck", "many"] (defScope s__law_standing) := ⟨rfl, rfl, rfl, by decide +kernel, rfl, by decide +kernel, by decide +kernel⟩
abbrev s__law_writing : Stmt := top 50
theorem sc__law_writing : FnScope ["standing_so", "runs", "post", "many"] ["standing_so"] (defScope s__law_writing) := ⟨rfl, rfl, rfl, by decide +kernel, rfl, by decide +kernel, by decide +kernel⟩
abbrev s__law_reading : Stmt := top 51
theorem sc__law_reading : FnScope ["text", "found", "last", "word", "many"] ["text"] (defScope s__law_reading) := ⟨rfl, rfl, rfl, by decide +kernel, rfl, by decide +kernel, by decide +kernel⟩
abbrev s__law_bent : Stmt := top 52
theorem sc__law_bent : FnScope ["deck", "text", "at", "words", "spot", "way_so", "some"] ["deck", "text"] (defScope s__law_bent) := ⟨rfl, rfl, rfl, by decide +kernel, rfl, by decide +kernel, by decide +kernel⟩
abbrev s_law : Stmt := top 53
theorem sc_law : FnScope ["script", "cell", "deck", "turn", "standing_so", "text", "told", "more", "bent", "one", "due", "odd", "some"] ["script"] (defScope s_law) := ⟨rfl, rfl, rfl, by decide +kernel, rfl, by decide +kernel, by decide +kernel⟩
/-- what the top has left -/
structure Tx (K : PySem.W.Frag) (mg : Str → Option Value) (C : Nat → Addr) : Prop where
  d_is_within : ∃ f fd, Fun K "is_within" "is_within" s_is_within f fd ∧ mg "is_within" = some (.ref f) ∧ Binds K fd ["value", "low", "high"] []
  d_is_standing_value : ∃ f fd, Fun K "is_standing_value" "is_standing_value" s_is_standing_value f fd ∧ mg "is_standing_value" = some (.ref f) ∧ Binds K fd ["value"] []
  d_need_standing : ∃ f fd, Fun K "need_standing" "need_standing" s_need_standing f fd ∧ mg "need_standing" = some (.ref f) ∧ Binds K fd ["value"] []
  d_need_post : ∃ f fd, Fun K "need_post" "need_post" s_need_post f fd ∧ mg "need_post" = some (.ref f) ∧ Binds K fd ["value"] []
  d_third : ∃ f fd, Fun K "third" "third" s_third f fd ∧ mg "third" = some (.ref f) ∧ Binds K fd ["one", "other"] []
  d_posts_of : ∃ f fd, Fun K "posts_of" "posts_of" s_posts_of f fd ∧ mg "posts_of" = some (.ref f) ∧ Binds K fd ["standing"] []
  d_tops_of : ∃ f fd, Fun K "tops_of" "tops_of" s_tops_of f fd ∧ mg "tops_of" = some (.ref f) ∧ Binds K fd ["standing"] []
  d_can_move : ∃ f fd, Fun K "can_move" "can_move" s_can_move f fd ∧ mg "can_move" = some (.ref f) ∧ Binds K fd ["standing", "ring", "post"] []
  d_is_move_pair : ∃ f fd, Fun K "is_move_pair" "is_move_pair" s_is_move_pair f fd ∧ mg "is_move_pair" = some (.ref f) ∧ Binds K fd ["standing", "value"] []
  d_text_of : ∃ f fd, Fun K "text_of" "text_of" s_text_of f fd ∧ mg "text_of" = some (.ref f) ∧ Binds K fd ["standing"] []
  d_number_in : ∃ f fd, Fun K "number_in" "number_in" s_number_in f fd ∧ mg "number_in" = some (.ref f) ∧ Binds K fd ["word"] []
  d_standing_in : ∃ f fd, Fun K "standing_in" "standing_in" s_standing_in f fd ∧ mg "standing_in" = some (.ref f) ∧ Binds K fd ["value"] []
  d_standing_text : ∃ f fd, Fun K "standing_text" "standing_text" s_standing_text f fd ∧ mg "standing_text" = some (.ref f) ∧ Binds K fd ["standing"] []
  d_read_standing : ∃ f fd, Fun K "read_standing" "read_standing" s_read_standing f fd ∧ mg "read_standing" = some (.ref f) ∧ Binds K fd ["value"] []
  d_doubled : ∃ f fd, Fun K "doubled" "doubled" s_doubled f fd ∧ mg "doubled" = some (.ref f) ∧ Binds K fd ["many"] []
  d_to_one : ∃ f fd, Fun K "to_one" "to_one" s_to_one f fd ∧ mg "to_one" = some (.ref f) ∧ Binds K fd ["posts", "goal"] []
  d_parted : ∃ f fd, Fun K "parted" "parted" s_parted f fd ∧ mg "parted" = some (.ref f) ∧ Binds K fd ["one", "other"] []
  d_both_worths : ∃ f fd, Fun K "both_worths" "both_worths" s_both_worths f fd ∧ mg "both_worths" = some (.ref f) ∧ Binds K fd ["one", "other"] []
  d_fewest_of : ∃ f fd, Fun K "fewest_of" "fewest_of" s_fewest_of f fd ∧ mg "fewest_of" = some (.ref f) ∧ Binds K fd ["one", "other"] []
  d_Rings_init : ∃ f fd, Fun K "__init__" "Rings.__init__" s_Rings_init f fd ∧ Mk K (C 14) f ∧ Binds K fd ["self", "standing"] []
  d_Rings_read : ∃ f fd pp, Fun K "read" "Rings.read" s_Rings_read f fd ∧ ClX.CMet K (C 14) (.type "type") "read" pp f ∧ Binds K fd ["cls", "value"] []
  d_Rings_source : ∃ f fd pp, Fun K "source" "Rings.source" s_Rings_source f fd ∧ PropOf K (C 14) "source" pp f ∧ Binds K fd ["self"] []
  d_Rings_str : ∃ f fd, Fun K "__str__" "Rings.__str__" s_Rings_str f fd ∧ PySem.W.findIn K (.ref (C 14)) "__str__" = some (some (.ref f)) ∧ PySem.W.isFn K (.ref f) = true ∧ Binds K fd ["self"] []
  d__law_deck : ∃ f fd, Fun K "_law_deck" "_law_deck" s__law_deck f fd ∧ mg "_law_deck" = some (.ref f) ∧ Binds K fd ["cell", "turn"] []
  d__law_pick : ∃ f fd, Fun K "_law_pick" "_law_pick" s__law_pick f fd ∧ mg "_law_pick" = some (.ref f) ∧ Binds K fd ["deck", "size"] []
  d__law_one : ∃ f fd, Fun K "_law_one" "_law_one" s__law_one f fd ∧ mg "_law_one" = some (.ref f) ∧ Binds K fd ["deck", "some"] []
  d__law_sort : ∃ f fd, Fun K "_law_sort" "_law_sort" s__law_sort f fd ∧ mg "_law_sort" = some (.ref f) ∧ Binds K fd ["thing"] []
  d__law_same : ∃ f fd, Fun K "_law_same" "_law_same" s__law_same f fd ∧ mg "_law_same" = some (.ref f) ∧ Binds K fd ["told", "due"] []
  d__law_kin : ∃ f fd, Fun K "_law_kin" "_law_kin" s__law_kin f fd ∧ mg "_law_kin" = some (.ref f) ∧ Binds K fd ["e"] []
  d__law_try : ∃ f fd, Fun K "_law_try" "_law_try" s__law_try f fd ∧ mg "_law_try" = some (.ref f) ∧ Binds K fd ["call_so"] []
  d__law_standing : ∃ f fd, Fun K "_law_standing" "_law_standing" s__law_standing f fd ∧ mg "_law_standing" = some (.ref f) ∧ Binds K fd ["deck", "many"] []
  d__law_writing : ∃ f fd, Fun K "_law_writing" "_law_writing" s__law_writing f fd ∧ mg "_law_writing" = some (.ref f) ∧ Binds K fd ["standing_so"] []
  d__law_reading : ∃ f fd, Fun K "_law_reading" "_law_reading" s__law_reading f fd ∧ mg "_law_reading" = some (.ref f) ∧ Binds K fd ["text"] []
  d__law_bent : ∃ f fd, Fun K "_law_bent" "_law_bent" s__law_bent f fd ∧ mg "_law_bent" = some (.ref f) ∧ Binds K fd ["deck", "text"] []
  d_law : ∃ f fd, Fun K "law" "law" s_law f fd ∧ mg "law" = some (.ref f) ∧ Binds K fd ["script"] []
  e_Rings : mg "Rings" = some (.ref (C 14))
  cl_Rings : Cls K (C 14)
  cr_Rings : ClX.CRead K (C 14) (.type "type")
  na_Rings_row : NoAttr K (C 14) "row"
  n_ValueError : mg "ValueError" = none
  n_all : mg "all" = none
  n_bool : mg "bool" = none
  n_enumerate : mg "enumerate" = none
  n_int : mg "int" = none
  n_isinstance : mg "isinstance" = none
  n_len : mg "len" = none
  n_list : mg "list" = none
  n_min : mg "min" = none
  n_range : mg "range" = none
  n_str : mg "str" = none
  n_tuple : mg "tuple" = none
  n_zip : mg "zip" = none
  e_InvalidStanding : mg "InvalidStanding" = some (.ref (C 0))
  e_InvalidPost : mg "InvalidPost" = some (.ref (C 1))
  e_InvalidPosts : mg "InvalidPosts" = some (.ref (C 2))
  e_InvalidNumber : mg "InvalidNumber" = some (.ref (C 3))
  e_InvalidArcs : mg "InvalidArcs" = some (.ref (C 4))
  e_InvalidMove : mg "InvalidMove" = some (.ref (C 5))
  e_InvalidWay : mg "InvalidWay" = some (.ref (C 6))
  e_InvalidRing : mg "InvalidRing" = some (.ref (C 7))
  e_InvalidText : mg "InvalidText" = some (.ref (C 8))
  e_Barred : mg "Barred" = some (.ref (C 9))
  e_Unlike : mg "Unlike" = some (.ref (C 10))
  e_NothingToUndo : mg "NothingToUndo" = some (.ref (C 11))
  e_TooMany : mg "TooMany" = some (.ref (C 12))
  e_RingError : mg "RingError" = some (.ref (C 13))
  g_MOST_RINGS : ∃ t, mg "MOST_RINGS" = some (.int 1000 t)
  g_POSTS : ∃ a, mg "POSTS" = some (.ref a) ∧ SqT K (fun _ => none) a [V.str ⟨#[48]⟩, V.str ⟨#[49]⟩, V.str ⟨#[50]⟩]
section
variable {P : Program} {w : World} {K : PySem.W.Frag} {mg : Str → Option Value} {base : Heap} {c : Cc} {C : Nat → Addr}
theorem c_MOST_RINGS {X : Cx} {wx : WX} {pos : Pos} (T : Tx X.K X.mg C) (hk : c.K = X.K) (hg : Gl X "MOST_RINGS" := by rfl) : GE X c wx (.Name "MOST_RINGS" pos) (mC (.int 1000)) := by
  obtain ⟨t, h1⟩ := T.g_MOST_RINGS
  exact ge_glob (v := .int 1000) h1 ⟨t, rfl⟩ (fun W => by simp only [At]) hg
theorem c_POSTS {X : Cx} {wx : WX} {pos : Pos} (T : Tx X.K X.mg C) (hk : c.K = X.K) (hg : Gl X "POSTS" := by rfl) : GE X c wx (.Name "POSTS" pos) (mC (.tup [.str [48], .str [49], .str [50]])) := by
  obtain ⟨a, h1, h2⟩ := T.g_POSTS
  refine ge_glob (v := .ref a) h1 rfl (fun W => ?_) hg
  simp only [At, AtL]
  exact ⟨a, _, rfl, sqTK (by rw [hk]; exact h2), _, _, rfl, rfl, _, _, rfl, rfl, _, _, rfl, rfl, rfl⟩
theorem gfld_Rings_row {X : Cx} {wx : WX} {e : Expr} {pos : Pos} {me : M D} (T : Tx X.K X.mg C) (O : OkB LD X.prog X.w X.K X.mg X.base c C) (he : GE X c wx e me) (hb : attributeBase e "row" X.env (eval e X.env) = eval e X.env := by rfl) : GE X c wx (.Attribute e "row" pos) (mFld 14 "row" me) :=
  ge_fld O.hk.symm (O.hga 14) T.cl_Rings T.na_Rings_row he hb
theorem gsfld_Rings_row {X : Cx} {wx : WX} {o e : Expr} {pos pos' : Pos} {mo me : M D} (T : Tx X.K X.mg C) (O : OkB LD X.prog X.w X.K X.mg X.base c C) (ho : GE X c wx o mo) (he : GE X c wx e me) (hs : swapsWith e (some (.Attribute o "row" pos')) pos.line X.env = pure false := by rfl) : GS X c wx (.Assign [.Attribute o "row" pos'] e pos) (sFldS 14 "row" mo me) :=
  gs_fld (O.hga 14) T.cl_Rings T.na_Rings_row ho he hs
def m_is_within : MS := (sRet (mAndV (mCall gIsi (mCons (mVar 0) (mCons (mC (.ty "int")) mNil))) (mAndV (mNotV (mCall gIsi (mCons (mVar 0) (mCons (mC (.ty "bool")) mNil)))) (mChain gLe gLe (mVar 1) (mVar 0) (mVar 2)))))
def F_is_within : FS := mDef 3 m_is_within
theorem F_is_within_ap (x0 x1 x2 : D) (h : Cells) : F_is_within [x0, x1, x2] h = SO.res (m_is_within [some (.val x0), some (.val x1), some (.val x2)] h) := by
  show mDef _ _ _ _ = _
  unfold mDef
  simp only [List.map, List.length_cons, List.length_nil, List.replicate, Nat.reduceAdd, Nat.reduceSub, List.cons_append, List.nil_append]
  generalize m_is_within _ h = o
  cases o <;> rfl
theorem o_is_within {f : Addr} {fd : FuncData} (h1 : Fun K "is_within" "is_within" s_is_within f fd) (T : Tx K mg C) (O : OkB LD P w K mg base c C) : FnOk P w K mg base (L2N.CX P w) 1 f fd ["value", "low", "high"] (spD c 3 F_is_within) := by
  have hK := O.hk.symm
  have hn := O.hn
  exact fn_ok h1 sc_is_within rfl fun cdv A outer s H E hr => (gss_one (gs_ret (ge_and (ge_callB (cg_isi hK) T.n_isinstance (ga_cons (ge_var (i := 0)) (ga_cons (ge_bty T.n_int) ga_nil))) (ge_and (ge_not (ge_callB (cg_isi hK) T.n_isinstance (ga_cons (ge_var (i := 0)) (ga_cons (ge_bty T.n_bool) ga_nil)))) (ge_one (ge_chain og_le og_le (ge_var (i := 1)) (ge_var (i := 0)) (ge_var (i := 2))))))))
theorem k_is_within (T : Tx K mg C) (O : OkB LD P w K mg base c C) : FnK P w K mg base c "is_within" 1 3 F_is_within := by
  obtain ⟨f, fd, h1, h2, h3⟩ := T.d_is_within
  exact fn_k (o_is_within h1 T O) h1.kp h2 h3 rfl
def m_is_standing_value : MS := (sRet (mAndV (mCall gIsi (mCons (mVar 0) (mCons (mC (.ty "str")) mNil))) (mAndV (mOp2 gLe (mCallV gLen (mVarB 0)) (mC (.int 1000))) (mCall gAll (mCons (mLcV (mIt itAny (mVar 0)) (tgN 1) mTrue (mOpV gIn (mVarB 1) (mBd (mC (.tup [.str [48], .str [49], .str [50]])))) [1]) mNil)))))
def F_is_standing_value : FS := mDef 2 m_is_standing_value
theorem F_is_standing_value_ap (x0 : D) (h : Cells) : F_is_standing_value [x0] h = SO.res (m_is_standing_value [some (.val x0), none] h) := by
  show mDef _ _ _ _ = _
  unfold mDef
  simp only [List.map, List.length_cons, List.length_nil, List.replicate, Nat.reduceAdd, Nat.reduceSub, List.cons_append, List.nil_append]
  generalize m_is_standing_value _ h = o
  cases o <;> rfl
theorem o_is_standing_value {f : Addr} {fd : FuncData} (h1 : Fun K "is_standing_value" "is_standing_value" s_is_standing_value f fd) (T : Tx K mg C) (O : OkB LD P w K mg base c C) : FnOk P w K mg base (L2N.CX P w) 1 f fd ["value"] (spD c 1 F_is_standing_value) := by
  have hK := O.hk.symm
  have hn := O.hn
  exact fn_ok h1 sc_is_standing_value rfl fun cdv A outer s H E hr => (gss_one (gs_ret (ge_and (ge_callB (cg_isi hK) T.n_isinstance (ga_cons (ge_var (i := 0)) (ga_cons (ge_bty T.n_str) ga_nil))) (ge_and (ge_cmp og_le (ge_callB1 (cg_len hK) T.n_len (gb_var (i := 0))) (c_MOST_RINGS T O.hk)) (ge_one (ge_callB (cg_all rfl) T.n_all (ga_cons (ge_lc (own := [("sign", 1)]) rfl sc_is_standing_value.nd (gi_any hK (ge_var (i := 0))) (show blkC ["value", "sign"] (defScope s_is_standing_value) _ _ = true from by decide +kernel) (fun _ _ _ _ _ => (gg_name (i := 1) sc_is_standing_value.nd)) (fun _ _ _ _ _ => gts_nil) (fun _ _ _ _ _ => (ge_cmpV (og_in hK (hu65 hr)) (gb_var (i := 1)) (gb_ge (c_POSTS T O.hk))))) ga_nil)))))))
theorem k_is_standing_value (T : Tx K mg C) (O : OkB LD P w K mg base c C) : FnK P w K mg base c "is_standing_value" 1 1 F_is_standing_value := by
  obtain ⟨f, fd, h1, h2, h3⟩ := T.d_is_standing_value
  exact fn_k (o_is_standing_value h1 T O) h1.kp h2 h3 rfl
def m_need_standing : MS := (sIf (mNot (mTru (mFn F_is_standing_value (mCons (mVar 0) mNil)))) (sRaise 0) sNil)
def F_need_standing : FS := mDef 1 m_need_standing
theorem F_need_standing_ap (x0 : D) (h : Cells) : F_need_standing [x0] h = SO.res (m_need_standing [some (.val x0)] h) := by
  show mDef _ _ _ _ = _
  unfold mDef
  simp only [List.map, List.length_cons, List.length_nil, List.replicate, Nat.reduceAdd, Nat.reduceSub, List.cons_append, List.nil_append]
  generalize m_need_standing _ h = o
  cases o <;> rfl
theorem o_need_standing {f : Addr} {fd : FuncData} (h1 : Fun K "need_standing" "need_standing" s_need_standing f fd) (T : Tx K mg C) (O : OkB LD P w K mg base c C) : FnOk P w K mg base (L2N.CX P w) 2 f fd ["value"] (spD c 1 F_need_standing) := by
  have hK := O.hk.symm
  have hn := O.hn
  exact fn_ok h1 sc_need_standing rfl fun cdv A outer s H E hr => (gss_one (gs_if (gt_not (gt_val hK (ge_call (k_is_standing_value T O) (hr.mono (by decide)) (L2N.takes_of rfl rfl rfl rfl) (ga_cons (ge_var (i := 0)) ga_nil) (hlen := (len_cons (fun _ _ _ _ e => len_nil e)))))) (gss_one (gs_raise O.er (by decide) T.e_InvalidStanding (O.hx 0 (by decide)) rfl (L2N.takes_of rfl rfl rfl rfl))) gss_nil))
theorem k_need_standing (T : Tx K mg C) (O : OkB LD P w K mg base c C) : FnK P w K mg base c "need_standing" 2 1 F_need_standing := by
  obtain ⟨f, fd, h1, h2, h3⟩ := T.d_need_standing
  exact fn_k (o_need_standing h1 T O) h1.kp h2 h3 rfl
def m_need_post : MS := (sIf (mNot (mTru (mFn F_is_within (mCons (mVar 0) (mCons (mC (.int 0)) (mCons (mC (.int 2)) mNil)))))) (sRaise 1) sNil)
def F_need_post : FS := mDef 1 m_need_post
theorem F_need_post_ap (x0 : D) (h : Cells) : F_need_post [x0] h = SO.res (m_need_post [some (.val x0)] h) := by
  show mDef _ _ _ _ = _
  unfold mDef
  simp only [List.map, List.length_cons, List.length_nil, List.replicate, Nat.reduceAdd, Nat.reduceSub, List.cons_append, List.nil_append]
  generalize m_need_post _ h = o
  cases o <;> rfl
theorem o_need_post {f : Addr} {fd : FuncData} (h1 : Fun K "need_post" "need_post" s_need_post f fd) (T : Tx K mg C) (O : OkB LD P w K mg base c C) : FnOk P w K mg base (L2N.CX P w) 2 f fd ["value"] (spD c 1 F_need_post) := by
  have hK := O.hk.symm
  have hn := O.hn
  exact fn_ok h1 sc_need_post rfl fun cdv A outer s H E hr => (gss_one (gs_if (gt_not (gt_val hK (ge_call (k_is_within T O) (hr.mono (by decide)) (L2N.takes_of rfl rfl rfl rfl) (ga_cons (ge_var (i := 0)) (ga_cons ge_int (ga_cons ge_int ga_nil))) (hlen := (len_cons (len_cons (len_cons (fun _ _ _ _ e => len_nil e)))))))) (gss_one (gs_raise O.er (by decide) T.e_InvalidPost (O.hx 1 (by decide)) rfl (L2N.takes_of rfl rfl rfl rfl))) gss_nil))
theorem k_need_post (T : Tx K mg C) (O : OkB LD P w K mg base c C) : FnK P w K mg base c "need_post" 2 1 F_need_post := by
  obtain ⟨f, fd, h1, h2, h3⟩ := T.d_need_post
  exact fn_k (o_need_post h1 T O) h1.kp h2 h3 rfl
def m_third : MS := (sRet (mOp2 gSub (mOp2 gSub (mC (.int 3)) (mVar 0)) (mVar 1)))
def F_third : FS := mDef 2 m_third
theorem F_third_ap (x0 x1 : D) (h : Cells) : F_third [x0, x1] h = SO.res (m_third [some (.val x0), some (.val x1)] h) := by
  show mDef _ _ _ _ = _
  unfold mDef
  simp only [List.map, List.length_cons, List.length_nil, List.replicate, Nat.reduceAdd, Nat.reduceSub, List.cons_append, List.nil_append]
  generalize m_third _ h = o
  cases o <;> rfl
theorem o_third {f : Addr} {fd : FuncData} (h1 : Fun K "third" "third" s_third f fd) (T : Tx K mg C) (O : OkB LD P w K mg base c C) : FnOk P w K mg base (L2N.CX P w) 1 f fd ["one", "other"] (spD c 2 F_third) := by
  have hK := O.hk.symm
  have hn := O.hn
  exact fn_ok h1 sc_third rfl fun cdv A outer s H E hr => (gss_one (gs_ret (ge_op og_sub (ge_op og_sub ge_int (ge_var (i := 0))) (ge_var (i := 1)))))
theorem k_third (T : Tx K mg C) (O : OkB LD P w K mg base c C) : FnK P w K mg base c "third" 1 2 F_third := by
  obtain ⟨f, fd, h1, h2, h3⟩ := T.d_third
  exact fn_k (o_third h1 T O) h1.kp h2 h3 rfl
def m_posts_of : MS := (sRet (mLcV (mIt itAny (mVar 0)) (tgN 1) mTrue (mCallV gInt (mVarB 1)) [1]))
def F_posts_of : FS := mDef 2 m_posts_of
theorem F_posts_of_ap (x0 : D) (h : Cells) : F_posts_of [x0] h = SO.res (m_posts_of [some (.val x0), none] h) := by
  show mDef _ _ _ _ = _
  unfold mDef
  simp only [List.map, List.length_cons, List.length_nil, List.replicate, Nat.reduceAdd, Nat.reduceSub, List.cons_append, List.nil_append]
  generalize m_posts_of _ h = o
  cases o <;> rfl
theorem o_posts_of {f : Addr} {fd : FuncData} (h1 : Fun K "posts_of" "posts_of" s_posts_of f fd) (T : Tx K mg C) (O : OkB LD P w K mg base c C) : FnOk P w K mg base (L2N.CX P w) 1 f fd ["standing"] (spD c 1 F_posts_of) := by
  have hK := O.hk.symm
  have hn := O.hn
  exact fn_ok h1 sc_posts_of rfl fun cdv A outer s H E hr => (gss_one (gs_ret (ge_lc (own := [("sign", 1)]) rfl sc_posts_of.nd (gi_any hK (ge_var (i := 0))) (show blkC ["standing", "sign"] (defScope s_posts_of) _ _ = true from by decide +kernel) (fun _ _ _ _ _ => (gg_name (i := 1) sc_posts_of.nd)) (fun _ _ _ _ _ => gts_nil) (fun _ _ _ _ _ => (ge_callTy1 cg_int T.n_int (gb_var (i := 1)))))))
theorem k_posts_of (T : Tx K mg C) (O : OkB LD P w K mg base c C) : FnK P w K mg base c "posts_of" 1 1 F_posts_of := by
  obtain ⟨f, fd, h1, h2, h3⟩ := T.d_posts_of
  exact fn_k (o_posts_of h1 T O) h1.kp h2 h3 rfl
def m_tops_of : MS := (sRet (mCallV gTuple (mBd (mLcV (mIt itAny (mC (.tup [.str [48], .str [49], .str [50]]))) (tgN 1) mTrue (mIf (mAsB (mOpV gIn (mVarB 1) (mVarB 0))) (mStrM gRindex (mVar 0) (mVar 1)) (mC .non)) [1]))))
def F_tops_of : FS := mDef 2 m_tops_of
theorem F_tops_of_ap (x0 : D) (h : Cells) : F_tops_of [x0] h = SO.res (m_tops_of [some (.val x0), none] h) := by
  show mDef _ _ _ _ = _
  unfold mDef
  simp only [List.map, List.length_cons, List.length_nil, List.replicate, Nat.reduceAdd, Nat.reduceSub, List.cons_append, List.nil_append]
  generalize m_tops_of _ h = o
  cases o <;> rfl
theorem o_tops_of {f : Addr} {fd : FuncData} (h1 : Fun K "tops_of" "tops_of" s_tops_of f fd) (T : Tx K mg C) (O : OkB LD P w K mg base c C) : FnOk P w K mg base (L2N.CX P w) 1 f fd ["standing"] (spD c 1 F_tops_of) := by
  have hK := O.hk.symm
  have hn := O.hn
  exact fn_ok h1 sc_tops_of rfl fun cdv A outer s H E hr => (gss_one (gs_ret (ge_callTy1 (cg_tuple hK) T.n_tuple (gb_ge (ge_lc (own := [("post", 1)]) rfl sc_tops_of.nd (gi_any hK (c_POSTS T O.hk)) (show blkC ["standing", "post"] (defScope s_tops_of) _ _ = true from by decide +kernel) (fun _ _ _ _ _ => (gg_name (i := 1) sc_tops_of.nd)) (fun _ _ _ _ _ => gts_nil) (fun _ _ _ _ _ => (ge_ifExp (gt_cmpV (og_in hK (hu65 hr)) (gb_var (i := 1)) (gb_var (i := 0))) (ge_rindex (ge_var (i := 0)) (ge_var (i := 1))) ge_non)))))))
theorem k_tops_of (T : Tx K mg C) (O : OkB LD P w K mg base c C) : FnK P w K mg base c "tops_of" 1 1 F_tops_of := by
  obtain ⟨f, fd, h1, h2, h3⟩ := T.d_tops_of
  exact fn_k (o_tops_of h1 T O) h1.kp h2 h3 rfl
def m_can_move : MS := (sSeq (sSet 3 (mFn F_tops_of (mCons (mVar 0) mNil))) (sSeq (sIf (mOr (mAsB (mOpV gNe (mBd (mOpV gIx (mVarB 3) (mBd (mCallV gInt (mBd (mOpV gIx (mVarB 0) (mVarB 1))))))) (mVarB 1))) (mAsB (mOpV gEq (mBd (mOpV gIx (mVarB 0) (mVarB 1))) (mBd (mCallV gStr (mVarB 2)))))) (sRet (mC (.bl false))) sNil) (sRet (mOrV (mOp2 gIs (mOpV gIx (mVarB 3) (mVarB 2)) (mC .non)) (mOp2 gLt (mOpV gIx (mVarB 3) (mVarB 2)) (mVar 1))))))
def F_can_move : FS := mDef 4 m_can_move
theorem F_can_move_ap (x0 x1 x2 : D) (h : Cells) : F_can_move [x0, x1, x2] h = SO.res (m_can_move [some (.val x0), some (.val x1), some (.val x2), none] h) := by
  show mDef _ _ _ _ = _
  unfold mDef
  simp only [List.map, List.length_cons, List.length_nil, List.replicate, Nat.reduceAdd, Nat.reduceSub, List.cons_append, List.nil_append]
  generalize m_can_move _ h = o
  cases o <;> rfl
theorem o_can_move {f : Addr} {fd : FuncData} (h1 : Fun K "can_move" "can_move" s_can_move f fd) (T : Tx K mg C) (O : OkB LD P w K mg base c C) : FnOk P w K mg base (L2N.CX P w) 2 f fd ["standing", "ring", "post"] (spD c 3 F_can_move) := by
  have hK := O.hk.symm
  have hn := O.hn
  exact fn_ok h1 sc_can_move rfl fun cdv A outer s H E hr => (gss_cons (gs_set (i := 3) (ge_call (k_tops_of T O) (hr.mono (by decide)) (L2N.takes_of rfl rfl rfl rfl) (ga_cons (ge_var (i := 0)) ga_nil) (hlen := (len_cons (fun _ _ _ _ e => len_nil e)))) sc_can_move.nd)
  (gss_cons (gs_if (gw_pt (gw_or (gt_cmpV (og_ne hK (hu64 hr)) (gb_ge (ge_ix hK (gb_var (i := 3)) (gb_ge (ge_callTy1 cg_int T.n_int (gb_ge (ge_ix hK (gb_var (i := 0)) (gb_var (i := 1)))))))) (gb_var (i := 1))) (gw_or1 (gt_cmpV (og_eq hK (hu64 hr)) (gb_ge (ge_ix hK (gb_var (i := 0)) (gb_var (i := 1)))) (gb_ge (ge_callTy1 cg_str T.n_str (gb_var (i := 2)))))))) (gss_one (gs_ret ge_bl)) gss_nil)
  (gss_one (gs_ret (ge_or (ge_cmp (og_is hn) (ge_ix hK (gb_var (i := 3)) (gb_var (i := 2))) ge_non) (ge_one (ge_cmp og_lt (ge_ix hK (gb_var (i := 3)) (gb_var (i := 2))) (ge_var (i := 1)))))))))
theorem k_can_move (T : Tx K mg C) (O : OkB LD P w K mg base c C) : FnK P w K mg base c "can_move" 2 3 F_can_move := by
  obtain ⟨f, fd, h1, h2, h3⟩ := T.d_can_move
  exact fn_k (o_can_move h1 T O) h1.kp h2 h3 rfl
def m_is_move_pair : MS := (sSeq (sIf (mOr (mNot (mTru (mCall gIsi (mCons (mVar 1) (mCons (mC (.ty "tuple")) mNil))))) (mAsB (mOpV gNe (mBd (mCallV gLen (mVarB 1))) (mBd (mC (.int 2)))))) (sRet (mC (.bl false))) sNil) (sRet (mAndV (mFn F_is_within (mCons (mOpV gIx (mVarB 1) (mBd (mC (.int 0)))) (mCons (mC (.int 0)) (mCons (mOp2 gSub (mCallV gLen (mVarB 0)) (mC (.int 1))) mNil)))) (mFn F_is_within (mCons (mOpV gIx (mVarB 1) (mBd (mC (.int 1)))) (mCons (mC (.int 0)) (mCons (mC (.int 2)) mNil)))))))
def F_is_move_pair : FS := mDef 2 m_is_move_pair
theorem F_is_move_pair_ap (x0 x1 : D) (h : Cells) : F_is_move_pair [x0, x1] h = SO.res (m_is_move_pair [some (.val x0), some (.val x1)] h) := by
  show mDef _ _ _ _ = _
  unfold mDef
  simp only [List.map, List.length_cons, List.length_nil, List.replicate, Nat.reduceAdd, Nat.reduceSub, List.cons_append, List.nil_append]
  generalize m_is_move_pair _ h = o
  cases o <;> rfl
theorem o_is_move_pair {f : Addr} {fd : FuncData} (h1 : Fun K "is_move_pair" "is_move_pair" s_is_move_pair f fd) (T : Tx K mg C) (O : OkB LD P w K mg base c C) : FnOk P w K mg base (L2N.CX P w) 2 f fd ["standing", "value"] (spD c 2 F_is_move_pair) := by
  have hK := O.hk.symm
  have hn := O.hn
  exact fn_ok h1 sc_is_move_pair rfl fun cdv A outer s H E hr => (gss_cons (gs_if (gw_pt (gw_or (gt_not (gt_val hK (ge_callB (cg_isi hK) T.n_isinstance (ga_cons (ge_var (i := 1)) (ga_cons (ge_bty T.n_tuple) ga_nil))))) (gw_or1 (gt_cmpV (og_ne hK (hu64 hr)) (gb_ge (ge_callB1 (cg_len hK) T.n_len (gb_var (i := 1)))) (gb_ge ge_int))))) (gss_one (gs_ret ge_bl)) gss_nil)
  (gss_one (gs_ret (ge_and (ge_call (k_is_within T O) (hr.mono (by decide)) (L2N.takes_of rfl rfl rfl rfl) (ga_cons (ge_ix hK (gb_var (i := 1)) (gb_ge ge_int)) (ga_cons ge_int (ga_cons (ge_op og_sub (ge_callB1 (cg_len hK) T.n_len (gb_var (i := 0))) ge_int) ga_nil))) (hlen := (len_cons (len_cons (len_cons (fun _ _ _ _ e => len_nil e)))))) (ge_one (ge_call (k_is_within T O) (hr.mono (by decide)) (L2N.takes_of rfl rfl rfl rfl) (ga_cons (ge_ix hK (gb_var (i := 1)) (gb_ge ge_int)) (ga_cons ge_int (ga_cons ge_int ga_nil))) (hlen := (len_cons (len_cons (len_cons (fun _ _ _ _ e => len_nil e)))))))))))
theorem k_is_move_pair (T : Tx K mg C) (O : OkB LD P w K mg base c C) : FnK P w K mg base c "is_move_pair" 2 2 F_is_move_pair := by
  obtain ⟨f, fd, h1, h2, h3⟩ := T.d_is_move_pair
  exact fn_k (o_is_move_pair h1 T O) h1.kp h2 h3 rfl
def b_text_of_0 : MS := (sSeq (sSet 2 (mOp2 gAdd (mVar 2) (mC (.int 1)))) (sIf (mAsB (mOpV gNe (mBd (mSl (mVarB 0) (mPart (mOp2 gAdd (mVar 3) (mC (.int 1)))) (mPart (mOp2 gAdd (mVar 3) (mC (.int 2)))))) (mVarB 4))) (sPar2 1 2 (mOp2 gAdd (mVar 1) (mLst (mCons (mCat [(mOp1 gFmt (mVar 2)), (mC (.str [120])), (mOp1 gFmt (mVar 4))] []) mNil))) (mC (.int 0))) sNil))
theorem b_text_of_0_ap (ρ : DL.Env) (h : Cells) : b_text_of_0 ρ h = (sSeq (sSet 2 (mOp2 gAdd (mVar 2) (mC (.int 1)))) (sIf (mAsB (mOpV gNe (mBd (mSl (mVarB 0) (mPart (mOp2 gAdd (mVar 3) (mC (.int 1)))) (mPart (mOp2 gAdd (mVar 3) (mC (.int 2)))))) (mVarB 4))) (sPar2 1 2 (mOp2 gAdd (mVar 1) (mLst (mCons (mCat [(mOp1 gFmt (mVar 2)), (mC (.str [120])), (mOp1 gFmt (mVar 4))] []) mNil))) (mC (.int 0))) sNil)) ρ h := id rfl
def m_text_of : MS := (sSeq (sIf (mAsB (mOpV gEq (mVarB 0) (mBd (mC (.str []))))) (sRet (mC (.str [110, 111, 110, 101]))) sNil) (sSeq (sPar2 1 2 (mLst mNil) (mC (.int 0))) (sSeq (sFor (mIt itE (mVar 0)) (tgT 2 (tgCons (tgN 3) (tgCons (tgN 4) tgNil))) b_text_of_0) (sRet (mJoin (mC (.str [32])) (mVar 1))))))
def F_text_of : FS := mDef 5 m_text_of
theorem F_text_of_ap (x0 : D) (h : Cells) : F_text_of [x0] h = SO.res (m_text_of [some (.val x0), none, none, none, none] h) := by
  show mDef _ _ _ _ = _
  unfold mDef
  simp only [List.map, List.length_cons, List.length_nil, List.replicate, Nat.reduceAdd, Nat.reduceSub, List.cons_append, List.nil_append]
  generalize m_text_of _ h = o
  cases o <;> rfl
theorem o_text_of {f : Addr} {fd : FuncData} (h1 : Fun K "text_of" "text_of" s_text_of f fd) (T : Tx K mg C) (O : OkB LD P w K mg base c C) : FnOk P w K mg base (L2N.CX P w) 1 f fd ["standing"] (spD c 1 F_text_of) := by
  have hK := O.hk.symm
  have hn := O.hn
  exact fn_ok h1 sc_text_of rfl fun cdv A outer s H E hr => (gss_cons (gs_if (gt_cmpV (og_eq hK (hu64 hr)) (gb_var (i := 0)) (gb_ge ge_str)) (gss_one (gs_ret ge_str)) gss_nil)
  (gss_cons (gs_par2 (i := 1) (j := 2) rfl (ge_lst ga_nil) ge_int sc_text_of.nd)
  (gss_cons (gs_for rfl (passes_of rfl) (gi_enum hK T.n_enumerate (ge_var (i := 0))) (gg_tup hK rfl (ggs_cons (gg_name (i := 3) sc_text_of.nd) (ggs_cons (gg_name (i := 4) sc_text_of.nd) ggs_nil))) (gss_cons (gs_set (i := 2) (ge_op (og_add hK) (ge_var (i := 2)) ge_int) sc_text_of.nd)
  (gss_one (gs_if (gt_cmpV (og_ne hK (hu64 hr)) (gb_ge (ge_sl hK (gb_var (i := 0)) (go_some (ge_op (og_add hK) (ge_var (i := 3)) ge_int)) (go_some (ge_op (og_add hK) (ge_var (i := 3)) ge_int)))) (gb_var (i := 4))) (gss_one (gs_par2 (i := 1) (j := 2) rfl (ge_op (og_add hK) (ge_var (i := 1)) (ge_lst (ga_cons (ge_joined (.cons (ge_fmt (ge_var (i := 2))) (.cons ge_str (.cons (ge_fmt (ge_var (i := 4))) .nil)))) ga_nil))) ge_int sc_text_of.nd)) gss_nil))))
  (gss_one (gs_ret (ge_join hK ge_str (ge_var (i := 1)) (fun h1 h2 => pe_join h1 h2)))))))
theorem k_text_of (T : Tx K mg C) (O : OkB LD P w K mg base c C) : FnK P w K mg base c "text_of" 1 1 F_text_of := by
  obtain ⟨f, fd, h1, h2, h3⟩ := T.d_text_of
  exact fn_k (o_text_of h1 T O) h1.kp h2 h3 rfl
def m_number_in : MS := (sSeq (sIf (mOr (mAsB (mOpV gEq (mVarB 0) (mBd (mC (.str []))))) (mOr (mAsB (mOp2 gGt (mCallV gLen (mVarB 0)) (mC (.int 4)))) (mNot (mTru (mCall gAll (mCons (mLcV (mIt itAny (mVar 0)) (tgN 1) mTrue (mOpV gIn (mVarB 1) (mBd (mC (.str [48, 49, 50, 51, 52, 53, 54, 55, 56, 57])))) [1]) mNil)))))) (sRet (mC (.int 0))) sNil) (sRet (mIf (mAsB (mOp2 gLe (mCallV gInt (mVarB 0)) (mC (.int 1000)))) (mCallV gInt (mVarB 0)) (mC (.int 0)))))
def F_number_in : FS := mDef 2 m_number_in
theorem F_number_in_ap (x0 : D) (h : Cells) : F_number_in [x0] h = SO.res (m_number_in [some (.val x0), none] h) := by
  show mDef _ _ _ _ = _
  unfold mDef
  simp only [List.map, List.length_cons, List.length_nil, List.replicate, Nat.reduceAdd, Nat.reduceSub, List.cons_append, List.nil_append]
  generalize m_number_in _ h = o
  cases o <;> rfl
theorem o_number_in {f : Addr} {fd : FuncData} (h1 : Fun K "number_in" "number_in" s_number_in f fd) (T : Tx K mg C) (O : OkB LD P w K mg base c C) : FnOk P w K mg base (L2N.CX P w) 1 f fd ["word"] (spD c 1 F_number_in) := by
  have hK := O.hk.symm
  have hn := O.hn
  exact fn_ok h1 sc_number_in rfl fun cdv A outer s H E hr => (gss_cons (gs_if (gw_pt (gw_or (gt_cmpV (og_eq hK (hu64 hr)) (gb_var (i := 0)) (gb_ge ge_str)) (gw_or (gt_cmp og_gt (ge_callB1 (cg_len hK) T.n_len (gb_var (i := 0))) ge_int) (gw_or1 (gt_not (gt_val hK (ge_callB (cg_all rfl) T.n_all (ga_cons (ge_lc (own := [("sign", 1)]) rfl sc_number_in.nd (gi_any hK (ge_var (i := 0))) (show blkC ["word", "sign"] (defScope s_number_in) _ _ = true from by decide +kernel) (fun _ _ _ _ _ => (gg_name (i := 1) sc_number_in.nd)) (fun _ _ _ _ _ => gts_nil) (fun _ _ _ _ _ => (ge_cmpV (og_in hK (hu65 hr)) (gb_var (i := 1)) (gb_ge ge_str)))) ga_nil)))))))) (gss_one (gs_ret ge_int)) gss_nil)
  (gss_one (gs_ret (ge_ifExp (gt_cmp og_le (ge_callTy1 cg_int T.n_int (gb_var (i := 0))) (c_MOST_RINGS T O.hk)) (ge_callTy1 cg_int T.n_int (gb_var (i := 0))) ge_int))))
theorem k_number_in (T : Tx K mg C) (O : OkB LD P w K mg base c C) : FnK P w K mg base c "number_in" 1 1 F_number_in := by
  obtain ⟨f, fd, h1, h2, h3⟩ := T.d_number_in
  exact fn_k (o_number_in h1 T O) h1.kp h2 h3 rfl
def b_standing_in_0 : MS := (sSeq (sSet 3 (mStrM gSplit (mVar 2) (mC (.str [120])))) (sSeq (sIf (mOr (mAsB (mOpV gNe (mBd (mCallV gLen (mVarB 3))) (mBd (mC (.int 2))))) (mAsB (mOp2 gGt (mCallV gLen (mVarB 1)) (mC (.int 1000))))) (sRaise 8) sNil) (sSet 1 (mOp2 gAdd (mVar 1) (mOp2 gMul (mOpV gIx (mVarB 3) (mBd (mC (.int 1)))) (mFn F_number_in (mCons (mOpV gIx (mVarB 3) (mBd (mC (.int 0)))) mNil)))))))
theorem b_standing_in_0_ap (ρ : DL.Env) (h : Cells) : b_standing_in_0 ρ h = (sSeq (sSet 3 (mStrM gSplit (mVar 2) (mC (.str [120])))) (sSeq (sIf (mOr (mAsB (mOpV gNe (mBd (mCallV gLen (mVarB 3))) (mBd (mC (.int 2))))) (mAsB (mOp2 gGt (mCallV gLen (mVarB 1)) (mC (.int 1000))))) (sRaise 8) sNil) (sSet 1 (mOp2 gAdd (mVar 1) (mOp2 gMul (mOpV gIx (mVarB 3) (mBd (mC (.int 1)))) (mFn F_number_in (mCons (mOpV gIx (mVarB 3) (mBd (mC (.int 0)))) mNil))))))) ρ h := id rfl
def m_standing_in : MS := (sSeq (sIf (mNot (mTru (mCall gIsi (mCons (mVar 0) (mCons (mC (.ty "str")) mNil))))) (sRaise 8) sNil) (sSeq (sSet 1 (mC (.str []))) (sSeq (sFor (mIt itAny (mIf (mAsB (mOpV gNe (mVarB 0) (mBd (mC (.str [110, 111, 110, 101]))))) (mStrM gSplit (mVar 0) (mC (.str [32]))) (mLst mNil))) (tgN 2) b_standing_in_0) (sSeq (sIf (mOr (mNot (mTru (mFn F_is_standing_value (mCons (mVar 1) mNil)))) (mAsB (mOpV gNe (mBd (mFn F_text_of (mCons (mVar 1) mNil))) (mVarB 0)))) (sRaise 8) sNil) (sRet (mVar 1))))))
def F_standing_in : FS := mDef 4 m_standing_in
theorem F_standing_in_ap (x0 : D) (h : Cells) : F_standing_in [x0] h = SO.res (m_standing_in [some (.val x0), none, none, none] h) := by
  show mDef _ _ _ _ = _
  unfold mDef
  simp only [List.map, List.length_cons, List.length_nil, List.replicate, Nat.reduceAdd, Nat.reduceSub, List.cons_append, List.nil_append]
  generalize m_standing_in _ h = o
  cases o <;> rfl
theorem o_standing_in {f : Addr} {fd : FuncData} (h1 : Fun K "standing_in" "standing_in" s_standing_in f fd) (T : Tx K mg C) (O : OkB LD P w K mg base c C) : FnOk P w K mg base (L2N.CX P w) 2 f fd ["value"] (spD c 1 F_standing_in) := by
  have hK := O.hk.symm
  have hn := O.hn
  exact fn_ok h1 sc_standing_in rfl fun cdv A outer s H E hr => (gss_cons (gs_if (gt_not (gt_val hK (ge_callB (cg_isi hK) T.n_isinstance (ga_cons (ge_var (i := 0)) (ga_cons (ge_bty T.n_str) ga_nil))))) (gss_one (gs_raise O.er (by decide) T.e_InvalidText (O.hx 8 (by decide)) rfl (L2N.takes_of rfl rfl rfl rfl))) gss_nil)
  (gss_cons (gs_set (i := 1) ge_str sc_standing_in.nd)
  (gss_cons (gs_for rfl (passes_of rfl) (gi_any hK (ge_ifExp (gt_cmpV (og_ne hK (hu64 hr)) (gb_var (i := 0)) (gb_ge ge_str)) (ge_split (ge_var (i := 0)) ge_str (fun h1 h2 => pe_split h1 h2)) (ge_lst ga_nil))) (gg_name (i := 2) sc_standing_in.nd) (gss_cons (gs_set (i := 3) (ge_split (ge_var (i := 2)) ge_str (fun h1 h2 => pe_split h1 h2)) sc_standing_in.nd)
  (gss_cons (gs_if (gw_pt (gw_or (gt_cmpV (og_ne hK (hu64 hr)) (gb_ge (ge_callB1 (cg_len hK) T.n_len (gb_var (i := 3)))) (gb_ge ge_int)) (gw_or1 (gt_cmp og_gt (ge_callB1 (cg_len hK) T.n_len (gb_var (i := 1))) (c_MOST_RINGS T O.hk))))) (gss_one (gs_raise O.er (by decide) T.e_InvalidText (O.hx 8 (by decide)) rfl (L2N.takes_of rfl rfl rfl rfl))) gss_nil)
  (gss_one (gs_set (i := 1) (ge_op (og_add hK) (ge_var (i := 1)) (ge_op (og_mul hK) (ge_ix hK (gb_var (i := 3)) (gb_ge ge_int)) (ge_call (k_number_in T O) (hr.mono (by decide)) (L2N.takes_of rfl rfl rfl rfl) (ga_cons (ge_ix hK (gb_var (i := 3)) (gb_ge ge_int)) ga_nil) (hlen := (len_cons (fun _ _ _ _ e => len_nil e)))))) sc_standing_in.nd)))))
  (gss_cons (gs_if (gw_pt (gw_or (gt_not (gt_val hK (ge_call (k_is_standing_value T O) (hr.mono (by decide)) (L2N.takes_of rfl rfl rfl rfl) (ga_cons (ge_var (i := 1)) ga_nil) (hlen := (len_cons (fun _ _ _ _ e => len_nil e)))))) (gw_or1 (gt_cmpV (og_ne hK (hu64 hr)) (gb_ge (ge_call (k_text_of T O) (hr.mono (by decide)) (L2N.takes_of rfl rfl rfl rfl) (ga_cons (ge_var (i := 1)) ga_nil) (hlen := (len_cons (fun _ _ _ _ e => len_nil e))))) (gb_var (i := 0)))))) (gss_one (gs_raise O.er (by decide) T.e_InvalidText (O.hx 8 (by decide)) rfl (L2N.takes_of rfl rfl rfl rfl))) gss_nil)
  (gss_one (gs_ret (ge_var (i := 1))))))))
theorem k_standing_in (T : Tx K mg C) (O : OkB LD P w K mg base c C) : FnK P w K mg base c "standing_in" 2 1 F_standing_in := by
  obtain ⟨f, fd, h1, h2, h3⟩ := T.d_standing_in
  exact fn_k (o_standing_in h1 T O) h1.kp h2 h3 rfl
def m_standing_text : MS := (sSeq (sExpr (mFn F_need_standing (mCons (mVar 0) mNil))) (sRet (mFn F_text_of (mCons (mVar 0) mNil))))
def F_standing_text : FS := mDef 1 m_standing_text
theorem F_standing_text_ap (x0 : D) (h : Cells) : F_standing_text [x0] h = SO.res (m_standing_text [some (.val x0)] h) := by
  show mDef _ _ _ _ = _
  unfold mDef
  simp only [List.map, List.length_cons, List.length_nil, List.replicate, Nat.reduceAdd, Nat.reduceSub, List.cons_append, List.nil_append]
  generalize m_standing_text _ h = o
  cases o <;> rfl
theorem o_standing_text {f : Addr} {fd : FuncData} (h1 : Fun K "standing_text" "standing_text" s_standing_text f fd) (T : Tx K mg C) (O : OkB LD P w K mg base c C) : FnOk P w K mg base (L2N.CX P w) 3 f fd ["standing"] (spD c 1 F_standing_text) := by
  have hK := O.hk.symm
  have hn := O.hn
  exact fn_ok h1 sc_standing_text rfl fun cdv A outer s H E hr => (gss_cons (gs_expr (ge_call (k_need_standing T O) (hr.mono (by decide)) (L2N.takes_of rfl rfl rfl rfl) (ga_cons (ge_var (i := 0)) ga_nil) (hlen := (len_cons (fun _ _ _ _ e => len_nil e)))))
  (gss_one (gs_ret (ge_call (k_text_of T O) (hr.mono (by decide)) (L2N.takes_of rfl rfl rfl rfl) (ga_cons (ge_var (i := 0)) ga_nil) (hlen := (len_cons (fun _ _ _ _ e => len_nil e)))))))
theorem k_standing_text (T : Tx K mg C) (O : OkB LD P w K mg base c C) : FnK P w K mg base c "standing_text" 3 1 F_standing_text := by
  obtain ⟨f, fd, h1, h2, h3⟩ := T.d_standing_text
  exact fn_k (o_standing_text h1 T O) h1.kp h2 h3 rfl
def m_read_standing : MS := (sRet (mFn F_standing_in (mCons (mVar 0) mNil)))
def F_read_standing : FS := mDef 1 m_read_standing
theorem F_read_standing_ap (x0 : D) (h : Cells) : F_read_standing [x0] h = SO.res (m_read_standing [some (.val x0)] h) := by
  show mDef _ _ _ _ = _
  unfold mDef
  simp only [List.map, List.length_cons, List.length_nil, List.replicate, Nat.reduceAdd, Nat.reduceSub, List.cons_append, List.nil_append]
  generalize m_read_standing _ h = o
  cases o <;> rfl
theorem o_read_standing {f : Addr} {fd : FuncData} (h1 : Fun K "read_standing" "read_standing" s_read_standing f fd) (T : Tx K mg C) (O : OkB LD P w K mg base c C) : FnOk P w K mg base (L2N.CX P w) 3 f fd ["value"] (spD c 1 F_read_standing) := by
  have hK := O.hk.symm
  have hn := O.hn
  exact fn_ok h1 sc_read_standing rfl fun cdv A outer s H E hr => (gss_one (gs_ret (ge_call (k_standing_in T O) (hr.mono (by decide)) (L2N.takes_of rfl rfl rfl rfl) (ga_cons (ge_var (i := 0)) ga_nil) (hlen := (len_cons (fun _ _ _ _ e => len_nil e))))))
theorem k_read_standing (T : Tx K mg C) (O : OkB LD P w K mg base c C) : FnK P w K mg base c "read_standing" 3 1 F_read_standing := by
  obtain ⟨f, fd, h1, h2, h3⟩ := T.d_read_standing
  exact fn_k (o_read_standing h1 T O) h1.kp h2 h3 rfl
def b_doubled_0 : MS := (sSet 1 (mOp2 gMul (mVar 1) (mC (.int 2))))
theorem b_doubled_0_ap (ρ : DL.Env) (h : Cells) : b_doubled_0 ρ h = (sSet 1 (mOp2 gMul (mVar 1) (mC (.int 2)))) ρ h := id rfl
def m_doubled : MS := (sSeq (sSet 1 (mC (.int 1))) (sSeq (sFor (mItL itR1 (mCons (mVar 0) mNil)) (tgN 2) b_doubled_0) (sRet (mVar 1))))
def F_doubled : FS := mDef 3 m_doubled
theorem F_doubled_ap (x0 : D) (h : Cells) : F_doubled [x0] h = SO.res (m_doubled [some (.val x0), none, none] h) := by
  show mDef _ _ _ _ = _
  unfold mDef
  simp only [List.map, List.length_cons, List.length_nil, List.replicate, Nat.reduceAdd, Nat.reduceSub, List.cons_append, List.nil_append]
  generalize m_doubled _ h = o
  cases o <;> rfl
theorem o_doubled {f : Addr} {fd : FuncData} (h1 : Fun K "doubled" "doubled" s_doubled f fd) (T : Tx K mg C) (O : OkB LD P w K mg base c C) : FnOk P w K mg base (L2N.CX P w) 1 f fd ["many"] (spD c 1 F_doubled) := by
  have hK := O.hk.symm
  have hn := O.hn
  exact fn_ok h1 sc_doubled rfl fun cdv A outer s H E hr => (gss_cons (gs_set (i := 1) ge_int sc_doubled.nd)
  (gss_cons (gs_for rfl (passes_of rfl) (gi_range1 T.n_range (ga_cons (ge_var (i := 0)) ga_nil)) (gg_name (i := 2) sc_doubled.nd) (gss_one (gs_set (i := 1) (ge_op (og_mul hK) (ge_var (i := 1)) ge_int) sc_doubled.nd)))
  (gss_one (gs_ret (ge_var (i := 1))))))
theorem k_doubled (T : Tx K mg C) (O : OkB LD P w K mg base c C) : FnK P w K mg base c "doubled" 1 1 F_doubled := by
  obtain ⟨f, fd, h1, h2, h3⟩ := T.d_doubled
  exact fn_k (o_doubled h1 T O) h1.kp h2 h3 rfl
def b_to_one_0 : MS := (sSeq (sSet 2 (mOp2 gMul (mC (.int 2)) (mVar 2))) (sIf (mAsB (mOpV gNe (mVarB 3) (mVarB 1))) (sPar2 2 1 (mOp2 gAdd (mVar 2) (mC (.int 1))) (mFn F_third (mCons (mVar 3) (mCons (mVar 1) mNil)))) sNil))
theorem b_to_one_0_ap (ρ : DL.Env) (h : Cells) : b_to_one_0 ρ h = (sSeq (sSet 2 (mOp2 gMul (mC (.int 2)) (mVar 2))) (sIf (mAsB (mOpV gNe (mVarB 3) (mVarB 1))) (sPar2 2 1 (mOp2 gAdd (mVar 2) (mC (.int 1))) (mFn F_third (mCons (mVar 3) (mCons (mVar 1) mNil)))) sNil)) ρ h := id rfl
def m_to_one : MS := (sSeq (sSet 2 (mC (.int 0))) (sSeq (sFor (mIt itAny (mVar 0)) (tgN 3) b_to_one_0) (sRet (mVar 2))))
def F_to_one : FS := mDef 4 m_to_one
theorem F_to_one_ap (x0 x1 : D) (h : Cells) : F_to_one [x0, x1] h = SO.res (m_to_one [some (.val x0), some (.val x1), none, none] h) := by
  show mDef _ _ _ _ = _
  unfold mDef
  simp only [List.map, List.length_cons, List.length_nil, List.replicate, Nat.reduceAdd, Nat.reduceSub, List.cons_append, List.nil_append]
  generalize m_to_one _ h = o
  cases o <;> rfl
theorem o_to_one {f : Addr} {fd : FuncData} (h1 : Fun K "to_one" "to_one" s_to_one f fd) (T : Tx K mg C) (O : OkB LD P w K mg base c C) : FnOk P w K mg base (L2N.CX P w) 2 f fd ["posts", "goal"] (spD c 2 F_to_one) := by
  have hK := O.hk.symm
  have hn := O.hn
  exact fn_ok h1 sc_to_one rfl fun cdv A outer s H E hr => (gss_cons (gs_set (i := 2) ge_int sc_to_one.nd)
  (gss_cons (gs_for rfl (passes_of rfl) (gi_any hK (ge_var (i := 0))) (gg_name (i := 3) sc_to_one.nd) (gss_cons (gs_set (i := 2) (ge_op (og_mul hK) ge_int (ge_var (i := 2))) sc_to_one.nd)
  (gss_one (gs_if (gt_cmpV (og_ne hK (hu64 hr)) (gb_var (i := 3)) (gb_var (i := 1))) (gss_one (gs_par2 (i := 2) (j := 1) rfl (ge_op (og_add hK) (ge_var (i := 2)) ge_int) (ge_call (k_third T O) (hr.mono (by decide)) (L2N.takes_of rfl rfl rfl rfl) (ga_cons (ge_var (i := 3)) (ga_cons (ge_var (i := 1)) ga_nil)) (hlen := (len_cons (len_cons (fun _ _ _ _ e => len_nil e))))) sc_to_one.nd)) gss_nil))))
  (gss_one (gs_ret (ge_var (i := 2))))))
theorem k_to_one (T : Tx K mg C) (O : OkB LD P w K mg base c C) : FnK P w K mg base c "to_one" 2 2 F_to_one := by
  obtain ⟨f, fd, h1, h2, h3⟩ := T.d_to_one
  exact fn_k (o_to_one h1 T O) h1.kp h2 h3 rfl
def b_parted_0 : MS := (sIf (mAsB (mOpV gNe (mBd (mOpV gIx (mVarB 0) (mVarB 2))) (mBd (mOpV gIx (mVarB 1) (mVarB 2))))) (sRet (mTup (mCons (mFn F_posts_of (mCons (mSl (mVarB 0) (mPart (mOp2 gAdd (mVar 2) (mC (.int 1)))) mPartN) mNil)) (mCons (mFn F_posts_of (mCons (mSl (mVarB 1) (mPart (mOp2 gAdd (mVar 2) (mC (.int 1)))) mPartN) mNil)) (mCons (mCallV gInt (mBd (mOpV gIx (mVarB 0) (mVarB 2)))) (mCons (mCallV gInt (mBd (mOpV gIx (mVarB 1) (mVarB 2)))) mNil)))))) sNil)
theorem b_parted_0_ap (ρ : DL.Env) (h : Cells) : b_parted_0 ρ h = (sIf (mAsB (mOpV gNe (mBd (mOpV gIx (mVarB 0) (mVarB 2))) (mBd (mOpV gIx (mVarB 1) (mVarB 2))))) (sRet (mTup (mCons (mFn F_posts_of (mCons (mSl (mVarB 0) (mPart (mOp2 gAdd (mVar 2) (mC (.int 1)))) mPartN) mNil)) (mCons (mFn F_posts_of (mCons (mSl (mVarB 1) (mPart (mOp2 gAdd (mVar 2) (mC (.int 1)))) mPartN) mNil)) (mCons (mCallV gInt (mBd (mOpV gIx (mVarB 0) (mVarB 2)))) (mCons (mCallV gInt (mBd (mOpV gIx (mVarB 1) (mVarB 2)))) mNil)))))) sNil) ρ h := id rfl
def m_parted : MS := (sSeq (sFor (mItL itR1 (mCons (mCallV gLen (mVarB 0)) mNil)) (tgN 2) b_parted_0) (sRet (mC .non)))
def F_parted : FS := mDef 3 m_parted
theorem F_parted_ap (x0 x1 : D) (h : Cells) : F_parted [x0, x1] h = SO.res (m_parted [some (.val x0), some (.val x1), none] h) := by
  show mDef _ _ _ _ = _
  unfold mDef
  simp only [List.map, List.length_cons, List.length_nil, List.replicate, Nat.reduceAdd, Nat.reduceSub, List.cons_append, List.nil_append]
  generalize m_parted _ h = o
  cases o <;> rfl
theorem o_parted {f : Addr} {fd : FuncData} (h1 : Fun K "parted" "parted" s_parted f fd) (T : Tx K mg C) (O : OkB LD P w K mg base c C) : FnOk P w K mg base (L2N.CX P w) 2 f fd ["one", "other"] (spD c 2 F_parted) := by
  have hK := O.hk.symm
  have hn := O.hn
  exact fn_ok h1 sc_parted rfl fun cdv A outer s H E hr => (gss_cons (gs_for rfl (passes_of rfl) (gi_range1 T.n_range (ga_cons (ge_callB1 (cg_len hK) T.n_len (gb_var (i := 0))) ga_nil)) (gg_name (i := 2) sc_parted.nd) (gss_one (gs_if (gt_cmpV (og_ne hK (hu64 hr)) (gb_ge (ge_ix hK (gb_var (i := 0)) (gb_var (i := 2)))) (gb_ge (ge_ix hK (gb_var (i := 1)) (gb_var (i := 2))))) (gss_one (gs_ret (ge_tup (ga_cons (ge_call (k_posts_of T O) (hr.mono (by decide)) (L2N.takes_of rfl rfl rfl rfl) (ga_cons (ge_sl hK (gb_var (i := 0)) (go_some (ge_op (og_add hK) (ge_var (i := 2)) ge_int)) go_none) ga_nil) (hlen := (len_cons (fun _ _ _ _ e => len_nil e)))) (ga_cons (ge_call (k_posts_of T O) (hr.mono (by decide)) (L2N.takes_of rfl rfl rfl rfl) (ga_cons (ge_sl hK (gb_var (i := 1)) (go_some (ge_op (og_add hK) (ge_var (i := 2)) ge_int)) go_none) ga_nil) (hlen := (len_cons (fun _ _ _ _ e => len_nil e)))) (ga_cons (ge_callTy1 cg_int T.n_int (gb_ge (ge_ix hK (gb_var (i := 0)) (gb_var (i := 2))))) (ga_cons (ge_callTy1 cg_int T.n_int (gb_ge (ge_ix hK (gb_var (i := 1)) (gb_var (i := 2))))) ga_nil))))))) gss_nil)))
  (gss_one (gs_ret ge_non)))
theorem k_parted (T : Tx K mg C) (O : OkB LD P w K mg base c C) : FnK P w K mg base c "parted" 2 2 F_parted := by
  obtain ⟨f, fd, h1, h2, h3⟩ := T.d_parted
  exact fn_k (o_parted h1 T O) h1.kp h2 h3 rfl
def m_both_worths : MS := (sSeq (sAsg (tgT 4 (tgCons (tgN 2) (tgCons (tgN 3) (tgCons (tgN 4) (tgCons (tgN 5) tgNil))))) (mFn F_parted (mCons (mVar 0) (mCons (mVar 1) mNil)))) (sSeq (sSet 6 (mFn F_third (mCons (mVar 4) (mCons (mVar 5) mNil)))) (sSeq (sSet 7 (mOp2 gAdd (mOp2 gAdd (mFn F_to_one (mCons (mVar 2) (mCons (mVar 6) mNil))) (mC (.int 1))) (mFn F_to_one (mCons (mVar 3) (mCons (mVar 6) mNil))))) (sRet (mTup (mCons (mVar 7) (mCons (mOp2 gAdd (mOp2 gAdd (mOp2 gAdd (mFn F_to_one (mCons (mVar 2) (mCons (mVar 5) mNil))) (mC (.int 1))) (mFn F_doubled (mCons (mCallV gLen (mVarB 2)) mNil))) (mFn F_to_one (mCons (mVar 3) (mCons (mVar 4) mNil)))) mNil)))))))
def F_both_worths : FS := mDef 8 m_both_worths
theorem F_both_worths_ap (x0 x1 : D) (h : Cells) : F_both_worths [x0, x1] h = SO.res (m_both_worths [some (.val x0), some (.val x1), none, none, none, none, none, none] h) := by
  show mDef _ _ _ _ = _
  unfold mDef
  simp only [List.map, List.length_cons, List.length_nil, List.replicate, Nat.reduceAdd, Nat.reduceSub, List.cons_append, List.nil_append]
  generalize m_both_worths _ h = o
  cases o <;> rfl
theorem o_both_worths {f : Addr} {fd : FuncData} (h1 : Fun K "both_worths" "both_worths" s_both_worths f fd) (T : Tx K mg C) (O : OkB LD P w K mg base c C) : FnOk P w K mg base (L2N.CX P w) 3 f fd ["one", "other"] (spD c 2 F_both_worths) := by
  have hK := O.hk.symm
  have hn := O.hn
  exact fn_ok h1 sc_both_worths rfl fun cdv A outer s H E hr => (gss_cons (gs_asg (ge_call (k_parted T O) (hr.mono (by decide)) (L2N.takes_of rfl rfl rfl rfl) (ga_cons (ge_var (i := 0)) (ga_cons (ge_var (i := 1)) ga_nil)) (hlen := (len_cons (len_cons (fun _ _ _ _ e => len_nil e))))) (gg_tup hK rfl (ggs_cons (gg_name (i := 2) sc_both_worths.nd) (ggs_cons (gg_name (i := 3) sc_both_worths.nd) (ggs_cons (gg_name (i := 4) sc_both_worths.nd) (ggs_cons (gg_name (i := 5) sc_both_worths.nd) ggs_nil))))))
  (gss_cons (gs_set (i := 6) (ge_call (k_third T O) (hr.mono (by decide)) (L2N.takes_of rfl rfl rfl rfl) (ga_cons (ge_var (i := 4)) (ga_cons (ge_var (i := 5)) ga_nil)) (hlen := (len_cons (len_cons (fun _ _ _ _ e => len_nil e))))) sc_both_worths.nd)
  (gss_cons (gs_set (i := 7) (ge_op (og_add hK) (ge_op (og_add hK) (ge_call (k_to_one T O) (hr.mono (by decide)) (L2N.takes_of rfl rfl rfl rfl) (ga_cons (ge_var (i := 2)) (ga_cons (ge_var (i := 6)) ga_nil)) (hlen := (len_cons (len_cons (fun _ _ _ _ e => len_nil e))))) ge_int) (ge_call (k_to_one T O) (hr.mono (by decide)) (L2N.takes_of rfl rfl rfl rfl) (ga_cons (ge_var (i := 3)) (ga_cons (ge_var (i := 6)) ga_nil)) (hlen := (len_cons (len_cons (fun _ _ _ _ e => len_nil e)))))) sc_both_worths.nd)
  (gss_one (gs_ret (ge_tup (ga_cons (ge_var (i := 7)) (ga_cons (ge_op (og_add hK) (ge_op (og_add hK) (ge_op (og_add hK) (ge_call (k_to_one T O) (hr.mono (by decide)) (L2N.takes_of rfl rfl rfl rfl) (ga_cons (ge_var (i := 2)) (ga_cons (ge_var (i := 5)) ga_nil)) (hlen := (len_cons (len_cons (fun _ _ _ _ e => len_nil e))))) ge_int) (ge_call (k_doubled T O) (hr.mono (by decide)) (L2N.takes_of rfl rfl rfl rfl) (ga_cons (ge_callB1 (cg_len hK) T.n_len (gb_var (i := 2))) ga_nil) (hlen := (len_cons (fun _ _ _ _ e => len_nil e))))) (ge_call (k_to_one T O) (hr.mono (by decide)) (L2N.takes_of rfl rfl rfl rfl) (ga_cons (ge_var (i := 3)) (ga_cons (ge_var (i := 4)) ga_nil)) (hlen := (len_cons (len_cons (fun _ _ _ _ e => len_nil e)))))) ga_nil))))))))
theorem k_both_worths (T : Tx K mg C) (O : OkB LD P w K mg base c C) : FnK P w K mg base c "both_worths" 3 2 F_both_worths := by
  obtain ⟨f, fd, h1, h2, h3⟩ := T.d_both_worths
  exact fn_k (o_both_worths h1 T O) h1.kp h2 h3 rfl
def m_fewest_of : MS := (sRet (mIf (mAsB (mOpV gNe (mVarB 0) (mVarB 1))) (mCall gMin (mCons (mFn F_both_worths (mCons (mVar 0) (mCons (mVar 1) mNil))) mNil)) (mC (.int 0))))
def F_fewest_of : FS := mDef 2 m_fewest_of
theorem F_fewest_of_ap (x0 x1 : D) (h : Cells) : F_fewest_of [x0, x1] h = SO.res (m_fewest_of [some (.val x0), some (.val x1)] h) := by
  show mDef _ _ _ _ = _
  unfold mDef
  simp only [List.map, List.length_cons, List.length_nil, List.replicate, Nat.reduceAdd, Nat.reduceSub, List.cons_append, List.nil_append]
  generalize m_fewest_of _ h = o
  cases o <;> rfl
theorem o_fewest_of {f : Addr} {fd : FuncData} (h1 : Fun K "fewest_of" "fewest_of" s_fewest_of f fd) (T : Tx K mg C) (O : OkB LD P w K mg base c C) : FnOk P w K mg base (L2N.CX P w) 4 f fd ["one", "other"] (spD c 2 F_fewest_of) := by
  have hK := O.hk.symm
  have hn := O.hn
  exact fn_ok h1 sc_fewest_of rfl fun cdv A outer s H E hr => (gss_one (gs_ret (ge_ifExp (gt_cmpV (og_ne hK (hu64 hr)) (gb_var (i := 0)) (gb_var (i := 1))) (ge_callB (cg_min hK rfl (hu64 hr)) T.n_min (ga_cons (ge_call (k_both_worths T O) (hr.mono (by decide)) (L2N.takes_of rfl rfl rfl rfl) (ga_cons (ge_var (i := 0)) (ga_cons (ge_var (i := 1)) ga_nil)) (hlen := (len_cons (len_cons (fun _ _ _ _ e => len_nil e))))) ga_nil)) ge_int)))
theorem k_fewest_of (T : Tx K mg C) (O : OkB LD P w K mg base c C) : FnK P w K mg base c "fewest_of" 4 2 F_fewest_of := by
  obtain ⟨f, fd, h1, h2, h3⟩ := T.d_fewest_of
  exact fn_k (o_fewest_of h1 T O) h1.kp h2 h3 rfl
def m_Rings_init : MS := (sSeq (sExpr (mFn F_need_standing (mCons (mVar 1) mNil))) (sFldS 14 "row" (mVar 0) (mVar 1)))
def F_Rings_init : FS := mDef 2 m_Rings_init
theorem F_Rings_init_ap (x0 x1 : D) (h : Cells) : F_Rings_init [x0, x1] h = SO.res (m_Rings_init [some (.val x0), some (.val x1)] h) := by
  show mDef _ _ _ _ = _
  unfold mDef
  simp only [List.map, List.length_cons, List.length_nil, List.replicate, Nat.reduceAdd, Nat.reduceSub, List.cons_append, List.nil_append]
  generalize m_Rings_init _ h = o
  cases o <;> rfl
theorem o_Rings_init {f : Addr} {fd : FuncData} (h1 : Fun K "__init__" "Rings.__init__" s_Rings_init f fd) (T : Tx K mg C) (O : OkB LD P w K mg base c C) : FnOk P w K mg base (L2N.CX P w) 3 f fd ["self", "standing"] (spD c 2 F_Rings_init) := by
  have hK := O.hk.symm
  have hn := O.hn
  exact fn_ok h1 sc_Rings_init rfl fun cdv A outer s H E hr => (gss_cons (gs_expr (ge_call (k_need_standing T O) (hr.mono (by decide)) (L2N.takes_of rfl rfl rfl rfl) (ga_cons (ge_var (i := 1)) ga_nil) (hlen := (len_cons (fun _ _ _ _ e => len_nil e)))))
  (gss_one (gsfld_Rings_row T O (ge_var (i := 0)) (ge_var (i := 1)))))
theorem gmk_Rings {X : Cx} {p pos : Pos} {e : Expr} {es : List Expr} {ma : M (List D)} {E0 : XK} (T : Tx X.K X.mg C) (O : OkB LD X.prog X.w X.K X.mg X.base c C) (hr : Room 4 X.A) (tk : L2N.Takes X (fun cls dd _ H' => E0 cls dd H')) (ha : GA X c (fun cls dd _ H' => E0 cls dd H') (e :: es) ma) (hlen : ∀ ρ h ds h', ma ρ h = .ok ds h' → ds.length = (e :: es).length) (hl : (e :: es).length + 1 = 2 := by rfl) (hgl : Gl X "Rings" := by rfl)
    (he : starEach (e :: es) X.env = (false, eval e X.env) :: starEach es X.env := by rfl) (hpl : (backTo pos (starEach es X.env)).any (·.1) = false := by rfl) : GE X c (fun cls dd _ H' => E0 cls dd H') (.Call (.Name "Rings" p) (e :: es) [] pos) (mMk 14 F_Rings_init ma) := by
  obtain ⟨f, fd, h1, h2, h3⟩ := T.d_Rings_init
  exact ge_mk (O.hga 14) h2 (o_Rings_init h1 T O) h3 hr tk T.e_Rings ha hl hlen hgl (by decide) he hpl
theorem gmkV_Rings {X : Cx} {a : Str} {i : Nat} {p pos : Pos} {e : Expr} {es : List Expr} {ma : M (List D)} {E0 : XK} (T : Tx X.K X.mg C) (O : OkB LD X.prog X.w X.K X.mg X.base c C) (hr : Room 4 X.A) (tk : L2N.Takes X (fun cls dd _ H' => E0 cls dd H')) (ha : GA X c (fun cls dd _ H' => E0 cls dd H') (e :: es) ma) (hlen : ∀ ρ h ds h', ma ρ h = .ok ds h' → ds.length = (e :: es).length) (hl : (e :: es).length + 1 = 2 := by rfl) (hN : X.N[i]? = some a := by rfl)
    (hv : Vis X.env.scope a := by first | exact Or.inl rfl | exact Or.inr (Or.inl rfl) | exact Or.inr (Or.inr rfl)) (hd : (a == ("__debug__" : Str)) = false := by decide) (hcd : (a == ("__classdict__" : Str)) = false := by decide)
    (he : starEach (e :: es) X.env = (false, eval e X.env) :: starEach es X.env := by rfl) (hpl : (backTo pos (starEach es X.env)).any (·.1) = false := by rfl) : GE X c (fun cls dd _ H' => E0 cls dd H') (.Call (.Name a p) (e :: es) [] pos) (mMkV i 14 F_Rings_init ma) := by
  obtain ⟨f, fd, h1, h2, h3⟩ := T.d_Rings_init
  exact ge_mkV (O.hga 14) h2 (o_Rings_init h1 T O) h3 hr tk ha hl hlen hN hv hd hcd he hpl
def m_Rings_read : MS := (sRet (mMkV 0 14 F_Rings_init (mCons (mFn F_standing_in (mCons (mVar 1) mNil)) mNil)))
def F_Rings_read : FS := mDef 2 m_Rings_read
theorem F_Rings_read_ap (x0 x1 : D) (h : Cells) : F_Rings_read [x0, x1] h = SO.res (m_Rings_read [some (.val x0), some (.val x1)] h) := by
  show mDef _ _ _ _ = _
  unfold mDef
  simp only [List.map, List.length_cons, List.length_nil, List.replicate, Nat.reduceAdd, Nat.reduceSub, List.cons_append, List.nil_append]
  generalize m_Rings_read _ h = o
  cases o <;> rfl
theorem o_Rings_read {f : Addr} {fd : FuncData} (h1 : Fun K "read" "Rings.read" s_Rings_read f fd) (T : Tx K mg C) (O : OkB LD P w K mg base c C) : FnOk P w K mg base (L2N.CX P w) 5 f fd ["cls", "value"] (spD c 2 F_Rings_read) := by
  have hK := O.hk.symm
  have hn := O.hn
  exact fn_ok h1 sc_Rings_read rfl fun cdv A outer s H E hr => (gss_one (gs_ret (gmkV_Rings (i := 0) T O (hr.mono (by decide)) (L2N.takes_of rfl rfl rfl rfl) (ga_cons (ge_call (k_standing_in T O) (hr.mono (by decide)) (L2N.takes_of rfl rfl rfl rfl) (ga_cons (ge_var (i := 1)) ga_nil) (hlen := (len_cons (fun _ _ _ _ e => len_nil e)))) ga_nil) (len_cons (fun _ _ _ _ e => len_nil e)))))
theorem gcm_Rings_read {X : Cx} {p pos apos : Pos} {e : Expr} {es : List Expr} {ma : M (List D)} {E0 : XK} {pl : Sem Bool} (T : Tx X.K X.mg C) (O : OkB LD X.prog X.w X.K X.mg X.base c C) (hr : Room 5 X.A) (tk : L2N.Takes X (fun cls dd _ H' => E0 cls dd H')) (ha : GA X c (fun cls dd _ H' => E0 cls dd H') (e :: es) ma) (hlen : ∀ ρ h ds h', ma ρ h = .ok ds h' → ds.length = (e :: es).length) (hl : (e :: es).length + 1 = 2 := by rfl) (hgl : Gl X "Rings" := by rfl)
    (he : starEach (e :: es) X.env = (false, eval e X.env) :: starEach es X.env := by rfl) (hpl : (backTo pos (starEach es X.env)).any (·.1) = false := by rfl)
    (ht : eval (.Call (.Attribute (.Name "Rings" p) "read" apos) (e :: es) [] pos) X.env = (do
      let ov ← eval (.Name "Rings" p) X.env
      standAt apos.atName
      let (f, first) ← holding [ov] (getMethod ov "read" pl)
      callWith pos f first (backTo pos (starEach (e :: es) X.env)) (backToKw pos (keywordEach [] X.env))) := by rfl) : GE X c (fun cls dd _ H' => E0 cls dd H') (.Call (.Attribute (.Name "Rings" p) "read" apos) (e :: es) [] pos) (mCM 14 F_Rings_read ma) := by
  obtain ⟨f, fd, pp, h1, h2, h3⟩ := T.d_Rings_read
  exact ge_cm (O.hga 14) T.cr_Rings h2 (o_Rings_read h1 T O) h3 hr tk T.e_Rings ha hl hlen hgl (by decide) he hpl ht
def m_Rings_source : MS := (sRet (mFld 14 "row" (mVar 0)))
def F_Rings_source : FS := mDef 1 m_Rings_source
theorem F_Rings_source_ap (x0 : D) (h : Cells) : F_Rings_source [x0] h = SO.res (m_Rings_source [some (.val x0)] h) := by
  show mDef _ _ _ _ = _
  unfold mDef
  simp only [List.map, List.length_cons, List.length_nil, List.replicate, Nat.reduceAdd, Nat.reduceSub, List.cons_append, List.nil_append]
  generalize m_Rings_source _ h = o
  cases o <;> rfl
theorem o_Rings_source {f : Addr} {fd : FuncData} (h1 : Fun K "source" "Rings.source" s_Rings_source f fd) (T : Tx K mg C) (O : OkB LD P w K mg base c C) : FnOk P w K mg base (L2N.CX P w) 1 f fd ["self"] (spD c 1 F_Rings_source) := by
  have hK := O.hk.symm
  have hn := O.hn
  exact fn_ok h1 sc_Rings_source rfl fun cdv A outer s H E hr => (gss_one (gs_ret (gfld_Rings_row T O (ge_var (i := 0)))))
theorem gprop_Rings_source {X : Cx} {wx : WX} {e : Expr} {pos : Pos} {me : M D} (T : Tx X.K X.mg C) (O : OkB LD X.prog X.w X.K X.mg X.base c C) (hr : Room 2 X.A) (he : GE X c wx e me) (hab : attributeBase e "source" X.env (eval e X.env) = eval e X.env := by rfl) : GE X c wx (.Attribute e "source" pos) (mProp 14 F_Rings_source me) := by
  obtain ⟨f, fd, pp, h1, h2, h3⟩ := T.d_Rings_source
  exact ge_prop (O.hga 14) T.cl_Rings h2 (o_Rings_source h1 T O) h3 hr he hab
def m_Rings_str : MS := (sRet (mOp1 gFmt (mFn F_text_of (mCons (mFld 14 "row" (mVar 0)) mNil))))
def F_Rings_str : FS := mDef 1 m_Rings_str
theorem F_Rings_str_ap (x0 : D) (h : Cells) : F_Rings_str [x0] h = SO.res (m_Rings_str [some (.val x0)] h) := by
  show mDef _ _ _ _ = _
  unfold mDef
  simp only [List.map, List.length_cons, List.length_nil, List.replicate, Nat.reduceAdd, Nat.reduceSub, List.cons_append, List.nil_append]
  generalize m_Rings_str _ h = o
  cases o <;> rfl
theorem o_Rings_str {f : Addr} {fd : FuncData} (h1 : Fun K "__str__" "Rings.__str__" s_Rings_str f fd) (T : Tx K mg C) (O : OkB LD P w K mg base c C) : FnOk P w K mg base (L2N.CX P w) 2 f fd ["self"] (spD c 1 F_Rings_str) := by
  have hK := O.hk.symm
  have hn := O.hn
  exact fn_ok h1 sc_Rings_str rfl fun cdv A outer s H E hr => (gss_one (gs_ret (ge_joined1 (ge_fmt (ge_call (k_text_of T O) (hr.mono (by decide)) (L2N.takes_of rfl rfl rfl rfl) (ga_cons (gfld_Rings_row T O (ge_var (i := 0))) ga_nil) (hlen := (len_cons (fun _ _ _ _ e => len_nil e))))))))
theorem gstr_Rings {X : Cx} {wx : WX} {e : Expr} {p pos : Pos} {me : M D} (T : Tx X.K X.mg C) (O : OkB LD X.prog X.w X.K X.mg X.base c C) (hr : Room 4 X.A) (hm : X.mg "str" = none) (he : GE X c wx e me) (hgl : Gl X "str" := by rfl) (hes : starEach [e] X.env = (false, eval e X.env) :: starEach [] X.env := by rfl) (hpl : (backTo pos (starEach [] X.env)).any (·.1) = false := by rfl) :
    GE X c wx (.Call (.Name "str" p) [e] [] pos) (mStrO 14 F_Rings_str me) := by
  obtain ⟨f, fd, h1, h2, h3, h4⟩ := T.d_Rings_str
  exact ge_strO (O.hga 14) h2 h3 (o_Rings_str h1 T O) h4 rfl hr hm he hgl hes hpl
def m__law_deck : MS := (sSeq (sIf (mAsB (mOp2 gGe (mVar 0) (mOp2 gPow (mC (.int 10)) (mC (.int 18))))) (sRet (mNewL (mCons (mOp2 gSub (mVar 0) (mOp2 gPow (mC (.int 10)) (mC (.int 18)))) (mCons (mOp2 gMod (mVar 0) (mC (.int 2147483579))) (mCons (mVar 1) mNil))))) sNil) (sRet (mNewL (mCons (mC (.int 0)) (mCons (mOp2 gMod (mVar 0) (mC (.int 2147483579))) (mCons (mVar 1) mNil))))))
def F__law_deck : FS := mDef 2 m__law_deck
theorem F__law_deck_ap (x0 x1 : D) (h : Cells) : F__law_deck [x0, x1] h = SO.res (m__law_deck [some (.val x0), some (.val x1)] h) := by
  show mDef _ _ _ _ = _
  unfold mDef
  simp only [List.map, List.length_cons, List.length_nil, List.replicate, Nat.reduceAdd, Nat.reduceSub, List.cons_append, List.nil_append]
  generalize m__law_deck _ h = o
  cases o <;> rfl
theorem o__law_deck {f : Addr} {fd : FuncData} (h1 : Fun K "_law_deck" "_law_deck" s__law_deck f fd) (T : Tx K mg C) (O : OkB LD P w K mg base c C) : FnOk P w K mg base (L2N.CX P w) 1 f fd ["cell", "turn"] (spD c 2 F__law_deck) := by
  have hK := O.hk.symm
  have hn := O.hn
  exact fn_ok h1 sc__law_deck rfl fun cdv A outer s H E hr => (gss_cons (gs_if (gt_cmp og_ge (ge_var (i := 0)) (ge_op og_pow ge_int ge_int)) (gss_one (gs_ret (ge_newL (ga_cons (ge_op og_sub (ge_var (i := 0)) (ge_op og_pow ge_int ge_int)) (ga_cons (ge_op og_mod (ge_var (i := 0)) ge_int) (ga_cons (ge_var (i := 1)) ga_nil)))))) gss_nil)
  (gss_one (gs_ret (ge_newL (ga_cons ge_int (ga_cons (ge_op og_mod (ge_var (i := 0)) ge_int) (ga_cons (ge_var (i := 1)) ga_nil)))))))
theorem k__law_deck (T : Tx K mg C) (O : OkB LD P w K mg base c C) : FnK P w K mg base c "_law_deck" 1 2 F__law_deck := by
  obtain ⟨f, fd, h1, h2, h3⟩ := T.d__law_deck
  exact fn_k (o__law_deck h1 T O) h1.kp h2 h3 rfl
def m__law_pick : MS := (sSeq (sIf (mAsB (mOp2 gGt (mOpV gIx (mVarB 0) (mBd (mC (.int 0)))) (mC (.int 1)))) (sSeq (sSet 2 (mOp2 gMod (mCallV gInt (mBd (mOpV gIx (mVarB 0) (mBd (mC (.int 0)))))) (mVar 1))) (sSeq (sSetC (mVar 0) (mC (.int 0)) (mOp2 gFdiv (mOpV gIx (mVarB 0) (mBd (mC (.int 0)))) (mVar 1))) (sRet (mVar 2)))) sNil) (sSeq (sSetC (mVar 0) (mC (.int 2)) (mOp2 gAdd (mOpV gIx (mVarB 0) (mBd (mC (.int 2)))) (mC (.int 1)))) (sSeq (sSet 3 (mOp2 gMod (mOp2 gPow (mOp2 gAdd (mOpV gIx (mVarB 0) (mBd (mC (.int 1)))) (mOp2 gMul (mC (.int 15485867)) (mOpV gIx (mVarB 0) (mBd (mC (.int 2)))))) (mC (.int 5))) (mC (.int 2147483647)))) (sSeq (sSet 2 (mOp2 gFdiv (mOp2 gMod (mOp2 gPow (mOp2 gAdd (mVar 3) (mOp2 gMul (mC (.int 7919)) (mOpV gIx (mVarB 0) (mBd (mC (.int 2)))))) (mC (.int 3))) (mC (.int 2147483629))) (mC (.int 32)))) (sRet (mOp2 gMod (mCallV gInt (mVarB 2)) (mVar 1)))))))
def F__law_pick : FS := mDef 4 m__law_pick
theorem F__law_pick_ap (x0 x1 : D) (h : Cells) : F__law_pick [x0, x1] h = SO.res (m__law_pick [some (.val x0), some (.val x1), none, none] h) := by
  show mDef _ _ _ _ = _
  unfold mDef
  simp only [List.map, List.length_cons, List.length_nil, List.replicate, Nat.reduceAdd, Nat.reduceSub, List.cons_append, List.nil_append]
  generalize m__law_pick _ h = o
  cases o <;> rfl
theorem o__law_pick {f : Addr} {fd : FuncData} (h1 : Fun K "_law_pick" "_law_pick" s__law_pick f fd) (T : Tx K mg C) (O : OkB LD P w K mg base c C) : FnOk P w K mg base (L2N.CX P w) 1 f fd ["deck", "size"] (spD c 2 F__law_pick) := by
  have hK := O.hk.symm
  have hn := O.hn
  exact fn_ok h1 sc__law_pick rfl fun cdv A outer s H E hr => (gss_cons (gs_if (gt_cmp og_gt (ge_ix hK (gb_var (i := 0)) (gb_ge ge_int)) ge_int) (gss_cons (gs_set (i := 2) (ge_op og_mod (ge_callTy1 cg_int T.n_int (gb_ge (ge_ix hK (gb_var (i := 0)) (gb_ge ge_int)))) (ge_var (i := 1))) sc__law_pick.nd)
  (gss_cons (gs_setC (ge_var (i := 0)) ge_int (ge_op og_fdiv (ge_ix hK (gb_var (i := 0)) (gb_ge ge_int)) (ge_var (i := 1))))
  (gss_one (gs_ret (ge_var (i := 2)))))) gss_nil)
  (gss_cons (gs_setC (ge_var (i := 0)) ge_int (ge_op (og_add hK) (ge_ix hK (gb_var (i := 0)) (gb_ge ge_int)) ge_int))
  (gss_cons (gs_set (i := 3) (ge_op og_mod (ge_op og_pow (ge_op (og_add hK) (ge_ix hK (gb_var (i := 0)) (gb_ge ge_int)) (ge_op (og_mul hK) ge_int (ge_ix hK (gb_var (i := 0)) (gb_ge ge_int)))) ge_int) ge_int) sc__law_pick.nd)
  (gss_cons (gs_set (i := 2) (ge_op og_fdiv (ge_op og_mod (ge_op og_pow (ge_op (og_add hK) (ge_var (i := 3)) (ge_op (og_mul hK) ge_int (ge_ix hK (gb_var (i := 0)) (gb_ge ge_int)))) ge_int) ge_int) ge_int) sc__law_pick.nd)
  (gss_one (gs_ret (ge_op og_mod (ge_callTy1 cg_int T.n_int (gb_var (i := 2))) (ge_var (i := 1)))))))))
theorem k__law_pick (T : Tx K mg C) (O : OkB LD P w K mg base c C) : FnK P w K mg base c "_law_pick" 1 2 F__law_pick := by
  obtain ⟨f, fd, h1, h2, h3⟩ := T.d__law_pick
  exact fn_k (o__law_pick h1 T O) h1.kp h2 h3 rfl
def m__law_one : MS := (sRet (mOpV gIx (mVarB 1) (mBd (mFn F__law_pick (mCons (mVar 0) (mCons (mCallV gLen (mVarB 1)) mNil))))))
def F__law_one : FS := mDef 2 m__law_one
theorem F__law_one_ap (x0 x1 : D) (h : Cells) : F__law_one [x0, x1] h = SO.res (m__law_one [some (.val x0), some (.val x1)] h) := by
  show mDef _ _ _ _ = _
  unfold mDef
  simp only [List.map, List.length_cons, List.length_nil, List.replicate, Nat.reduceAdd, Nat.reduceSub, List.cons_append, List.nil_append]
  generalize m__law_one _ h = o
  cases o <;> rfl
theorem o__law_one {f : Addr} {fd : FuncData} (h1 : Fun K "_law_one" "_law_one" s__law_one f fd) (T : Tx K mg C) (O : OkB LD P w K mg base c C) : FnOk P w K mg base (L2N.CX P w) 2 f fd ["deck", "some"] (spD c 2 F__law_one) := by
  have hK := O.hk.symm
  have hn := O.hn
  exact fn_ok h1 sc__law_one rfl fun cdv A outer s H E hr => (gss_one (gs_ret (ge_ix hK (gb_var (i := 1)) (gb_ge (ge_call (k__law_pick T O) (hr.mono (by decide)) (L2N.takes_of rfl rfl rfl rfl) (ga_cons (ge_var (i := 0)) (ga_cons (ge_callB1 (cg_len hK) T.n_len (gb_var (i := 1))) ga_nil)) (hlen := (len_cons (len_cons (fun _ _ _ _ e => len_nil e)))))))))
theorem k__law_one (T : Tx K mg C) (O : OkB LD P w K mg base c C) : FnK P w K mg base c "_law_one" 2 2 F__law_one := by
  obtain ⟨f, fd, h1, h2, h3⟩ := T.d__law_one
  exact fn_k (o__law_one h1 T O) h1.kp h2 h3 rfl
def m__law_sort : MS := (sSeq (sIf (mTru (mCall gIsi (mCons (mVar 0) (mCons (mC (.ty "bool")) mNil)))) (sRet (mC (.int 1))) sNil) (sSeq (sIf (mTru (mCall gIsi (mCons (mVar 0) (mCons (mC (.ty "int")) mNil)))) (sRet (mC (.int 2))) sNil) (sSeq (sIf (mTru (mCall gIsi (mCons (mVar 0) (mCons (mC (.ty "str")) mNil)))) (sRet (mC (.int 3))) sNil) (sSeq (sIf (mTru (mCall gIsi (mCons (mVar 0) (mCons (mC (.ty "list")) mNil)))) (sRet (mC (.int 4))) sNil) (sRet (mIf (mTru (mCall gIsi (mCons (mVar 0) (mCons (mC (.ty "tuple")) mNil)))) (mC (.int 5)) (mC (.int 6))))))))
def F__law_sort : FS := mDef 1 m__law_sort
theorem F__law_sort_ap (x0 : D) (h : Cells) : F__law_sort [x0] h = SO.res (m__law_sort [some (.val x0)] h) := by
  show mDef _ _ _ _ = _
  unfold mDef
  simp only [List.map, List.length_cons, List.length_nil, List.replicate, Nat.reduceAdd, Nat.reduceSub, List.cons_append, List.nil_append]
  generalize m__law_sort _ h = o
  cases o <;> rfl
theorem o__law_sort {f : Addr} {fd : FuncData} (h1 : Fun K "_law_sort" "_law_sort" s__law_sort f fd) (T : Tx K mg C) (O : OkB LD P w K mg base c C) : FnOk P w K mg base (L2N.CX P w) 1 f fd ["thing"] (spD c 1 F__law_sort) := by
  have hK := O.hk.symm
  have hn := O.hn
  exact fn_ok h1 sc__law_sort rfl fun cdv A outer s H E hr => (gss_cons (gs_if (gt_val hK (ge_callB (cg_isi hK) T.n_isinstance (ga_cons (ge_var (i := 0)) (ga_cons (ge_bty T.n_bool) ga_nil)))) (gss_one (gs_ret ge_int)) gss_nil)
  (gss_cons (gs_if (gt_val hK (ge_callB (cg_isi hK) T.n_isinstance (ga_cons (ge_var (i := 0)) (ga_cons (ge_bty T.n_int) ga_nil)))) (gss_one (gs_ret ge_int)) gss_nil)
  (gss_cons (gs_if (gt_val hK (ge_callB (cg_isi hK) T.n_isinstance (ga_cons (ge_var (i := 0)) (ga_cons (ge_bty T.n_str) ga_nil)))) (gss_one (gs_ret ge_int)) gss_nil)
  (gss_cons (gs_if (gt_val hK (ge_callB (cg_isi hK) T.n_isinstance (ga_cons (ge_var (i := 0)) (ga_cons (ge_bty T.n_list) ga_nil)))) (gss_one (gs_ret ge_int)) gss_nil)
  (gss_one (gs_ret (ge_ifExp (gt_val hK (ge_callB (cg_isi hK) T.n_isinstance (ga_cons (ge_var (i := 0)) (ga_cons (ge_bty T.n_tuple) ga_nil)))) ge_int ge_int)))))))
theorem k__law_sort (T : Tx K mg C) (O : OkB LD P w K mg base c C) : FnK P w K mg base c "_law_sort" 1 1 F__law_sort := by
  obtain ⟨f, fd, h1, h2, h3⟩ := T.d__law_sort
  exact fn_k (o__law_sort h1 T O) h1.kp h2 h3 rfl
def m__law_same (F : FS) : MS := (sSeq (sIf (mAsB (mOpV gNe (mBd (mFn F__law_sort (mCons (mVar 0) mNil))) (mBd (mFn F__law_sort (mCons (mVar 1) mNil))))) (sRet (mC (.bl false))) sNil) (sSeq (sIf (mAnd (mAsB (mOp2 gGt (mFn F__law_sort (mCons (mVar 0) mNil)) (mC (.int 3)))) (mAsB (mOp2 gLt (mFn F__law_sort (mCons (mVar 0) mNil)) (mC (.int 6))))) (sSeq (sIf (mAsB (mOpV gNe (mBd (mCallV gLen (mVarB 0))) (mBd (mCallV gLen (mVarB 1))))) (sRet (mC (.bl false))) sNil) (sRet (mOpV gEq (mBd (mLcV (mIt itE (mVar 0)) (tgT 2 (tgCons (tgN 2) (tgCons (tgN 3) tgNil))) (mNot (mTru (mFn F (mCons (mVar 3) (mCons (mOpV gIx (mVarB 1) (mVarB 2)) mNil))))) (mVar 2) [2, 3])) (mBd (mLst mNil))))) sNil) (sRet (mOpV gEq (mVarB 0) (mVarB 1)))))
def F__law_same : Nat → FS
  | 0 => fun _ _ => .stuck
  | n + 1 => mDef 4 (m__law_same (F__law_same n))
theorem F__law_same_ap (n : Nat) (x0 x1 : D) (h : Cells) : F__law_same (n + 1) [x0, x1] h = SO.res (m__law_same (F__law_same n) [some (.val x0), some (.val x1), none, none] h) := by
  show mDef _ _ _ _ = _
  unfold mDef
  simp only [List.map, List.length_cons, List.length_nil, List.replicate, Nat.reduceAdd, Nat.reduceSub, List.cons_append, List.nil_append]
  generalize m__law_same _ _ h = o
  cases o <;> rfl
theorem k__law_same (T : Tx K mg C) (O : OkB LD P w K mg base c C) : ∀ n, FnK P w K mg base c "_law_same" (1 + n) 2 (F__law_same n)
  | 0 => by
    obtain ⟨f, fd, h1, h2, h3⟩ := T.d__law_same
    exact fn_k (fn_stuck rfl) h1.kp h2 h3 rfl
  | n + 1 => by
    have hF := k__law_same T O n
    obtain ⟨f, fd, h1, h2, h3⟩ := T.d__law_same
    have hK := O.hk.symm
    have hn := O.hn
    exact fn_k (k := 1 + n + 1) (fn_ok (k := 1 + n) h1 sc__law_same rfl fun cdv A outer s H E hr => (gss_cons (gs_if (gt_cmpV (og_ne hK (hu64 hr)) (gb_ge (ge_call (k__law_sort T O) (hr.mono (by omega)) (L2N.takes_of rfl rfl rfl rfl) (ga_cons (ge_var (i := 0)) ga_nil) (hlen := (len_cons (fun _ _ _ _ e => len_nil e))))) (gb_ge (ge_call (k__law_sort T O) (hr.mono (by omega)) (L2N.takes_of rfl rfl rfl rfl) (ga_cons (ge_var (i := 1)) ga_nil) (hlen := (len_cons (fun _ _ _ _ e => len_nil e)))))) (gss_one (gs_ret ge_bl)) gss_nil)
  (gss_cons (gs_if (gw_pt (gw_and (gt_cmp og_gt (ge_call (k__law_sort T O) (hr.mono (by omega)) (L2N.takes_of rfl rfl rfl rfl) (ga_cons (ge_var (i := 0)) ga_nil) (hlen := (len_cons (fun _ _ _ _ e => len_nil e)))) ge_int) (gw_and1 (gt_cmp og_lt (ge_call (k__law_sort T O) (hr.mono (by omega)) (L2N.takes_of rfl rfl rfl rfl) (ga_cons (ge_var (i := 0)) ga_nil) (hlen := (len_cons (fun _ _ _ _ e => len_nil e)))) ge_int)))) (gss_cons (gs_if (gt_cmpV (og_ne hK (hu64 hr)) (gb_ge (ge_callB1 (cg_len hK) T.n_len (gb_var (i := 0)))) (gb_ge (ge_callB1 (cg_len hK) T.n_len (gb_var (i := 1))))) (gss_one (gs_ret ge_bl)) gss_nil)
  (gss_one (gs_ret (ge_cmpV (og_eq hK (hu64 hr)) (gb_ge (ge_lc (own := [("k", 2), ("part", 3)]) rfl sc__law_same.nd (gi_enum hK T.n_enumerate (ge_var (i := 0))) (show blkC ["told", "due", "k", "part"] (defScope s__law_same) _ _ = true from by decide +kernel) (fun _ _ _ _ _ => (gg_tup hK rfl (ggs_cons (gg_name (i := 2) sc__law_same.nd) (ggs_cons (gg_name (i := 3) sc__law_same.nd) ggs_nil)))) (fun _ _ _ _ _ => (gts_one (gt_not (gt_val hK (ge_call hF (hr.mono (Nat.le_refl _)) takesN0 (ga_cons (ge_var (i := 3)) (ga_cons (ge_ix hK (gb_var (i := 1)) (gb_var (i := 2))) ga_nil)) (hlen := (len_cons (len_cons (fun _ _ _ _ e => len_nil e))))))))) (fun _ _ _ _ _ => (ge_var (i := 2))))) (gb_ge (ge_lst ga_nil)))))) gss_nil)
  (gss_one (gs_ret (ge_cmpV (og_eq hK (hu64 hr)) (gb_var (i := 0)) (gb_var (i := 1)))))))) h1.kp h2 h3 rfl
def m__law_kin (n : Nat) : MS := (sSeq (sNewL 1 (mCons (mCall (gIsE (kinF n)) (mCons (mVar 0) (mCons (mC (.glb 0)) mNil))) (mCons (mCall (gIsE (kinF n)) (mCons (mVar 0) (mCons (mC (.glb 1)) mNil))) (mCons (mCall (gIsE (kinF n)) (mCons (mVar 0) (mCons (mC (.glb 2)) mNil))) mNil)))) (sSeq (sOwnCat 1 (mVarB 1) (mCons (mCall (gIsE (kinF n)) (mCons (mVar 0) (mCons (mC (.glb 3)) mNil))) (mCons (mCall (gIsE (kinF n)) (mCons (mVar 0) (mCons (mC (.glb 4)) mNil))) mNil))) (sSeq (sOwnCat 1 (mVarB 1) (mCons (mCall (gIsE (kinF n)) (mCons (mVar 0) (mCons (mC (.glb 5)) mNil))) (mCons (mCall (gIsE (kinF n)) (mCons (mVar 0) (mCons (mC (.glb 6)) mNil))) (mCons (mCall (gIsE (kinF n)) (mCons (mVar 0) (mCons (mC (.glb 7)) mNil))) mNil)))) (sSeq (sOwnCat 1 (mVarB 1) (mCons (mCall (gIsE (kinF n)) (mCons (mVar 0) (mCons (mC (.glb 8)) mNil))) (mCons (mCall (gIsE (kinF n)) (mCons (mVar 0) (mCons (mC (.glb 9)) mNil))) (mCons (mCall (gIsE (kinF n)) (mCons (mVar 0) (mCons (mC (.glb 10)) mNil))) mNil)))) (sSeq (sOwnCat 1 (mVarB 1) (mCons (mCall (gIsE (kinF n)) (mCons (mVar 0) (mCons (mC (.glb 11)) mNil))) (mCons (mCall (gIsE (kinF n)) (mCons (mVar 0) (mCons (mC (.glb 12)) mNil))) mNil))) (sSeq (sApp 1 (mCall (gIsE (kinF n)) (mCons (mVar 0) (mCons (mC (.ty "ValueError")) mNil)))) (sSeq (sSet 2 (mC (.str [115, 116, 97, 110, 100, 105, 110, 103, 32, 112, 111, 115, 116, 32, 112, 111, 115, 116, 115, 32, 110, 117, 109, 98, 101, 114, 32, 97, 114, 99, 115, 32, 109, 111, 118, 101, 32, 119, 97, 121, 32, 114, 105, 110, 103, 32, 116, 101, 120, 116, 32, 98, 97, 114, 114, 101, 100, 32, 117, 110, 108, 105, 107, 101, 32, 117, 110, 100, 111, 32, 109, 97, 110, 121, 32, 43]))) (sFrz 1 (sRet (mJoin (mC (.str [32])) (mLcV (mItL itZ (mCons (mStrM gSplit (mVar 2) (mC (.str [32]))) (mCons (mVar 1) mNil))) (tgT 2 (tgCons (tgN 3) (tgCons (tgN 4) tgNil))) (mTru (mVar 4)) (mVar 3) [3, 4])))))))))))
theorem kin_res : ∀ n < 13, mDef 5 (m__law_kin n) [.glb 99] [] = .ok (.str (kinS n)) [] := fun n hn => by
  have h : n = 0 ∨ n = 1 ∨ n = 2 ∨ n = 3 ∨ n = 4 ∨ n = 5 ∨ n = 6 ∨ n = 7 ∨ n = 8 ∨ n = 9 ∨ n = 10 ∨ n = 11 ∨ n = 12 := by omega
  rcases h with h | h | h | h | h | h | h | h | h | h | h | h | h <;> subst h <;> kernel_rfl
theorem kin_f (T : Tx K mg C) (er : Errs K C) (TT : List (Addr × Str)) : KinOk2 P w K mg base 1 TT C := by
  obtain ⟨f, fd, h1, h2, h3⟩ := T.d__law_kin
  refine kin_ok2 (k := 0) (m := m__law_kin) h1 sc__law_kin h2 h3 (fun n hn a oe cdv A outer s H E hot hz hd hf => ?_) kin_res
  have hc : HotC (cxH (L2N.CX P w) P w K mg base ["e", "sorts", "labels", "label", "good"] "_law_kin" (defScope s__law_kin) f cdv A outer s H E (a, oe)) := ⟨(a, oe), hot, List.mem_singleton.mpr rfl⟩
  have hp : (a, oe) ∈ (cxH (L2N.CX P w) P w K mg base ["e", "sorts", "labels", "label", "good"] "_law_kin" (defScope s__law_kin) f cdv A outer s H E (a, oe)).pn := List.mem_singleton.mpr rfl
  have hK : K = (cK K TT C a).K := rfl
  exact (gss_cons (gs_newL (i := 1) (ga_cons (ge_callB (cg_kinG er (by omega) hp rfl hz hd hf) T.n_isinstance (ga_cons (ge_var (i := 0)) (ga_cons (ge_glob (v := .ref (C 0)) T.e_InvalidStanding rfl (fun W => by simp only [At]; rfl)) ga_nil))) (ga_cons (ge_callB (cg_kinG er (by omega) hp rfl hz hd hf) T.n_isinstance (ga_cons (ge_var (i := 0)) (ga_cons (ge_glob (v := .ref (C 1)) T.e_InvalidPost rfl (fun W => by simp only [At]; rfl)) ga_nil))) (ga_cons (ge_callB (cg_kinG er (by omega) hp rfl hz hd hf) T.n_isinstance (ga_cons (ge_var (i := 0)) (ga_cons (ge_glob (v := .ref (C 2)) T.e_InvalidPosts rfl (fun W => by simp only [At]; rfl)) ga_nil))) ga_nil))) sc__law_kin.nd)
  (gss_cons (gs_ownCat (i := 1) hK (gb_var (i := 1)) (ga_cons (ge_callB (cg_kinG er (by omega) hp rfl hz hd hf) T.n_isinstance (ga_cons (ge_var (i := 0)) (ga_cons (ge_glob (v := .ref (C 3)) T.e_InvalidNumber rfl (fun W => by simp only [At]; rfl)) ga_nil))) (ga_cons (ge_callB (cg_kinG er (by omega) hp rfl hz hd hf) T.n_isinstance (ga_cons (ge_var (i := 0)) (ga_cons (ge_glob (v := .ref (C 4)) T.e_InvalidArcs rfl (fun W => by simp only [At]; rfl)) ga_nil))) ga_nil)) sc__law_kin.nd)
  (gss_cons (gs_ownCat (i := 1) hK (gb_var (i := 1)) (ga_cons (ge_callB (cg_kinG er (by omega) hp rfl hz hd hf) T.n_isinstance (ga_cons (ge_var (i := 0)) (ga_cons (ge_glob (v := .ref (C 5)) T.e_InvalidMove rfl (fun W => by simp only [At]; rfl)) ga_nil))) (ga_cons (ge_callB (cg_kinG er (by omega) hp rfl hz hd hf) T.n_isinstance (ga_cons (ge_var (i := 0)) (ga_cons (ge_glob (v := .ref (C 6)) T.e_InvalidWay rfl (fun W => by simp only [At]; rfl)) ga_nil))) (ga_cons (ge_callB (cg_kinG er (by omega) hp rfl hz hd hf) T.n_isinstance (ga_cons (ge_var (i := 0)) (ga_cons (ge_glob (v := .ref (C 7)) T.e_InvalidRing rfl (fun W => by simp only [At]; rfl)) ga_nil))) ga_nil))) sc__law_kin.nd)
  (gss_cons (gs_ownCat (i := 1) hK (gb_var (i := 1)) (ga_cons (ge_callB (cg_kinG er (by omega) hp rfl hz hd hf) T.n_isinstance (ga_cons (ge_var (i := 0)) (ga_cons (ge_glob (v := .ref (C 8)) T.e_InvalidText rfl (fun W => by simp only [At]; rfl)) ga_nil))) (ga_cons (ge_callB (cg_kinG er (by omega) hp rfl hz hd hf) T.n_isinstance (ga_cons (ge_var (i := 0)) (ga_cons (ge_glob (v := .ref (C 9)) T.e_Barred rfl (fun W => by simp only [At]; rfl)) ga_nil))) (ga_cons (ge_callB (cg_kinG er (by omega) hp rfl hz hd hf) T.n_isinstance (ga_cons (ge_var (i := 0)) (ga_cons (ge_glob (v := .ref (C 10)) T.e_Unlike rfl (fun W => by simp only [At]; rfl)) ga_nil))) ga_nil))) sc__law_kin.nd)
  (gss_cons (gs_ownCat (i := 1) hK (gb_var (i := 1)) (ga_cons (ge_callB (cg_kinG er (by omega) hp rfl hz hd hf) T.n_isinstance (ga_cons (ge_var (i := 0)) (ga_cons (ge_glob (v := .ref (C 11)) T.e_NothingToUndo rfl (fun W => by simp only [At]; rfl)) ga_nil))) (ga_cons (ge_callB (cg_kinG er (by omega) hp rfl hz hd hf) T.n_isinstance (ga_cons (ge_var (i := 0)) (ga_cons (ge_glob (v := .ref (C 12)) T.e_TooMany rfl (fun W => by simp only [At]; rfl)) ga_nil))) ga_nil)) sc__law_kin.nd)
  (gss_cons (gs_app (i := 1) hK (ge_callB (cg_kinG er (by omega) hp rfl hz hd hf) T.n_isinstance (ga_cons (ge_var (i := 0)) (ga_cons (ge_bty T.n_ValueError) ga_nil))))
  (gss_cons (gs_set (i := 2) ge_str sc__law_kin.nd)
  (gss_frz 1 (gss_one (gs_ret (ge_join hK ge_str (ge_lcH (own := [("label", 3), ("good", 4)]) hc sc__law_kin.nd (gi_zipH hK T.n_zip (ga_cons (ge_split (ge_var (i := 2)) ge_str (fun h1 h2 => pe_split h1 h2)) (ga_cons (ge_var (i := 1)) ga_nil))) (show blkC ["e", "sorts", "labels", "label", "good"] (defScope s__law_kin) _ _ = true from by decide +kernel) (fun _ _ _ _ _ => (gg_tupH hK (hot_blk hc _ _ _ _ _) (ggs_cons (gg_name (i := 3) sc__law_kin.nd) (ggs_cons (gg_name (i := 4) sc__law_kin.nd) ggs_nil)))) (fun _ _ _ _ _ => (gts_one (gt_val hK (ge_var (i := 4))))) (fun _ _ _ _ _ => (ge_var (i := 3)))) (fun h1 h2 => pe_join h1 h2))))))))))))
theorem tryK (T : Tx K mg C) (O : OkB LD P w K mg base c C) : TryK2 P w K mg base 1 c.T C where
  er := O.er
  kin := kin_f T O.er c.T
  xf := O.xf
  no := O.no
  m12 := T.e_TooMany
  m13 := T.e_RingError
  ex := by
    obtain ⟨g, fd, h1, h2, h3⟩ := T.d__law_try
    exact ⟨g, s__law_try, fd, h2, h1, h3, sc__law_try, .inl rfl, rfl, rfl, rfl, rfl, rfl, _, _, _, _, _, _, _, _, _, _, _, _, _, _, _, _, _, _, _, _, _, _, _, _, _, _, _, _, _, _, _, _, _, rfl⟩
def b__law_standing_0 : MS := (sSet 3 (mOp2 gAdd (mVar 3) (mOp2 gMul (mCallV gStr (mBd (mFn F__law_pick (mCons (mVar 0) (mCons (mC (.int 3)) mNil))))) (mFn F__law_pick (mCons (mVar 0) (mCons (mOp2 gAdd (mVar 1) (mC (.int 1))) mNil))))))
theorem b__law_standing_0_ap (ρ : DL.Env) (h : Cells) : b__law_standing_0 ρ h = (sSet 3 (mOp2 gAdd (mVar 3) (mOp2 gMul (mCallV gStr (mBd (mFn F__law_pick (mCons (mVar 0) (mCons (mC (.int 3)) mNil))))) (mFn F__law_pick (mCons (mVar 0) (mCons (mOp2 gAdd (mVar 1) (mC (.int 1))) mNil)))))) ρ h := id rfl
def m__law_standing : MS := (sSeq (sPar2 2 3 (mFn F__law_pick (mCons (mVar 0) (mCons (mC (.int 3)) mNil))) (mC (.str []))) (sSeq (sIf (mAsB (mOpV gEq (mVarB 2) (mBd (mC (.int 0))))) (sSeq (sFor (mItL itR1 (mCons (mC (.int 4)) mNil)) (tgN 4) b__law_standing_0) (sRet (mSl (mBd (mOp2 gAdd (mVar 3) (mOp2 gMul (mC (.str [48])) (mVar 1)))) mPartN (mPart (mVar 1))))) sNil) (sSeq (sIf (mAsB (mOp2 gLt (mVar 1) (mC (.int 30)))) (sRet (mJoin (mC (.str [])) (mLcV (mItL itR1 (mCons (mVar 1) mNil)) (tgN 6) mTrue (mCallV gStr (mBd (mFn F__law_pick (mCons (mVar 0) (mCons (mC (.int 3)) mNil))))) [6]))) sNil) (sSeq (sSet 5 (mJoin (mC (.str [])) (mLcV (mItL itR1 (mCons (mC (.int 17)) mNil)) (tgN 6) mTrue (mCallV gStr (mBd (mFn F__law_pick (mCons (mVar 0) (mCons (mC (.int 3)) mNil))))) [6]))) (sRet (mSl (mBd (mOp2 gMul (mOp2 gAdd (mVar 5) (mCallV gStr (mVarB 2))) (mOp2 gAdd (mOp2 gFdiv (mVar 1) (mC (.int 18))) (mC (.int 1))))) mPartN (mPart (mVar 1))))))))
def F__law_standing : FS := mDef 7 m__law_standing
theorem F__law_standing_ap (x0 x1 : D) (h : Cells) : F__law_standing [x0, x1] h = SO.res (m__law_standing [some (.val x0), some (.val x1), none, none, none, none, none] h) := by
  show mDef _ _ _ _ = _
  unfold mDef
  simp only [List.map, List.length_cons, List.length_nil, List.replicate, Nat.reduceAdd, Nat.reduceSub, List.cons_append, List.nil_append]
  generalize m__law_standing _ h = o
  cases o <;> rfl
theorem o__law_standing {f : Addr} {fd : FuncData} (h1 : Fun K "_law_standing" "_law_standing" s__law_standing f fd) (T : Tx K mg C) (O : OkB LD P w K mg base c C) : FnOk P w K mg base (L2N.CX P w) 2 f fd ["deck", "many"] (spD c 2 F__law_standing) := by
  have hK := O.hk.symm
  have hn := O.hn
  exact fn_ok h1 sc__law_standing rfl fun cdv A outer s H E hr => (gss_cons (gs_par2 (i := 2) (j := 3) rfl (ge_call (k__law_pick T O) (hr.mono (by decide)) (L2N.takes_of rfl rfl rfl rfl) (ga_cons (ge_var (i := 0)) (ga_cons ge_int ga_nil)) (hlen := (len_cons (len_cons (fun _ _ _ _ e => len_nil e))))) ge_str sc__law_standing.nd)
  (gss_cons (gs_if (gt_cmpV (og_eq hK (hu64 hr)) (gb_var (i := 2)) (gb_ge ge_int)) (gss_cons (gs_for rfl (passes_of rfl) (gi_range1 T.n_range (ga_cons ge_int ga_nil)) (gg_name (i := 4) sc__law_standing.nd) (gss_one (gs_set (i := 3) (ge_op (og_add hK) (ge_var (i := 3)) (ge_op (og_mul hK) (ge_callTy1 cg_str T.n_str (gb_ge (ge_call (k__law_pick T O) (hr.mono (by decide)) (L2N.takes_of rfl rfl rfl rfl) (ga_cons (ge_var (i := 0)) (ga_cons ge_int ga_nil)) (hlen := (len_cons (len_cons (fun _ _ _ _ e => len_nil e))))))) (ge_call (k__law_pick T O) (hr.mono (by decide)) (L2N.takes_of rfl rfl rfl rfl) (ga_cons (ge_var (i := 0)) (ga_cons (ge_op (og_add hK) (ge_var (i := 1)) ge_int) ga_nil)) (hlen := (len_cons (len_cons (fun _ _ _ _ e => len_nil e))))))) sc__law_standing.nd)))
  (gss_one (gs_ret (ge_sl hK (gb_ge (ge_op (og_add hK) (ge_var (i := 3)) (ge_op (og_mul hK) ge_str (ge_var (i := 1))))) go_none (go_some (ge_var (i := 1))))))) gss_nil)
  (gss_cons (gs_if (gt_cmp og_lt (ge_var (i := 1)) ge_int) (gss_one (gs_ret (ge_join hK ge_str (ge_lc (own := [("ring", 6)]) rfl sc__law_standing.nd (gi_range1 T.n_range (ga_cons (ge_var (i := 1)) ga_nil)) (show blkC ["deck", "many", "way_so", "found", "post", "part", "ring"] (defScope s__law_standing) _ _ = true from by decide +kernel) (fun _ _ _ _ _ => (gg_name (i := 6) sc__law_standing.nd)) (fun _ _ _ _ _ => gts_nil) (fun _ _ _ _ _ => (ge_callTy1 cg_str T.n_str (gb_ge (ge_call (k__law_pick T O) (hr.mono (by decide)) takesN0 (ga_cons (ge_var (i := 0)) (ga_cons ge_int ga_nil)) (hlen := (len_cons (len_cons (fun _ _ _ _ e => len_nil e))))))))) (fun h1 h2 => pe_join h1 h2)))) gss_nil)
  (gss_cons (gs_set (i := 5) (ge_join hK ge_str (ge_lc (own := [("ring", 6)]) rfl sc__law_standing.nd (gi_range1 T.n_range (ga_cons ge_int ga_nil)) (show blkC ["deck", "many", "way_so", "found", "post", "part", "ring"] (defScope s__law_standing) _ _ = true from by decide +kernel) (fun _ _ _ _ _ => (gg_name (i := 6) sc__law_standing.nd)) (fun _ _ _ _ _ => gts_nil) (fun _ _ _ _ _ => (ge_callTy1 cg_str T.n_str (gb_ge (ge_call (k__law_pick T O) (hr.mono (by decide)) takesN0 (ga_cons (ge_var (i := 0)) (ga_cons ge_int ga_nil)) (hlen := (len_cons (len_cons (fun _ _ _ _ e => len_nil e))))))))) (fun h1 h2 => pe_join h1 h2)) sc__law_standing.nd)
  (gss_one (gs_ret (ge_sl hK (gb_ge (ge_op (og_mul hK) (ge_op (og_add hK) (ge_var (i := 5)) (ge_callTy1 cg_str T.n_str (gb_var (i := 2)))) (ge_op (og_add hK) (ge_op og_fdiv (ge_var (i := 1)) ge_int) ge_int))) go_none (go_some (ge_var (i := 1))))))))))
theorem k__law_standing (T : Tx K mg C) (O : OkB LD P w K mg base c C) : FnK P w K mg base c "_law_standing" 2 2 F__law_standing := by
  obtain ⟨f, fd, h1, h2, h3⟩ := T.d__law_standing
  exact fn_k (o__law_standing h1 T O) h1.kp h2 h3 rfl
def b__law_writing_0 : MS := (sIf (mAnd (mAsB (mNeE (mVarB 1))) (mAsB (mOpV gEq (mBd (mOpV gIx (mBd (mOpV gIx (mVarB 1) (mBd (mOp1 gNeg (mC (.int 1)))))) (mBd (mC (.int 1))))) (mVarB 2)))) (sSetC (mOpV gIx (mVarB 1) (mBd (mOp1 gNeg (mC (.int 1))))) (mC (.int 0)) (mOp2 gAdd (mOpV gIx (mBd (mOpV gIx (mVarB 1) (mBd (mOp1 gNeg (mC (.int 1)))))) (mBd (mC (.int 0)))) (mC (.int 1)))) (sApp 1 (mNewL (mCons (mC (.int 1)) (mCons (mVar 2) mNil)))))
theorem b__law_writing_0_ap (ρ : DL.Env) (h : Cells) : b__law_writing_0 ρ h = (sIf (mAnd (mAsB (mNeE (mVarB 1))) (mAsB (mOpV gEq (mBd (mOpV gIx (mBd (mOpV gIx (mVarB 1) (mBd (mOp1 gNeg (mC (.int 1)))))) (mBd (mC (.int 1))))) (mVarB 2)))) (sSetC (mOpV gIx (mVarB 1) (mBd (mOp1 gNeg (mC (.int 1))))) (mC (.int 0)) (mOp2 gAdd (mOpV gIx (mBd (mOpV gIx (mVarB 1) (mBd (mOp1 gNeg (mC (.int 1)))))) (mBd (mC (.int 0)))) (mC (.int 1)))) (sApp 1 (mNewL (mCons (mC (.int 1)) (mCons (mVar 2) mNil))))) ρ h := id rfl
def m__law_writing : MS := (sSeq (sNewL 1 mNil) (sSeq (sFor (mIt itAny (mVar 0)) (tgN 2) b__law_writing_0) (sFrz 1 (sRet (mIf (mAsB (mNeE (mVarB 1))) (mJoin (mC (.str [32])) (mLcVC (mIt itAny (mVar 1)) (tgC 2 (tgCons (tgN 3) (tgCons (tgN 2) tgNil))) mTrue (mOp2 gAdd (mOp2 gAdd (mCallV gStr (mVarB 3)) (mC (.str [120]))) (mVar 2)) [3, 2])) (mC (.str [110, 111, 110, 101])))))))
def F__law_writing : FS := mDef 4 m__law_writing
theorem F__law_writing_ap (x0 : D) (h : Cells) : F__law_writing [x0] h = SO.res (m__law_writing [some (.val x0), none, none, none] h) := by
  show mDef _ _ _ _ = _
  unfold mDef
  simp only [List.map, List.length_cons, List.length_nil, List.replicate, Nat.reduceAdd, Nat.reduceSub, List.cons_append, List.nil_append]
  generalize m__law_writing _ h = o
  cases o <;> rfl
theorem o__law_writing {f : Addr} {fd : FuncData} (h1 : Fun K "_law_writing" "_law_writing" s__law_writing f fd) (T : Tx K mg C) (O : OkB LD P w K mg base c C) : FnOk P w K mg base (L2N.CX P w) 1 f fd ["standing_so"] (spD c 1 F__law_writing) := by
  have hK := O.hk.symm
  have hn := O.hn
  exact fn_ok h1 sc__law_writing rfl fun cdv A outer s H E hr => (gss_cons (gs_newL (i := 1) ga_nil sc__law_writing.nd)
  (gss_cons (gs_for rfl (passes_of rfl) (gi_any hK (ge_var (i := 0))) (gg_name (i := 2) sc__law_writing.nd) (gss_one (gs_if (gw_pt (gw_and (gt_neE hK (hu64 hr) (gb_var (i := 1))) (gw_and1 (gt_cmpV (og_eq hK (hu64 hr)) (gb_ge (ge_ix hK (gb_ge (ge_ix hK (gb_var (i := 1)) (gb_ge (ge_un og_neg ge_int)))) (gb_ge ge_int))) (gb_var (i := 2)))))) (gss_one (gs_setC (ge_ix hK (gb_var (i := 1)) (gb_ge (ge_un og_neg ge_int))) ge_int (ge_op (og_add hK) (ge_ix hK (gb_ge (ge_ix hK (gb_var (i := 1)) (gb_ge (ge_un og_neg ge_int)))) (gb_ge ge_int)) ge_int))) (gss_one (gs_app (i := 1) hK (ge_newL (ga_cons ge_int (ga_cons (ge_var (i := 2)) ga_nil))))))))
  (gss_frz 1 (gss_one (gs_ret (ge_ifExp (gt_neE hK (hu64 hr) (gb_var (i := 1))) (ge_join hK ge_str (ge_lcC (own := [("many", 3), ("post", 2)]) rfl sc__law_writing.nd (gi_any hK (ge_var (i := 1))) (show blkC ["standing_so", "runs", "post", "many"] (defScope s__law_writing) _ _ = true from by decide +kernel) (fun _ _ _ _ _ => (ggc_lst hK rfl (ggs_cons (gg_name (i := 3) sc__law_writing.nd) (ggs_cons (gg_name (i := 2) sc__law_writing.nd) ggs_nil)))) (fun _ _ _ _ _ => gts_nil) (fun _ _ _ _ _ => (ge_op (og_add hK) (ge_op (og_add hK) (ge_callTy1 cg_str T.n_str (gb_var (i := 3))) ge_str) (ge_var (i := 2))))) (fun h1 h2 => pe_join h1 h2)) ge_str))))))
theorem k__law_writing (T : Tx K mg C) (O : OkB LD P w K mg base c C) : FnK P w K mg base c "_law_writing" 1 1 F__law_writing := by
  obtain ⟨f, fd, h1, h2, h3⟩ := T.d__law_writing
  exact fn_k (o__law_writing h1 T O) h1.kp h2 h3 rfl
def b__law_reading_0 : MS := (sSeq (sIf (mOr (mAsB (mOpV gNe (mBd (mSl (mVarB 3) (mPart (mOp1 gNeg (mC (.int 2)))) (mPart (mOp1 gNeg (mC (.int 1)))))) (mBd (mC (.str [120]))))) (mOr (mAsB (mOpV gNotIn (mBd (mSl (mVarB 3) (mPart (mOp1 gNeg (mC (.int 1)))) mPartN)) (mBd (mTup (mCons (mC (.str [48])) (mCons (mC (.str [49])) (mCons (mC (.str [50])) mNil))))))) (mAsB (mOpV gEq (mBd (mSl (mVarB 3) (mPart (mOp1 gNeg (mC (.int 1)))) mPartN)) (mVarB 2))))) (sRet (mC .non)) sNil) (sSeq (sSet 4 (mSl (mVarB 3) mPartN (mPart (mOp1 gNeg (mC (.int 2)))))) (sSeq (sIf (mOr (mAsB (mOpV gEq (mVarB 4) (mBd (mC (.str []))))) (mOr (mAsB (mOpV gEq (mBd (mOpV gIx (mVarB 4) (mBd (mC (.int 0))))) (mBd (mC (.str [48]))))) (mOr (mAsB (mOpV gNe (mBd (mStrM gStrip (mVar 4) (mC (.str [48, 49, 50, 51, 52, 53, 54, 55, 56, 57])))) (mBd (mC (.str []))))) (mAsB (mOp2 gGt (mCallV gLen (mVarB 4)) (mC (.int 4))))))) (sRet (mC .non)) sNil) (sSeq (sPar2 1 2 (mOp2 gAdd (mVar 1) (mOp2 gMul (mOpV gIx (mVarB 3) (mBd (mOp1 gNeg (mC (.int 1))))) (mCallV gInt (mVarB 4)))) (mOpV gIx (mVarB 3) (mBd (mOp1 gNeg (mC (.int 1)))))) (sIf (mAsB (mOp2 gGt (mCallV gLen (mVarB 1)) (mC (.int 1000)))) (sRet (mC .non)) sNil)))))
theorem b__law_reading_0_ap (ρ : DL.Env) (h : Cells) : b__law_reading_0 ρ h = (sSeq (sIf (mOr (mAsB (mOpV gNe (mBd (mSl (mVarB 3) (mPart (mOp1 gNeg (mC (.int 2)))) (mPart (mOp1 gNeg (mC (.int 1)))))) (mBd (mC (.str [120]))))) (mOr (mAsB (mOpV gNotIn (mBd (mSl (mVarB 3) (mPart (mOp1 gNeg (mC (.int 1)))) mPartN)) (mBd (mTup (mCons (mC (.str [48])) (mCons (mC (.str [49])) (mCons (mC (.str [50])) mNil))))))) (mAsB (mOpV gEq (mBd (mSl (mVarB 3) (mPart (mOp1 gNeg (mC (.int 1)))) mPartN)) (mVarB 2))))) (sRet (mC .non)) sNil) (sSeq (sSet 4 (mSl (mVarB 3) mPartN (mPart (mOp1 gNeg (mC (.int 2)))))) (sSeq (sIf (mOr (mAsB (mOpV gEq (mVarB 4) (mBd (mC (.str []))))) (mOr (mAsB (mOpV gEq (mBd (mOpV gIx (mVarB 4) (mBd (mC (.int 0))))) (mBd (mC (.str [48]))))) (mOr (mAsB (mOpV gNe (mBd (mStrM gStrip (mVar 4) (mC (.str [48, 49, 50, 51, 52, 53, 54, 55, 56, 57])))) (mBd (mC (.str []))))) (mAsB (mOp2 gGt (mCallV gLen (mVarB 4)) (mC (.int 4))))))) (sRet (mC .non)) sNil) (sSeq (sPar2 1 2 (mOp2 gAdd (mVar 1) (mOp2 gMul (mOpV gIx (mVarB 3) (mBd (mOp1 gNeg (mC (.int 1))))) (mCallV gInt (mVarB 4)))) (mOpV gIx (mVarB 3) (mBd (mOp1 gNeg (mC (.int 1)))))) (sIf (mAsB (mOp2 gGt (mCallV gLen (mVarB 1)) (mC (.int 1000)))) (sRet (mC .non)) sNil))))) ρ h := id rfl
def m__law_reading : MS := (sSeq (sIf (mAsB (mOpV gEq (mVarB 0) (mBd (mC (.str [110, 111, 110, 101]))))) (sRet (mC (.str []))) sNil) (sSeq (sAsg (tgT 2 (tgCons (tgN 1) (tgCons (tgN 2) tgNil))) (mTup (mCons (mC (.str [])) (mCons (mC (.str [])) mNil)))) (sSeq (sFor (mIt itAny (mStrM gSplit (mVar 0) (mC (.str [32])))) (tgN 3) b__law_reading_0) (sRet (mVar 1)))))
def F__law_reading : FS := mDef 5 m__law_reading
theorem F__law_reading_ap (x0 : D) (h : Cells) : F__law_reading [x0] h = SO.res (m__law_reading [some (.val x0), none, none, none, none] h) := by
  show mDef _ _ _ _ = _
  unfold mDef
  simp only [List.map, List.length_cons, List.length_nil, List.replicate, Nat.reduceAdd, Nat.reduceSub, List.cons_append, List.nil_append]
  generalize m__law_reading _ h = o
  cases o <;> rfl
theorem o__law_reading {f : Addr} {fd : FuncData} (h1 : Fun K "_law_reading" "_law_reading" s__law_reading f fd) (T : Tx K mg C) (O : OkB LD P w K mg base c C) : FnOk P w K mg base (L2N.CX P w) 1 f fd ["text"] (spD c 1 F__law_reading) := by
  have hK := O.hk.symm
  have hn := O.hn
  exact fn_ok h1 sc__law_reading rfl fun cdv A outer s H E hr => (gss_cons (gs_if (gt_cmpV (og_eq hK (hu64 hr)) (gb_var (i := 0)) (gb_ge ge_str)) (gss_one (gs_ret ge_str)) gss_nil)
  (gss_cons (gs_asg (ge_tup (ga_cons ge_str (ga_cons ge_str ga_nil))) (gg_tup hK rfl (ggs_cons (gg_name (i := 1) sc__law_reading.nd) (ggs_cons (gg_name (i := 2) sc__law_reading.nd) ggs_nil))))
  (gss_cons (gs_for rfl (passes_of rfl) (gi_any hK (ge_split (ge_var (i := 0)) ge_str (fun h1 h2 => pe_split h1 h2))) (gg_name (i := 3) sc__law_reading.nd) (gss_cons (gs_if (gw_pt (gw_or (gt_cmpV (og_ne hK (hu64 hr)) (gb_ge (ge_sl hK (gb_var (i := 3)) (go_some (ge_un og_neg ge_int)) (go_some (ge_un og_neg ge_int)))) (gb_ge ge_str)) (gw_or (gt_cmpV (og_notIn hK (hu65 hr)) (gb_ge (ge_sl hK (gb_var (i := 3)) (go_some (ge_un og_neg ge_int)) go_none)) (gb_ge (ge_tup (ga_cons ge_str (ga_cons ge_str (ga_cons ge_str ga_nil)))))) (gw_or1 (gt_cmpV (og_eq hK (hu64 hr)) (gb_ge (ge_sl hK (gb_var (i := 3)) (go_some (ge_un og_neg ge_int)) go_none)) (gb_var (i := 2))))))) (gss_one (gs_ret ge_non)) gss_nil)
  (gss_cons (gs_set (i := 4) (ge_sl hK (gb_var (i := 3)) go_none (go_some (ge_un og_neg ge_int))) sc__law_reading.nd)
  (gss_cons (gs_if (gw_pt (gw_or (gt_cmpV (og_eq hK (hu64 hr)) (gb_var (i := 4)) (gb_ge ge_str)) (gw_or (gt_cmpV (og_eq hK (hu64 hr)) (gb_ge (ge_ix hK (gb_var (i := 4)) (gb_ge ge_int))) (gb_ge ge_str)) (gw_or (gt_cmpV (og_ne hK (hu64 hr)) (gb_ge (ge_strip (ge_var (i := 4)) ge_str)) (gb_ge ge_str)) (gw_or1 (gt_cmp og_gt (ge_callB1 (cg_len hK) T.n_len (gb_var (i := 4))) ge_int)))))) (gss_one (gs_ret ge_non)) gss_nil)
  (gss_cons (gs_par2 (i := 1) (j := 2) rfl (ge_op (og_add hK) (ge_var (i := 1)) (ge_op (og_mul hK) (ge_ix hK (gb_var (i := 3)) (gb_ge (ge_un og_neg ge_int))) (ge_callTy1 cg_int T.n_int (gb_var (i := 4))))) (ge_ix hK (gb_var (i := 3)) (gb_ge (ge_un og_neg ge_int))) sc__law_reading.nd)
  (gss_one (gs_if (gt_cmp og_gt (ge_callB1 (cg_len hK) T.n_len (gb_var (i := 1))) ge_int) (gss_one (gs_ret ge_non)) gss_nil)))))))
  (gss_one (gs_ret (ge_var (i := 1)))))))
theorem k__law_reading (T : Tx K mg C) (O : OkB LD P w K mg base c C) : FnK P w K mg base c "_law_reading" 1 1 F__law_reading := by
  obtain ⟨f, fd, h1, h2, h3⟩ := T.d__law_reading
  exact fn_k (o__law_reading h1 T O) h1.kp h2 h3 rfl
def m__law_bent : MS := (sSeq (sPar2S 2 3 (mFn F__law_pick (mCons (mVar 0) (mCons (mOp2 gAdd (mCallV gLen (mVarB 1)) (mC (.int 1))) mNil))) (mVar 1) (mC (.str [32]))) (sSeq (sPar2 4 5 (mFn F__law_pick (mCons (mVar 0) (mCons (mCallV gLen (mVarB 3)) mNil))) (mFn F__law_pick (mCons (mVar 0) (mCons (mC (.int 5)) mNil)))) (sSeq (sIf (mAsB (mOpV gEq (mVarB 5) (mBd (mC (.int 0))))) (sRet (mOp2 gAdd (mOp2 gAdd (mSl (mVarB 1) mPartN (mPart (mVar 2))) (mFn F__law_one (mCons (mVar 0) (mCons (mLst (mCons (mC (.str [32])) (mCons (mC (.str [49])) (mCons (mC (.str [120])) (mCons (mC (.str [48])) (mCons (mC (.str [50])) (mCons (mC (.str [51])) (mCons (mC (.str [10])) (mCons (mC (.str [45])) mNil))))))))) mNil)))) (mSl (mVarB 1) (mPart (mVar 2)) mPartN))) sNil) (sSeq (sIf (mAsB (mOpV gEq (mVarB 5) (mBd (mC (.int 1))))) (sRet (mOp2 gAdd (mSl (mVarB 1) mPartN (mPart (mVar 2))) (mSl (mVarB 1) (mPart (mOp2 gAdd (mVar 2) (mC (.int 1)))) mPartN))) sNil) (sSeq (sIf (mAsB (mOpV gEq (mVarB 5) (mBd (mC (.int 2))))) (sRet (mJoin (mC (.str [32])) (mOp2 gAdd (mSl (mVarB 3) mPartN (mPart (mVar 4))) (mSl (mVarB 3) (mPart (mOp2 gAdd (mVar 4) (mC (.int 1)))) mPartN)))) sNil) (sSeq (sIf (mAsB (mOpV gEq (mVarB 5) (mBd (mC (.int 3))))) (sSeq (sSet 6 (mLst (mCons (mC (.str [49, 120, 48])) (mCons (mC (.str [50, 120, 49])) (mCons (mC (.str [48, 120, 50])) (mCons (mC (.str [48, 49, 120, 49])) (mCons (mC (.str [51, 120, 51])) (mCons (mC (.str [120, 49])) (mCons (mC (.str [49, 120])) (mCons (mC (.str [110, 111, 110, 101])) (mCons (mC (.str [])) (mCons (mC (.str [57, 57, 57, 120, 50])) mNil)))))))))))) (sSeq (sOwnSet 3 (mVar 4) (mFn F__law_one (mCons (mVar 0) (mCons (mVar 6) mNil)))) (sFrz 3 (sRet (mJoin (mC (.str [32])) (mVar 3)))))) sNil) (sRet (mJoin (mC (.str [32])) (mCallV gRev2 (mVarB 3))))))))))
def F__law_bent : FS := mDef 7 m__law_bent
theorem F__law_bent_ap (x0 x1 : D) (h : Cells) : F__law_bent [x0, x1] h = SO.res (m__law_bent [some (.val x0), some (.val x1), none, none, none, none, none] h) := by
  show mDef _ _ _ _ = _
  unfold mDef
  simp only [List.map, List.length_cons, List.length_nil, List.replicate, Nat.reduceAdd, Nat.reduceSub, List.cons_append, List.nil_append]
  generalize m__law_bent _ h = o
  cases o <;> rfl
theorem o__law_bent {f : Addr} {fd : FuncData} (h1 : Fun K "_law_bent" "_law_bent" s__law_bent f fd) (T : Tx K mg C) (O : OkB LD P w K mg base c C) : FnOk P w K mg base (L2N.CX P w) 3 f fd ["deck", "text"] (spD c 2 F__law_bent) := by
  have hK := O.hk.symm
  have hn := O.hn
  exact fn_ok h1 sc__law_bent rfl fun cdv A outer s H E hr => (gss_cons (gs_par2S (i := 2) (j := 3) rfl (ge_call (k__law_pick T O) (hr.mono (by decide)) (L2N.takes_of rfl rfl rfl rfl) (ga_cons (ge_var (i := 0)) (ga_cons (ge_op (og_add hK) (ge_callB1 (cg_len hK) T.n_len (gb_var (i := 1))) ge_int) ga_nil)) (hlen := (len_cons (len_cons (fun _ _ _ _ e => len_nil e))))) (ge_var (i := 1)) ge_str (fun h1 h2 => pe_split h1 h2) sc__law_bent.nd)
  (gss_cons (gs_par2 (i := 4) (j := 5) rfl (ge_call (k__law_pick T O) (hr.mono (by decide)) (L2N.takes_of rfl rfl rfl rfl) (ga_cons (ge_var (i := 0)) (ga_cons (ge_callB1 (cg_len hK) T.n_len (gb_var (i := 3))) ga_nil)) (hlen := (len_cons (len_cons (fun _ _ _ _ e => len_nil e))))) (ge_call (k__law_pick T O) (hr.mono (by decide)) (L2N.takes_of rfl rfl rfl rfl) (ga_cons (ge_var (i := 0)) (ga_cons ge_int ga_nil)) (hlen := (len_cons (len_cons (fun _ _ _ _ e => len_nil e))))) sc__law_bent.nd)
  (gss_cons (gs_if (gt_cmpV (og_eq hK (hu64 hr)) (gb_var (i := 5)) (gb_ge ge_int)) (gss_one (gs_ret (ge_op (og_add hK) (ge_op (og_add hK) (ge_sl hK (gb_var (i := 1)) go_none (go_some (ge_var (i := 2)))) (ge_call (k__law_one T O) (hr.mono (by decide)) (L2N.takes_of rfl rfl rfl rfl) (ga_cons (ge_var (i := 0)) (ga_cons (ge_lst (ga_cons ge_str (ga_cons ge_str (ga_cons ge_str (ga_cons ge_str (ga_cons ge_str (ga_cons ge_str (ga_cons ge_str (ga_cons ge_str ga_nil))))))))) ga_nil)) (hlen := (len_cons (len_cons (fun _ _ _ _ e => len_nil e)))))) (ge_sl hK (gb_var (i := 1)) (go_some (ge_var (i := 2))) go_none)))) gss_nil)
  (gss_cons (gs_if (gt_cmpV (og_eq hK (hu64 hr)) (gb_var (i := 5)) (gb_ge ge_int)) (gss_one (gs_ret (ge_op (og_add hK) (ge_sl hK (gb_var (i := 1)) go_none (go_some (ge_var (i := 2)))) (ge_sl hK (gb_var (i := 1)) (go_some (ge_op (og_add hK) (ge_var (i := 2)) ge_int)) go_none)))) gss_nil)
  (gss_cons (gs_if (gt_cmpV (og_eq hK (hu64 hr)) (gb_var (i := 5)) (gb_ge ge_int)) (gss_one (gs_ret (ge_join hK ge_str (ge_op (og_add hK) (ge_sl hK (gb_var (i := 3)) go_none (go_some (ge_var (i := 4)))) (ge_sl hK (gb_var (i := 3)) (go_some (ge_op (og_add hK) (ge_var (i := 4)) ge_int)) go_none)) (fun h1 h2 => pe_join h1 h2)))) gss_nil)
  (gss_cons (gs_if (gt_cmpV (og_eq hK (hu64 hr)) (gb_var (i := 5)) (gb_ge ge_int)) (gss_cons (gs_set (i := 6) (ge_lst (ga_cons ge_str (ga_cons ge_str (ga_cons ge_str (ga_cons ge_str (ga_cons ge_str (ga_cons ge_str (ga_cons ge_str (ga_cons ge_str (ga_cons ge_str (ga_cons ge_str ga_nil))))))))))) sc__law_bent.nd)
  (gss_cons (gs_ownSet (i := 3) (ge_var (i := 4)) (ge_call (k__law_one T O) (hr.mono (by decide)) (L2N.takes_of rfl rfl rfl rfl) (ga_cons (ge_var (i := 0)) (ga_cons (ge_var (i := 6)) ga_nil)) (hlen := (len_cons (len_cons (fun _ _ _ _ e => len_nil e))))))
  (gss_frz 3 (gss_one (gs_ret (ge_join hK ge_str (ge_var (i := 3)) (fun h1 h2 => pe_join h1 h2))))))) gss_nil)
  (gss_one (gs_ret (ge_join hK ge_str (ge_rev2 hK (gb_var (i := 3))) (fun h1 h2 => pe_join h1 h2))))))))))
theorem k__law_bent (T : Tx K mg C) (O : OkB LD P w K mg base c C) : FnK P w K mg base c "_law_bent" 3 2 F__law_bent := by
  obtain ⟨f, fd, h1, h2, h3⟩ := T.d__law_bent
  exact fn_k (o__law_bent h1 T O) h1.kp h2 h3 rfl
def b_law_0 : MS := (sSeq (sSet 10 (mFn F__law_reading (mCons (mVar 9) mNil))) (sSeq (sSet 10 (mIf (mAsB (mOp2 gIsNot (mVar 10) (mC .non))) (mTup (mCons (mC (.str [116, 111, 108, 100])) (mCons (mVar 10) mNil))) (mC (.str [116, 101, 120, 116, 32, 43])))) (sIf (mNot (mTru (mFn (F__law_same 7) (mCons (mTry2 (mFn F_read_standing (mCons (mVar 9) mNil))) (mCons (mVar 10) mNil))))) (sRet (mC (.bl false))) sNil)))
theorem b_law_0_ap (ρ : DL.Env) (h : Cells) : b_law_0 ρ h = (sSeq (sSet 10 (mFn F__law_reading (mCons (mVar 9) mNil))) (sSeq (sSet 10 (mIf (mAsB (mOp2 gIsNot (mVar 10) (mC .non))) (mTup (mCons (mC (.str [116, 111, 108, 100])) (mCons (mVar 10) mNil))) (mC (.str [116, 101, 120, 116, 32, 43])))) (sIf (mNot (mTru (mFn (F__law_same 7) (mCons (mTry2 (mFn F_read_standing (mCons (mVar 9) mNil))) (mCons (mVar 10) mNil))))) (sRet (mC (.bl false))) sNil))) ρ h := id rfl
def b_law_1 : MS := (sSeq (sSet 8 (mFn F__law_bent (mCons (mVar 2) (mCons (mVar 5) mNil)))) (sFor (mIt itAny (mTup (mCons (mVar 8) (mCons (mFn F__law_bent (mCons (mVar 2) (mCons (mVar 8) mNil))) mNil)))) (tgN 9) b_law_0))
theorem b_law_1_ap (ρ : DL.Env) (h : Cells) : b_law_1 ρ h = (sSeq (sSet 8 (mFn F__law_bent (mCons (mVar 2) (mCons (mVar 5) mNil)))) (sFor (mIt itAny (mTup (mCons (mVar 8) (mCons (mFn F__law_bent (mCons (mVar 2) (mCons (mVar 8) mNil))) mNil)))) (tgN 9) b_law_0)) ρ h := id rfl
def b_law_2 : MS := (sSeq (sSet 4 (mFn F__law_standing (mCons (mVar 2) (mCons (mFn F__law_pick (mCons (mVar 2) (mCons (mC (.int 13)) mNil))) mNil)))) (sSeq (sSet 5 (mFn F__law_writing (mCons (mVar 4) mNil))) (sSeq (sSet 6 (mLst (mCons (mFn F_standing_text (mCons (mVar 4) mNil)) (mCons (mFn F_read_standing (mCons (mVar 5) mNil)) mNil)))) (sSeq (sSet 6 (mOp2 gAdd (mVar 6) (mLst (mCons (mProp 14 F_Rings_source (mCM 14 F_Rings_read (mCons (mVar 5) mNil))) (mCons (mStrO 14 F_Rings_str (mCM 14 F_Rings_read (mCons (mVar 5) mNil))) mNil))))) (sSeq (sIf (mNot (mTru (mFn (F__law_same 7) (mCons (mVar 6) (mCons (mLst (mCons (mVar 5) (mCons (mVar 4) (mCons (mVar 4) (mCons (mVar 5) mNil))))) mNil))))) (sRet (mC (.bl false))) sNil) (sFor (mItL itR1 (mCons (mC (.int 10)) mNil)) (tgN 7) b_law_1))))))
theorem b_law_2_ap (ρ : DL.Env) (h : Cells) : b_law_2 ρ h = (sSeq (sSet 4 (mFn F__law_standing (mCons (mVar 2) (mCons (mFn F__law_pick (mCons (mVar 2) (mCons (mC (.int 13)) mNil))) mNil)))) (sSeq (sSet 5 (mFn F__law_writing (mCons (mVar 4) mNil))) (sSeq (sSet 6 (mLst (mCons (mFn F_standing_text (mCons (mVar 4) mNil)) (mCons (mFn F_read_standing (mCons (mVar 5) mNil)) mNil)))) (sSeq (sSet 6 (mOp2 gAdd (mVar 6) (mLst (mCons (mProp 14 F_Rings_source (mCM 14 F_Rings_read (mCons (mVar 5) mNil))) (mCons (mStrO 14 F_Rings_str (mCM 14 F_Rings_read (mCons (mVar 5) mNil))) mNil))))) (sSeq (sIf (mNot (mTru (mFn (F__law_same 7) (mCons (mVar 6) (mCons (mLst (mCons (mVar 5) (mCons (mVar 4) (mCons (mVar 4) (mCons (mVar 5) mNil))))) mNil))))) (sRet (mC (.bl false))) sNil) (sFor (mItL itR1 (mCons (mC (.int 10)) mNil)) (tgN 7) b_law_1)))))) ρ h := id rfl
def b_law_3 : MS := (sSeq (sIf (mAsB (mOpV gNe (mBd (mTry2 (mFn F_read_standing (mCons (mVar 11) mNil)))) (mBd (mC (.str [116, 101, 120, 116, 32, 43]))))) (sRet (mC (.bl false))) sNil) (sIf (mAsB (mOpV gNe (mBd (mTry2 (mCM 14 F_Rings_read (mCons (mVar 11) mNil)))) (mBd (mC (.str [116, 101, 120, 116, 32, 43]))))) (sRet (mC (.bl false))) sNil))
theorem b_law_3_ap (ρ : DL.Env) (h : Cells) : b_law_3 ρ h = (sSeq (sIf (mAsB (mOpV gNe (mBd (mTry2 (mFn F_read_standing (mCons (mVar 11) mNil)))) (mBd (mC (.str [116, 101, 120, 116, 32, 43]))))) (sRet (mC (.bl false))) sNil) (sIf (mAsB (mOpV gNe (mBd (mTry2 (mCM 14 F_Rings_read (mCons (mVar 11) mNil)))) (mBd (mC (.str [116, 101, 120, 116, 32, 43]))))) (sRet (mC (.bl false))) sNil)) ρ h := id rfl
def b_law_4 : MS := (sSeq (sSet 2 (mFn F__law_deck (mCons (mVar 1) (mCons (mC (.int 9)) mNil)))) (sSeq (sFor (mItL itR1 (mCons (mC (.int 5)) mNil)) (tgN 3) b_law_2) (sSeq (sFor (mIt itAny (mLst (mCons (mC .non) (mCons (mC (.int 5)) (mCons (mTup (mCons (mVar 5) mNil)) (mCons (mC (.str [])) (mCons (mOp2 gAdd (mVar 5) (mC (.str [10]))) (mCons (mOp2 gAdd (mVar 5) (mC (.str [32]))) (mCons (mOp2 gAdd (mC (.str [32])) (mVar 5)) (mCons (mC (.str [78, 111, 110, 101])) (mCons (mC (.str [120])) (mCons (mC (.str [49, 32, 120, 48])) mNil)))))))))))) (tgN 11) b_law_3) (sIf (mAsB (mOpV gNe (mBd (mTry2 (mFn F_standing_text (mCons (mC (.str [51])) mNil)))) (mBd (mC (.str [115, 116, 97, 110, 100, 105, 110, 103, 32, 43]))))) (sRet (mC (.bl false))) sNil))))
theorem b_law_4_ap (ρ : DL.Env) (h : Cells) : b_law_4 ρ h = (sSeq (sSet 2 (mFn F__law_deck (mCons (mVar 1) (mCons (mC (.int 9)) mNil)))) (sSeq (sFor (mItL itR1 (mCons (mC (.int 5)) mNil)) (tgN 3) b_law_2) (sSeq (sFor (mIt itAny (mLst (mCons (mC .non) (mCons (mC (.int 5)) (mCons (mTup (mCons (mVar 5) mNil)) (mCons (mC (.str [])) (mCons (mOp2 gAdd (mVar 5) (mC (.str [10]))) (mCons (mOp2 gAdd (mVar 5) (mC (.str [32]))) (mCons (mOp2 gAdd (mC (.str [32])) (mVar 5)) (mCons (mC (.str [78, 111, 110, 101])) (mCons (mC (.str [120])) (mCons (mC (.str [49, 32, 120, 48])) mNil)))))))))))) (tgN 11) b_law_3) (sIf (mAsB (mOpV gNe (mBd (mTry2 (mFn F_standing_text (mCons (mC (.str [51])) mNil)))) (mBd (mC (.str [115, 116, 97, 110, 100, 105, 110, 103, 32, 43]))))) (sRet (mC (.bl false))) sNil)))) ρ h := id rfl
def m_law : MS := (sSeq (sFor (mIt itAny (mSl (mBd (mOp2 gAddK (mLst (mCons (mC (.int 0)) mNil)) (mVar 0))) mPartN (mPart (mC (.int 10))))) (tgN 1) b_law_4) (sSeq (sIf (mAsB (mOpV gNe (mBd (mFn F_standing_text (mCons (mC (.str [48, 49, 49, 48])) mNil))) (mBd (mC (.str [49, 120, 48, 32, 50, 120, 49, 32, 49, 120, 48]))))) (sRet (mC (.bl false))) sNil) (sSeq (sIf (mAsB (mOpV gNe (mBd (mFn F_standing_text (mCons (mOp2 gMul (mC (.str [48])) (mC (.int 1000))) mNil))) (mBd (mC (.str [49, 48, 48, 48, 120, 48]))))) (sRet (mC (.bl false))) sNil) (sSeq (sIf (mAsB (mOpV gNe (mBd (mFn F_standing_text (mCons (mC (.str [])) mNil))) (mBd (mC (.str [110, 111, 110, 101]))))) (sRet (mC (.bl false))) sNil) (sSeq (sIf (mAsB (mOpV gNe (mBd (mFn F_read_standing (mCons (mC (.str [50, 120, 49, 32, 49, 120, 48])) mNil))) (mBd (mC (.str [49, 49, 48]))))) (sRet (mC (.bl false))) sNil) (sSeq (sIf (mAsB (mOpV gNe (mBd (mFn F_read_standing (mCons (mC (.str [110, 111, 110, 101])) mNil))) (mBd (mC (.str []))))) (sRet (mC (.bl false))) sNil) (sSeq (sIf (mAsB (mOpV gNe (mBd (mSl (mBd (mFn F_read_standing (mCons (mC (.str [57, 57, 57, 120, 50, 32, 49, 120, 48])) mNil))) (mPart (mOp1 gNeg (mC (.int 2)))) mPartN)) (mBd (mC (.str [50, 48]))))) (sRet (mC (.bl false))) sNil) (sSeq (sSet 12 (mLst (mCons (mC (.str [49, 120, 48, 32, 49, 120, 48])) (mCons (mC (.str [48, 120, 49])) (mCons (mC (.str [48, 49, 120, 49])) (mCons (mC (.str [49, 120, 51])) (mCons (mC (.str [49, 48, 48, 48, 120, 48, 32, 49, 120, 49])) (mCons (mC (.str [49, 48, 48, 49, 120, 48])) (mCons (mC (.str [49, 120, 48, 32, 32, 49, 120, 49])) (mCons (mC (.str [49, 88, 48])) mNil)))))))))) (sSeq (sSet 12 (mOp2 gAdd (mVar 12) (mLst (mCons (mC (.str [110, 111, 110, 101, 32, 49, 120, 48])) (mCons (mC (.str [49, 120, 48, 32, 110, 111, 110, 101])) (mCons (mC (.str [43, 49, 120, 48])) mNil)))))) (sRet (mOpV gEq (mBd (mLcV (mIt itAny (mVar 12)) (tgN 11) (mAsB (mOpV gNe (mBd (mTry2 (mFn F_read_standing (mCons (mVar 11) mNil)))) (mBd (mC (.str [116, 101, 120, 116, 32, 43]))))) (mVar 11) [11])) (mBd (mLst mNil)))))))))))))
def F_law : FS := mDef 13 m_law
theorem F_law_ap (x0 : D) (h : Cells) : F_law [x0] h = SO.res (m_law [some (.val x0), none, none, none, none, none, none, none, none, none, none, none, none] h) := by
  show mDef _ _ _ _ = _
  unfold mDef
  simp only [List.map, List.length_cons, List.length_nil, List.replicate, Nat.reduceAdd, Nat.reduceSub, List.cons_append, List.nil_append]
  generalize m_law _ h = o
  cases o <;> rfl
theorem o_law {f : Addr} {fd : FuncData} (h1 : Fun K "law" "law" s_law f fd) (T : Tx K mg C) (O : OkB LD P w K mg base c C) (hm : mg "law" = some (.ref f)) : FnOk P w K mg base (L2N.CX P w) 9 f fd ["script"] (spD c 1 F_law) := by
  have hK := O.hk.symm
  have hn := O.hn
  have lt := O.lam "law" (by decide) f hm
  rw [show F_law = mDef (List.length (["script", "cell", "deck", "turn", "standing_so", "text", "told", "more", "bent", "one", "due", "odd", "some"] : List Str)) m_law from rfl]
  exact fn_okC (m := m_law) h1 sc_law rfl fun cdv A outer s H E hci hr => (gss_cons (gs_for rfl (passes_of rfl) (gi_any hK (ge_sl hK (gb_ge (ge_op (og_addK hK) (ge_lst (ga_cons ge_int ga_nil)) (ge_var (i := 0)))) go_none (go_some ge_int))) (gg_name (i := 1) sc_law.nd) (gss_cons (gs_set (i := 2) (ge_call (k__law_deck T O) (hr.mono (by decide)) (L2N.takes_of rfl rfl rfl rfl) (ga_cons (ge_var (i := 1)) (ga_cons ge_int ga_nil)) (hlen := (len_cons (len_cons (fun _ _ _ _ e => len_nil e))))) sc_law.nd)
  (gss_cons (gs_for rfl (passes_of rfl) (gi_range1 T.n_range (ga_cons ge_int ga_nil)) (gg_name (i := 3) sc_law.nd) (gss_cons (gs_set (i := 4) (ge_call (k__law_standing T O) (hr.mono (by decide)) (L2N.takes_of rfl rfl rfl rfl) (ga_cons (ge_var (i := 2)) (ga_cons (ge_call (k__law_pick T O) (hr.mono (by decide)) (L2N.takes_of rfl rfl rfl rfl) (ga_cons (ge_var (i := 2)) (ga_cons ge_int ga_nil)) (hlen := (len_cons (len_cons (fun _ _ _ _ e => len_nil e))))) ga_nil)) (hlen := (len_cons (len_cons (fun _ _ _ _ e => len_nil e))))) sc_law.nd)
  (gss_cons (gs_set (i := 5) (ge_call (k__law_writing T O) (hr.mono (by decide)) (L2N.takes_of rfl rfl rfl rfl) (ga_cons (ge_var (i := 4)) ga_nil) (hlen := (len_cons (fun _ _ _ _ e => len_nil e)))) sc_law.nd)
  (gss_cons (gs_set (i := 6) (ge_lst (ga_cons (ge_call (k_standing_text T O) (hr.mono (by decide)) (L2N.takes_of rfl rfl rfl rfl) (ga_cons (ge_var (i := 4)) ga_nil) (hlen := (len_cons (fun _ _ _ _ e => len_nil e)))) (ga_cons (ge_call (k_read_standing T O) (hr.mono (by decide)) (L2N.takes_of rfl rfl rfl rfl) (ga_cons (ge_var (i := 5)) ga_nil) (hlen := (len_cons (fun _ _ _ _ e => len_nil e)))) ga_nil))) sc_law.nd)
  (gss_cons (gs_set (i := 6) (ge_op (og_add hK) (ge_var (i := 6)) (ge_lst (ga_cons (gprop_Rings_source T O (hr.mono (by decide)) (gcm_Rings_read T O (hr.mono (by decide)) (L2N.takes_of rfl rfl rfl rfl) (ga_cons (ge_var (i := 5)) ga_nil) (len_cons (fun _ _ _ _ e => len_nil e)))) (ga_cons (gstr_Rings T O (hr.mono (by decide)) T.n_str (gcm_Rings_read T O (hr.mono (by decide)) (L2N.takes_of rfl rfl rfl rfl) (ga_cons (ge_var (i := 5)) ga_nil) (len_cons (fun _ _ _ _ e => len_nil e)))) ga_nil)))) sc_law.nd)
  (gss_cons (gs_if (gt_not (gt_val hK (ge_call (k__law_same T O 7) (hr.mono (by decide)) (L2N.takes_of rfl rfl rfl rfl) (ga_cons (ge_var (i := 6)) (ga_cons (ge_lst (ga_cons (ge_var (i := 5)) (ga_cons (ge_var (i := 4)) (ga_cons (ge_var (i := 4)) (ga_cons (ge_var (i := 5)) ga_nil))))) ga_nil)) (hlen := (len_cons (len_cons (fun _ _ _ _ e => len_nil e))))))) (gss_one (gs_ret ge_bl)) gss_nil)
  (gss_one (gs_for rfl (passes_of rfl) (gi_range1 T.n_range (ga_cons ge_int ga_nil)) (gg_name (i := 7) sc_law.nd) (gss_cons (gs_set (i := 8) (ge_call (k__law_bent T O) (hr.mono (by decide)) (L2N.takes_of rfl rfl rfl rfl) (ga_cons (ge_var (i := 2)) (ga_cons (ge_var (i := 5)) ga_nil)) (hlen := (len_cons (len_cons (fun _ _ _ _ e => len_nil e))))) sc_law.nd)
  (gss_one (gs_for rfl (passes_of rfl) (gi_any hK (ge_tup (ga_cons (ge_var (i := 8)) (ga_cons (ge_call (k__law_bent T O) (hr.mono (by decide)) (L2N.takes_of rfl rfl rfl rfl) (ga_cons (ge_var (i := 2)) (ga_cons (ge_var (i := 8)) ga_nil)) (hlen := (len_cons (len_cons (fun _ _ _ _ e => len_nil e))))) ga_nil)))) (gg_name (i := 9) sc_law.nd) (gss_cons (gs_set (i := 10) (ge_call (k__law_reading T O) (hr.mono (by decide)) (L2N.takes_of rfl rfl rfl rfl) (ga_cons (ge_var (i := 9)) ga_nil) (hlen := (len_cons (fun _ _ _ _ e => len_nil e)))) sc_law.nd)
  (gss_cons (gs_set (i := 10) (ge_ifExp (gt_cmp (og_isNot hn) (ge_var (i := 10)) ge_non) (ge_tup (ga_cons ge_str (ga_cons (ge_var (i := 10)) ga_nil))) ge_str) sc_law.nd)
  (gss_one (gs_if (gt_not (gt_val hK (ge_call (k__law_same T O 7) (hr.mono (by decide)) (L2N.takes_of rfl rfl rfl rfl) (ga_cons (ge_try2 (k2 := 3) O.hx13 (tryK T O) lt hci (L2N.takes_of rfl rfl rfl rfl) (hr.mono (by decide)) (by decide) (lamS_by (show lamSB (defScope s_law) _ = true from by decide +kernel)) (fun A outer s H E f2 c2 hr => (ge_call (k_read_standing T O) (hr.mono (by decide)) (L2N.takes_of rfl rfl rfl rfl) (ga_cons (ge_var (i := 9)) ga_nil) (hlen := (len_cons (fun _ _ _ _ e => len_nil e)))))) (ga_cons (ge_var (i := 10)) ga_nil)) (hlen := (len_cons (len_cons (fun _ _ _ _ e => len_nil e))))))) (gss_one (gs_ret ge_bl)) gss_nil)))))))))))))))
  (gss_cons (gs_for rfl (passes_of rfl) (gi_any hK (ge_lst (ga_cons ge_non (ga_cons ge_int (ga_cons (ge_tup (ga_cons (ge_var (i := 5)) ga_nil)) (ga_cons ge_str (ga_cons (ge_op (og_add hK) (ge_var (i := 5)) ge_str) (ga_cons (ge_op (og_add hK) (ge_var (i := 5)) ge_str) (ga_cons (ge_op (og_add hK) ge_str (ge_var (i := 5))) (ga_cons ge_str (ga_cons ge_str (ga_cons ge_str ga_nil)))))))))))) (gg_name (i := 11) sc_law.nd) (gss_cons (gs_if (gt_cmpV (og_ne hK (hu64 hr)) (gb_ge (ge_try2 (k2 := 3) O.hx13 (tryK T O) lt hci (L2N.takes_of rfl rfl rfl rfl) (hr.mono (by decide)) (by decide) (lamS_by (show lamSB (defScope s_law) _ = true from by decide +kernel)) (fun A outer s H E f2 c2 hr => (ge_call (k_read_standing T O) (hr.mono (by decide)) (L2N.takes_of rfl rfl rfl rfl) (ga_cons (ge_var (i := 11)) ga_nil) (hlen := (len_cons (fun _ _ _ _ e => len_nil e))))))) (gb_ge ge_str)) (gss_one (gs_ret ge_bl)) gss_nil)
  (gss_one (gs_if (gt_cmpV (og_ne hK (hu64 hr)) (gb_ge (ge_try2 (k2 := 5) O.hx13 (tryK T O) lt hci (L2N.takes_of rfl rfl rfl rfl) (hr.mono (by decide)) (by decide) (lamS_by (show lamSB (defScope s_law) _ = true from by decide +kernel)) (fun A outer s H E f2 c2 hr => (gcm_Rings_read T O (hr.mono (by decide)) (L2N.takes_of rfl rfl rfl rfl) (ga_cons (ge_var (i := 11)) ga_nil) (len_cons (fun _ _ _ _ e => len_nil e)))))) (gb_ge ge_str)) (gss_one (gs_ret ge_bl)) gss_nil))))
  (gss_one (gs_if (gt_cmpV (og_ne hK (hu64 hr)) (gb_ge (ge_try2 (k2 := 3) O.hx13 (tryK T O) lt hci (L2N.takes_of rfl rfl rfl rfl) (hr.mono (by decide)) (by decide) (lamS_by (show lamSB (defScope s_law) _ = true from by decide +kernel)) (fun A outer s H E f2 c2 hr => (ge_call (k_standing_text T O) (hr.mono (by decide)) (L2N.takes_of rfl rfl rfl rfl) (ga_cons ge_str ga_nil) (hlen := (len_cons (fun _ _ _ _ e => len_nil e))))))) (gb_ge ge_str)) (gss_one (gs_ret ge_bl)) gss_nil))))))
  (gss_cons (gs_if (gt_cmpV (og_ne hK (hu64 hr)) (gb_ge (ge_call (k_standing_text T O) (hr.mono (by decide)) (L2N.takes_of rfl rfl rfl rfl) (ga_cons ge_str ga_nil) (hlen := (len_cons (fun _ _ _ _ e => len_nil e))))) (gb_ge ge_str)) (gss_one (gs_ret ge_bl)) gss_nil)
  (gss_cons (gs_if (gt_cmpV (og_ne hK (hu64 hr)) (gb_ge (ge_call (k_standing_text T O) (hr.mono (by decide)) (L2N.takes_of rfl rfl rfl rfl) (ga_cons (ge_op (og_mul hK) ge_str ge_int) ga_nil) (hlen := (len_cons (fun _ _ _ _ e => len_nil e))))) (gb_ge ge_str)) (gss_one (gs_ret ge_bl)) gss_nil)
  (gss_cons (gs_if (gt_cmpV (og_ne hK (hu64 hr)) (gb_ge (ge_call (k_standing_text T O) (hr.mono (by decide)) (L2N.takes_of rfl rfl rfl rfl) (ga_cons ge_str ga_nil) (hlen := (len_cons (fun _ _ _ _ e => len_nil e))))) (gb_ge ge_str)) (gss_one (gs_ret ge_bl)) gss_nil)
  (gss_cons (gs_if (gt_cmpV (og_ne hK (hu64 hr)) (gb_ge (ge_call (k_read_standing T O) (hr.mono (by decide)) (L2N.takes_of rfl rfl rfl rfl) (ga_cons ge_str ga_nil) (hlen := (len_cons (fun _ _ _ _ e => len_nil e))))) (gb_ge ge_str)) (gss_one (gs_ret ge_bl)) gss_nil)
  (gss_cons (gs_if (gt_cmpV (og_ne hK (hu64 hr)) (gb_ge (ge_call (k_read_standing T O) (hr.mono (by decide)) (L2N.takes_of rfl rfl rfl rfl) (ga_cons ge_str ga_nil) (hlen := (len_cons (fun _ _ _ _ e => len_nil e))))) (gb_ge ge_str)) (gss_one (gs_ret ge_bl)) gss_nil)
  (gss_cons (gs_if (gt_cmpV (og_ne hK (hu64 hr)) (gb_ge (ge_sl hK (gb_ge (ge_call (k_read_standing T O) (hr.mono (by decide)) (L2N.takes_of rfl rfl rfl rfl) (ga_cons ge_str ga_nil) (hlen := (len_cons (fun _ _ _ _ e => len_nil e))))) (go_some (ge_un og_neg ge_int)) go_none)) (gb_ge ge_str)) (gss_one (gs_ret ge_bl)) gss_nil)
  (gss_cons (gs_set (i := 12) (ge_lst (ga_cons ge_str (ga_cons ge_str (ga_cons ge_str (ga_cons ge_str (ga_cons ge_str (ga_cons ge_str (ga_cons ge_str (ga_cons ge_str ga_nil))))))))) sc_law.nd)
  (gss_cons (gs_set (i := 12) (ge_op (og_add hK) (ge_var (i := 12)) (ge_lst (ga_cons ge_str (ga_cons ge_str (ga_cons ge_str ga_nil))))) sc_law.nd)
  (gss_one (gs_ret (ge_cmpV (og_eq hK (hu64 hr)) (gb_ge (ge_lc (own := [("odd", 11)]) rfl sc_law.nd (gi_any hK (ge_var (i := 12))) (show blkC ["script", "cell", "deck", "turn", "standing_so", "text", "told", "more", "bent", "one", "due", "odd", "some"] (defScope s_law) _ _ = true from by decide +kernel) (fun _ _ _ _ _ => (gg_name (i := 11) sc_law.nd)) (fun _ _ _ _ _ => (gts_one (gt_cmpV (og_ne hK (hu64 hr)) (gb_ge (ge_try2 (k2 := 3) O.hx13 (tryK T O) lt hci takesN0 (hr.mono (by decide)) (by decide) (lamS_by (by kernel_rfl)) (fun A outer s H E f2 c2 hr => (ge_call (k_read_standing T O) (hr.mono (by decide)) (L2N.takes_of rfl rfl rfl rfl) (ga_cons (ge_var (i := 11)) ga_nil) (hlen := (len_cons (fun _ _ _ _ e => len_nil e))))))) (gb_ge ge_str)))) (fun _ _ _ _ _ => (ge_var (i := 11))))) (gb_ge (ge_lst ga_nil))))))))))))))
theorem k_law (T : Tx K mg C) (O : OkB LD P w K mg base c C) : FnK P w K mg base c "law" 9 1 F_law := by
  obtain ⟨f, fd, h1, h2, h3⟩ := T.d_law
  exact fn_k (o_law h1 T O h2) h1.kp h2 h3 rfl
end

end LW

namespace LW
open PySem L2 PySem.Spec PyProof.Rows DL DH DM DE DQ Mth
/-! ### what the functions come to -/
def cod (x : List Nat) : List Nat := x.map (48 + ·)
abbrev std (x : List Nat) : D := .str (cod x)
def pst (x : List Nat) : D := .lst (x.map fun p => .int ((p : Nat) : Int))
theorem cod_len (x : List Nat) : (cod x).length = x.length := by simp [cod]
theorem le_big {n : Nat} (h : n ≤ 1000) : n ≤ big := by unfold big; omega
theorem isIn_post {p : Nat} (hp : p < 3) : gIn (.str [48 + p]) (.tup [.str [48], .str [49], .str [50]]) = some (.bl true) := by
  have c : p = 0 ∨ p = 1 ∨ p = 2 := by omega
  rcases c with rfl | rfl | rfl <;> rfl
theorem asBs_true {α : Type} : ∀ l : List α, asBs (l.map fun _ => .bl true) = some (l.map fun _ => true)
  | [] => rfl
  | _ :: l => by simp [asBs, asBs_true l]
theorem mem_cod {x : List Nat} (ok : Ok x) {d : D} (hd : d ∈ (cod x).map fun a => D.str [a]) : ∃ p, p < 3 ∧ d = .str [48 + p] := by
  simp only [cod, List.mem_map] at hd
  obtain ⟨_, ⟨p, hp, rfl⟩, rfl⟩ := hd
  exact ⟨p, ok p hp, rfl⟩
theorem int_0 : PySem.intText? ⟨#[48]⟩ = some 0 := by decide +kernel
theorem int_1 : PySem.intText? ⟨#[49]⟩ = some 1 := by decide +kernel
theorem int_2 : PySem.intText? ⟨#[50]⟩ = some 2 := by decide +kernel
theorem int_post {p : Nat} (hp : p < 3) : gInt (.str [48 + p]) = some (.int (p : Int)) := by
  have c : p = 0 ∨ p = 1 ∨ p = 2 := by omega
  rcases c with rfl | rfl | rfl <;> simp [gInt, int_0, int_1, int_2]
theorem cod_get {x : List Nat} {j p : Nat} (e : x[j]? = some p) : (cod x)[j]? = some (48 + p) := by
  simp [cod, e]
theorem cod_app (x y : List Nat) : cod (x ++ y) = cod x ++ cod y := by simp [cod]
theorem cod_drop (x : List Nat) (n : Nat) : (cod x).drop n = cod (x.drop n) := by simp [cod, List.map_drop]
theorem cod_take (x : List Nat) (n : Nat) : (cod x).take n = cod (x.take n) := by simp [cod, List.map_take]
theorem cod_inj {x y : List Nat} : cod x = cod y ↔ x = y := by
  constructor
  · intro h
    exact List.map_inj_right (fun a b e => by omega) |>.mp h
  · intro h; rw [h]

/-! ### standings of any kind -/
def isP (c : Nat) : Bool := decide (c ∈ [48, 49, 50])
theorem isIn_P (a : Nat) : gIn (.str [a]) (.tup [.str [48], .str [49], .str [50]]) = some (.bl (isP a)) := by
  show some (D.bl (inF (.str [a]) [.str [48], .str [49], .str [50]])) = _
  congr 2
  simp only [inF, eqF, List.any_cons, List.any_nil, Bool.or_false, isP]
  rw [Bool.eq_iff_iff]
  simp
  constructor <;> (rintro (h | h | h) <;> simp [h])
theorem asBs_map {α : Type} (f : α → Bool) : ∀ l : List α, asBs (l.map fun a => .bl (f a)) = some (l.map f)
  | [] => rfl
  | _ :: l => by simp [asBs, asBs_map f l]
theorem f_isv_str {s : List Nat} (hs : s.length ≤ big) (h : Cells) : F_is_standing_value [.str s] h = .ok (.bl (decide (s.length ≤ 1000) && s.all isP)) h := by
  rw [F_is_standing_value_ap]
  by_cases hl : s.length ≤ 1000
  · have hl' : (s.length : Int) ≤ 1000 := by omega
    simp [m_is_standing_value, gLen_str, hs, hl', hl]
    rw [lc_map (fun d => match d with | .str [c] => .bl (isP c) | _ => .non) _ _ (by simpa using hs) fun d hd => ?_]
    · simp only [List.nil_append, bind_ok, List.map_map, Function.comp_def, mNil_ap, mCons_ap, gAll, asBs_map, fin_some]
      simp [asBs_map, List.all_map, Function.comp_def]
    · simp only [List.mem_map] at hd
      obtain ⟨a, _, rfl⟩ := hd
      exact ⟨_, rfl, by simp [wipeE, isIn_P]⟩
  · have hl' : ¬ (s.length : Int) ≤ 1000 := by omega
    simp [m_is_standing_value, gLen_str, hs, hl', hl]
theorem f_isv_not {d : D} (hd : gIsi [d, .ty "str"] = some (.bl false)) (h : Cells) : F_is_standing_value [d] h = .ok (.bl false) h := by
  rw [F_is_standing_value_ap]
  simp [m_is_standing_value, hd]
theorem all_cod {x : List Nat} (ok : Mth.Ok x) : (cod x).all isP = true := by
  rw [List.all_eq_true]
  intro c hc
  simp only [cod, List.mem_map] at hc
  obtain ⟨p, hp, rfl⟩ := hc
  have := ok p hp
  simp [isP]
  omega
theorem f_is_standing_value {x : List Nat} (ok : Mth.Ok x) (hl : x.length ≤ 1000) (h : Cells) : F_is_standing_value [std x] h = .ok (.bl true) h := by
  rw [f_isv_str (by rw [cod_len]; exact le_big hl), all_cod ok, cod_len]
  simp [hl]
theorem f_need_standing {x : List Nat} (ok : Mth.Ok x) (hl : x.length ≤ 1000) (h : Cells) : F_need_standing [std x] h = .ok .non h := by
  rw [F_need_standing_ap]; simp [m_need_standing, f_is_standing_value ok hl]
theorem f_need_bad {d : D} {h : Cells} (hd : F_is_standing_value [d] h = .ok (.bl false) h) : F_need_standing [d] h = .exc ⟨0, none⟩ h := by
  rw [F_need_standing_ap]; simp [m_need_standing, hd]
/-! ### the law's own functions -/
def Dk (h : Cells) (n : Nat) (t : Nat) : Prop := ∃ a b t0 : Int, h[n]? = some (.lst [.int a, .int b, .int t0]) ∧ 0 ≤ b ∧ b < 2147483648 ∧ 0 ≤ t0 ∧ t0 ≤ t
theorem Dk.mono {h : Cells} {n t t' : Nat} (d : Dk h n t) (e : t ≤ t') : Dk h n t' := by
  obtain ⟨a, b, t0, h1, h2, h3, h4, h5⟩ := d
  exact ⟨a, b, t0, h1, h2, h3, h4, by omega⟩
theorem view_cel {h : Cells} {n : Nat} {ds : List D} (e : h[n]? = some (.lst ds)) : view h (.d (.cel n)) = some (.lst ds) := by
  show (match h[n]? with | some (.lst ds) => _ | some (.dic ks vs) => _ | _ => _) = _
  rw [e]
@[simp] theorem ix3_0 (a b c : D) : gIx (.lst [a, b, c]) (.int 0) = some a := gIx_lst (j := 0) rfl
@[simp] theorem ix3_1 (a b c : D) : gIx (.lst [a, b, c]) (.int 1) = some b := gIx_lst (j := 1) rfl
@[simp] theorem ix3_2 (a b c : D) : gIx (.lst [a, b, c]) (.int 2) = some c := gIx_lst (j := 2) rfl
theorem set3_0 {h : Cells} {n : Nat} {a b c : D} (e : h[n]? = some (.lst [a, b, c])) (d : D) : setC h (.cel n) (.int 0) d = some (h.set n (.lst [d, b, c])) := by
  have e2 : ixN 3 0 = some 0 := by decide
  simp [setC, e, e2]
theorem set3_2 {h : Cells} {n : Nat} {a b c : D} (e : h[n]? = some (.lst [a, b, c])) (d : D) : setC h (.cel n) (.int 2) d = some (h.set n (.lst [a, b, d])) := by
  have e2 : ixN 3 2 = some 2 := by decide
  simp [setC, e, e2]
theorem set_at {h : Cells} {n : Nat} {m m' : MO} (e : h[n]? = some m) : (h.set n m')[n]? = some m' := by
  have := (List.getElem?_eq_some_iff.mp e).1
  rw [List.getElem?_set_self this]
theorem gPow_ok {i : Int} {n : Nat} (h : i.natAbs < 2 ^ 64) (hn : n ≤ 1000000) : gPow (.int i) (.int (n : Int)) = some (.int (i ^ n)) := by
  show (if _ then _ else _) = _
  rw [if_pos ⟨by omega, by omega, h⟩]
  simp
theorem gMod_ok {i j : Int} (h : 0 < j) : gMod (.int i) (.int j) = some (.int (i % j)) := by
  show (if _ then _ else _) = _
  rw [if_pos h]
theorem gFdiv_ok {i j : Int} (h : 0 < j) (h2 : j < 1073741824) : gFdiv (.int i) (.int j) = some (.int (i / j)) := by
  show (if _ then _ else _) = _
  rw [if_pos ⟨h, h2⟩]
@[simp] theorem gInt_int (i : Int) : gInt (.int i) = some (.int i) := rfl
theorem f_deck (cell : Int) (t : Nat) (h : Cells) : Gets (F__law_deck [.int cell, .int t] h) fun d h' => ∃ n, d = .cel n ∧ Dk h' n t := by
  rw [F__law_deck_ap]
  have p1 : gPow (.int 10) (.int 18) = some (.int (10 ^ 18)) := gPow_ok (n := 18) (by decide) (by decide)
  have p2 : gMod (.int cell) (.int 2147483579) = some (.int (cell % 2147483579)) := gMod_ok (by decide)
  have hb : (3 : Nat) ≤ big := by decide
  have key : ∀ x, (h ++ [x])[h.length]? = some x := fun x => by simp
  have r1 : 0 ≤ cell % 2147483579 := Int.emod_nonneg _ (by decide)
  have r2 : cell % 2147483579 < 2147483579 := Int.emod_lt_of_pos _ (by decide)
  by_cases c : 1000000000000000000 ≤ cell
  · simp [m__law_deck, p1, p2, c, hb]
    exact ⟨_, _, _, key _, r1, by omega, by omega, Int.le_refl _⟩
  · simp [m__law_deck, p1, p2, c, hb]
    exact ⟨_, _, _, key _, r1, by omega, by omega, Int.le_refl _⟩
theorem f_pick {h : Cells} {n t : Nat} (d : Dk h n t) (ht : t < 1099511627776) {size : Nat} (hs : 0 < size) (hs2 : size < 1073741824) : Gets (F__law_pick [.cel n, .int size] h) fun r h' => Dk h' n (t + 1) ∧ ∃ k : Nat, r = .int k ∧ k < size := by
  rw [F__law_pick_ap]
  obtain ⟨a, b, t0, e, b1, b2, b3, b4⟩ := d
  have hsz : (0 : Int) < (size : Int) := by omega
  have hmod : ∀ i : Int, ∃ k : Nat, i % (size : Int) = (k : Int) ∧ k < size := fun i => by
    have h1 := Int.emod_nonneg i (show (size : Int) ≠ 0 by omega)
    have h2 := Int.emod_lt_of_pos i hsz
    exact ⟨(i % (size : Int)).toNat, by omega, by omega⟩
  by_cases c : 1 < a
  · simp [m__law_pick, view_cel e, c, gMod_ok hsz, gFdiv_ok (i := a) hsz (by omega), set3_0 e]
    refine ⟨⟨_, _, _, set_at e, b1, b2, b3, by omega⟩, ?_⟩
    obtain ⟨k, k1, k2⟩ := hmod a
    exact ⟨k, k1, k2⟩
  · have e2 : (h.set n (.lst [.int a, .int b, .int (t0 + 1)]))[n]? = some (.lst [.int a, .int b, .int (t0 + 1)]) := set_at e
    have m1 : gMul (.int 15485867) (.int (t0 + 1)) = some (.int (15485867 * (t0 + 1))) := gMul_l (by decide)
    have m2 : gMul (.int 7919) (.int (t0 + 1)) = some (.int (7919 * (t0 + 1))) := gMul_l (by decide)
    have p1 : gPow (.int (b + 15485867 * (t0 + 1))) (.int 5) = some (.int ((b + 15485867 * (t0 + 1)) ^ 5)) := gPow_ok (n := 5) (by omega) (by decide)
    generalize en : (b + 15485867 * (t0 + 1)) ^ 5 = z at p1
    have q1 : gMod (.int z) (.int 2147483647) = some (.int (z % 2147483647)) := gMod_ok (by decide)
    have r1 : 0 ≤ z % 2147483647 := Int.emod_nonneg _ (by decide)
    have r2 : z % 2147483647 < 2147483647 := Int.emod_lt_of_pos _ (by decide)
    generalize z % 2147483647 = u at q1 r1 r2
    have p2 : gPow (.int (u + 7919 * (t0 + 1))) (.int 3) = some (.int ((u + 7919 * (t0 + 1)) ^ 3)) := gPow_ok (n := 3) (by omega) (by decide)
    generalize (u + 7919 * (t0 + 1)) ^ 3 = y at p2
    have q2 : gMod (.int y) (.int 2147483629) = some (.int (y % 2147483629)) := gMod_ok (by decide)
    have q3 : gFdiv (.int (y % 2147483629)) (.int 32) = some (.int (y % 2147483629 / 32)) := gFdiv_ok (by decide) (by decide)
    simp [m__law_pick, view_cel e, c, set3_2 e, view_cel e2, m1, m2, p1, p2, q1, q2, q3, gMod_ok hsz]
    refine ⟨⟨_, _, _, e2, b1, b2, by omega, by omega⟩, ?_⟩
    obtain ⟨k, k1, k2⟩ := hmod (y % 2147483629 / 32)
    exact ⟨k, k1, k2⟩
theorem rep_str (k p : Nat) : rep (k : Int) [48 + p] = cod (List.replicate k p) := by
  simp [rep, cod]
theorem gMul_str {p k : Nat} (hk : k ≤ 1000) : gMul (.str [48 + p]) (.int (k : Int)) = some (.str (cod (List.replicate k p))) := by
  show (if _ then _ else _) = _
  rw [if_pos ⟨by omega, by simp; unfold big; omega⟩, rep_str]
theorem gStr_post {p : Nat} (hp : p < 3) : gStr (.int (p : Int)) = some (.str [48 + p]) := by
  show (if _ then _ else _) = _
  rw [if_pos ⟨by omega, by
    have : (2 : Nat) ^ 2 ≤ 2 ^ 1900 := Nat.pow_le_pow_right (by decide) (by decide)
    omega⟩, Int.toNat_natCast, TL.numL_lt (by omega)]
theorem gAdd_str {s t : List Nat} (h : s.length + t.length ≤ big) : DL.gAdd (.str s) (.str t) = some (.str (s ++ t)) := by
  show (if _ then _ else _) = _
  rw [if_pos h]
theorem Ok.nil : Ok [] := fun _ z => nomatch z
theorem Ok.app {x y : List Nat} (h : Ok x) (g : Ok y) : Ok (x ++ y) := fun p hp => (List.mem_append.mp hp).elim (h p) (g p)
theorem Ok.rep {n p : Nat} (h : p < 3) : Ok (List.replicate n p) := fun q hq => by rw [List.eq_of_mem_replicate hq]; exact h
theorem Ok.take {x : List Nat} (h : Ok x) (n : Nat) : Ok (x.take n) := fun p hp => h p (List.mem_of_mem_take hp)
theorem Ok.drop {x : List Nat} (h : Ok x) (n : Nat) : Ok (x.drop n) := fun p hp => h p (List.mem_of_mem_drop hp)
theorem asSs_map (x : List Nat) : asSs (x.map fun p => .str [48 + p]) = some (x.map fun p => [48 + p]) := by
  induction x with
  | nil => rfl
  | cons p x ih => simp [asSs, ih]
theorem joinL_one (x : List Nat) : TL.joinL [] (x.map fun p => [48 + p]) = cod x := by
  induction x with
  | nil => rfl
  | cons p x ih =>
    cases x with
    | nil => rfl
    | cons q r =>
      simp only [List.map_cons] at ih ⊢
      simp only [TL.joinL, ih, List.nil_append]
      rfl
theorem gJoin_ok {x : List Nat} (h : x.length ≤ 1000) : gJoin (.str []) (.lst (x.map fun p => .str [48 + p])) = some (.str (cod x)) := by
  show (match asSs _ with | some l => _ | none => _) = _
  rw [asSs_map]
  have : sumLen (x.map fun p => [48 + p]) = x.length := by
    unfold sumLen
    induction x with
    | nil => rfl
    | cons p x ih => simp at h ⊢; have := ih (by omega); simp at this; omega
  show (if _ then _ else _) = _
  rw [if_pos (by rw [this]; simp; unfold big; omega), joinL_one]
theorem str_pick {h : Cells} {n t : Nat} (d : Dk h n t) (ht : t < 1099511627776) : Gets (F__law_pick [.cel n, .int 3] h) fun r h' => Dk h' n (t + 1) ∧ ∃ k : Nat, r = .int k ∧ k < 3 := f_pick d ht (size := 3) (by decide) (by decide)
/-- many posts drawn -/
theorem drawn {n t : Nat} (ρ : DL.Env) (v : SV) (hv : ∀ d, (ρ.set 6 (some (.val d)))[0]? = some (some (.val (.cel n)))) (l : List D) (hl : l.length ≤ 1000) (h : Cells) (d : Dk h n t) (ht : t + l.length < 1099511627776) :
    Gets (mLoop (tgN 6) mTrue (mCallV gStr (mBd (mFn F__law_pick (mCons (mVar 0) (mCons (mC (.int 3)) mNil))))) ρ l [] h) fun r h' => Dk h' n (t + l.length) ∧ ∃ x : List Nat, r = x.map (fun p => D.str [48 + p]) ∧ Ok x ∧ x.length = l.length := by
  have := lc_gets (t := tgN 6) (tt := mTrue) (te := mCallV gStr (mBd (mFn F__law_pick (mCons (mVar 0) (mCons (mC (.int 3)) mNil))))) (ρ := ρ) (fun i acc h' => Dk h' n (t + i) ∧ i ≤ l.length ∧ ∃ x : List Nat, acc = x.map (fun p => D.str [48 + p]) ∧ Ok x ∧ x.length = i) l 0 (fun i d acc h' e ⟨d1, hi, x, ea, ok, el⟩ => ?_) [] h ⟨d, Nat.zero_le _, [], rfl, Ok.nil, rfl⟩
  · exact this.imp fun a h' ⟨d1, _, x, h1, h2, h3⟩ => ⟨by simpa using d1, x, h1, h2, by simpa using h3⟩
  · have hi2 : i < l.length := (List.getElem?_eq_some_iff.mp e).1
    refine ⟨_, rfl, ?_⟩
    obtain ⟨r, h2, e2, d2, k, rfl, hk⟩ := (str_pick d1 (by omega)).of
    simp [hv, e2, gStr_post hk]
    refine ⟨?_, by simpa [Nat.add_assoc, Nat.add_comm] using d2, by omega, x ++ [k], by simp [ea], Ok.app ok (fun q hq => by simp at hq; omega), by simp [el]⟩
    rw [ea, List.length_map, el]
    unfold big
    omega
theorem f_standing {h : Cells} {n t : Nat} (d : Dk h n t) (ht : t + 30 < 1099511627776) {many : Nat} (hm : many ≤ 1000) : Gets (F__law_standing [.cel n, .int many] h) fun r h' => Dk h' n (t + 30) ∧ ∃ x, r = std x ∧ Ok x ∧ x.length = many := by
  rw [F__law_standing_ap]
  refine SP.res ?_
  obtain ⟨r, h1, e1, d1, w, rfl, hw⟩ := (str_pick d (by omega)).of
  by_cases c : w = 0
  · subst c
    have e4 : itR1 [.int 4] = some (rngL 0 4) := itR1_nat (n := 4) (by decide)
    simp [m__law_standing, e1, e4]
    refine SP.nxt (SP.nxt (SP.imp (loop_sp (fun i ρ h' => Dk h' n (t + 1 + 2 * i) ∧ i ≤ 4 ∧ ∃ x z, ρ = [some (.val (.cel n)), some (.val (.int many)), some (.val (.int 0)), some (.val (std x)), z, none, none] ∧ Ok x ∧ x.length ≤ 1000 * i) (rngL 0 4) 0 ?_ _ h1 ⟨d1, by omega, [], _, rfl, Ok.nil, by simp⟩) ?_ fun d h' r => r))
    · rintro i q ρ h' e ⟨d1, hi, x, z, rfl, ok, hx⟩
      obtain ⟨hi4, rfl⟩ := rngL_get e
      rw [Nat.zero_add] at d1 hi hx ⊢
      refine ⟨_, rfl, ?_⟩
      obtain ⟨r, h2, e2, d2, k, rfl, hk⟩ := (str_pick d1 (by omega)).of
      obtain ⟨r, h3, e3, d3, l, rfl, hl⟩ := (f_pick d2 (by omega) (size := many + 1) (by omega) (by omega)).of
      have e3' : F__law_pick [.cel n, .int ((many : Int) + 1)] h2 = .ok (.int l) h3 := by
        rw [← e3]; rfl
      have hz : (cod x).length + (cod (List.replicate l k)).length ≤ big := by
        rw [cod_len, cod_len, List.length_replicate]
        unfold big
        omega
      simp [b__law_standing_0_ap, e2, gStr_post hk, e3', gMul_str (p := k) (k := l) (by omega), gAdd_str hz]
      refine ⟨by rw [show t + 1 + 2 * (i + 1) = t + 1 + 2 * i + 1 + 1 by omega]; exact d3, by omega, x ++ List.replicate l k, by rw [cod_app], Ok.app ok (Ok.rep hk), by simp; omega⟩
    · rintro ρ h' ⟨d1, hi, x, z, rfl, ok, hx⟩
      rw [rngL_len] at d1 hi hx
      have hz : (cod x).length + (cod (List.replicate many 0)).length ≤ big := by
        rw [cod_len, cod_len, List.length_replicate]
        unfold big
        omega
      have hz2 : (cod (x ++ List.replicate many 0)).length ≤ big := by rw [cod_app, List.length_append]; exact hz
      have g1 : gMul (.str [48]) (.int (many : Int)) = some (.str (cod (List.replicate many 0))) := gMul_str (p := 0) hm
      simp [g1, gAdd_str hz, ← cod_app, gSl_take hz2, cod_take]
      exact ⟨d1.mono (by omega), x ++ List.replicate many 0 |>.take many, rfl, Ok.take (Ok.app ok (Ok.rep (by decide))) _, by simp⟩
  · have c' : ¬ (w : Int) = 0 := by omega
    by_cases c2 : many < 30
    · have c3 : (many : Int) < 30 := by omega
      obtain ⟨r, h2, e2, d2, x, rfl, ok, hx⟩ := (drawn (n := n) [some (.val (.cel n)), some (.val (.int many)), some (.val (.int w)), some (.val (.str [])), none, none, none] (.val .non) (fun d => rfl) (rngL 0 many) (by rw [rngL_len]; exact hm) h1 d1 (by rw [rngL_len]; omega)).of
      rw [rngL_len] at d2 hx
      simp [m__law_standing, e1, c, c', c3, itR1_nat (le_big hm), wipeE, e2, gJoin_ok (show x.length ≤ 1000 by omega)]
      exact ⟨d2.mono (by omega), x, rfl, ok, hx⟩
    · have c3 : ¬ (many : Int) < 30 := by omega
      obtain ⟨r, h2, e2, d2, x, rfl, ok, hx⟩ := (drawn (n := n) [some (.val (.cel n)), some (.val (.int many)), some (.val (.int w)), some (.val (.str [])), none, none, none] (.val .non) (fun d => rfl) (rngL 0 17) (by rw [rngL_len]; omega) h1 d1 (by rw [rngL_len]; omega)).of
      rw [rngL_len] at d2 hx
      have e17 : itR1 [.int 17] = some (rngL 0 17) := itR1_nat (n := 17) (by decide)
      have g2 : gFdiv (.int (many : Int)) (.int 18) = some (.int ((many / 18 : Nat) : Int)) := by
        rw [gFdiv_ok (by decide) (by decide)]; rfl
      have hz : (cod x).length + ([48 + w] : List Nat).length ≤ big := by rw [cod_len]; simp; unfold big; omega
      have ew : cod x ++ [48 + w] = cod (x ++ [w]) := by simp [cod]
      have hr : rep (((many / 18 + 1 : Nat) : Int)) (cod (x ++ [w])) = cod ((List.replicate (many / 18 + 1) (x ++ [w])).flatten) := by
        unfold rep cod
        rw [Int.toNat_natCast, List.map_flatten, List.map_replicate]
      have hlen : ((List.replicate (many / 18 + 1) (x ++ [w])).flatten).length = (many / 18 + 1) * 18 := by
        simp [hx]
      have g3 : gMul (.str (cod (x ++ [w]))) (.int ((many : Int) / 18 + 1)) = some (.str (cod ((List.replicate (many / 18 + 1) (x ++ [w])).flatten))) := by
        rw [← hr, show (many : Int) / 18 + 1 = ((many / 18 + 1 : Nat) : Int) by omega]
        show (if _ then _ else _) = _
        rw [if_pos ⟨by omega, by rw [cod_len]; simp [hx]; unfold big; omega⟩]
      have hz2 : (cod ((List.replicate (many / 18 + 1) (x ++ [w])).flatten)).length ≤ big := by
        rw [cod_len, hlen]; unfold big; omega
      simp only [m__law_standing, sSeq_ap]
      simp [e1, c, c', c3, e17, wipeE, e2, gJoin_ok (show x.length ≤ 1000 by omega), gStr_post hw, gAdd_str hz, g2, ew]
      simp [g3, gSl_take hz2, cod_take]
      refine ⟨d2.mono (by omega), _, rfl, Ok.take (fun p hp => ?_) _, ?_⟩
      · simp at hp
        rcases hp with hp | rfl
        · exact ok p hp
        · exact hw
      · rw [List.length_take, hlen]; omega

/-! ### _law_same -/
def srt : D → Int
  | .bl _ => 1
  | .int _ => 2
  | .str _ => 3
  | .lst _ => 4
  | .tup _ => 5
  | .non => 6
  | .dic _ _ => 0
  | .cel _ => 0
  | .glb _ => 0
  | .ty _ => 0
  | .klst _ => 0
theorem f_sort {d : D} (hd : okD d = true) (h : Cells) : F__law_sort [d] h = .ok (.int (srt d)) h := by
  rw [F__law_sort_ap]
  cases d <;> first | (simp only [okD] at hd; cases hd; done) | simp [m__law_sort, gIsi, tyN, isKnown, subTy, srt]
theorem gEq_ll {l : List D} (hl : okL l = true) (dl : dpL l ≤ 63) : gEq (.lst l) (.lst []) = some (.bl l.isEmpty) := by
  rw [gEq_ok (by simp only [okD]; exact hl) (by simp [okD, okL]) (by simp only [dpD]; omega) (by simp [dpD, dpL])]
  simp [eqD, eqL_nil]
mutual
theorem eqD_refl : ∀ {d : D}, okD d = true → eqD d d = true
  | .non, _ => by simp [eqD]
  | .bl b, _ => by simp [eqD]
  | .int b, _ => by simp [eqD]
  | .str b, _ => by simp [eqD]
  | .lst l, h => by simp only [eqD]; exact eqL_refl (by simpa only [okD] using h)
  | .tup l, h => by simp only [eqD]; exact eqL_refl (by simpa only [okD] using h)
  | .dic _ _, h => by simp only [okD] at h; cases h
  | .cel _, h => by simp only [okD] at h; cases h
  | .glb _, h => by simp only [okD] at h; cases h
  | .ty _, h => by simp only [okD] at h; cases h
  | .klst _, h => by simp only [okD] at h; cases h
theorem eqL_refl : ∀ {l : List D}, okL l = true → eqL l l = true
  | [], _ => by simp [eqL]
  | a :: r, h => by
    simp only [okL, Bool.and_eq_true] at h
    simp only [eqL, eqD_refl h.1, eqL_refl h.2, Bool.and_self]
end
mutual
def szD : D → Bool
  | .lst l => decide (l.length ≤ big) && szL l
  | .tup l => decide (l.length ≤ big) && szL l
  | .non => true
  | .bl _ => true
  | .int _ => true
  | .str _ => true
  | .dic _ _ => true
  | .cel _ => true
  | .glb _ => true
  | .ty _ => true
  | .klst _ => true
def szL : List D → Bool
  | [] => true
  | a :: r => szD a && szL r
end
theorem szL_mem : ∀ {l : List D} {x : D}, szL l = true → x ∈ l → szD x = true
  | a :: r, x, h, m => by
    simp only [szL, Bool.and_eq_true] at h
    rcases List.mem_cons.mp m with rfl | m
    · exact h.1
    · exact szL_mem h.2 m
theorem gEq_nn : gEq .non .non = some (.bl true) := by rw [gEq_ok (by simp [okD]) (by simp [okD]) (by simp [dpD]) (by simp [dpD])]; simp [eqD]
theorem gEq_ee : gEq (.lst []) (.lst []) = some (.bl true) := gEq_ll (by simp [okL]) (by simp [dpL])
theorem f_same : ∀ (n : Nat) {d : D}, okD d = true → szD d = true → dpD d < n → n ≤ 60 → ∀ h : Cells, F__law_same n [d, d] h = .ok (.bl true) h
  | 0, d, _, _, hn, _, _ => by omega
  | n + 1, d, hd, hz, hn, hn2, h => by
    rw [F__law_same_ap]
    have deep : ∀ (ds : List D) (hl : okL ds = true) (hzl : szL ds = true) (hb : ds.length ≤ big) (hdp : dpL ds < n) (w : D) (hw : ∀ i x, ds[i]? = some x → gIx w (.int ((i : Nat) : Int)) = some x) (hv : ∀ h : Cells, view h (.d w) = some w),
        mLoop (tgT 2 (tgCons (tgN 2) (tgCons (tgN 3) tgNil))) (mNot (mTru (mFn (F__law_same n) (mCons (mVar 3) (mCons (mOpV gIx (mVarB 1) (mVarB 2)) mNil))))) (mVar 2) (wipeE [some (.val w), some (.val w), none, none] [2, 3]) (enumD 0 ds) [] h = .ok [] h := by
      intro ds hl hzl hb hdp w hw hv
      rw [lc_pure (fun _ => false) id _ _ (by simpa [enumD_len] using hb) fun d hd => ?_]
      · simp
      · obtain ⟨i, hi, e⟩ := List.mem_iff_getElem.mp hd
        have e' : (enumD 0 ds)[i]? = some d := by rw [List.getElem?_eq_getElem hi, e]
        rw [enumD_get] at e'
        cases ex : ds[i]? with
        | none => rw [ex] at e'; cases e'
        | some x =>
          rw [ex] at e'
          cases e'
          have hx := List.mem_of_getElem? ex
          have := f_same n (okL_mem hl hx) (szL_mem hzl hx) (by have := dpL_mem hx; omega) (by omega) h
          refine ⟨_, rfl, ?_⟩
          simp [wipeE, hv, hw i x ex, this]
    cases d <;> first | (simp only [okD] at hd; cases hd; done) | skip
    · simp [m__law_same, f_sort, hd, srt, gEq_nn]
    · simp [m__law_same, f_sort, hd, srt, eqD]
    · simp [m__law_same, f_sort, hd, srt, eqD]
    · simp [m__law_same, f_sort, hd, srt, eqD]
    · rename_i ds
      have hd' := hd
      simp only [okD] at hd'
      simp only [szD, Bool.and_eq_true, decide_eq_true_eq] at hz
      simp only [dpD] at hn
      have := deep ds hd' hz.2 hz.1 (by omega) (.tup ds) (fun i x e => gIx_tup e) (fun _ => rfl)
      simp [m__law_same, f_sort, hd, srt, itE, this, gEq_ee]
    · rename_i ds
      have hd' := hd
      simp only [okD] at hd'
      simp only [szD, Bool.and_eq_true, decide_eq_true_eq] at hz
      simp only [dpD] at hn
      have := deep ds hd' hz.2 hz.1 (by omega) (.lst ds) (fun i x e => gIx_lst e) (fun _ => rfl)
      simp [m__law_same, f_sort, hd, srt, itE, this, gEq_ee]
end LW

/-! Standings as text, plainly: runs, their text, its reading. -/
namespace RT
open PySem PySem.Spec PyProof.Rows L2
abbrev Rn := Nat × Nat
def cat (rs : List Rn) : List Nat := rs.flatMap fun r => List.replicate r.1 r.2
def Val : Option Nat → List Rn → Prop
  | _, [] => True
  | l, r :: rs => 1 ≤ r.1 ∧ l ≠ some r.2 ∧ Val (some r.2) rs
def wd (r : Rn) : List Nat := TL.numL r.1 ++ [120, 48 + r.2]
def nn : List Nat := [110, 111, 110, 101]
def txt (rs : List Rn) : List Nat := if rs = [] then nn else TL.joinL [32] (rs.map wd)
theorem cat_cons (r : Rn) (rs : List Rn) : cat (r :: rs) = List.replicate r.1 r.2 ++ cat rs := rfl
theorem Val.weak {l : Option Nat} {rs : List Rn} (h : Val l rs) : Val none rs := by
  cases rs with
  | nil => trivial
  | cons r rs => exact ⟨h.1, (fun z => nomatch z), h.2.2⟩
/-- what a run list with no such post ahead begins with -/
theorem head_ne {p : Nat} {rs : List Rn} (h : Val (some p) rs) : (cat rs).head? ≠ some p := by
  cases rs with
  | nil => simp [cat]
  | cons r rs =>
    obtain ⟨h1, h2, _⟩ := h
    rw [cat_cons]
    obtain ⟨c, hc⟩ : ∃ c, r.1 = c + 1 := ⟨r.1 - 1, by omega⟩
    rw [hc, List.replicate_succ]
    simp only [List.cons_append, List.head?_cons, ne_eq]
    intro z
    exact h2 z.symm
theorem uniq : ∀ {rs ts : List Rn} {l m : Option Nat}, Val l rs → Val m ts → cat rs = cat ts → rs = ts
  | [], [], _, _, _, _, _ => rfl
  | [], t :: ts, _, _, _, h, e => by
    obtain ⟨h1, _, _⟩ := h
    rw [cat_cons] at e
    obtain ⟨c, hc⟩ : ∃ c, t.1 = c + 1 := ⟨t.1 - 1, by omega⟩
    rw [hc, List.replicate_succ] at e
    cases e
  | r :: rs, [], _, _, h, _, e => by
    obtain ⟨h1, _, _⟩ := h
    rw [cat_cons] at e
    obtain ⟨c, hc⟩ : ∃ c, r.1 = c + 1 := ⟨r.1 - 1, by omega⟩
    rw [hc, List.replicate_succ] at e
    cases e
  | (c, p) :: rs, (d, q) :: ts, _, _, h, g, e => by
    obtain ⟨h1, _, h3⟩ := h
    obtain ⟨g1, _, g3⟩ := g
    simp only [cat_cons] at e h1 h3 g1 g3
    have key : ∀ (a b : Nat) (x y : List Nat), List.replicate a p ++ x = List.replicate b p ++ y → x.head? ≠ some p → y.head? ≠ some p → a = b ∧ x = y := fun a => by
      induction a with
      | zero =>
        intro b x y e hx hy
        cases b with
        | zero => exact ⟨rfl, by simpa using e⟩
        | succ b =>
          rw [List.replicate_succ] at e
          simp only [List.replicate_zero, List.nil_append, List.cons_append] at e
          rw [e] at hx
          simp at hx
      | succ a ih =>
        intro b x y e hx hy
        cases b with
        | zero =>
          rw [List.replicate_succ] at e
          simp only [List.replicate_zero, List.nil_append, List.cons_append] at e
          rw [← e] at hy
          simp at hy
        | succ b =>
          rw [List.replicate_succ, List.replicate_succ, List.cons_append, List.cons_append] at e
          injection e with _ e
          obtain ⟨h, k⟩ := ih b x y e hx hy
          exact ⟨by omega, k⟩
    have pq : p = q := by
      obtain ⟨c', rfl⟩ : ∃ c', c = c' + 1 := ⟨c - 1, by omega⟩
      obtain ⟨d', rfl⟩ : ∃ d', d = d' + 1 := ⟨d - 1, by omega⟩
      rw [List.replicate_succ, List.replicate_succ] at e
      injection e
    subst pq
    obtain ⟨e1, e2⟩ := key c d _ _ e (head_ne h3) (head_ne g3)
    rw [e1, uniq h3 g3 e2]
/-! ### texts taken apart -/
theorem wd_free {r : Rn} (h : r.2 < 3) : 32 ∉ wd r := by
  unfold wd
  intro z
  rcases List.mem_append.mp z with z | z
  · exact TL.numL_free (by omega) z
  · simp at z; omega
theorem spl_txt {rs : List Rn} (hne : rs ≠ []) (h : ∀ r ∈ rs, r.2 < 3) : TL.spl [32] 0 [] (txt rs) = rs.map wd := by
  unfold txt
  rw [if_neg hne]
  refine TL.spl_join (by simpa using hne) fun p hp => ?_
  obtain ⟨r, hr, rfl⟩ := List.mem_map.mp hp
  exact wd_free (h r hr)
theorem spl_wd {r : Rn} (h : r.2 < 3) : TL.spl [120] 0 [] (wd r) = [TL.numL r.1, [48 + r.2]] := by
  have e : wd r = TL.numL r.1 ++ ([120] ++ [48 + r.2]) := rfl
  rw [e, TL.spl_part1 (S := []) (TL.numL_free (by omega)), TL.spl_last1 (S := []) (by simp; omega)]
  simp
theorem pre_one (s c : Nat) (l : List Nat) : TL.pre [s] (c :: l) = decide (s = c) := by
  rw [Bool.eq_iff_iff, decide_eq_true_eq]
  cases l <;> simp [TL.pre] <;> exact ⟨fun h => h.symm, fun h => h.symm⟩
theorem join_spl (s : Nat) : ∀ (l acc : List Nat), TL.joinL [s] (TL.spl [s] 0 acc l) = acc ++ l
  | [], acc => by rw [TL.spl_nil]; simp [TL.joinL]
  | c :: l, acc => by
    by_cases h : s = c
    · subst h
      rw [TL.spl_hit (by rw [pre_one]; simp)]
      have ih := join_spl s l []
      have ne : TL.spl [s] 0 [] l ≠ [] := by
        cases l with
        | nil => rw [TL.spl_nil]; simp
        | cons d l =>
          intro z
          have : TL.joinL [s] (TL.spl [s] 0 [] (d :: l)) = TL.joinL [s] [] := by rw [z]
          rw [ih] at this
          simp [TL.joinL] at this
      show TL.joinL [s] (acc :: TL.spl [s] 0 [] l) = _
      cases hq : TL.spl [s] 0 [] l with
      | nil => exact absurd hq ne
      | cons a r =>
        rw [hq] at ih
        simp only [TL.joinL, ih]
        simp
    · rw [TL.spl_miss (by rw [pre_one]; simpa using h), join_spl s l (acc ++ [c])]
      simp
/-! ### numbers -/
theorem numL_pos {m : List Nat} (h : ∀ c ∈ m, 48 ≤ c ∧ c ≤ 57) : ∀ n : Nat, m.length = n → m ≠ [] → m.head? ≠ some 48 → TL.numL (NumText.digitsVal m) = m ∧ 1 ≤ NumText.digitsVal m := fun n => by
  induction n generalizing m with
  | zero => intro e ne; exact absurd (List.length_eq_zero_iff.mp e) ne
  | succ n ih =>
    intro e ne h0
    obtain ⟨l, d, rfl⟩ : ∃ l d, m = l ++ [d] := ⟨m.dropLast, m.getLast ne, (List.dropLast_concat_getLast ne).symm⟩
    have hd := h d (by simp)
    have ev : NumText.digitsVal (l ++ [d]) = 10 * NumText.digitsVal l + (d - 48) := by
      simp [NumText.digitsVal, List.foldl_append]
      try omega
    cases l with
    | nil =>
      have e0 : NumText.digitsVal ([] : List Nat) = 0 := rfl
      have d0 : d ≠ 48 := fun z => h0 (by simp [z])
      rw [ev, e0]
      refine ⟨?_, by omega⟩
      rw [TL.numL_lt (by omega)]
      simp
      omega
    | cons a l =>
      obtain ⟨i1, i2⟩ := ih (m := a :: l) (fun c hc => h c (List.mem_append_left _ hc)) (by simpa using e) (by simp) (by simpa using h0)
      rw [ev]
      refine ⟨?_, by omega⟩
      rw [TL.numL_step (by omega), show (10 * NumText.digitsVal (a :: l) + (d - 48)) / 10 = NumText.digitsVal (a :: l) by omega, i1, show 48 + (10 * NumText.digitsVal (a :: l) + (d - 48)) % 10 = d by omega]
theorem numL_head {n : Nat} (h : 1 ≤ n) : (TL.numL n).head? ≠ some 48 := by
  induction n using Nat.strongRecOn with
  | ind n ih =>
    by_cases c : n < 10
    · rw [TL.numL_lt c]; simp; omega
    · rw [TL.numL_step (by omega), List.head?_append]
      have := ih (n / 10) (by omega) (by omega)
      have ne := TL.numL_ne (n / 10)
      cases hq : TL.numL (n / 10) with
      | nil => exact absurd hq ne
      | cons a r => rw [hq] at this; simpa using this
def dig (c : Nat) : Bool := decide (48 ≤ c ∧ c ≤ 57)
/-- a word as a run -/
def prs (w : List Nat) : Option Rn := if 2 ≤ w.length then
    (let m := w.take (w.length - 2)
     if w.drop (w.length - 2) ∈ [[120, 48], [120, 49], [120, 50]] ∧ m ≠ [] ∧ m.head? ≠ some 48 ∧ m.all dig = true ∧ m.length ≤ 4 then some (NumText.digitsVal m, (w.drop (w.length - 1)).headD 0 - 48) else none)
  else none
theorem all_dig {m : List Nat} (h : m.all dig = true) : ∀ c ∈ m, 48 ≤ c ∧ c ≤ 57 := fun c hc => by
  have := List.all_eq_true.mp h c hc
  simpa [dig] using this
theorem prs_two (m : List Nat) (a b : Nat) : prs (m ++ [a, b]) = if [a, b] ∈ [[120, 48], [120, 49], [120, 50]] ∧ m ≠ [] ∧ m.head? ≠ some 48 ∧ m.all dig = true ∧ m.length ≤ 4 then some (NumText.digitsVal m, b - 48) else none := by
  unfold prs
  have e1 : (m ++ [a, b]).length - 2 = m.length := by simp
  have e2 : (m ++ [a, b]).length - 1 = m.length + 1 := by simp
  rw [if_pos (by simp), e1, e2]
  simp only [List.take_left', List.drop_left']
  have e3 : (m ++ [a, b]).drop (m.length + 1) = [b] := by
    rw [List.drop_append]
    simp
  rw [e3]
  rfl
theorem prs_some {w : List Nat} {r : Rn} (h : prs w = some r) : w = wd r ∧ 1 ≤ r.1 ∧ r.2 < 3 := by
  by_cases h2 : 2 ≤ w.length
  · obtain ⟨m, a, b, rfl⟩ : ∃ m a b, w = m ++ [a, b] := by
      refine ⟨w.take (w.length - 2), w[w.length - 2]'(by omega), w[w.length - 1]'(by omega), ?_⟩
      have e := List.take_append_drop (w.length - 2) w
      have e2 : w.drop (w.length - 2) = [w[w.length - 2]'(by omega), w[w.length - 1]'(by omega)] := by
        rw [List.drop_eq_getElem_cons (by omega)]
        congr 1
        have : w.length - 2 + 1 = w.length - 1 := by omega
        rw [this, List.drop_eq_getElem_cons (by omega)]
        congr 1
        rw [List.drop_eq_nil_of_le (by omega)]
      rw [← e2]; exact e.symm
    rw [prs_two] at h
    split at h
    · rename_i hc
      cases h
      obtain ⟨h1, h3, h4, h5, h6⟩ := hc
      obtain ⟨n1, n2⟩ := numL_pos (all_dig h5) _ rfl h3 h4
      simp only [List.mem_cons, List.not_mem_nil, or_false, List.cons.injEq, and_true] at h1
      refine ⟨?_, n2, by omega⟩
      unfold wd
      rw [n1]
      rcases h1 with ⟨rfl, rfl⟩ | ⟨rfl, rfl⟩ | ⟨rfl, rfl⟩ <;> rfl
    · cases h
  · unfold prs at h
    rw [if_neg h2] at h
    cases h
theorem prs_wd {r : Rn} (h1 : 1 ≤ r.1) (h2 : r.2 < 3) (h3 : r.1 < 10000) : prs (wd r) = some r := by
  unfold wd
  rw [prs_two, if_pos ?_]
  · rw [TL.numL_val]
    show some (r.1, 48 + r.2 - 48) = _
    rw [show 48 + r.2 - 48 = r.2 by omega]
  · refine ⟨?_, TL.numL_ne _, numL_head h1, ?_, TL.numL_len (by decide) h3⟩
    · have c : r.2 = 0 ∨ r.2 = 1 ∨ r.2 = 2 := by omega
      rcases c with c | c | c <;> rw [c] <;> simp
    · rw [List.all_eq_true]
      intro c hc
      have := TL.numL_digits r.1 c hc
      simpa [dig] using this
/-! ### the reading -/
def LR : List (List Nat) → List Nat → Option Nat → Option (List Nat)
  | [], acc, _ => some acc
  | w :: ws, acc, l => match prs w with
    | none => none
    | some r => if l = some r.2 then none else if 1000 < (acc ++ List.replicate r.1 r.2).length then none else LR ws (acc ++ List.replicate r.1 r.2) (some r.2)
def reading (s : List Nat) : Option (List Nat) := if s = nn then some [] else LR (TL.spl [32] 0 [] s) [] none
structure Good (rs : List Rn) : Prop where
  val : Val none rs
  po : ∀ r ∈ rs, r.2 < 3
  le : (cat rs).length ≤ 1000
theorem LR_some : ∀ {ws : List (List Nat)} {acc y : List Nat} {l : Option Nat}, LR ws acc l = some y → ∃ rs, ws = rs.map wd ∧ Val l rs ∧ (∀ r ∈ rs, r.2 < 3) ∧ y = acc ++ cat rs ∧ (rs ≠ [] → y.length ≤ 1000)
  | [], acc, y, l, h => by
    simp only [LR] at h
    cases h
    exact ⟨[], rfl, trivial, (fun _ z => nomatch z), by simp [cat], fun z => absurd rfl z⟩
  | w :: ws, acc, y, l, h => by
    simp only [LR] at h
    cases hp : prs w with
    | none => rw [hp] at h; cases h
    | some r =>
      rw [hp] at h
      simp only at h
      split at h
      · cases h
      · rename_i hl
        split at h
        · cases h
        · rename_i hlen
          obtain ⟨e1, e2, e3⟩ := prs_some hp
          obtain ⟨rs, i1, i2, i3, i4, i5⟩ := LR_some h
          refine ⟨r :: rs, by rw [List.map_cons, i1, e1], ⟨e2, hl, i2⟩, fun q hq => ?_, by rw [i4, cat_cons, List.append_assoc], fun _ => ?_⟩
          · rcases List.mem_cons.mp hq with rfl | hq
            · exact e3
            · exact i3 q hq
          · by_cases hr : rs = []
            · subst hr
              rw [i4]
              simp only [cat, List.flatMap_nil, List.append_nil]
              omega
            · exact i5 hr
theorem LR_rs : ∀ {rs : List Rn} {acc : List Nat} {l : Option Nat}, Val l rs → (∀ r ∈ rs, r.2 < 3) → (acc ++ cat rs).length ≤ 1000 → LR (rs.map wd) acc l = some (acc ++ cat rs)
  | [], acc, l, _, _, _ => by simp [LR, cat]
  | r :: rs, acc, l, h, hp, hl => by
    obtain ⟨h1, h2, h3⟩ := h
    rw [cat_cons, ← List.append_assoc] at hl ⊢
    have hl2 : (acc ++ List.replicate r.1 r.2).length ≤ 1000 := by
      rw [List.length_append] at hl
      omega
    have hr : r.1 ≤ 1000 := by
      rw [List.length_append, List.length_replicate] at hl2
      omega
    simp only [List.map_cons, LR, prs_wd h1 (hp r List.mem_cons_self) (by omega)]
    rw [if_neg h2, if_neg (by omega)]
    exact LR_rs h3 (fun q hq => hp q (List.mem_cons_of_mem _ hq)) hl
theorem txt_head {rs : List Rn} (hne : rs ≠ []) : ∃ c, (txt rs).head? = some c ∧ 48 ≤ c ∧ c ≤ 57 := by
  cases rs with
  | nil => exact absurd rfl hne
  | cons r rs =>
    have hd : ∃ c t, wd r = c :: t ∧ 48 ≤ c ∧ c ≤ 57 := by
      have ne := TL.numL_ne r.1
      unfold wd
      cases hq : TL.numL r.1 with
      | nil => exact absurd hq ne
      | cons a t =>
        have := TL.numL_digits r.1 a (by rw [hq]; exact List.mem_cons_self)
        exact ⟨a, _, rfl, this⟩
    obtain ⟨c, t, e, hc⟩ := hd
    refine ⟨c, ?_, hc⟩
    unfold txt
    rw [if_neg hne]
    cases rs with
    | nil => simp [TL.joinL, e]
    | cons q rs => simp [TL.joinL, e]
theorem txt_nn {rs : List Rn} (hne : rs ≠ []) : txt rs ≠ nn := fun z => by
  obtain ⟨c, h1, h2, h3⟩ := txt_head hne
  rw [z] at h1
  simp [nn] at h1
  omega
theorem read_txt {rs : List Rn} (g : Good rs) : reading (txt rs) = some (cat rs) := by
  unfold reading
  by_cases hne : rs = []
  · subst hne; rfl
  · rw [if_neg (txt_nn hne), spl_txt hne g.po, LR_rs g.val g.po (by simpa using g.le)]
    rfl
theorem read_some {s y : List Nat} (h : reading s = some y) : ∃ rs, Good rs ∧ s = txt rs ∧ y = cat rs := by
  unfold reading at h
  split at h
  · rename_i e
    cases h
    exact ⟨[], ⟨trivial, (fun _ z => nomatch z), by simp [cat]⟩, e, rfl⟩
  · obtain ⟨rs, h1, h2, h3, h4, h5⟩ := LR_some h
    have hj := join_spl 32 s []
    have ne : rs ≠ [] := fun z => by
      rw [h1, z] at hj
      simp only [List.map_nil, TL.joinL, List.nil_append] at hj
      have := congrArg List.length h1
      subst z
      rw [← hj] at this
      simp [TL.spl_nil] at this
    refine ⟨rs, ⟨h2, h3, by rw [← List.nil_append (cat rs), ← h4]; exact h5 ne⟩, ?_, by simpa using h4⟩
    unfold txt
    rw [if_neg ne, ← h1, hj]
    rfl
/-- the runs of a standing -/
def rl : List Nat → List Rn
  | [] => []
  | p :: x => match rl x with
    | [] => [(1, p)]
    | r :: rs => if r.2 = p then (r.1 + 1, p) :: rs else (1, p) :: r :: rs
theorem rl_cat : ∀ x : List Nat, cat (rl x) = x
  | [] => rfl
  | p :: x => by
    have ih := rl_cat x
    simp only [rl]
    cases h : rl x with
    | nil => rw [h] at ih; simp [cat] at ih ⊢; exact ih
    | cons r rs =>
      rw [h] at ih
      rw [cat_cons] at ih
      simp only
      split
      · rename_i e
        rw [cat_cons]
        show List.replicate (r.1 + 1) p ++ cat rs = _
        rw [List.replicate_succ, List.cons_append, ← e, ih]
      · rw [cat_cons, cat_cons]
        show List.replicate 1 p ++ _ = _
        rw [ih]
        rfl
theorem rl_val : ∀ x : List Nat, Val none (rl x)
  | [] => trivial
  | p :: x => by
    have ih := rl_val x
    simp only [rl]
    cases h : rl x with
    | nil => exact ⟨Nat.le_refl _, (fun z => nomatch z), trivial⟩
    | cons r rs =>
      rw [h] at ih
      obtain ⟨h1, _, h3⟩ := ih
      simp only
      split
      · rename_i e
        rw [e] at h3
        exact ⟨by show 1 ≤ r.1 + 1; omega, (fun z => nomatch z), h3⟩
      · rename_i e
        exact ⟨Nat.le_refl _, (fun z => nomatch z), h1, fun z => e (by injection z with z; exact z.symm), h3⟩
theorem rl_po {x : List Nat} (h : ∀ p ∈ x, p < 3) : ∀ r ∈ rl x, r.2 < 3 := by
  induction x with
  | nil => intro r hr; cases hr
  | cons p x ih =>
    have ih := ih fun q hq => h q (List.mem_cons_of_mem _ hq)
    have hp := h p List.mem_cons_self
    simp only [rl]
    cases hx : rl x with
    | nil => intro r hr; simp at hr; rw [hr]; exact hp
    | cons q qs =>
      rw [hx] at ih
      simp only
      split
      · intro r hr
        rcases List.mem_cons.mp hr with rfl | hr
        · exact hp
        · exact ih r (List.mem_cons_of_mem _ hr)
      · intro r hr
        rcases List.mem_cons.mp hr with rfl | hr
        · exact hp
        · exact ih r hr
theorem rl_good {x : List Nat} (h : ∀ p ∈ x, p < 3) (hl : x.length ≤ 1000) : Good (rl x) := ⟨rl_val x, rl_po h, by rw [rl_cat]; exact hl⟩
theorem rl_uniq {x : List Nat} {rs : List Rn} {l : Option Nat} (h : Val l rs) (e : cat rs = x) : rs = rl x := uniq h (rl_val x) (by rw [e, rl_cat])
/-- the text of a standing -/
def wr (x : List Nat) : List Nat := txt (rl x)
theorem read_wr {x : List Nat} (h : ∀ p ∈ x, p < 3) (hl : x.length ≤ 1000) : reading (wr x) = some x := by
  have := read_txt (rl_good h hl)
  rw [rl_cat] at this
  exact this
theorem read_back {s y : List Nat} (h : reading s = some y) : s = wr y ∧ (∀ p ∈ y, p < 3) ∧ y.length ≤ 1000 := by
  obtain ⟨rs, g, rfl, rfl⟩ := read_some h
  refine ⟨by unfold wr; rw [← rl_uniq g.val rfl], fun p hp => ?_, g.le⟩
  obtain ⟨r, hr, hp⟩ := List.mem_flatMap.mp hp
  rw [List.eq_of_mem_replicate hp]
  exact g.po r hr
end RT

namespace LW
open PySem L2 PySem.Spec PyProof.Rows DL DH DM DE DQ DB Mth
/-! ### a standing's text, as the program makes it -/
@[simp] theorem mCat_nil (acc : List Nat) (ρ : DL.Env) (h : Cells) : mCat [] acc ρ h = .ok (.str acc) h := id rfl
@[simp] theorem mCat_cons (m : M D) (r : List (M D)) (acc : List Nat) (ρ : DL.Env) (h : Cells) : mCat (m :: r) acc ρ h = (m ρ h).bind fun d h1 => match d with
    | .str s => if acc.length + s.length ≤ big then mCat r (acc ++ s) ρ h1 else .stuck
    | _ => .stuck := id rfl
theorem two_big : (10000 : Nat) < 2 ^ 1900 := Nat.lt_of_lt_of_le (show 10000 < 2 ^ 14 by decide) (Nat.pow_le_pow_right (by decide) (by decide))
theorem gFmt_nat {n : Nat} (h : n ≤ 10000) : gFmt (.int (n : Nat)) = some (.str (TL.numL n)) := by
  have := two_big
  show (if _ then _ else _) = _
  rw [if_pos ⟨by omega, by omega⟩, Int.toNat_natCast]
theorem gStr_nat {n : Nat} (h : n ≤ 10000) : gStr (.int (n : Nat)) = some (.str (TL.numL n)) := by
  have := two_big
  show (if _ then _ else _) = _
  rw [if_pos ⟨by omega, by omega⟩, Int.toNat_natCast]
theorem gFmt_str {s : List Nat} (h : s.length ≤ big) : gFmt (.str s) = some (.str s) := by
  show (if _ then _ else _) = _
  rw [if_pos h]
theorem num_len {n : Nat} (h : n ≤ 9999) : (TL.numL n).length ≤ 4 := TL.numL_len (by decide) (by omega)
theorem asSs_strs (l : List (List Nat)) : asSs (l.map D.str) = some l := by
  induction l with
  | nil => rfl
  | cons a l ih => simp [asSs, ih]
theorem sum_le {l : List (List Nat)} {k : Nat} (h : ∀ w ∈ l, w.length ≤ k) : sumLen l ≤ l.length * k := by
  unfold sumLen
  induction l with
  | nil => simp
  | cons a l ih =>
    have h1 := h a List.mem_cons_self
    have h2 := ih fun w hw => h w (List.mem_cons_of_mem _ hw)
    simp only [List.map_cons, List.sum_cons, List.length_cons, Nat.succ_mul]
    omega
theorem join_len (s : List Nat) : ∀ l : List (List Nat), (TL.joinL s l).length ≤ sumLen l + l.length * s.length
  | [] => by simp [TL.joinL]
  | [a] => by simp [TL.joinL, sumLen]
  | a :: b :: l => by
    have ih := join_len s (b :: l)
    simp only [TL.joinL, List.length_append, sumLen, List.map_cons, List.sum_cons, List.length_cons, Nat.succ_mul] at ih ⊢
    omega
theorem gJoin_sp {l : List (List Nat)} (h : sumLen l + l.length * 1 ≤ big) : gJoin (.str [32]) (.lst (l.map D.str)) = some (.str (TL.joinL [32] l)) := by
  show (match asSs _ with | some l => _ | none => _) = _
  rw [asSs_strs]
  show (if sumLen l + l.length * [32].length ≤ big then _ else _) = _
  rw [if_pos (by simpa using h)]
def tr : List Nat → Nat → List RT.Rn
  | [], _ => []
  | p :: r, m => if r.head? = some p then tr r (m + 1) else (m + 1, p) :: tr r 0
theorem tr_spec : ∀ (r : List Nat) (p m : Nat), ∃ c rs, tr (p :: r) m = (c, p) :: rs ∧ m + 1 ≤ c ∧ RT.Val (some p) rs ∧ List.replicate c p ++ RT.cat rs = List.replicate m p ++ p :: r
  | [], p, m => ⟨m + 1, [], by simp [tr], Nat.le_refl _, trivial, by simp [RT.cat, List.replicate_succ']⟩
  | q :: r, p, m => by
    by_cases h : q = p
    · subst h
      obtain ⟨c, rs, h1, h2, h3, h4⟩ := tr_spec r q (m + 1)
      refine ⟨c, rs, by rw [tr, if_pos (by simp)]; exact h1, by omega, h3, ?_⟩
      rw [h4, List.replicate_succ', List.append_assoc]
      rfl
    · obtain ⟨c, rs, h1, h2, h3, h4⟩ := tr_spec r q 0
      refine ⟨m + 1, (c, q) :: rs, ?_, Nat.le_refl _, ⟨by omega, fun z => h (by injection z with z; exact z.symm), h3⟩, ?_⟩
      · rw [tr, if_neg (by simpa using h), h1]
      · rw [RT.cat_cons, h4, List.replicate_succ', List.append_assoc]
        rfl
theorem tr_rl (x : List Nat) : tr x 0 = RT.rl x := by
  cases x with
  | nil => rfl
  | cons p r =>
    obtain ⟨c, rs, h1, h2, h3, h4⟩ := tr_spec r p 0
    rw [h1]
    refine RT.rl_uniq (l := none) ⟨by omega, (fun z => nomatch z), h3⟩ ?_
    rw [RT.cat_cons, h4]
    rfl
theorem tr_len : ∀ (x : List Nat) (m : Nat), (tr x m).length ≤ x.length
  | [], _ => Nat.le_refl _
  | p :: r, m => by
    simp only [tr]
    split
    · have := tr_len r (m + 1); simp; omega
    · have := tr_len r 0; simp; omega
theorem rl_len (x : List Nat) : (RT.rl x).length ≤ x.length := by rw [← tr_rl]; exact tr_len x 0
theorem rl_cnt {x : List Nat} {r : RT.Rn} (h : r ∈ RT.rl x) : r.1 ≤ x.length := by
  have e := congrArg List.length (RT.rl_cat x)
  rw [← e]
  clear e
  generalize RT.rl x = l at h
  induction l with
  | nil => cases h
  | cons a l ih =>
    rw [RT.cat_cons, List.length_append, List.length_replicate]
    rcases List.mem_cons.mp h with rfl | h
    · omega
    · have := ih h; omega
theorem wd_len {r : RT.Rn} (h : r.1 ≤ 1000) : (RT.wd r).length ≤ 6 := by
  have := num_len (n := r.1) (by omega)
  unfold RT.wd
  simp
  omega
theorem text_loop {x : List Nat} (hl : x.length ≤ 1000) (h : Cells) : ∀ (suf pre : List Nat) (ws : List (List Nat)) (m : Nat) (z3 z4 : Option SV), x = pre ++ suf → ws.length ≤ pre.length → m ≤ pre.length →
    ∃ y2 y3 y4, sLoop (tgT 2 (tgCons (tgN 3) (tgCons (tgN 4) tgNil))) b_text_of_0 (enumD pre.length ((cod suf).map fun a => D.str [a])) [some (.val (std x)), some (.val (.lst (ws.map D.str))), some (.val (.int (m : Nat))), z3, z4] h =
      .nx [some (.val (std x)), some (.val (.lst ((ws ++ (tr suf m).map RT.wd).map D.str))), y2, y3, y4] h
  | [], pre, ws, m, z3, z4, _, _, _ => ⟨some (.val (.int (m : Nat))), z3, z4, by simp [tr, cod, enumD]⟩
  | p :: suf, pre, ws, m, z3, z4, e, hw, hm => by
    have hb : (cod x).length ≤ big := by rw [cod_len]; exact le_big hl
    have hp : pre.length + suf.length + 1 ≤ 1000 := by rw [e] at hl; simp at hl; omega
    have e2 : x = (pre ++ [p]) ++ suf := by rw [e]; simp
    have el : (pre ++ [p]).length = pre.length + 1 := by simp
    show ∃ y2 y3 y4, sLoop _ _ (.tup [.int (pre.length : Nat), .str [48 + p]] :: enumD (pre.length + 1) ((cod suf).map fun a => D.str [a])) _ _ = _
    rw [sLoop_cons]
    have tg : tgT 2 (tgCons (tgN 3) (tgCons (tgN 4) tgNil)) (.tup [.int (pre.length : Nat), .str [48 + p]]) [some (.val (std x)), some (.val (.lst (ws.map D.str))), some (.val (.int (m : Nat))), z3, z4] =
      some [some (.val (std x)), some (.val (.lst (ws.map D.str))), some (.val (.int (m : Nat))), some (.val (.int (pre.length : Nat))), some (.val (.str [48 + p]))] := rfl
    rw [tg]
    simp only
    have sl : gSl (some ((pre.length : Int) + 1)) (some ((pre.length : Int) + 2)) (std x) = some (.str (cod (suf.take 1))) := by
      show (if _ then _ else _) = _
      rw [if_pos hb]
      congr 2
      have hx : x.length = pre.length + 1 + suf.length := by rw [e]; simp; omega
      have hd : (cod x).drop (pre.length + 1) = cod suf := by
        rw [cod_drop, e2, ← el, List.drop_left']
        rfl
      unfold cutL
      rw [show (pre.length : Int) + 1 = ((pre.length + 1 : Nat) : Int) by omega, show (pre.length : Int) + 2 = ((pre.length + 2 : Nat) : Int) by omega, HT.sIx_nat, HT.sIx_nat, cod_len, hx, show min (pre.length + 1) (pre.length + 1 + suf.length) = pre.length + 1 by omega, hd]
      cases suf with
      | nil => simp [cod]
      | cons q r =>
        rw [Nat.min_eq_left (by simp; omega), cod_take]
        congr 2
        omega
    have cne : (cod (suf.take 1) = [48 + p]) ↔ suf.head? = some p := by
      cases suf with
      | nil => simp [cod]
      | cons q r => simp [cod]
    by_cases c : suf.head? = some p
    · obtain ⟨y2, y3, y4, ih⟩ := text_loop hl h suf (pre ++ [p]) ws (m + 1) (some (.val (.int (pre.length : Nat)))) (some (.val (.str [48 + p]))) e2 (by omega) (by omega)
      rw [el] at ih
      refine ⟨y2, y3, y4, ?_⟩
      have st : b_text_of_0 [some (.val (std x)), some (.val (.lst (ws.map D.str))), some (.val (.int (m : Nat))), some (.val (.int (pre.length : Nat))), some (.val (.str [48 + p]))] h =
          .nx [some (.val (std x)), some (.val (.lst (ws.map D.str))), some (.val (.int ((m + 1 : Nat) : Int))), some (.val (.int (pre.length : Nat))), some (.val (.str [48 + p]))] h := by
        simp [b_text_of_0_ap, sl, cne, c]
      rw [st, nxL_nx, ih, tr, if_pos c]
    · obtain ⟨y2, y3, y4, ih⟩ := text_loop hl h suf (pre ++ [p]) (ws ++ [RT.wd (m + 1, p)]) 0 (some (.val (.int (pre.length : Nat)))) (some (.val (.str [48 + p]))) e2 (by simp; omega) (by omega)
      rw [el] at ih
      refine ⟨y2, y3, y4, ?_⟩
      have f1 := gFmt_nat (n := m + 1) (by omega)
      have f2 := gFmt_str (s := [48 + p]) (by simp; unfold big; omega)
      have nl := num_len (n := m + 1) (by omega)
      have l1 : (TL.numL (m + 1)).length ≤ big := by unfold big; omega
      have l2 : (TL.numL (m + 1)).length + 1 ≤ big := by unfold big; omega
      have l3 : (TL.numL (m + 1)).length + 1 + 1 ≤ big := by unfold big; omega
      have f1' : gFmt (.int ((m : Int) + 1)) = some (.str (TL.numL (m + 1))) := f1
      have ga : DL.gAdd (.lst (ws.map D.str)) (.lst [.str (TL.numL (m + 1) ++ [120, 48 + p])]) = some (.lst ((ws ++ [RT.wd (m + 1, p)]).map D.str)) := by
        show (if _ then _ else _) = _
        rw [if_pos (by simp; unfold big; omega)]
        simp [RT.wd]
      have st : b_text_of_0 [some (.val (std x)), some (.val (.lst (ws.map D.str))), some (.val (.int (m : Nat))), some (.val (.int (pre.length : Nat))), some (.val (.str [48 + p]))] h =
          .nx [some (.val (std x)), some (.val (.lst ((ws ++ [RT.wd (m + 1, p)]).map D.str))), some (.val (.int ((0 : Nat) : Int))), some (.val (.int (pre.length : Nat))), some (.val (.str [48 + p]))] h := by
        simp [b_text_of_0_ap, sl, cne, c, f1', f2, l1, l2, l3]
        rw [ga]
        simp
      rw [st, nxL_nx, ih, tr, if_neg c]
      simp
theorem f_text_of {x : List Nat} (hl : x.length ≤ 1000) (h : Cells) : F_text_of [std x] h = .ok (.str (RT.wr x)) h := by
  rw [F_text_of_ap]
  by_cases c : x = []
  · subst c
    have e : RT.wr [] = [110, 111, 110, 101] := rfl
    simp [m_text_of, e, cod]
  · have c' : ¬ cod x = [] := by simpa [cod] using c
    obtain ⟨y2, y3, y4, lp⟩ := text_loop hl h x [] [] 0 none none rfl (Nat.le_refl _) (Nat.le_refl _)
    rw [tr_rl] at lp
    have ie : itE (std x) = some (enumD 0 ((cod x).map fun a => D.str [a])) := rfl
    have ne : RT.rl x ≠ [] := fun z => c (by rw [← RT.rl_cat x, z]; rfl)
    have jn := gJoin_sp (l := (RT.rl x).map RT.wd) (by
      have h1 := rl_len x
      have h2 := sum_le (l := (RT.rl x).map RT.wd) (k := 6) fun w hw => by
        obtain ⟨r, hr, rfl⟩ := List.mem_map.mp hw
        exact wd_len (Nat.le_trans (rl_cnt hr) hl)
      rw [List.length_map] at h2 ⊢
      unfold big
      omega)
    have e : RT.wr x = TL.joinL [32] ((RT.rl x).map RT.wd) := by unfold RT.wr RT.txt; rw [if_neg ne]
    have lp' : sLoop (tgT 2 (tgCons (tgN 3) (tgCons (tgN 4) tgNil))) b_text_of_0 (enumD 0 ((cod x).map fun a => D.str [a])) [some (.val (std x)), some (.val (.lst [])), some (.val (.int 0)), none, none] h = _ := lp
    simp only [m_text_of, sSeq_ap]
    rw [e]
    generalize (RT.rl x).map RT.wd = ws at lp' jn
    simp [c', ie]
    rw [lp']
    simp [jn]
theorem wr_len {x : List Nat} (hl : x.length ≤ 1000) : (RT.wr x).length ≤ x.length * 7 + 4 := by
  unfold RT.wr RT.txt
  split
  · simp [RT.nn]
  · have h1 := rl_len x
    have h2 := sum_le (l := (RT.rl x).map RT.wd) (k := 6) fun w hw => by
      obtain ⟨r, hr, rfl⟩ := List.mem_map.mp hw
      exact wd_len (Nat.le_trans (rl_cnt hr) hl)
    have h3 := join_len [32] ((RT.rl x).map RT.wd)
    rw [List.length_map] at h2 h3
    simp at h3
    omega
end LW

namespace LW
open PySem L2 PySem.Spec PyProof.Rows DL DH DM DE DQ DB Mth
/-! ### a standing's text, as the law makes it -/
def nxt (rs : List RT.Rn) (p : Nat) : List RT.Rn := match rs.getLast? with
  | some r => if r.2 = p then rs.dropLast ++ [(r.1 + 1, p)] else rs ++ [(1, p)]
  | none => [(1, p)]
theorem cat_app (a b : List RT.Rn) : RT.cat (a ++ b) = RT.cat a ++ RT.cat b := by simp [RT.cat]
theorem val_app : ∀ {rs : List RT.Rn} {l : Option Nat} {r : RT.Rn}, RT.Val l rs → 1 ≤ r.1 → (match rs.getLast? with | some q => q.2 ≠ r.2 | none => l ≠ some r.2) → RT.Val l (rs ++ [r])
  | [], l, r, _, h1, h2 => ⟨h1, h2, trivial⟩
  | [q], l, r, h, h1, h2 => ⟨h.1, h.2.1, h1, (fun z => h2 (by injection z)), trivial⟩
  | q :: q2 :: rs, l, r, h, h1, h2 => ⟨h.1, h.2.1, val_app (rs := q2 :: rs) h.2.2 h1 (by
      rw [List.getLast?_cons_cons] at h2
      rw [List.getLast?_eq_getLast (List.cons_ne_nil q2 rs)] at h2 ⊢
      exact h2)⟩
theorem val_init : ∀ {rs : List RT.Rn} {l : Option Nat} {r : RT.Rn}, RT.Val l (rs ++ [r]) → RT.Val l (rs ++ [(r.1 + 1, r.2)])
  | [], l, r, h => ⟨by show 1 ≤ r.1 + 1; omega, h.2.1, trivial⟩
  | q :: rs, l, r, h => ⟨h.1, h.2.1, val_init (rs := rs) h.2.2⟩
theorem last_split {rs : List RT.Rn} {r : RT.Rn} (h : rs.getLast? = some r) : rs = rs.dropLast ++ [r] := by
  have ne : rs ≠ [] := fun z => by rw [z] at h; cases h
  rw [List.getLast?_eq_getLast ne] at h
  cases h
  exact (List.dropLast_concat_getLast ne).symm
theorem nxt_ok {rs : List RT.Rn} (h : RT.Val none rs) (p : Nat) : RT.Val none (nxt rs p) ∧ RT.cat (nxt rs p) = RT.cat rs ++ [p] := by
  unfold nxt
  cases hl : rs.getLast? with
  | none =>
    have : rs = [] := List.getLast?_eq_none_iff.mp hl
    subst this
    exact ⟨⟨Nat.le_refl _, (fun z => nomatch z), trivial⟩, rfl⟩
  | some r =>
    have e := last_split hl
    simp only
    split
    · rename_i c
      rw [e] at h
      have v := val_init h
      rw [c] at v
      refine ⟨v, ?_⟩
      conv => rhs; rw [e, cat_app]
      rw [cat_app, List.append_assoc]
      congr 1
      rw [RT.cat_cons, RT.cat_cons, c]
      simp [RT.cat, List.replicate_succ']
    · rename_i c
      refine ⟨val_app h (Nat.le_refl _) (by rw [hl]; exact c), ?_⟩
      rw [cat_app]
      rfl
theorem fold_ok : ∀ (x : List Nat) {rs : List RT.Rn}, RT.Val none rs → RT.Val none (x.foldl nxt rs) ∧ RT.cat (x.foldl nxt rs) = RT.cat rs ++ x
  | [], rs, h => ⟨h, by simp⟩
  | p :: x, rs, h => by
    obtain ⟨h1, h2⟩ := nxt_ok h p
    obtain ⟨i1, i2⟩ := fold_ok x h1
    exact ⟨i1, by rw [List.foldl_cons, i2, h2, List.append_assoc]; rfl⟩
theorem fold_rl (x : List Nat) : x.foldl nxt [] = RT.rl x := by
  obtain ⟨h1, h2⟩ := fold_ok x (rs := []) trivial
  exact RT.rl_uniq h1 (by rw [h2]; rfl)
/-! the cells -/
def cl1 (r : RT.Rn) : MO := .lst [.int (r.1 : Nat), .str [48 + r.2]]
def cls (rs : List RT.Rn) : Cells := rs.map cl1
def cds (k n : Nat) : List D := (List.range' k n).map D.cel
def py1 (r : RT.Rn) : PyData := .list [.int (r.1 : Nat), .str ⟨#[48 + r.2]⟩]
theorem dp_cells (h : Cells) : ∀ (rs : List RT.Rn) (k : Nat), (∀ j r, rs[j]? = some r → h[k + j]? = some (cl1 r)) → dpHL h (cds k rs.length) = some (rs.map py1)
  | [], k, _ => rfl
  | r :: rs, k, hh => by
    have ih := dp_cells h rs (k + 1) fun j q e => by
      have := hh (j + 1) q (by simpa using e)
      rw [show k + 1 + j = k + (j + 1) by omega]; exact this
    have h0 := hh 0 r rfl
    rw [Nat.add_zero] at h0
    show dpHL h (.cel k :: cds (k + 1) rs.length) = _
    simp only [dpHL, dpH, h0, cl1]
    simp [toPyL, toPy, ih, py1]
theorem py_ok : ∀ {rs : List RT.Rn}, (∀ r ∈ rs, r.2 < 3) → PyData.canLayAll0 (rs.map py1) = true ∧ PyData.depthAll (rs.map py1) ≤ 1
  | [], _ => by simp [PyData.canLayAll0, PyData.depthAll]
  | r :: rs, h => by
    obtain ⟨h1, h2⟩ := py_ok (rs := rs) fun q hq => h q (List.mem_cons_of_mem _ hq)
    have hr := h r List.mem_cons_self
    simp only [List.map_cons, PyData.canLayAll0, PyData.depthAll, h1]
    constructor
    · simp [py1, PyData.canLay0, PyData.canLayAll0, PyData.strOk]
      omega
    · have : (py1 r).depth = 1 := by simp [py1, PyData.depth, PyData.depthAll]
      omega
theorem ne_cells {h : Cells} {rs : List RT.Rn} {k : Nat} (hp : ∀ r ∈ rs, r.2 < 3) (hh : ∀ j r, rs[j]? = some r → h[k + j]? = some (cl1 r)) {b : Bv} (hb : view h b = some (.lst (cds k rs.length))) : gNeE h b = some (.bl (!rs.isEmpty)) := by
  obtain ⟨p1, p2⟩ := py_ok hp
  have sh : SeqAt.shaped (.list (rs.map py1)) = true := shaped_ok (by simp only [PyData.canLay0]; exact p1) (by simp only [PyData.depth]; omega)
  unfold gNeE
  rw [hb]
  simp only [dp_cells h rs k hh]
  rw [if_pos sh]
  cases rs <;> rfl
theorem cells_at (h0 : Cells) (rs : List RT.Rn) : ∀ j r, rs[j]? = some r → (h0 ++ cls rs)[h0.length + j]? = some (cl1 r) := fun j r e => by
  rw [List.getElem?_append_right (by omega), show h0.length + j - h0.length = j by omega, cls, List.getElem?_map, e]
  rfl
theorem cds_last {k n : Nat} (h : 0 < n) : gIx (.lst (cds k n)) (.int (-1)) = some (.cel (k + (n - 1))) := by
  show atI (cds k n) (-1) = _
  unfold atI ixN
  have hl : (cds k n).length = n := by simp [cds]
  rw [hl, if_neg (by omega), if_pos (by omega)]
  have e : (-1 + (n : Int)).toNat = n - 1 := by omega
  rw [e]
  simp [cds, List.getElem?_range', h]
  rw [List.getElem?_range' (by omega)]
  simp
theorem write_step {h0 : Cells} {rs : List RT.Rn} (hp : ∀ r ∈ rs, r.2 < 3) (hn : rs.length ≤ 1000) {p : Nat} (hp3 : p < 3) (A z3 : Option SV) :
    b__law_writing_0 [A, some (.own (.lst (cds h0.length rs.length))), some (.val (.str [48 + p])), z3] (h0 ++ cls rs) = .nx [A, some (.own (.lst (cds h0.length (nxt rs p).length))), some (.val (.str [48 + p])), z3] (h0 ++ cls (nxt rs p)) := by
  have ne := ne_cells (h := h0 ++ cls rs) (b := .o (.lst (cds h0.length rs.length))) hp (cells_at h0 rs) rfl
  have vO : ∀ h l, view h (.o (.lst l)) = some (.lst l) := fun _ _ => rfl
  have ba : ∀ n : Nat, n ≤ 1000 → n < big := fun n hn => by unfold big; omega
  have b2 : (2 : Nat) ≤ big := by decide
  have lenc : (cds h0.length rs.length).length = rs.length := by simp [cds]
  have app : ∀ q : Nat, (h0 ++ cls rs) ++ [MO.lst [.int 1, .str [48 + q]]] = h0 ++ cls (rs ++ [(1, q)]) := fun q => by simp [cls, cl1]
  have capp : cds h0.length rs.length ++ [.cel (h0 ++ cls rs).length] = cds h0.length (rs.length + 1) := by
    unfold cds
    rw [List.range'_concat, List.map_append]
    simp [cls]
  unfold nxt
  cases hl : rs.getLast? with
  | none =>
    have e : rs = [] := List.getLast?_eq_none_iff.mp hl
    subst e
    have e1 : gNeE h0 (.o (.lst (cds h0.length 0))) = some (.bl false) := by simpa [cls] using ne
    have e2 : cds h0.length 0 = [] := rfl
    rw [e2] at e1
    have z0 : h0 ++ cls [] = h0 := by simp [cls]
    have z1 : h0 ++ cls [(1, p)] = h0 ++ [MO.lst [.int 1, .str [48 + p]]] := rfl
    have z2 : cds h0.length [((1 : Nat), p)].length = [.cel h0.length] := rfl
    show b__law_writing_0 [A, some (.own (.lst [])), some (.val (.str [48 + p])), z3] (h0 ++ cls []) = .nx [A, some (.own (.lst (cds h0.length [((1 : Nat), p)].length))), some (.val (.str [48 + p])), z3] (h0 ++ cls [(1, p)])
    rw [z0, z1, z2]
    simp [b__law_writing_0_ap, mNeE, e1, b2, show (0 : Nat) < big by decide]
  | some r =>
    have e := last_split hl
    have hr : 0 < rs.length := by rw [e]; simp
    have hne : rs.isEmpty = false := by
      cases hq : rs with
      | nil => rw [hq] at hr; exact absurd hr (by decide)
      | cons a b => rfl
    rw [hne] at ne
    have gl := cds_last (k := h0.length) hr
    have at_ : (h0 ++ cls rs)[h0.length + (rs.length - 1)]? = some (cl1 r) := cells_at h0 rs _ r (by rw [← List.getLast?_eq_getElem?]; exact hl)
    have vc : view (h0 ++ cls rs) (.d (.cel (h0.length + (rs.length - 1)))) = some (.lst [.int (r.1 : Nat), .str [48 + r.2]]) := view_cel at_
    have x0 : gIx (.lst [.int (r.1 : Nat), .str [48 + r.2]]) (.int 0) = some (.int (r.1 : Nat)) := gIx_lst (j := 0) rfl
    have x1 : gIx (.lst [.int (r.1 : Nat), .str [48 + r.2]]) (.int 1) = some (.str [48 + r.2]) := gIx_lst (j := 1) rfl
    simp only
    by_cases c : r.2 = p
    · rw [if_pos c]
      rw [c] at vc x0 x1
      have st : setC (h0 ++ cls rs) (.cel (h0.length + (rs.length - 1))) (.int 0) (.int ((r.1 : Int) + 1)) = some (h0 ++ cls (rs.dropLast ++ [(r.1 + 1, p)])) := by
        have e2 : ixN 2 0 = some 0 := by decide
        simp [setC, at_, cl1, e2]
        conv => lhs; rw [e]
        simp [cls, cl1, c]
      have ln : (rs.dropLast ++ [(r.1 + 1, p)]).length = rs.length := by simp; omega
      rw [ln]
      simp [b__law_writing_0_ap, mNeE, ne, vO, gl, vc, x0, x1, c, st]
    · rw [if_neg c]
      have c' : ¬ (48 + r.2 = 48 + p) := by omega
      have ln : (rs ++ [(1, p)]).length = rs.length + 1 := by simp
      rw [ln, ← app p, ← capp]
      simp [b__law_writing_0_ap, mNeE, ne, vO, gl, vc, x0, x1, c, c', b2, lenc, ba _ hn]
theorem nxt_len (rs : List RT.Rn) (p : Nat) : (nxt rs p).length ≤ rs.length + 1 := by
  unfold nxt
  cases hl : rs.getLast? with
  | none => simp
  | some r =>
    simp only
    split
    · simp
    · simp
theorem nxt_po {rs : List RT.Rn} (hp : ∀ r ∈ rs, r.2 < 3) {p : Nat} (hp3 : p < 3) : ∀ r ∈ nxt rs p, r.2 < 3 := by
  intro r hr
  unfold nxt at hr
  cases hl : rs.getLast? with
  | none => rw [hl] at hr; simp at hr; rw [hr]; exact hp3
  | some q =>
    rw [hl] at hr
    simp only at hr
    split at hr
    · rcases List.mem_append.mp hr with z | z
      · exact hp r ((List.dropLast_prefix _).subset z)
      · rw [List.mem_singleton.mp z]; exact hp3
    · rcases List.mem_append.mp hr with z | z
      · exact hp r z
      · rw [List.mem_singleton.mp z]; exact hp3
theorem write_loop {h0 : Cells} (A : Option SV) : ∀ (x : List Nat) (rs : List RT.Rn) (z2 z3 : Option SV), (∀ p ∈ x, p < 3) → (∀ r ∈ rs, r.2 < 3) → rs.length + x.length ≤ 1000 →
    ∃ y2 y3, sLoop (tgN 2) b__law_writing_0 ((cod x).map fun a => D.str [a]) [A, some (.own (.lst (cds h0.length rs.length))), z2, z3] (h0 ++ cls rs) = .nx [A, some (.own (.lst (cds h0.length (x.foldl nxt rs).length))), y2, y3] (h0 ++ cls (x.foldl nxt rs))
  | [], rs, z2, z3, _, _, _ => ⟨z2, z3, rfl⟩
  | p :: x, rs, z2, z3, hx, hp, hn => by
    have hp3 := hx p List.mem_cons_self
    have hl := nxt_len rs p
    simp only [List.length_cons] at hn
    obtain ⟨y2, y3, ih⟩ := write_loop A x (nxt rs p) (some (.val (.str [48 + p]))) z3 (fun q hq => hx q (List.mem_cons_of_mem _ hq)) (nxt_po hp hp3) (by omega)
    refine ⟨y2, y3, ?_⟩
    show sLoop (tgN 2) b__law_writing_0 (.str [48 + p] :: (cod x).map fun a => D.str [a]) _ _ = _
    rw [sLoop_cons]
    have s := write_step (h0 := h0) hp (by omega) hp3 A z3
    simp only [tgN_ap, List.set_cons_succ, List.set_cons_zero]
    rw [s, nxL_nx]
    exact ih
theorem join_cells {h : Cells} (ρ : DL.Env) (hρ : 3 < ρ.length) : ∀ (rs : List RT.Rn) (k : Nat) (acc : List (List Nat)), (∀ r ∈ rs, r.1 ≤ 1000) → (∀ j r, rs[j]? = some r → h[k + j]? = some (cl1 r)) → acc.length + rs.length ≤ 1000 →
    mLoopC (tgC 2 (tgCons (tgN 3) (tgCons (tgN 2) tgNil))) mTrue (mOp2 gAdd (mOp2 gAdd (mCallV gStr (mVarB 3)) (mC (.str [120]))) (mVar 2)) ρ (cds k rs.length) (acc.map D.str) h = .ok ((acc ++ rs.map RT.wd).map D.str) h
  | [], k, acc, _, _, _ => by simp [cds, mLoopC]
  | r :: rs, k, acc, hc, hh, hl => by
    have h0 := hh 0 r rfl
    rw [Nat.add_zero] at h0
    simp only [List.length_cons] at hl
    have ih := join_cells ρ hρ rs (k + 1) (acc ++ [RT.wd r]) (fun q hq => hc q (List.mem_cons_of_mem _ hq)) (fun j q e => by
      have := hh (j + 1) q (by simpa using e)
      rw [show k + 1 + j = k + (j + 1) by omega]; exact this) (by simp; omega)
    have hr := hc r List.mem_cons_self
    have gs := gStr_nat (n := r.1) (by omega)
    have nl := num_len (n := r.1) (by omega)
    have a1 : DL.gAdd (.str (TL.numL r.1)) (.str [120]) = some (.str (TL.numL r.1 ++ [120])) := gAdd_str (by simp; unfold big; omega)
    have a2 : DL.gAdd (.str (TL.numL r.1 ++ [120])) (.str [48 + r.2]) = some (.str (TL.numL r.1 ++ [120] ++ [48 + r.2])) := gAdd_str (by simp; unfold big; omega)
    show mLoopC _ _ _ ρ (.cel k :: cds (k + 1) rs.length) _ h = _
    have tg : tgC 2 (tgCons (tgN 3) (tgCons (tgN 2) tgNil)) h (.cel k) ρ = some ((ρ.set 3 (some (.val (.int (r.1 : Nat))))).set 2 (some (.val (.str [48 + r.2])))) := by
      simp [tgC, h0, cl1]
    have g3 : ((ρ.set 3 (some (.val (.int (r.1 : Nat))))).set 2 (some (.val (.str [48 + r.2]))))[3]? = some (some (.val (.int (r.1 : Nat)))) := by
      rw [List.getElem?_set_ne (by decide), List.getElem?_set_self hρ]
    have g2 : ((ρ.set 3 (some (.val (.int (r.1 : Nat))))).set 2 (some (.val (.str [48 + r.2]))))[2]? = some (some (.val (.str [48 + r.2]))) := by
      rw [List.getElem?_set_self (by rw [List.length_set]; omega)]
    simp only [mLoopC, tg]
    have te : (mOp2 gAdd (mOp2 gAdd (mCallV gStr (mVarB 3)) (mC (.str [120]))) (mVar 2)) ((ρ.set 3 (some (.val (.int (r.1 : Nat))))).set 2 (some (.val (.str [48 + r.2])))) h = .ok (.str (RT.wd r)) h := by
      simp only [mOp2_ap, mCallV_ap, mVarB_ap, mVar_ap, mC_ap, g2, g3, bind_ok, view_int, Option.bind_some, gs, fin_some, a1, a2]
      simp [RT.wd]
    simp only [mTrue_ap, calm_ok, bind_ok, if_true, te]
    rw [if_pos (by rw [List.length_map]; unfold big; omega)]
    have : acc.map D.str ++ [D.str (RT.wd r)] = (acc ++ [RT.wd r]).map D.str := by simp
    rw [this, ih]
    simp
theorem f_writing {x : List Nat} (ok : Mth.Ok x) (hl : x.length ≤ 1000) (h : Cells) : ∃ xs, F__law_writing [std x] h = .ok (.str (RT.wr x)) (h ++ xs) := by
  obtain ⟨y2, y3, lp⟩ := write_loop (h0 := h) (some (.val (std x))) x [] none none ok (fun _ z => nomatch z) (by simpa using hl)
  rw [fold_rl] at lp
  have lp' : sLoop (tgN 2) b__law_writing_0 ((cod x).map fun a => D.str [a]) [some (.val (std x)), some (.own (.lst [])), none, none] h = .nx [some (.val (std x)), some (.own (.lst (cds h.length (RT.rl x).length))), y2, y3] (h ++ cls (RT.rl x)) := by
    have : h ++ cls [] = h := by simp [cls]
    rw [this] at lp
    exact lp
  refine ⟨cls (RT.rl x), ?_⟩
  rw [F__law_writing_ap]
  have po := RT.rl_po ok
  have ne := ne_cells (h := h ++ cls (RT.rl x)) (b := .d (.lst (cds h.length (RT.rl x).length))) po (cells_at h (RT.rl x)) rfl
  have jc := join_cells (h := h ++ cls (RT.rl x)) (wipeE [some (.val (std x)), some (.val (.lst (cds h.length (RT.rl x).length))), y2, y3] [3, 2]) (by simp [wipeE]) (RT.rl x) h.length [] (fun r hr => Nat.le_trans (rl_cnt hr) hl) (cells_at h (RT.rl x)) (by have := rl_len x; simp; omega)
  have jn := gJoin_sp (l := (RT.rl x).map RT.wd) (by
    have h1 := rl_len x
    have h2 := sum_le (l := (RT.rl x).map RT.wd) (k := 6) fun w hw => by
      obtain ⟨r, hr, rfl⟩ := List.mem_map.mp hw
      exact wd_len (Nat.le_trans (rl_cnt hr) hl)
    rw [List.length_map] at h2 ⊢
    unfold big
    omega)
  by_cases c : RT.rl x = []
  · have e : RT.wr x = [110, 111, 110, 101] := by unfold RT.wr; rw [c]; rfl
    rw [c] at ne lp' ⊢
    have ne' : gNeE (h ++ cls []) (.d (.lst (cds h.length 0))) = some (.bl false) := ne
    simp only [m__law_writing, sSeq_ap]
    simp [lp', frzE, mNeE, e]
    rw [ne']
    simp
  · have e : RT.wr x = TL.joinL [32] ((RT.rl x).map RT.wd) := by unfold RT.wr RT.txt; rw [if_neg c]
    have hne : (RT.rl x).isEmpty = false := by cases hq : RT.rl x <;> simp_all
    rw [hne] at ne
    simp only [List.map_nil, List.nil_append] at jc
    rw [e]
    simp only [m__law_writing, sSeq_ap]
    simp [lp', frzE, mNeE, ne, mLcVC, mLcC, jc, jn, -List.map_map]
end LW

namespace LW
open PySem L2 PySem.Spec PyProof.Rows DL DH DM DE DQ DB Mth
/-! ### a standing's text, as the program reads it -/
def digs : List Nat := [48, 49, 50, 51, 52, 53, 54, 55, 56, 57]
theorem mem_digs (c : Nat) : decide (c ∈ digs) = RT.dig c := by
  rw [Bool.eq_iff_iff, decide_eq_true_eq]
  simp only [digs, RT.dig, decide_eq_true_eq, List.mem_cons, List.not_mem_nil, or_false]
  omega
theorem isIn_dig (c : Nat) : gIn (.str [c]) (.str [48, 49, 50, 51, 52, 53, 54, 55, 56, 57]) = some (.bl (RT.dig c)) := by
  show some (D.bl (decide (c ∈ digs))) = _
  rw [mem_digs]
theorem int_dig {w : List Nat} (ne : w ≠ []) (hl : w.length ≤ 4) (hd : w.all RT.dig = true) : gInt (.str w) = some (.int (NumText.digitsVal w : Nat)) := by
  have e : intText? ⟨w.toArray⟩ = some ((NumText.digitsVal w : Nat) : Int) := by
    have := intText_digits (x := ⟨w.toArray⟩) (fun c hc => RT.all_dig hd c hc) ne (by simpa [Str.length] using (by omega : w.length ≤ 4300))
    exact this
  show (if _ then (match intText? _ with | some n => _ | none => _) else _) = _
  rw [if_pos (by omega), e]
def numIn (w : List Nat) : Nat := if w ≠ [] ∧ w.length ≤ 4 ∧ w.all RT.dig = true then (if NumText.digitsVal w ≤ 1000 then NumText.digitsVal w else 0) else 0
theorem numIn_le (w : List Nat) : numIn w ≤ 1000 := by
  unfold numIn
  split
  · split
    · assumption
    · omega
  · omega
theorem f_number_in {w : List Nat} (hw : w.length ≤ big) (h : Cells) : F_number_in [.str w] h = .ok (.int (numIn w : Nat)) h := by
  rw [F_number_in_ap]
  by_cases c1 : w = []
  · subst c1
    simp [m_number_in, numIn]
  by_cases c2 : w.length ≤ 4
  · have c2' : ¬ ((4 : Int) < (w.length : Int)) := by omega
    have lc : mLoop (tgN 1) mTrue (mOpV gIn (mVarB 1) (mBd (mC (.str [48, 49, 50, 51, 52, 53, 54, 55, 56, 57])))) (wipeE [some (.val (.str w)), none] [1]) (w.map fun a => D.str [a]) [] h = .ok (w.map fun a => D.bl (RT.dig a)) h := by
      rw [lc_map (fun d => match d with | .str [c] => .bl (RT.dig c) | _ => .non) _ _ (by simpa using hw) fun d hd => ?_]
      · simp only [List.nil_append, List.map_map, Function.comp_def]
      · simp only [List.mem_map] at hd
        obtain ⟨a, _, rfl⟩ := hd
        exact ⟨_, rfl, by simp only [← mem_digs]; simp [wipeE, digs]⟩
    have ga : gAll [.lst (w.map fun a => D.bl (RT.dig a))] = some (.bl (w.all RT.dig)) := by
      simp [gAll, asBs_map, List.all_map, Function.comp_def]
    by_cases c3 : w.all RT.dig = true
    · have gi := int_dig c1 c2 c3
      rw [c3] at ga
      have en : numIn w = if NumText.digitsVal w ≤ 1000 then NumText.digitsVal w else 0 := by unfold numIn; rw [if_pos ⟨c1, c2, c3⟩]
      by_cases c4 : NumText.digitsVal w ≤ 1000
      · have c4' : ((NumText.digitsVal w : Nat) : Int) ≤ 1000 := by omega
        rw [en, if_pos c4]
        simp [m_number_in, gLen_str, hw, c1, c2', lc, ga, gi, c4']
      · have c4' : ¬ ((NumText.digitsVal w : Nat) : Int) ≤ 1000 := by omega
        rw [en, if_neg c4]
        simp [m_number_in, gLen_str, hw, c1, c2', lc, ga, gi, c4']
    · have c3' : w.all RT.dig = false := by simpa using c3
      rw [c3'] at ga
      have en : numIn w = 0 := by unfold numIn; rw [if_neg (fun z => c3 z.2.2)]
      rw [en]
      simp [m_number_in, gLen_str, hw, c1, c2', lc, ga]
  · have c2' : ((4 : Int) < (w.length : Int)) := by omega
    have en : numIn w = 0 := by unfold numIn; rw [if_neg (fun z => c2 z.2.1)]
    rw [en]
    simp [m_number_in, gLen_str, hw, c1, c2']
/-! one word -/
def SI1 (w acc : List Nat) : Option (List Nat) := match TL.spl [120] 0 [] w with
  | [a, b] => if 1000 < acc.length then none else some (acc ++ rep (numIn a : Nat) b)
  | _ => none
def SI : List (List Nat) → List Nat → Option (List Nat)
  | [], acc => some acc
  | w :: ws, acc => match SI1 w acc with | none => none | some y => SI ws y
theorem rep_len {α : Type} (k : Nat) (b : List α) : (rep (k : Int) b).length = k * b.length := by
  unfold rep
  rw [Int.toNat_natCast]
  induction k with
  | zero => simp
  | succ k ih => rw [List.replicate_succ, List.flatten_cons, List.length_append, ih, Nat.succ_mul]; omega
theorem mem_join_len (s : List Nat) : ∀ {l : List (List Nat)} {w : List Nat}, w ∈ l → w.length ≤ (TL.joinL s l).length
  | [], _, h => nomatch h
  | [a], w, h => by rw [List.mem_singleton.mp h]; simp [TL.joinL]
  | a :: b :: l, w, h => by
    simp only [TL.joinL, List.length_append]
    rcases List.mem_cons.mp h with rfl | h
    · omega
    · have := mem_join_len s (l := b :: l) h
      omega
theorem spl_len {c : Nat} {s w : List Nat} (h : w ∈ TL.spl [c] 0 [] s) : w.length ≤ s.length := by
  have := mem_join_len [c] h
  rw [RT.join_spl] at this
  simpa using this
theorem SI1_len {w acc y : List Nat} (hw : w.length ≤ 5000) (h : SI1 w acc = some y) : y.length ≤ 5001000 := by
  unfold SI1 at h
  split at h
  · rename_i a b e
    split at h
    · cases h
    · cases h
      have hb : b.length ≤ w.length := spl_len (c := 120) (by rw [e]; simp)
      rw [List.length_append, rep_len]
      have : numIn a * b.length ≤ 1000 * 5000 := Nat.mul_le_mul (numIn_le a) (by omega)
      omega
  · cases h
theorem ge_5 : 5001000 ≤ big := by unfold big; omega
theorem si_step {w acc : List Nat} (A z3 : Option SV) (hw : w.length ≤ 5000) (ha : acc.length ≤ 5001000) (h : Cells) :
    ∃ y3, b_standing_in_0 [A, some (.val (.str acc)), some (.val (.str w)), z3] h = match SI1 w acc with | none => .exc ⟨8, none⟩ h | some y => .nx [A, some (.val (.str y)), some (.val (.str w)), y3] h := by
  have gs : gSplit (.str w) (.str [120]) = some (.lst ((TL.spl [120] 0 [] w).map D.str)) := by
    show (if _ then _ else _) = _
    rw [if_pos ⟨by simp, by simp, by unfold big; omega⟩]
  have hb := ge_5
  have lp : ∀ p ∈ TL.spl [120] 0 [] w, p.length ≤ 5000 := fun p hp => Nat.le_trans (spl_len hp) hw
  refine ⟨some (.val (.lst ((TL.spl [120] 0 [] w).map D.str))), ?_⟩
  unfold SI1
  rcases e : TL.spl [120] 0 [] w with _ | ⟨a, _ | ⟨b, _ | ⟨c, l⟩⟩⟩
  · rw [e] at gs
    simp [b_standing_in_0_ap, gs]
  · rw [e] at gs
    simp [b_standing_in_0_ap, gs]
  · rw [e] at gs lp
    have la := lp a (by simp)
    have lb := lp b (by simp)
    have x1 : gIx (.lst [.str a, .str b]) (.int 1) = some (.str b) := gIx_lst (j := 1) rfl
    have x0 : gIx (.lst [.str a, .str b]) (.int 0) = some (.str a) := gIx_lst (j := 0) rfl
    have fn := f_number_in (w := a) (by omega) h
    have gl : gLen (.str acc) = some (.int (acc.length : Nat)) := gLen_str (by omega)
    have nb : numIn a * b.length ≤ 1000 * 5000 := Nat.mul_le_mul (numIn_le a) lb
    have na := numIn_le a
    have gm : gMul (.str b) (.int (numIn a : Nat)) = some (.str (rep (numIn a : Nat) b)) := by
      show (if _ then _ else _) = _
      rw [if_pos ⟨by rw [Int.natAbs_natCast]; omega, by rw [Int.toNat_natCast, Nat.mul_comm]; unfold big; omega⟩]
    by_cases c : 1000 < acc.length
    · have c' : (1000 : Int) < (acc.length : Int) := by omega
      simp [b_standing_in_0_ap, gs, gl, c', c]
    · have c' : ¬ (1000 : Int) < (acc.length : Int) := by omega
      have gd : DL.gAdd (.str acc) (.str (rep (numIn a : Nat) b)) = some (.str (acc ++ rep (numIn a : Nat) b)) := gAdd_str (by rw [rep_len]; unfold big; omega)
      simp [b_standing_in_0_ap, gs, gl, c', c, x0, x1, fn, gm, gd]
  · rw [e] at gs
    have : ¬ ((l.length : Int) + 1 + 1 + 1 = 2) := by omega
    simp [b_standing_in_0_ap, gs, this]
theorem si_loop (A : Option SV) (h : Cells) : ∀ (ws : List (List Nat)) (acc : List Nat) (z2 z3 : Option SV), (∀ w ∈ ws, w.length ≤ 5000) → acc.length ≤ 5001000 →
    (∀ y, SI ws acc = some y → y.length ≤ 5001000) ∧ ∃ y2 y3, sLoop (tgN 2) b_standing_in_0 (ws.map D.str) [A, some (.val (.str acc)), z2, z3] h = match SI ws acc with | none => .exc ⟨8, none⟩ h | some y => .nx [A, some (.val (.str y)), y2, y3] h
  | [], acc, z2, z3, _, ha => ⟨(fun y e => by cases e; exact ha), z2, z3, rfl⟩
  | w :: ws, acc, z2, z3, hw, ha => by
    obtain ⟨y3, st⟩ := si_step A z3 (hw w List.mem_cons_self) ha h
    simp only [SI]
    cases e : SI1 w acc with
    | none =>
      rw [e] at st
      refine ⟨fun y z => (nomatch z), none, none, ?_⟩
      show sLoop _ _ (D.str w :: ws.map D.str) _ h = _
      rw [sLoop_cons]
      simp only [tgN_ap, List.set_cons_succ, List.set_cons_zero]
      rw [st]
      rfl
    | some y =>
      rw [e] at st
      obtain ⟨l, y2, y3', ih⟩ := si_loop A h ws y (some (.val (.str w))) y3 (fun q hq => hw q (List.mem_cons_of_mem _ hq)) (SI1_len (hw w List.mem_cons_self) e)
      refine ⟨l, y2, y3', ?_⟩
      show sLoop _ _ (D.str w :: ws.map D.str) _ h = _
      rw [sLoop_cons]
      simp only [tgN_ap, List.set_cons_succ, List.set_cons_zero]
      rw [st]
      exact ih
theorem numIn_num {n : Nat} (h : n ≤ 1000) : numIn (TL.numL n) = n := by
  have d : (TL.numL n).all RT.dig = true := by
    rw [List.all_eq_true]
    intro c hc
    have := TL.numL_digits n c hc
    simpa [RT.dig] using this
  unfold numIn
  rw [if_pos ⟨TL.numL_ne n, num_len (by omega), d⟩, TL.numL_val, if_pos h]
theorem SI_rs : ∀ {rs : List RT.Rn} {x : List Nat}, (∀ r ∈ rs, r.2 < 3) → (x ++ RT.cat rs).length ≤ 1000 → SI (rs.map RT.wd) (cod x) = some (cod (x ++ RT.cat rs))
  | [], x, _, _ => by simp [SI, RT.cat]
  | r :: rs, x, hp, hl => by
    have h2 := hp r List.mem_cons_self
    rw [RT.cat_cons] at hl ⊢
    simp only [List.length_append, List.length_replicate] at hl
    have one : SI1 (RT.wd r) (cod x) = some (cod (x ++ List.replicate r.1 r.2)) := by
      unfold SI1
      rw [RT.spl_wd h2]
      simp only
      rw [cod_len, if_neg (by omega), numIn_num (by omega), rep_str, cod_app]
    show (match SI1 (RT.wd r) (cod x) with | none => none | some y => SI (rs.map RT.wd) y) = _
    rw [one]
    simp only
    rw [SI_rs (fun q hq => hp q (List.mem_cons_of_mem _ hq)) (by simp; omega), List.append_assoc]
theorem isP_cod : ∀ {y : List Nat}, y.all isP = true → ∃ x, y = cod x ∧ Mth.Ok x
  | [], _ => ⟨[], rfl, fun _ z => nomatch z⟩
  | c :: y, h => by
    rw [List.all_cons, Bool.and_eq_true] at h
    obtain ⟨x, rfl, hx⟩ := isP_cod h.2
    have hc := h.1
    simp only [isP, decide_eq_true_eq, List.mem_cons, List.not_mem_nil, or_false] at hc
    refine ⟨(c - 48) :: x, ?_, ?_⟩
    · show c :: cod x = (48 + (c - 48)) :: cod x
      congr 1; omega
    · intro p hp
      rcases List.mem_cons.mp hp with rfl | hp
      · omega
      · exact hx p hp
theorem f_standing_in {s : List Nat} (hs : s.length ≤ 5000) (h : Cells) : F_standing_in [.str s] h = match RT.reading s with | some x => .ok (std x) h | none => .exc ⟨8, none⟩ h := by
  rw [F_standing_in_ap]
  have gs : gSplit (.str s) (.str [32]) = some (.lst ((TL.spl [32] 0 [] s).map D.str)) := by
    show (if _ then _ else _) = _
    rw [if_pos ⟨by simp, by simp, by unfold big; omega⟩]
  have hb := ge_5
  -- the words
  have key : ∀ ws : List (List Nat), (∀ w ∈ ws, w.length ≤ 5000) → (∀ x, RT.reading s = some x → SI ws [] = some (cod x)) →
      sSeq (sFor (mIt itAny (fun _ h => .ok (.lst (ws.map D.str)) h)) (tgN 2) b_standing_in_0) (sSeq (sIf (mOr (mNot (mTru (mFn F_is_standing_value (mCons (mVar 1) mNil)))) (mAsB (mOpV gNe (mBd (mFn F_text_of (mCons (mVar 1) mNil))) (mVarB 0)))) (sRaise 8) sNil) (sRet (mVar 1))) [some (.val (.str s)), some (.val (.str [])), none, none] h = match RT.reading s with | some x => .rt (std x) h | none => .exc ⟨8, none⟩ h := by
    intro ws hw hr
    obtain ⟨l, y2, y3, lp⟩ := si_loop (some (.val (.str s))) h ws [] none none hw (by simp)
    cases e : SI ws [] with
    | none =>
      rw [e] at lp
      have hn : RT.reading s = none := by
        cases q : RT.reading s with
        | none => rfl
        | some x => rw [hr x q] at e; cases e
      rw [hn]
      simp only [sSeq_ap, sFor_ap, mIt_ap, bind_ok, itAny_lst, fin_some, so_ok, lp]
      rfl
    | some y =>
      rw [e] at lp
      have ly := l y e
      have fi := f_isv_str (s := y) (by omega) h
      by_cases c : (decide (y.length ≤ 1000) && y.all isP) = true
      · rw [c] at fi
        rw [Bool.and_eq_true, decide_eq_true_eq] at c
        obtain ⟨x, rfl, ok⟩ := isP_cod c.2
        rw [cod_len] at c
        have ft := f_text_of (x := x) c.1 h
        have ft' : F_text_of [.str (cod x)] h = .ok (.str (RT.wr x)) h := ft
        by_cases q : RT.wr x = s
        · have : RT.reading s = some x := by rw [← q]; exact RT.read_wr ok c.1
          rw [this]
          simp only [sSeq_ap, sFor_ap, mIt_ap, bind_ok, itAny_lst, fin_some, so_ok, lp]
          simp [fi, ft', q]
        · have hn : RT.reading s = none := by
            cases z : RT.reading s with
            | none => rfl
            | some x2 =>
              have := hr x2 z
              rw [e] at this
              injection this with this
              rw [cod_inj] at this
              subst this
              exact absurd (RT.read_back z).1.symm q
          rw [hn]
          simp only [sSeq_ap, sFor_ap, mIt_ap, bind_ok, itAny_lst, fin_some, so_ok, lp]
          simp [fi, ft', q]
      · have c' : (decide (y.length ≤ 1000) && y.all isP) = false := by simpa using c
        rw [c'] at fi
        have hn : RT.reading s = none := by
          cases z : RT.reading s with
          | none => rfl
          | some x2 =>
            have := hr x2 z
            rw [e] at this
            injection this with this
            obtain ⟨_, r2, r3⟩ := RT.read_back z
            rw [this, all_cod r2, cod_len] at c'
            simp [r3] at c'
        rw [hn]
        simp only [sSeq_ap, sFor_ap, mIt_ap, bind_ok, itAny_lst, fin_some, so_ok, lp]
        simp [fi]
  have fin : (m_standing_in [some (.val (.str s)), none, none, none] h = match RT.reading s with | some x => .rt (std x) h | none => .exc ⟨8, none⟩ h) → (m_standing_in [some (.val (.str s)), none, none, none] h).res = match RT.reading s with | some x => .ok (std x) h | none => .exc ⟨8, none⟩ h := by
    intro e
    rw [e]
    cases RT.reading s <;> rfl
  refine fin ?_
  by_cases c : s = RT.nn
  · have r : RT.reading s = some [] := by unfold RT.reading; rw [if_pos c]
    rw [← key [] (fun _ z => nomatch z) fun x hx => by rw [r] at hx; cases hx; rfl]
    simp [m_standing_in, gIsi_str, c, RT.nn]
  · rw [← key (TL.spl [32] 0 [] s) (fun w hw => Nat.le_trans (spl_len hw) hs) fun x hx => by
      obtain ⟨rs, g, rfl, rfl⟩ := RT.read_some hx
      have ne : rs ≠ [] := fun z => c (by rw [z]; rfl)
      rw [RT.spl_txt ne g.po]
      exact SI_rs (x := []) g.po g.le]
    simp [m_standing_in, c, gs, show s ≠ [110, 111, 110, 101] from c]
end LW

namespace LW
open PySem L2 PySem.Spec PyProof.Rows DL DH DM DE DQ DB Mth
/-! ### a standing's text, as the law reads it -/
theorem cps_nil (x : Str) (lo hi : Nat) (h1 : lo ≤ hi) (h2 : hi ≤ x.length) : (Builtin.Str.strSub x lo hi).cps.toList = [] ↔ lo = hi := by
  show (x.cps.extract lo hi).toList = [] ↔ _
  rw [← List.length_eq_zero_iff, Array.length_toList, Array.size_extract]
  have : x.cps.size = x.length := rfl
  omega
theorem strip_lem (m : List Nat) : (Txt.stripChars ⟨m.toArray⟩ ⟨#[48, 49, 50, 51, 52, 53, 54, 55, 56, 57]⟩).cps.toList = [] ↔ m.all RT.dig = true := by
  have hg : ∀ c, (#[48, 49, 50, 51, 52, 53, 54, 55, 56, 57] : Array Nat).contains c = RT.dig c := fun c => by
    rw [← mem_digs, Bool.eq_iff_iff, decide_eq_true_eq]
    simp [digs]
  have hx : ∀ k, k < m.length → ∃ c, c ∈ m ∧ (⟨m.toArray⟩ : Str).cps.getD k 0 = c := fun k hk => ⟨m[k], List.getElem_mem hk, by simp [Array.getD, hk]⟩
  unfold Txt.stripChars
  rw [stripBy_eq]
  have hlen : (⟨m.toArray⟩ : Str).length = m.length := by simp [Str.length]
  obtain ⟨l1, l2, l3⟩ := lo_facts (#[48, 49, 50, 51, 52, 53, 54, 55, 56, 57] : Array Nat).contains ⟨m.toArray⟩
  obtain ⟨h1, h2, h3, h4⟩ := hi_facts (#[48, 49, 50, 51, 52, 53, 54, 55, 56, 57] : Array Nat).contains ⟨m.toArray⟩ _ l1
  rw [cps_nil _ _ _ h1 h2]
  rw [hlen] at l1 l3 h2 h3
  generalize stripLo (#[48, 49, 50, 51, 52, 53, 54, 55, 56, 57] : Array Nat).contains true ⟨m.toArray⟩ = lo at *
  generalize stripHi (#[48, 49, 50, 51, 52, 53, 54, 55, 56, 57] : Array Nat).contains true ⟨m.toArray⟩ lo = hi at *
  constructor
  · intro e
    rw [List.all_eq_true]
    intro c hc
    obtain ⟨k, hk, rfl⟩ := List.getElem_of_mem hc
    have hh : (⟨m.toArray⟩ : Str).cps.getD k 0 = m[k] := by simp [Array.getD, hk]
    rw [← hg, ← hh]
    by_cases c : k < lo
    · exact l2 k c
    · exact h3 k (by omega) hk
  · intro e
    rw [List.all_eq_true] at e
    rcases l3 with z | z
    · omega
    · by_cases c : lo < m.length
      · obtain ⟨q, hq, hq2⟩ := hx lo c
        rw [hg, hq2, e q hq] at z
        cases z
      · omega
theorem gStrip_dig {m : List Nat} (h : m.length ≤ big) : ∃ z, gStrip (.str m) (.str [48, 49, 50, 51, 52, 53, 54, 55, 56, 57]) = some (.str z) ∧ (z = [] ↔ m.all RT.dig = true) := by
  refine ⟨_, ?_, strip_lem m⟩
  show (if _ then _ else _) = _
  rw [if_pos h]
theorem dv_lt : ∀ (l : List Nat) (a : Nat), (∀ c ∈ l, c ≤ 57) → l.foldl (fun acc c => acc * 10 + (c - 48)) a < (a + 1) * 10 ^ l.length
  | [], a, _ => by simp
  | c :: l, a, h => by
    have h1 := h c List.mem_cons_self
    have ih := dv_lt l (a * 10 + (c - 48)) fun q hq => h q (List.mem_cons_of_mem _ hq)
    rw [List.foldl_cons, List.length_cons, Nat.pow_succ]
    refine Nat.lt_of_lt_of_le ih ?_
    rw [Nat.mul_comm (10 ^ l.length) 10, ← Nat.mul_assoc]
    exact Nat.mul_le_mul_right _ (by omega)
theorem dv_le {m : List Nat} (h : m.all RT.dig = true) (hl : m.length ≤ 4) : NumText.digitsVal m ≤ 9999 := by
  have := dv_lt m 0 fun c hc => (RT.all_dig h c hc).2
  have p : 10 ^ m.length ≤ 10 ^ 4 := Nat.pow_le_pow_right (by decide) hl
  show m.foldl _ 0 ≤ 9999
  omega
theorem rep_cod (k p : Nat) : rep (k : Int) [48 + p] = cod (List.replicate k p) := rep_str k p
theorem split2 (w : List Nat) : w = [] ∨ (∃ a, w = [a]) ∨ ∃ m a b, w = m ++ [a, b] := by
  rcases List.eq_nil_or_concat w with h | ⟨v, b, h⟩
  · exact .inl h
  · rcases List.eq_nil_or_concat v with g | ⟨m, a, g⟩
    · exact .inr (.inl ⟨b, by rw [h, g]; rfl⟩)
    · exact .inr (.inr ⟨m, a, b, by rw [h, g]; simp⟩)
theorem gSl_s (lo hi : Option Int) (s : List Nat) : gSl lo hi (.str s) = if s.length ≤ big then some (.str (cutL s lo hi)) else none := rfl
theorem sIx_neg (n d : Nat) {v : Int} (h : v < 0) : HT.sIx n d (some v) = (v + (n : Int)).toNat := by
  show (if v < 0 then (v + (n : Int)).toNat else min v.toNat n) = _
  rw [if_pos h]
theorem sl_21 {m : List Nat} {a b : Nat} (h : (m ++ [a, b]).length ≤ big) : gSl (some (-2)) (some (-1)) (.str (m ++ [a, b])) = some (.str [a]) := by
  show (if _ then _ else _) = _
  rw [if_pos h]
  have e1 : HT.sIx (m ++ [a, b]).length 0 (some (-2)) = m.length := by
    rw [sIx_neg _ _ (by decide)]; simp only [List.length_append, List.length_cons, List.length_nil]; omega
  have e2 : HT.sIx (m ++ [a, b]).length (m ++ [a, b]).length (some (-1)) = m.length + 1 := by
    rw [sIx_neg _ _ (by decide)]; simp only [List.length_append, List.length_cons, List.length_nil]; omega
  unfold cutL
  rw [e1, e2, List.drop_left]
  simp
theorem sl_1 {m : List Nat} {a b : Nat} (h : (m ++ [a, b]).length ≤ big) : gSl (some (-1)) none (.str (m ++ [a, b])) = some (.str [b]) := by
  show (if _ then _ else _) = _
  rw [if_pos h]
  have e1 : HT.sIx (m ++ [a, b]).length 0 (some (-1)) = (m ++ [a]).length := by
    rw [sIx_neg _ _ (by decide)]; simp only [List.length_append, List.length_cons, List.length_nil]; omega
  have e3 : m ++ [a, b] = (m ++ [a]) ++ [b] := by simp
  unfold cutL
  rw [e1]
  show some (D.str (((m ++ [a, b]).drop (m ++ [a]).length).take ((m ++ [a, b]).length - (m ++ [a]).length))) = _
  rw [e3, List.drop_left]
  simp
theorem sl_2 {m : List Nat} {a b : Nat} (h : (m ++ [a, b]).length ≤ big) : gSl none (some (-2)) (.str (m ++ [a, b])) = some (.str m) := by
  show (if _ then _ else _) = _
  rw [if_pos h]
  have e2 : HT.sIx (m ++ [a, b]).length (m ++ [a, b]).length (some (-2)) = m.length := by
    rw [sIx_neg _ _ (by decide)]; simp only [List.length_append, List.length_cons, List.length_nil]; omega
  unfold cutL
  rw [e2]
  show some (D.str (((m ++ [a, b]).drop 0).take (m.length - 0))) = _
  simp
theorem ix_1 {m : List Nat} {a b : Nat} (h : (m ++ [a, b]).length ≤ big) : gIx (.str (m ++ [a, b])) (.int (-1)) = some (.str [b]) := by
  show (if (m ++ [a, b]).length ≤ big then (match atI (m ++ [a, b]) (-1) with | some x => some (D.str [x]) | none => none) else none) = _
  rw [if_pos h]
  have : atI (m ++ [a, b]) (-1) = some b := by
    unfold atI ixN
    simp only [List.length_append, List.length_cons, List.length_nil]
    rw [if_neg (by omega), if_pos (by omega)]
    have e : (-1 + ((m.length + (0 + 1 + 1) : Nat) : Int)).toNat = m.length + 1 := by omega
    rw [e]
    simp
  rw [this]
def lastL : Option Nat → List Nat
  | none => []
  | some p => [48 + p]
theorem isNotIn_P (a : Nat) : gNotIn (.str [a]) (.tup [.str [48], .str [49], .str [50]]) = some (.bl (!isP a)) := by
  have := isIn_P a
  unfold gIn at this
  unfold gNotIn
  split at this
  · rename_i b e; injection this with this; injection this with this; rw [this]
  · cases this
def RStep (l : Option Nat) (x : List Nat) (w : List Nat) : Option (List Nat × Nat) := match RT.prs w with
  | none => none
  | some r => if l = some r.2 then none else if 1000 < (x ++ List.replicate r.1 r.2).length then none else some (x ++ List.replicate r.1 r.2, r.2)
theorem r_step {l : Option Nat} {x w : List Nat} (A z4 : Option SV) (hw : w.length ≤ 5000) (hx : x.length ≤ 1000) (h : Cells) :
    ∃ y4, b__law_reading_0 [A, some (.val (.str (cod x))), some (.val (.str (lastL l))), some (.val (.str w)), z4] h = match RStep l x w with | none => .rt .non h | some (y, p) => .nx [A, some (.val (.str (cod y))), some (.val (.str (lastL (some p)))), some (.val (.str w)), y4] h := by
  rcases split2 w with rfl | ⟨a, rfl⟩ | ⟨m, a, b, rfl⟩
  · have e : RStep l x [] = none := by simp [RStep, RT.prs]
    rw [e]
    have g : gSl (some (-2)) (some (-1)) (.str []) = some (.str []) := by rw [gSl_s, if_pos (by unfold big; simp)]; rfl
    refine ⟨z4, ?_⟩
    simp [b__law_reading_0_ap, g]
  · have e : RStep l x [a] = none := by simp [RStep, RT.prs]
    rw [e]
    have g : gSl (some (-2)) (some (-1)) (.str [a]) = some (.str []) := by
      rw [gSl_s, if_pos (by unfold big; simp)]
      rfl
    refine ⟨z4, ?_⟩
    simp [b__law_reading_0_ap, g]
  · have hb : (m ++ [a, b]).length ≤ big := by unfold big; omega
    have s1 := sl_21 hb; have s2 := sl_1 hb; have s3 := sl_2 hb; have s4 := ix_1 hb
    have hm : m.length ≤ 4998 := by simp only [List.length_append, List.length_cons, List.length_nil] at hw; omega
    have hp := RT.prs_two m a b
    obtain ⟨st, g1, g2⟩ := gStrip_dig (m := m) (by unfold big; omega)
    have gl := gLen_str (s := m) (by unfold big; omega)
    have vw : ∀ s : List Nat, view h (.d (.str s)) = some (.str s) := fun s => rfl
    refine ⟨some (.val (.str m)), ?_⟩
    by_cases cond : [a, b] ∈ [[120, 48], [120, 49], [120, 50]] ∧ m ≠ [] ∧ m.head? ≠ some 48 ∧ m.all RT.dig = true ∧ m.length ≤ 4
    · obtain ⟨c1, c2, c3, c4, c5⟩ := cond
      rw [if_pos ⟨c1, c2, c3, c4, c5⟩] at hp
      have ha : a = 120 := by simp at c1; omega
      have hbp : isP b = true := by simp at c1; simp [isP]; omega
      have hb3 : 48 ≤ b ∧ b ≤ 50 := by simp at c1; omega
      subst ha
      have eb : b = 48 + (b - 48) := by omega
      have nin := isNotIn_P b
      rw [hbp] at nin
      have est : st = [] := g2.mpr c4
      subst est
      have gi := int_dig c2 c5 c4
      have dv := dv_le c4 c5
      obtain ⟨m0, mr, em⟩ : ∃ m0 mr, m = m0 :: mr := by cases m with | nil => exact absurd rfl c2 | cons u v => exact ⟨u, v, rfl⟩
      have hm0 : ¬ (m0 = 48) := fun z => c3 (by rw [em, z]; rfl)
      have x0 : gIx (.str m) (.int 0) = some (.str [m0]) := gIx_str (j := 0) (by unfold big; omega) (by rw [em]; rfl)
      generalize NumText.digitsVal m = v at *
      have gm : gMul (.str [b]) (.int (v : Nat)) = some (.str (cod (List.replicate v (b - 48)))) := by
        show (if _ then _ else _) = _
        rw [if_pos ⟨by rw [Int.natAbs_natCast]; omega, by rw [Int.toNat_natCast]; simp; unfold big; omega⟩, ← rep_cod, ← eb]
      have gd : DL.gAdd (.str (cod x)) (.str (cod (List.replicate v (b - 48)))) = some (.str (cod (x ++ List.replicate v (b - 48)))) := by
        rw [cod_app]
        exact gAdd_str (by rw [cod_len, cod_len, List.length_replicate]; unfold big; omega)
      have gn := gLen_str (s := cod (x ++ List.replicate v (b - 48))) (by rw [cod_len, List.length_append, List.length_replicate]; unfold big; omega)
      rw [cod_len] at gn
      have es : RStep l x (m ++ [120, b]) = if l = some (b - 48) then none else if 1000 < (x ++ List.replicate v (b - 48)).length then none else some (x ++ List.replicate v (b - 48), b - 48) := by
        unfold RStep; rw [hp]
      rw [es]
      have le4 : ¬ (4 : Int) < (m.length : Int) := by omega
      have el2 : lastL (some (b - 48)) = [b] := by show [48 + (b - 48)] = [b]; rw [← eb]
      generalize m ++ [120, b] = W at *
      generalize x ++ List.replicate v (b - 48) = X at *
      by_cases cl : l = some (b - 48)
      · have el : lastL l = [b] := by rw [cl]; exact el2
        rw [if_pos cl]
        simp [b__law_reading_0_ap, s1, s2, nin, el]
      · have el : ¬ ([b] = lastL l) := by
          intro z
          cases l with
          | none => cases z
          | some p =>
            apply cl
            injection z with z
            congr 1; omega
        rw [if_neg cl]
        by_cases c6 : 1000 < X.length
        · have c6' : (1000 : Int) < (X.length : Int) := by omega
          rw [if_pos c6]
          simp [b__law_reading_0_ap, s1, s2, s3, s4, nin, el, c2, x0, hm0, g1, gl, le4, gi, gm, gd, gn, c6']
        · have c6' : ¬ (1000 : Int) < (X.length : Int) := by omega
          rw [if_neg c6]
          simp [b__law_reading_0_ap, s1, s2, s3, s4, nin, el, c2, x0, hm0, g1, gl, le4, gi, gm, gd, gn, c6', el2]
    · rw [if_neg cond] at hp
      have es : RStep l x (m ++ [a, b]) = none := by unfold RStep; rw [hp]
      rw [es]
      have nin := isNotIn_P b
      have cond2 : a = 120 → isP b = true → [a, b] ∈ [[120, 48], [120, 49], [120, 50]] := fun h1 h2 => by
        simp [isP] at h2
        simp [h1]
        omega
      generalize m ++ [a, b] = W at *
      by_cases c1 : a = 120
      · cases c2 : isP b with
        | false =>
          rw [c2] at nin
          simp [b__law_reading_0_ap, s1, s2, nin, c1]
        | true =>
          rw [c2] at nin
          by_cases c3 : [b] = lastL l
          · rw [← c3]
            simp [b__law_reading_0_ap, s1, s2, nin, c1]
          · cases em : m with
            | nil =>
              rw [em] at s3
              simp [b__law_reading_0_ap, s1, s2, s3, nin, c1, c3]
            | cons m0 mr =>
              rw [← em]
              have hne : m ≠ [] := by rw [em]; exact List.cons_ne_nil _ _
              have x0 : gIx (.str m) (.int 0) = some (.str [m0]) := gIx_str (j := 0) (by unfold big; omega) (by rw [em]; rfl)
              by_cases c4 : m0 = 48
              · simp [b__law_reading_0_ap, s1, s2, s3, nin, c1, c3, hne, x0, c4]
              · by_cases c5 : st = []
                · have c6 : (4 : Int) < (m.length : Int) := by
                    by_cases c7 : m.length ≤ 4
                    · exact absurd ⟨cond2 c1 c2, hne, (fun z => c4 (by rw [em] at z; injection z)), g2.mp c5, c7⟩ cond
                    · omega
                  simp [b__law_reading_0_ap, s1, s2, s3, nin, c1, c3, hne, x0, c4, g1, c5, gl, c6]
                · simp [b__law_reading_0_ap, s1, s2, s3, nin, c1, c3, hne, x0, c4, g1, c5]
      · simp [b__law_reading_0_ap, s1, c1]
/-! the whole text -/
theorem LR_cons (w : List Nat) (ws : List (List Nat)) (x : List Nat) (l : Option Nat) : RT.LR (w :: ws) x l = match RStep l x w with | none => none | some (y, p) => RT.LR ws y (some p) := by
  show (match RT.prs w with | none => none | some r => _) = _
  unfold RStep
  cases RT.prs w with
  | none => rfl
  | some r =>
    simp only
    split
    · rfl
    · split
      · rfl
      · rfl
theorem RStep_len {l : Option Nat} {x w y : List Nat} {p : Nat} (h : RStep l x w = some (y, p)) : y.length ≤ 1000 := by
  unfold RStep at h
  split at h
  · cases h
  · split at h
    · cases h
    · split at h
      · cases h
      · injection h with h; injection h with h h2; subst h; omega
theorem r_loop (A : Option SV) (h : Cells) : ∀ (ws : List (List Nat)) (x : List Nat) (l : Option Nat) (z3 z4 : Option SV), (∀ w ∈ ws, w.length ≤ 5000) → x.length ≤ 1000 →
    ∃ y2 y3 y4, sLoop (tgN 3) b__law_reading_0 (ws.map D.str) [A, some (.val (.str (cod x))), some (.val (.str (lastL l))), z3, z4] h = match RT.LR ws x l with | none => .rt .non h | some y => .nx [A, some (.val (.str (cod y))), y2, y3, y4] h
  | [], x, l, z3, z4, _, _ => ⟨_, z3, z4, rfl⟩
  | w :: ws, x, l, z3, z4, hw, hx => by
    obtain ⟨y4, st⟩ := r_step (l := l) A z4 (hw w List.mem_cons_self) hx h
    rw [LR_cons]
    cases e : RStep l x w with
    | none =>
      rw [e] at st
      refine ⟨none, none, none, ?_⟩
      show sLoop _ _ (D.str w :: ws.map D.str) _ h = _
      rw [sLoop_cons]
      simp only [tgN_ap, List.set_cons_succ, List.set_cons_zero]
      rw [st]
      rfl
    | some yp =>
      obtain ⟨y, p⟩ := yp
      rw [e] at st
      obtain ⟨y2, y3, y4', ih⟩ := r_loop A h ws y (some p) (some (.val (.str w))) y4 (fun q hq => hw q (List.mem_cons_of_mem _ hq)) (RStep_len e)
      refine ⟨y2, y3, y4', ?_⟩
      show sLoop _ _ (D.str w :: ws.map D.str) _ h = _
      rw [sLoop_cons]
      simp only [tgN_ap, List.set_cons_succ, List.set_cons_zero]
      rw [st]
      exact ih
def rdD (s : List Nat) : D := match RT.reading s with
  | some x => std x
  | none => .non
theorem f_reading {s : List Nat} (hs : s.length ≤ 5000) (h : Cells) : F__law_reading [.str s] h = .ok (rdD s) h := by
  rw [F__law_reading_ap]
  by_cases c : s = RT.nn
  · have r : rdD s = .str [] := by unfold rdD RT.reading; rw [if_pos c]; rfl
    rw [r]
    simp [m__law_reading, c, RT.nn]
  · have gs : gSplit (.str s) (.str [32]) = some (.lst ((TL.spl [32] 0 [] s).map D.str)) := by
      show (if _ then _ else _) = _
      rw [if_pos ⟨by simp, by simp, by unfold big; omega⟩]
    obtain ⟨y2, y3, y4, lp⟩ := r_loop (some (.val (.str s))) h (TL.spl [32] 0 [] s) [] none none none (fun w hw => Nat.le_trans (spl_len hw) hs) (by simp)
    have lp' : sLoop (tgN 3) b__law_reading_0 ((TL.spl [32] 0 [] s).map D.str) [some (.val (.str s)), some (.val (.str [])), some (.val (.str [])), none, none] h = _ := lp
    have r : RT.LR (TL.spl [32] 0 [] s) [] none = RT.reading s := by unfold RT.reading; rw [if_neg c]
    rw [r] at lp'
    unfold rdD
    cases e : RT.reading s with
    | none =>
      rw [e] at lp'
      simp [m__law_reading, gs, show s ≠ [110, 111, 110, 101] from c, lp']
    | some y =>
      rw [e] at lp'
      simp [m__law_reading, gs, show s ≠ [110, 111, 110, 101] from c, lp']
end LW

namespace LW
open PySem L2 PySem.Spec PyProof.Rows DL DH DM DE DQ DB Mth
/-! ### bent texts -/
@[simp] theorem sPar2S_ap (i j : Nat) (ma mo me : M D) (ρ : DL.Env) (h : Cells) : sPar2S i j ma mo me ρ h = SO.of (ma ρ h) fun x h1 => SO.of (mo ρ h1) fun s h2 => match s with
  | .str _ => SO.of (me ρ h2) fun t h3 => match gSplit s t with
    | some (.lst ds) => .nx ((ρ.set i (some (.val x))).set j (some (.own (.lst ds)))) h3
    | _ => .stuck
  | _ => .stuck := id rfl
@[simp] theorem sOwnSet_ap (i : Nat) (mi me : M D) (ρ : DL.Env) (h : Cells) : sOwnSet i mi me ρ h = SO.of (me ρ h) fun d h1 => match ρ[i]? with
  | some (some (.own (.lst ds))) => SO.of (mi ρ h1) fun k h2 => match k with
    | .int n => match ixN ds.length n with
      | some j => .nx (ρ.set i (some (.own (.lst (ds.set j d))))) h2
      | none => .stuck
    | _ => .stuck
  | _ => .stuck := id rfl
theorem Dk.app {h : Cells} {n t : Nat} (d : Dk h n t) (x : Cells) : Dk (h ++ x) n t := by
  obtain ⟨a, b, t0, h1, h2, h3, h4, h5⟩ := d
  exact ⟨a, b, t0, by rw [List.getElem?_append_left (List.getElem?_eq_some_iff.mp h1).1]; exact h1, h2, h3, h4, h5⟩
theorem f_one {h : Cells} {n t : Nat} (d : Dk h n t) (ht : t < 1099511627776) {ds : List D} (hl : 0 < ds.length) (hb : ds.length ≤ 1000) : Gets (F__law_one [.cel n, .lst ds] h) fun r h' => r ∈ ds ∧ Dk h' n (t + 1) := by
  rw [F__law_one_ap]
  obtain ⟨r, h1, e1, d1, k, rfl, hk⟩ := (f_pick d ht (size := ds.length) hl (by omega)).of
  have g : gIx (.lst ds) (.int (k : Nat)) = some ds[k] := gIx_lst (by rw [List.getElem?_eq_getElem hk])
  simp [m__law_one, e1, g]
  exact d1
theorem ixN_at {n j : Nat} (h : j < n) : ixN n (j : Int) = some j := by
  unfold ixN
  simp [h]
theorem spl_ne (c : Nat) : ∀ (l acc : List Nat), TL.spl [c] 0 acc l ≠ []
  | [], acc => by rw [TL.spl_nil]; simp
  | a :: l, acc => by
    cases h : TL.pre [c] (a :: l) with
    | true => rw [TL.spl_hit h]; simp
    | false => rw [TL.spl_miss h]; exact spl_ne c l _
theorem join_len_eq (c : Nat) : ∀ {l : List (List Nat)}, l ≠ [] → (TL.joinL [c] l).length + 1 = sumLen l + l.length
  | [], h => absurd rfl h
  | [a], _ => by simp [TL.joinL, sumLen]
  | a :: b :: l, _ => by
    have ih := join_len_eq c (l := b :: l) (by simp)
    simp [TL.joinL, sumLen] at ih ⊢
    omega
theorem sum_spl (s : List Nat) : sumLen (TL.spl [32] 0 [] s) + (TL.spl [32] 0 [] s).length = s.length + 1 := by
  rw [← join_len_eq 32 (spl_ne 32 s []), RT.join_spl]
  rfl
theorem sumLen_app (a b : List (List Nat)) : sumLen (a ++ b) = sumLen a + sumLen b := by simp [sumLen]
theorem sumLen_cons (a : List Nat) (b : List (List Nat)) : sumLen (a :: b) = a.length + sumLen b := by simp [sumLen]
theorem sumLen_rev (a : List (List Nat)) : sumLen a.reverse = sumLen a := by simp [sumLen, List.sum_reverse]
theorem sumLen_set : ∀ (l : List (List Nat)) (j : Nat) (w : List Nat), sumLen (l.set j w) ≤ sumLen l + w.length
  | [], j, w => by simp [sumLen]
  | a :: l, 0, w => by rw [List.set_cons_zero, sumLen_cons, sumLen_cons]; omega
  | a :: l, j + 1, w => by
    have := sumLen_set l j w
    rw [List.set_cons_succ, sumLen_cons, sumLen_cons]
    omega
theorem sumLen_cut (l : List (List Nat)) (k : Nat) : sumLen (l.take k ++ l.drop (k + 1)) ≤ sumLen l ∧ (l.take k ++ l.drop (k + 1)).length ≤ l.length := by
  constructor
  · have h1 : sumLen l = sumLen (l.take k) + sumLen (l.drop k) := by rw [← sumLen_app, List.take_append_drop]
    have h2 : sumLen (l.drop (k + 1)) ≤ sumLen (l.drop k) := by
      rw [show l.drop (k + 1) = (l.drop k).drop 1 by rw [List.drop_drop]]
      cases l.drop k with
      | nil => simp
      | cons a r => rw [List.drop_succ_cons, List.drop_zero, sumLen_cons]; omega
    rw [sumLen_app]; omega
  · simp; omega
theorem join_le (l : List (List Nat)) : (TL.joinL [32] l).length ≤ sumLen l + l.length := by
  have := join_len [32] l
  simpa using this
theorem gLst_8 (a b c d e f g i : D) : DL.gLst [a, b, c, d, e, f, g, i] = some (.lst [a, b, c, d, e, f, g, i]) := gLst_le (by show 8 ≤ big; decide)
theorem gLst_10 (a b c d e f g h i j : D) : DL.gLst [a, b, c, d, e, f, g, h, i, j] = some (.lst [a, b, c, d, e, f, g, h, i, j]) := gLst_le (by show 10 ≤ big; decide)
theorem set_map (l : List (List Nat)) (j : Nat) (w : List Nat) : (l.map D.str).set j (.str w) = (l.set j w).map D.str := by rw [List.map_set]
theorem f_bent {h : Cells} {n t : Nat} {s : List Nat} (d : Dk h n t) (ht : t + 10 < 1099511627776) (hs : s.length ≤ 4000) : Gets (F__law_bent [.cel n, .str s] h) fun r h' => Dk h' n (t + 10) ∧ ∃ s', r = .str s' ∧ s'.length ≤ s.length + 10 := by
  rw [F__law_bent_ap]
  have hb : s.length ≤ big := by unfold big; omega
  have gs : gSplit (.str s) (.str [32]) = some (.lst ((TL.spl [32] 0 [] s).map D.str)) := by
    show (if _ then _ else _) = _
    rw [if_pos ⟨by simp, by simp, by unfold big; omega⟩]
  have sm := sum_spl s
  have hne := spl_ne 32 s []
  generalize TL.spl [32] 0 [] s = ws at *
  have hwl : 0 < ws.length := List.length_pos_iff.mpr hne
  have gl := gLen_str hb
  obtain ⟨_, h1, e1, d1, k, rfl, hk⟩ := (f_pick d (by omega) (size := s.length + 1) (by omega) (by omega)).of
  have e1' : F__law_pick [.cel n, .int ((s.length : Int) + 1)] h = .ok (.int (k : Nat)) h1 := e1
  obtain ⟨_, h2, e2, d2, sp, rfl, hsp⟩ := (f_pick d1 (by omega) (size := ws.length) hwl (by omega)).of
  obtain ⟨_, h3, e3, d3, wy, rfl, hwy⟩ := (f_pick d2 (by omega) (size := 5) (by omega) (by omega)).of
  have e3' : F__law_pick [.cel n, .int 5] h2 = .ok (.int (wy : Nat)) h3 := e3
  have vO : ∀ h l, view h (.o (.lst l)) = some (.lst l) := fun _ _ => rfl
  have glw : gLen (.lst (ws.map D.str)) = some (.int (ws.length : Nat)) := by
    show some (D.int ((ws.map D.str).length : Nat)) = _
    rw [List.length_map]
  have t1 := gSl_take hb k
  have t2 := gSl_drop hb k
  have t3 : gSl (some ((k : Int) + 1)) none (.str s) = some (.str (s.drop (k + 1))) := gSl_drop hb (k + 1)
  by_cases w0 : wy = 0
  · subst w0
    obtain ⟨r, h4, e4, m4, d4⟩ := (f_one d3 (by omega) (ds := [.str [32], .str [49], .str [120], .str [48], .str [50], .str [51], .str [10], .str [45]]) (by simp) (by simp)).of
    have hr : ∃ c, r = .str [c] := by
      simp only [List.mem_cons, List.not_mem_nil, or_false] at m4
      rcases m4 with rfl | rfl | rfl | rfl | rfl | rfl | rfl | rfl <;> exact ⟨_, rfl⟩
    obtain ⟨c, rfl⟩ := hr
    have hkl : (s.take k).length + (s.drop k).length = s.length := by rw [← List.length_append, List.take_append_drop]
    have a1 : DL.gAdd (.str (s.take k)) (.str [c]) = some (.str (s.take k ++ [c])) := gAdd_str (by simp only [List.length_cons, List.length_nil]; unfold big; omega)
    have a2 : DL.gAdd (.str (s.take k ++ [c])) (.str (s.drop k)) = some (.str (s.take k ++ [c] ++ s.drop k)) := gAdd_str (by rw [List.length_append]; simp only [List.length_cons, List.length_nil]; unfold big; omega)
    simp only [m__law_bent, sSeq_ap]
    simp [gl, e1', gs, e2, glw, vO, e3', gLst_8, e4, t1, t2, a1, a2, -List.append_assoc]
    refine ⟨d4.mono (by omega), ?_⟩
    omega
  by_cases w1 : wy = 1
  · subst w1
    have a1 : DL.gAdd (.str (s.take k)) (.str (s.drop (k + 1))) = some (.str (s.take k ++ s.drop (k + 1))) := gAdd_str (by simp; unfold big; omega)
    simp only [m__law_bent, sSeq_ap]
    simp [gl, e1', gs, e2, glw, vO, e3', t1, t3, a1]
    refine ⟨d3.mono (by omega), ?_⟩
    omega
  by_cases w2 : wy = 2
  · subst w2
    have l1 : gSl none (some (sp : Int)) (.lst (ws.map D.str)) = some (.lst ((ws.take sp).map D.str)) := by rw [gSlL_take, List.map_take]
    have l2 : gSl (some ((sp : Int) + 1)) none (.lst (ws.map D.str)) = some (.lst ((ws.drop (sp + 1)).map D.str)) := by
      have := gSlL_drop (ws.map D.str) (sp + 1)
      rw [← List.map_drop] at this
      exact this
    obtain ⟨c1, c2⟩ := sumLen_cut ws sp
    have a1 : DL.gAdd (.lst ((ws.take sp).map D.str)) (.lst ((ws.drop (sp + 1)).map D.str)) = some (.lst ((ws.take sp ++ ws.drop (sp + 1)).map D.str)) := by
      show (if _ then _ else _) = _
      rw [List.length_append] at c2
      rw [if_pos (by rw [List.length_map, List.length_map]; unfold big; omega), List.map_append]
    generalize ws.take sp ++ ws.drop (sp + 1) = L at *
    have jn := gJoin_sp (l := L) (by unfold big; omega)
    have jl := join_le L
    simp only [m__law_bent, sSeq_ap]
    simp [gl, e1', gs, e2, glw, vO, e3', l1, l2, a1, jn, -List.map_take, -List.map_drop]
    refine ⟨d3.mono (by omega), ?_⟩
    omega
  by_cases w3 : wy = 3
  · subst w3
    obtain ⟨r, h4, e4, m4, d4⟩ := (f_one d3 (by omega) (ds := [.str [49, 120, 48], .str [50, 120, 49], .str [48, 120, 50], .str [48, 49, 120, 49], .str [51, 120, 51], .str [120, 49], .str [49, 120], .str [110, 111, 110, 101], .str [], .str [57, 57, 57, 120, 50]]) (by simp) (by simp)).of
    have hr : ∃ c : List Nat, r = .str c ∧ c.length ≤ 5 := by
      simp only [List.mem_cons, List.not_mem_nil, or_false] at m4
      rcases m4 with rfl | rfl | rfl | rfl | rfl | rfl | rfl | rfl | rfl | rfl <;> exact ⟨_, rfl, by simp⟩
    obtain ⟨c, rfl, hc⟩ := hr
    have c1 := sumLen_set ws sp c
    have jn := gJoin_sp (l := ws.set sp c) (by rw [List.length_set]; unfold big; omega)
    have jl := join_le (ws.set sp c)
    rw [List.length_set] at jl
    simp only [m__law_bent, sSeq_ap]
    simp [gl, e1', gs, e2, glw, vO, e3', gLst_10, e4, ixN_at hsp, set_map, jn, frzE, -List.map_set]
    refine ⟨d4.mono (by omega), ?_⟩
    omega
  · have w4 : wy = 4 := by omega
    subst w4
    have rv : gRev2 (.lst (ws.map D.str)) = some (.lst (ws.reverse.map D.str)) := by
      show some (D.lst (ws.map D.str).reverse) = _
      rw [List.map_reverse]
    have jn := gJoin_sp (l := ws.reverse) (by rw [List.length_reverse, sumLen_rev]; unfold big; omega)
    have jl := join_le ws.reverse
    rw [List.length_reverse, sumLen_rev] at jl
    simp only [m__law_bent, sSeq_ap]
    simp [gl, e1', gs, e2, glw, vO, e3', rv, jn, -List.map_reverse]
    refine ⟨d3.mono (by omega), ?_⟩
    omega
end LW

namespace LW
open PySem L2 PySem.Spec PyProof.Rows DL DH DM DE DQ DB Mth
/-! ### the program's own calls -/
@[simp] theorem tryO2_0 (h : Cells) : tryO2 (.exc ⟨0, none⟩ h) = .ok (.str [115, 116, 97, 110, 100, 105, 110, 103, 32, 43]) h := id rfl
@[simp] theorem tryO2_8 (h : Cells) : tryO2 (.exc ⟨8, none⟩ h) = .ok (.str [116, 101, 120, 116, 32, 43]) h := id rfl
theorem f_standing_text {x : List Nat} (ok : Mth.Ok x) (hl : x.length ≤ 1000) (h : Cells) : F_standing_text [std x] h = .ok (.str (RT.wr x)) h := by
  rw [F_standing_text_ap]
  simp [m_standing_text, f_need_standing ok hl, f_text_of hl]
theorem f_text_3 (h : Cells) : F_standing_text [.str [51]] h = .exc ⟨0, none⟩ h := by
  rw [F_standing_text_ap]
  have n2 : F_need_standing [.str [51]] h = .exc ⟨0, none⟩ h := f_need_bad (f_isv_str (s := [51]) (by decide) h)
  simp [m_standing_text, n2]
theorem f_read {s : List Nat} (hs : s.length ≤ 5000) (h : Cells) : F_read_standing [.str s] h = match RT.reading s with | some x => .ok (std x) h | none => .exc ⟨8, none⟩ h := by
  rw [F_read_standing_ap]
  have e := f_standing_in hs h
  cases c : RT.reading s with
  | none => rw [c] at e; simp [m_read_standing, e]
  | some x => rw [c] at e; simp [m_read_standing, e]
theorem f_sin_not {d : D} (hd : gIsi [d, .ty "str"] = some (.bl false)) (h : Cells) : F_standing_in [d] h = .exc ⟨8, none⟩ h := by
  rw [F_standing_in_ap]
  simp [m_standing_in, hd]
theorem f_read_not {d : D} (hd : gIsi [d, .ty "str"] = some (.bl false)) (h : Cells) : F_read_standing [d] h = .exc ⟨8, none⟩ h := by
  rw [F_read_standing_ap]
  simp [m_read_standing, f_sin_not hd]
/-! standings as objects -/
def rgs (x : List Nat) : MO := .ins 14 [("row", std x)]
theorem f_init {x : List Nat} (ok : Mth.Ok x) (hl : x.length ≤ 1000) (h : Cells) : F_Rings_init [.cel h.length, std x] (h ++ [.ins 14 []]) = .ok .non (h ++ [rgs x]) := by
  rw [F_Rings_init_ap]
  have i : insOf 14 (h ++ [.ins 14 []]) (.cel h.length) = some [] := by
    simp [insOf]
  simp [m_Rings_init, f_need_standing ok hl, sFldS, i, putD, rgs]
theorem f_Rread {s : List Nat} (hs : s.length ≤ 5000) (h : Cells) : F_Rings_read [.glb 14, .str s] h = match RT.reading s with | some x => .ok (.cel h.length) (h ++ [rgs x]) | none => .exc ⟨8, none⟩ h := by
  rw [F_Rings_read_ap]
  have e := f_standing_in hs h
  cases c : RT.reading s with
  | none => rw [c] at e; simp [m_Rings_read, mMkV, mMk, e]
  | some x =>
    rw [c] at e
    obtain ⟨_, r2, r3⟩ := RT.read_back c
    simp [m_Rings_read, mMkV, mMk, e, mkT, f_init r2 r3]
theorem f_Rread_not {d : D} (hd : gIsi [d, .ty "str"] = some (.bl false)) (h : Cells) : F_Rings_read [.glb 14, d] h = .exc ⟨8, none⟩ h := by
  rw [F_Rings_read_ap]
  simp [m_Rings_read, mMkV, mMk, f_sin_not hd]
theorem ins_at (h : Cells) (x : List Nat) : insOf 14 (h ++ [rgs x]) (.cel h.length) = some [(("row" : Str), std x)] := by
  simp [insOf, rgs]
theorem f_source (h : Cells) (x : List Nat) : F_Rings_source [.cel h.length] (h ++ [rgs x]) = .ok (std x) (h ++ [rgs x]) := by
  rw [F_Rings_source_ap]
  have lk : ([(("row" : Str), std x)] : List (Str × D)).lookup ("row" : Str) = some (std x) := by rw [List.lookup_cons, beq_self_eq_true]
  simp [m_Rings_source, mFld, ins_at, lk]
theorem wr_le {x : List Nat} (hl : x.length ≤ 1000) : (RT.wr x).length ≤ 7 * x.length + 4 := by
  unfold RT.wr RT.txt
  split
  · simp [RT.nn]
  · have h1 := rl_len x
    have h2 := sum_le (l := (RT.rl x).map RT.wd) (k := 6) fun w hw => by
      obtain ⟨r, hr, rfl⟩ := List.mem_map.mp hw
      exact wd_len (Nat.le_trans (rl_cnt hr) hl)
    have h3 := join_le ((RT.rl x).map RT.wd)
    rw [List.length_map] at h2 h3
    omega
theorem f_str {x : List Nat} (hl : x.length ≤ 1000) (h : Cells) : F_Rings_str [.cel h.length] (h ++ [rgs x]) = .ok (.str (RT.wr x)) (h ++ [rgs x]) := by
  rw [F_Rings_str_ap]
  have lk : ([(("row" : Str), std x)] : List (Str × D)).lookup ("row" : Str) = some (std x) := by rw [List.lookup_cons, beq_self_eq_true]
  have gf := gFmt_str (s := RT.wr x) (by have := wr_le hl; unfold big; omega)
  simp [m_Rings_str, mFld, ins_at, lk, f_text_of hl, gf]
theorem src_ap {ρ : DL.Env} {s x : List Nat} {h : Cells} (e : ρ[5]? = some (some (.val (.str s)))) (hs : s.length ≤ 5000) (r : RT.reading s = some x) : mProp 14 F_Rings_source (mCM 14 F_Rings_read (mCons (mVar 5) mNil)) ρ h = .ok (std x) (h ++ [rgs x]) := by
  have f := f_Rread hs h
  rw [r] at f
  simp [mProp, mCM, e, f, ins_at, f_source]
theorem str_ap {ρ : DL.Env} {s x : List Nat} {h : Cells} (e : ρ[5]? = some (some (.val (.str s)))) (hs : s.length ≤ 5000) (r : RT.reading s = some x) (hl : x.length ≤ 1000) : mStrO 14 F_Rings_str (mCM 14 F_Rings_read (mCons (mVar 5) mNil)) ρ h = .ok (.str (RT.wr x)) (h ++ [rgs x]) := by
  have f := f_Rread hs h
  rw [r] at f
  simp [mStrO, mCM, e, f, ins_at, f_str hl]
/-! what the texts are made of -/
theorem mem_join {c : Nat} {s : List Nat} : ∀ {l : List (List Nat)}, c ∈ TL.joinL s l → c ∈ s ∨ ∃ w ∈ l, c ∈ w
  | [], h => by simp [TL.joinL] at h
  | [a], h => by
    simp [TL.joinL] at h
    exact .inr ⟨a, by simp, h⟩
  | a :: b :: l, h => by
    simp only [TL.joinL, List.mem_append] at h
    rcases h with h | h | h
    · exact .inr ⟨a, by simp, h⟩
    · exact .inl h
    · rcases mem_join (l := b :: l) h with h | ⟨w, hw, hc⟩
      · exact .inl h
      · exact .inr ⟨w, List.mem_cons_of_mem _ hw, hc⟩
theorem wd_lt {r : RT.Rn} (h : r.2 < 3) {c : Nat} (hc : c ∈ RT.wd r) : c < 128 := by
  unfold RT.wd at hc
  rcases List.mem_append.mp hc with z | z
  · have := TL.numL_digits _ c z
    omega
  · simp at z; omega
theorem wr_lt {x : List Nat} (ok : Mth.Ok x) {c : Nat} (hc : c ∈ RT.wr x) : c < 128 := by
  unfold RT.wr RT.txt at hc
  split at hc
  · simp [RT.nn] at hc; omega
  · rcases mem_join hc with h | ⟨w, hw, hc⟩
    · simp at h; omega
    · obtain ⟨r, hr, rfl⟩ := List.mem_map.mp hw
      exact wd_lt (RT.rl_po ok r hr) hc
theorem ok_wr {x : List Nat} (ok : Mth.Ok x) : okD (.str (RT.wr x)) = true := by
  simp only [okD, List.all_eq_true, decide_eq_true_eq]
  intro c hc
  have := wr_lt ok hc
  omega
theorem ok_std {x : List Nat} (ok : Mth.Ok x) : okD (std x) = true := by
  simp only [std, okD, List.all_eq_true, decide_eq_true_eq]
  intro c hc
  simp only [cod, List.mem_map] at hc
  obtain ⟨p, hp, rfl⟩ := hc
  have := ok p hp
  omega
def dueD (s : List Nat) : D := match RT.reading s with
  | some x => .tup [.str told, std x]
  | none => .str [116, 101, 120, 116, 32, 43]
theorem same_due (s : List Nat) (h : Cells) : F__law_same 7 [dueD s, dueD s] h = .ok (.bl true) h := by
  unfold dueD
  cases e : RT.reading s with
  | none => exact f_same 7 (by simp [okD]) (by simp [szD]) (by simp [dpD]) (by decide) h
  | some x =>
    obtain ⟨_, r2, r3⟩ := RT.read_back e
    have o := ok_std r2
    refine f_same 7 (by show (okD (.str told) && (okD (std x) && true)) = true; rw [o]; decide) ?_ (by simp [dpD, dpL, std]) (by decide) h
    have : 2 ≤ big := by decide
    simp [szD, szL, std, this]
theorem b0_step {s : List Nat} (hs : s.length ≤ 5000) (h : Cells) (a0 a1 a2 a3 a4 a5 a6 a7 a8 a10 a11 a12 : Option SV) :
    b_law_0 [a0, a1, a2, a3, a4, a5, a6, a7, a8, some (.val (.str s)), a10, a11, a12] h = .nx [a0, a1, a2, a3, a4, a5, a6, a7, a8, some (.val (.str s)), some (.val (dueD s)), a11, a12] h := by
  have f1 := f_reading hs h
  have f2 := f_read hs h
  have sd := same_due s h
  unfold rdD at f1
  unfold dueD at sd ⊢
  have q4 : gIsNot .non .non = some (.bl false) := rfl
  cases e : RT.reading s with
  | none =>
    rw [e] at f1 f2 sd
    simp [b_law_0_ap, f1, f2, q4, sd]
  | some x =>
    rw [e] at f1 f2 sd
    have q5 : gIsNot (std x) .non = some (.bl true) := rfl
    simp only at f1 f2 sd
    have tl : told = [116, 111, 108, 100] := rfl
    rw [tl] at sd
    simp [b_law_0_ap, f1, f2, q5, tl, sd]
theorem b1_step {c t : Nat} {h : Cells} {s : List Nat} (dk : Dk h c t) (ht : t + 30 < 1099511627776) (hs : s.length ≤ 3000) (a0 a1 a3 a4 a6 a7 a8 a9 a10 a11 a12 : Option SV) :
    ∃ h' y8 y9 y10, Dk h' c (t + 20) ∧ b_law_1 [a0, a1, some (.val (.cel c)), a3, a4, some (.val (.str s)), a6, a7, a8, a9, a10, a11, a12] h = .nx [a0, a1, some (.val (.cel c)), a3, a4, some (.val (.str s)), a6, a7, y8, y9, y10, a11, a12] h' := by
  obtain ⟨_, h1, e1, d1, s1, rfl, l1⟩ := (f_bent dk (by omega) (by omega : s.length ≤ 4000)).of
  obtain ⟨_, h2, e2, d2, s2, rfl, l2⟩ := (f_bent d1 (by omega) (by omega : s1.length ≤ 4000)).of
  refine ⟨h2, some (.val (.str s1)), some (.val (.str s2)), some (.val (dueD s2)), d2.mono (by omega), ?_⟩
  have lp : sLoop (tgN 9) b_law_0 [.str s1, .str s2] [a0, a1, some (.val (.cel c)), a3, a4, some (.val (.str s)), a6, a7, some (.val (.str s1)), a9, a10, a11, a12] h2 = .nx [a0, a1, some (.val (.cel c)), a3, a4, some (.val (.str s)), a6, a7, some (.val (.str s1)), some (.val (.str s2)), some (.val (dueD s2)), a11, a12] h2 := by
    rw [sLoop_cons]
    simp only [tgN_ap, List.set_cons_succ, List.set_cons_zero]
    rw [b0_step (by omega), nxL_nx, sLoop_cons]
    simp only [tgN_ap, List.set_cons_succ, List.set_cons_zero]
    rw [b0_step (by omega), nxL_nx]
    rfl
  simp [b_law_1_ap, e1, e2, lp]
theorem turn_step {c t : Nat} {h : Cells} (dk : Dk h c t) (ht : t + 300 < 1099511627776) (a0 a1 a3 a4 a5 a6 a7 a8 a9 a10 a11 a12 : Option SV) :
    SP (b_law_2 [a0, a1, some (.val (.cel c)), a3, a4, a5, a6, a7, a8, a9, a10, a11, a12] h)
      (fun ρ h' => Dk h' c (t + 240) ∧ ∃ x, Mth.Ok x ∧ x.length ≤ 12 ∧ ∃ y4 y6 y7 y8 y9 y10, ρ = [a0, a1, some (.val (.cel c)), a3, y4, some (.val (.str (RT.wr x))), y6, y7, y8, y9, y10, a11, a12]) (fun _ _ => False) := by
  obtain ⟨_, h1, e1, d1, many, rfl, hm⟩ := (f_pick dk (by omega) (size := 13) (by decide) (by decide)).of
  have e1' : F__law_pick [.cel c, .int 13] h = .ok (.int (many : Nat)) h1 := e1
  obtain ⟨_, h2, e2, d2, x, rfl, ok, lx⟩ := (f_standing d1 (by omega) (many := many) (by omega)).of
  have hl : x.length ≤ 1000 := by omega
  obtain ⟨xs, e3⟩ := f_writing ok hl h2
  have d3 := d2.app xs
  generalize h2 ++ xs = h3 at e3 d3
  have wl := wr_le hl
  have hw : (RT.wr x).length ≤ 5000 := by omega
  have rd := RT.read_wr ok hl
  have e4 := f_standing_text ok hl h3
  have e5 := f_read hw h3
  rw [rd] at e5
  simp only at e5
  have e6 : ∀ ρ : DL.Env, ρ[5]? = some (some (.val (.str (RT.wr x)))) → ∀ g, mProp 14 F_Rings_source (mCM 14 F_Rings_read (mCons (mVar 5) mNil)) ρ g = .ok (std x) (g ++ [rgs x]) := fun ρ z g => src_ap z hw rd
  have e7 : ∀ ρ : DL.Env, ρ[5]? = some (some (.val (.str (RT.wr x)))) → ∀ g, mStrO 14 F_Rings_str (mCM 14 F_Rings_read (mCons (mVar 5) mNil)) ρ g = .ok (.str (RT.wr x)) (g ++ [rgs x]) := fun ρ z g => str_ap z hw rd hl
  have ga : DL.gAdd (.lst [.str (RT.wr x), std x]) (.lst [std x, .str (RT.wr x)]) = some (.lst [.str (RT.wr x), std x, std x, .str (RT.wr x)]) := by
    show (if 2 + 2 ≤ big then some (D.lst [.str (RT.wr x), std x, std x, .str (RT.wr x)]) else none) = _
    rw [if_pos (by decide)]
  have o1 := ok_std ok
  have o2 := ok_wr ok
  have sm : ∀ g, F__law_same 7 [.lst [.str (RT.wr x), std x, std x, .str (RT.wr x)], .lst [.str (RT.wr x), std x, std x, .str (RT.wr x)]] g = .ok (.bl true) g := fun g => by
    refine f_same 7 (by show (okD (.str (RT.wr x)) && (okD (std x) && (okD (std x) && (okD (.str (RT.wr x)) && true)))) = true; rw [o1, o2]; decide) ?_ (by simp [dpD, dpL, std]) (by decide) g
    have : 4 ≤ big := by decide
    simp [szD, szL, std, this]
  have d4 := (d3.app [rgs x]).app [rgs x]
  have lp : SP (sLoop (tgN 7) b_law_1 ((List.range 10).map fun i => D.int (i : Nat)) [a0, a1, some (.val (.cel c)), a3, some (.val (std x)), some (.val (.str (RT.wr x))), some (.val (.lst [.str (RT.wr x), std x, std x, .str (RT.wr x)])), a7, a8, a9, a10, a11, a12] (h3 ++ [rgs x] ++ [rgs x])) (fun ρ h' => Dk h' c (t + 240) ∧ ∃ y7 y8 y9 y10, ρ = [a0, a1, some (.val (.cel c)), a3, some (.val (std x)), some (.val (.str (RT.wr x))), some (.val (.lst [.str (RT.wr x), std x, std x, .str (RT.wr x)])), y7, y8, y9, y10, a11, a12]) (fun _ _ => False) := by
    refine SP.imp (loop_sp (R := fun _ _ => False) (fun i ρ h' => i ≤ 10 ∧ Dk h' c (t + 31 + 20 * i) ∧ ∃ y7 y8 y9 y10, ρ = [a0, a1, some (.val (.cel c)), a3, some (.val (std x)), some (.val (.str (RT.wr x))), some (.val (.lst [.str (RT.wr x), std x, std x, .str (RT.wr x)])), y7, y8, y9, y10, a11, a12]) _ 0 ?_ _ _ ⟨by omega, d4.mono (by omega), _, _, _, _, rfl⟩) ?_ fun _ _ z => z
    · rintro i dd ρ g e ⟨hi, dg, y7, y8, y9, y10, rfl⟩
      have hi2 : i < 10 := by
        have := (List.getElem?_eq_some_iff.mp e).1
        simpa using this
      refine ⟨_, rfl, ?_⟩
      simp only [List.set_cons_succ, List.set_cons_zero]
      obtain ⟨g', z8, z9, z10, dz, ez⟩ := b1_step dg (by omega) (by omega : (RT.wr x).length ≤ 3000) a0 a1 a3 (some (.val (std x))) (some (.val (.lst [.str (RT.wr x), std x, std x, .str (RT.wr x)]))) (some (.val dd)) y8 y9 y10 a11 a12
      rw [ez]
      exact .nx ⟨by omega, dz.mono (by omega), _, _, _, _, rfl⟩
    · rintro ρ g ⟨hi, dg, y7, y8, y9, y10, rfl⟩
      exact ⟨dg.mono (by simp), _, _, _, _, rfl⟩
  have e3' : F__law_writing [std x] h2 = .ok (.str (RT.wr x)) h3 := e3
  simp [b_law_2_ap, e1', e2, e3', e4, e5, e6, e7, ga, sm]
  have r10 : itR1 [.int 10] = some ((List.range 10).map fun i => D.int (i : Nat)) := rfl
  rw [r10, show h3 ++ [rgs x, rgs x] = h3 ++ [rgs x] ++ [rgs x] by simp]
  refine SP.imp lp ?_ fun _ _ z => z
  rintro ρ g ⟨dg, y7, y8, y9, y10, rfl⟩
  exact ⟨dg, x, ok, by omega, _, _, _, _, _, _, rfl⟩
end LW

namespace LW
open PySem L2 PySem.Spec PyProof.Rows DL DH DM DE DQ DB Mth
/-! ### texts that tell no standing -/
theorem join_last (s : List Nat) : ∀ {l : List (List Nat)}, l ≠ [] → (∀ w ∈ l, w ≠ []) → ∃ w ∈ l, (TL.joinL s l).getLast? = w.getLast?
  | [], h, _ => absurd rfl h
  | [a], _, _ => ⟨a, by simp, by simp [TL.joinL]⟩
  | a :: b :: l, _, h => by
    obtain ⟨w, hw, e⟩ := join_last s (l := b :: l) (by simp) fun w hw => h w (List.mem_cons_of_mem _ hw)
    refine ⟨w, List.mem_cons_of_mem _ hw, ?_⟩
    have ne : w.getLast? ≠ none := fun z => h w (List.mem_cons_of_mem _ hw) (List.getLast?_eq_none_iff.mp z)
    obtain ⟨c, hc⟩ := Option.ne_none_iff_exists'.mp ne
    rw [hc] at e ⊢
    simp only [TL.joinL]
    rw [List.getLast?_append, List.getLast?_append, e]
    rfl
theorem wr_ends {y : List Nat} (ok : Mth.Ok y) : (∃ c, (RT.wr y).getLast? = some c ∧ 33 ≤ c) ∧ (∃ c, (RT.wr y).head? = some c ∧ 33 ≤ c) := by
  by_cases h : RT.rl y = []
  · have : RT.wr y = RT.nn := by unfold RT.wr; rw [h]; rfl
    rw [this]
    exact ⟨⟨101, rfl, by omega⟩, ⟨110, rfl, by omega⟩⟩
  · constructor
    · have : RT.wr y = TL.joinL [32] ((RT.rl y).map RT.wd) := by unfold RT.wr RT.txt; rw [if_neg h]
      rw [this]
      obtain ⟨w, hw, e⟩ := join_last [32] (l := (RT.rl y).map RT.wd) (by simpa using h) (fun w hw => by
        obtain ⟨r, _, rfl⟩ := List.mem_map.mp hw
        unfold RT.wd; simp)
      obtain ⟨r, _, rfl⟩ := List.mem_map.mp hw
      refine ⟨48 + r.2, ?_, by omega⟩
      rw [e]
      unfold RT.wd
      rw [List.getLast?_append]
      rfl
    · obtain ⟨c, e, c1, c2⟩ := RT.txt_head h
      exact ⟨c, e, by omega⟩
theorem none_last {s : List Nat} {c : Nat} (h : s.getLast? = some c) (hc : c < 33) : RT.reading s = none := by
  cases e : RT.reading s with
  | none => rfl
  | some y =>
    obtain ⟨r1, r2, _⟩ := RT.read_back e
    obtain ⟨⟨d, hd, hd2⟩, _⟩ := wr_ends r2
    rw [← r1, h] at hd
    injection hd with hd
    omega
theorem none_head {s : List Nat} {c : Nat} (h : s.head? = some c) (hc : c < 33) : RT.reading s = none := by
  cases e : RT.reading s with
  | none => rfl
  | some y =>
    obtain ⟨r1, r2, _⟩ := RT.read_back e
    obtain ⟨_, ⟨d, hd, hd2⟩⟩ := wr_ends r2
    rw [← r1, h] at hd
    injection hd with hd
    omega
/-! ### what is no standing's text -/
structure Odd (d : D) : Prop where
  rd : ∀ h, F_read_standing [d] h = .exc ⟨8, none⟩ h
  rg : ∀ h, F_Rings_read [.glb 14, d] h = .exc ⟨8, none⟩ h
theorem odd_not {d : D} (hd : gIsi [d, .ty "str"] = some (.bl false)) : Odd d := ⟨f_read_not hd, f_Rread_not hd⟩
theorem odd_str {s : List Nat} (hs : s.length ≤ 5000) (e : RT.reading s = none) : Odd (.str s) := ⟨fun h => by rw [f_read hs, e], fun h => by rw [f_Rread hs, e]⟩
theorem b3_step {d : D} (o : Odd d) (h : Cells) (a0 a1 a2 a3 a4 a5 a6 a7 a8 a9 a10 a12 : Option SV) :
    b_law_3 [a0, a1, a2, a3, a4, a5, a6, a7, a8, a9, a10, some (.val d), a12] h = .nx [a0, a1, a2, a3, a4, a5, a6, a7, a8, a9, a10, some (.val d), a12] h := by
  have m : ∀ ρ : DL.Env, ρ[11]? = some (some (.val d)) → mCM 14 F_Rings_read (mCons (mVar 11) mNil) ρ h = .exc ⟨8, none⟩ h := fun ρ e => by
    simp [mCM, e, o.rg]
  simp [b_law_3_ap, o.rd, m]
theorem cell_law (cell : Int) (h : Cells) (a0 a2 a3 a4 a5 a6 a7 a8 a9 a10 a11 a12 : Option SV) :
    SP (b_law_4 [a0, some (.val (.int cell)), a2, a3, a4, a5, a6, a7, a8, a9, a10, a11, a12] h)
      (fun ρ h' => ∃ y2 y3 y4 y5 y6 y7 y8 y9 y10 y11, ρ = [a0, some (.val (.int cell)), y2, y3, y4, y5, y6, y7, y8, y9, y10, y11, a12]) (fun _ _ => False) := by
  obtain ⟨r, h1, e1, c, rfl, d1⟩ := (f_deck cell 9 h).of
  have e1' : F__law_deck [.int cell, .int 9] h = .ok (.cel c) h1 := e1
  have i5 : itR1 [.int 5] = some (rngL 0 5) := itR1_nat (n := 5) (by decide)
  have gT1 : ∀ a : D, DL.gTup [a] = some (.tup [a]) := fun a => gTup_le (by show 1 ≤ big; decide)
  simp [b_law_4_ap, e1', i5]
  refine SP.nxt (SP.imp (loop_sp (R := fun _ _ => False) (fun i ρ h' => Dk h' c (9 + 240 * i) ∧ i ≤ 5 ∧ ∃ y3 y4 y5 y6 y7 y8 y9 y10, ρ = [a0, some (.val (.int cell)), some (.val (.cel c)), y3, y4, y5, y6, y7, y8, y9, y10, a11, a12] ∧ (0 < i → ∃ x, Mth.Ok x ∧ x.length ≤ 12 ∧ y5 = some (.val (.str (RT.wr x))))) (rngL 0 5) 0 ?_ _ h1 ⟨d1, by omega, _, _, _, _, _, _, _, _, rfl, fun z => absurd z (by omega)⟩) ?_ fun _ _ z => z)
  · rintro i q ρ h' e ⟨d2, hi, y3, y4, y5, y6, y7, y8, y9, y10, rfl, _⟩
    obtain ⟨hiq, rfl⟩ := rngL_get e
    rw [Nat.zero_add] at d2 hi ⊢
    refine ⟨_, rfl, ?_⟩
    simp only [List.set_cons_succ, List.set_cons_zero]
    refine (turn_step d2 (by omega) _ _ _ _ _ _ _ _ _ _ _ _).imp ?_ fun _ _ z => z
    rintro ρ h2 ⟨d3, x, ok, lx, z4, z6, z7, z8, z9, z10, rfl⟩
    exact ⟨d3.mono (by omega), by omega, _, _, _, _, _, _, _, _, rfl, fun _ => ⟨x, ok, lx, rfl⟩⟩
  rintro ρ h2 ⟨d2, hi, y3, y4, y5, y6, y7, y8, y9, y10, rfl, hy⟩
  obtain ⟨x, ok, lx, rfl⟩ := hy (by decide)
  have wl := wr_le (x := x) (by omega)
  have g1 : DL.gAdd (.str (RT.wr x)) (.str [10]) = some (.str (RT.wr x ++ [10])) := gAdd_str (by simp; unfold big; omega)
  have g2 : DL.gAdd (.str (RT.wr x)) (.str [32]) = some (.str (RT.wr x ++ [32])) := gAdd_str (by simp; unfold big; omega)
  have g3 : DL.gAdd (.str [32]) (.str (RT.wr x)) = some (.str (32 :: RT.wr x)) := gAdd_str (by simp; unfold big; omega)
  have od : ∀ d ∈ [D.non, .int 5, .tup [.str (RT.wr x)], .str [], .str (RT.wr x ++ [10]), .str (RT.wr x ++ [32]), .str (32 :: RT.wr x), .str [78, 111, 110, 101], .str [120], .str [49, 32, 120, 48]], Odd d := fun d hd => by
    simp only [List.mem_cons, List.not_mem_nil, or_false] at hd
    rcases hd with rfl | rfl | rfl | rfl | rfl | rfl | rfl | rfl | rfl | rfl
    · exact odd_not rfl
    · exact odd_not rfl
    · exact odd_not rfl
    · exact odd_str (by simp) (by decide +kernel)
    · exact odd_str (by simp; omega) (none_last (c := 10) (by simp) (by omega))
    · exact odd_str (by simp; omega) (none_last (c := 32) (by simp) (by omega))
    · exact odd_str (by simp; omega) (none_head (c := 32) (by simp) (by omega))
    · exact odd_str (by simp) (by decide +kernel)
    · exact odd_str (by simp) (by decide +kernel)
    · exact odd_str (by simp) (by decide +kernel)
  simp [gT1, g1, g2, g3, gLst_10]
  generalize [D.non, .int 5, .tup [.str (RT.wr x)], .str [], .str (RT.wr x ++ [10]), .str (RT.wr x ++ [32]), .str (32 :: RT.wr x), .str [78, 111, 110, 101], .str [120], .str [49, 32, 120, 48]] = ods at od
  refine SP.nxt (SP.imp (loop_sp (R := fun _ _ => False) (fun i ρ h' => h' = h2 ∧ ∃ z11, ρ = [a0, some (.val (.int cell)), some (.val (.cel c)), y3, y4, some (.val (.str (RT.wr x))), y6, y7, y8, y9, y10, z11, a12]) ods 0 ?_ _ h2 ⟨rfl, _, rfl⟩) ?_ fun _ _ z => z)
  · rintro i q ρ h' e ⟨rfl, z11, rfl⟩
    refine ⟨_, rfl, ?_⟩
    simp only [List.set_cons_succ, List.set_cons_zero]
    rw [b3_step (od q (List.mem_of_getElem? e))]
    exact .nx ⟨rfl, _, rfl⟩
  rintro ρ h3 ⟨rfl, z11, rfl⟩
  simp [f_text_3]
end LW

namespace LW
open PySem L2 PySem.Spec PyProof.Rows DL DH DM DE DQ DB Mth
/-! ### the written cases -/
def wB9 : MS := (sSeq (sIf (mAsB (mOpV gNe (mBd (mFn F_standing_text (mCons (mC (.str [48, 49, 49, 48])) mNil))) (mBd (mC (.str [49, 120, 48, 32, 50, 120, 49, 32, 49, 120, 48]))))) (sRet (mC (.bl false))) sNil) (sSeq (sIf (mAsB (mOpV gNe (mBd (mFn F_standing_text (mCons (mOp2 gMul (mC (.str [48])) (mC (.int 1000))) mNil))) (mBd (mC (.str [49, 48, 48, 48, 120, 48]))))) (sRet (mC (.bl false))) sNil) (sSeq (sIf (mAsB (mOpV gNe (mBd (mFn F_standing_text (mCons (mC (.str [])) mNil))) (mBd (mC (.str [110, 111, 110, 101]))))) (sRet (mC (.bl false))) sNil) (sSeq (sIf (mAsB (mOpV gNe (mBd (mFn F_read_standing (mCons (mC (.str [50, 120, 49, 32, 49, 120, 48])) mNil))) (mBd (mC (.str [49, 49, 48]))))) (sRet (mC (.bl false))) sNil) (sSeq (sIf (mAsB (mOpV gNe (mBd (mFn F_read_standing (mCons (mC (.str [110, 111, 110, 101])) mNil))) (mBd (mC (.str []))))) (sRet (mC (.bl false))) sNil) (sSeq (sIf (mAsB (mOpV gNe (mBd (mSl (mBd (mFn F_read_standing (mCons (mC (.str [57, 57, 57, 120, 50, 32, 49, 120, 48])) mNil))) (mPart (mOp1 gNeg (mC (.int 2)))) mPartN)) (mBd (mC (.str [50, 48]))))) (sRet (mC (.bl false))) sNil) (sSeq (sSet 12 (mLst (mCons (mC (.str [49, 120, 48, 32, 49, 120, 48])) (mCons (mC (.str [48, 120, 49])) (mCons (mC (.str [48, 49, 120, 49])) (mCons (mC (.str [49, 120, 51])) (mCons (mC (.str [49, 48, 48, 48, 120, 48, 32, 49, 120, 49])) (mCons (mC (.str [49, 48, 48, 49, 120, 48])) (mCons (mC (.str [49, 120, 48, 32, 32, 49, 120, 49])) (mCons (mC (.str [49, 88, 48])) mNil)))))))))) (sSeq (sSet 12 (mOp2 gAdd (mVar 12) (mLst (mCons (mC (.str [110, 111, 110, 101, 32, 49, 120, 48])) (mCons (mC (.str [49, 120, 48, 32, 110, 111, 110, 101])) (mCons (mC (.str [43, 49, 120, 48])) mNil)))))) (sRet (mOpV gEq (mBd (mLcV (mIt itAny (mVar 12)) (tgN 11) (mAsB (mOpV gNe (mBd (mTry2 (mFn F_read_standing (mCons (mVar 11) mNil)))) (mBd (mC (.str [116, 101, 120, 116, 32, 43]))))) (mVar 11) [11])) (mBd (mLst mNil))))))))))))
theorem rd_some {s x : List Nat} (hs : s.length ≤ 5000) (e : RT.reading s = some x) (h : Cells) : F_read_standing [.str s] h = .ok (std x) h := by
  rw [f_read hs, e]
theorem sl_m2 {m : List Nat} {a b : Nat} (h : (m ++ [a, b]).length ≤ big) : gSl (some (-2)) none (.str (m ++ [a, b])) = some (.str [a, b]) := by
  rw [gSl_s, if_pos h]
  have e1 : HT.sIx (m ++ [a, b]).length 0 (some (-2)) = m.length := by
    rw [sIx_neg _ _ (by decide)]; simp only [List.length_append, List.length_cons, List.length_nil]; omega
  unfold cutL
  rw [e1]
  show some (D.str (((m ++ [a, b]).drop m.length).take ((m ++ [a, b]).length - m.length))) = _
  rw [List.drop_left]
  simp
theorem lc_none {te : M D} {tt : M Bool} {ρ : DL.Env} {h : Cells} (acc : List D) : ∀ (ds : List D), (∀ d ∈ ds, tt (ρ.set 11 (some (.val d))) h = .ok false h) → mLoop (tgN 11) tt te ρ ds acc h = .ok acc h
  | [], _ => rfl
  | d :: ds, hh => by
    rw [mLoop_cons]
    simp only [tgN_ap, hh d List.mem_cons_self, calm_ok, bind_ok, Bool.false_eq_true, if_false]
    exact lc_none acc ds fun q hq => hh q (List.mem_cons_of_mem _ hq)
theorem w1000 : RT.wr (List.replicate 1000 0) = [49, 48, 48, 48, 120, 48] := by
  have e : RT.rl (List.replicate 1000 0) = [(1000, 0)] := (RT.rl_uniq (l := none) (rs := [(1000, 0)]) ⟨by decide, (fun z => nomatch z), trivial⟩ (by simp [RT.cat])).symm
  unfold RT.wr
  rw [e]
  decide +kernel
theorem f_written (h : Cells) (a0 a1 a2 a3 a4 a5 a6 a7 a8 a9 a10 a11 a12 : Option SV) : wB9 [a0, a1, a2, a3, a4, a5, a6, a7, a8, a9, a10, a11, a12] h = .rt (.bl true) h := by
  have ok0 : Mth.Ok [0, 1, 1, 0] := by intro p hp; simp at hp; omega
  have e1 : F_standing_text [.str [48, 49, 49, 48]] h = .ok (.str [49, 120, 48, 32, 50, 120, 49, 32, 49, 120, 48]) h := by
    have := f_standing_text ok0 (by simp) h
    rw [show RT.wr [0, 1, 1, 0] = [49, 120, 48, 32, 50, 120, 49, 32, 49, 120, 48] by decide +kernel] at this
    exact this
  have g1 : gMul (.str [48]) (.int 1000) = some (std (List.replicate 1000 0)) := gMul_str (p := 0) (k := 1000) (by decide)
  have e2 : F_standing_text [std (List.replicate 1000 0)] h = .ok (.str [49, 48, 48, 48, 120, 48]) h := by
    have := f_standing_text (x := List.replicate 1000 0) (Ok.rep (by decide)) (by simp) h
    rw [w1000] at this
    exact this
  have e3 : F_standing_text [.str []] h = .ok (.str [110, 111, 110, 101]) h := by
    have := f_standing_text (x := []) (fun _ z => nomatch z) (by simp) h
    rw [show RT.wr [] = [110, 111, 110, 101] by decide +kernel] at this
    exact this
  have e4 : F_read_standing [.str [50, 120, 49, 32, 49, 120, 48]] h = .ok (.str [49, 49, 48]) h := rd_some (x := [1, 1, 0]) (by simp) (by decide +kernel) h
  have e5 : F_read_standing [.str [110, 111, 110, 101]] h = .ok (.str []) h := rd_some (x := []) (by simp) (by decide +kernel) h
  have e6 : F_read_standing [.str [57, 57, 57, 120, 50, 32, 49, 120, 48]] h = .ok (.str (cod (List.replicate 998 2) ++ [50, 48])) h := by
    rw [rd_some (x := List.replicate 998 2 ++ [2, 0]) (by simp) (by decide +kernel) h]
    show Out.ok (D.str (cod (List.replicate 998 2 ++ [2, 0]))) h = _
    rw [cod_app]
    rfl
  have s6 := sl_m2 (m := cod (List.replicate 998 2)) (a := 50) (b := 48) (by rw [List.length_append, cod_len, List.length_replicate]; unfold big; simp)
  generalize cod (List.replicate 998 2) ++ [50, 48] = W at e6 s6
  generalize hX : std (List.replicate 1000 0) = X at g1 e2
  have od : ∀ d ∈ [D.str [49, 120, 48, 32, 49, 120, 48], D.str [48, 120, 49], D.str [48, 49, 120, 49], D.str [49, 120, 51], D.str [49, 48, 48, 48, 120, 48, 32, 49, 120, 49], D.str [49, 48, 48, 49, 120, 48], D.str [49, 120, 48, 32, 32, 49, 120, 49], D.str [49, 88, 48], D.str [110, 111, 110, 101, 32, 49, 120, 48], D.str [49, 120, 48, 32, 110, 111, 110, 101], D.str [43, 49, 120, 48]], Odd d := fun d hd => by
    simp only [List.mem_cons, List.not_mem_nil, or_false] at hd
    rcases hd with rfl | rfl | rfl | rfl | rfl | rfl | rfl | rfl | rfl | rfl | rfl <;> exact odd_str (by simp) (by decide +kernel)
  have ga : DL.gAdd (.lst [D.str [49, 120, 48, 32, 49, 120, 48], D.str [48, 120, 49], D.str [48, 49, 120, 49], D.str [49, 120, 51], D.str [49, 48, 48, 48, 120, 48, 32, 49, 120, 49], D.str [49, 48, 48, 49, 120, 48], D.str [49, 120, 48, 32, 32, 49, 120, 49], D.str [49, 88, 48]]) (.lst [D.str [110, 111, 110, 101, 32, 49, 120, 48], D.str [49, 120, 48, 32, 110, 111, 110, 101], D.str [43, 49, 120, 48]]) = some (.lst [D.str [49, 120, 48, 32, 49, 120, 48], D.str [48, 120, 49], D.str [48, 49, 120, 49], D.str [49, 120, 51], D.str [49, 48, 48, 48, 120, 48, 32, 49, 120, 49], D.str [49, 48, 48, 49, 120, 48], D.str [49, 120, 48, 32, 32, 49, 120, 49], D.str [49, 88, 48], D.str [110, 111, 110, 101, 32, 49, 120, 48], D.str [49, 120, 48, 32, 110, 111, 110, 101], D.str [43, 49, 120, 48]]) := by
    show (if 8 + 3 ≤ big then some (D.lst [D.str [49, 120, 48, 32, 49, 120, 48], D.str [48, 120, 49], D.str [48, 49, 120, 49], D.str [49, 120, 51], D.str [49, 48, 48, 48, 120, 48, 32, 49, 120, 49], D.str [49, 48, 48, 49, 120, 48], D.str [49, 120, 48, 32, 32, 49, 120, 49], D.str [49, 88, 48], D.str [110, 111, 110, 101, 32, 49, 120, 48], D.str [49, 120, 48, 32, 110, 111, 110, 101], D.str [43, 49, 120, 48]]) else none) = _
    rw [if_pos (by decide)]
  generalize [D.str [49, 120, 48, 32, 49, 120, 48], D.str [48, 120, 49], D.str [48, 49, 120, 49], D.str [49, 120, 51], D.str [49, 48, 48, 48, 120, 48, 32, 49, 120, 49], D.str [49, 48, 48, 49, 120, 48], D.str [49, 120, 48, 32, 32, 49, 120, 49], D.str [49, 88, 48], D.str [110, 111, 110, 101, 32, 49, 120, 48], D.str [49, 120, 48, 32, 110, 111, 110, 101], D.str [43, 49, 120, 48]] = ods at od ga
  have lc : ∀ ρ : DL.Env, 11 < ρ.length → mLoop (tgN 11) (mAsB (mOpV gNe (mBd (mTry2 (mFn F_read_standing (mCons (mVar 11) mNil)))) (mBd (mC (.str [116, 101, 120, 116, 32, 43]))))) (mVar 11) ρ ods [] h = .ok [] h := fun ρ hρ => by
    refine lc_none [] ods fun d hd => ?_
    have g : (ρ.set 11 (some (.val d)))[11]? = some (some (.val d)) := List.getElem?_set_self hρ
    simp [g, (od d hd).rd]
  simp [wB9, e1, g1, e2, e3, e4, e5, e6, s6, gLst_8, ga, lc, wipeE, gEq_ee]
/-! ### law 9 is true -/
theorem law_true : TrueAt F_law := by
  intro ns hns
  have main : ∀ v, (mSl (mBd (mOp2 gAddK (mLst (mCons (mC (.int 0)) mNil)) (mVar 0))) mPartN (mPart (mC (.int 10)))) [some (.val v), none, none, none, none, none, none, none, none, none, none, none, none] [] = .ok (.lst (((0 :: ns).take 10).map D.int)) [] → isT (F_law [v] []) := by
    intro v hv
    rw [F_law_ap]
    have hc : ∀ d ∈ ((0 :: ns).take 10).map D.int, ∃ c : Int, d = .int c := fun d hd => by
      obtain ⟨c, _, rfl⟩ := List.mem_map.mp hd
      exact ⟨c, rfl⟩
    generalize ((0 :: ns).take 10).map D.int = cells at hv hc
    have g : Gets (m_law [some (.val v), none, none, none, none, none, none, none, none, none, none, none, none] []).res fun d _ => d = .bl true := by
      refine SP.res ?_
      have st : m_law = sSeq (sFor (mIt itAny (mSl (mBd (mOp2 gAddK (mLst (mCons (mC (.int 0)) mNil)) (mVar 0))) mPartN (mPart (mC (.int 10))))) (tgN 1) b_law_4) wB9 := rfl
      rw [st]
      simp only [sSeq_ap, sFor_ap, mIt_ap, hv, bind_ok, itAny_lst, fin_some, so_ok]
      refine SP.nxt (SP.imp (loop_sp (R := fun _ _ => False) (fun i ρ h' => ∃ y1 y2 y3 y4 y5 y6 y7 y8 y9 y10 y11, ρ = [some (.val v), y1, y2, y3, y4, y5, y6, y7, y8, y9, y10, y11, none]) cells 0 ?_ _ _ ⟨_, _, _, _, _, _, _, _, _, _, _, rfl⟩) ?_ fun _ _ z => z.elim)
      · rintro i dd ρ h' e ⟨y1, y2, y3, y4, y5, y6, y7, y8, y9, y10, y11, rfl⟩
        obtain ⟨cell, rfl⟩ := hc _ (List.mem_of_getElem? e)
        refine ⟨_, rfl, ?_⟩
        simp only [List.set_cons_succ, List.set_cons_zero]
        refine (cell_law cell h' _ _ _ _ _ _ _ _ _ _ _ _).imp ?_ fun _ _ z => z
        rintro ρ h2 ⟨y2, y3, y4, y5, y6, y7, y8, y9, y10, y11, rfl⟩
        exact ⟨_, _, _, _, _, _, _, _, _, _, _, rfl⟩
      · rintro ρ h' ⟨y1, y2, y3, y4, y5, y6, y7, y8, y9, y10, y11, rfl⟩
        rw [f_written h' (some (.val v)) y1 y2 y3 y4 y5 y6 y7 y8 y9 y10 y11 none]
        exact .rt rfl
    obtain ⟨d, h', e, rfl⟩ := g.of
    rw [e]
    exact .mk _
  have hb : 1 + (ns.map D.int).length ≤ big := by
    have : ns.length ≤ 63 := hns
    rw [List.length_map]; unfold big; omega
  have hk1 : gAddK (.lst [.int 0]) (.lst (ns.map D.int)) = some (.lst ((0 :: ns).map D.int)) := by
    show (if _ then _ else _) = _
    rw [if_pos (by simpa using hb)]; rfl
  have hk2 : gAddK (.lst [.int 0]) (.klst (ns.map D.int)) = some (.lst ((0 :: ns).map D.int)) := by
    show (if _ then _ else _) = _
    rw [if_pos (by simpa using hb)]; rfl
  have ht : gSl none (some 10) (.lst ((0 :: ns).map D.int)) = some (.lst (((0 :: ns).take 10).map D.int)) := by
    rw [show (some (10 : Int)) = some ((10 : Nat) : Int) from rfl, gSlL_take, List.map_take]
  constructor
  · refine main _ ?_
    simp only [mSl_ap, mBd_ap, mOp2_ap, mCall_ap, mCons_ap, mC_ap, mNil_ap, mVar_ap, List.getElem?_cons_zero, bind_ok, gLst_1, fin_some, hk1, mPartN_ap, mPart_ap, asI_int, view_lst, Option.bind_some, ht]
  · refine main _ ?_
    simp only [mSl_ap, mBd_ap, mOp2_ap, mCall_ap, mCons_ap, mC_ap, mNil_ap, mVar_ap, List.getElem?_cons_zero, bind_ok, gLst_1, fin_some, hk2, mPartN_ap, mPart_ap, asI_int, view_lst, Option.bind_some, ht]
end LW

namespace LW
open PySem L2 PySem.Spec PyProof.Rows DL DH DM DE DB HotX L2H LamX
/-END-/
theorem law_end {l : PySem.W.OpenLaw} {w : World} {K : PySem.W.Frag} {h : Heap} {mg : Str → Option Value} {fa : Addr} {C0 C1 C2 C3 C4 C5 C6 C7 C8 C9 C10 C11 C12 C13 C14 f34 cc34 P34 : Addr} (X : K.In h) (G : h.Ns mainGlobals mg) (hfa : mg "law" = some (.ref fa))
    (A : Tx K mg (clsF [C0, C1, C2, C3, C4, C5, C6, C7, C8, C9, C10, C11, C12, C13, C14]) ∧ ((∀ f, mg "law" = some (.ref f) → TabOf K f h) → LamOk K mg h ⟨"law", f34, cc34, P34⟩))
    (tabs : ∀ x ∈ LD, ∀ f, mg x = some (.ref f) → TabOf K f h) (hE : errB K [C0, C1, C2, C3, C4, C5, C6, C7, C8, C9, C10, C11, C12, C13, C14] = true) (hnd : ([P34] : List Addr).Nodup) (hF : TrueAt F_law) (too : ∀ base : Heap, TmX.TooK l.prog w K mg base (clsF [C0, C1, C2, C3, C4, C5, C6, C7, C8, C9, C10, C11, C12, C13, C14] 12)) (xf : xfB K (clsF [C0, C1, C2, C3, C4, C5, C6, C7, C8, C9, C10, C11, C12, C13, C14] 12) = true) (no : PySem.W.findIn K (.ref (clsF [C0, C1, C2, C3, C4, C5, C6, C7, C8, C9, C10, C11, C12, C13, C14] 12)) "limit" = some none) :
    LamX.LawAtS l w K (L2N.CX l.prog w) 9 63 "script" mg fa h := by
  obtain ⟨T, t34⟩ := A
  have hL : ∀ d ∈ ([⟨"law", f34, cc34, P34⟩] : List LamD), LamOk K mg h d := by
    intro d hd
    simp only [List.mem_cons, List.not_mem_nil, or_false] at hd
    rcases hd with rfl
    · exact t34 (tabs "law" (by decide))
  refine law_atG (LD := [⟨"law", f34, cc34, P34⟩]) (cs := [C0, C1, C2, C3, C4, C5, C6, C7, C8, C9, C10, C11, C12, C13, C14]) hL hF ?_
  obtain ⟨f, fd, h1, h2, h3⟩ := T.d_law
  rw [hfa] at h2
  cases h2
  refine ⟨fd, fun s u => ?_, fun base hB => ?_⟩
  · obtain ⟨oc, od, kV, doc, pm, an, cdv, ct, osl, rfl, lk, hcd⟩ := h1.ex
    exact .of_eq rfl
  · exact o_law h1 T (okB_main hE hL hnd hB (too base) xf no) hfa

/-- from what stands in the written part -/
theorem all_mk {K : PySem.W.Frag} {h : Heap} {mg : Str → Option Value} (X : K.In h) (G : h.Ns mainGlobals mg)
    {C14 : Addr}
    {f0 : Addr} {od0 an0 : Option Addr} {sl0 : Array (Option Value)} {oc0 kV0 dc0 pm0 ct0 : Value} {cd0 : Value}
    {f1 : Addr} {od1 an1 : Option Addr} {sl1 : Array (Option Value)} {oc1 kV1 dc1 pm1 ct1 : Value} {cd1 : Value}
    {f2 : Addr} {od2 an2 : Option Addr} {sl2 : Array (Option Value)} {oc2 kV2 dc2 pm2 ct2 : Value} {cd2 : Value}
    {f3 : Addr} {od3 an3 : Option Addr} {sl3 : Array (Option Value)} {oc3 kV3 dc3 pm3 ct3 : Value} {cd3 : Value}
    {f4 : Addr} {od4 an4 : Option Addr} {sl4 : Array (Option Value)} {oc4 kV4 dc4 pm4 ct4 : Value} {cd4 : Value}
    {f5 : Addr} {od5 an5 : Option Addr} {sl5 : Array (Option Value)} {oc5 kV5 dc5 pm5 ct5 : Value} {cd5 : Value}
    {f6 : Addr} {od6 an6 : Option Addr} {sl6 : Array (Option Value)} {oc6 kV6 dc6 pm6 ct6 : Value} {cd6 : Value}
    {f7 : Addr} {od7 an7 : Option Addr} {sl7 : Array (Option Value)} {oc7 kV7 dc7 pm7 ct7 : Value} {cd7 : Value}
    {f8 : Addr} {od8 an8 : Option Addr} {sl8 : Array (Option Value)} {oc8 kV8 dc8 pm8 ct8 : Value} {cd8 : Value}
    {f9 : Addr} {od9 an9 : Option Addr} {sl9 : Array (Option Value)} {oc9 kV9 dc9 pm9 ct9 : Value} {cd9 : Value}
    {f10 : Addr} {od10 an10 : Option Addr} {sl10 : Array (Option Value)} {oc10 kV10 dc10 pm10 ct10 : Value} {cd10 : Value}
    {f11 : Addr} {od11 an11 : Option Addr} {sl11 : Array (Option Value)} {oc11 kV11 dc11 pm11 ct11 : Value} {cd11 : Value}
    {f12 : Addr} {od12 an12 : Option Addr} {sl12 : Array (Option Value)} {oc12 kV12 dc12 pm12 ct12 : Value} {cd12 : Value}
    {f13 : Addr} {od13 an13 : Option Addr} {sl13 : Array (Option Value)} {oc13 kV13 dc13 pm13 ct13 : Value} {cd13 : Value}
    {f14 : Addr} {od14 an14 : Option Addr} {sl14 : Array (Option Value)} {oc14 kV14 dc14 pm14 ct14 : Value} {cd14 : Value}
    {f15 : Addr} {od15 an15 : Option Addr} {sl15 : Array (Option Value)} {oc15 kV15 dc15 pm15 ct15 : Value} {cd15 : Value}
    {f16 : Addr} {od16 an16 : Option Addr} {sl16 : Array (Option Value)} {oc16 kV16 dc16 pm16 ct16 : Value} {cd16 : Value}
    {f17 : Addr} {od17 an17 : Option Addr} {sl17 : Array (Option Value)} {oc17 kV17 dc17 pm17 ct17 : Value} {cd17 : Value}
    {f18 : Addr} {od18 an18 : Option Addr} {sl18 : Array (Option Value)} {oc18 kV18 dc18 pm18 ct18 : Value} {cd18 : Value}
    {f19 : Addr} {od19 an19 : Option Addr} {sl19 : Array (Option Value)} {oc19 kV19 dc19 pm19 ct19 cd19 : Value}
    {f20 : Addr} {od20 an20 : Option Addr} {sl20 : Array (Option Value)} {oc20 kV20 dc20 pm20 ct20 cd20 : Value} {pp20 : Addr} {rs20 : List Value}
    {f21 : Addr} {od21 an21 : Option Addr} {sl21 : Array (Option Value)} {oc21 kV21 dc21 pm21 ct21 cd21 : Value} {pp21 : Addr} {rs21 : List Value}
    {f22 : Addr} {od22 an22 : Option Addr} {sl22 : Array (Option Value)} {oc22 kV22 dc22 pm22 ct22 cd22 : Value}
    {f23 : Addr} {od23 an23 : Option Addr} {sl23 : Array (Option Value)} {oc23 kV23 dc23 pm23 ct23 : Value} {cd23 : Value}
    {f24 : Addr} {od24 an24 : Option Addr} {sl24 : Array (Option Value)} {oc24 kV24 dc24 pm24 ct24 : Value} {cd24 : Value}
    {f25 : Addr} {od25 an25 : Option Addr} {sl25 : Array (Option Value)} {oc25 kV25 dc25 pm25 ct25 : Value} {cd25 : Value}
    {f26 : Addr} {od26 an26 : Option Addr} {sl26 : Array (Option Value)} {oc26 kV26 dc26 pm26 ct26 : Value} {cd26 : Value}
    {f27 : Addr} {od27 an27 : Option Addr} {sl27 : Array (Option Value)} {oc27 kV27 dc27 pm27 ct27 : Value} {cd27 : Value}
    {f28 : Addr} {od28 an28 : Option Addr} {sl28 : Array (Option Value)} {oc28 kV28 dc28 pm28 ct28 : Value} {cd28 : Value}
    {f29 : Addr} {od29 an29 : Option Addr} {sl29 : Array (Option Value)} {oc29 kV29 dc29 pm29 ct29 : Value} {cd29 : Value}
    {f30 : Addr} {od30 an30 : Option Addr} {sl30 : Array (Option Value)} {oc30 kV30 dc30 pm30 ct30 : Value} {cd30 : Value}
    {f31 : Addr} {od31 an31 : Option Addr} {sl31 : Array (Option Value)} {oc31 kV31 dc31 pm31 ct31 : Value} {cd31 : Value}
    {f32 : Addr} {od32 an32 : Option Addr} {sl32 : Array (Option Value)} {oc32 kV32 dc32 pm32 ct32 : Value} {cd32 : Value}
    {f33 : Addr} {od33 an33 : Option Addr} {sl33 : Array (Option Value)} {oc33 kV33 dc33 pm33 ct33 : Value} {cd33 : Value}
    {f34 : Addr} {od34 an34 : Option Addr} {sl34 : Array (Option Value)} {oc34 kV34 dc34 pm34 ct34 : Value} {cc34 P34 : Addr} {e34 : Value} {dd34 : Option Addr} {vs34 : Array Value} {sm34 : Array (Option Value)}
    {C0 : Addr}
    {C1 : Addr}
    {C2 : Addr}
    {C3 : Addr}
    {C4 : Addr}
    {C5 : Addr}
    {C6 : Addr}
    {C7 : Addr}
    {C8 : Addr}
    {C9 : Addr}
    {C10 : Addr}
    {C11 : Addr}
    {C12 : Addr}
    {C13 : Addr}
    {t_MOST_RINGS : _}
    {g_POSTS : Addr} {do_POSTS : Option Addr} {n_POSTS : Nat} {sl_POSTS : Array (Option Value)} {t_POSTS0 t_POSTS1 t_POSTS2 : _}
    (x14 : PySem.W.nsIn K mainGlobals "Rings" = some (some (.ref C14)))
    (y14x0 : PySem.W.plainGet K C14 Str.empty = true)
    (y14x1 : PySem.W.hasDictIn K C14 = true)
    (y14x2 : PySem.W.plainOver K C14 = true)
    (y14x3 : PySem.W.findIn K (.ref C14) "__setattr__" = some (some (.builtin "object.__setattr__")))
    (y14x4 : PySem.W.readsIn K C14 (.type "type") = true)
    (y14x5 : PySem.W.specialIn K (.ref C14) "__getattribute__" = some (some (.builtin "type.__getattribute__")))
    (y14x6 : PySem.W.findIn K (.ref C14) "row" = some none)
    (a0 : PySem.W.nsIn K mainGlobals "is_within" = some (some (.ref f0)))
    (l0 : K.lookup f0 = some ⟨oc0, od0, .func (PySem.W.fnOf "is_within" "is_within" (defArgs s_is_within) (defBody s_is_within) (defScope s_is_within) .none kV0 dc0 pm0 an0 cd0 ct0), sl0⟩)
    (c0 : PySem.W.codeIn K cd0 "is_within" = true) (k0 : PySem.W.keepIn K (.ref f0) = true)
    (a1 : PySem.W.nsIn K mainGlobals "is_standing_value" = some (some (.ref f1)))
    (l1 : K.lookup f1 = some ⟨oc1, od1, .func (PySem.W.fnOf "is_standing_value" "is_standing_value" (defArgs s_is_standing_value) (defBody s_is_standing_value) (defScope s_is_standing_value) .none kV1 dc1 pm1 an1 cd1 ct1), sl1⟩)
    (c1 : PySem.W.codeIn K cd1 "is_standing_value" = true) (k1 : PySem.W.keepIn K (.ref f1) = true)
    (a2 : PySem.W.nsIn K mainGlobals "need_standing" = some (some (.ref f2)))
    (l2 : K.lookup f2 = some ⟨oc2, od2, .func (PySem.W.fnOf "need_standing" "need_standing" (defArgs s_need_standing) (defBody s_need_standing) (defScope s_need_standing) .none kV2 dc2 pm2 an2 cd2 ct2), sl2⟩)
    (c2 : PySem.W.codeIn K cd2 "need_standing" = true) (k2 : PySem.W.keepIn K (.ref f2) = true)
    (a3 : PySem.W.nsIn K mainGlobals "need_post" = some (some (.ref f3)))
    (l3 : K.lookup f3 = some ⟨oc3, od3, .func (PySem.W.fnOf "need_post" "need_post" (defArgs s_need_post) (defBody s_need_post) (defScope s_need_post) .none kV3 dc3 pm3 an3 cd3 ct3), sl3⟩)
    (c3 : PySem.W.codeIn K cd3 "need_post" = true) (k3 : PySem.W.keepIn K (.ref f3) = true)
    (a4 : PySem.W.nsIn K mainGlobals "third" = some (some (.ref f4)))
    (l4 : K.lookup f4 = some ⟨oc4, od4, .func (PySem.W.fnOf "third" "third" (defArgs s_third) (defBody s_third) (defScope s_third) .none kV4 dc4 pm4 an4 cd4 ct4), sl4⟩)
    (c4 : PySem.W.codeIn K cd4 "third" = true) (k4 : PySem.W.keepIn K (.ref f4) = true)
    (a5 : PySem.W.nsIn K mainGlobals "posts_of" = some (some (.ref f5)))
    (l5 : K.lookup f5 = some ⟨oc5, od5, .func (PySem.W.fnOf "posts_of" "posts_of" (defArgs s_posts_of) (defBody s_posts_of) (defScope s_posts_of) .none kV5 dc5 pm5 an5 cd5 ct5), sl5⟩)
    (c5 : PySem.W.codeIn K cd5 "posts_of" = true) (k5 : PySem.W.keepIn K (.ref f5) = true)
    (a6 : PySem.W.nsIn K mainGlobals "tops_of" = some (some (.ref f6)))
    (l6 : K.lookup f6 = some ⟨oc6, od6, .func (PySem.W.fnOf "tops_of" "tops_of" (defArgs s_tops_of) (defBody s_tops_of) (defScope s_tops_of) .none kV6 dc6 pm6 an6 cd6 ct6), sl6⟩)
    (c6 : PySem.W.codeIn K cd6 "tops_of" = true) (k6 : PySem.W.keepIn K (.ref f6) = true)
    (a7 : PySem.W.nsIn K mainGlobals "can_move" = some (some (.ref f7)))
    (l7 : K.lookup f7 = some ⟨oc7, od7, .func (PySem.W.fnOf "can_move" "can_move" (defArgs s_can_move) (defBody s_can_move) (defScope s_can_move) .none kV7 dc7 pm7 an7 cd7 ct7), sl7⟩)
    (c7 : PySem.W.codeIn K cd7 "can_move" = true) (k7 : PySem.W.keepIn K (.ref f7) = true)
    (a8 : PySem.W.nsIn K mainGlobals "is_move_pair" = some (some (.ref f8)))
    (l8 : K.lookup f8 = some ⟨oc8, od8, .func (PySem.W.fnOf "is_move_pair" "is_move_pair" (defArgs s_is_move_pair) (defBody s_is_move_pair) (defScope s_is_move_pair) .none kV8 dc8 pm8 an8 cd8 ct8), sl8⟩)
    (c8 : PySem.W.codeIn K cd8 "is_move_pair" = true) (k8 : PySem.W.keepIn K (.ref f8) = true)
    (a9 : PySem.W.nsIn K mainGlobals "text_of" = some (some (.ref f9)))
    (l9 : K.lookup f9 = some ⟨oc9, od9, .func (PySem.W.fnOf "text_of" "text_of" (defArgs s_text_of) (defBody s_text_of) (defScope s_text_of) .none kV9 dc9 pm9 an9 cd9 ct9), sl9⟩)
    (c9 : PySem.W.codeIn K cd9 "text_of" = true) (k9 : PySem.W.keepIn K (.ref f9) = true)
    (a10 : PySem.W.nsIn K mainGlobals "number_in" = some (some (.ref f10)))
    (l10 : K.lookup f10 = some ⟨oc10, od10, .func (PySem.W.fnOf "number_in" "number_in" (defArgs s_number_in) (defBody s_number_in) (defScope s_number_in) .none kV10 dc10 pm10 an10 cd10 ct10), sl10⟩)
    (c10 : PySem.W.codeIn K cd10 "number_in" = true) (k10 : PySem.W.keepIn K (.ref f10) = true)
    (a11 : PySem.W.nsIn K mainGlobals "standing_in" = some (some (.ref f11)))
    (l11 : K.lookup f11 = some ⟨oc11, od11, .func (PySem.W.fnOf "standing_in" "standing_in" (defArgs s_standing_in) (defBody s_standing_in) (defScope s_standing_in) .none kV11 dc11 pm11 an11 cd11 ct11), sl11⟩)
    (c11 : PySem.W.codeIn K cd11 "standing_in" = true) (k11 : PySem.W.keepIn K (.ref f11) = true)
    (a12 : PySem.W.nsIn K mainGlobals "standing_text" = some (some (.ref f12)))
    (l12 : K.lookup f12 = some ⟨oc12, od12, .func (PySem.W.fnOf "standing_text" "standing_text" (defArgs s_standing_text) (defBody s_standing_text) (defScope s_standing_text) .none kV12 dc12 pm12 an12 cd12 ct12), sl12⟩)
    (c12 : PySem.W.codeIn K cd12 "standing_text" = true) (k12 : PySem.W.keepIn K (.ref f12) = true)
    (a13 : PySem.W.nsIn K mainGlobals "read_standing" = some (some (.ref f13)))
    (l13 : K.lookup f13 = some ⟨oc13, od13, .func (PySem.W.fnOf "read_standing" "read_standing" (defArgs s_read_standing) (defBody s_read_standing) (defScope s_read_standing) .none kV13 dc13 pm13 an13 cd13 ct13), sl13⟩)
    (c13 : PySem.W.codeIn K cd13 "read_standing" = true) (k13 : PySem.W.keepIn K (.ref f13) = true)
    (a14 : PySem.W.nsIn K mainGlobals "doubled" = some (some (.ref f14)))
    (l14 : K.lookup f14 = some ⟨oc14, od14, .func (PySem.W.fnOf "doubled" "doubled" (defArgs s_doubled) (defBody s_doubled) (defScope s_doubled) .none kV14 dc14 pm14 an14 cd14 ct14), sl14⟩)
    (c14 : PySem.W.codeIn K cd14 "doubled" = true) (k14 : PySem.W.keepIn K (.ref f14) = true)
    (a15 : PySem.W.nsIn K mainGlobals "to_one" = some (some (.ref f15)))
    (l15 : K.lookup f15 = some ⟨oc15, od15, .func (PySem.W.fnOf "to_one" "to_one" (defArgs s_to_one) (defBody s_to_one) (defScope s_to_one) .none kV15 dc15 pm15 an15 cd15 ct15), sl15⟩)
    (c15 : PySem.W.codeIn K cd15 "to_one" = true) (k15 : PySem.W.keepIn K (.ref f15) = true)
    (a16 : PySem.W.nsIn K mainGlobals "parted" = some (some (.ref f16)))
    (l16 : K.lookup f16 = some ⟨oc16, od16, .func (PySem.W.fnOf "parted" "parted" (defArgs s_parted) (defBody s_parted) (defScope s_parted) .none kV16 dc16 pm16 an16 cd16 ct16), sl16⟩)
    (c16 : PySem.W.codeIn K cd16 "parted" = true) (k16 : PySem.W.keepIn K (.ref f16) = true)
    (a17 : PySem.W.nsIn K mainGlobals "both_worths" = some (some (.ref f17)))
    (l17 : K.lookup f17 = some ⟨oc17, od17, .func (PySem.W.fnOf "both_worths" "both_worths" (defArgs s_both_worths) (defBody s_both_worths) (defScope s_both_worths) .none kV17 dc17 pm17 an17 cd17 ct17), sl17⟩)
    (c17 : PySem.W.codeIn K cd17 "both_worths" = true) (k17 : PySem.W.keepIn K (.ref f17) = true)
    (a18 : PySem.W.nsIn K mainGlobals "fewest_of" = some (some (.ref f18)))
    (l18 : K.lookup f18 = some ⟨oc18, od18, .func (PySem.W.fnOf "fewest_of" "fewest_of" (defArgs s_fewest_of) (defBody s_fewest_of) (defScope s_fewest_of) .none kV18 dc18 pm18 an18 cd18 ct18), sl18⟩)
    (c18 : PySem.W.codeIn K cd18 "fewest_of" = true) (k18 : PySem.W.keepIn K (.ref f18) = true)
    (a19 : PySem.W.findIn K (.ref C14) "__init__" = some (some (.ref f19)))
    (l19 : K.lookup f19 = some ⟨oc19, od19, .func (PySem.W.fnOf "__init__" "Rings.__init__" (defArgs s_Rings_init) (defBody s_Rings_init) (defScope s_Rings_init) .none kV19 dc19 pm19 an19 cd19 ct19), sl19⟩)
    (c19 : PySem.W.codeIn K cd19 "Rings.__init__" = true) (k19 : PySem.W.keepIn K (.ref f19) = true)
    (w19x0 : PySem.W.makesIn K C14 = true)
    (w19x1 : PySem.W.isFn K (.ref f19) = true)
    (w19x2 : PySem.W.keepIn K (.ref C14) = true)
    (a20 : PySem.W.findCls K (.ref C14) (.type "type") "read" = some (.get (.builtin "classmethod.__get__") (.ref pp20) .none (.ref C14)))
    (b20 : PySem.W.recIn K pp20 "classmethod" = some (.ref f20 :: rs20))
    (l20 : K.lookup f20 = some ⟨oc20, od20, .func (PySem.W.fnOf "read" "Rings.read" (defArgs s_Rings_read) (defBody s_Rings_read) (defScope s_Rings_read) .none kV20 dc20 pm20 an20 cd20 ct20), sl20⟩)
    (c20 : PySem.W.codeIn K cd20 "Rings.read" = true) (k20 : PySem.W.keepIn K (.ref f20) = true)
    (w20x0 : PySem.W.fnIn K f20 = true)
    (a21 : PySem.W.findIn K (.ref C14) "source" = some (some (.ref pp21)))
    (b21 : PySem.W.recIn K pp21 "property" = some (.ref f21 :: rs21))
    (l21 : K.lookup f21 = some ⟨oc21, od21, .func (PySem.W.fnOf "source" "Rings.source" (defArgs s_Rings_source) (defBody s_Rings_source) (defScope s_Rings_source) .none kV21 dc21 pm21 an21 cd21 ct21), sl21⟩)
    (c21 : PySem.W.codeIn K cd21 "Rings.source" = true) (k21 : PySem.W.keepIn K (.ref f21) = true)
    (w21x0 : PySem.W.specialIn K (.ref pp21) "__get__" = some (some (.builtin "property.__get__")))
    (w21x1 : PySem.W.takesIn K (.ref pp21) = some true)
    (a22 : PySem.W.findIn K (.ref C14) "__str__" = some (some (.ref f22)))
    (l22 : K.lookup f22 = some ⟨oc22, od22, .func (PySem.W.fnOf "__str__" "Rings.__str__" (defArgs s_Rings_str) (defBody s_Rings_str) (defScope s_Rings_str) .none kV22 dc22 pm22 an22 cd22 ct22), sl22⟩)
    (c22 : PySem.W.codeIn K cd22 "Rings.__str__" = true) (k22 : PySem.W.keepIn K (.ref f22) = true)
    (w22x0 : PySem.W.isFn K (.ref f22) = true)
    (a23 : PySem.W.nsIn K mainGlobals "_law_deck" = some (some (.ref f23)))
    (l23 : K.lookup f23 = some ⟨oc23, od23, .func (PySem.W.fnOf "_law_deck" "_law_deck" (defArgs s__law_deck) (defBody s__law_deck) (defScope s__law_deck) .none kV23 dc23 pm23 an23 cd23 ct23), sl23⟩)
    (c23 : PySem.W.codeIn K cd23 "_law_deck" = true) (k23 : PySem.W.keepIn K (.ref f23) = true)
    (a24 : PySem.W.nsIn K mainGlobals "_law_pick" = some (some (.ref f24)))
    (l24 : K.lookup f24 = some ⟨oc24, od24, .func (PySem.W.fnOf "_law_pick" "_law_pick" (defArgs s__law_pick) (defBody s__law_pick) (defScope s__law_pick) .none kV24 dc24 pm24 an24 cd24 ct24), sl24⟩)
    (c24 : PySem.W.codeIn K cd24 "_law_pick" = true) (k24 : PySem.W.keepIn K (.ref f24) = true)
    (a25 : PySem.W.nsIn K mainGlobals "_law_one" = some (some (.ref f25)))
    (l25 : K.lookup f25 = some ⟨oc25, od25, .func (PySem.W.fnOf "_law_one" "_law_one" (defArgs s__law_one) (defBody s__law_one) (defScope s__law_one) .none kV25 dc25 pm25 an25 cd25 ct25), sl25⟩)
    (c25 : PySem.W.codeIn K cd25 "_law_one" = true) (k25 : PySem.W.keepIn K (.ref f25) = true)
    (a26 : PySem.W.nsIn K mainGlobals "_law_sort" = some (some (.ref f26)))
    (l26 : K.lookup f26 = some ⟨oc26, od26, .func (PySem.W.fnOf "_law_sort" "_law_sort" (defArgs s__law_sort) (defBody s__law_sort) (defScope s__law_sort) .none kV26 dc26 pm26 an26 cd26 ct26), sl26⟩)
    (c26 : PySem.W.codeIn K cd26 "_law_sort" = true) (k26 : PySem.W.keepIn K (.ref f26) = true)
    (a27 : PySem.W.nsIn K mainGlobals "_law_same" = some (some (.ref f27)))
    (l27 : K.lookup f27 = some ⟨oc27, od27, .func (PySem.W.fnOf "_law_same" "_law_same" (defArgs s__law_same) (defBody s__law_same) (defScope s__law_same) .none kV27 dc27 pm27 an27 cd27 ct27), sl27⟩)
    (c27 : PySem.W.codeIn K cd27 "_law_same" = true) (k27 : PySem.W.keepIn K (.ref f27) = true)
    (a28 : PySem.W.nsIn K mainGlobals "_law_kin" = some (some (.ref f28)))
    (l28 : K.lookup f28 = some ⟨oc28, od28, .func (PySem.W.fnOf "_law_kin" "_law_kin" (defArgs s__law_kin) (defBody s__law_kin) (defScope s__law_kin) .none kV28 dc28 pm28 an28 cd28 ct28), sl28⟩)
    (c28 : PySem.W.codeIn K cd28 "_law_kin" = true) (k28 : PySem.W.keepIn K (.ref f28) = true)
    (a29 : PySem.W.nsIn K mainGlobals "_law_try" = some (some (.ref f29)))
    (l29 : K.lookup f29 = some ⟨oc29, od29, .func (PySem.W.fnOf "_law_try" "_law_try" (defArgs s__law_try) (defBody s__law_try) (defScope s__law_try) .none kV29 dc29 pm29 an29 cd29 ct29), sl29⟩)
    (c29 : PySem.W.codeIn K cd29 "_law_try" = true) (k29 : PySem.W.keepIn K (.ref f29) = true)
    (a30 : PySem.W.nsIn K mainGlobals "_law_standing" = some (some (.ref f30)))
    (l30 : K.lookup f30 = some ⟨oc30, od30, .func (PySem.W.fnOf "_law_standing" "_law_standing" (defArgs s__law_standing) (defBody s__law_standing) (defScope s__law_standing) .none kV30 dc30 pm30 an30 cd30 ct30), sl30⟩)
    (c30 : PySem.W.codeIn K cd30 "_law_standing" = true) (k30 : PySem.W.keepIn K (.ref f30) = true)
    (a31 : PySem.W.nsIn K mainGlobals "_law_writing" = some (some (.ref f31)))
    (l31 : K.lookup f31 = some ⟨oc31, od31, .func (PySem.W.fnOf "_law_writing" "_law_writing" (defArgs s__law_writing) (defBody s__law_writing) (defScope s__law_writing) .none kV31 dc31 pm31 an31 cd31 ct31), sl31⟩)
    (c31 : PySem.W.codeIn K cd31 "_law_writing" = true) (k31 : PySem.W.keepIn K (.ref f31) = true)
    (a32 : PySem.W.nsIn K mainGlobals "_law_reading" = some (some (.ref f32)))
    (l32 : K.lookup f32 = some ⟨oc32, od32, .func (PySem.W.fnOf "_law_reading" "_law_reading" (defArgs s__law_reading) (defBody s__law_reading) (defScope s__law_reading) .none kV32 dc32 pm32 an32 cd32 ct32), sl32⟩)
    (c32 : PySem.W.codeIn K cd32 "_law_reading" = true) (k32 : PySem.W.keepIn K (.ref f32) = true)
    (a33 : PySem.W.nsIn K mainGlobals "_law_bent" = some (some (.ref f33)))
    (l33 : K.lookup f33 = some ⟨oc33, od33, .func (PySem.W.fnOf "_law_bent" "_law_bent" (defArgs s__law_bent) (defBody s__law_bent) (defScope s__law_bent) .none kV33 dc33 pm33 an33 cd33 ct33), sl33⟩)
    (c33 : PySem.W.codeIn K cd33 "_law_bent" = true) (k33 : PySem.W.keepIn K (.ref f33) = true)
    (a34 : PySem.W.nsIn K mainGlobals "law" = some (some (.ref f34)))
    (l34 : K.lookup f34 = some ⟨oc34, od34, .func (PySem.W.fnOf "law" "law" (defArgs s_law) (defBody s_law) (defScope s_law) .none kV34 dc34 pm34 an34 (.ref cc34) ct34), sl34⟩)
    (c34 : PySem.W.codeIn K (.ref cc34) "law" = true) (k34 : PySem.W.keepIn K (.ref f34) = true)
    (m34 : K.lookup cc34 = some ⟨e34, dd34, .fields vs34, sm34⟩) (v34 : vs34[11]? = some (.ref P34)) (q34 : K.lookup P34 = none)
    (n_ValueError : PySem.W.nsIn K mainGlobals "ValueError" = some none)
    (n_all : PySem.W.nsIn K mainGlobals "all" = some none)
    (n_bool : PySem.W.nsIn K mainGlobals "bool" = some none)
    (n_enumerate : PySem.W.nsIn K mainGlobals "enumerate" = some none)
    (n_int : PySem.W.nsIn K mainGlobals "int" = some none)
    (n_isinstance : PySem.W.nsIn K mainGlobals "isinstance" = some none)
    (n_len : PySem.W.nsIn K mainGlobals "len" = some none)
    (n_list : PySem.W.nsIn K mainGlobals "list" = some none)
    (n_min : PySem.W.nsIn K mainGlobals "min" = some none)
    (n_range : PySem.W.nsIn K mainGlobals "range" = some none)
    (n_str : PySem.W.nsIn K mainGlobals "str" = some none)
    (n_tuple : PySem.W.nsIn K mainGlobals "tuple" = some none)
    (n_zip : PySem.W.nsIn K mainGlobals "zip" = some none)
    (x0 : PySem.W.nsIn K mainGlobals "InvalidStanding" = some (some (.ref C0)))
    (x1 : PySem.W.nsIn K mainGlobals "InvalidPost" = some (some (.ref C1)))
    (x2 : PySem.W.nsIn K mainGlobals "InvalidPosts" = some (some (.ref C2)))
    (x3 : PySem.W.nsIn K mainGlobals "InvalidNumber" = some (some (.ref C3)))
    (x4 : PySem.W.nsIn K mainGlobals "InvalidArcs" = some (some (.ref C4)))
    (x5 : PySem.W.nsIn K mainGlobals "InvalidMove" = some (some (.ref C5)))
    (x6 : PySem.W.nsIn K mainGlobals "InvalidWay" = some (some (.ref C6)))
    (x7 : PySem.W.nsIn K mainGlobals "InvalidRing" = some (some (.ref C7)))
    (x8 : PySem.W.nsIn K mainGlobals "InvalidText" = some (some (.ref C8)))
    (x9 : PySem.W.nsIn K mainGlobals "Barred" = some (some (.ref C9)))
    (x10 : PySem.W.nsIn K mainGlobals "Unlike" = some (some (.ref C10)))
    (x11 : PySem.W.nsIn K mainGlobals "NothingToUndo" = some (some (.ref C11)))
    (x12 : PySem.W.nsIn K mainGlobals "TooMany" = some (some (.ref C12)))
    (x13 : PySem.W.nsIn K mainGlobals "RingError" = some (some (.ref C13)))
    (hE : errB K [C0, C1, C2, C3, C4, C5, C6, C7, C8, C9, C10, C11, C12, C13, C14] = true)
    (gMOST_RINGS : PySem.W.nsIn K mainGlobals "MOST_RINGS" = some (some (.int 1000 t_MOST_RINGS)))
    (gPOSTS : PySem.W.nsIn K mainGlobals "POSTS" = some (some (.ref g_POSTS)))
    (hPOSTS : K.lookup g_POSTS = some ⟨.type "tuple", do_POSTS, .seq #[.str ⟨#[48]⟩ t_POSTS0, .str ⟨#[49]⟩ t_POSTS1, .str ⟨#[50]⟩ t_POSTS2] n_POSTS, sl_POSTS⟩) :
    Tx K mg (clsF [C0, C1, C2, C3, C4, C5, C6, C7, C8, C9, C10, C11, C12, C13, C14]) ∧
    ((∀ f, mg "law" = some (.ref f) → TabOf K f h) → LamOk K mg h ⟨"law", f34, cc34, P34⟩) := by
  refine ⟨{
    e_Rings := PySem.W.mg_of X G x14,
    cl_Rings := ⟨y14x0, y14x1, y14x2, y14x3⟩,
    cr_Rings := ⟨y14x4, y14x5⟩,
    na_Rings_row := y14x6,
    d_is_within := ⟨_, _, fun_mk (st := s_is_within) l0 c0 k0, PySem.W.mg_of X G a0, (fun_mk (st := s_is_within) l0 c0 k0).binds (ps := ["value", "low", "high"]) fun _ _ _ _ _ _ us hl => match us, hl with | [_, _, _], _ => rfl⟩,
    d_is_standing_value := ⟨_, _, fun_mk (st := s_is_standing_value) l1 c1 k1, PySem.W.mg_of X G a1, (fun_mk (st := s_is_standing_value) l1 c1 k1).binds (ps := ["value"]) fun _ _ _ _ _ _ us hl => match us, hl with | [_], _ => rfl⟩,
    d_need_standing := ⟨_, _, fun_mk (st := s_need_standing) l2 c2 k2, PySem.W.mg_of X G a2, (fun_mk (st := s_need_standing) l2 c2 k2).binds (ps := ["value"]) fun _ _ _ _ _ _ us hl => match us, hl with | [_], _ => rfl⟩,
    d_need_post := ⟨_, _, fun_mk (st := s_need_post) l3 c3 k3, PySem.W.mg_of X G a3, (fun_mk (st := s_need_post) l3 c3 k3).binds (ps := ["value"]) fun _ _ _ _ _ _ us hl => match us, hl with | [_], _ => rfl⟩,
    d_third := ⟨_, _, fun_mk (st := s_third) l4 c4 k4, PySem.W.mg_of X G a4, (fun_mk (st := s_third) l4 c4 k4).binds (ps := ["one", "other"]) fun _ _ _ _ _ _ us hl => match us, hl with | [_, _], _ => rfl⟩,
    d_posts_of := ⟨_, _, fun_mk (st := s_posts_of) l5 c5 k5, PySem.W.mg_of X G a5, (fun_mk (st := s_posts_of) l5 c5 k5).binds (ps := ["standing"]) fun _ _ _ _ _ _ us hl => match us, hl with | [_], _ => rfl⟩,
    d_tops_of := ⟨_, _, fun_mk (st := s_tops_of) l6 c6 k6, PySem.W.mg_of X G a6, (fun_mk (st := s_tops_of) l6 c6 k6).binds (ps := ["standing"]) fun _ _ _ _ _ _ us hl => match us, hl with | [_], _ => rfl⟩,
    d_can_move := ⟨_, _, fun_mk (st := s_can_move) l7 c7 k7, PySem.W.mg_of X G a7, (fun_mk (st := s_can_move) l7 c7 k7).binds (ps := ["standing", "ring", "post"]) fun _ _ _ _ _ _ us hl => match us, hl with | [_, _, _], _ => rfl⟩,
    d_is_move_pair := ⟨_, _, fun_mk (st := s_is_move_pair) l8 c8 k8, PySem.W.mg_of X G a8, (fun_mk (st := s_is_move_pair) l8 c8 k8).binds (ps := ["standing", "value"]) fun _ _ _ _ _ _ us hl => match us, hl with | [_, _], _ => rfl⟩,
    d_text_of := ⟨_, _, fun_mk (st := s_text_of) l9 c9 k9, PySem.W.mg_of X G a9, (fun_mk (st := s_text_of) l9 c9 k9).binds (ps := ["standing"]) fun _ _ _ _ _ _ us hl => match us, hl with | [_], _ => rfl⟩,
    d_number_in := ⟨_, _, fun_mk (st := s_number_in) l10 c10 k10, PySem.W.mg_of X G a10, (fun_mk (st := s_number_in) l10 c10 k10).binds (ps := ["word"]) fun _ _ _ _ _ _ us hl => match us, hl with | [_], _ => rfl⟩,
    d_standing_in := ⟨_, _, fun_mk (st := s_standing_in) l11 c11 k11, PySem.W.mg_of X G a11, (fun_mk (st := s_standing_in) l11 c11 k11).binds (ps := ["value"]) fun _ _ _ _ _ _ us hl => match us, hl with | [_], _ => rfl⟩,
    d_standing_text := ⟨_, _, fun_mk (st := s_standing_text) l12 c12 k12, PySem.W.mg_of X G a12, (fun_mk (st := s_standing_text) l12 c12 k12).binds (ps := ["standing"]) fun _ _ _ _ _ _ us hl => match us, hl with | [_], _ => rfl⟩,
    d_read_standing := ⟨_, _, fun_mk (st := s_read_standing) l13 c13 k13, PySem.W.mg_of X G a13, (fun_mk (st := s_read_standing) l13 c13 k13).binds (ps := ["value"]) fun _ _ _ _ _ _ us hl => match us, hl with | [_], _ => rfl⟩,
    d_doubled := ⟨_, _, fun_mk (st := s_doubled) l14 c14 k14, PySem.W.mg_of X G a14, (fun_mk (st := s_doubled) l14 c14 k14).binds (ps := ["many"]) fun _ _ _ _ _ _ us hl => match us, hl with | [_], _ => rfl⟩,
    d_to_one := ⟨_, _, fun_mk (st := s_to_one) l15 c15 k15, PySem.W.mg_of X G a15, (fun_mk (st := s_to_one) l15 c15 k15).binds (ps := ["posts", "goal"]) fun _ _ _ _ _ _ us hl => match us, hl with | [_, _], _ => rfl⟩,
    d_parted := ⟨_, _, fun_mk (st := s_parted) l16 c16 k16, PySem.W.mg_of X G a16, (fun_mk (st := s_parted) l16 c16 k16).binds (ps := ["one", "other"]) fun _ _ _ _ _ _ us hl => match us, hl with | [_, _], _ => rfl⟩,
    d_both_worths := ⟨_, _, fun_mk (st := s_both_worths) l17 c17 k17, PySem.W.mg_of X G a17, (fun_mk (st := s_both_worths) l17 c17 k17).binds (ps := ["one", "other"]) fun _ _ _ _ _ _ us hl => match us, hl with | [_, _], _ => rfl⟩,
    d_fewest_of := ⟨_, _, fun_mk (st := s_fewest_of) l18 c18 k18, PySem.W.mg_of X G a18, (fun_mk (st := s_fewest_of) l18 c18 k18).binds (ps := ["one", "other"]) fun _ _ _ _ _ _ us hl => match us, hl with | [_, _], _ => rfl⟩,
    d_Rings_init := ⟨_, _, fun_mk (st := s_Rings_init) l19 c19 k19, ⟨w19x0, a19, w19x1, w19x2⟩, (fun_mk (st := s_Rings_init) l19 c19 k19).binds (ps := ["self", "standing"]) fun _ _ _ _ _ _ us hl => match us, hl with | [_, _], _ => rfl⟩,
    d_Rings_read := ⟨_, _, _, fun_mk (st := s_Rings_read) l20 c20 k20, ⟨a20, ⟨_, b20⟩, w20x0⟩, (fun_mk (st := s_Rings_read) l20 c20 k20).binds (ps := ["cls", "value"]) fun _ _ _ _ _ _ us hl => match us, hl with | [_, _], _ => rfl⟩,
    d_Rings_source := ⟨_, _, _, fun_mk (st := s_Rings_source) l21 c21 k21, ⟨a21, w21x0, w21x1, _, b21⟩, (fun_mk (st := s_Rings_source) l21 c21 k21).binds (ps := ["self"]) fun _ _ _ _ _ _ us hl => match us, hl with | [_], _ => rfl⟩,
    d_Rings_str := ⟨_, _, fun_mk (st := s_Rings_str) l22 c22 k22, a22, w22x0, (fun_mk (st := s_Rings_str) l22 c22 k22).binds (ps := ["self"]) fun _ _ _ _ _ _ us hl => match us, hl with | [_], _ => rfl⟩,
    d__law_deck := ⟨_, _, fun_mk (st := s__law_deck) l23 c23 k23, PySem.W.mg_of X G a23, (fun_mk (st := s__law_deck) l23 c23 k23).binds (ps := ["cell", "turn"]) fun _ _ _ _ _ _ us hl => match us, hl with | [_, _], _ => rfl⟩,
    d__law_pick := ⟨_, _, fun_mk (st := s__law_pick) l24 c24 k24, PySem.W.mg_of X G a24, (fun_mk (st := s__law_pick) l24 c24 k24).binds (ps := ["deck", "size"]) fun _ _ _ _ _ _ us hl => match us, hl with | [_, _], _ => rfl⟩,
    d__law_one := ⟨_, _, fun_mk (st := s__law_one) l25 c25 k25, PySem.W.mg_of X G a25, (fun_mk (st := s__law_one) l25 c25 k25).binds (ps := ["deck", "some"]) fun _ _ _ _ _ _ us hl => match us, hl with | [_, _], _ => rfl⟩,
    d__law_sort := ⟨_, _, fun_mk (st := s__law_sort) l26 c26 k26, PySem.W.mg_of X G a26, (fun_mk (st := s__law_sort) l26 c26 k26).binds (ps := ["thing"]) fun _ _ _ _ _ _ us hl => match us, hl with | [_], _ => rfl⟩,
    d__law_same := ⟨_, _, fun_mk (st := s__law_same) l27 c27 k27, PySem.W.mg_of X G a27, (fun_mk (st := s__law_same) l27 c27 k27).binds (ps := ["told", "due"]) fun _ _ _ _ _ _ us hl => match us, hl with | [_, _], _ => rfl⟩,
    d__law_kin := ⟨_, _, fun_mk (st := s__law_kin) l28 c28 k28, PySem.W.mg_of X G a28, (fun_mk (st := s__law_kin) l28 c28 k28).binds (ps := ["e"]) fun _ _ _ _ _ _ us hl => match us, hl with | [_], _ => rfl⟩,
    d__law_try := ⟨_, _, fun_mk (st := s__law_try) l29 c29 k29, PySem.W.mg_of X G a29, (fun_mk (st := s__law_try) l29 c29 k29).binds (ps := ["call_so"]) fun _ _ _ _ _ _ us hl => match us, hl with | [_], _ => rfl⟩,
    d__law_standing := ⟨_, _, fun_mk (st := s__law_standing) l30 c30 k30, PySem.W.mg_of X G a30, (fun_mk (st := s__law_standing) l30 c30 k30).binds (ps := ["deck", "many"]) fun _ _ _ _ _ _ us hl => match us, hl with | [_, _], _ => rfl⟩,
    d__law_writing := ⟨_, _, fun_mk (st := s__law_writing) l31 c31 k31, PySem.W.mg_of X G a31, (fun_mk (st := s__law_writing) l31 c31 k31).binds (ps := ["standing_so"]) fun _ _ _ _ _ _ us hl => match us, hl with | [_], _ => rfl⟩,
    d__law_reading := ⟨_, _, fun_mk (st := s__law_reading) l32 c32 k32, PySem.W.mg_of X G a32, (fun_mk (st := s__law_reading) l32 c32 k32).binds (ps := ["text"]) fun _ _ _ _ _ _ us hl => match us, hl with | [_], _ => rfl⟩,
    d__law_bent := ⟨_, _, fun_mk (st := s__law_bent) l33 c33 k33, PySem.W.mg_of X G a33, (fun_mk (st := s__law_bent) l33 c33 k33).binds (ps := ["deck", "text"]) fun _ _ _ _ _ _ us hl => match us, hl with | [_, _], _ => rfl⟩,
    d_law := ⟨_, _, fun_mk (st := s_law) l34 c34 k34, PySem.W.mg_of X G a34, (fun_mk (st := s_law) l34 c34 k34).binds (ps := ["script"]) fun _ _ _ _ _ _ us hl => match us, hl with | [_], _ => rfl⟩,
    n_ValueError := PySem.W.mg_none_of X G n_ValueError,
    n_all := PySem.W.mg_none_of X G n_all,
    n_bool := PySem.W.mg_none_of X G n_bool,
    n_enumerate := PySem.W.mg_none_of X G n_enumerate,
    n_int := PySem.W.mg_none_of X G n_int,
    n_isinstance := PySem.W.mg_none_of X G n_isinstance,
    n_len := PySem.W.mg_none_of X G n_len,
    n_list := PySem.W.mg_none_of X G n_list,
    n_min := PySem.W.mg_none_of X G n_min,
    n_range := PySem.W.mg_none_of X G n_range,
    n_str := PySem.W.mg_none_of X G n_str,
    n_tuple := PySem.W.mg_none_of X G n_tuple,
    n_zip := PySem.W.mg_none_of X G n_zip,
    e_InvalidStanding := PySem.W.mg_of X G x0,
    e_InvalidPost := PySem.W.mg_of X G x1,
    e_InvalidPosts := PySem.W.mg_of X G x2,
    e_InvalidNumber := PySem.W.mg_of X G x3,
    e_InvalidArcs := PySem.W.mg_of X G x4,
    e_InvalidMove := PySem.W.mg_of X G x5,
    e_InvalidWay := PySem.W.mg_of X G x6,
    e_InvalidRing := PySem.W.mg_of X G x7,
    e_InvalidText := PySem.W.mg_of X G x8,
    e_Barred := PySem.W.mg_of X G x9,
    e_Unlike := PySem.W.mg_of X G x10,
    e_NothingToUndo := PySem.W.mg_of X G x11,
    e_TooMany := PySem.W.mg_of X G x12,
    e_RingError := PySem.W.mg_of X G x13,
    g_MOST_RINGS := ⟨_, PySem.W.mg_of X G gMOST_RINGS⟩,
    g_POSTS := ⟨_, PySem.W.mg_of X G gPOSTS, .inr ⟨_, _, _, hPOSTS, rfl, rfl, big_le (by show 3 ≤ big; decide), (.cons ⟨_, rfl⟩ (.cons ⟨_, rfl⟩ (.cons ⟨_, rfl⟩ .nil)))⟩⟩ }, fun t => lam_mk (PySem.W.mg_of X G a34) l34 rfl m34 v34 q34 t⟩
end LW
open PySem PySem.W PyProof.Rows
set_option maxRecDepth 100000 in
set_option maxHeartbeats 0 in
theorem PySem.Challenge.cw_ringtowers_k09_standings_written_and_rea_holds : PySem.Challenge.rw_ringtowers_k09_standings_written_and_rea.Holds := by
  w_on; o_law; k_head; (case hw => w_witness2)
  k_fill
  refine DH.walk_ofTab (l := PySem.Challenge.rw_ringtowers_k09_standings_written_and_rea) (n := 63) (k := 9) (x := "script") (CX := fun w => L2N.CX PySem.Challenge.rw_ringtowers_k09_standings_written_and_rea.prog w) ["law"] rfl (by decide) rfl ⟨rfl, by decide, by decide⟩ (by decide +kernel) (fun w h Y => by first | exact PySem.W.km_in_of Y | exact PySem.W.kIn_of Y) ?F (fun _ _ _ _ _ z => DL.noCX z)
  case F =>
    intro w mg fa h Y KX G hmg tabs
    refine' LW.law_end KX G hmg (LW.all_mk KX G ?x14 ?y14x0 ?y14x1 ?y14x2 ?y14x3 ?y14x4 ?y14x5 ?y14x6 ?a0 ?l0 ?c0 ?k0 ?a1 ?l1 ?c1 ?k1 ?a2 ?l2 ?c2 ?k2 ?a3 ?l3 ?c3 ?k3 ?a4 ?l4 ?c4 ?k4 ?a5 ?l5 ?c5 ?k5 ?a6 ?l6 ?c6 ?k6 ?a7 ?l7 ?c7 ?k7 ?a8 ?l8 ?c8 ?k8 ?a9 ?l9 ?c9 ?k9 ?a10 ?l10 ?c10 ?k10 ?a11 ?l11 ?c11 ?k11 ?a12 ?l12 ?c12 ?k12 ?a13 ?l13 ?c13 ?k13 ?a14 ?l14 ?c14 ?k14 ?a15 ?l15 ?c15 ?k15 ?a16 ?l16 ?c16 ?k16 ?a17 ?l17 ?c17 ?k17 ?a18 ?l18 ?c18 ?k18 ?a19 ?l19 ?c19 ?k19 ?w19x0 ?w19x1 ?w19x2 ?a20 ?b20 ?l20 ?c20 ?k20 ?w20x0 ?a21 ?b21 ?l21 ?c21 ?k21 ?w21x0 ?w21x1 ?a22 ?l22 ?c22 ?k22 ?w22x0 ?a23 ?l23 ?c23 ?k23 ?a24 ?l24 ?c24 ?k24 ?a25 ?l25 ?c25 ?k25 ?a26 ?l26 ?c26 ?k26 ?a27 ?l27 ?c27 ?k27 ?a28 ?l28 ?c28 ?k28 ?a29 ?l29 ?c29 ?k29 ?a30 ?l30 ?c30 ?k30 ?a31 ?l31 ?c31 ?k31 ?a32 ?l32 ?c32 ?k32 ?a33 ?l33 ?c33 ?k33 ?a34 ?l34 ?c34 ?k34 ?m34 ?v34 ?q34 ?n_ValueError ?n_all ?n_bool ?n_enumerate ?n_int ?n_isinstance ?n_len ?n_list ?n_min ?n_range ?n_str ?n_tuple ?n_zip ?x0 ?x1 ?x2 ?x3 ?x4 ?x5 ?x6 ?x7 ?x8 ?x9 ?x10 ?x11 ?x12 ?x13 ?hE ?gMOST_RINGS ?gPOSTS ?hPOSTS) (fun x hx => tabs x (by simpa using hx)) ?hE2 ?nd LW.law_true (TmX.too_mk (st := LW.s_TooMany_init) ?tC ?tbm ?tsa ?tex ?tty ?tkC ?tiC ?ttI ?tlk ?tcd ?tcode ?tvs ?tfile ?tcell ?tcls ?tmro ?tup ?tsub ?tho KX G ?tsup ?ttop ?tno ?tpar ?targ ?tS ?tco ?tgen ?tbd ?tb ?tev ?tsw ?tsw2) ?xf ?no
    (case x14 => k_is); (case y14x0 => kernel_rfl); (case y14x1 => kernel_rfl); (case y14x2 => kernel_rfl); (case y14x3 => kernel_rfl); (case y14x4 => kernel_rfl); (case y14x5 => kernel_rfl); (case y14x6 => kernel_rfl); (case a0 => k_is); (case l0 => k_is); (case c0 => k_is); (case k0 => k_is); (case a1 => k_is); (case l1 => k_is); (case c1 => k_is); (case k1 => k_is); (case a2 => k_is); (case l2 => k_is); (case c2 => k_is); (case k2 => k_is); (case a3 => k_is); (case l3 => k_is); (case c3 => k_is); (case k3 => k_is); (case a4 => k_is); (case l4 => k_is); (case c4 => k_is); (case k4 => k_is); (case a5 => k_is); (case l5 => k_is); (case c5 => k_is); (case k5 => k_is); (case a6 => k_is); (case l6 => k_is); (case c6 => k_is); (case k6 => k_is); (case a7 => k_is); (case l7 => k_is); (case c7 => k_is); (case k7 => k_is); (case a8 => k_is); (case l8 => k_is); (case c8 => k_is); (case k8 => k_is); (case a9 => k_is); (case l9 => k_is); (case c9 => k_is); (case k9 => k_is); (case a10 => k_is); (case l10 => k_is); (case c10 => k_is); (case k10 => k_is); (case a11 => k_is); (case l11 => k_is); (case c11 => k_is); (case k11 => k_is); (case a12 => k_is); (case l12 => k_is); (case c12 => k_is); (case k12 => k_is); (case a13 => k_is); (case l13 => k_is); (case c13 => k_is); (case k13 => k_is); (case a14 => k_is); (case l14 => k_is); (case c14 => k_is); (case k14 => k_is); (case a15 => k_is); (case l15 => k_is); (case c15 => k_is); (case k15 => k_is); (case a16 => k_is); (case l16 => k_is); (case c16 => k_is); (case k16 => k_is); (case a17 => k_is); (case l17 => k_is); (case c17 => k_is); (case k17 => k_is); (case a18 => k_is); (case l18 => k_is); (case c18 => k_is); (case k18 => k_is); (case a19 => k_is); (case l19 => k_is); (case c19 => k_is); (case k19 => k_is); (case w19x0 => kernel_rfl); (case w19x1 => kernel_rfl); (case w19x2 => kernel_rfl); (case a20 => k_is); (case b20 => k_is); (case l20 => k_is); (case c20 => k_is); (case k20 => k_is); (case w20x0 => kernel_rfl); (case a21 => k_is); (case b21 => k_is); (case l21 => k_is); (case c21 => k_is); (case k21 => k_is); (case w21x0 => kernel_rfl); (case w21x1 => kernel_rfl); (case a22 => k_is); (case l22 => k_is); (case c22 => k_is); (case k22 => k_is); (case w22x0 => kernel_rfl); (case a23 => k_is); (case l23 => k_is); (case c23 => k_is); (case k23 => k_is); (case a24 => k_is); (case l24 => k_is); (case c24 => k_is); (case k24 => k_is); (case a25 => k_is); (case l25 => k_is); (case c25 => k_is); (case k25 => k_is); (case a26 => k_is); (case l26 => k_is); (case c26 => k_is); (case k26 => k_is); (case a27 => k_is); (case l27 => k_is); (case c27 => k_is); (case k27 => k_is); (case a28 => k_is); (case l28 => k_is); (case c28 => k_is); (case k28 => k_is); (case a29 => k_is); (case l29 => k_is); (case c29 => k_is); (case k29 => k_is); (case a30 => k_is); (case l30 => k_is); (case c30 => k_is); (case k30 => k_is); (case a31 => k_is); (case l31 => k_is); (case c31 => k_is); (case k31 => k_is); (case a32 => k_is); (case l32 => k_is); (case c32 => k_is); (case k32 => k_is); (case a33 => k_is); (case l33 => k_is); (case c33 => k_is); (case k33 => k_is); (case a34 => k_is); (case l34 => k_is); (case c34 => k_is); (case k34 => k_is); (case m34 => k_is); (case v34 => rfl); (case q34 => kernel_rfl); (case n_ValueError => k_is); (case n_all => k_is); (case n_bool => k_is); (case n_enumerate => k_is); (case n_int => k_is); (case n_isinstance => k_is); (case n_len => k_is); (case n_list => k_is); (case n_min => k_is); (case n_range => k_is); (case n_str => k_is); (case n_tuple => k_is); (case n_zip => k_is); (case x0 => k_is); (case x1 => k_is); (case x2 => k_is); (case x3 => k_is); (case x4 => k_is); (case x5 => k_is); (case x6 => k_is); (case x7 => k_is); (case x8 => k_is); (case x9 => k_is); (case x10 => k_is); (case x11 => k_is); (case x12 => k_is); (case x13 => k_is); (case gMOST_RINGS => k_is); (case gPOSTS => k_is); (case hPOSTS => k_is); (case nd => decide); (case hE => kernel_rfl); (case hE2 => kernel_rfl); (case tC => k_is); (case tbm => kernel_rfl); (case tsa => k_is); (case tex => k_is); (case tty => k_is); (case tkC => k_is); (case tiC => k_is); (case ttI => k_is); (case tlk => k_is); (case tcd => k_is); (case tcode => k_is); (case tvs => rfl); (case tfile => kernel_rfl); (case tcell => k_is); (case tcls => kernel_rfl); (case tmro => kernel_rfl); (case tup => kernel_rfl); (case tsub => kernel_rfl); (case tho => k_is); (case tsup => k_is); (case ttop => kernel_rfl); (case tno => kernel_rfl); (case tpar => rfl); (case targ => rfl); (case tS => exact TmX.scT_by (by decide +kernel) rfl (by decide) rfl rfl rfl rfl); (case tco => rfl); (case tgen => rfl); (case tbd => rfl); (case tb => (intro us hl; match us, hl with | [_, _], _ => rfl)); (case tev => (intro env; rfl)); (case tsw => (intro env; rfl)); (case tsw2 => (intro env; rfl)); (case xf => kernel_rfl); (case no => kernel_rfl)

