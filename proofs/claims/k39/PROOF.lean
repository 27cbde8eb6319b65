import PyProof.Rows.All
import Wide.All
import OpenK.AllK
import Wide.FinOn
import HandS.ForMost
import HandS.ForExc
import HandS.Defaults
import HandS.Deep
import HandS.Star
import HandS.NoneIn
import HandS.Style
import HandS.TupAny
import HandS.TupMul
import HandS.IsInst
import HandS.WideBits
import HandS.Wide
import KE.KIndexOf
import PyProof.ReprRoads
import HandS.Zip
import HandS.CallLocal
import PySem.Challenge.RW_barestack_k39_whole_known_nets_verdicts
set_option Elab.async false
set_option linter.all false
set_option maxRecDepth 100000
set_option maxHeartbeats 0
namespace DL
open PySem PySem.Spec L2
open PyProof.Rows hiding St

/-! ### data, values, state -/
abbrev D := PyData
inductive RV where
  | d (x : D)
  | box (n : Nat)
  | fn (x : Str)
structure EV where
  cls : Str
  arg : D
/-- a thing that may change: a list, an instance, a dict -/
inductive Cell where
  | lst (l : List RV)
  | ins (c : Str) (fs : List (Str × RV))
  | dct (kvs : List (Key × RV))
  | dctT (kvs : List (List Key × RV))
  | lck (kvs : List (Key × RV))
/-- a dict that is being walked -/
def isLck : Cell → Bool
  | .lck _ => true
  | _ => false
abbrev S := List Cell
abbrev St := L2.St
inductive Out (α : Type) where
  | ok (a : α) (s : S)
  | exc (e : EV) (s : S)
  | bad
def DM (α : Type) := S → Out α
def ret {α : Type} (a : α) : DM α := fun s => .ok a s
def bnd {α β : Type} (m : DM α) (f : α → DM β) : DM β := fun s => match m s with
  | .ok a s' => f a s'
  | .exc e s' => .exc e s'
  | .bad => .bad
theorem bnd_ok {α β : Type} {m : DM α} {f : α → DM β} {s s' : S} {a : α} (e : m s = .ok a s') : bnd m f s = f a s' := by unfold bnd; rw [e]
theorem bnd_exc {α β : Type} {m : DM α} {f : α → DM β} {s s' : S} {a : EV} (e : m s = .exc a s') : bnd m f s = .exc a s' := by unfold bnd; rw [e]
theorem bnd_bad {α β : Type} {m : DM α} {f : α → DM β} {s : S} (e : m s = .bad) : bnd m f s = .bad := by unfold bnd; rw [e]
def bad {α : Type} : DM α := fun _ => .bad
def thr {α : Type} (e : EV) : DM α := fun s => .exc e s

inductive EVal where
  | rv (r : RV)
  | own (l : List RV)
  | lt (l : List D)
abbrev DEnv := List (Option EVal)

structure G where
  Z : Hp
  P : List Addr

mutual
/-- v stands for the data d, in the objects of Z that never change -/
inductive Rp (K : PySem.W.Frag) (Z : Hp) : V → D → Prop
  | non : Rp K Z .non .none
  | bl (b : Bool) : Rp K Z (.bl b) (.bool b)
  | int (i : Int) : Rp K Z (.int i) (.int i)
  | str (x : Str) : Rp K Z (.str x) (.str x)
  | lst {a : Addr} {xs : List V} {ds : List D} : Rd Z a (.lst xs) → RpAll K Z xs ds → Rp K Z (.ref a) (.list ds)
  | tup {a : Addr} {xs : List V} {ds : List D} : SqT K Z a xs → RpAll K Z xs ds → Rp K Z (.ref a) (.tuple ds)
inductive RpAll (K : PySem.W.Frag) (Z : Hp) : List V → List D → Prop
  | nil : RpAll K Z [] []
  | cons {v : V} {vs : List V} {d : D} {ds : List D} : Rp K Z v d → RpAll K Z vs ds → RpAll K Z (v :: vs) (d :: ds)
end
theorem Rd.mono {Z Z' : Hp} (h : ∀ a o, Z a = some o → Z' a = some o) {a : Addr} {u : HO} (r : Rd Z a u) : Rd Z' a u := r.elim (fun e => .inl (h _ _ e)) fun ⟨o, e⟩ => .inr ⟨o, h _ _ e⟩
mutual
theorem Rp.dp {K : PySem.W.Frag} {Z : Hp} : ∀ (d : D) (v : V), Rp K Z v d → Dp K Z v d
  | .none, _, r => by cases r; exact .non
  | .bool b, _, r => by cases r; exact .bl b
  | .int i, _, r => by cases r; exact .int i
  | .str x, _, r => by cases r; exact .str x
  | .list ds, _, r => by
    cases r with
    | lst hs ha => exact .lst (.inl hs) (RpAll.dp ds _ ha)
  | .tuple ds, _, r => by
    cases r with
    | tup hs ha => exact .tup hs (RpAll.dp ds _ ha)
  | .dict _, _, r => by cases r
theorem RpAll.dp {K : PySem.W.Frag} {Z : Hp} : ∀ (ds : List D) (vs : List V), RpAll K Z vs ds → DpAll K Z vs ds
  | [], _, r => by cases r; exact .nil
  | d :: ds, _, r => by
    cases r with
    | cons r1 r2 => exact .cons (Rp.dp d _ r1) (RpAll.dp ds _ r2)
end

section
variable (K : PySem.W.Frag) (mg : Str → Option Value)
def RepV (g : G) (v : V) : RV → Prop
  | .d x => Rp K g.Z v x
  | .box n => ∃ a, g.P[n]? = some a ∧ v = .ref a
  | .fn x => ∃ a, mg x = some (.ref a) ∧ v = .ref a
def RepE (g : G) (H : Hp) (v : V) : EVal → Prop
  | .rv r => RepV K mg g v r
  | .own l => ∃ a xs, v = .ref a ∧ g.Z a = none ∧ a ∉ g.P ∧ H a = some (.lst xs) ∧ Paired (RepV K mg g) xs l
  | .lt l => ∃ a xs, v = .ref a ∧ g.Z a = some (.tup xs) ∧ RpAll K g.Z xs l
def CellOk (g : G) (H : Hp) (a : Addr) : Cell → Prop
  | .lst l => ∃ xs, H a = some (.lst xs) ∧ Paired (RepV K mg g) xs l
  | .ins c fs => ∃ C dx vs, mg c = some (.ref C) ∧ H a = some (.ins C dx vs) ∧ H dx = some (.own a) ∧ Paired (fun p q => p.1 = q.1 ∧ RepV K mg g p.2 q.2) vs fs
  | .dct kvs => ∃ vs, H a = some (.dK vs) ∧ Paired (fun p q => p.1 = q.1 ∧ RepV K mg g p.2 q.2) vs kvs
  | .dctT kvs => ∃ vs, H a = some (.dT vs) ∧ Paired (fun p q => p.1 = q.1 ∧ RepV K mg g p.2 q.2) vs kvs
  | .lck kvs => ∃ o vs, H a = some (.frz o (.dK vs)) ∧ g.Z a = some (.frz o (.dK vs)) ∧ Paired (fun p q => p.1 = q.1 ∧ RepV K mg g p.2 q.2) vs kvs
def IsCell : HO → Prop
  | .lst _ => True
  | .ins _ _ _ => True
  | .dK _ => True
  | .dT _ => True
  | .frz _ _ => True
  | _ => False
structure GOk (g : G) (s : S) (H : Hp) : Prop where
  z : ∀ a o, g.Z a = some o → H a = some o
  len : g.P.length = s.length
  nd : g.P.Nodup
  box : ∀ (i : Nat) (a : Addr) (c : Cell), g.P[i]? = some a → s[i]? = some c → (isLck c = false → g.Z a = none) ∧ CellOk K mg g H a c
structure Step (g : G) (H : Hp) (g' : G) (s' : S) (H' : Hp) : Prop where
  ok : GOk K mg g' s' H'
  z : ∀ a o, g.Z a = some o → g'.Z a = some o
  zold : ∀ a o, H a = some o → g.Z a = none → a ∉ g.P → g'.Z a = none
  p : ∃ r, g'.P = g.P ++ r ∧ ∀ a ∈ r, H a = none
  keep : ∀ a o, H a = some o → a ∉ g.P → H' a = some o
structure ER (g : G) (H : Hp) (σ : St) (env : DEnv) : Prop where
  len : σ.length = env.length
  at_ : ∀ (i : Nat) (e : EVal), env[i]? = some (some e) → ∃ v, σ[i]? = some (some v) ∧ RepE K mg g H v e
  apart : ∀ (i j : Nat) (li lj : List RV) (v : V), i ≠ j → env[i]? = some (some (.own li)) → env[j]? = some (some (.own lj)) → σ[i]? = some (some v) → σ[j]? = some (some v) → False
/-- an exception of the package: its class, its own dict, its one field -/
def ExcRep (fld : Str → Str) (g : G) (H : Hp) (cls : Value) (od : Option Addr) (e : EV) : Prop :=
  ∃ C a v, mg e.cls = some (.ref C) ∧ cls = .ref C ∧ od = some a ∧ H a = some (.xd [(fld e.cls, v)]) ∧ Rp K g.Z v e.arg
end

mutual
theorem Rp.mono {K : PySem.W.Frag} {Z Z' : Hp} (h : ∀ a o, Z a = some o → Z' a = some o) : ∀ (d : D) (v : V), Rp K Z v d → Rp K Z' v d
  | .none, _, r => by cases r; exact .non
  | .bool b, _, r => by cases r; exact .bl b
  | .int i, _, r => by cases r; exact .int i
  | .str x, _, r => by cases r; exact .str x
  | .list ds, _, r => by
    cases r with
    | lst hs ha => exact .lst (DL.Rd.mono h hs) (RpAll.mono h ds _ ha)
  | .tuple ds, _, r => by
    cases r with
    | tup hs ha =>
      refine .tup ?_ (RpAll.mono h ds _ ha)
      rcases hs with (hs | ⟨o, hs⟩) | hs
      · exact .inl (.inl (h _ _ hs))
      · exact .inl (.inr ⟨o, h _ _ hs⟩)
      · exact .inr hs
  | .dict _, _, r => by cases r
theorem RpAll.mono {K : PySem.W.Frag} {Z Z' : Hp} (h : ∀ a o, Z a = some o → Z' a = some o) : ∀ (ds : List D) (vs : List V), RpAll K Z vs ds → RpAll K Z' vs ds
  | [], _, r => by cases r; exact .nil
  | d :: ds, _, r => by
    cases r with
    | cons r1 r2 => exact .cons (Rp.mono h d _ r1) (RpAll.mono h ds _ r2)
end

section
variable {K : PySem.W.Frag} {mg : Str → Option Value} {g g1 g2 : G} {s s1 s2 : S} {H H1 H2 : Hp} {v : V} {σ : St} {env : DEnv}

theorem CellOk.isCell {c : Cell} {a : Addr} (h : CellOk K mg g H a c) : ∃ o, H a = some o ∧ IsCell o := by
  cases c with
  | lst l => obtain ⟨xs, e, _⟩ := h; exact ⟨_, e, trivial⟩
  | ins c fs => obtain ⟨C, dx, vs, _, e, _⟩ := h; exact ⟨_, e, trivial⟩
  | dct l => obtain ⟨xs, e, _⟩ := h; exact ⟨_, e, trivial⟩
  | dctT l => obtain ⟨xs, e, _⟩ := h; exact ⟨_, e, trivial⟩
  | lck l => obtain ⟨o, xs, e, _⟩ := h; exact ⟨_, e, trivial⟩
theorem GOk.there (ok : GOk K mg g s H) {a : Addr} (h : a ∈ g.P) : ∃ o, H a = some o ∧ IsCell o := by
  obtain ⟨i, hi⟩ := List.mem_iff_getElem?.mp h
  have hl : i < s.length := by
    have := (List.getElem?_eq_some_iff.mp hi).1
    rw [ok.len] at this; exact this
  exact (ok.box i a s[i] hi (List.getElem?_eq_getElem hl)).2.isCell
theorem RepV.le (hz : ∀ a o, g.Z a = some o → g1.Z a = some o) (hp : ∃ r, g1.P = g.P ++ r) {r : RV} (h : RepV K mg g v r) : RepV K mg g1 v r := by
  cases r with
  | d x => exact Rp.mono hz x v h
  | box n =>
    obtain ⟨a, h1, h2⟩ := h
    obtain ⟨r, e⟩ := hp
    refine ⟨a, ?_, h2⟩
    rw [e, List.getElem?_append_left (List.getElem?_eq_some_iff.mp h1).1]; exact h1
  | fn x => exact h
theorem CellOk.keep {c : Cell} {a : Addr} (h : CellOk K mg g H a c) (hr : ∀ v r, RepV K mg g v r → RepV K mg g1 v r) (ha : ∀ o, H a = some o → H1 a = some o) (hx : ∀ dx x, H dx = some (.own x) → H1 dx = some (.own x)) (hz : ∀ o, g.Z a = some o → g1.Z a = some o) : CellOk K mg g1 H1 a c := by
  cases c with
  | lst l => obtain ⟨xs, e, r⟩ := h; exact ⟨xs, ha _ e, Paired.mapP r fun _ _ q => hr _ _ q⟩
  | ins c fs => obtain ⟨C, dx, vs, h1, e, h2, r⟩ := h; exact ⟨C, dx, vs, h1, ha _ e, hx _ _ h2, Paired.mapP r fun _ _ q => ⟨q.1, hr _ _ q.2⟩⟩
  | dct l => obtain ⟨xs, e, r⟩ := h; exact ⟨xs, ha _ e, Paired.mapP r fun _ _ q => ⟨q.1, hr _ _ q.2⟩⟩
  | dctT l => obtain ⟨xs, e, r⟩ := h; exact ⟨xs, ha _ e, Paired.mapP r fun _ _ q => ⟨q.1, hr _ _ q.2⟩⟩
  | lck l => obtain ⟨o, xs, e, e2, r⟩ := h; exact ⟨o, xs, ha _ e, hz _ e2, Paired.mapP r fun _ _ q => ⟨q.1, hr _ _ q.2⟩⟩
theorem Step.refl (ok : GOk K mg g s H) : Step K mg g H g s H := ⟨ok, fun _ _ h => h, fun _ _ _ h _ => h, ⟨[], by simp, fun _ h => absurd h (by simp)⟩, fun _ _ h _ => h⟩
theorem Step.pmem (t : Step K mg g H g1 s1 H1) {a : Addr} (h : a ∈ g.P) : a ∈ g1.P := by
  obtain ⟨r, e, _⟩ := t.p
  rw [e]; exact List.mem_append_left _ h
theorem Step.pold (t : Step K mg g H g1 s1 H1) {a : Addr} {o : HO} (e : H a = some o) (h : a ∈ g1.P) : a ∈ g.P := by
  obtain ⟨r, q, f⟩ := t.p
  rw [q] at h
  rcases List.mem_append.mp h with h | h
  · exact h
  · rw [f a h] at e; cases e
theorem Step.there (t : Step K mg g H g1 s1 H1) {a : Addr} {o : HO} (e : H a = some o) : ∃ o', H1 a = some o' := by
  by_cases h : a ∈ g.P
  · obtain ⟨o, q, _⟩ := t.ok.there (t.pmem h)
    exact ⟨_, q⟩
  · exact ⟨_, t.keep a o e h⟩
theorem Step.fresh (t : Step K mg g H g1 s1 H1) {a : Addr} (e : H1 a = none) : H a = none := by
  cases q : H a with
  | none => rfl
  | some o =>
    obtain ⟨o', q'⟩ := t.there q
    rw [q'] at e; cases e
theorem Step.trans (t : Step K mg g H g1 s1 H1) (u : Step K mg g1 H1 g2 s2 H2) : Step K mg g H g2 s2 H2 := by
  refine ⟨u.ok, fun a o h => u.z a o (t.z a o h), fun a o h n hp => ?_, ?_, fun a o h n => ?_⟩
  · obtain ⟨o', h'⟩ := t.there h
    exact u.zold a o' h' (t.zold a o h n hp) fun q => hp (t.pold h q)
  · obtain ⟨r, e, f⟩ := t.p
    obtain ⟨r', e', f'⟩ := u.p
    refine ⟨r ++ r', by rw [e', e, List.append_assoc], fun a h => ?_⟩
    rcases List.mem_append.mp h with h | h
    · exact f a h
    · exact t.fresh (f' a h)
  · have h1 := t.keep a o h n
    exact u.keep a o h1 fun q => n (t.pold h q)
theorem RepV.step (t : Step K mg g H g1 s1 H1) {r : RV} (h : RepV K mg g v r) : RepV K mg g1 v r := by
  cases r with
  | d x => exact Rp.mono t.z x v h
  | box n =>
    obtain ⟨a, h1, h2⟩ := h
    obtain ⟨r, e, _⟩ := t.p
    refine ⟨a, ?_, h2⟩
    rw [e, List.getElem?_append_left (List.getElem?_eq_some_iff.mp h1).1]; exact h1
  | fn x => exact h
theorem RepE.step (t : Step K mg g H g1 s1 H1) {e : EVal} (h : RepE K mg g H v e) : RepE K mg g1 H1 v e := by
  cases e with
  | rv r => exact RepV.step t h
  | own l =>
    obtain ⟨a, xs, e, hz, hp, hH, hd⟩ := h
    exact ⟨a, xs, e, t.zold a _ hH hz hp, fun q => hp (t.pold hH q), t.keep a _ hH hp, Paired.mapP hd fun _ _ r => RepV.step t r⟩
  | lt l =>
    obtain ⟨a, xs, e, hz, hd⟩ := h
    exact ⟨a, xs, e, t.z a _ hz, RpAll.mono t.z l xs hd⟩
theorem ER.step (t : Step K mg g H g1 s1 H1) (e : ER K mg g H σ env) : ER K mg g1 H1 σ env :=
  ⟨e.len, fun i x h => let ⟨v, a, b⟩ := e.at_ i x h; ⟨v, a, b.step t⟩, e.apart⟩
theorem ExcRep.step {fld : Str → Str} (t : Step K mg g H g1 s1 H1) (nb : ∀ a fs, H a = some (.xd fs) → a ∉ g.P) {cls od e} (h : ExcRep K mg fld g H cls od e) : ExcRep K mg fld g1 H1 cls od e := by
  obtain ⟨C, a, v, h1, h2, h3, h4, h5⟩ := h
  exact ⟨C, a, v, h1, h2, h3, t.keep _ _ h4 (nb _ _ h4), Rp.mono t.z _ _ h5⟩
theorem GOk.noxd (ok : GOk K mg g s H) : ∀ a fs, H a = some (.xd fs) → a ∉ g.P := fun a fs h q => by
  obtain ⟨o, e, c⟩ := ok.there q
  rw [h] at e; cases e; exact c.elim

/-! ### outcomes -/
def Post {α : Type} (K : PySem.W.Frag) (mg : Str → Option Value) (fld : Str → Str) (E : XK) (g : G) (H : Hp) (o : Out α) (k : G → S → Hp → α → Prop) : Prop :=
  match o with
  | .ok a s' => ∀ g' H', Step K mg g H g' s' H' → k g' s' H' a
  | .exc e s' => ∀ g' H' cls od, Step K mg g H g' s' H' → ExcRep K mg fld g' H' cls od e → E cls od H'
  | .bad => False
variable {fld : Str → Str} {E : XK} {α β : Type}
theorem Post.mono {o : Out α} {k k' : G → S → Hp → α → Prop} (h : Post K mg fld E g H o k) (hk : ∀ g' s' H' a, Step K mg g H g' s' H' → k g' s' H' a → k' g' s' H' a) : Post K mg fld E g H o k' := by
  cases o with
  | ok a s' => exact fun g' H' t => hk _ _ _ _ t (h g' H' t)
  | exc e s' => exact h
  | bad => exact h
theorem Post.step {o : Out α} {k : G → S → Hp → α → Prop} (t : Step K mg g H g1 s1 H1) (h : Post K mg fld E g H o k) : Post K mg fld E g1 H1 o k := by
  cases o with
  | ok a s' => exact fun g' H' u => h g' H' (t.trans u)
  | exc e s' => exact fun g' H' cls od u x => h g' H' cls od (t.trans u) x
  | bad => exact h
theorem Post.bind {m : DM α} {f : α → DM β} {k : G → S → Hp → β → Prop} (h : Post K mg fld E g H (bnd m f s) k) :
    Post K mg fld E g H (m s) fun g' s' H' a => Post K mg fld E g' H' (f a s') k := by
  unfold bnd at h
  cases e : m s with
  | ok a s' => rw [e] at h; exact fun g' H' t => h.step t
  | exc e' s' => rw [e] at h; exact h
  | bad => rw [e] at h; exact h
end

/-! ### expressions -/
section
variable (K : PySem.W.Frag) (mg : Str → Option Value) (fld : Str → Str) (E : XK)
def upE (m : DEnv → DM RV) : TE := fun σ H Q => ∃ g s env, GOk K mg g s H ∧ ER K mg g H σ env ∧ Post K mg fld E g H (m env s) fun g' _ H' r => ∀ v, RepV K mg g' v r → Q v H'
def upO (m : DEnv → DM (List RV)) : TE := fun σ H Q => ∃ g s env, GOk K mg g s H ∧ ER K mg g H σ env ∧ Post K mg fld E g H (m env s) fun g' _ H' l =>
  ∀ a xs, H a = none → g'.Z a = none → a ∉ g'.P → H' a = some (.lst xs) → Paired (RepV K mg g') xs l → Q (.ref a) H'
def upA (m : DEnv → DM (List RV)) : TA := fun σ H Q => ∃ g s env, GOk K mg g s H ∧ ER K mg g H σ env ∧ Post K mg fld E g H (m env s) fun g' _ H' rs => ∀ vs, Paired (RepV K mg g') vs rs → Q vs H'
def upT (m : DEnv → DM Bool) : TT := fun σ H Q => ∃ g s env, GOk K mg g s H ∧ ER K mg g H σ env ∧ Post K mg fld E g H (m env s) fun _ _ H' b => Q b H'
end
abbrev DE (X : Cx) (fld : Str → Str) (E : XK) (e : Expr) (m : DEnv → DM RV) : Prop := PE X e (upE X.K X.mg fld E m)
abbrev DO (X : Cx) (fld : Str → Str) (E : XK) (e : Expr) (m : DEnv → DM (List RV)) : Prop := PE X e (upO X.K X.mg fld E m)
abbrev DA (X : Cx) (fld : Str → Str) (E : XK) (es : List Expr) (m : DEnv → DM (List RV)) : Prop := PA X es (upA X.K X.mg fld E m)
abbrev DT (X : Cx) (fld : Str → Str) (E : XK) (e : Expr) (m : DEnv → DM Bool) : Prop := PT X e (upT X.K X.mg fld E m)
theorem peImp {X : Cx} {e : Expr} {t t' : TE} (h : PE X e t) (k : ∀ σ H Q, t' σ H Q → t σ H Q) : PE X e t' := ⟨fun pins s σ H Q I q => h.run pins s σ H Q I (k σ H Q q)⟩
theorem paImp {X : Cx} {e : List Expr} {t t' : TA} (h : PA X e t) (k : ∀ σ H Q, t' σ H Q → t σ H Q) : PA X e t' := ⟨fun pos pins s σ H Q I q => h.run pos pins s σ H Q I (k σ H Q q)⟩
theorem ptImp {X : Cx} {e : Expr} {t t' : TT} (h : PT X e t) (k : ∀ σ H Q, t' σ H Q → t σ H Q) : PT X e t' := ⟨fun pins s σ H Q I q => h.run pins s σ H Q I (k σ H Q q)⟩
theorem psImp {X : Cx} {e : Stmt} {t t' : TS} (h : PS X e t) (k : ∀ D σ H, t' D σ H → t D σ H) : PS X e t' := ⟨fun pins s σ H D I q => h.run pins s σ H D I (k D σ H q)⟩
theorem pssImp {X : Cx} {e : List Stmt} {t t' : TS} (h : PSs X e t) (k : ∀ D σ H, t' D σ H → t D σ H) : PSs X e t' := ⟨fun pins s σ H D I q => h.run pins s σ H D I (k D σ H q)⟩

/-! #### the combinators' functions -/
def eC (x : D) : DEnv → DM RV := fun _ => ret (.d x)
def eFn (x : Str) : DEnv → DM RV := fun _ => ret (.fn x)
def eVar (i : Nat) : DEnv → DM RV := fun env => match env[i]? with
  | some (some (.rv r)) => ret r
  | some (some (.lt l)) => ret (.d (.tuple l))
  | _ => bad
def dat (r : RV) : DM D := match r with
  | .d x => ret x
  | _ => bad
/-- a function of data, applied -/
def onD (r : RV) (f : D → DM RV) : DM RV := match r with
  | .d x => f x
  | _ => bad
def eOp (f : D → D → DM RV) (a b : DEnv → DM RV) : DEnv → DM RV := fun env => bnd (a env) fun x => bnd (b env) fun y => onD x fun x => onD y fun y => f x y
def eUn (f : D → DM RV) (a : DEnv → DM RV) : DEnv → DM RV := fun env => bnd (a env) fun x => onD x f
def aNil : DEnv → DM (List RV) := fun _ => ret []
def aCons (a : DEnv → DM RV) (r : DEnv → DM (List RV)) : DEnv → DM (List RV) := fun env => bnd (a env) fun x => bnd (r env) fun xs => ret (x :: xs)
def items (x : RV) : DM (List D) := match x with
  | .d (.tuple l) => ret l
  | .d (.list l) => ret l
  | _ => bad
def aStar (a : DEnv → DM RV) (r : DEnv → DM (List RV)) : DEnv → DM (List RV) := fun env => bnd (a env) fun x => bnd (items x) fun l => bnd (r env) fun xs => ret (l.map .d ++ xs)
def dats : List RV → DM (List D)
  | [] => ret []
  | .d x :: r => bnd (dats r) fun l => ret (x :: l)
  | _ :: _ => bad
def datL : List RV → Option (List D)
  | [] => some []
  | .d x :: r => (datL r).map (x :: ·)
  | _ :: _ => none
def small (l : List α) : DM PUnit := if l.length ≤ sizeLine then ret ⟨⟩ else bad
def eTup (a : DEnv → DM (List RV)) : DEnv → DM RV := fun env => bnd (a env) fun xs => bnd (dats xs) fun l => bnd (small l) fun _ => ret (.d (.tuple l))
def oLst (a : DEnv → DM (List RV)) : DEnv → DM (List RV) := fun env => bnd (a env) fun xs => bnd (small xs) fun _ => ret xs
def eFz (m : DEnv → DM (List RV)) : DEnv → DM RV := fun env => bnd (m env) fun xs => bnd (dats xs) fun l => ret (.d (.list l))

section
variable {X : Cx} {fld : Str → Str} {E : XK} {pos : Pos} {e a b : Expr} {ma mb : DEnv → DM RV}
theorem de_c {v : V} {x : D} (h : PE X e (tC v)) (hd : ∀ Z, Rp X.K Z v x) : DE X fld E e (eC x) :=
  peImp h fun σ H Q ⟨g, s, env, ok, er, p⟩ => p g H (.refl ok) v (hd _)
theorem de_int {i j : Int} {k} : DE X fld E (.Constant (.int i) k pos) (eC (.int i)) := de_c pe_int fun _ => .int i
theorem de_bl {b k} : DE X fld E (.Constant (.bool b) k pos) (eC (.bool b)) := de_c pe_bl fun _ => .bl b
theorem de_non {k} : DE X fld E (.Constant .none k pos) (eC .none) := de_c pe_non fun _ => .non
theorem de_str {x k} : DE X fld E (.Constant (.str x) k pos) (eC (.str x)) := de_c pe_str fun _ => .str x
/-- a constant of the module -/
theorem de_glob {x : Str} {v : V} {u : Value} {d : D} (hg : Gl X x) (hm : X.mg x = some u) (r : RelV v u) (hd : ∀ Z, Rp X.K Z v d) (h1 : (x == ("__debug__" : Str)) = false := by decide) : DE X fld E (.Name x pos) (eC d) := de_c (pe_glob hg hm r h1) hd
theorem de_fn {x : Str} {f : Addr} (hg : Gl X x) (hm : X.mg x = some (.ref f)) (h1 : (x == ("__debug__" : Str)) = false := by decide) : DE X fld E (.Name x pos) (eFn x) :=
  peImp (pe_glob (v := .ref f) hg hm rfl h1) fun σ H Q ⟨g, s, env, ok, er, p⟩ => p g H (.refl ok) _ ⟨f, hm, rfl⟩
theorem de_var (i : Nat) {x : Str} (hN : X.N[i]? = some x := by rfl) (hv : Vis X.env.scope x := by first | exact Or.inl rfl | exact Or.inr (Or.inl rfl) | exact Or.inr (Or.inr rfl)) (hd : (x == ("__debug__" : Str)) = false := by decide)
    (hcd : (x == ("__classdict__" : Str)) = false := by decide) : DE X fld E (.Name x pos) (eVar i) :=
  peImp (pe_var hN hv hd hcd) fun σ H Q ⟨g, s, env, ok, er, p⟩ => by
    unfold eVar at p
    cases q : env[i]? with
    | none => rw [q] at p; exact p.elim
    | some o =>
      cases o with
      | none => rw [q] at p; exact p.elim
      | some x =>
        cases x with
        | own l => rw [q] at p; exact p.elim
        | lt l =>
          rw [q] at p
          obtain ⟨v, hs, a, xs, rfl, hz, hd⟩ := er.at_ i _ q
          exact ⟨_, hs, p g H (.refl ok) _ (.tup (.inl (.inl hz)) hd)⟩
        | rv r =>
          rw [q] at p
          obtain ⟨v, hs, hr⟩ := er.at_ i _ q
          exact ⟨v, hs, p g H (.refl ok) v hr⟩

/-- what a rule of two values means for data -/
def OpD (X : Cx) (fld : Str → Str) (E : XK) (r : R2) (f : D → D → DM RV) : Prop := ∀ (g : G) (s : S) (H : Hp) (v u : V) (x y : D) (Q : VK), GOk X.K X.mg g s H → Rp X.K g.Z v x → Rp X.K g.Z u y →
  Post X.K X.mg fld E g H (f x y s) (fun g' _ H' r => ∀ v, RepV X.K X.mg g' v r → Q v H') → r v u H Q
def UnD (X : Cx) (fld : Str → Str) (E : XK) (r : V → Hp → VK → Prop) (f : D → DM RV) : Prop := ∀ (g : G) (s : S) (H : Hp) (v : V) (x : D) (Q : VK), GOk X.K X.mg g s H → Rp X.K g.Z v x →
  Post X.K X.mg fld E g H (f x s) (fun g' _ H' r => ∀ v, RepV X.K X.mg g' v r → Q v H') → r v H Q
theorem onD_post {K : PySem.W.Frag} {mg : Str → Option Value} {g : G} {H : Hp} {s : S} {r : RV} {f : D → DM RV} {k} (h : Post K mg fld E g H (onD r f s) k) : ∃ x, r = .d x ∧ Post K mg fld E g H (f x s) k := by
  cases r with
  | d x => exact ⟨x, rfl, h⟩
  | box n => exact h.elim
  | fn x => exact h.elim
theorem up_op {r : R2} {f : D → D → DM RV} (hr : OpD X fld E r f) : ∀ σ H Q, upE X.K X.mg fld E (eOp f ma mb) σ H Q → tOp r (upE X.K X.mg fld E ma) (upE X.K X.mg fld E mb) σ H Q := by
  rintro σ H Q ⟨g, s, env, ok, er, p⟩
  refine ⟨g, s, env, ok, er, p.bind.mono fun g1 s1 H1 x t1 p1 v rv => ?_⟩
  refine ⟨g1, s1, env, t1.ok, er.step t1, p1.bind.mono fun g2 s2 H2 y t2 p2 u ru => ?_⟩
  obtain ⟨x, ex, p3⟩ := onD_post p2
  obtain ⟨y, ey, p4⟩ := onD_post p3
  subst ex
  subst ey
  exact hr g2 s2 H2 v u x y Q t2.ok (RepV.step (mg := X.mg) (r := .d x) t2 rv) ru p4
theorem de_op {op : Operator} {r : R2} {f : D → D → DM RV} (ho : OpR X (binaryOp op) r) (hr : OpD X fld E r f) (ha : DE X fld E a ma) (hb : DE X fld E b mb) : DE X fld E (.BinOp a op b pos) (eOp f ma mb) :=
  peImp (pe_op ho ha hb) (up_op hr)
theorem de_cmp {op : CmpOp} {r : R2} {f : D → D → DM RV} (ho : OpR X (compareOp op) r) (hr : OpD X fld E r f) (ha : DE X fld E a ma) (hb : DE X fld E b mb) (hm : behindInMarks op b = false := by rfl) : DE X fld E (.Compare a [op] [b] pos) (eOp f ma mb) :=
  peImp (pe_cmpR ho ha hb hm) (up_op hr)
theorem up_un {r : V → Hp → VK → Prop} {f : D → DM RV} (hr : UnD X fld E r f) : ∀ σ H Q, upE X.K X.mg fld E (eUn f ma) σ H Q → tUn r (upE X.K X.mg fld E ma) σ H Q := by
  rintro σ H Q ⟨g, s, env, ok, er, p⟩
  refine ⟨g, s, env, ok, er, p.bind.mono fun g1 s1 H1 x t1 p1 v rv => ?_⟩
  obtain ⟨x, rfl, p1⟩ := onD_post p1
  exact hr g1 s1 H1 v x Q t1.ok rv p1
theorem de_un {op : UnaryOp} {r : V → Hp → VK → Prop} {f : D → DM RV} (ho : UnR X (unaryOp op) r) (hr : UnD X fld E r f) (ha : DE X fld E a ma) : DE X fld E (.UnaryOp op a pos) (eUn f ma) := peImp (pe_un ho ha) (up_un hr)

/-! #### argument lists and displays -/
variable {es : List Expr} {ms : DEnv → DM (List RV)}
theorem da_nil : DA X fld E [] aNil := paImp pa_nil fun σ H Q ⟨g, s, env, ok, er, p⟩ => p g H (.refl ok) [] .nil
theorem Paired.steps {K : PySem.W.Frag} {mg : Str → Option Value} {g g1 : G} {H H1 : Hp} {s1 : S} (t : Step K mg g H g1 s1 H1) {vs : List V} {rs : List RV} (h : Paired (RepV K mg g) vs rs) : Paired (RepV K mg g1) vs rs := Paired.mapP h fun _ _ r => r.step t
theorem da_cons (ha : DE X fld E e ma) (hr : DA X fld E es ms) (hs : starEach (e :: es) X.env = (false, eval e X.env) :: starEach es X.env := by rfl) : DA X fld E (e :: es) (aCons ma ms) :=
  paImp (pa_cons ha hr hs) fun σ H Q ⟨g, s, env, ok, er, p⟩ => by
    refine ⟨g, s, env, ok, er, p.bind.mono fun g1 s1 H1 x t1 p1 v rv => ?_⟩
    refine ⟨g1, s1, env, t1.ok, er.step t1, p1.bind.mono fun g2 s2 H2 xs t2 p2 vs rvs => ?_⟩
    exact p2 g2 H2 (.refl t2.ok) _ (.cons (RepV.step t2 rv) rvs)
theorem RpAll.of_dats {K : PySem.W.Frag} {mg : Str → Option Value} {g : G} {H : Hp} {s : S} : ∀ {xs : List RV} {vs : List V} {k : G → S → Hp → List D → Prop}, Post K mg fld E g H (dats xs s) k → Paired (RepV K mg g) vs xs →
    ∃ l, dats xs s = .ok l s ∧ RpAll K g.Z vs l
  | [], vs, k, h, r => by cases r; exact ⟨[], rfl, .nil⟩
  | .d x :: xs, vs, k, h, r => by
    cases r with
    | cons r1 r2 =>
      have h1 := Post.bind (m := dats xs) h
      obtain ⟨l, e, dl⟩ := RpAll.of_dats h1 r2
      exact ⟨x :: l, by simp only [dats, bnd, e, ret], .cons r1 dl⟩
  | .box n :: xs, vs, k, h, r => h.elim
  | .fn n :: xs, vs, k, h, r => h.elim
theorem datL_rep {K : PySem.W.Frag} {mg : Str → Option Value} {g : G} : ∀ {xs : List RV} {vs : List V} {l : List D}, datL xs = some l → Paired (RepV K mg g) vs xs → RpAll K g.Z vs l
  | [], vs, l, h, r => by cases h; cases r; exact .nil
  | .d x :: xs, vs, l, h, r => by
    cases r with
    | cons r1 r2 =>
      unfold datL at h
      obtain ⟨l', e1, e2⟩ := Option.map_eq_some_iff.mp h
      subst e2
      exact .cons r1 (datL_rep e1 r2)
  | .box n :: xs, vs, l, h, r => by cases h
  | .fn n :: xs, vs, l, h, r => by cases h
theorem datL_map : ∀ l : List D, datL (l.map .d) = some l
  | [] => rfl
  | d :: l => by
    show (datL (l.map .d)).map (d :: ·) = _
    rw [datL_map l]; rfl
theorem pairedApp {α β : Type} {R : α → β → Prop} {a b : List α} {c d : List β} (h1 : Paired R a c) (h2 : Paired R b d) : Paired R (a ++ b) (c ++ d) := by
  induction h1 with
  | nil => exact h2
  | cons r _ ih => exact .cons r ih
theorem paired_data {K : PySem.W.Frag} {mg : Str → Option Value} {g : G} : ∀ {l : List D} {us : List V}, RpAll K g.Z us l → Paired (RepV K mg g) us (l.map .d)
  | [], us, h => by cases h; exact .nil
  | d :: l, us, h => by cases h with | cons h1 h2 => exact .cons h1 (paired_data h2)
theorem dpAll_length {K : PySem.W.Frag} {Z : Hp} : ∀ {vs : List V} {ds : List D}, RpAll K Z vs ds → vs.length = ds.length
  | _, [], h => by cases h; rfl
  | _, _ :: _, h => by
    cases h with
    | cons _ h2 => simp [dpAll_length h2]
theorem small_post {K : PySem.W.Frag} {mg : Str → Option Value} {g : G} {H : Hp} {s : S} {α : Type} {l : List α} {k} (h : Post K mg fld E g H (small l s) k) : l.length ≤ sizeLine ∧ small l s = .ok ⟨⟩ s := by
  unfold small at h ⊢
  split at h
  · rename_i q
    rw [if_pos q]; exact ⟨q, rfl⟩
  · exact h.elim
/-- a new immutable or frozen object -/
theorem Step.newZ {K : PySem.W.Frag} {mg : Str → Option Value} {g : G} {s : S} {H : Hp} (ok : GOk K mg g s H) {p : Addr} {o : HO} (hp : H p = none) : Step K mg g H ⟨upd g.Z p o, g.P⟩ s (upd H p o) := by
  have zn : g.Z p = none := by
    cases q : g.Z p with
    | none => rfl
    | some o => rw [ok.z _ _ q] at hp; cases hp
  have zz : ∀ a o', g.Z a = some o' → upd g.Z p o a = some o' := fun a o' h => by rw [upd_ne (ne_of_none h zn)]; exact h
  refine ⟨⟨fun a o' h => ?_, ok.len, ok.nd, fun i a l h1 h2 => ?_⟩, zz, fun a o' h n _ => ?_, ⟨[], by simp, fun _ h => absurd h (by simp)⟩, fun a o' h _ => ?_⟩
  · have h : upd g.Z p o a = some o' := h
    by_cases ha : a = p
    · subst ha; rw [upd_same] at h; rw [upd_same]; exact h
    · rw [upd_ne ha] at h; rw [upd_ne ha]; exact ok.z a o' h
  · obtain ⟨n, c⟩ := ok.box i a l h1 h2
    obtain ⟨oa, e, _⟩ := c.isCell
    have hne := ne_of_none e hp
    exact ⟨fun ql => by show upd g.Z p o a = none; rw [upd_ne hne]; exact n ql, c.keep (fun _ _ q => RepV.le zz ⟨[], by simp⟩ q) (fun _ q => by rw [upd_ne hne]; exact q) (fun dx x q => by rw [upd_ne (ne_of_none q hp)]; exact q) (zz a)⟩
  · show upd g.Z p o a = none
    rw [upd_ne (ne_of_none h hp)]; exact n
  · rw [upd_ne (ne_of_none h hp)]; exact h
theorem Step.newH {K : PySem.W.Frag} {mg : Str → Option Value} {g : G} {s : S} {H : Hp} (ok : GOk K mg g s H) {p : Addr} {o : HO} (hp : H p = none) : Step K mg g H g s (upd H p o) := by
  refine ⟨⟨fun a o' h => ?_, ok.len, ok.nd, fun i a l h1 h2 => ?_⟩, fun _ _ h => h, fun _ _ _ h _ => h, ⟨[], by simp, fun _ h => absurd h (by simp)⟩, fun a o' h _ => ?_⟩
  · have h' := ok.z a o' h
    rw [upd_ne (ne_of_none h' hp)]; exact h'
  · obtain ⟨n, c⟩ := ok.box i a l h1 h2
    exact ⟨n, c.keep (fun _ _ q => q) (fun _ q => by rw [upd_ne (ne_of_none q hp)]; exact q) (fun dx x q => by rw [upd_ne (ne_of_none q hp)]; exact q) fun _ q => q⟩
  · rw [upd_ne (ne_of_none h hp)]; exact h
theorem de_tup {x1} (h : DA X fld E es ms) : DE X fld E (.Tuple es x1 pos) (eTup ms) :=
  peImp (pe_tup h) fun σ H Q ⟨g, s, env, ok, er, p⟩ => by
    refine ⟨g, s, env, ok, er, p.bind.mono fun g1 s1 H1 xs t1 p1 vs rvs => ?_⟩
    obtain ⟨l, e, dl⟩ := RpAll.of_dats p1.bind rvs
    rw [bnd_ok e] at p1
    obtain ⟨z, e2⟩ := small_post (Post.bind (m := small l) p1)
    rw [bnd_ok e2] at p1
    rw [← dpAll_length dl] at z
    refine ⟨z, fun q hq => ?_⟩
    have st := Step.newZ (o := .tup vs) t1.ok hq
    exact p1 _ _ st (.ref q) (.tup (.inl (.inl upd_same)) (RpAll.mono st.z l vs dl))
theorem do_lst (h : DA X fld E es ms) : DO X fld E (.List es pos) (oLst ms) :=
  peImp (pe_lst h) fun σ H Q ⟨g, s, env, ok, er, p⟩ => by
    refine ⟨g, s, env, ok, er, p.bind.mono fun g1 s1 H1 xs t1 p1 vs rvs => ?_⟩
    obtain ⟨z, e2⟩ := small_post (Post.bind (m := small xs) p1)
    rw [bnd_ok e2] at p1
    have hl := Paired.length rvs
    refine ⟨by omega, fun q hq => ?_⟩
    have st := Step.newH (o := .lst vs) t1.ok hq
    refine p1 _ _ st q vs (t1.fresh hq) ?_ ?_ upd_same rvs
    · cases qz : g1.Z q with
      | none => rfl
      | some o => rw [t1.ok.z _ _ qz] at hq; cases hq
    · intro hm
      obtain ⟨o', hx, _⟩ := t1.ok.there hm
      rw [hq] at hx; cases hx
/-- a list of one's own becomes data -/
theorem Step.freeze {K : PySem.W.Frag} {mg : Str → Option Value} {g : G} {s : S} {H : Hp} (ok : GOk K mg g s H) {p : Addr} {xs : List V} (hp : H p = some (.lst xs)) (hz : g.Z p = none) (hP : p ∉ g.P) :
    GOk K mg ⟨upd g.Z p (.lst xs), g.P⟩ s H ∧ ∀ a o, g.Z a = some o → upd g.Z p (.lst xs) a = some o := by
  have zz : ∀ a o', g.Z a = some o' → upd g.Z p (.lst xs) a = some o' := fun a o' h => by rw [upd_ne (ne_of_none h hz)]; exact h
  refine ⟨⟨fun a o' h => ?_, ok.len, ok.nd, fun i a l h1 h2 => ?_⟩, zz⟩
  · have h : upd g.Z p (.lst xs) a = some o' := h
    by_cases ha : a = p
    · subst ha; rw [upd_same] at h; cases h; exact hp
    · rw [upd_ne ha] at h; exact ok.z a o' h
  · obtain ⟨n, c⟩ := ok.box i a l h1 h2
    have hne : a ≠ p := fun q => hP (q ▸ List.mem_of_getElem? h1)
    exact ⟨fun ql => by show upd g.Z p _ a = none; rw [upd_ne hne]; exact n ql, c.keep (fun _ _ q => RepV.le zz ⟨[], by simp⟩ q) (fun _ q => q) (fun _ _ q => q) (zz a)⟩
theorem de_fz {mo : DEnv → DM (List RV)} (h : DO X fld E e mo) : DE X fld E e (eFz mo) :=
  peImp h fun σ H Q ⟨g, s, env, ok, er, p⟩ => by
    refine ⟨g, s, env, ok, er, ?_⟩
    unfold eFz bnd at p
    cases q : mo env s with
    | bad => rw [q] at p; exact p
    | exc e s1 => rw [q] at p; exact p
    | ok rs s1 =>
      rw [q] at p
      intro g1 H1 t1 a xs hn hz hP hH rvs
      have p' := Post.step t1 p
      obtain ⟨l, e, dl⟩ := RpAll.of_dats (Post.bind (m := dats rs) p') rvs
      have p : Post X.K X.mg fld E g H (bnd (dats rs) (fun l => ret (RV.d (.list l))) s1) _ := p
      rw [bnd_ok e] at p
      obtain ⟨ok2, zz⟩ := Step.freeze t1.ok hH hz hP
      have st2 : Step X.K X.mg g H ⟨upd g1.Z a (.lst xs), g1.P⟩ s1 H1 := by
        refine ⟨ok2, fun b o h => zz b o (t1.z b o h), fun b o h n hp => ?_, t1.p, t1.keep⟩
        show upd g1.Z a _ b = none
        rw [upd_ne (ne_of_none h hn)]; exact t1.zold b o h n hp
      exact p _ H1 st2 _ (.lst (.inl upd_same) (RpAll.mono zz l xs dl))
end
end DL
namespace DL
open PySem PySem.Spec L2
open PyProof.Rows hiding St

/-! ### targets -/
abbrev TgF := RV → DEnv → DM DEnv
abbrev TgsF := List D → DEnv → DM DEnv
def tgN (i : Nat) : TgF := fun r env => ret (env.set i (some (.rv r)))
def tgsNil : TgsF := fun l env => match l with
  | [] => ret env
  | _ => bad
def tgsCons (t : TgF) (u : TgsF) : TgsF := fun l env => match l with
  | [] => bad
  | x :: r => bnd (t (.d x) env) fun e => u r e
def tgT (n : Nat) (ts : TgsF) : TgF := fun r env => match r with
  | .d (.tuple l) => if l.length = n then ts l env else bad
  | _ => bad
def tgL (n : Nat) (ts : TgsF) : TgF := fun r env => match r with
  | .d (.list l) => if l.length = n then ts l env else bad
  | _ => bad

/-- the own lists are among those ahead; the slots but those at L are as ahead -/
structure Kept (L : List Nat) (σ : St) (env : DEnv) (σ' : St) (env' : DEnv) : Prop where
  own : ∀ (i : Nat) (l : List RV) (v : V), env'[i]? = some (some (.own l)) → σ'[i]? = some (some v) → env[i]? = some (some (.own l)) ∧ σ[i]? = some (some v)
  slot : ∀ j, j ∉ L → σ'[j]? = σ[j]?
  len : σ'.length = σ.length
theorem Kept.refl {L : List Nat} {σ : St} {env : DEnv} : Kept L σ env σ env := ⟨fun _ _ _ h h' => ⟨h, h'⟩, fun _ _ => rfl, rfl⟩
theorem Kept.trans {L L' : List Nat} {σ σ1 σ2 : St} {env env1 env2 : DEnv} (a : Kept L σ env σ1 env1) (b : Kept L' σ1 env1 σ2 env2) : Kept (L ++ L') σ env σ2 env2 :=
  ⟨fun i l v h h' => let ⟨p, q⟩ := b.own i l v h h'; a.own i l v p q, fun j hj => (b.slot j fun h => hj (List.mem_append_right _ h)).trans (a.slot j fun h => hj (List.mem_append_left _ h)), b.len.trans a.len⟩

section
variable (K : PySem.W.Frag) (mg : Str → Option Value) (fld : Str → Str) (E : XK)
def upG (L : List Nat) (t : TgF) : TG := fun v σ H Q => ∃ g s env r, GOk K mg g s H ∧ ER K mg g H σ env ∧ RepV K mg g v r ∧ Post K mg fld E g H (t r env s) fun g' _ H' env' => ∀ σ', ER K mg g' H' σ' env' → Kept L σ env σ' env' → Q σ' H'
def upGs (L : List Nat) (t : TgsF) : TGs := fun vs σ H Q => ∃ g s env l, GOk K mg g s H ∧ ER K mg g H σ env ∧ RpAll K g.Z vs l ∧ Post K mg fld E g H (t l env s) fun g' _ H' env' => ∀ σ', ER K mg g' H' σ' env' → Kept L σ env σ' env' → Q σ' H'
end
abbrev DG (X : Cx) (fld : Str → Str) (E : XK) (L : List Nat) (tg : Expr) (t : TgF) : Prop := PG X tg (upG X.K X.mg fld E L t)
abbrev DGs (X : Cx) (fld : Str → Str) (E : XK) (L : List Nat) (tg : List Expr) (t : TgsF) : Prop := PGs X tg (upGs X.K X.mg fld E L t)
theorem pgImp {X : Cx} {e : Expr} {t t' : TG} (h : PG X e t) (k : ∀ v σ H Q, t' v σ H Q → t v σ H Q) : PG X e t' := ⟨fun pins s σ H v u Q I r q => h.run pins s σ H v u Q I r (k v σ H Q q)⟩
theorem pgsImp {X : Cx} {e : List Expr} {t t' : TGs} (h : PGs X e t) (k : ∀ v σ H Q, t' v σ H Q → t v σ H Q) : PGs X e t' := ⟨fun pins s σ H v u Q I r q => h.run pins s σ H v u Q I r (k v σ H Q q)⟩

section
variable {K : PySem.W.Frag} {mg : Str → Option Value} {g : G} {H : Hp} {σ : St} {env : DEnv}
theorem ER.set (e : ER K mg g H σ env) {i : Nat} {v : V} {r : RV} (hr : RepV K mg g v r) : ER K mg g H (σ.set i (some v)) (env.set i (some (.rv r))) := by
  refine ⟨by simp [e.len], fun j x h => ?_, fun j k lj lk w hjk h1 h2 h3 h4 => ?_⟩
  · by_cases hj : i = j
    · subst hj
      have hl : i < env.length := by
        rcases Nat.lt_or_ge i env.length with q | q
        · exact q
        · rw [List.getElem?_eq_none (by simpa using q)] at h; cases h
      rw [List.getElem?_set_self hl] at h
      cases h
      exact ⟨v, List.getElem?_set_self (by rw [e.len]; exact hl), hr⟩
    · rw [List.getElem?_set_ne hj] at h ⊢
      exact e.at_ j x h
  · have ne : ∀ {j lj}, (env.set i (some (.rv r)))[j]? = some (some (.own lj)) → i ≠ j := fun {j lj} h q => by
      subst q
      have hl : i < env.length := by
        rcases Nat.lt_or_ge i env.length with q | q
        · exact q
        · rw [List.getElem?_eq_none (by simpa using q)] at h; cases h
      rw [List.getElem?_set_self hl] at h; cases h
    have n1 := ne h1
    have n2 := ne h2
    rw [List.getElem?_set_ne n1] at h1 h3
    rw [List.getElem?_set_ne n2] at h2 h4
    exact e.apart j k lj lk w hjk h1 h2 h3 h4
theorem Kept.set {i : Nat} {v : V} {r : RV} (e : ER K mg g H σ env) : Kept [i] σ env (σ.set i (some v)) (env.set i (some (.rv r))) := by
  refine ⟨fun j l w h h' => ?_, fun j hj => List.getElem?_set_ne (by intro q; exact hj (by simp [q])), by simp⟩
  by_cases hj : i = j
  · subst hj
    have hl : i < env.length := by
      rcases Nat.lt_or_ge i env.length with q | q
      · exact q
      · rw [List.getElem?_eq_none (by simpa using q)] at h; cases h
    rw [List.getElem?_set_self hl] at h; cases h
  · rw [List.getElem?_set_ne hj] at h h'
    exact ⟨h, h'⟩
end

section
variable {X : Cx} {fld : Str → Str} {E : XK} {pos : Pos} {e : Expr} {es : List Expr} {t : TgF} {u : TgsF} {L L' : List Nat}
theorem dg_name {i : Nat} {x : Str} (hN : X.N.Nodup) (hi : X.N[i]? = some x := by rfl) (hx : Loc X.env.scope x := by first | exact Or.inl rfl | exact Or.inr rfl)
    (hf : X.fn x = true ∨ X.env.scope.names.lookup x = some .local := by first | exact .inl rfl | exact .inr rfl | assumption) : DG X fld E [i] (.Name x pos) (tgN i) :=
  pgImp (pg_name hN hi hx hf) fun v σ H Q ⟨g, s, env, r, ok, er, rv, p⟩ => p g H (.refl ok) _ (er.set rv) (.set er)
theorem dgs_nil : DGs X fld E [] [] tgsNil := pgsImp pgs_nil fun vs σ H Q ⟨g, s, env, l, ok, er, dl, p⟩ => by
  cases l with
  | nil =>
    cases dl
    exact ⟨rfl, p g H (.refl ok) σ er .refl⟩
  | cons _ _ => exact p.elim
theorem dgs_cons (h1 : DG X fld E L e t) (h2 : DGs X fld E L' es u) (hs : (assignEach (e :: es) X.env).map (·.2) = assign e X.env :: (assignEach es X.env).map (·.2) := by rfl) : DGs X fld E (L ++ L') (e :: es) (tgsCons t u) :=
  pgsImp (pgs_cons h1 h2 hs) fun vs σ H Q ⟨g, s, env, l, ok, er, dl, p⟩ => by
    cases l with
    | nil => exact p.elim
    | cons x l =>
      cases dl with
      | cons d1 d2 =>
        refine ⟨_, _, rfl, g, s, env, .d x, ok, er, d1, (Post.bind (m := t (.d x) env) p).mono fun g1 s1 H1 env1 t1 p1 σ1 er1 k1 => ?_⟩
        exact ⟨g1, s1, env1, l, t1.ok, er1, RpAll.mono t1.z _ _ d2, p1.mono fun g2 s2 H2 env2 t2 p2 σ2 er2 k2 => p2 σ2 er2 (k1.trans k2)⟩
theorem dg_tup {k n : Nat} (hc : X.calm = true) (h : DGs X fld E L es u) (hn : (assignEach es X.env).length = n := by rfl) (hst : (assignEach es X.env).findIdx? (·.1) = none := by rfl) : DG X fld E L (.Tuple es k pos) (tgT n u) :=
  pgImp (pg_tup hc h hn hst) fun v σ H Q ⟨g, s, env, r, ok, er, rv, p⟩ => by
    cases r with
    | box n => exact p.elim
    | fn n => exact p.elim
    | d x =>
      cases x with
      | tuple l =>
        unfold tgT at p
        by_cases q : l.length = n
        · simp only [if_pos q] at p
          cases rv with
          | tup hs hd =>
            refine ⟨_, _, rfl, ?_, (dpAll_length hd).trans q, g, s, env, l, ok, er, hd, p⟩
            rcases hs with (hs | ⟨o, hs⟩) | hs
            · exact .inl (.inl (ok.z _ _ hs))
            · exact .inl (.inr ⟨o, ok.z _ _ hs⟩)
            · exact .inr hs
        · simp only [if_neg q] at p
          exact p.elim
      | _ => exact p.elim
theorem dg_unl {k n : Nat} (hc : X.calm = true) (h : DGs X fld E L es u) (hn : (assignEach es X.env).length = n := by rfl) (hst : (assignEach es X.env).findIdx? (·.1) = none := by rfl) : DG X fld E L (.Tuple es k pos) (tgL n u) :=
  pgImp (pg_unl hc h hn hst) fun v σ H Q ⟨g, s, env, r, ok, er, rv, p⟩ => by
    cases r with
    | box n => exact p.elim
    | fn n => exact p.elim
    | d x =>
      cases x with
      | list l =>
        unfold tgL at p
        by_cases q : l.length = n
        · simp only [if_pos q] at p
          cases rv with
          | lst hs hd =>
            refine ⟨_, _, rfl, ?_, (dpAll_length hd).trans q, g, s, env, l, ok, er, hd, p⟩
            exact .inl (DL.Rd.mono ok.z hs)
        · simp only [if_neg q] at p
          exact p.elim
      | _ => exact p.elim
end

/-! ### iterables -/
/-- what J walks: the items l -/
def Walks (K : PySem.W.Frag) (mg : Str → Option Value) (J : It) (Z : Hp) (l : List D) : Prop :=
  ∀ (g : G) (s : S) (H : Hp), GOk K mg g s H → (∀ a o, Z a = some o → g.Z a = some o) → ∀ i, (l.length ≤ i → J.stop i H) ∧
    ∀ d, l[i]? = some d → J.go i H ∧ ∀ x H', J.yld i H x H' → ∃ g', Step K mg g H g' s H' ∧ Rp K g'.Z x d
def upI (K : PySem.W.Frag) (mg : Str → Option Value) (fld : Str → Str) (E : XK) (m : DEnv → DM (List D)) : TI := fun σ H R => ∃ g s env, GOk K mg g s H ∧ ER K mg g H σ env ∧
  Post K mg fld E g H (m env s) fun g' _ H' l => ∀ J, Walks K mg J g'.Z l → R J H'
abbrev DI (X : Cx) (fld : Str → Str) (E : XK) (tg iter : Expr) (m : DEnv → DM (List D)) : Prop := PI X tg iter (upI X.K X.mg fld E m)
theorem piImp {X : Cx} {tg e : Expr} {t t' : TI} (h : PI X tg e t) (k : ∀ σ H Q, t' σ H Q → t σ H Q) : PI X tg e t' := ⟨fun pins s σ H Q I q => h.run pins s σ H Q I (k σ H Q q)⟩
/-- a list or a tuple -/
def iSeq (K : PySem.W.Frag) (tl : TE) : TI := fun σ H R => tl σ H fun x H1 => ∃ a, x = .ref a ∧ (((∃ xs, SqL K H1 a xs) ∧ R (Itl K a) H1) ∨ ((∃ xs, SqT K H1 a xs) ∧ R (Itt K a) H1))
theorem pi_seq {X : Cx} {tg l : Expr} {tl : TE} (hl : PE X l tl) : PI X tg l (iSeq X.K tl) := by
  refine ⟨fun pins s σ H R I h => ?_⟩
  refine thn (hl.run pins s σ H _ I h) fun v s1 ⟨x, H1, I1, r1, q1⟩ => ?_
  obtain ⟨a, e, q⟩ := q1
  subst e
  cases r1
  rcases q with ⟨⟨xs, hq⟩, q⟩ | ⟨⟨xs, hq⟩, q⟩
  · obtain ⟨its, rv, p, hz⟩ := I1.list hq
    refine wpAny_pyIter_list p.isList ?_
    refine ⟨s1.heap.objs.size, [s1.heap.objs.size], _, _, H1, rfl, I1.kept (t' := s1.toks) fun b o e => Heap.get?_push_of_some _ e, turn_list a _, ⟨_, Heap.get?_push_size _ rfl, rfl, rfl⟩, fun b hb => ?_, q⟩
    have e : b = s1.heap.objs.size := by simpa using hb
    subst e
    exact I1.fpOk (Nat.le_refl _) (I1.hok.fresh (Nat.le_refl _))
  · obtain ⟨its, rv, p, hz⟩ := I1.tuple hq
    refine wpAny_pyIter_tuple (show s1.heap.IsTuple a its.toArray from p) ?_
    refine ⟨s1.heap.objs.size, [s1.heap.objs.size], _, _, H1, rfl, I1.kept (t' := s1.toks) fun b o e => Heap.get?_push_of_some _ e, turn_tuple a _, ⟨_, Heap.get?_push_size _ rfl, rfl, rfl⟩, fun b hb => ?_, q⟩
    have e : b = s1.heap.objs.size := by simpa using hb
    subst e
    exact I1.fpOk (Nat.le_refl _) (I1.hok.fresh (Nat.le_refl _))
theorem dpAll_get {K : PySem.W.Frag} {Z : Hp} : ∀ {l : List D} {xs : List V} {i : Nat} {d : D}, RpAll K Z xs l → l[i]? = some d → ∃ v, xs[i]? = some v ∧ Rp K Z v d
  | [], _, _, _, h, e => by simp at e
  | x :: l, _, 0, d, h, e => by
    cases h with
    | cons h1 h2 =>
      simp at e
      subst e
      exact ⟨_, rfl, h1⟩
  | x :: l, _, i + 1, d, h, e => by
    cases h with
    | cons h1 h2 =>
      obtain ⟨v, a, b⟩ := dpAll_get (i := i) h2 (by simpa using e)
      exact ⟨v, by simpa using a, b⟩
theorem sqT_mono {K : PySem.W.Frag} {Z H : Hp} {a : Addr} {xs : List V} (h : ∀ a o, Z a = some o → H a = some o) (hs : SqT K Z a xs) : SqT K H a xs := by
  rcases hs with (hs | ⟨o, hs⟩) | hs
  · exact .inl (.inl (h _ _ hs))
  · exact .inl (.inr ⟨o, h _ _ hs⟩)
  · exact .inr hs
theorem walks_lst {K : PySem.W.Frag} {mg : Str → Option Value} {Z : Hp} {a : Addr} {xs : List V} {l : List D} (hs : SqL K Z a xs) (hd : RpAll K Z xs l) : Walks K mg (Itl K a) Z l := by
  intro g s H ok hz i
  have q : SqL K H a xs := Same.seq (show Same Z H from fun b o h => ok.z b o (hz b o h)) hs
  refine ⟨fun h => ⟨xs, q, by rw [dpAll_length hd]; exact h⟩, fun d e => ?_⟩
  obtain ⟨v, hv, dv⟩ := dpAll_get hd e
  refine ⟨⟨xs, v, q, hv⟩, fun x H' y => ?_⟩
  obtain ⟨rfl, y⟩ := y
  have e2 := y xs q
  rw [hv] at e2
  cases e2
  exact ⟨g, .refl ok, Rp.mono hz d _ dv⟩
theorem walks_tup {K : PySem.W.Frag} {mg : Str → Option Value} {Z : Hp} {a : Addr} {xs : List V} {l : List D} (hs : SqT K Z a xs) (hd : RpAll K Z xs l) : Walks K mg (Itt K a) Z l := by
  intro g s H ok hz i
  have q : SqT K H a xs := sqT_mono (fun b o h => ok.z b o (hz b o h)) hs
  refine ⟨fun h => ⟨xs, q, by rw [dpAll_length hd]; exact h⟩, fun d e => ?_⟩
  obtain ⟨v, hv, dv⟩ := dpAll_get hd e
  refine ⟨⟨xs, v, q, hv⟩, fun x H' y => ?_⟩
  obtain ⟨rfl, y⟩ := y
  have e2 := y xs q
  rw [hv] at e2
  cases e2
  exact ⟨g, .refl ok, Rp.mono hz d _ dv⟩
/-- for x in e, e a list or a tuple -/
def iItems (m : DEnv → DM RV) : DEnv → DM (List D) := fun env => bnd (m env) items
section
variable {X : Cx} {fld : Str → Str} {E : XK} {pos p : Pos} {e : Expr} {tg : Expr} {m : DEnv → DM RV}
theorem di_seq (h : DE X fld E e m) : DI X fld E tg e (iItems m) :=
  piImp (pi_seq h) fun σ H R ⟨g, s, env, ok, er, p⟩ => by
    refine ⟨g, s, env, ok, er, p.bind.mono fun g1 s1 H1 r t1 p1 v rv => ?_⟩
    cases r with
    | box n => exact p1.elim
    | fn n => exact p1.elim
    | d x =>
      cases x with
      | list l =>
        cases rv with
        | lst hs hd => exact ⟨_, rfl, .inl ⟨⟨_, .inl (DL.Rd.mono t1.ok.z hs)⟩, p1 g1 H1 (.refl t1.ok) _ (walks_lst (.inl hs) hd)⟩⟩
      | tuple l =>
        cases rv with
        | tup hs hd => exact ⟨_, rfl, .inr ⟨⟨_, sqT_mono t1.ok.z hs⟩, p1 g1 H1 (.refl t1.ok) _ (walks_tup hs hd)⟩⟩
      | _ => exact p1.elim
/-- range -/
def rangeD (lo : Int) (n : Nat) : List D := (List.range n).map fun (i : Nat) => .int (lo + (i : Int))
def iRange1 (m : DEnv → DM RV) : DEnv → DM (List D) := fun env => bnd (m env) fun r => match r with
  | .d (.int j) => if -(2 ^ 62) ≤ j ∧ j < 2 ^ 62 then ret (rangeD 0 j.toNat) else bad
  | _ => bad
def iRange2 (m m2 : DEnv → DM RV) : DEnv → DM (List D) := fun env => bnd (m env) fun r => bnd (m2 env) fun r2 => match r, r2 with
  | .d (.int i), .d (.int j) => if -(2 ^ 62) ≤ i ∧ i < 2 ^ 62 ∧ -(2 ^ 62) ≤ j ∧ j < 2 ^ 62 then ret (rangeD i (j - i).toNat) else bad
  | _, _ => bad
theorem walks_rng {K : PySem.W.Frag} {mg : Str → Option Value} {Z : Hp} {lo : Int} {n : Nat} : Walks K mg (Itr lo n) Z (rangeD lo n) := by
  intro g s H ok hz i
  have e0 : (rangeD lo n).length = n := by simp [rangeD]
  refine ⟨fun h => show n ≤ i by rw [← e0]; exact h, fun d e => ?_⟩
  unfold rangeD at e
  rw [List.getElem?_map] at e
  have hi : i < n := by
    rcases Nat.lt_or_ge i n with q | q
    · exact q
    · rw [List.getElem?_eq_none (by simpa using q)] at e; cases e
  rw [List.getElem?_range hi] at e
  cases e
  refine ⟨hi, fun x H' y => ?_⟩
  obtain ⟨rfl, rfl⟩ := y
  exact ⟨g, .refl ok, .int _⟩
theorem di_range1 (hg : Gl X "range") (hm : X.mg "range" = none) (h : DE X fld E e m) (hs : starEach [e] X.env = [(false, eval e X.env)] := by rfl) : DI X fld E tg (.Call (.Name "range" p) [e] [] pos) (iRange1 m) :=
  piImp (pi_range1 hg hm (pa_cons h pa_nil hs) hs) fun σ H R ⟨g, s, env, ok, er, p⟩ => by
    refine ⟨g, s, env, ok, er, p.bind.mono fun g1 s1 H1 r t1 p1 v rv => ?_⟩
    cases r with
    | box n => exact p1.elim
    | fn n => exact p1.elim
    | d x =>
      cases x with
      | int j =>
        cases rv
        dsimp only at p1
        by_cases q : -(2 ^ 62) ≤ j ∧ j < 2 ^ 62
        · rw [if_pos q] at p1
          exact ⟨j, rfl, q.1, q.2, p1 g1 H1 (.refl t1.ok) _ walks_rng⟩
        · rw [if_neg q] at p1; exact p1.elim
      | _ => exact p1.elim
theorem di_range2 {e2 : Expr} {m2 : DEnv → DM RV} (hg : Gl X "range") (hm : X.mg "range" = none) (h : DE X fld E e m) (h2 : DE X fld E e2 m2) (hs : starEach [e, e2] X.env = [(false, eval e X.env), (false, eval e2 X.env)] := by rfl)
    (hs2 : starEach [e2] X.env = [(false, eval e2 X.env)] := by rfl) : DI X fld E tg (.Call (.Name "range" p) [e, e2] [] pos) (iRange2 m m2) :=
  piImp (pi_range2 hg hm (pa_cons h (pa_cons h2 pa_nil hs2) (by rw [hs, hs2])) hs hs2) fun σ H R ⟨g, s, env, ok, er, p⟩ => by
    refine ⟨g, s, env, ok, er, p.bind.mono fun g1 s1 H1 r t1 p1 v rv => ?_⟩
    refine ⟨g1, s1, env, t1.ok, er.step t1, p1.bind.mono fun g2 s2 H2 r2 t2 p2 v2 rv2 => ?_⟩
    cases r with
    | box n => exact p2.elim
    | fn n => exact p2.elim
    | d x =>
      cases r2 with
      | box n => cases x <;> exact p2.elim
      | fn n => cases x <;> exact p2.elim
      | d y =>
        cases x with
        | int i =>
          cases y with
          | int j =>
            cases rv
            cases rv2
            dsimp only at p2
            by_cases q : -(2 ^ 62) ≤ i ∧ i < 2 ^ 62 ∧ -(2 ^ 62) ≤ j ∧ j < 2 ^ 62
            · rw [if_pos q] at p2
              exact ⟨i, j, rfl, q, p2 g2 H2 (.refl t2.ok) _ walks_rng⟩
            · rw [if_neg q] at p2; exact p2.elim
          | _ => exact p2.elim
        | _ => exact p2.elim
end
end DL
namespace DL
open PySem PySem.Spec L2
open PyProof.Rows hiding St

/-! ### statements -/
inductive Fl where
  | nx (env : DEnv)
  | rt (r : RV)
  | bk (env : DEnv)
  | ct (env : DEnv)

structure FR (K : PySem.W.Frag) (mg : Str → Option Value) (g0 : G) (H0 : Hp) (g : G) (s : S) (H : Hp) (σ : St) (env : DEnv) : Prop where
  st : Step K mg g0 H0 g s H
  er : ER K mg g H σ env
  own : ∀ (i : Nat) (l : List RV) (a : Addr), env[i]? = some (some (.own l)) → σ[i]? = some (some (.ref a)) → H0 a = none
def Sub (Z Z' : G) : Prop := (∀ a o, Z.Z a = some o → Z'.Z a = some o) ∧ ∃ r, Z'.P = Z.P ++ r
theorem Sub.refl {Z : G} : Sub Z Z := ⟨fun _ _ h => h, [], by simp⟩
theorem Sub.trans {Z Z1 Z2 : G} (a : Sub Z Z1) (b : Sub Z1 Z2) : Sub Z Z2 := ⟨fun c o h => b.1 c o (a.1 c o h), by
  obtain ⟨r, e⟩ := a.2
  obtain ⟨r', e'⟩ := b.2
  exact ⟨r ++ r', by rw [e', e, List.append_assoc]⟩⟩
theorem Step.sub {K : PySem.W.Frag} {mg : Str → Option Value} {g g1 : G} {s1 : S} {H H1 : Hp} (t : Step K mg g H g1 s1 H1) : Sub g g1 := ⟨t.z, let ⟨r, e, _⟩ := t.p; ⟨r, e⟩⟩
def PostS (K : PySem.W.Frag) (mg : Str → Option Value) (fld : Str → Str) (E : XK) (g0 : G) (H0 : Hp) (Z : G) (o : Out Fl) (Dd : Ends) : Prop :=
  match o with
  | .ok (.nx env) s => ∀ g H σ, FR K mg g0 H0 g s H σ env → Sub Z g → Dd.nx σ H
  | .ok (.rt r) s => ∀ g H v, Step K mg g0 H0 g s H → RepV K mg g v r → Sub Z g → Dd.rt v H
  | .ok (.bk env) s => ∀ g H σ, FR K mg g0 H0 g s H σ env → Sub Z g → Dd.bk σ H
  | .ok (.ct env) s => ∀ g H σ, FR K mg g0 H0 g s H σ env → Sub Z g → Dd.ct σ H
  | .exc e s => ∀ g H cls od, Step K mg g0 H0 g s H → ExcRep K mg fld g H cls od e → E cls od H
  | .bad => False
def upS (K : PySem.W.Frag) (mg : Str → Option Value) (fld : Str → Str) (E : XK) (g0 : G) (H0 : Hp) (m : DEnv → DM Fl) : TS := fun Dd σ H => ∃ g s env, FR K mg g0 H0 g s H σ env ∧ PostS K mg fld E g0 H0 g (m env s) Dd
abbrev DS (X : Cx) (fld : Str → Str) (E : XK) (g0 : G) (H0 : Hp) (st : Stmt) (m : DEnv → DM Fl) : Prop := PS X st (upS X.K X.mg fld E g0 H0 m)
abbrev DSs (X : Cx) (fld : Str → Str) (E : XK) (g0 : G) (H0 : Hp) (st : List Stmt) (m : DEnv → DM Fl) : Prop := PSs X st (upS X.K X.mg fld E g0 H0 m)

section
variable {K : PySem.W.Frag} {mg : Str → Option Value} {fld : Str → Str} {E : XK} {g0 : G} {H0 : Hp} {g g1 : G} {s s1 : S} {H H1 : Hp} {σ σ1 : St} {env env1 : DEnv}
theorem FR.ok (f : FR K mg g0 H0 g s H σ env) : GOk K mg g s H := f.st.ok
theorem FR.step (f : FR K mg g0 H0 g s H σ env) (t : Step K mg g H g1 s1 H1) : FR K mg g0 H0 g1 s1 H1 σ env := ⟨f.st.trans t, f.er.step t, f.own⟩
theorem FR.kept {L : List Nat} (f : FR K mg g0 H0 g s H σ env) (t : Step K mg g H g1 s1 H1) (er : ER K mg g1 H1 σ1 env1) (k : Kept L σ env σ1 env1) : FR K mg g0 H0 g1 s1 H1 σ1 env1 :=
  ⟨f.st.trans t, er, fun i l a h h' => let ⟨p, q⟩ := k.own i l (.ref a) h h'; f.own i l a p q⟩
theorem PostS.z {Z Z' : G} {o : Out Fl} {Dd : Ends} (h : PostS K mg fld E g0 H0 Z o Dd) (hz : Sub Z Z') : PostS K mg fld E g0 H0 Z' o Dd := by
  cases o with
  | bad => exact h
  | exc e s => exact h
  | ok f s =>
    cases f with
    | nx env => exact fun g H σ f q => h g H σ f (hz.trans q)
    | rt r => exact fun g H v t r q => h g H v t r (hz.trans q)
    | bk env => exact fun g H σ f q => h g H σ f (hz.trans q)
    | ct env => exact fun g H σ f q => h g H σ f (hz.trans q)
/-- an exception out of an expression is one out of the statement -/
theorem exc_up {e : EV} (f : FR K mg g0 H0 g s H σ env) (h : ∀ g' H' cls od, Step K mg g0 H0 g' s1 H' → ExcRep K mg fld g' H' cls od e → E cls od H') :
    ∀ g' H' cls od, Step K mg g H g' s1 H' → ExcRep K mg fld g' H' cls od e → E cls od H' := fun g' H' cls od t x => h g' H' cls od (f.st.trans t) x
end

/-- an expression, then a statement's end -/
def sE (m : DEnv → DM RV) (k : RV → DEnv → DM Fl) : DEnv → DM Fl := fun env => bnd (m env) fun r => k r env
def sNext : DEnv → DM Fl := fun env => ret (.nx env)
def sSeq (a b : DEnv → DM Fl) : DEnv → DM Fl := fun env => bnd (a env) fun f => match f with
  | .nx e => b e
  | f => ret f
def sRet (m : DEnv → DM RV) : DEnv → DM Fl := fun env => bnd (m env) fun r => ret (.rt r)
def sRetN : DEnv → DM Fl := fun _ => ret (.rt (.d .none))
def sDrop (m : DEnv → DM RV) : DEnv → DM Fl := fun env => bnd (m env) fun _ => ret (.nx env)
def sAsg (m : DEnv → DM RV) (t : TgF) : DEnv → DM Fl := fun env => bnd (m env) fun r => bnd (t r env) fun e => ret (.nx e)
def sOwn (i : Nat) (m : DEnv → DM (List RV)) : DEnv → DM Fl := fun env => bnd (m env) fun l => ret (.nx (env.set i (some (.own l))))
def sIf (c : DEnv → DM Bool) (a b : DEnv → DM Fl) : DEnv → DM Fl := fun env => bnd (c env) fun t => if t = true then a env else b env
def sBrk : DEnv → DM Fl := fun env => ret (.bk env)
def sCnt : DEnv → DM Fl := fun env => ret (.ct env)
def forL (t : TgF) (body : DEnv → DM Fl) : List D → DEnv → DM Fl
  | [], env => ret (.nx env)
  | x :: xs, env => bnd (t (.d x) env) fun e => bnd (body e) fun f => match f with
    | .nx e => forL t body xs e
    | .ct e => forL t body xs e
    | .bk e => ret (.nx e)
    | .rt r => ret (.rt r)
def sFor (it : DEnv → DM (List D)) (t : TgF) (body : DEnv → DM Fl) : DEnv → DM Fl := fun env => bnd (it env) fun l => forL t body l env
def whileN (c : DEnv → DM Bool) (body : DEnv → DM Fl) : Nat → DEnv → DM Fl
  | 0, _ => bad
  | n + 1, env => bnd (c env) fun b => if b = true then bnd (body env) fun f => match f with
      | .nx e => whileN c body n e
      | .ct e => whileN c body n e
      | .bk e => ret (.nx e)
      | .rt r => ret (.rt r)
    else ret (.nx env)
/-- the own list in slot i becomes data -/
def sFrz (i : Nat) (m : DEnv → DM Fl) : DEnv → DM Fl := fun env => match env[i]? with
  | some (some (.own l)) => match datL l with
    | some dl => m (env.set i (some (.rv (.d (.list dl)))))
    | none => bad
  | _ => m env

section
variable {X : Cx} {fld : Str → Str} {E : XK} {g0 : G} {H0 : Hp} {pos : Pos} {e : Expr} {st : Stmt} {sts : List Stmt} {m : DEnv → DM RV} {a b : DEnv → DM Fl} {mo : DEnv → DM (List RV)} {mc : DEnv → DM Bool} {t : TgF} {L : List Nat}
theorem ds_pass : DS X fld E g0 H0 (.Pass pos) sNext := psImp ps_pass fun Dd σ H ⟨g, s, env, f, p⟩ => p g H σ f .refl
theorem dss_nil : DSs X fld E g0 H0 [] sNext := pssImp pss_nil fun Dd σ H ⟨g, s, env, f, p⟩ => p g H σ f .refl
theorem ds_break : DS X fld E g0 H0 (.Break pos) sBrk := psImp ps_break fun Dd σ H ⟨g, s, env, f, p⟩ => p g H σ f .refl
theorem ds_cont : DS X fld E g0 H0 (.Continue pos) sCnt := psImp ps_continue fun Dd σ H ⟨g, s, env, f, p⟩ => p g H σ f .refl
theorem dss_cons (h1 : DS X fld E g0 H0 st a) (h2 : DSs X fld E g0 H0 sts b) : DSs X fld E g0 H0 (st :: sts) (sSeq a b) :=
  pssImp (pss_cons h1 h2) fun Dd σ H ⟨g, s, env, f, p⟩ => by
    refine ⟨g, s, env, f, ?_⟩
    unfold sSeq bnd at p
    cases q : a env s with
    | bad => rw [q] at p; exact p
    | exc e s' => rw [q] at p; exact p
    | ok fl s' =>
      rw [q] at p
      cases fl with
      | nx env' => exact fun g' H' σ' f' z' => ⟨g', s', env', f', p.z z'⟩
      | rt r => exact p
      | bk env' => exact p
      | ct env' => exact p
theorem dss_one (h1 : DS X fld E g0 H0 st a) : DSs X fld E g0 H0 [st] a := pssImp (pss_one h1) fun Dd σ H h => h
theorem ds_ret (h : DE X fld E e m) : DS X fld E g0 H0 (.Return (some e) pos) (sRet m) :=
  psImp (ps_ret h) fun Dd σ H ⟨g, s, env, f, p⟩ => by
    refine ⟨g, s, env, f.ok, f.er, ?_⟩
    unfold sRet bnd at p
    cases q : m env s with
    | bad => rw [q] at p; exact p
    | exc e s' => rw [q] at p; exact exc_up f p
    | ok r s' => rw [q] at p; exact fun g' H' t v rv => p g' H' v (f.st.trans t) rv t.sub
theorem ds_retN : DS X fld E g0 H0 (.Return none pos) sRetN := psImp ps_retN fun Dd σ H ⟨g, s, env, f, p⟩ => p g H _ f.st .non .refl
theorem ds_drop (h : DE X fld E e m) (hs : swapsWith e none pos.line X.env = pure false := by rfl) : DS X fld E g0 H0 (.Expr e pos) (sDrop m) :=
  psImp (ps_expr h hs) fun Dd σ H ⟨g, s, env, f, p⟩ => by
    refine ⟨g, s, env, f.ok, f.er, ?_⟩
    unfold sDrop bnd at p
    cases q : m env s with
    | bad => rw [q] at p; exact p
    | exc e s' => rw [q] at p; exact exc_up f p
    | ok r s' => rw [q] at p; exact fun g' H' t v rv => p g' H' σ (f.step t) t.sub
theorem asg_up {k : RV → DEnv → DM Fl} : ∀ Dd σ H, upS X.K X.mg fld E g0 H0 (sAsg m t) Dd σ H → tAsg (upE X.K X.mg fld E m) (upG X.K X.mg fld E L t) Dd σ H := by
  rintro Dd σ H ⟨g, s, env, f, p⟩
  refine ⟨g, s, env, f.ok, f.er, ?_⟩
  unfold sAsg bnd at p
  cases q : m env s with
  | bad => rw [q] at p; exact p
  | exc e s' => rw [q] at p; exact exc_up f p
  | ok r s' =>
    rw [q] at p
    intro g1 H1 t1 v rv
    have f1 := f.step t1
    refine ⟨g1, s', env, r, t1.ok, f1.er, rv, ?_⟩
    dsimp only at p
    cases q2 : t r env s' with
    | bad => rw [q2] at p; exact p
    | exc e s'' => rw [q2] at p; exact exc_up f1 p
    | ok env' s'' =>
      rw [q2] at p
      exact fun g2 H2 t2 σ' er' k' => p g2 H2 σ' (f1.kept t2 er' k') (Sub.trans t1.sub t2.sub)
theorem ds_asg {tg : Expr} (h : DE X fld E e m) (ht : DG X fld E L tg t) (hs : swapsWithSole [tg] e pos.line X.env = pure false := by rfl) (hw : swappedStores [tg] e X.env = pure none := by rfl)
    (h1 : (assignEach [tg] X.env).map (·.2) = [assign tg X.env] := by rfl) : DS X fld E g0 H0 (.Assign [tg] e pos) (sAsg m t) := psImp (ps_asg h ht hs hw h1) (asg_up (k := fun _ env => ret (.nx env)))
theorem ds_set {i : Nat} {x : Str} {pos' : Pos} (hN : X.N.Nodup) (h : DE X fld E e m) (hi : X.N[i]? = some x := by rfl) (hx : Loc X.env.scope x := by first | exact Or.inl rfl | exact Or.inr rfl) (hs : swapsWith e (some (.Name x pos')) pos.line X.env = pure false := by rfl)
    (hf : X.fn x = true ∨ X.env.scope.names.lookup x = some .local := by first | exact .inl rfl | exact .inr rfl | assumption) : DS X fld E g0 H0 (.Assign [.Name x pos'] e pos) (sAsg m (tgN i)) :=
  psImp (ps_set hN hi hx h hs hf) fun Dd σ H q => by
    obtain ⟨g, s, env, f, p⟩ := q
    refine ⟨g, s, env, f.ok, f.er, ?_⟩
    unfold sAsg bnd at p
    cases q : m env s with
    | bad => rw [q] at p; exact p
    | exc e s' => rw [q] at p; exact exc_up f p
    | ok r s' =>
      rw [q] at p
      intro g1 H1 t1 v rv
      have f1 := f.step t1
      have er1 := f1.er
      exact p g1 H1 _ (f1.kept (.refl t1.ok) (er1.set rv) (.set er1)) t1.sub
theorem FR.setOwn {K : PySem.W.Frag} {mg : Str → Option Value} {g g1 : G} {s s1 : S} {H H1 : Hp} {σ : St} {env : DEnv} {i : Nat} {a : Addr} {xs : List V} {l : List RV} (f : FR K mg g0 H0 g s H σ env) (t : Step K mg g H g1 s1 H1) (hn : H a = none) (hz : g1.Z a = none) (hP : a ∉ g1.P)
    (hH : H1 a = some (.lst xs)) (hd : Paired (RepV K mg g1) xs l) : FR K mg g0 H0 g1 s1 H1 (σ.set i (some (.ref a))) (env.set i (some (.own l))) := by
  have er := f.er.step t
  have inl : ∀ {e : EVal}, (env.set i (some (.own l)))[i]? = some (some e) → i < env.length := fun {e} h => by
    rcases Nat.lt_or_ge i env.length with q | q
    · exact q
    · rw [List.getElem?_eq_none (by simpa using q)] at h; cases h
  have fresh : ∀ {j : Nat} {lj : List RV}, env[j]? = some (some (.own lj)) → σ[j]? ≠ some (some (.ref a)) := fun {j lj} h q => by
    obtain ⟨v, e1, e2⟩ := f.er.at_ j _ h
    rw [e1] at q; cases q
    obtain ⟨b, ys, eb, _, _, hb, _⟩ := e2
    cases eb
    rw [hn] at hb; cases hb
  refine ⟨f.st.trans t, ⟨by simp [er.len], fun j x h => ?_, fun j k lj lk v hjk h1 h2 h3 h4 => ?_⟩, fun j lj b h h' => ?_⟩
  · by_cases hj : i = j
    · subst hj
      have hl := inl h
      rw [List.getElem?_set_self hl] at h
      cases h
      exact ⟨.ref a, List.getElem?_set_self (by rw [er.len]; exact hl), a, xs, rfl, hz, hP, hH, hd⟩
    · rw [List.getElem?_set_ne hj] at h ⊢
      exact er.at_ j x h
  · by_cases hj : i = j
    · subst hj
      have hk : i ≠ k := hjk
      rw [List.getElem?_set_ne hk] at h2 h4
      rw [List.getElem?_set_self (by rw [er.len]; exact inl h1)] at h3
      cases h3
      exact fresh h2 h4
    · by_cases hk : i = k
      · subst hk
        rw [List.getElem?_set_ne hj] at h1 h3
        rw [List.getElem?_set_self (by rw [er.len]; exact inl h2)] at h4
        cases h4
        exact fresh h1 h3
      · rw [List.getElem?_set_ne hj] at h1 h3
        rw [List.getElem?_set_ne hk] at h2 h4
        exact er.apart j k lj lk v hjk h1 h2 h3 h4
  · by_cases hj : i = j
    · subst hj
      rw [List.getElem?_set_self (by rw [er.len]; exact inl h)] at h'
      cases h'
      exact f.st.fresh hn
    · rw [List.getElem?_set_ne hj] at h h'
      exact f.own j lj b h h'
theorem own_up {i : Nat} : ∀ Dd σ H, upS X.K X.mg fld E g0 H0 (sOwn i mo) Dd σ H → tAsg (upO X.K X.mg fld E mo) (gName i) Dd σ H := by
  rintro Dd σ H ⟨g, s, env, f, p⟩
  refine ⟨g, s, env, f.ok, f.er, ?_⟩
  unfold sOwn bnd at p
  cases q : mo env s with
  | bad => rw [q] at p; exact p
  | exc e s' => rw [q] at p; exact exc_up f p
  | ok l s' =>
    rw [q] at p
    intro g1 H1 t1 a xs hn hz hP hH hd
    exact p g1 H1 _ (f.setOwn t1 hn hz hP hH hd) t1.sub
theorem ds_own {i : Nat} {x : Str} {pos' : Pos} (hN : X.N.Nodup) (h : DO X fld E e mo) (hi : X.N[i]? = some x := by rfl) (hx : Loc X.env.scope x := by first | exact Or.inl rfl | exact Or.inr rfl) (hs : swapsWith e (some (.Name x pos')) pos.line X.env = pure false := by rfl)
    (hf : X.fn x = true ∨ X.env.scope.names.lookup x = some .local := by first | exact .inl rfl | exact .inr rfl | assumption) : DS X fld E g0 H0 (.Assign [.Name x pos'] e pos) (sOwn i mo) :=
  psImp (ps_set hN hi hx h hs hf) own_up
theorem ds_if {c : Expr} {la lb : List Stmt} (hc : DT X fld E c mc) (ha : DSs X fld E g0 H0 la a) (hb : DSs X fld E g0 H0 lb b) : DS X fld E g0 H0 (.If c la lb pos) (sIf mc a b) :=
  psImp (ps_if hc ha hb) fun Dd σ H ⟨g, s, env, f, p⟩ => by
    refine ⟨g, s, env, f.ok, f.er, ?_⟩
    unfold sIf bnd at p
    cases q : mc env s with
    | bad => rw [q] at p; exact p
    | exc e s' => rw [q] at p; exact exc_up f p
    | ok c s' =>
      rw [q] at p
      intro g1 H1 t1
      dsimp only at p
      cases c with
      | true => rw [if_pos rfl] at p ⊢; exact ⟨g1, s', env, f.step t1, p.z t1.sub⟩
      | false => rw [if_neg (by decide)] at p ⊢; exact ⟨g1, s', env, f.step t1, p.z t1.sub⟩
theorem FR.frz {K : PySem.W.Frag} {mg : Str → Option Value} {g : G} {s : S} {H : Hp} {σ : St} {env : DEnv} {i : Nat} {l0 : List RV} {l : List D} (f : FR K mg g0 H0 g s H σ env) (h : env[i]? = some (some (.own l0))) (hl0 : datL l0 = some l) :
    ∃ g', FR K mg g0 H0 g' s H σ (env.set i (some (.rv (.d (.list l))))) ∧ Sub g g' := by
  obtain ⟨v, hv, a, xs, rfl, hz, hP, hH, hd0⟩ := f.er.at_ i _ h
  have hd := datL_rep hl0 hd0
  obtain ⟨ok2, zz⟩ := Step.freeze f.ok hH hz hP
  have hi : i < env.length := (List.getElem?_eq_some_iff.mp h).1
  have hn := f.own i l0 a h hv
  refine ⟨⟨upd g.Z a (.lst xs), g.P⟩, ⟨⟨ok2, fun b o e => zz b o (f.st.z b o e), fun b o e n hp => ?_, f.st.p, f.st.keep⟩, ⟨by simpa using f.er.len, fun j x e => ?_, fun j k lj lk v hjk h1 h2 h3 h4 => ?_⟩, fun j lj b h1 h2 => ?_⟩, ⟨zz, [], by simp⟩⟩
  · show upd g.Z a _ b = none
    rw [upd_ne (ne_of_none e hn)]; exact f.st.zold b o e n hp
  · by_cases hj : i = j
    · subst hj
      rw [List.getElem?_set_self hi] at e; cases e
      exact ⟨.ref a, hv, .lst (.inl upd_same) (RpAll.mono zz l xs hd)⟩
    · rw [List.getElem?_set_ne hj] at e
      obtain ⟨v, e1, e2⟩ := f.er.at_ j x e
      refine ⟨v, e1, ?_⟩
      cases x with
      | rv r =>
        cases r with
        | d x => exact Rp.mono zz x v e2
        | box n => exact e2
        | fn n => exact e2
      | lt l2 =>
        obtain ⟨b, ys, rfl, q1, q2⟩ := e2
        exact ⟨b, ys, rfl, zz _ _ q1, RpAll.mono zz l2 ys q2⟩
      | own l2 =>
        obtain ⟨b, ys, rfl, q1, q2, q3, q4⟩ := e2
        refine ⟨b, ys, rfl, ?_, q2, q3, Paired.mapP q4 fun _ _ q => RepV.le zz ⟨[], by simp⟩ q⟩
        have nb : b ≠ a := fun q => by
          subst q
          exact f.er.apart i j l0 l2 _ hj h e hv e1
        show upd g.Z a _ b = none
        rw [upd_ne nb]; exact q1
  · have ne : ∀ {j lj}, (env.set i (some (.rv (.d (.list l)))))[j]? = some (some (.own lj)) → i ≠ j := fun {j lj} h q => by
      subst q
      rw [List.getElem?_set_self hi] at h; cases h
    rw [List.getElem?_set_ne (ne h1)] at h1
    rw [List.getElem?_set_ne (ne h2)] at h2
    exact f.er.apart j k lj lk v hjk h1 h2 h3 h4
  · by_cases hj : i = j
    · subst hj; rw [List.getElem?_set_self hi] at h1; cases h1
    · rw [List.getElem?_set_ne hj] at h1
      exact f.own j lj b h1 h2
theorem up_frz (i : Nat) : ∀ Dd σ H, upS X.K X.mg fld E g0 H0 (sFrz i a) Dd σ H → upS X.K X.mg fld E g0 H0 a Dd σ H := by
  rintro Dd σ H ⟨g, s, env, f, p⟩
  unfold sFrz at p
  cases q : env[i]? with
  | none => rw [q] at p; exact ⟨g, s, env, f, p⟩
  | some o =>
    cases o with
    | none => rw [q] at p; exact ⟨g, s, env, f, p⟩
    | some x =>
      cases x with
      | rv r => rw [q] at p; exact ⟨g, s, env, f, p⟩
      | lt r => rw [q] at p; exact ⟨g, s, env, f, p⟩
      | own l =>
        rw [q] at p
        dsimp only at p
        cases q2 : datL l with
        | none => rw [q2] at p; exact p.elim
        | some dl =>
          rw [q2] at p
          obtain ⟨g', f', z'⟩ := f.frz q q2
          exact ⟨g', s, _, f', p.z z'⟩
theorem ds_frz (i : Nat) (h : DS X fld E g0 H0 st a) : DS X fld E g0 H0 st (sFrz i a) := psImp h (up_frz i)
theorem dss_frz (i : Nat) (h : DSs X fld E g0 H0 sts a) : DSs X fld E g0 H0 sts (sFrz i a) := pssImp h (up_frz i)
end

/-! ### for -/
section
variable {X : Cx} {fld : Str → Str} {E : XK} {g0 : G} {H0 : Hp} {pos : Pos} {iter tg : Expr} {body : List Stmt} {it : DEnv → DM (List D)} {t : TgF} {b : DEnv → DM Fl} {L : List Nat}
theorem ds_for (hp : PassesOwn (model X.prog X.w) X.A X.env X.xe) (hc : X.calm = true) (hi : DI X fld E tg iter it) (ht : DG X fld E L tg t) (hb : DSs X fld E g0 H0 body b) (hs : ∀ x, foldedSetIterable iter X.env x = pure x := by intro _; rfl) :
    DS X fld E g0 H0 (.For tg iter body [] pos) (sFor it t b) :=
  psImp (ps_for hp hc hi ht hb hs) fun Dd σ H ⟨g, s, env, f, p⟩ => by
    refine ⟨g, s, env, f.ok, f.er, ?_⟩
    unfold sFor bnd at p
    cases q : it env s with
    | bad => rw [q] at p; exact p
    | exc e s' => rw [q] at p; exact exc_up f p
    | ok l s1 =>
      rw [q] at p
      intro g1 H1 t1 J hJ
      dsimp only at p
      refine ⟨fun i m σ' H' => m = l.length - i ∧ i ≤ l.length ∧ ∃ g' s' env', FR X.K X.mg g0 H0 g' s' H' σ' env' ∧ Sub g1 g' ∧ PostS X.K X.mg fld E g0 H0 g1 (forL t b (l.drop i) env' s') Dd,
        ⟨l.length, by simp, Nat.zero_le _, g1, s1, env, f.step t1, .refl, by simpa using p.z t1.sub⟩, ?_⟩
      rintro i m σ' H' ⟨rfl, hil, g', s', env', f', hz, p'⟩
      obtain ⟨hstop, hgo⟩ := hJ g' s' H' f'.ok hz.1 i
      by_cases hlt : i < l.length
      · have hd : l.drop i = l[i] :: l.drop (i + 1) := List.drop_eq_getElem_cons hlt
        obtain ⟨go, yld⟩ := hgo l[i] (List.getElem?_eq_getElem hlt)
        refine .inr ⟨go, fun σ2 H2 => ∃ g2 s2 env2, FR X.K X.mg g0 H0 g2 s2 H2 σ2 env2 ∧ Sub g1 g2 ∧ PostS X.K X.mg fld E g0 H0 g1 (forL t b (l.drop (i + 1)) env2 s2) Dd, fun σ2 H2 ⟨g2, s2, env2, f2, hz2, p2⟩ => ⟨l.length - (i + 1), by omega, rfl, hlt, g2, s2, env2, f2, hz2, p2⟩, fun x H2 y => ?_⟩
        obtain ⟨g2, t2, dx⟩ := yld x H2 y
        have f2 := f'.step t2
        rw [hd] at p'
        unfold forL at p'
        refine ⟨g2, s', env', .d l[i], t2.ok, f2.er, dx, ?_⟩
        cases q2 : t (.d l[i]) env' s' with
        | bad => rw [bnd_bad q2] at p'; exact p'
        | exc e s'' => rw [bnd_exc q2] at p'; exact exc_up f2 p'
        | ok env3 s3 =>
          rw [bnd_ok q2] at p'
          intro g3 H3 t3 σ3 er3 k3
          have f3 := f2.kept t3 er3 k3
          have z3 : Sub g1 g3 := Sub.trans hz (Sub.trans t2.sub t3.sub)
          refine ⟨g3, s3, env3, f3, ?_⟩
          cases q3 : b env3 s3 with
          | bad => rw [bnd_bad q3] at p'; exact p'
          | exc e s'' => rw [bnd_exc q3] at p'; exact p'
          | ok fl s4 =>
            rw [bnd_ok q3] at p'
            cases fl with
            | nx e => exact fun g4 H4 σ4 f4 z4 => ⟨g4, s4, e, f4, z3.trans z4, p'⟩
            | ct e => exact fun g4 H4 σ4 f4 z4 => ⟨g4, s4, e, f4, z3.trans z4, p'⟩
            | bk e => exact fun g4 H4 σ4 f4 z4 => p' g4 H4 σ4 f4 (z3.trans z4)
            | rt r => exact fun g4 H4 v t rv q => p' g4 H4 v t rv (z3.trans q)
      · have e : i = l.length := by omega
        subst e
        rw [List.drop_length] at p'
        exact .inl ⟨hstop (Nat.le_refl _), p' g' H' σ' f' hz⟩
end

/-! ### while -/
section
variable {X : Cx} {fld : Str → Str} {E : XK} {g0 : G} {H0 : Hp} {pos : Pos} {c : Expr} {body : List Stmt} {mc : DEnv → DM Bool} {b : DEnv → DM Fl}
def sWhile (n : Nat) (c : DEnv → DM Bool) (body : DEnv → DM Fl) : DEnv → DM Fl := whileN c body n
theorem ds_while (n : Nat) (hp : PassesOwn (model X.prog X.w) X.A X.env X.xe) (hc : DT X fld E c mc) (hb : DSs X fld E g0 H0 body b) : DS X fld E g0 H0 (.While c body [] pos) (sWhile n mc b) :=
  psImp (ps_while hp hc hb) fun Dd σ H ⟨g, s, env, f, p⟩ => by
    refine ⟨fun m σ' H' => ∃ g' s' env', FR X.K X.mg g0 H0 g' s' H' σ' env' ∧ Sub g g' ∧ PostS X.K X.mg fld E g0 H0 g (whileN mc b m env' s') Dd, ⟨n, g, s, env, f, .refl, p⟩, ?_⟩
    rintro m σ' H' ⟨g', s', env', f', hz, p'⟩
    cases m with
    | zero => exact p'.elim
    | succ m =>
      refine ⟨g', s', env', f'.ok, f'.er, ?_⟩
      unfold whileN at p'
      cases q : mc env' s' with
      | bad => rw [bnd_bad q] at p'; exact p'
      | exc e s'' => rw [bnd_exc q] at p'; exact exc_up f' p'
      | ok c s1 =>
        rw [bnd_ok q] at p'
        intro g1 H1 t1
        have f1 := f'.step t1
        have z1 : Sub g g1 := hz.trans t1.sub
        cases c with
        | false =>
          rw [if_neg (show ¬ false = true by decide)] at p'
          refine iteF ?_
          exact p' g1 H1 σ' f1 z1
        | true =>
          rw [if_pos rfl] at p'
          refine iteT ⟨fun σ2 H2 => ∃ g4 s4 env4, FR X.K X.mg g0 H0 g4 s4 H2 σ2 env4 ∧ Sub g g4 ∧ PostS X.K X.mg fld E g0 H0 g (whileN mc b m env4 s4) Dd, fun σ2 H2 h => ⟨m, Nat.lt_succ_self _, h⟩, ?_⟩
          refine ⟨g1, s1, env', f1, ?_⟩
          cases q3 : b env' s1 with
          | bad => rw [bnd_bad q3] at p'; exact p'
          | exc e s'' => rw [bnd_exc q3] at p'; exact p'
          | ok fl s4 =>
            rw [bnd_ok q3] at p'
            cases fl with
            | nx e => exact fun g4 H4 σ4 f4 z4 => ⟨g4, s4, e, f4, z1.trans z4, p'⟩
            | ct e => exact fun g4 H4 σ4 f4 z4 => ⟨g4, s4, e, f4, z1.trans z4, p'⟩
            | bk e => exact fun g4 H4 σ4 f4 z4 => p' g4 H4 σ4 f4 (z1.trans z4)
            | rt r => exact fun g4 H4 v t rv q => p' g4 H4 v t rv (z1.trans q)
end
end DL
namespace DL
open PySem PySem.Spec L2
open PyProof.Rows hiding St

/-! ### defs: a promise that knows that nothing is being shown -/
structure FnG (P : Program) (w : World) (K : PySem.W.Frag) (mg : Str → Option Value) (base : Heap) (CX : CXT) (k : Nat) (f : Addr) (fd : FuncData) (ps : List Str) (sp : Sp) : Prop where
  run : ∀ (A : Around) (outer : List Env) (s : Shared) (H : Hp) (args : Args) (us : List Value) (vs : List V) (Q : VK) (E : XK), Room k A → A.guards = some [] → Env0 P w K mg base A outer s H → BindsTo s fd args (ps.zip us) → Vals vs us → vs.length = ps.length → sp vs H Q E →
    codeAny (model P w) A (.call (.ref f) args) (CR CX outer P w H s Q E) s
theorem FnG.mono {P : Program} {w : World} {K : PySem.W.Frag} {mg : Str → Option Value} {base : Heap} {CX : CXT} {j k : Nat} {f : Addr} {fd : FuncData} {ps : List Str} {sp : Sp} (F : FnG P w K mg base CX j f fd ps sp) (h : j ≤ k) :
    FnG P w K mg base CX k f fd ps sp := ⟨fun A outer s H args us vs Q E hr => F.run A outer s H args us vs Q E (hr.mono h)⟩
theorem guards_deeper {A : Around} {env : Env} (h : A.guards = some []) : (A.deeper env).guards = some [] := h

theorem fnG_of {CX : CXT} {P : Program} {w : World} {K : PySem.W.Frag} {mg : Str → Option Value} {base : Heap} {k : Nat} {f : Addr} {name qual : Str} {params : Arguments} {body : List Stmt} {scope : Scope} {dV kV doc pm cdv ct oc : Value} {an od : Option Addr}
    {osl : Array (Option Value)} {N ps : List Str} {sp : Sp} (lk : K.lookup f = some ⟨oc, od, .func (PySem.W.fnOf name qual params body scope dV kV doc pm an cdv ct), osl⟩) (hcd : PySem.W.codeIn K cdv qual = true) (S : FnScope N ps scope)
    (hbody : ∀ (A : Around) (outer : List Env) (s : Shared) (H : Hp) (vs : List V) (Q : VK) (E : XK), Room k (A.deeper (envOfC qual scope s.heap.objs.size f cdv)) → A.guards = some [] → vs.length = ps.length → sp vs H Q E →
      ∃ t, PSs (cxOf CX P w K mg base N qual scope f cdv A outer s H E) body t ∧ t { nx := fun _ H' => Q .non H', rt := Q } (start N vs) H) :
    FnG P w K mg base CX (k + 1) f (PySem.W.fnOf name qual params body scope dV kV doc pm an cdv ct) ps sp := by
  refine ⟨fun A outer s H args us vs Q E hr hgd e0 hb r hl hsp => ?_⟩
  have KX : K.In s.heap := e0.mod.kin.keeps fun b o e => (e0.bs b o e).1
  have lim : s.heap.NoLimit := e0.mod.nolimit.keeps fun b o e => (e0.bs b o e).1
  have hkind : ∀ y ∈ ps.zip us, scope.names.lookup y.1 = some .local ∨ (scope.names.lookup y.1 = some .cell ∧ ((cellsFrom (s.heap.objs.size + 1) scope.names []).lookup y.1).isSome = true) := fun ⟨n, v⟩ hy => by
    rcases S.par n (List.of_mem_zip hy).1 with q | q
    · exact .inl q
    · exact .inr ⟨q, PySem.W.cellsFrom_some _ _ _ (.inl q)⟩
  refine codeAny_call_function hr.depth (KX _ _ lk) rfl S.co S.gen rfl (PySem.W.codeRec_of KX hcd) (hb _ _ _ _ ?_)
  refine wpAny_newFunctionEnv_cells S.kind hkind fun env he s1 x => ?_
  subst he
  refine ⟨lim.keeps x.toInCall.keep, codeAny_func ?_⟩
  obtain ⟨t, ht, hq⟩ := hbody A outer s H vs Q E (hr.deeper _) hgd hl hsp
  have I : Inv (cxOf CX P w K mg base N qual scope f cdv A outer s H E) [] (start N vs) H s1 := inv_start S hr.hd e0 hl r x
  refine wpAny_mono (ht.run [] s1 (start N vs) H _ I hq) (fun fl s' hs => ?_) fun e s' hs => hs
  have fin : ∀ {σ' : St} {H' : Hp} {v : V} {u : Value}, Inv (cxOf CX P w K mg base N qual scope f cdv A outer s H E) [] σ' H' s' → RelV v u → Q v H' → CE outer P w H s Q u s' :=
    fun {σ' H' v u} J rv q => ⟨v, H', J.os, J.bare, J.base, J.hok, rv, q⟩
  cases fl with
  | ret u =>
    obtain ⟨v, σ', H', J, rv, q⟩ := hs
    exact fin J rv q
  | next =>
    obtain ⟨σ', H', J, q⟩ := hs
    exact fin (v := V.non) (u := Value.none) J rfl q
  | brk =>
    obtain ⟨_, _, _, q⟩ := hs
    exact False.elim q
  | cont =>
    obtain ⟨_, _, _, q⟩ := hs
    exact False.elim q

/-! ### how arguments bind -/
def pick {α : Type} (idx : List Nat) (l : List α) : List α := idx.filterMap (l[·]?)
theorem pick_rel {α β : Type} {R : α → β → Prop} {l : List α} {m : List β} (h : Paired R l m) (idx : List Nat) : Paired R (pick idx l) (pick idx m) := by
  have get : ∀ {l : List α} {m : List β}, Paired R l m → ∀ (i : Nat), (∀ x, l[i]? = some x → ∃ y, m[i]? = some y ∧ R x y) ∧ (l[i]? = none → m[i]? = none) := by
    intro l m h
    induction h with
    | nil => intro i; exact ⟨fun x e => by simp at e, fun _ => by simp⟩
    | @cons a b l m r _ ih =>
      intro i
      cases i with
      | zero => exact ⟨fun x e => by simp at e; subst e; exact ⟨b, by simp, r⟩, fun e => by simp at e⟩
      | succ i => simpa using ih i
  induction idx with
  | nil => exact .nil
  | cons i idx ih =>
    obtain ⟨h1, h2⟩ := get h i
    unfold pick at ih ⊢
    cases e : l[i]? with
    | none =>
      rw [List.filterMap_cons, List.filterMap_cons, e, h2 e]
      exact ih
    | some x =>
      obtain ⟨y, ey, r⟩ := h1 x e
      rw [List.filterMap_cons, List.filterMap_cons, e, ey]
      exact .cons r ih
/-- n positional values, the keywords ks, the defaults ds: the parameters' values are picked out of these by idx -/
structure KB (K : PySem.W.Frag) (fd : FuncData) (ps : List Str) (n : Nat) (ks : List Str) (ds : List Value) (idx : List Nat) : Prop where
  to : ∀ (s : Shared) (us ws : List Value), K.In s.heap → us.length = n → ws.length = ks.length → BindsTo s fd ⟨us, ks.zip ws⟩ (ps.zip (pick idx (us ++ (ws ++ ds))))

section
variable {X : Cx} {CX : CXT} {k n : Nat} {f C : Addr} {fd : FuncData} {ps ks : List Str} {sp : Sp} {dvs : List V} {ds : List Value} {idx : List Nat} {E : XK} {x m : Str} {p pos apos : Pos} {e o : Expr} {es : List Expr} {kws : List Keyword} {ta : TE} {t tk : TA}
def tCallG (n m : Nat) (ps : List Str) (idx : List Nat) (dvs : List V) (sp : Sp) (E : XK) (t tk : TA) : TE := fun σ H Q => t σ H fun vs H1 => tk σ H1 fun zs H2 => vs.length = n ∧ zs.length = m ∧ (pick idx (vs ++ (zs ++ dvs))).length = ps.length ∧ sp (pick idx (vs ++ (zs ++ dvs))) H2 Q E
theorem run_fnG {pins : List (Addr × Obj)} {σ : St} {H : Hp} {s : Shared} {Q : VK} {us ws : List Value} {vs zs : List V} (F : FnG X.prog X.w X.K X.mg X.base CX k f fd ps sp) (hr : Room k X.A) (hgd : X.A.guards = some []) (hb : KB X.K fd ps n ks ds idx) (hd : Vals dvs ds) (hx : Passes CX X E)
    (I : Inv X pins σ H s) (r : Vals vs us) (rz : Vals zs ws) (h1 : vs.length = n) (h2 : zs.length = ks.length) (h3 : (pick idx (vs ++ (zs ++ dvs))).length = ps.length) (h : sp (pick idx (vs ++ (zs ++ dvs))) H Q E) :
    wpAny (model X.prog X.w) X.A (call (.ref f) us (ks.zip ws)) (EP X pins σ Q) X.xe s := by
  have r2 : Vals (pick idx (vs ++ (zs ++ dvs))) (pick idx (us ++ (ws ++ ds))) := pick_rel (r.append (rz.append hd)) idx
  refine wpAny_call (codeAny_mono (F.run X.A X.stack s H ⟨us, ks.zip ws⟩ _ _ Q E hr hgd I.env0 (hb.to s us ws I.kIn (r.length.symm.trans h1) (rz.length.symm.trans h2)) r2 h3 h) fun r s' hq => ?_)
  cases r with
  | error e => exact hx pins σ H s e s' I hq
  | ok fl =>
    cases fl with
    | ret u => exact I.after hq
    | next => exact False.elim hq
    | brk => exact False.elim hq
    | cont => exact False.elim hq
/-- f(e, ..) -/
theorem pe_callG (F : FnG X.prog X.w X.K X.mg X.base CX k f fd ps sp) (hr : Room k X.A) (hgd : X.A.guards = some []) (hg : Gl X x) (hm : X.mg x = some (.ref f)) (hk : PySem.W.keepIn X.K (.ref f) = true) (hb : KB X.K fd ps n [] ds idx) (hd : Vals dvs ds) (hx : Passes CX X E)
    (ha : PA X (e :: es) t) (hdb : (x == ("__debug__" : Str)) = false := by decide) (he : starEach (e :: es) X.env = (false, eval e X.env) :: starEach es X.env := by rfl) (hpl : (backTo pos (starEach es X.env)).any (·.1) = false := by rfl) :
    PE X (.Call (.Name x p) (e :: es) [] pos) (tCallG n 0 ps idx dvs sp E t tNil) := by
  refine ⟨fun pins s σ H Q I h => ?_⟩
  refine wpAny_Call_Name_kw (ld_glob I hg hm ?_ hdb)
  refine PySem.W.callWith_K (h₀ := X.base) I.ok.mod.kin hk (thn (ha.run pos pins s σ H _ I h) fun us s1 ⟨vs, H1, I1, r, h1, h2, h3, q⟩ => ⟨I1.kIn, ?_⟩) he hpl
  exact run_fnG (ks := []) (ws := []) F hr hgd hb hd hx I1 r .nil h1 h2 h3 q
/-- f() -/
theorem pe_callG0 (F : FnG X.prog X.w X.K X.mg X.base CX k f fd ps sp) (hr : Room k X.A) (hgd : X.A.guards = some []) (hg : Gl X x) (hm : X.mg x = some (.ref f)) (hk : PySem.W.keepIn X.K (.ref f) = true) (hb : KB X.K fd ps 0 [] ds idx) (hd : Vals dvs ds) (hx : Passes CX X E)
    (hdb : (x == ("__debug__" : Str)) = false := by decide) : PE X (.Call (.Name x p) [] [] pos) (tCallG 0 0 ps idx dvs sp E tNil tNil) := by
  refine ⟨fun pins s σ H Q I h => ?_⟩
  refine wpAny_Call_Name_kw (ld_glob I hg hm ?_ hdb)
  obtain ⟨h1, h2, h3, q⟩ := h
  exact PySem.W.callWith_K0 I.kIn hk (run_fnG (ks := []) (us := []) (ws := []) F hr hgd hb hd hx I .nil .nil h1 h2 h3 q)
/-- f(e, .., k = v, ..) -/
theorem pe_callGK (F : FnG X.prog X.w X.K X.mg X.base CX k f fd ps sp) (hr : Room k X.A) (hgd : X.A.guards = some []) (hg : Gl X x) (hm : X.mg x = some (.ref f)) (hk : PySem.W.keepIn X.K (.ref f) = true) (hb : KB X.K fd ps n ks ds idx) (hd : Vals dvs ds) (hx : Passes CX X E)
    (ha : PA X (e :: es) t) (hkw : PK X kws tk) (hall : (backToKw pos (keywordEach kws X.env)).all (·.1.isSome) = true := by rfl) (hks : (backToKw pos (keywordEach kws X.env)).filterMap (·.1) = ks := by rfl)
    (hdb : (x == ("__debug__" : Str)) = false := by decide) (he : starEach (e :: es) X.env = (false, eval e X.env) :: starEach es X.env := by rfl)
    (hpl : ((backTo pos (starEach (e :: es) X.env)).any (·.1) || (backToKw pos (keywordEach kws X.env)).any (·.1.isNone)) = false := by rfl) :
    PE X (.Call (.Name x p) (e :: es) kws pos) (tCallG n ks.length ps idx dvs sp E t tk) := by
  refine ⟨fun pins s σ H Q I h => ?_⟩
  refine wpAny_Call_Name_kw (ld_glob I hg hm ?_ hdb)
  refine PySem.W.callWith_KW (h₀ := X.base) I.ok.mod.kin hk hall (thn (ha.run pos pins s σ H _ I h) fun us s1 ⟨vs, H1, I1, r, q⟩ => ?_) hpl he
  refine thn (hkw.run pos pins s1 σ H1 _ I1 q) fun ws s2 ⟨zs, H2, I2, rz, h1, h2, h3, q2⟩ => ⟨I2.kIn, ?_⟩
  rw [hks]
  exact run_fnG F hr hgd hb hd hx I2 r rz h1 h2 h3 q2
/-- f(k = v, ..) -/
theorem pe_callGK0 (F : FnG X.prog X.w X.K X.mg X.base CX k f fd ps sp) (hr : Room k X.A) (hgd : X.A.guards = some []) (hg : Gl X x) (hm : X.mg x = some (.ref f)) (hk : PySem.W.keepIn X.K (.ref f) = true) (hb : KB X.K fd ps 0 ks ds idx) (hd : Vals dvs ds) (hx : Passes CX X E)
    (hkw : PK X kws tk) (hall : (backToKw pos (keywordEach kws X.env)).all (·.1.isSome) = true := by rfl) (hks : (backToKw pos (keywordEach kws X.env)).filterMap (·.1) = ks := by rfl)
    (hdb : (x == ("__debug__" : Str)) = false := by decide)
    (hpl : ((backTo pos (starEach [] X.env)).any (·.1) || (backToKw pos (keywordEach kws X.env)).any (·.1.isNone)) = false := by rfl) :
    PE X (.Call (.Name x p) [] kws pos) (tCallG 0 ks.length ps idx dvs sp E tNil tk) := by
  refine ⟨fun pins s σ H Q I h => ?_⟩
  refine wpAny_Call_Name_kw (ld_glob I hg hm ?_ hdb)
  have h : tk σ H _ := h
  refine PySem.W.callWith_KW0 (h₀ := X.base) I.ok.mod.kin hk hall (thn (hkw.run pos pins s σ H _ I h) fun ws s2 ⟨zs, H2, I2, rz, h1, h2, h3, q2⟩ => ⟨I2.kIn, ?_⟩) hpl
  rw [hks]
  exact run_fnG (us := []) F hr hgd hb hd hx I2 .nil rz h1 h2 h3 q2
end

/-! ### a def's mirror -/
def toSp (K : PySem.W.Frag) (mg : Str → Option Value) (fld : Str → Str) (m : List RV → DM RV) : Sp := fun vs H Q E => ∃ g s rs, GOk K mg g s H ∧ Paired (RepV K mg g) vs rs ∧ Post K mg fld E g H (m rs s) fun g' _ H' r => ∀ v, RepV K mg g' v r → Q v H'
abbrev DFn (P : Program) (w : World) (K : PySem.W.Frag) (mg : Str → Option Value) (base : Heap) (fld : Str → Str) (k : Nat) (f : Addr) (fd : FuncData) (ps : List Str) (m : List RV → DM RV) : Prop :=
  FnG P w K mg base (L2.CX P w) k f fd ps (toSp K mg fld m)
/-- the parameters' slots, then the others -/
def env0 (N : Nat) (rs : List RV) : DEnv := rs.map (fun r => some (.rv r)) ++ List.replicate (N - rs.length) none
def mFun (N : Nat) (body : DEnv → DM Fl) : List RV → DM RV := fun rs => bnd (body (env0 N rs)) fun f => match f with
  | .nx _ => ret (.d .none)
  | .rt r => ret r
  | _ => bad
theorem paired_length {α β : Type} {R : α → β → Prop} {l : List α} {m : List β} (h : Paired R l m) : l.length = m.length := Paired.length h
theorem er_start {K : PySem.W.Frag} {mg : Str → Option Value} {g : G} {H : Hp} {vs : List V} {rs : List RV} {N : List Str} (h : Paired (RepV K mg g) vs rs) : ER K mg g H (start N vs) (env0 N.length rs) := by
  have hl := paired_length h
  have no : ∀ (i : Nat) (l : List RV), (env0 N.length rs)[i]? ≠ some (some (.own l)) := fun i l e => by
    unfold env0 at e
    by_cases q : i < rs.length
    · rw [List.getElem?_append_left (by simpa using q), List.getElem?_map] at e
      cases e2 : rs[i]? with
      | none => rw [e2] at e; cases e
      | some r => rw [e2] at e; cases e
    · rw [List.getElem?_append_right (by simpa using Nat.le_of_not_lt q), List.getElem?_replicate] at e
      split at e <;> cases e
  refine ⟨by simp [L2.start, env0, hl], fun i e h1 => ?_, fun i j li lj v _ h1 _ _ _ => no i li h1⟩
  unfold env0 at h1
  by_cases q : i < rs.length
  · rw [List.getElem?_append_left (by simpa using q), List.getElem?_map] at h1
    cases e2 : rs[i]? with
    | none => rw [e2] at h1; cases h1
    | some r =>
      rw [e2] at h1
      cases h1
      have get : ∀ {vs : List V} {rs : List RV}, Paired (RepV K mg g) vs rs → ∀ (i : Nat) (r : RV), rs[i]? = some r → ∃ v, vs[i]? = some v ∧ RepV K mg g v r := by
        intro vs rs h
        induction h with
        | nil => intro i r e; simp at e
        | @cons a b l m r0 _ ih =>
          intro i r e
          cases i with
          | zero => simp at e; subst e; exact ⟨a, by simp, r0⟩
          | succ i => simpa using ih i r (by simpa using e)
      obtain ⟨v, ev, rv⟩ := get h i r e2
      refine ⟨v, ?_, rv⟩
      unfold L2.start
      rw [List.getElem?_append_left (by rw [List.length_map, hl]; exact q), List.getElem?_map, ev]
      rfl
  · rw [List.getElem?_append_right (by simpa using Nat.le_of_not_lt q), List.getElem?_replicate] at h1
    split at h1 <;> cases h1
theorem DFn.mk {P : Program} {w : World} {K : PySem.W.Frag} {mg : Str → Option Value} {base : Heap} {fld : Str → Str} {k : Nat} {f : Addr} {name qual : Str} {params : Arguments} {body : List Stmt} {scope : Scope} {dV kV doc pm cdv ct oc : Value} {an od : Option Addr}
    {osl : Array (Option Value)} {N ps : List Str} {m : DEnv → DM Fl} (lk : K.lookup f = some ⟨oc, od, .func (PySem.W.fnOf name qual params body scope dV kV doc pm an cdv ct), osl⟩) (hcd : PySem.W.codeIn K cdv qual = true) (S : FnScope N ps scope)
    (hbody : ∀ (A : Around) (outer : List Env) (s : Shared) (g0 : G) (H : Hp) (E : XK), Room k (A.deeper (envOfC qual scope s.heap.objs.size f cdv)) → A.guards = some [] →
      Passes (L2.CX P w) (cxOf (L2.CX P w) P w K mg base N qual scope f cdv A outer s H E) E → Takes (cxOf (L2.CX P w) P w K mg base N qual scope f cdv A outer s H E) (fun cls d _ H => E cls d H) →
      PassesOwn (model P w) (A.deeper (envOfC qual scope s.heap.objs.size f cdv)) (envOfC qual scope s.heap.objs.size f cdv) (cxOf (L2.CX P w) P w K mg base N qual scope f cdv A outer s H E).xe →
      DSs (cxOf (L2.CX P w) P w K mg base N qual scope f cdv A outer s H E) fld E g0 H body m) :
    DFn P w K mg base fld (k + 1) f (PySem.W.fnOf name qual params body scope dV kV doc pm an cdv ct) ps (mFun N.length m) := by
  refine fnG_of lk hcd S fun A outer s H vs Q E hr hgd hl hsp => ?_
  obtain ⟨g, s0, rs, ok, rr, p⟩ := hsp
  have tk := takes_of (X := cxOf (L2.CX P w) P w K mg base N qual scope f cdv A outer s H E) (E := E) rfl rfl rfl rfl
  refine ⟨_, hbody A outer s g H E hr hgd (passes_call tk fun _ _ _ _ h => h) tk (passes_of rfl), g, s0, env0 N.length rs, ⟨.refl ok, er_start rr, fun i l a h => ?_⟩, ?_⟩
  · exact absurd h (by
      intro e
      unfold env0 at e
      by_cases q : i < rs.length
      · rw [List.getElem?_append_left (by simpa using q), List.getElem?_map] at e
        cases e2 : rs[i]? with
        | none => rw [e2] at e; cases e
        | some r => rw [e2] at e; cases e
      · rw [List.getElem?_append_right (by simpa using Nat.le_of_not_lt q), List.getElem?_replicate] at e
        split at e <;> cases e)
  · unfold mFun at p
    cases q : m (env0 N.length rs) s0 with
    | bad => rw [bnd_bad q] at p; exact p
    | exc e s1 => rw [bnd_exc q] at p; exact p
    | ok fl s1 =>
      rw [bnd_ok q] at p
      cases fl with
      | nx env => exact fun g' H' σ f' z => p g' H' f'.st .non .non
      | rt r => exact fun g' H' v t rv _ => p g' H' t v rv
      | bk env => exact p.elim
      | ct env => exact p.elim

/-! ### calls of mirrored defs -/
def eCall (n m : Nat) (np : Nat) (idx : List Nat) (dd : List D) (f : List RV → DM RV) (a ak : DEnv → DM (List RV)) : DEnv → DM RV := fun env => bnd (a env) fun xs => bnd (ak env) fun ys =>
  if xs.length = n ∧ ys.length = m ∧ (pick idx (xs ++ (ys ++ dd.map .d))).length = np then f (pick idx (xs ++ (ys ++ dd.map .d))) else bad
def upK := upA
abbrev DK (X : Cx) (fld : Str → Str) (E : XK) (kws : List Keyword) (m : DEnv → DM (List RV)) : Prop := PK X kws (upA X.K X.mg fld E m)
section
variable {X : Cx} {fld : Str → Str} {E : XK} {k n : Nat} {f : Addr} {fd : FuncData} {ps ks : List Str} {dvs : List V} {ds : List Value} {dd : List D} {idx : List Nat} {x : Str} {p pos kpos : Pos} {e : Expr} {es : List Expr} {kws : List Keyword} {m : List RV → DM RV} {a ak : DEnv → DM (List RV)} {ma : DEnv → DM RV} {nm : Option Str}
theorem pkImp {kws : List Keyword} {t t' : TA} (h : PK X kws t) (k : ∀ σ H Q, t' σ H Q → t σ H Q) : PK X kws t' := ⟨fun pos pins s σ H Q I q => h.run pos pins s σ H Q I (k σ H Q q)⟩
theorem dk_nil : DK X fld E [] aNil := pkImp pk_nil fun σ H Q ⟨g, s, env, ok, er, p⟩ => p g H (.refl ok) [] .nil
theorem dk_cons (h : DE X fld E e ma) (hr : DK X fld E kws ak) : DK X fld E (⟨nm, e, kpos⟩ :: kws) (aCons ma ak) :=
  pkImp (pk_cons h hr) fun σ H Q ⟨g, s, env, ok, er, p⟩ => by
    refine ⟨g, s, env, ok, er, p.bind.mono fun g1 s1 H1 v t1 p1 w rv => ?_⟩
    refine ⟨g1, s1, env, t1.ok, er.step t1, p1.bind.mono fun g2 s2 H2 xs t2 p2 vs rvs => ?_⟩
    exact p2 g2 H2 (.refl t2.ok) _ (.cons (RepV.step t2 rv) rvs)
theorem call_up {nk : Nat} (hdd : ∀ Z, RpAll X.K Z dvs dd) : ∀ σ H Q, upE X.K X.mg fld E (eCall n nk ps.length idx dd m a ak) σ H Q → tCallG n nk ps idx dvs (toSp X.K X.mg fld m) E (upA X.K X.mg fld E a) (upA X.K X.mg fld E ak) σ H Q := by
  rintro σ H Q ⟨g, s, env, ok, er, p⟩
  refine ⟨g, s, env, ok, er, p.bind.mono fun g1 s1 H1 xs t1 p1 vs rvs => ?_⟩
  refine ⟨g1, s1, env, t1.ok, er.step t1, p1.bind.mono fun g2 s2 H2 ys t2 p2 zs rzs => ?_⟩
  have all : Paired (RepV X.K X.mg g2) (vs ++ (zs ++ dvs)) (xs ++ (ys ++ dd.map .d)) := by
    have hdp : ∀ {l : List D} {us : List V}, RpAll X.K g2.Z us l → Paired (RepV X.K X.mg g2) us (l.map .d) := by
      intro l
      induction l with
      | nil => intro us h; cases h; exact .nil
      | cons d l ih => intro us h; cases h with | cons h1 h2 => exact .cons h1 (ih h2)
    have app : ∀ {l1 l2 : List V} {m1 m2 : List RV}, Paired (RepV X.K X.mg g2) l1 m1 → Paired (RepV X.K X.mg g2) l2 m2 → Paired (RepV X.K X.mg g2) (l1 ++ l2) (m1 ++ m2) := by
      intro l1 l2 m1 m2 h1 h2
      induction h1 with
      | nil => exact h2
      | cons r _ ih => exact .cons r ih
    exact app (Paired.steps t2 rvs) (app rzs (hdp (hdd _)))
  have pk := pick_rel all idx
  by_cases q : xs.length = n ∧ ys.length = nk ∧ (pick idx (xs ++ (ys ++ dd.map .d))).length = ps.length
  · rw [if_pos q] at p2
    exact ⟨(paired_length rvs).trans q.1, (paired_length rzs).trans q.2.1, (paired_length pk).trans q.2.2, g2, s2, _, t2.ok, pk, p2⟩
  · rw [if_neg q] at p2
    exact p2.elim
theorem up_nil {Q} {σ : St} {H : Hp} (h : tNil σ H Q) : ∀ g s env, GOk X.K X.mg g s H → ER X.K X.mg g H σ env → upA X.K X.mg fld E aNil σ H Q → True := fun _ _ _ _ _ _ => trivial
theorem callG_nil {nk : Nat} {sp : Sp} {t : TA} {σ : St} {H : Hp} {Q : VK} (h : tCallG n nk ps idx dvs sp E t (upA X.K X.mg fld E aNil) σ H Q) (mono : ∀ σ H Q Q', (∀ vs H', Q vs H' → Q' vs H') → t σ H Q → t σ H Q') : tCallG n nk ps idx dvs sp E t tNil σ H Q := by
  refine mono _ _ _ _ (fun vs H1 hq => ?_) h
  obtain ⟨g, s, env, ok, er, p⟩ := hq
  exact p g H1 (.refl ok) [] .nil
theorem upA_mono {m : DEnv → DM (List RV)} : ∀ σ H (Q Q' : List V → Hp → Prop), (∀ vs H', Q vs H' → Q' vs H') → upA X.K X.mg fld E m σ H Q → upA X.K X.mg fld E m σ H Q' := by
  rintro σ H Q Q' hQ ⟨g, s, env, ok, er, p⟩
  exact ⟨g, s, env, ok, er, p.mono fun g1 s1 H1 xs t1 p1 vs rvs => hQ _ _ (p1 vs rvs)⟩
theorem de_call (F : DFn X.prog X.w X.K X.mg X.base fld k f fd ps m) (hr : Room k X.A) (hgd : X.A.guards = some []) (hg : Gl X x) (hm : X.mg x = some (.ref f)) (hk : PySem.W.keepIn X.K (.ref f) = true) (hb : KB X.K fd ps n [] ds idx) (hd : Vals dvs ds) (hdd : ∀ Z, RpAll X.K Z dvs dd) (hx : Passes (L2.CX X.prog X.w) X E)
    (ha : DA X fld E (e :: es) a) (hdb : (x == ("__debug__" : Str)) = false := by decide) (he : starEach (e :: es) X.env = (false, eval e X.env) :: starEach es X.env := by rfl) (hpl : (backTo pos (starEach es X.env)).any (·.1) = false := by rfl) :
    DE X fld E (.Call (.Name x p) (e :: es) [] pos) (eCall n 0 ps.length idx dd m a aNil) :=
  peImp (pe_callG F hr hgd hg hm hk hb hd hx ha hdb he hpl) fun σ H Q h => callG_nil (call_up (ak := aNil) hdd σ H Q h) upA_mono
theorem de_call0 (F : DFn X.prog X.w X.K X.mg X.base fld k f fd ps m) (hr : Room k X.A) (hgd : X.A.guards = some []) (hg : Gl X x) (hm : X.mg x = some (.ref f)) (hk : PySem.W.keepIn X.K (.ref f) = true) (hb : KB X.K fd ps 0 [] ds idx) (hd : Vals dvs ds) (hdd : ∀ Z, RpAll X.K Z dvs dd) (hx : Passes (L2.CX X.prog X.w) X E)
    (hdb : (x == ("__debug__" : Str)) = false := by decide) : DE X fld E (.Call (.Name x p) [] [] pos) (eCall 0 0 ps.length idx dd m aNil aNil) :=
  peImp (pe_callG0 F hr hgd hg hm hk hb hd hx hdb) fun σ H Q h => by
    obtain ⟨g, s, env, ok, er, p⟩ := callG_nil (call_up (a := aNil) (ak := aNil) hdd σ H Q h) upA_mono
    exact p g H (.refl ok) [] .nil
theorem de_callK (F : DFn X.prog X.w X.K X.mg X.base fld k f fd ps m) (hr : Room k X.A) (hgd : X.A.guards = some []) (hg : Gl X x) (hm : X.mg x = some (.ref f)) (hk : PySem.W.keepIn X.K (.ref f) = true) (hb : KB X.K fd ps n ks ds idx) (hd : Vals dvs ds) (hdd : ∀ Z, RpAll X.K Z dvs dd) (hx : Passes (L2.CX X.prog X.w) X E)
    (ha : DA X fld E (e :: es) a) (hkw : DK X fld E kws ak) (hall : (backToKw pos (keywordEach kws X.env)).all (·.1.isSome) = true := by rfl) (hks : (backToKw pos (keywordEach kws X.env)).filterMap (·.1) = ks := by rfl)
    (hdb : (x == ("__debug__" : Str)) = false := by decide) (he : starEach (e :: es) X.env = (false, eval e X.env) :: starEach es X.env := by rfl)
    (hpl : ((backTo pos (starEach (e :: es) X.env)).any (·.1) || (backToKw pos (keywordEach kws X.env)).any (·.1.isNone)) = false := by rfl) :
    DE X fld E (.Call (.Name x p) (e :: es) kws pos) (eCall n ks.length ps.length idx dd m a ak) :=
  peImp (pe_callGK F hr hgd hg hm hk hb hd hx ha hkw hall hks hdb he hpl) (call_up hdd)
theorem de_callK0 (F : DFn X.prog X.w X.K X.mg X.base fld k f fd ps m) (hr : Room k X.A) (hgd : X.A.guards = some []) (hg : Gl X x) (hm : X.mg x = some (.ref f)) (hk : PySem.W.keepIn X.K (.ref f) = true) (hb : KB X.K fd ps 0 ks ds idx) (hd : Vals dvs ds) (hdd : ∀ Z, RpAll X.K Z dvs dd) (hx : Passes (L2.CX X.prog X.w) X E)
    (hkw : DK X fld E kws ak) (hall : (backToKw pos (keywordEach kws X.env)).all (·.1.isSome) = true := by rfl) (hks : (backToKw pos (keywordEach kws X.env)).filterMap (·.1) = ks := by rfl)
    (hdb : (x == ("__debug__" : Str)) = false := by decide)
    (hpl : ((backTo pos (starEach [] X.env)).any (·.1) || (backToKw pos (keywordEach kws X.env)).any (·.1.isNone)) = false := by rfl) :
    DE X fld E (.Call (.Name x p) [] kws pos) (eCall 0 ks.length ps.length idx dd m aNil ak) :=
  peImp (pe_callGK0 F hr hgd hg hm hk hb hd hx hkw hall hks hdb hpl) fun σ H Q h => by
    obtain ⟨g, s, env, ok, er, p⟩ := call_up (a := aNil) (ak := ak) hdd σ H Q h
    exact p g H (.refl ok) [] .nil
end
end DL
namespace DL
open PySem PySem.Spec L2
open PyProof.Rows hiding St

/-! ### comprehensions -/
abbrev E0 : XK := fun _ _ _ => False
def wipeD (env : DEnv) : List Nat → DEnv
  | [] => env
  | v :: vs => (wipeD env vs).set v none
/-- an exception within is none of ours -/
def noX {α : Type} (m : DM α) : DM α := fun s => match m s with
  | .exc _ _ => .bad
  | o => o
def tstY : DEnv → DM Bool := fun _ => ret true
def lcL (t : TgF) (ifs : DEnv → DM Bool) (elt : DEnv → DM RV) (env : DEnv) : List D → DM (List RV)
  | [] => ret []
  | x :: xs => bnd (noX (t (.d x) env)) fun e => bnd (noX (ifs e)) fun b => if b = true then bnd (noX (elt e)) fun r => bnd (lcL t ifs elt env xs) fun l => ret (r :: l) else lcL t ifs elt env xs
def oLc (vs : List Nat) (it : DEnv → DM (List D)) (t : TgF) (ifs : DEnv → DM Bool) (elt : DEnv → DM RV) : DEnv → DM (List RV) := fun env => bnd (it env) fun l => if l.length ≤ sizeLine then lcL t ifs elt (wipeD env vs) l else bad
/-- two fors -/
def lc2I (t1 : TgF) (ifs1 : DEnv → DM Bool) (elt : DEnv → DM RV) (env : DEnv) : List D → DM (List RV) := lcL t1 ifs1 elt env
def lc2L (vs1 : List Nat) (t : TgF) (ifs : DEnv → DM Bool) (it1 : DEnv → DM (List D)) (t1 : TgF) (ifs1 : DEnv → DM Bool) (elt : DEnv → DM RV) (env : DEnv) : List D → DM (List RV)
  | [] => ret []
  | x :: xs => bnd (noX (t (.d x) env)) fun e => bnd (noX (ifs e)) fun b => if b = true then bnd (noX (it1 e)) fun ys => bnd (lcL t1 ifs1 elt (wipeD e vs1) ys) fun l => bnd (lc2L vs1 t ifs it1 t1 ifs1 elt env xs) fun r => ret (l ++ r) else lc2L vs1 t ifs it1 t1 ifs1 elt env xs
/-- the result's size is looked at in the end -/
def lim {α : Type} (m : DM (List α)) : DM (List α) := fun s => match m s with
  | .ok l s' => if l.length ≤ sizeLine then .ok l s' else .bad
  | o => o
def oLc2 (vs vs1 : List Nat) (it : DEnv → DM (List D)) (t : TgF) (ifs : DEnv → DM Bool) (it1 : DEnv → DM (List D)) (t1 : TgF) (ifs1 : DEnv → DM Bool) (elt : DEnv → DM RV) : DEnv → DM (List RV) := fun env => bnd (it env) fun l => lim (lc2L vs1 t ifs it1 t1 ifs1 elt (wipeD env vs) l)

section
variable {K : PySem.W.Frag} {mg : Str → Option Value} {fld : Str → Str} {g g1 : G} {s s1 : S} {H H1 : Hp} {σ : St} {env : DEnv}
theorem wipeD_length (env : DEnv) : ∀ vs : List Nat, (wipeD env vs).length = env.length
  | [] => rfl
  | v :: vs => by unfold wipeD; rw [List.length_set, wipeD_length env vs]
theorem wipeD_some {e : EVal} {i : Nat} : ∀ {vs : List Nat}, (wipeD env vs)[i]? = some (some e) → env[i]? = some (some e) ∧ i ∉ vs
  | [], h => ⟨h, by simp⟩
  | v :: vs, h => by
    unfold wipeD at h
    by_cases q : v = i
    · subst q
      have hl : v < (wipeD env vs).length := by
        rcases Nat.lt_or_ge v (wipeD env vs).length with q | q
        · exact q
        · rw [List.getElem?_eq_none (by simpa using q)] at h; cases h
      rw [List.getElem?_set_self hl] at h; cases h
    · rw [List.getElem?_set_ne q] at h
      obtain ⟨h1, h2⟩ := wipeD_some h
      exact ⟨h1, by simp [h2, Ne.symm q]⟩
theorem wipe_get {i : Nat} : ∀ {vs : List Nat}, i ∉ vs → (wipe σ vs)[i]? = σ[i]?
  | [], _ => rfl
  | v :: vs, h => by
    unfold wipe
    rw [List.getElem?_set_ne (by intro q; exact h (by simp [q]))]
    exact wipe_get (fun q => h (by simp [q]))
theorem wipe_in {i : Nat} : ∀ {vs : List Nat}, i ∈ vs → i < σ.length → (wipe σ vs)[i]? = some none
  | v :: vs, h, hl => by
    unfold wipe
    by_cases q : v = i
    · subst q
      rw [List.getElem?_set_self (by rw [wipe_length]; exact hl)]
    · rw [List.getElem?_set_ne q]
      exact wipe_in (by simpa [Ne.symm q] using h) hl
theorem ER.wipe (e : ER K mg g H σ env) (vs : List Nat) : ER K mg g H (wipe σ vs) (wipeD env vs) := by
  refine ⟨by rw [wipe_length, wipeD_length, e.len], fun i x h => ?_, fun i j li lj v hij h1 h2 h3 h4 => ?_⟩
  · obtain ⟨h1, h2⟩ := wipeD_some h
    rw [wipe_get h2]
    exact e.at_ i x h1
  · obtain ⟨a1, b1⟩ := wipeD_some h1
    obtain ⟨a2, b2⟩ := wipeD_some h2
    rw [wipe_get b1] at h3
    rw [wipe_get b2] at h4
    exact e.apart i j li lj v hij a1 a2 h3 h4
/-- a target that stores at slots of vs alone -/
theorem wipe_same {σ2 : St} {L vs : List Nat} (hL : ∀ i ∈ L, i ∈ vs) (hl : σ2.length = (wipe σ vs).length) (h : ∀ j, j ∉ L → σ2[j]? = (wipe σ vs)[j]?) : wipe σ2 vs = wipe σ vs := by
  apply List.ext_getElem?
  intro i
  by_cases q : i ∈ vs
  · by_cases hi : i < σ.length
    · rw [wipe_in q hi, wipe_in q (by rw [hl, wipe_length]; exact hi)]
    · rw [List.getElem?_eq_none (by rw [wipe_length]; rw [hl, wipe_length]; omega), List.getElem?_eq_none (by rw [wipe_length]; omega)]
  · rw [wipe_get q, h i fun z => q (hL i z)]
theorem wipe_wipe {vs : List Nat} : wipe (wipe σ vs) vs = wipe σ vs := wipe_same (L := []) (fun _ h => absurd h (by simp)) rfl fun _ _ => rfl
theorem Step.mut {D : Addr} {o : HO} {g' : G} {s' : S} {H' : Hp} (t : Step K mg g H g' s' H') (hn : H D = none) (hz : g'.Z D = none) (hp : D ∉ g'.P) (ho : ∀ x, H' D ≠ some (.own x)) : Step K mg g H g' s' (upd H' D o) := by
  refine ⟨⟨fun a o' h => ?_, t.ok.len, t.ok.nd, fun i a l h1 h2 => ?_⟩, t.z, t.zold, t.p, fun a o' h n => ?_⟩
  · rw [upd_ne (ne_of_none h hz)]; exact t.ok.z a o' h
  · obtain ⟨n, c⟩ := t.ok.box i a l h1 h2
    have ne : a ≠ D := fun q => hp (q ▸ List.mem_of_getElem? h1)
    exact ⟨n, c.keep (fun _ _ q => q) (fun _ q => by rw [upd_ne ne]; exact q) (fun dx x q => by
      have nd : dx ≠ D := fun z => by subst z; exact ho x q
      rw [upd_ne nd]; exact q) fun _ q => q⟩
  · rw [upd_ne (ne_of_none h hn)]; exact t.keep a o' h n
/-- what is left of an outcome that must be fine -/
def Okk {α : Type} (o : Out α) (k : α → S → Prop) : Prop := match o with
  | .ok a s => k a s
  | _ => False
theorem Okk.bind {α β : Type} {m : DM α} {f : α → DM β} {k : β → S → Prop} (h : Okk (bnd m f s) k) : Okk (m s) fun a s' => Okk (f a s') k := by
  cases q : m s with
  | bad => rw [bnd_bad q] at h; exact h
  | exc e s' => rw [bnd_exc q] at h; exact h
  | ok a s' => rw [bnd_ok q] at h; exact h
theorem Okk.noX {α : Type} {m : DM α} {k : α → S → Prop} (h : Okk (DL.noX m s) k) : Okk (m s) k := by
  unfold DL.noX at h
  cases q : m s with
  | bad => rw [q] at h; exact h
  | exc e s' => rw [q] at h; exact h
  | ok a s' => rw [q] at h; exact h
theorem Okk.post {α : Type} {E : XK} {o : Out α} {k : α → S → Prop} {k' : G → S → Hp → α → Prop} (h : Okk o k) (hk : ∀ g' s' H' a, Step K mg g H g' s' H' → k a s' → k' g' s' H' a) : Post K mg fld E g H o k' := by
  cases o with
  | bad => exact h.elim
  | exc e s' => exact h.elim
  | ok a s' => exact fun g' H' t => hk g' s' H' a t h
end
abbrev DTs (X : Cx) (fld : Str → Str) (E : XK) (ifs : List Expr) (m : DEnv → DM Bool) : Prop := PTs X ifs (upT X.K X.mg fld E m)
theorem dts_nil {X : Cx} {fld : Str → Str} {E : XK} : DTs X fld E [] tstY := ⟨fun pins s σ H Q I ⟨g, s0, env, ok, er, p⟩ => pts_nil.run pins s σ H Q I (p g H (.refl ok))⟩
theorem dts_one {X : Cx} {fld : Str → Str} {E : XK} {c : Expr} {m : DEnv → DM Bool} (h : DT X fld E c m) : DTs X fld E [c] m := pts_one h

section
variable {X : Cx} {fld : Str → Str} {E : XK} {pos : Pos} {elt iter tg iter1 tg1 : Expr} {ifs ifs1 : List Expr} {scope : Scope} {own : List (Str × Nat)} {it it1 : DEnv → DM (List D)} {t t1 : TgF} {mi mi1 : DEnv → DM Bool} {me : DEnv → DM RV} {L L1 vs1 : List Nat}
theorem lc_up (hL : ∀ i ∈ L, i ∈ own.map (·.2)) : ∀ σ H Q, upO X.K X.mg fld E (oLc (own.map (·.2)) it t mi me) σ H Q →
    tLc (upI X.K X.mg fld E it) (upG X.K X.mg fld E0 L t) (upT X.K X.mg fld E0 mi) (upE X.K X.mg fld E0 me) (own.map (·.2)) σ H Q := by
  rintro σ H Q ⟨g, s, env, ok, er, p⟩
  refine ⟨g, s, env, ok, er, ?_⟩
  unfold oLc at p
  cases q : it env s with
  | bad => rw [bnd_bad q] at p; exact p
  | exc e s' => rw [bnd_exc q] at p; exact p
  | ok l s1 =>
    rw [bnd_ok q] at p
    by_cases hz : l.length ≤ sizeLine
    · rw [if_pos hz] at p
      intro g1 H1 t1 J hJ D hD
      -- what is wanted in the end
      have fin : Okk (lcL t mi me (wipeD env (own.map (·.2))) l s1) fun r s' => ∀ g' H', Step X.K X.mg g1 H1 g' s' H' → ∀ xs, g'.Z D = none → D ∉ g'.P → H' D = some (.lst xs) → Paired (RepV X.K X.mg g') xs r → Q (.ref D) H' := by
        have noexc : ∀ (l : List DL.D) (s1 : S) (e : EV) (s2 : S), lcL t mi me (wipeD env (own.map (·.2))) l s1 ≠ .exc e s2 := by
          intro l
          induction l with
          | nil => intro s1 e s2 z; cases z
          | cons x xs ih =>
            intro s1 e s2 z
            unfold lcL at z
            have nn : ∀ {α : Type} {m : DM α} {s e s2}, noX m s ≠ .exc e s2 := by
              intro α m s e s2 h
              unfold noX at h
              cases q : m s with
              | bad => rw [q] at h; cases h
              | exc e s' => rw [q] at h; cases h
              | ok a s' => rw [q] at h; cases h
            cases q1 : noX (t (.d x) (wipeD env (own.map (·.2)))) s1 with
            | bad => rw [bnd_bad q1] at z; cases z
            | exc e' s' => exact nn q1
            | ok e1 s3 =>
              rw [bnd_ok q1] at z
              cases q2 : noX (mi e1) s3 with
              | bad => rw [bnd_bad q2] at z; cases z
              | exc e' s' => exact nn q2
              | ok b s4 =>
                rw [bnd_ok q2] at z
                cases b with
                | false => exact ih s4 e s2 (by simpa using z)
                | true =>
                  rw [if_pos rfl] at z
                  cases q3 : noX (me e1) s4 with
                  | bad => rw [bnd_bad q3] at z; cases z
                  | exc e' s' => exact nn q3
                  | ok r s5 =>
                    rw [bnd_ok q3] at z
                    · cases q5 : lcL t mi me (wipeD env (own.map (·.2))) xs s5 with
                      | bad => rw [bnd_bad q5] at z; cases z
                      | exc e' s' => exact ih _ _ _ q5
                      | ok l s6 => rw [bnd_ok q5] at z; cases z
        cases q2 : lcL t mi me (wipeD env (own.map (·.2))) l s1 with
        | bad => rw [q2] at p; exact p
        | exc e s2 => exact (noexc _ _ _ _ q2).elim
        | ok r s2 =>
          rw [q2] at p
          exact fun g' H' t' xs z0 p0 h0 d0 => p g' H' (t1.trans t') D xs (t1.fresh hD) z0 p0 h0 d0
      have er1 := (er.step t1).wipe (own.map (·.2))
      have z1 : g1.Z D = none := by
        cases qz : g1.Z D with
        | none => rfl
        | some o => rw [t1.ok.z _ _ qz] at hD; cases hD
      have p1 : D ∉ g1.P := fun hm => by
        obtain ⟨xs, hx, _⟩ := t1.ok.there hm
        rw [hD] at hx; cases hx
      refine ⟨fun i m H' => m = l.length - i ∧ i ≤ l.length ∧ ∃ g' s' acc ds, Step X.K X.mg g1 H1 g' s' H' ∧ g'.Z D = none ∧ D ∉ g'.P ∧ H' D = some (.lst acc) ∧ Paired (RepV X.K X.mg g') acc ds ∧ acc.length ≤ i ∧
        Okk (lcL t mi me (wipeD env (own.map (·.2))) (l.drop i) s') fun r s'' => ∀ g' H', Step X.K X.mg g1 H1 g' s'' H' → ∀ xs, g'.Z D = none → D ∉ g'.P → H' D = some (.lst xs) → Paired (RepV X.K X.mg g') xs (ds ++ r) → Q (.ref D) H', ⟨l.length, by simp, Nat.zero_le _, g1, s1, [], [], Step.newH t1.ok hD, z1, p1, upd_same, .nil, Nat.zero_le _, by simpa using fin⟩, ?_⟩
      rintro i m H' ⟨rfl, hil, g', s', acc, ds, t', zD, pD, hH, dl, hacc, f'⟩
      obtain ⟨hstop, hgo⟩ := hJ g' s' H' t'.ok t'.z i
      by_cases hlt : i < l.length
      · have hd : l.drop i = l[i] :: l.drop (i + 1) := List.drop_eq_getElem_cons hlt
        obtain ⟨go, yld⟩ := hgo l[i] (List.getElem?_eq_getElem hlt)
        rw [hd] at f'
        unfold lcL at f'
        refine .inr ⟨go, fun H2 => i + 1 ≤ l.length ∧ ∃ g' s' acc ds, Step X.K X.mg g1 H1 g' s' H2 ∧ g'.Z D = none ∧ D ∉ g'.P ∧ H2 D = some (.lst acc) ∧ Paired (RepV X.K X.mg g') acc ds ∧ acc.length ≤ i + 1 ∧
          Okk (lcL t mi me (wipeD env (own.map (·.2))) (l.drop (i + 1)) s') fun r s'' => ∀ g' H', Step X.K X.mg g1 H1 g' s'' H' → ∀ xs, g'.Z D = none → D ∉ g'.P → H' D = some (.lst xs) → Paired (RepV X.K X.mg g') xs (ds ++ r) → Q (.ref D) H', fun H2 ⟨h1, h2⟩ => ⟨l.length - (i + 1), by omega, rfl, h1, h2⟩, fun x H2 y => ?_⟩
        obtain ⟨g2, t2, dx⟩ := yld x H2 y
        refine ⟨g2, s', wipeD env (own.map (·.2)), .d l[i], t2.ok, (er1.step t').step t2, dx, f'.bind.noX.post fun g3 s3 H3 e3 t3 f3 σ3 er3 k3 => ?_⟩
        refine ⟨wipe_same hL k3.len k3.slot, g3, s3, e3, t3.ok, er3, f3.bind.noX.post fun g4 s4 H4 b t4 f4 => ?_⟩
        have tt := ((t'.trans t2).trans t3).trans t4
        have tq := (t2.trans t3).trans t4
        have zD4 : g4.Z D = none := tq.zold D _ hH zD pD
        have pD4 : D ∉ g4.P := fun z => pD (tq.pold hH z)
        have hH4 : H4 D = some (.lst acc) := tq.keep D _ hH pD
        cases b with
        | false =>
          rw [if_neg (show ¬ false = true by decide)] at f4
          refine iteF ⟨hlt, g4, s4, acc, ds, tt, zD4, pD4, hH4, Paired.steps tq dl, by omega, f4⟩
        | true =>
          rw [if_pos rfl] at f4
          refine iteT ⟨g4, s4, e3, t4.ok, er3.step t4, f4.bind.noX.post fun g5 s5 H5 r t5 f5 v rv => ?_⟩
          · have hH5 := t5.keep D _ hH4 pD4
            have zD5 : g5.Z D = none := t5.zold D _ hH4 zD4 pD4
            have pD5 : D ∉ g5.P := fun z => pD4 (t5.pold hH4 z)
            have t5' : Step X.K X.mg g1 H1 g5 s5 H5 := tt.trans t5
            refine ⟨acc, hH5, Nat.lt_of_lt_of_le (Nat.lt_of_le_of_lt hacc hlt) hz, hlt, g5, s5, acc ++ [v], ds ++ [r], t5'.mut hD zD5 pD5 (fun x q => by rw [hH5] at q; cases q), zD5, pD5, upd_same, ?_, by simp; omega, ?_⟩
            · exact pairedApp (Paired.steps (tq.trans t5) dl) (.cons rv .nil)
            · have f6 : Okk (bnd (lcL t mi me (wipeD env (own.map (·.2))) (l.drop (i + 1))) (fun l => ret (r :: l)) s5) _ := f5
              have f7 := f6.bind
              cases q7 : lcL t mi me (wipeD env (own.map (·.2))) (l.drop (i + 1)) s5 with
              | bad => rw [q7] at f7; exact f7.elim
              | exc e s' => rw [q7] at f7; exact f7.elim
              | ok r s6 =>
                rw [q7] at f7
                intro g' H' t8 xs z0 p0 h0 d0
                refine f7 g' H' t8 xs z0 p0 h0 ?_
                rw [List.append_assoc] at d0
                exact d0
      · have e : i = l.length := by omega
        subst e
        rw [List.drop_length] at f'
        refine .inl ⟨hstop (Nat.le_refl _), f' g' H' t' acc zD pD hH ?_⟩
        rw [List.append_nil]; exact dl
    · rw [if_neg hz] at p
      exact p.elim
theorem do_lc (hc : X.calm = true) (hN : X.N.Nodup) (hi : DI X fld E tg iter it) (ok : BlkOk X.N X.env.scope scope own) (hL : ∀ i ∈ L, i ∈ own.map (·.2))
    (hg : ∀ (s : Shared) (H : Hp) (C : Addr) (cl : List (Str × Addr)) (fp : List Addr), DG (X.blk s H scope (compEnvC scope cl C X.env) fp) fld E0 L tg t) (ht : ∀ (s : Shared) (H : Hp) (C : Addr) (cl : List (Str × Addr)) (fp : List Addr), DTs (X.blk s H scope (compEnvC scope cl C X.env) fp) fld E0 ifs mi)
    (he : ∀ (s : Shared) (H : Hp) (C : Addr) (cl : List (Str × Addr)) (fp : List Addr), DE (X.blk s H scope (compEnvC scope cl C X.env) fp) fld E0 elt me) (hs : ∀ x, foldedSetIterable iter X.env x = pure x := by intro _; rfl) :
    DO X fld E (.ListComp elt [⟨tg, iter, ifs, 0⟩] scope pos) (oLc (own.map (·.2)) it t mi me) := peImp (pe_lc hc hN hi ok hg ht he hs) (lc_up hL)
theorem ds_setLc {g0 : G} {H0 : Hp} {i : Nat} {y : Str} {py spos : Pos} (hc : X.calm = true) (hN : X.N.Nodup) (hy : X.N[i]? = some y) (hyl : X.env.scope.names.lookup y = some .local)
    (hsw : swapsWith (.ListComp elt [⟨tg, iter, ifs, 0⟩] scope pos) (some (.Name y py)) spos.line X.env = pure true) (hi : DI X fld E tg iter it) (ok : BlkOk X.N X.env.scope scope own) (hL : ∀ i ∈ L, i ∈ own.map (·.2))
    (hg : ∀ (s : Shared) (H : Hp) (C : Addr) (cl : List (Str × Addr)) (fp : List Addr), DG (X.blk s H scope (compEnvC scope cl C X.env) fp) fld E0 L tg t) (ht : ∀ (s : Shared) (H : Hp) (C : Addr) (cl : List (Str × Addr)) (fp : List Addr), DTs (X.blk s H scope (compEnvC scope cl C X.env) fp) fld E0 ifs mi)
    (he : ∀ (s : Shared) (H : Hp) (C : Addr) (cl : List (Str × Addr)) (fp : List Addr), DE (X.blk s H scope (compEnvC scope cl C X.env) fp) fld E0 elt me) (hs : ∀ x, foldedSetIterable iter X.env x = pure x := by intro _; rfl) :
    DS X fld E g0 H0 (.Assign [.Name y py] (.ListComp elt [⟨tg, iter, ifs, 0⟩] scope pos) spos) (sOwn i (oLc (own.map (·.2)) it t mi me)) :=
  psImp (ps_setLc hc hN hy hyl hsw hi ok hg ht he hs) fun Dd σ H h => by
    have h2 := own_up Dd σ H h
    exact lc_up hL σ H _ h2
end
end DL
namespace DL
open PySem PySem.Spec L2
open PyProof.Rows hiding St

/-! ### comprehensions of two fors -/
def GM (g g' : G) : Prop := Sub g g'
theorem GM.refl {g : G} : GM g g := Sub.refl
theorem GM.trans {g g1 g2 : G} (a : GM g g1) (b : GM g1 g2) : GM g g2 := Sub.trans a b
theorem Step.gm {K : PySem.W.Frag} {mg : Str → Option Value} {g g1 : G} {H H1 : Hp} {s1 : S} (t : Step K mg g H g1 s1 H1) : GM g g1 := ⟨t.z, let ⟨r, e, _⟩ := t.p; ⟨r, e⟩⟩
theorem RepV.gm {K : PySem.W.Frag} {mg : Str → Option Value} {g g1 : G} {v : V} {r : RV} (m : GM g g1) (h : RepV K mg g v r) : RepV K mg g1 v r := by
  cases r with
  | d x => exact Rp.mono m.1 x v h
  | box n =>
    obtain ⟨a, h1, h2⟩ := h
    obtain ⟨r, e⟩ := m.2
    refine ⟨a, ?_, h2⟩
    rw [e, List.getElem?_append_left (List.getElem?_eq_some_iff.mp h1).1]; exact h1
  | fn x => exact h
theorem ER.hybrid {K : PySem.W.Frag} {mg : Str → Option Value} {g g' : G} {H H' : Hp} {σ σ0 : St} {env env0 : DEnv} {L : List Nat} (er : ER K mg g H σ env) (k : Kept L σ0 env0 σ env) (er' : ER K mg g' H' σ0 env0) (m : GM g g') : ER K mg g' H' σ env := by
  refine ⟨er.len, fun i e h => ?_, er.apart⟩
  obtain ⟨v, hv, hr⟩ := er.at_ i e h
  refine ⟨v, hv, ?_⟩
  cases e with
  | rv r => exact RepV.gm m hr
  | lt l =>
    obtain ⟨a, xs, e, hz, hd⟩ := hr
    exact ⟨a, xs, e, m.1 a _ hz, RpAll.mono m.1 l xs hd⟩
  | own l =>
    obtain ⟨h1, h2⟩ := k.own i l v h hv
    obtain ⟨v', e1, e2⟩ := er'.at_ i _ h1
    rw [h2] at e1
    cases e1
    exact e2
theorem noX_ne {α : Type} {m : DM α} {s : S} {e : EV} {s2 : S} : noX m s ≠ .exc e s2 := by
  intro h
  unfold noX at h
  cases q : m s with
  | bad => rw [q] at h; cases h
  | exc e s' => rw [q] at h; cases h
  | ok a s' => rw [q] at h; cases h
theorem lcL_noexc {t : TgF} {mi : DEnv → DM Bool} {me : DEnv → DM RV} {env : DEnv} : ∀ (l : List D) (s1 : S) (e : EV) (s2 : S), lcL t mi me env l s1 ≠ .exc e s2
  | [], s1, e, s2 => by intro z; cases z
  | x :: xs, s1, e, s2 => by
    intro z
    unfold lcL at z
    cases q1 : noX (t (.d x) env) s1 with
    | bad => rw [bnd_bad q1] at z; cases z
    | exc e' s' => exact noX_ne q1
    | ok e1 s3 =>
      rw [bnd_ok q1] at z
      cases q2 : noX (mi e1) s3 with
      | bad => rw [bnd_bad q2] at z; cases z
      | exc e' s' => exact noX_ne q2
      | ok b s4 =>
        rw [bnd_ok q2] at z
        cases b with
        | false => exact lcL_noexc xs s4 e s2 (by simpa using z)
        | true =>
          rw [if_pos rfl] at z
          cases q3 : noX (me e1) s4 with
          | bad => rw [bnd_bad q3] at z; cases z
          | exc e' s' => exact noX_ne q3
          | ok r s5 =>
            rw [bnd_ok q3] at z
            · cases q5 : lcL t mi me env xs s5 with
              | bad => rw [bnd_bad q5] at z; cases z
              | exc e' s' => exact lcL_noexc _ _ _ _ q5
              | ok l s6 => rw [bnd_ok q5] at z; cases z
theorem lc2L_noexc {vs1 : List Nat} {t t1 : TgF} {mi mi1 : DEnv → DM Bool} {it1 : DEnv → DM (List D)} {me : DEnv → DM RV} {env : DEnv} : ∀ (l : List D) (s1 : S) (e : EV) (s2 : S), lc2L vs1 t mi it1 t1 mi1 me env l s1 ≠ .exc e s2
  | [], s1, e, s2 => by intro z; cases z
  | x :: xs, s1, e, s2 => by
    intro z
    unfold lc2L at z
    cases q1 : noX (t (.d x) env) s1 with
    | bad => rw [bnd_bad q1] at z; cases z
    | exc e' s' => exact noX_ne q1
    | ok e1 s3 =>
      rw [bnd_ok q1] at z
      cases q2 : noX (mi e1) s3 with
      | bad => rw [bnd_bad q2] at z; cases z
      | exc e' s' => exact noX_ne q2
      | ok b s4 =>
        rw [bnd_ok q2] at z
        cases b with
        | false => exact lc2L_noexc xs s4 e s2 (by simpa using z)
        | true =>
          rw [if_pos rfl] at z
          cases q3 : noX (it1 e1) s4 with
          | bad => rw [bnd_bad q3] at z; cases z
          | exc e' s' => exact noX_ne q3
          | ok ys s5 =>
            rw [bnd_ok q3] at z
            cases q4 : lcL t1 mi1 me (wipeD e1 vs1) ys s5 with
            | bad => rw [bnd_bad q4] at z; cases z
            | exc e' s' => exact lcL_noexc _ _ _ _ q4
            | ok l s6 =>
              rw [bnd_ok q4] at z
              cases q5 : lc2L vs1 t mi it1 t1 mi1 me env xs s6 with
              | bad => rw [bnd_bad q5] at z; cases z
              | exc e' s' => exact lc2L_noexc _ _ _ _ q5
              | ok l s6 => rw [bnd_ok q5] at z; cases z
theorem dpAll_app {K : PySem.W.Frag} {Z : Hp} : ∀ {c : List D} {a b : List V} {d : List D}, RpAll K Z a c → RpAll K Z b d → RpAll K Z (a ++ b) (c ++ d)
  | [], a, b, d, h1, h2 => by cases h1; exact h2
  | x :: c, a, b, d, h1, h2 => by cases h1 with | cons q1 q2 => exact .cons q1 (dpAll_app q2 h2)

section
variable {X : Cx} {fld : Str → Str} {E : XK} {pos : Pos} {elt iter tg iter1 tg1 : Expr} {ifs ifs1 : List Expr} {scope : Scope} {own : List (Str × Nat)} {it it1 : DEnv → DM (List D)} {t t1 : TgF} {mi mi1 : DEnv → DM Bool} {me : DEnv → DM RV} {L L1 vs1 : List Nat}
theorem lc2_up (hL : ∀ i ∈ L, i ∈ own.map (·.2)) (hL1 : ∀ i ∈ L1, i ∈ vs1) : ∀ σ H Q, upO X.K X.mg fld E (oLc2 (own.map (·.2)) vs1 it t mi it1 t1 mi1 me) σ H Q →
    tLc2 (upI X.K X.mg fld E it) (upG X.K X.mg fld E0 L t) (upT X.K X.mg fld E0 mi) (upI X.K X.mg fld E0 it1) (upG X.K X.mg fld E0 L1 t1) (upT X.K X.mg fld E0 mi1) (upE X.K X.mg fld E0 me) (own.map (·.2)) vs1 σ H Q := by
  rintro σ H Q ⟨g, s, env, ok, er, p⟩
  refine ⟨g, s, env, ok, er, ?_⟩
  unfold oLc2 at p
  cases q : it env s with
  | bad => rw [bnd_bad q] at p; exact p
  | exc e s' => rw [bnd_exc q] at p; exact p
  | ok l s1 =>
    rw [bnd_ok q] at p
    intro g1 H1 t1' J hJ D hD
    generalize ew : wipeD env (own.map (·.2)) = env0 at p
    -- what is wanted in the end
    let Fin : List RV → S → Prop := fun r s' => r.length ≤ sizeLine ∧ ∀ g' H', Step X.K X.mg g1 H1 g' s' H' → ∀ xs, g'.Z D = none → D ∉ g'.P → H' D = some (.lst xs) → Paired (RepV X.K X.mg g') xs r → Q (.ref D) H'
    have fin : Okk (lc2L vs1 t mi it1 t1 mi1 me env0 l s1) Fin := by
      unfold lim at p
      cases q2 : lc2L vs1 t mi it1 t1 mi1 me env0 l s1 with
      | bad => rw [q2] at p; exact p
      | exc e s2 => exact (lc2L_noexc _ _ _ _ q2).elim
      | ok r s2 =>
        rw [q2] at p
        dsimp only at p
        by_cases hz : r.length ≤ sizeLine
        · rw [if_pos hz] at p
          exact ⟨hz, fun g' H' t' xs z0 p0 h0 d0 => p g' H' (t1'.trans t') D xs (t1'.fresh hD) z0 p0 h0 d0⟩
        · rw [if_neg hz] at p; exact p.elim
    have er1 : ER X.K X.mg g1 H1 (wipe σ (own.map (·.2))) env0 := by rw [← ew]; exact (er.step t1').wipe (own.map (·.2))
    have z1 : g1.Z D = none := by
      cases qz : g1.Z D with
      | none => rfl
      | some o => rw [t1'.ok.z _ _ qz] at hD; cases hD
    have p1 : D ∉ g1.P := fun hm => by
      obtain ⟨xs, hx, _⟩ := t1'.ok.there hm
      rw [hD] at hx; cases hx
    -- the state between turns: what is left, m
    let St : DM (List RV) → Hp → Prop := fun m H' => ∃ g' s' acc ds, Step X.K X.mg g1 H1 g' s' H' ∧ g'.Z D = none ∧ D ∉ g'.P ∧ H' D = some (.lst acc) ∧ Paired (RepV X.K X.mg g') acc ds ∧ Okk (m s') fun r s'' => Fin (ds ++ r) s''
    refine ⟨fun i m H' => m = l.length - i ∧ i ≤ l.length ∧ St (lc2L vs1 t mi it1 t1 mi1 me env0 (l.drop i)) H', ⟨l.length, by simp, Nat.zero_le _, g1, s1, [], [], Step.newH t1'.ok hD, z1, p1, upd_same, .nil, by simpa using fin⟩, ?_⟩
    rintro i m H' ⟨rfl, hil, g', s', acc, ds, t', zD, pD, hH, dl, f'⟩
    obtain ⟨hstop, hgo⟩ := hJ g' s' H' t'.ok t'.z i
    by_cases hlt : i < l.length
    · have hd : l.drop i = l[i] :: l.drop (i + 1) := List.drop_eq_getElem_cons hlt
      obtain ⟨go, yld⟩ := hgo l[i] (List.getElem?_eq_getElem hlt)
      rw [hd] at f'
      unfold lc2L at f'
      refine .inr ⟨go, fun H2 => i + 1 ≤ l.length ∧ St (lc2L vs1 t mi it1 t1 mi1 me env0 (l.drop (i + 1))) H2, fun H2 ⟨h1, h2⟩ => ⟨l.length - (i + 1), by omega, rfl, h1, h2⟩, fun x H2 y => ?_⟩
      obtain ⟨g2, t2, dx⟩ := yld x H2 y
      refine ⟨g2, s', env0, .d l[i], t2.ok, (er1.step t').step t2, dx, f'.bind.noX.post fun g3 s3 H3 e3 t3 f3 σ3 er3 k3 => ?_⟩
      refine ⟨wipe_same hL k3.len k3.slot, g3, s3, e3, t3.ok, er3, f3.bind.noX.post fun g4 s4 H4 b t4 f4 => ?_⟩
      have tt := ((t'.trans t2).trans t3).trans t4
      have tq := (t2.trans t3).trans t4
      have zD4 : g4.Z D = none := tq.zold D _ hH zD pD
      have pD4 : D ∉ g4.P := fun z => pD (tq.pold hH z)
      have hH4 : H4 D = some (.lst acc) := tq.keep D _ hH pD
      have dl4 := Paired.steps tq dl
      cases b with
      | false =>
        rw [if_neg (show ¬ false = true by decide)] at f4
        exact iteF ⟨hlt, g4, s4, acc, ds, tt, zD4, pD4, hH4, dl4, f4⟩
      | true =>
        rw [if_pos rfl] at f4
        refine iteT ⟨g4, s4, e3, t4.ok, er3.step t4, f4.bind.noX.post fun g5 s5 H5 ys t5 f5 J1 hJ1 => ?_⟩
        have tt5 := tt.trans t5
        have zD5 : g5.Z D = none := t5.zold D _ hH4 zD4 pD4
        have pD5 : D ∉ g5.P := fun z => pD4 (t5.pold hH4 z)
        have hH5 : H5 D = some (.lst acc) := t5.keep D _ hH4 pD4
        let rest : List DL.D → DM (List RV) := fun ys => bnd (lcL t1 mi1 me (wipeD e3 vs1) ys) fun l' => bnd (lc2L vs1 t mi it1 t1 mi1 me env0 (l.drop (i + 1))) fun r => ret (l' ++ r)
        let St1 : DM (List RV) → Hp → Prop := fun m H' => ∃ g' s' acc ds, Step X.K X.mg g1 H1 g' s' H' ∧ GM g5 g' ∧ g'.Z D = none ∧ D ∉ g'.P ∧ H' D = some (.lst acc) ∧ Paired (RepV X.K X.mg g') acc ds ∧ Okk (m s') fun r s'' => Fin (ds ++ r) s''
        refine ⟨fun j k H' => k = ys.length - j ∧ j ≤ ys.length ∧ St1 (rest (ys.drop j)) H', ⟨ys.length, by simp, Nat.zero_le _, g5, s5, acc, ds, tt5, .refl, zD5, pD5, hH5, Paired.steps t5 dl4, by simpa using f5⟩, ?_⟩
        rintro j k H6 ⟨rfl, hjl, g6, s6, acc6, ds6, t6, m6, zD6, pD6, hH6, dl6, f6⟩
        obtain ⟨hstop1, hgo1⟩ := hJ1 g6 s6 H6 t6.ok m6.1 j
        by_cases hjt : j < ys.length
        · have hd1 : ys.drop j = ys[j] :: ys.drop (j + 1) := List.drop_eq_getElem_cons hjt
          obtain ⟨go1, yld1⟩ := hgo1 ys[j] (List.getElem?_eq_getElem hjt)
          refine .inr ⟨go1, fun H2 => j + 1 ≤ ys.length ∧ St1 (rest (ys.drop (j + 1))) H2, fun H2 ⟨h1, h2⟩ => ⟨ys.length - (j + 1), by omega, rfl, h1, h2⟩, fun x H7 y => ?_⟩
          obtain ⟨g7, t7, dx7⟩ := yld1 x H7 y
          have f6' : Okk (bnd (lcL t1 mi1 me (wipeD e3 vs1) (ys[j] :: ys.drop (j + 1))) (fun l' => bnd (lc2L vs1 t mi it1 t1 mi1 me env0 (l.drop (i + 1))) fun r => ret (l' ++ r)) s6) fun r s'' => Fin (ds6 ++ r) s'' := by rw [← hd1]; exact f6
          have f7 := f6'.bind
          unfold lcL at f7
          have erw : ER X.K X.mg g7 H7 σ3 e3 := er3.hybrid k3 ((er1.step t6).step t7) (t4.gm.trans (t5.gm.trans (m6.trans t7.gm)))
          refine ⟨g7, s6, wipeD e3 vs1, .d ys[j], t7.ok, erw.wipe vs1, dx7, f7.bind.noX.post fun g8 s8 H8 e8 t8 f8 σ8 er8 k8 => ?_⟩
          refine ⟨wipe_same hL1 k8.len k8.slot, g8, s8, e8, t8.ok, er8, f8.bind.noX.post fun g9 s9 H9 b t9 f9 => ?_⟩
          have tq9 := (t7.trans t8).trans t9
          have zD9 : g9.Z D = none := tq9.zold D _ hH6 zD6 pD6
          have pD9 : D ∉ g9.P := fun z => pD6 (tq9.pold hH6 z)
          have hH9 : H9 D = some (.lst acc6) := tq9.keep D _ hH6 pD6
          have dl9 := Paired.steps tq9 dl6
          cases b with
          | false =>
            rw [if_neg (show ¬ false = true by decide)] at f9
            refine iteF ⟨hjt, g9, s9, acc6, ds6, t6.trans tq9, m6.trans tq9.gm, zD9, pD9, hH9, dl9, ?_⟩
            show Okk (bnd (lcL t1 mi1 me (wipeD e3 vs1) (ys.drop (j + 1))) _ s9) _
            cases q9 : lcL t1 mi1 me (wipeD e3 vs1) (ys.drop (j + 1)) s9 with
            | bad => rw [q9] at f9; exact f9.elim
            | exc e s' => rw [q9] at f9; exact f9.elim
            | ok l' s' => rw [q9] at f9; rw [bnd_ok q9]; exact f9
          | true =>
            rw [if_pos rfl] at f9
            refine iteT ⟨g9, s9, e8, t9.ok, er8.step t9, f9.bind.noX.post fun g10 s10 H10 r t10 f10 v rv => ?_⟩
            · have hH10 := t10.keep D _ hH9 pD9
              have zD10 : g10.Z D = none := t10.zold D _ hH9 zD9 pD9
              have pD10 : D ∉ g10.P := fun z => pD9 (t10.pold hH9 z)
              have f11 : Okk (bnd (lcL t1 mi1 me (wipeD e3 vs1) (ys.drop (j + 1))) (fun l => ret (r :: l)) s10) _ := f10
              have f12 : Okk (rest (ys.drop (j + 1)) s10) fun rr s'' => Fin (ds6 ++ r :: rr) s'' := by
                show Okk (bnd (lcL t1 mi1 me (wipeD e3 vs1) (ys.drop (j + 1))) _ s10) _
                have f13 := f11.bind
                cases q9 : lcL t1 mi1 me (wipeD e3 vs1) (ys.drop (j + 1)) s10 with
                | bad => rw [q9] at f13; exact f13.elim
                | exc e s' => rw [q9] at f13; exact f13.elim
                | ok l' s' =>
                  rw [q9] at f13
                  rw [bnd_ok q9]
                  have f14 : Okk (bnd (lc2L vs1 t mi it1 t1 mi1 me env0 (l.drop (i + 1))) (fun rr => ret ((r :: l') ++ rr)) s') fun rr s'' => Fin (ds6 ++ rr) s'' := f13
                  have f15 := f14.bind
                  cases q10 : lc2L vs1 t mi it1 t1 mi1 me env0 (l.drop (i + 1)) s' with
                  | bad => rw [q10] at f15; exact f15.elim
                  | exc e s' => rw [q10] at f15; exact f15.elim
                  | ok r s'' => rw [q10] at f15; rw [bnd_ok q10]; exact f15
              have sz : acc6.length < sizeLine := by
                have hl := Paired.length dl9
                cases q9 : rest (ys.drop (j + 1)) s10 with
                | bad => rw [q9] at f12; exact f12.elim
                | exc e s' => rw [q9] at f12; exact f12.elim
                | ok r s' =>
                  rw [q9] at f12
                  have := f12.1
                  simp at this
                  omega
              refine ⟨acc6, hH10, sz, hjt, g10, s10, acc6 ++ [v], ds6 ++ [r], ((t6.trans tq9).trans t10).mut hD zD10 pD10 (fun x q => by rw [hH10] at q; cases q), (m6.trans tq9.gm).trans t10.gm, zD10, pD10, upd_same, pairedApp (Paired.steps t10 dl9) (.cons rv .nil), ?_⟩
              cases q9 : rest (ys.drop (j + 1)) s10 with
              | bad => rw [q9] at f12; exact f12.elim
              | exc e s' => rw [q9] at f12; exact f12.elim
              | ok rr s' =>
                rw [q9] at f12
                show Fin ((ds6 ++ [r]) ++ rr) s'
                rw [List.append_assoc]
                exact f12
        · have e : j = ys.length := by omega
          subst e
          refine .inl ⟨hstop1 (Nat.le_refl _), hlt, g6, s6, acc6, ds6, t6, zD6, pD6, hH6, dl6, ?_⟩
          have f7 : Okk (bnd (lcL t1 mi1 me (wipeD e3 vs1) (ys.drop ys.length)) (fun l' => bnd (lc2L vs1 t mi it1 t1 mi1 me env0 (l.drop (i + 1))) fun r => ret (l' ++ r)) s6) fun r s'' => Fin (ds6 ++ r) s'' := f6
          rw [List.drop_length] at f7
          have q0 : lcL t1 mi1 me (wipeD e3 vs1) [] s6 = .ok [] s6 := rfl
          rw [bnd_ok q0] at f7
          have f8 := f7.bind
          cases q9 : lc2L vs1 t mi it1 t1 mi1 me env0 (l.drop (i + 1)) s6 with
          | bad => rw [q9] at f8; exact f8.elim
          | exc e s' => rw [q9] at f8; exact f8.elim
          | ok r s' => rw [q9] at f8; exact f8
    · have e : i = l.length := by omega
      subst e
      rw [List.drop_length] at f'
      refine .inl ⟨hstop (Nat.le_refl _), ?_⟩
      have f2 : Fin (ds ++ []) s' := f'
      rw [List.append_nil] at f2
      exact f2.2 g' H' t' acc zD pD hH dl
theorem do_lc2 (hc : X.calm = true) (hN : X.N.Nodup) (hi : DI X fld E tg iter it) (ok : BlkOk X.N X.env.scope scope own) (hv : ∀ i ∈ vs1, i ∈ own.map (·.2)) (hL : ∀ i ∈ L, i ∈ own.map (·.2)) (hL1 : ∀ i ∈ L1, i ∈ vs1)
    (hg : ∀ (s : Shared) (H : Hp) (C : Addr) (cl : List (Str × Addr)) (fp : List Addr), DG (X.blk s H scope (compEnvC scope cl C X.env) fp) fld E0 L tg t) (ht : ∀ (s : Shared) (H : Hp) (C : Addr) (cl : List (Str × Addr)) (fp : List Addr), DTs (X.blk s H scope (compEnvC scope cl C X.env) fp) fld E0 ifs mi)
    (hi1 : ∀ (s : Shared) (H : Hp) (C : Addr) (cl : List (Str × Addr)) (fp : List Addr), DI (X.blk s H scope (compEnvC scope cl C X.env) fp) fld E0 tg1 iter1 it1)
    (hg1 : ∀ (s : Shared) (H : Hp) (C : Addr) (cl : List (Str × Addr)) (fp : List Addr), DG (X.blk s H scope (compEnvC scope cl C X.env) fp) fld E0 L1 tg1 t1) (ht1 : ∀ (s : Shared) (H : Hp) (C : Addr) (cl : List (Str × Addr)) (fp : List Addr), DTs (X.blk s H scope (compEnvC scope cl C X.env) fp) fld E0 ifs1 mi1)
    (he : ∀ (s : Shared) (H : Hp) (C : Addr) (cl : List (Str × Addr)) (fp : List Addr), DE (X.blk s H scope (compEnvC scope cl C X.env) fp) fld E0 elt me) (hs : ∀ x, foldedSetIterable iter X.env x = pure x := by intro _; rfl) (hs1 : ∀ env x, foldedSetIterable iter1 env x = pure x := by intro _ _; rfl) :
    DO X fld E (.ListComp elt [⟨tg, iter, ifs, 0⟩, ⟨tg1, iter1, ifs1, 0⟩] scope pos) (oLc2 (own.map (·.2)) vs1 it t mi it1 t1 mi1 me) := peImp (pe_lc2 hc hN hi ok hv hg ht hi1 hg1 ht1 he hs hs1) (lc2_up hL hL1)
theorem ds_setLc2 {g0 : G} {H0 : Hp} {i : Nat} {y : Str} {py spos : Pos} (hc : X.calm = true) (hN : X.N.Nodup) (hy : X.N[i]? = some y) (hyl : X.env.scope.names.lookup y = some .local)
    (hsw : swapsWith (.ListComp elt [⟨tg, iter, ifs, 0⟩, ⟨tg1, iter1, ifs1, 0⟩] scope pos) (some (.Name y py)) spos.line X.env = pure true) (hi : DI X fld E tg iter it) (ok : BlkOk X.N X.env.scope scope own) (hv : ∀ i ∈ vs1, i ∈ own.map (·.2)) (hL : ∀ i ∈ L, i ∈ own.map (·.2)) (hL1 : ∀ i ∈ L1, i ∈ vs1)
    (hg : ∀ (s : Shared) (H : Hp) (C : Addr) (cl : List (Str × Addr)) (fp : List Addr), DG (X.blk s H scope (compEnvC scope cl C X.env) fp) fld E0 L tg t) (ht : ∀ (s : Shared) (H : Hp) (C : Addr) (cl : List (Str × Addr)) (fp : List Addr), DTs (X.blk s H scope (compEnvC scope cl C X.env) fp) fld E0 ifs mi)
    (hi1 : ∀ (s : Shared) (H : Hp) (C : Addr) (cl : List (Str × Addr)) (fp : List Addr), DI (X.blk s H scope (compEnvC scope cl C X.env) fp) fld E0 tg1 iter1 it1)
    (hg1 : ∀ (s : Shared) (H : Hp) (C : Addr) (cl : List (Str × Addr)) (fp : List Addr), DG (X.blk s H scope (compEnvC scope cl C X.env) fp) fld E0 L1 tg1 t1) (ht1 : ∀ (s : Shared) (H : Hp) (C : Addr) (cl : List (Str × Addr)) (fp : List Addr), DTs (X.blk s H scope (compEnvC scope cl C X.env) fp) fld E0 ifs1 mi1)
    (he : ∀ (s : Shared) (H : Hp) (C : Addr) (cl : List (Str × Addr)) (fp : List Addr), DE (X.blk s H scope (compEnvC scope cl C X.env) fp) fld E0 elt me) (hs : ∀ x, foldedSetIterable iter X.env x = pure x := by intro _; rfl) (hs1 : ∀ env x, foldedSetIterable iter1 env x = pure x := by intro _ _; rfl) :
    DS X fld E g0 H0 (.Assign [.Name y py] (.ListComp elt [⟨tg, iter, ifs, 0⟩, ⟨tg1, iter1, ifs1, 0⟩] scope pos) spos) (sOwn i (oLc2 (own.map (·.2)) vs1 it t mi it1 t1 mi1 me)) :=
  psImp (ps_setLc2 hc hN hy hyl hsw hi ok hv hg ht hi1 hg1 ht1 he hs hs1) fun Dd σ H h => lc2_up hL hL1 σ H _ (own_up Dd σ H h)
end
end DL
namespace DL
open PySem PySem.Spec L2
open PyProof.Rows hiding St

/-! ### operators upon data -/
theorem opr_or {X : Cx} {f : Value → Value → Sem Value} {r r' : R2} (h : OpR X f r) (h' : OpR X f r') : OpR X f (fun x y H Q => r x y H Q ∨ r' x y H Q) := by
  intro pins s σ H x y v u Q I rx ry q
  rcases q with q | q
  · exact h pins s σ H x y v u Q I rx ry q
  · exact h' pins s σ H x y v u Q I rx ry q
theorem callr_or {X : Cx} {f : Value} {r r' : List V → Hp → VK → Prop} (h : CallR X f r) (h' : CallR X f r') : CallR X f (fun x H Q => r x H Q ∨ r' x H Q) := by
  intro pins s σ H x v Q I rx q
  rcases q with q | q
  · exact h pins s σ H x v Q I rx q
  · exact h' pins s σ H x v Q I rx q
def dB (b : Bool) : DM RV := ret (.d (.bool b))
def dI (i : Int) : DM RV := ret (.d (.int i))
def dL (l : List D) : DM RV := if l.length ≤ sizeLine then ret (.d (.list l)) else bad
def dT (l : List D) : DM RV := if l.length ≤ sizeLine then ret (.d (.tuple l)) else bad
section
variable {K : PySem.W.Frag} {mg : Str → Option Value} {fld : Str → Str} {E : XK} {g : G} {s : S} {H : Hp} {Q : VK}
abbrev K0 (K : PySem.W.Frag) (mg : Str → Option Value) (Q : VK) : G → S → Hp → RV → Prop := fun g' _ H' r => ∀ v, RepV K mg g' v r → Q v H'
theorem post_ret {α : Type} {a : α} {k : G → S → Hp → α → Prop} (ok : GOk K mg g s H) (p : Post K mg fld E g H (ret a s) k) : k g s H a := p g H (.refl ok)
theorem post_b {b : Bool} (ok : GOk K mg g s H) (p : Post K mg fld E g H (dB b s) (K0 K mg Q)) : Q (.bl b) H := post_ret ok p (.bl b) (.bl b)
theorem post_i {i : Int} (ok : GOk K mg g s H) (p : Post K mg fld E g H (dI i s) (K0 K mg Q)) : Q (.int i) H := post_ret ok p (.int i) (.int i)
theorem post_newT {l : List D} {xs : List V} (ok : GOk K mg g s H) (p : Post K mg fld E g H (ret (.d (.tuple l)) s) (K0 K mg Q)) (hd : RpAll K g.Z xs l) {a : Addr} (ha : H a = none) : Q (.ref a) (upd H a (.tup xs)) := by
  have st := Step.newZ (o := .tup xs) ok ha
  exact p _ _ st (.ref a) (.tup (.inl (.inl upd_same)) (RpAll.mono st.z l xs hd))
theorem post_newL {l : List D} {xs : List V} (ok : GOk K mg g s H) (p : Post K mg fld E g H (ret (.d (.list l)) s) (K0 K mg Q)) (hd : RpAll K g.Z xs l) {a : Addr} (ha : H a = none) : Q (.ref a) (upd H a (.lst xs)) := by
  have st := Step.newZ (o := .lst xs) ok ha
  exact p _ _ st (.ref a) (.lst (.inl upd_same) (RpAll.mono st.z l xs hd))
end
theorem rpAll_length {K : PySem.W.Frag} {Z : Hp} {vs : List V} {ds : List D} (h : RpAll K Z vs ds) : vs.length = ds.length := dpAll_length h

def dAdd : D → D → DM RV
  | .int i, .int j => dI (i + j)
  | .str a, .str b => if a.length + b.length ≤ sizeLine then ret (.d (.str (a ++ b))) else bad
  | .tuple a, .tuple b => if a.length + b.length ≤ sizeLine then ret (.d (.tuple (a ++ b))) else bad
  | .list a, .list b => if a.length + b.length ≤ sizeLine then ret (.d (.list (a ++ b))) else bad
  | _, _ => bad
section
variable {X : Cx} {fld : Str → Str} {E : XK}
/-- list + list, each tracked or frozen -/
def rCatR : R2 := fun x y H Q => ∃ l b xs zs, x = .ref l ∧ y = .ref b ∧ Rd H l (.lst xs) ∧ Rd H b (.lst zs) ∧ xs.length + zs.length ≤ sizeLine ∧ ∀ p, H p = none → Q (.ref p) (upd H p (.lst (xs ++ zs)))
theorem Inv.lstR {pins : List (Addr × Obj)} {σ : St} {H : Hp} {s : Shared} {l : Addr} {xs : List V} (I : Inv X pins σ H s) (hH : Rd H l (.lst xs)) : xs.length ≤ sizeLine ∧ ∃ (its : List Value) (n : Nat), Vals xs its ∧ xs.length = its.length ∧ s.heap.get? l = some { cls := .type "list", data := .seq its.toArray n } := by
  obtain ⟨z, its, n, r, e⟩ := hH.ok I.hok
  exact ⟨z, its, n, r, r.length, e⟩
theorem op_catR : OpR X (binaryOp .Add) rCatR := by
  intro pins s σ H x y v u Q I rx ry h
  obtain ⟨l, b, xs, zs, rfl, rfl, hH, hB, hz, q⟩ := h
  cases rx
  cases ry
  obtain ⟨z, its, n, r, hl, e⟩ := Inv.lstR I hH
  obtain ⟨z2, its2, n2, r2, hl2, e2⟩ := Inv.lstR I hB
  refine PySem.P.add_list e e2 ?_ (by rw [List.size_toArray, List.size_toArray]; omega)
  have ea : its.toArray ++ its2.toArray = (its ++ its2).toArray := by simp
  rw [ea]
  exact ⟨.ref _, _, I.lnew (t' := s.toks) (r.append r2) (by rw [List.length_append]; omega), rfl, q _ I.fresh⟩
def rAddA (K : PySem.W.Frag) : R2 := fun x y H Q => (∃ i j, x = .int i ∧ y = .int j ∧ Q (.int (i + j)) H) ∨ ((∃ i j, x = .str i ∧ y = .str j ∧ i.length + j.length ≤ sizeLine ∧ Q (.str (i ++ j)) H) ∨ (rCatA K x y H Q ∨ rCatR x y H Q))
theorem op_addA : OpR X (binaryOp .Add) (rAddA X.K) := opr_or op_add (opr_or op_add_str (opr_or op_catA op_catR))
theorem od_add : OpD X fld E (rAddA X.K) dAdd := by
  intro g s H v u x y Q ok rx ry p
  unfold dAdd at p
  split at p
  · cases rx; cases ry
    exact .inl ⟨_, _, rfl, rfl, post_i ok p⟩
  · cases rx; cases ry
    split at p
    · rename_i h
      exact .inr (.inl ⟨_, _, rfl, rfl, h, post_ret ok p _ (.str _)⟩)
    · exact p.elim
  · cases rx with
    | tup hs hd =>
      cases ry with
      | tup hs2 hd2 =>
        split at p
        · rename_i h
          have q1 := sqT_mono ok.z hs
          have q2 := sqT_mono ok.z hs2
          refine .inr (.inr (.inl ⟨_, _, _, _, rfl, rfl, q1, q2, by rw [rpAll_length hd, rpAll_length hd2]; exact h, fun e => ?_, fun _ e => ?_, fun _ _ a ha => post_newT ok p (dpAll_app hd hd2) ha⟩))
          · subst e
            cases hd
            exact post_ret ok p _ (.tup hs2 hd2)
          · subst e
            cases hd2
            refine post_ret ok p _ ?_
            rw [List.append_nil]
            exact .tup hs hd
        · exact p.elim
  · cases rx with
    | lst hs hd =>
      cases ry with
      | lst hs2 hd2 =>
        split at p
        · rename_i h
          exact .inr (.inr (.inr ⟨_, _, _, _, rfl, rfl, DL.Rd.mono ok.z hs, DL.Rd.mono ok.z hs2, by rw [rpAll_length hd, rpAll_length hd2]; exact h, fun a ha => post_newL ok p (dpAll_app hd hd2) ha⟩))
        · exact p.elim
  · exact p.elim
def dSub : D → D → DM RV
  | .int i, .int j => dI (i - j)
  | _, _ => bad
theorem od_sub : OpD X fld E (rI0 fun i j => .int (i - j)) dSub := by
  intro g s H v u x y Q ok rx ry p
  unfold dSub at p
  split at p
  · cases rx; cases ry
    exact ⟨_, _, rfl, rfl, post_i ok p⟩
  · exact p.elim
instance (i j : Int) : Decidable (CMul i j) := inferInstanceAs (Decidable (_ ∨ _))
def dMul : D → D → DM RV
  | .int i, .int j => if CMul i j then dI (i * j) else bad
  | .tuple l, .int k => if l ≠ [] ∧ 2 ≤ k ∧ k ≤ 1000 ∧ l.length ≤ 1000 then ret (.d (.tuple (List.replicate k.toNat l).flatten)) else bad
  | _, _ => bad
def rMulA (K : PySem.W.Frag) : R2 := fun x y H Q => (∃ i j, x = .int i ∧ y = .int j ∧ CMul i j ∧ Q (.int (i * j)) H) ∨ rRepT K x y H Q
theorem op_mulA : OpR X (binaryOp .Mult) (rMulA X.K) := opr_or op_mul op_repT
theorem rpAll_rep {K : PySem.W.Frag} {Z : Hp} {xs : List V} {l : List D} (h : RpAll K Z xs l) : ∀ n : Nat, RpAll K Z (List.replicate n xs).flatten (List.replicate n l).flatten
  | 0 => .nil
  | n + 1 => by
    rw [List.replicate_succ, List.replicate_succ, List.flatten_cons, List.flatten_cons]
    exact dpAll_app h (rpAll_rep h n)
theorem od_mul : OpD X fld E (rMulA X.K) dMul := by
  intro g s H v u x y Q ok rx ry p
  unfold dMul at p
  split at p
  · cases rx; cases ry
    split at p
    · rename_i h
      exact .inl ⟨_, _, rfl, rfl, h, post_i ok p⟩
    · exact p.elim
  · cases rx with
    | tup hs hd =>
      cases ry
      split at p
      · rename_i h
        obtain ⟨h1, h2, h3, h4⟩ := h
        refine .inr ⟨_, _, _, rfl, rfl, sqT_mono ok.z hs, fun e => h1 ?_, h2, h3, by rw [rpAll_length hd]; exact h4, fun a ha => post_newT ok p (rpAll_rep hd _) ha⟩
        subst e
        cases hd
        rfl
      · exact p.elim
  · exact p.elim
def dMod : D → D → DM RV
  | .int i, .int j => if 0 < j then dI (i % j) else bad
  | _, _ => bad
theorem od_mod : OpD X fld E (rI (fun _ j => 0 < j) fun i j => .int (i % j)) dMod := by
  intro g s H v u x y Q ok rx ry p
  unfold dMod at p
  split at p
  · cases rx; cases ry
    split at p
    · rename_i h
      exact ⟨_, _, rfl, rfl, h, post_i ok p⟩
    · exact p.elim
  · exact p.elim
def dFdiv : D → D → DM RV
  | .int i, .int j => if 0 < j ∧ j < 1073741824 then dI (i / j) else bad
  | _, _ => bad
theorem od_fdiv : OpD X fld E (rI CDiv fun i j => .int (i / j)) dFdiv := by
  intro g s H v u x y Q ok rx ry p
  unfold dFdiv at p
  split at p
  · cases rx; cases ry
    split at p
    · rename_i h
      exact ⟨_, _, rfl, rfl, h, post_i ok p⟩
    · exact p.elim
  · exact p.elim
def dNeg : D → DM RV
  | .int i => dI (-i)
  | _ => bad
theorem ud_neg : UnD X fld E (rU fun i => .int (-i)) dNeg := by
  intro g s H v x Q ok rx p
  unfold dNeg at p
  split at p
  · cases rx
    exact ⟨_, rfl, post_i ok p⟩
  · exact p.elim
/-! comparisons -/
def dCmpI (f : Int → Int → Bool) : D → D → DM RV
  | .int i, .int j => dB (f i j)
  | _, _ => bad
theorem od_cmpI {f : Int → Int → Bool} : OpD X fld E (rI0 fun i j => .bl (f i j)) (dCmpI f) := by
  intro g s H v u x y Q ok rx ry p
  unfold dCmpI at p
  split at p
  · cases rx; cases ry
    exact ⟨_, _, rfl, rfl, post_b ok p⟩
  · exact p.elim
abbrev dLt := dCmpI fun i j => decide (i < j)
abbrev dLe := dCmpI fun i j => decide (i ≤ j)
abbrev dGt := dCmpI fun i j => decide (j < i)
abbrev dGe := dCmpI fun i j => decide (j ≤ i)
def eqD : D → D → Option Bool
  | .str a, .str b => some (decide (a = b))
  | x, y => if SeqAt.shaped x = true ∧ SeqAt.shaped y = true then some (PyData.eqv x y) else none
def ofB : Option Bool → DM RV
  | some b => dB b
  | none => bad
def dEq : D → D → DM RV := fun x y => ofB (eqD x y)
def dNe : D → D → DM RV := fun x y => ofB ((eqD x y).map (!·))
def rEqA (K : PySem.W.Frag) : R2 := fun x y H Q => rEq x y H Q ∨ rEqD K x y H Q
def rNeA (K : PySem.W.Frag) : R2 := fun x y H Q => rNe x y H Q ∨ rNeD K x y H Q
theorem op_eqA (hu : X.A.units + 64 < cLine) : OpR X (compareOp .Eq) (rEqA X.K) := opr_or op_eq (op_eqD hu)
theorem op_neA (hu : X.A.units + 64 < cLine) : OpR X (compareOp .NotEq) (rNeA X.K) := opr_or op_ne (op_neD hu)
theorem dec_str {a b : Str} : decide (V.str a = V.str b) = decide (a = b) := by simp
theorem eqD_cases {x y : D} {b : Bool} (h : eqD x y = some b) : (∃ a c, x = .str a ∧ y = .str c ∧ b = decide (a = c)) ∨ (SeqAt.shaped x = true ∧ SeqAt.shaped y = true ∧ b = PyData.eqv x y) := by
  unfold eqD at h
  split at h
  · exact .inl ⟨_, _, rfl, rfl, (Option.some.inj h).symm⟩
  · split at h
    · rename_i q
      exact .inr ⟨q.1, q.2, (Option.some.inj h).symm⟩
    · cases h
theorem Rp.dpH {K : PySem.W.Frag} {mg : Str → Option Value} {g : G} {s : S} {H : Hp} {x : D} {v : V} (ok : GOk K mg g s H) (r : Rp K g.Z v x) : Dp K H v x := Rp.dp x v (Rp.mono ok.z x v r)
theorem od_eq : OpD X fld E (rEqA X.K) dEq := by
  intro g s H v u x y Q ok rx ry p
  unfold dEq at p
  cases e : eqD x y with
  | none => rw [e] at p; exact p.elim
  | some b =>
    rw [e] at p
    have q : Q (.bl b) H := post_b ok p
    rcases eqD_cases e with ⟨a, c, rfl, rfl, rfl⟩ | ⟨h1, h2, rfl⟩
    · cases rx; cases ry
      refine .inl ⟨rfl, ?_⟩
      rw [dec_str]; exact q
    · exact .inr ⟨x, y, rx.dpH ok, ry.dpH ok, h1, h2, q⟩
theorem od_ne : OpD X fld E (rNeA X.K) dNe := by
  intro g s H v u x y Q ok rx ry p
  unfold dNe at p
  cases e : eqD x y with
  | none => rw [e] at p; exact p.elim
  | some b =>
    rw [e] at p
    have q : Q (.bl !b) H := post_b ok p
    rcases eqD_cases e with ⟨a, c, rfl, rfl, rfl⟩ | ⟨h1, h2, rfl⟩
    · cases rx; cases ry
      refine .inl ⟨rfl, ?_⟩
      rw [dec_str]; exact q
    · exact .inr ⟨x, y, rx.dpH ok, ry.dpH ok, h1, h2, q⟩
def isNone : D → Bool
  | .none => true
  | _ => false
theorem rp_none {K : PySem.W.Frag} {Z : Hp} {v : V} {x : D} (r : Rp K Z v x) : decide (v = .non) = isNone x := by cases r <;> rfl
def dIsN : D → D → DM RV := fun x y => match y with
  | .none => dB (isNone x)
  | _ => bad
def dNotN : D → D → DM RV := fun x y => match y with
  | .none => dB (!isNone x)
  | _ => bad
theorem od_isN : OpD X fld E (fun x y H Q => y = .non ∧ Q (.bl (decide (x = .non))) H) dIsN := by
  intro g s H v u x y Q ok rx ry p
  cases y with
  | none =>
    cases ry
    refine ⟨rfl, ?_⟩
    rw [rp_none rx]
    exact post_b ok p
  | _ => exact p.elim
theorem od_notN : OpD X fld E (fun x y H Q => y = .non ∧ Q (.bl (!decide (x = .non))) H) dNotN := by
  intro g s H v u x y Q ok rx ry p
  cases y with
  | none =>
    cases ry
    refine ⟨rfl, ?_⟩
    rw [rp_none rx]
    exact post_b ok p
  | _ => exact p.elim
/-- x in a list or tuple of data -/
def inD (neg : Bool) : D → D → DM RV := fun x y => match y with
  | .list l => if SeqAt.shaped x = true ∧ SeqAt.shaped (.list l) = true then dB (l.any (fun z => PyData.eqv z x) != neg) else bad
  | .tuple l => if SeqAt.shaped x = true ∧ SeqAt.shaped (.tuple l) = true then dB (l.any (fun z => PyData.eqv z x) != neg) else bad
  | _ => bad
def rInA (K : PySem.W.Frag) (neg : Bool) : R2 := fun x y H Q => ∃ d ds, Dp K H x d ∧ (Dp K H y (.list ds) ∨ Dp K H y (.tuple ds)) ∧ SeqAt.shaped d = true ∧ SeqAt.shaped (.list ds) = true ∧ Q (.bl ((ds.any fun z => PyData.eqv z d) != neg)) H
theorem op_inA (hu : X.A.units + 65 < cLine) : OpR X (compareOp .In) (rInA X.K false) := by
  intro pins s σ H x y v u Q I rx ry h
  obtain ⟨d, ds, hd, he, sd, se, q⟩ := h
  obtain ⟨as, r1⟩ := Dp.reads I d x v hd rx
  rw [Bool.bne_false] at q
  rcases he with he | he
  · obtain ⟨bs, r2⟩ := Dp.reads I (.list ds) y u he ry
    exact SeqAt.in_list_reads r2 r1 (SeqAt.canLay_of_shaped se) (SeqAt.canLay_of_shaped sd) (room_in_shaped sd hu) ⟨.bl _, H, I, rfl, q⟩
  · obtain ⟨bs, r2⟩ := Dp.reads I (.tuple ds) y u he ry
    exact SeqAt.in_tuple_reads r2 r1 (SeqAt.canLay_of_shaped se) (SeqAt.canLay_of_shaped sd) (room_in_shaped sd hu) ⟨.bl _, H, I, rfl, q⟩
theorem op_notInA (hu : X.A.units + 65 < cLine) : OpR X (compareOp .NotIn) (rInA X.K true) := by
  intro pins s σ H x y v u Q I rx ry h
  obtain ⟨d, ds, hd, he, sd, se, q⟩ := h
  obtain ⟨as, r1⟩ := Dp.reads I d x v hd rx
  rw [Bool.bne_true] at q
  rcases he with he | he
  · obtain ⟨bs, r2⟩ := Dp.reads I (.list ds) y u he ry
    exact SeqAt.notIn_list_reads r2 r1 (SeqAt.canLay_of_shaped se) (SeqAt.canLay_of_shaped sd) (room_in_shaped sd hu) ⟨.bl _, H, I, rfl, q⟩
  · obtain ⟨bs, r2⟩ := Dp.reads I (.tuple ds) y u he ry
    exact SeqAt.notIn_tuple_reads r2 r1 (SeqAt.canLay_of_shaped se) (SeqAt.canLay_of_shaped sd) (room_in_shaped sd hu) ⟨.bl _, H, I, rfl, q⟩
theorem od_in {neg : Bool} : OpD X fld E (rInA X.K neg) (inD neg) := by
  intro g s H v u x y Q ok rx ry p
  unfold inD at p
  cases y with
  | list l =>
    dsimp only at p
    split at p
    · rename_i h
      exact ⟨x, l, rx.dpH ok, .inl (ry.dpH ok), h.1, h.2, post_b ok p⟩
    · exact p.elim
  | tuple l =>
    dsimp only at p
    split at p
    · rename_i h
      exact ⟨x, l, rx.dpH ok, .inr (ry.dpH ok), h.1, h.2, post_b ok p⟩
    · exact p.elim
  | _ => exact p.elim
end
end DL
namespace DL
open PySem PySem.Spec L2
open PyProof.Rows hiding St

/-! ### subscripts, slices -/
def optM {α : Type} (o : Option α) (f : α → DM RV) : DM RV := match o with
  | some a => f a
  | none => bad
theorem optM_post {K : PySem.W.Frag} {mg : Str → Option Value} {fld : Str → Str} {E : XK} {g : G} {H : Hp} {s : S} {α : Type} {o : Option α} {f : α → DM RV} {k} (h : Post K mg fld E g H (optM o f s) k) : ∃ a, o = some a ∧ Post K mg fld E g H (f a s) k := by
  cases o with
  | none => exact h.elim
  | some a => exact ⟨a, rfl, h⟩
def dIx : D → D → DM RV
  | .tuple l, .int i => optM (atI l i) fun d => ret (.d d)
  | .list l, .int i => optM (atI l i) fun d => ret (.d d)
  | .str z, .int i => if z.length ≤ sizeLine then optM (atI z.cps.toList i) fun c => ret (.d (.str ⟨#[c]⟩)) else bad
  | _, _ => bad
def cutD (xs : List D) (lo hi : Option Int) : List D := (xs.drop (HT.sIx xs.length 0 lo)).take (HT.sIx xs.length xs.length hi - HT.sIx xs.length 0 lo)
def dSl : D → Option Int → Option Int → DM RV
  | .tuple l, lo, hi => ret (.d (.tuple (cutD l lo hi)))
  | .list l, lo, hi => ret (.d (.list (cutD l lo hi)))
  | .str z, lo, hi => if z.length ≤ sizeLine then ret (.d (.str (cutS z lo hi))) else bad
  | _, _, _ => bad
section
variable {K : PySem.W.Frag} {mg : Str → Option Value} {Z : Hp}
theorem rpAll_atI {xs : List V} {l : List D} {i : Int} {d : D} (h : RpAll K Z xs l) (e : atI l i = some d) : ∃ v, atI xs i = some v ∧ Rp K Z v d := by
  unfold atI at e ⊢
  rw [rpAll_length h]
  cases q : ixN l.length i with
  | none => rw [q] at e; cases e
  | some j =>
    rw [q] at e
    exact dpAll_get h e
theorem rpAll_drop : ∀ {l : List D} {xs : List V} (n : Nat), RpAll K Z xs l → RpAll K Z (xs.drop n) (l.drop n)
  | _, _, 0, h => h
  | [], _, n + 1, h => by cases h; exact .nil
  | x :: l, _, n + 1, h => by cases h with | cons _ h2 => exact rpAll_drop n h2
theorem rpAll_take : ∀ {l : List D} {xs : List V} (n : Nat), RpAll K Z xs l → RpAll K Z (xs.take n) (l.take n)
  | _, _, 0, h => .nil
  | [], _, n + 1, h => by cases h; exact .nil
  | x :: l, _, n + 1, h => by cases h with | cons h1 h2 => exact .cons h1 (rpAll_take n h2)
theorem rpAll_cut {l : List D} {xs : List V} {lo hi : Option Int} (h : RpAll K Z xs l) : RpAll K Z (cutV xs lo hi) (cutD l lo hi) := by
  unfold cutV cutD
  rw [rpAll_length h]
  exact rpAll_take _ (rpAll_drop _ h)
theorem cut_whole {l : List D} {lo hi : Option Int} (h : HT.sIx l.length 0 lo = 0 ∧ HT.sIx l.length l.length hi = l.length) : cutD l lo hi = l := by
  unfold cutD
  rw [h.1, h.2]
  simp
end
section
variable {X : Cx} {fld : Str → Str} {E : XK} {pos p2 : Pos} {e a b c : Expr} {m ma mb mc : DEnv → DM RV} {lo hi : Option Expr}
theorem od_ix : OpD X fld E (rIx X.K) dIx := by
  intro g s H v u x y Q ok rx ry p
  unfold dIx at p
  split at p
  · cases rx with
    | tup hs hd =>
      cases ry
      obtain ⟨d, q, p⟩ := optM_post p
      obtain ⟨w, h1, h2⟩ := rpAll_atI hd q
      exact .inr (.inl ⟨_, _, _, w, rfl, rfl, sqT_mono ok.z hs, h1, post_ret ok p w h2⟩)
  · cases rx with
    | lst hs hd =>
      cases ry
      obtain ⟨d, q, p⟩ := optM_post p
      obtain ⟨w, h1, h2⟩ := rpAll_atI hd q
      exact .inl ⟨_, _, _, w, rfl, rfl, .inl (DL.Rd.mono ok.z hs), h1, post_ret ok p w h2⟩
  · cases rx; cases ry
    split at p
    · rename_i hz
      obtain ⟨c, q, p⟩ := optM_post p
      exact .inr (.inr ⟨_, _, c, rfl, rfl, hz, q, post_ret ok p _ (.str _)⟩)
    · exact p.elim
  · exact p.elim
theorem de_ix (ha : DE X fld E a ma) (hb : DE X fld E b mb) (hs : PlainIx b := by exact fun _ _ => rfl) : DE X fld E (.Subscript a b pos) (eOp dIx ma mb) := peImp (pe_ix ix_seq ha hb hs) (up_op od_ix)
/-- a part of a slice -/
def part (m : Option (DEnv → DM RV)) : DEnv → DM (Option Int) := match m with
  | none => fun _ => ret none
  | some m => fun env => bnd (m env) fun r => match r with
    | .d (.int i) => ret (some i)
    | _ => bad
def upO2 (K : PySem.W.Frag) (mg : Str → Option Value) (fld : Str → Str) (E : XK) (m : DEnv → DM (Option Int)) : TO := fun σ H Q => ∃ g s env, GOk K mg g s H ∧ ER K mg g H σ env ∧ Post K mg fld E g H (m env s) fun _ _ H' o => Q o H'
abbrev DPt (X : Cx) (fld : Str → Str) (E : XK) (e : Option Expr) (m : Option (DEnv → DM RV)) : Prop := PO X e (upO2 X.K X.mg fld E (part m))
theorem poImp {e : Option Expr} {t t' : TO} (h : PO X e t) (k : ∀ σ H Q, t' σ H Q → t σ H Q) : PO X e t' := ⟨fun pins s σ H Q I q => h.run pins s σ H Q I (k σ H Q q)⟩
theorem dp_none : DPt X fld E none none := poImp po_none fun σ H Q ⟨g, s, env, ok, er, p⟩ => p g H (.refl ok)
theorem dp_some (h : DE X fld E e m) : DPt X fld E (some e) (some m) := poImp (po_some h) fun σ H Q ⟨g, s, env, ok, er, p⟩ => by
  refine ⟨g, s, env, ok, er, (Post.bind (m := m env) p).mono fun g1 s1 H1 r t1 p1 v rv => ?_⟩
  cases r with
  | box n => exact p1.elim
  | fn n => exact p1.elim
  | d x =>
    cases x with
    | int i => cases rv; exact ⟨i, rfl, p1 g1 H1 (.refl t1.ok)⟩
    | _ => exact p1.elim
def eSl (m : DEnv → DM RV) (lo hi : Option (DEnv → DM RV)) : DEnv → DM RV := fun env => bnd (m env) fun x => bnd (part lo env) fun l => bnd (part hi env) fun h => onD x fun x => dSl x l h
def rSlAll (K : PySem.W.Frag) : V → Option Int → Option Int → Hp → VK → Prop := fun x l h H Q => rSlA K x l h H Q ∨ (rSlL K x l h H Q ∨ rSlS x l h H Q)
theorem sl_all : SlR X (rSlAll X.K) := SlR.or sl_tupA (SlR.or sl_list sl_str)
theorem de_slice {ml mh : Option (DEnv → DM RV)} (h : DE X fld E e m) (hl : DPt X fld E lo ml) (hh : DPt X fld E hi mh) : DE X fld E (.Subscript e (.Slice lo hi none p2) pos) (eSl m ml mh) :=
  peImp (pe_slice sl_all h hl hh) fun σ H Q ⟨g, s, env, ok, er, p⟩ => by
    refine ⟨g, s, env, ok, er, p.bind.mono fun g1 s1 H1 r t1 p1 v rv => ?_⟩
    refine ⟨g1, s1, env, t1.ok, er.step t1, p1.bind.mono fun g2 s2 H2 l t2 p2 => ?_⟩
    refine ⟨g2, s2, env, t2.ok, (er.step t1).step t2, p2.bind.mono fun g3 s3 H3 h t3 p3 => ?_⟩
    obtain ⟨x, rfl, p4⟩ := onD_post p3
    have rx : Rp X.K g3.Z v x := RepV.step (mg := X.mg) (r := .d x) t3 (RepV.step (mg := X.mg) (r := .d x) t2 rv)
    have ok3 := t3.ok
    unfold dSl at p4
    split at p4
    ·       cases rx with
      | tup hs hd =>
        have q1 := sqT_mono ok3.z hs
        refine .inl ⟨_, _, rfl, q1, fun w => ?_, fun _ a ha => post_newT ok3 p4 (rpAll_cut hd) ha⟩
        rw [rpAll_length hd] at w
        refine post_ret ok3 p4 _ ?_
        rw [cut_whole w]
        exact .tup hs hd
    ·       cases rx with
      | lst hs hd => exact .inr (.inl ⟨_, _, rfl, .inl (DL.Rd.mono ok3.z hs), fun a ha => post_newL ok3 p4 (rpAll_cut hd) ha⟩)
    · cases rx
      split at p4
      · rename_i hz
        exact .inr (.inr ⟨_, rfl, hz, post_ret ok3 p4 _ (.str _)⟩)
      · exact p4.elim
    · exact p4.elim

/-! ### tests -/
def asB (r : RV) : DM Bool := match r with
  | .d (.bool b) => ret b
  | _ => bad
def mT (m : DEnv → DM RV) : DEnv → DM Bool := fun env => bnd (m env) asB
theorem asB_post {K : PySem.W.Frag} {mg : Str → Option Value} {g : G} {H : Hp} {s : S} {r : RV} {v : V} {k} (rv : RepV K mg g v r) (h : Post K mg fld E g H (asB r s) k) : ∃ b, r = .d (.bool b) ∧ v = .bl b ∧ Post K mg fld E g H (ret b s) k := by
  cases r with
  | box n => exact h.elim
  | fn n => exact h.elim
  | d x =>
    cases x with
    | bool b => cases rv; exact ⟨b, rfl, rfl, h⟩
    | _ => exact h.elim
theorem up_tst : ∀ σ H Q, upT X.K X.mg fld E (mT m) σ H Q → tB (upE X.K X.mg fld E m) σ H Q := fun σ H Q ⟨g, s, env, ok, er, p⟩ => by
  refine ⟨g, s, env, ok, er, p.bind.mono fun g1 s1 H1 r t1 p1 v rv => ?_⟩
  obtain ⟨b, rfl, rfl, p2⟩ := asB_post rv p1
  exact ⟨b, rfl, p2 g1 H1 (.refl t1.ok)⟩
theorem dt_val (h : DE X fld E e m) (he : ∀ whole, isTrue e X.env whole = (do let v ← whole; standAt e.pos; holding [v] (truthy v)) := by intro _; rfl) : DT X fld E e (mT m) := ptImp (pt_val h he) up_tst
theorem dt_cmp {op : CmpOp} {r : R2} {f : D → D → DM RV} (ho : OpR X (compareOp op) r) (hr : OpD X fld E r f) (ha : DE X fld E a ma) (hb : DE X fld E b mb) (hm : behindInMarks op b = false := by rfl) : DT X fld E (.Compare a [op] [b] pos) (mT (eOp f ma mb)) :=
  ptImp (pt_cmpR ho ha hb hm) fun σ H Q ⟨g, s, env, ok, er, p⟩ => by
    refine up_op hr σ H _ ⟨g, s, env, ok, er, p.bind.mono fun g1 s1 H1 r t1 p1 v rv => ?_⟩
    obtain ⟨b, rfl, rfl, p2⟩ := asB_post rv p1
    exact ⟨b, rfl, p2 g1 H1 (.refl t1.ok)⟩
/-- a op b op' c -/
def eChain (f f' : D → D → DM RV) (a b c : DEnv → DM RV) : DEnv → DM RV := fun env => bnd (a env) fun x => bnd (b env) fun y => bnd (onD x fun x => onD y fun y => f x y) fun r => bnd (asB r) fun t =>
  if t = true then bnd (c env) fun z => onD y fun y => onD z fun z => f' y z else ret (.d (.bool false))
theorem up_chain {r r' : R2} {f f' : D → D → DM RV} (hr : OpD X fld E r f) (hr' : OpD X fld E r' f') (pure1 : ∀ x y s a s', f x y s = .ok a s' → s' = s) : ∀ σ H Q, upE X.K X.mg fld E (eChain f f' ma mb mc) σ H Q →
    tChain r r' (upE X.K X.mg fld E ma) (upE X.K X.mg fld E mb) (upE X.K X.mg fld E mc) σ H Q := by
  rintro σ H Q ⟨g, s, env, ok, er, p⟩
  refine ⟨g, s, env, ok, er, p.bind.mono fun g1 s1 H1 x t1 p1 v rv => ?_⟩
  refine ⟨g1, s1, env, t1.ok, er.step t1, p1.bind.mono fun g2 s2 H2 y t2 p2 u ru => ?_⟩
  have p3 := p2.bind
  obtain ⟨x, ex, p4⟩ := onD_post p3
  obtain ⟨y, ey, p5⟩ := onD_post p4
  subst ex
  subst ey
  refine hr g2 s2 H2 v u x y _ t2.ok (RepV.step (mg := X.mg) (r := .d x) t2 rv) ru (p5.mono fun g3 s3 H3 z t3 p6 w rw' => ?_)
  have p7 := p6.bind
  obtain ⟨b, rfl, rfl, p8⟩ := asB_post rw' p7
  refine ⟨b, rfl, ?_⟩
  have p9 := p8 g3 H3 (.refl t3.ok)
  cases b with
  | false =>
    rw [if_neg (show ¬ false = true by decide)] at p9
    exact iteF (post_ret t3.ok p9 _ (.bl false))
  | true =>
    rw [if_pos rfl] at p9
    refine iteT ⟨g3, s3, env, t3.ok, ((er.step t1).step t2).step t3, p9.bind.mono fun g4 s4 H4 z t4 p10 w rz => ?_⟩
    obtain ⟨y', ey, p11⟩ := onD_post p10
    obtain ⟨z, ez, p12⟩ := onD_post p11
    cases ey
    subst ez
    exact hr' g4 s4 H4 u w y z Q t4.ok (RepV.step (mg := X.mg) (r := .d y) t4 (RepV.step (mg := X.mg) (r := .d y) t3 ru)) rz p12
theorem de_chain {op op' : CmpOp} {r r' : R2} {f f' : D → D → DM RV} (ho : OpR X (compareOp op) r) (ho' : OpR X (compareOp op') r') (hr : OpD X fld E r f) (hr' : OpD X fld E r' f') (pure1 : ∀ x y s a s', f x y s = .ok a s' → s' = s)
    (ha : DE X fld E a ma) (hb : DE X fld E b mb) (hc : DE X fld E c mc) (hm : lastMarks [op, op'] [b, c] = false := by with_unfolding_all rfl) : DE X fld E (.Compare a [op, op'] [b, c] pos) (eChain f f' ma mb mc) :=
  peImp (pe_chain ho ho' ha hb hc hm) (up_chain hr hr' pure1)
theorem dt_chain {op op' : CmpOp} {r r' : R2} {f f' : D → D → DM RV} (ho : OpR X (compareOp op) r) (ho' : OpR X (compareOp op') r') (hr : OpD X fld E r f) (hr' : OpD X fld E r' f') (pure1 : ∀ x y s a s', f x y s = .ok a s' → s' = s)
    (ha : DE X fld E a ma) (hb : DE X fld E b mb) (hc : DE X fld E c mc) (hm : lastMarks [op, op'] [b, c] = false := by with_unfolding_all rfl) : DT X fld E (.Compare a [op, op'] [b, c] pos) (mT (eChain f f' ma mb mc)) :=
  ptImp (pt_chain ho ho' ha hb hc hm) fun σ H Q ⟨g, s, env, ok, er, p⟩ => by
    refine up_chain hr hr' pure1 σ H _ ⟨g, s, env, ok, er, p.bind.mono fun g1 s1 H1 r t1 p1 v rv => ?_⟩
    obtain ⟨b, rfl, rfl, p2⟩ := asB_post rv p1
    exact ⟨b, rfl, p2 g1 H1 (.refl t1.ok)⟩
def mNot (c : DEnv → DM Bool) : DEnv → DM Bool := fun env => bnd (c env) fun b => ret (!b)
def mAnd (a b : DEnv → DM Bool) : DEnv → DM Bool := fun env => bnd (a env) fun t => if t = true then b env else ret false
def mOr (a b : DEnv → DM Bool) : DEnv → DM Bool := fun env => bnd (a env) fun t => if t = true then ret true else b env
variable {ca cb : DEnv → DM Bool} {rest : List Expr}
theorem dt_not (h : DT X fld E a ca) : DT X fld E (.UnaryOp .Not a pos) (mNot ca) := ptImp (pt_not h) fun σ H Q ⟨g, s, env, ok, er, p⟩ =>
  ⟨g, s, env, ok, er, p.bind.mono fun g1 s1 H1 b t1 p1 => p1 g1 H1 (.refl t1.ok)⟩
abbrev DW (X : Cx) (fld : Str → Str) (E : XK) (e : Expr) (m : DEnv → DM Bool) : Prop := PW X e (upT X.K X.mg fld E m)
theorem pwImp {e : Expr} {t t' : TT} (h : PW X e t) (k : ∀ σ H Q, t' σ H Q → t σ H Q) : PW X e t' := ⟨fun wh pins s σ H Q I q => h.run wh pins s σ H Q I (k σ H Q q)⟩
theorem dw_and1 (h : DT X fld E a ca) : DW X fld E (.BoolOp .And [a] pos) ca := pw_and1 h
theorem dw_or1 (h : DT X fld E a ca) : DW X fld E (.BoolOp .Or [a] pos) ca := pw_or1 h
theorem dw_and (h : DT X fld E a ca) (h2 : DW X fld E (.BoolOp .And (b :: rest) pos) cb) : DW X fld E (.BoolOp .And (a :: b :: rest) pos) (mAnd ca cb) := pwImp (pw_and h h2) fun σ H Q ⟨g, s, env, ok, er, p⟩ =>
  ⟨g, s, env, ok, er, p.bind.mono fun g1 s1 H1 b t1 p1 => by
    cases b with
    | false => rw [if_neg (show ¬ false = true by decide)] at p1; exact iteF (p1 g1 H1 (.refl t1.ok))
    | true => rw [if_pos rfl] at p1; exact iteT ⟨g1, s1, env, t1.ok, er.step t1, p1⟩⟩
theorem dw_or (h : DT X fld E a ca) (h2 : DW X fld E (.BoolOp .Or (b :: rest) pos) cb) : DW X fld E (.BoolOp .Or (a :: b :: rest) pos) (mOr ca cb) := pwImp (pw_or h h2) fun σ H Q ⟨g, s, env, ok, er, p⟩ =>
  ⟨g, s, env, ok, er, p.bind.mono fun g1 s1 H1 b t1 p1 => by
    cases b with
    | false => rw [if_neg (show ¬ false = true by decide)] at p1; exact iteF ⟨g1, s1, env, t1.ok, er.step t1, p1⟩
    | true => rw [if_pos rfl] at p1; exact iteT (p1 g1 H1 (.refl t1.ok))⟩
theorem dt_w (h : DW X fld E a ca) : DT X fld E a ca := h.pt
/-- .. as values -/
def eNot (m : DEnv → DM RV) : DEnv → DM RV := fun env => bnd (m env) fun r => bnd (asB r) fun b => dB (!b)
def eAnd (a b : DEnv → DM RV) : DEnv → DM RV := fun env => bnd (a env) fun r => bnd (asB r) fun t => if t = true then b env else dB false
def eOr (a b : DEnv → DM RV) : DEnv → DM RV := fun env => bnd (a env) fun r => bnd (asB r) fun t => if t = true then dB true else b env
theorem de_not (h : DE X fld E a ma) : DE X fld E (.UnaryOp .Not a pos) (eNot ma) := peImp (pe_not h) fun σ H Q ⟨g, s, env, ok, er, p⟩ =>
  ⟨g, s, env, ok, er, p.bind.mono fun g1 s1 H1 r t1 p1 v rv => by
    obtain ⟨b, rfl, rfl, p2⟩ := asB_post rv p1.bind
    exact ⟨b, rfl, post_b t1.ok (p2 g1 H1 (.refl t1.ok))⟩⟩
theorem de_one {op} (h : DE X fld E a ma) : DE X fld E (.BoolOp op [a] pos) ma := pe_one h
theorem de_and (h : DE X fld E a ma) (h2 : DE X fld E (.BoolOp .And (b :: rest) pos) mb) : DE X fld E (.BoolOp .And (a :: b :: rest) pos) (eAnd ma mb) := peImp (pe_and h h2) fun σ H Q ⟨g, s, env, ok, er, p⟩ =>
  ⟨g, s, env, ok, er, p.bind.mono fun g1 s1 H1 r t1 p1 v rv => by
    obtain ⟨b, rfl, rfl, p2⟩ := asB_post rv p1.bind
    refine ⟨b, rfl, ?_⟩
    have p3 := p2 g1 H1 (.refl t1.ok)
    cases b with
    | false => rw [if_neg (show ¬ false = true by decide)] at p3; exact iteF (post_b t1.ok p3)
    | true => rw [if_pos rfl] at p3; exact iteT ⟨g1, s1, env, t1.ok, er.step t1, p3⟩⟩
theorem de_or (h : DE X fld E a ma) (h2 : DE X fld E (.BoolOp .Or (b :: rest) pos) mb) : DE X fld E (.BoolOp .Or (a :: b :: rest) pos) (eOr ma mb) := peImp (pe_or h h2) fun σ H Q ⟨g, s, env, ok, er, p⟩ =>
  ⟨g, s, env, ok, er, p.bind.mono fun g1 s1 H1 r t1 p1 v rv => by
    obtain ⟨b, rfl, rfl, p2⟩ := asB_post rv p1.bind
    refine ⟨b, rfl, ?_⟩
    have p3 := p2 g1 H1 (.refl t1.ok)
    cases b with
    | false => rw [if_neg (show ¬ false = true by decide)] at p3; exact iteF ⟨g1, s1, env, t1.ok, er.step t1, p3⟩
    | true => rw [if_pos rfl] at p3; exact iteT (post_b t1.ok p3)⟩
def eIf (c : DEnv → DM Bool) (a b : DEnv → DM RV) : DEnv → DM RV := fun env => bnd (c env) fun t => if t = true then a env else b env
theorem de_if (hc : DT X fld E c ca) (ha : DE X fld E a ma) (hb : DE X fld E b mb) : DE X fld E (.IfExp c a b pos) (eIf ca ma mb) := peImp (pe_ifExp hc ha hb) fun σ H Q ⟨g, s, env, ok, er, p⟩ =>
  ⟨g, s, env, ok, er, p.bind.mono fun g1 s1 H1 b t1 p1 => by
    cases b with
    | false => rw [if_neg (show ¬ false = true by decide)] at p1; exact iteF ⟨g1, s1, env, t1.ok, er.step t1, p1⟩
    | true => rw [if_pos rfl] at p1; exact iteT ⟨g1, s1, env, t1.ok, er.step t1, p1⟩⟩

/-! ### built-in functions -/
def CallD (X : Cx) (fld : Str → Str) (E : XK) (r : List V → Hp → VK → Prop) (f : List RV → DM RV) : Prop := ∀ (g : G) (s : S) (H : Hp) (vs : List V) (rs : List RV) (Q : VK), GOk X.K X.mg g s H → Paired (RepV X.K X.mg g) vs rs →
  Post X.K X.mg fld E g H (f rs s) (fun g' _ H' r => ∀ v, RepV X.K X.mg g' v r → Q v H') → r vs H Q
def eCB (f : List RV → DM RV) (a : DEnv → DM (List RV)) : DEnv → DM RV := fun env => bnd (a env) f
variable {x : Str} {p pos : Pos} {es : List Expr} {id T : String} {r : List V → Hp → VK → Prop} {f : List RV → DM RV} {as : DEnv → DM (List RV)}
theorem up_cb (hd : CallD X fld E r f) : ∀ σ H Q, upE X.K X.mg fld E (eCB f as) σ H Q → tCB r (upA X.K X.mg fld E as) σ H Q := fun σ H Q ⟨g, s, env, ok, er, p⟩ =>
  ⟨g, s, env, ok, er, p.bind.mono fun g1 s1 H1 rs t1 p1 vs rvs => hd g1 s1 H1 vs rs Q t1.ok rvs p1⟩
theorem de_cb (hc : CallR X (.builtin id) r) (hd : CallD X fld E r f) (hg : Gl X x) (hm : X.mg x = none) (hv : bootBuiltins x = some (.builtin id)) (ha : DA X fld E (e :: es) as) (hn : x ≠ "__name__" := by decide) (hdb : (x == ("__debug__" : Str)) = false := by decide)
    (he : starEach (e :: es) X.env = (false, eval e X.env) :: starEach es X.env := by rfl) (hpl : (backTo pos (starEach es X.env)).any (·.1) = false := by rfl) : DE X fld E (.Call (.Name x p) (e :: es) [] pos) (eCB f as) :=
  peImp (pe_callB hc hg hm hv ha hn hdb he hpl) (up_cb hd)
theorem de_ct (hc : CallR X (.type T) r) (hd : CallD X fld E r f) (hg : Gl X x) (hm : X.mg x = none) (hv : bootBuiltins x = some (.type T)) (ha : DA X fld E (e :: es) as) (hn : x ≠ "__name__" := by decide) (hdb : (x == ("__debug__" : Str)) = false := by decide)
    (he : starEach (e :: es) X.env = (false, eval e X.env) :: starEach es X.env := by rfl) (hpl : (backTo pos (starEach es X.env)).any (·.1) = false := by rfl) : DE X fld E (.Call (.Name x p) (e :: es) [] pos) (eCB f as) :=
  peImp (pe_callTy hc hg hm hv ha hn hdb he hpl) (up_cb hd)
/-- one argument that is data -/
def on1 (f : D → DM RV) : List RV → DM RV
  | [.d x] => f x
  | _ => bad
def on2 (f : D → D → DM RV) : List RV → DM RV
  | [.d x, .d y] => f x y
  | _ => bad
theorem cd_1 {r : List V → Hp → VK → Prop} {f : D → DM RV} (h : ∀ (g : G) (s : S) (H : Hp) (v : V) (x : D) (Q : VK), GOk X.K X.mg g s H → Rp X.K g.Z v x → Post X.K X.mg fld E g H (f x s) (K0 X.K X.mg Q) → r [v] H Q) : CallD X fld E r (on1 f) := by
  intro g s H vs rs Q ok rr p
  unfold on1 at p
  split at p
  · cases rr with
    | cons r1 r2 => cases r2; exact h g s H _ _ Q ok r1 p
  · exact p.elim
theorem cd_2 {r : List V → Hp → VK → Prop} {f : D → D → DM RV} (h : ∀ (g : G) (s : S) (H : Hp) (v u : V) (x y : D) (Q : VK), GOk X.K X.mg g s H → Rp X.K g.Z v x → Rp X.K g.Z u y → Post X.K X.mg fld E g H (f x y s) (K0 X.K X.mg Q) → r [v, u] H Q) : CallD X fld E r (on2 f) := by
  intro g s H vs rs Q ok rr p
  unfold on2 at p
  split at p
  · cases rr with
    | cons r1 r2 =>
      cases r2 with
      | cons r2 r3 => cases r3; exact h g s H _ _ _ _ Q ok r1 r2 p
  · exact p.elim
def dLen : D → DM RV
  | .tuple l => dI l.length
  | .list l => dI l.length
  | .str z => if z.length ≤ sizeLine then dI z.length else bad
  | _ => bad
theorem cd_len : CallD X fld E (fun xs H Q => ∃ x n, xs = [x] ∧ LenV X.K x H n ∧ Q (.int n) H) (on1 dLen) := cd_1 fun g s H v x Q ok rx p => by
  unfold dLen at p
  split at p
  · cases rx with
    | tup hs hd => exact ⟨_, _, rfl, .inr ⟨_, sqT_mono ok.z hs, (rpAll_length hd).symm⟩, post_i ok p⟩
  · cases rx with
    | lst hs hd => exact ⟨_, _, rfl, .inl ⟨_, .inl (DL.Rd.mono ok.z hs), (rpAll_length hd).symm⟩, post_i ok p⟩
  · cases rx
    split at p
    · rename_i hz
      exact ⟨_, _, rfl, ⟨hz, rfl⟩, post_i ok p⟩
    · exact p.elim
  · exact p.elim
def dAbs : D → DM RV
  | .int i => dI (if i < 0 then -i else i)
  | _ => bad
theorem cd_abs : CallD X fld E (fun xs H Q => ∃ i, xs = [.int i] ∧ Q (.int (if i < 0 then -i else i)) H) (on1 dAbs) := cd_1 fun g s H v x Q ok rx p => by
  unfold dAbs at p
  split at p
  · cases rx; exact ⟨_, rfl, post_i ok p⟩
  · exact p.elim
def dInt : D → DM RV
  | .int i => dI i
  | .bool b => dI (if b then 1 else 0)
  | _ => bad
theorem cd_int : CallD X fld E (fun xs H Q => (∃ i, xs = [.int i] ∧ Q (.int i) H) ∨ ∃ k, xs = [.bl k] ∧ Q (.int (if k then 1 else 0)) H) (on1 dInt) := cd_1 fun g s H v x Q ok rx p => by
  unfold dInt at p
  split at p
  · cases rx; exact .inl ⟨_, rfl, post_i ok p⟩
  · cases rx; exact .inr ⟨_, rfl, post_i ok p⟩
  · exact p.elim
def dMax2 : D → D → DM RV
  | .int i, .int j => dI (if j > i then j else i)
  | _, _ => bad
def dMin2 : D → D → DM RV
  | .int i, .int j => dI (if j < i then j else i)
  | _, _ => bad
theorem cd_max2 : CallD X fld E (fun xs H Q => ∃ i j, xs = [.int i, .int j] ∧ Q (.int (if j > i then j else i)) H) (on2 dMax2) := cd_2 fun g s H v u x y Q ok rx ry p => by
  unfold dMax2 at p
  split at p
  · cases rx; cases ry; exact ⟨_, _, rfl, post_i ok p⟩
  · exact p.elim
theorem cd_min2 : CallD X fld E (fun xs H Q => ∃ i j, xs = [.int i, .int j] ∧ Q (.int (if j < i then j else i)) H) (on2 dMin2) := cd_2 fun g s H v u x y Q ok rx ry p => by
  unfold dMin2 at p
  split at p
  · cases rx; cases ry; exact ⟨_, _, rfl, post_i ok p⟩
  · exact p.elim
def intsOf : List D → Option (List Int)
  | [] => some []
  | .int i :: l => (intsOf l).map (i :: ·)
  | _ => none
def bolsOf : List D → Option (List Bool)
  | [] => some []
  | .bool i :: l => (bolsOf l).map (i :: ·)
  | _ => none
theorem rpAll_ints {K : PySem.W.Frag} {Z : Hp} : ∀ {l : List D} {xs : List V} {ns : List Int}, RpAll K Z xs l → intsOf l = some ns → xs = ns.map V.int
  | [], xs, ns, h, e => by cases h; cases e; rfl
  | .int i :: l, xs, ns, h, e => by
    cases h with
    | cons h1 h2 =>
      cases h1
      unfold intsOf at e
      cases q : intsOf l with
      | none => rw [q] at e; cases e
      | some ms => rw [q] at e; cases e; rw [rpAll_ints h2 q]; rfl
theorem rpAll_bols {K : PySem.W.Frag} {Z : Hp} : ∀ {l : List D} {xs : List V} {ns : List Bool}, RpAll K Z xs l → bolsOf l = some ns → xs = ns.map V.bl
  | [], xs, ns, h, e => by cases h; cases e; rfl
  | .bool i :: l, xs, ns, h, e => by
    cases h with
    | cons h1 h2 =>
      cases h1
      unfold bolsOf at e
      cases q : bolsOf l with
      | none => rw [q] at e; cases e
      | some ms => rw [q] at e; cases e; rw [rpAll_bols h2 q]; rfl
def dSum : D → DM RV
  | .list l => optM (intsOf l) fun ns => dI ns.sum
  | _ => bad
theorem cd_sum : CallD X fld E (rSum X.K) (on1 dSum) := cd_1 fun g s H v x Q ok rx p => by
  unfold dSum at p
  split at p
  · cases rx with
    | lst hs hd =>
      obtain ⟨ns, q, p⟩ := optM_post p
      have e := rpAll_ints hd q
      subst e
      exact ⟨_, ns, rfl, .inl (DL.Rd.mono ok.z hs), post_i ok p⟩
  · exact p.elim
def dAll : D → DM RV
  | .list l => optM (bolsOf l) fun ns => dB (ns.all fun b => b)
  | _ => bad
def dAny : D → DM RV
  | .list l => optM (bolsOf l) fun ns => dB (ns.any fun b => b)
  | _ => bad
theorem cd_all : CallD X fld E (rAll X.K) (on1 dAll) := cd_1 fun g s H v x Q ok rx p => by
  unfold dAll at p
  split at p
  · cases rx with
    | lst hs hd =>
      obtain ⟨ns, q, p⟩ := optM_post p
      have e := rpAll_bols hd q
      subst e
      exact ⟨_, ns, rfl, .inl (DL.Rd.mono ok.z hs), post_b ok p⟩
  · exact p.elim
theorem cd_any : CallD X fld E (rAny X.K) (on1 dAny) := cd_1 fun g s H v x Q ok rx p => by
  unfold dAny at p
  split at p
  · cases rx with
    | lst hs hd =>
      obtain ⟨ns, q, p⟩ := optM_post p
      have e := rpAll_bols hd q
      subst e
      exact ⟨_, ns, rfl, .inl (DL.Rd.mono ok.z hs), post_b ok p⟩
  · exact p.elim
def dTuple : D → DM RV
  | .list l => ret (.d (.tuple l))
  | .tuple l => ret (.d (.tuple l))
  | _ => bad
theorem cd_tuple : CallD X fld E (fun xs H Q => ∃ p ys, xs = [.ref p] ∧ ((SqL X.K H p ys ∧ ∀ l, H l = none → Q (.ref l) (upd H l (.tup ys))) ∨ (SqT X.K H p ys ∧ Q (.ref p) H))) (on1 dTuple) := cd_1 fun g s H v x Q ok rx p => by
  unfold dTuple at p
  split at p
  · cases rx with
    | lst hs hd => exact ⟨_, _, rfl, .inl ⟨.inl (DL.Rd.mono ok.z hs), fun a ha => post_newT ok p hd ha⟩⟩
  · cases rx with
    | tup hs hd => exact ⟨_, _, rfl, .inr ⟨sqT_mono ok.z hs, post_ret ok p _ (.tup hs hd)⟩⟩
  · exact p.elim
def dList : D → DM RV
  | .list l => ret (.d (.list l))
  | .tuple l => ret (.d (.list l))
  | _ => bad
theorem cd_list : CallD X fld E (fun xs H Q => ∃ p ys, xs = [.ref p] ∧ (SqL X.K H p ys ∨ SqT X.K H p ys) ∧ ∀ l, H l = none → Q (.ref l) (upd H l (.lst ys))) (on1 dList) := cd_1 fun g s H v x Q ok rx p => by
  unfold dList at p
  split at p
  · cases rx with
    | lst hs hd => exact ⟨_, _, rfl, .inl (.inl (DL.Rd.mono ok.z hs)), fun a ha => post_newL ok p hd ha⟩
  · cases rx with
    | tup hs hd => exact ⟨_, _, rfl, .inr (sqT_mono ok.z hs), fun a ha => post_newL ok p hd ha⟩
  · exact p.elim
def dDivmod : D → D → DM RV
  | .int i, .int j => if 0 < j ∧ j < 1073741824 then ret (.d (.tuple [.int (i / j), .int (i % j)])) else bad
  | _, _ => bad
theorem cd_divmod : CallD X fld E (fun xs H Q => ∃ i j, xs = [.int i, .int j] ∧ CDiv i j ∧ ∀ p, H p = none → Q (.ref p) (upd H p (.tup [.int (i / j), .int (i % j)]))) (on2 dDivmod) := cd_2 fun g s H v u x y Q ok rx ry p => by
  unfold dDivmod at p
  split at p
  · cases rx; cases ry
    split at p
    · rename_i h
      exact ⟨_, _, rfl, h, fun a ha => post_newT ok p (.cons (.int _) (.cons (.int _) .nil)) ha⟩
    · exact p.elim
  · exact p.elim
/-! isinstance -/
def tyD : D → String
  | .none => "NoneType"
  | .bool _ => "bool"
  | .int _ => "int"
  | .str _ => "str"
  | .list _ => "list"
  | .tuple _ => "tuple"
  | .dict _ => "dict"
theorem rp_ty {K : PySem.W.Frag} {mg : Str → Option Value} {g : G} {s : S} {H : Hp} {v : V} {x : D} (ok : GOk K mg g s H) (r : Rp K g.Z v x) : TyX K H v (.type (tyD x)) := by
  cases r with
  | non => exact .base .non
  | bl b => exact .base (.bl b)
  | int i => exact .base (.int i)
  | str x => exact .base (.str x)
  | lst hs hd =>
    rcases hs with hs | ⟨o, hs⟩
    · exact .base (.lst (ok.z _ _ hs))
    · exact .base (.frz (ok.z _ _ hs))
  | tup hs hd =>
    rcases hs with (hs | ⟨o, hs⟩) | ⟨o, its, n, h1, h2, _⟩
    · exact .base (.tup (ok.z _ _ hs))
    · exact .fTuple (ok.z _ _ hs)
    · exact .kTuple h1 h2
def eIsi (f : D → Bool) (m : DEnv → DM RV) : DEnv → DM RV := fun env => bnd (m env) fun r => onD r fun x => dB (f x)
theorem de_isi {T : String} {xT : Str} {f : D → Bool} {p2 : Pos} (hf : ∀ x, kitB (tyD x) T = some (f x)) (hg : Gl X "isinstance") (hm : X.mg "isinstance" = none) (hg2 : Gl X xT) (hm2 : X.mg xT = none) (hv2 : bootBuiltins xT = some (.type T)) (h : DE X fld E e m)
    (hv : bootBuiltins "isinstance" = some (.builtin "isinstance") := by decide +kernel) (hn : xT ≠ "__name__" := by decide) (hdb : (xT == ("__debug__" : Str)) = false := by decide)
    (hs : starEach [e, .Name xT p2] X.env = [(false, eval e X.env), (false, eval (.Name xT p2) X.env)] := by rfl) : DE X fld E (.Call (.Name "isinstance" p) [e, .Name xT p2] [] pos) (eIsi f m) :=
  peImp (pe_callB call_isi hg hm hv (pa_cons h (pa_cons (pe_bltn (v := .ty T) hg2 hm2 hv2 rfl hn hdb) pa_nil) hs) (he := hs)) fun σ H Q ⟨g, s, env, ok, er, pp⟩ => by
    refine ⟨g, s, env, ok, er, pp.bind.mono fun g1 s1 H1 r t1 p1 v rv => ?_⟩
    obtain ⟨x, rfl, p2⟩ := onD_post p1
    exact ⟨v, .ty T, _, _, f x, rfl, .ty T, rp_ty t1.ok rv, kit_ty (hf x), post_b t1.ok p2⟩
def isIntD : D → Bool
  | .int _ => true
  | .bool _ => true
  | _ => false
def isBoolD : D → Bool
  | .bool _ => true
  | _ => false
def isStrD : D → Bool
  | .str _ => true
  | _ => false
def isTupD : D → Bool
  | .tuple _ => true
  | _ => false
def isLstD : D → Bool
  | .list _ => true
  | _ => false
theorem kit_int (x : D) : kitB (tyD x) "int" = some (isIntD x) := by cases x <;> (show kitB _ _ = some _; simp only [tyD, isIntD]; decide +kernel)
theorem kit_bool (x : D) : kitB (tyD x) "bool" = some (isBoolD x) := by cases x <;> (simp only [tyD, isBoolD]; decide +kernel)
theorem kit_str (x : D) : kitB (tyD x) "str" = some (isStrD x) := by cases x <;> (simp only [tyD, isStrD]; decide +kernel)
theorem kit_tuple (x : D) : kitB (tyD x) "tuple" = some (isTupD x) := by cases x <;> (simp only [tyD, isTupD]; decide +kernel)
theorem kit_list (x : D) : kitB (tyD x) "list" = some (isLstD x) := by cases x <;> (simp only [tyD, isLstD]; decide +kernel)
end
end DL
namespace DL
open PySem PySem.Spec L2
open PyProof.Rows hiding St

/-! ### repr of data -/
mutual
theorem dp_nodict {K : PySem.W.Frag} {H : Hp} : ∀ (d : D) (v : V), Dp K H v d → d.hasDict = false
  | .none, _, _ => rfl
  | .bool _, _, _ => rfl
  | .int _, _, _ => rfl
  | .str _, _, _ => rfl
  | .list ds, _, r => by
    cases r with
    | lst hs ha => simp only [PyData.hasDict]; exact dpAll_nodict ds _ ha
  | .tuple ds, _, r => by
    cases r with
    | tup hs ha => simp only [PyData.hasDict]; exact dpAll_nodict ds _ ha
  | .dict _, _, r => by cases r
theorem dpAll_nodict {K : PySem.W.Frag} {H : Hp} : ∀ (ds : List D) (vs : List V), DpAll K H vs ds → PyData.hasDictAll ds = false
  | [], _, _ => rfl
  | d :: ds, _, r => by
    cases r with
    | cons r1 r2 => simp only [PyData.hasDictAll, dp_nodict d _ r1, dpAll_nodict ds _ r2, Bool.or_false]
end
/-- what repr gives -/
def reprD (x : D) : Option Str := if PyData.showable x = true ∧ SeqAt.shaped x = true ∧ x.shown.length ≤ sizeLine then some x.shown else none
def dRepr (x : D) : DM RV := optM (reprD x) fun z => ret (.d (.str z))
section
variable {X : Cx} {fld : Str → Str} {E : XK}
def rRepr (K : PySem.W.Frag) : List V → Hp → VK → Prop := fun xs H Q => ∃ v d, xs = [v] ∧ Dp K H v d ∧ PyData.showable d = true ∧ SeqAt.shaped d = true ∧ d.shown.length ≤ sizeLine ∧ Q (.str d.shown) H
theorem call_reprD (hg : X.A.guards = some []) (hu : X.A.units + 66 < cLine) : CallR X (.builtin "repr") (rRepr X.K) := by
  intro pins s σ H xs us Q I r h
  obtain ⟨v, d, rfl, hd, h1, h2, h3, q⟩ := h
  obtain ⟨u, rfl, rx⟩ := vals1 r
  have fin : ∀ (h' : Heap) (tk : Tok) (tk' : Nat), (∀ b o, s.heap.get? b = some o → h'.get? b = some o) → EP X pins σ Q (.str d.shown tk) { s with heap := h', toks := tk' } := fun h' tk tk' k => ⟨.str d.shown, H, I.kept k, ⟨_, rfl⟩, q⟩
  have hdep : d.depth ≤ 64 := by
    have h2' : (d.canLay0 && decide (d.depth ≤ 64)) = true := h2
    rw [Bool.and_eq_true] at h2'
    exact of_decide_eq_true h2'.2
  cases d with
  | none => cases hd; cases rx; exact PySem.P.repr_of_none (fin s.heap _ _ fun _ _ e => e)
  | bool b => cases hd; cases rx; exact PySem.P.repr_of_bool (fin s.heap _ _ fun _ _ e => e)
  | int i =>
    cases hd
    obtain ⟨t, rfl⟩ := rx
    refine PySem.P.repr_of_int ?_ (fin s.heap _ _ fun _ _ e => e)
    simpa [PyData.showable] using h1
  | str x =>
    cases hd
    obtain ⟨t, rfl⟩ := rx
    exact PySem.P.repr_of_str (fin s.heap _ _ fun _ _ e => e) h3
  | list ds =>
    obtain ⟨as, rr⟩ := Dp.reads I (.list ds) v u hd rx
    cases hd
    cases rx
    exact repr_of_reads' rr h1 (fun z => by rw [dp_nodict (.list ds) _ (.lst (by assumption) (by assumption))] at z; cases z) hg (by omega) (fun _ _ e => e) (fun h' u tk k => fin h' u tk k) h3
  | tuple ds =>
    obtain ⟨as, rr⟩ := Dp.reads I (.tuple ds) v u hd rx
    cases hd
    cases rx
    exact repr_of_reads' rr h1 (fun z => by rw [dp_nodict (.tuple ds) _ (.tup (by assumption) (by assumption))] at z; cases z) hg (by omega) (fun _ _ e => e) (fun h' u tk k => fin h' u tk k) h3
  | dict _ => cases hd
theorem cd_repr : CallD X fld E (rRepr X.K) (on1 dRepr) := cd_1 fun g s H v x Q ok rx p => by
  obtain ⟨z, e, p⟩ := optM_post p
  unfold reprD at e
  split at e
  · rename_i h
    cases e
    exact ⟨v, x, rfl, rx.dpH ok, h.1, h.2.1, h.2.2, post_ret ok p _ (.str _)⟩
  · cases e

/-! ### t.index(x) of a written tuple -/
def rTIndex (K : PySem.W.Frag) : V → List V → Hp → VK → Prop := fun x xs H Q => ∃ (a : Addr) (y : V) (d : D) (ds : List D) (j : Nat) (z : D), x = V.ref a ∧ xs = [y] ∧ Dp K H (V.ref a) (.tuple ds) ∧ Dp K H y d ∧
  SeqAt.shaped (.tuple ds) = true ∧ SeqAt.shaped d = true ∧ ds[j]? = some z ∧ PyData.eqv z d = true ∧ (∀ (m : Nat) (z' : D), m < j → ds[m]? = some z' → PyData.eqv z' d = false) ∧ Q (.int (j : Nat)) H
theorem mt_tindex (hu : X.A.units + 65 < cLine) : MtR X "tuple.index" (rTIndex X.K) := by
  intro pins s σ H x xs v us Q I rx rxs h
  obtain ⟨a, y, d, ds, j, z, rfl, rfl, hl, hy, sl, sd, hz, hzj, hno, q⟩ := h
  cases rx
  cases rxs with
  | cons ry rt =>
    rename_i uy ut
    cases rt
    obtain ⟨bs, r1⟩ := Dp.reads I d y uy hy ry
    have hxs : PyData.canLayAll0 ds = true := SeqAt.canLay_of_shaped sl
    have hroom : X.A.units + 1 + min (PyData.depthAll ds) d.depth < cLine := room_in_shaped sd hu
    cases hl with
    | tup hs ha =>
      obtain ⟨its, rv, ⟨⟨cls, dd, data, sls⟩, ho, hc, n, hdt⟩, hlen⟩ := I.tuple hs
      simp only at hc hdt
      subst hc hdt
      obtain ⟨as, h4⟩ := Dp.readsAll I ds _ its ha rv
      have hn : its.length = ds.length := SeqAt.ReadsAll.length ds its as h4
      have hmap : its.map (SeqAt.readOf s.heap) = ds := SeqAt.readsAll_map ds its as hxs h4
      obtain ⟨hjd, _⟩ := List.getElem?_eq_some_iff.mp hz
      have hjl : j < its.length := by omega
      have hj : j < its.toArray.size := by simpa using hjl
      have at_ : ∀ (m : Nat) (hm : m < its.length) (z' : D), ds[m]? = some z' → SeqAt.readOf s.heap its[m] = z' := by
        intro m hm z' hz'
        rw [← hmap, List.getElem?_map, List.getElem?_eq_getElem hm] at hz'
        exact Option.some.inj (show some (SeqAt.readOf s.heap its[m]) = some z' from hz')
      refine call_meets PySem.F.slot_tuple_index ⟨_, ho, rfl⟩ PySem.F.entry_tuple_index (PySem.F.args_tuple_index_2 _ _)
        (SeqAt.tuple_index2_found a its.toArray n dd sls uy (fun m => match its[m]? with | some w => PyData.eqv (SeqAt.readOf s.heap w) d | none => false) j hj (Nat.zero_le _) hj ?_ ?_) ⟨ho, fun m hm => ?_, ?_⟩
      · show (match its[j]? with | some w => PyData.eqv (SeqAt.readOf s.heap w) d | none => false) = true
        rw [List.getElem?_eq_getElem hjl]
        show PyData.eqv (SeqAt.readOf s.heap its[j]) d = true
        rw [at_ j hjl z hz]
        exact hzj
      · intro m hm _ hmj
        have hml : m < its.length := by simpa using hm
        have hz' : ds[m]? = some ds[m] := List.getElem?_eq_getElem (by omega)
        show (match its[m]? with | some w => PyData.eqv (SeqAt.readOf s.heap w) d | none => false) = false
        rw [List.getElem?_eq_getElem hml]
        show PyData.eqv (SeqAt.readOf s.heap its[m]) d = false
        rw [at_ m hml _ hz']
        exact hno m _ hmj hz'
      · have hml : m < its.length := by simpa using hm
        have e := SeqAt.items_eqAt (vs := its.toArray) (show ReadsAll s.heap its.toArray.toList ds as from h4) r1 hxs (SeqAt.canLay_of_shaped sd) hroom its[m] (by simp)
        show SeqAt.EqAt X.A.in1 s its.toArray[m] uy (match its[m]? with | some w => PyData.eqv (SeqAt.readOf s.heap w) d | none => false)
        rw [List.getElem?_eq_getElem hml]
        exact e
      · exact ⟨.int (j : Nat), H, I.tok _, ⟨_, rfl⟩, q⟩
/-- the first place of an equal one -/
def idxD (d : D) : List D → Option Nat
  | [] => none
  | z :: l => if PyData.eqv z d = true then some 0 else (idxD d l).map (· + 1)
theorem idxD_spec {d : D} : ∀ {l : List D} {j : Nat}, idxD d l = some j → ∃ z, l[j]? = some z ∧ PyData.eqv z d = true ∧ ∀ (m : Nat) (z' : D), m < j → l[m]? = some z' → PyData.eqv z' d = false
  | [], j, h => by cases h
  | z :: l, j, h => by
    unfold idxD at h
    by_cases q : PyData.eqv z d = true
    · rw [if_pos q] at h
      cases h
      exact ⟨z, rfl, q, fun m z' hm => absurd hm (Nat.not_lt_zero _)⟩
    · rw [if_neg q] at h
      cases e : idxD d l with
      | none => rw [e] at h; cases h
      | some i =>
        rw [e] at h
        cases h
        obtain ⟨w, h1, h2, h3⟩ := idxD_spec e
        refine ⟨w, by simpa using h1, h2, fun m z' hm hz => ?_⟩
        cases m with
        | zero =>
          simp at hz
          subst hz
          cases w' : PyData.eqv z d with
          | true => exact absurd w' q
          | false => rfl
        | succ m => exact h3 m z' (Nat.lt_of_succ_lt_succ hm) (by simpa using hz)
def dTIndex (ds : List D) : D → DM RV := fun x => if SeqAt.shaped x = true ∧ SeqAt.shaped (.tuple ds) = true then optM (idxD x ds) fun j => dI (j : Nat) else bad
def eTIndex (ds : List D) (m : DEnv → DM RV) : DEnv → DM RV := fun env => bnd (m env) fun r => onD r (dTIndex ds)
theorem de_tindex {x : Str} {a : Addr} {ds : List D} {e : Expr} {m : DEnv → DM RV} {p apos cpos : Pos} (hu : X.A.units + 65 < cLine) (hg : Gl X x) (hm : X.mg x = some (.ref a)) (hty : ∃ o, X.K.lookup a = some o ∧ o.cls = .type "tuple" ∧ o.dict = none) (hd : ∀ Z, Rp X.K Z (.ref a) (.tuple ds)) (h : DE X fld E e m)
    (hbase : attributeBase (.Name x p) "index" X.env (eval (.Name x p) X.env) = eval (.Name x p) X.env := by rfl)
    (hfew : ((backTo cpos (starEach [e] X.env)).all (fun x => !x.1) && (backToKw cpos (keywordEach [] X.env)).all (fun x => x.1.isSome)
      && decide ([e].length + ([] : List Keyword).length + (if ([] : List Keyword).isEmpty then 0 else 1) < 30)) = true := by rfl)
    (hline : (apos.endLine == cpos.line) = true := by rfl) (hs : starEach [e] X.env = (false, eval e X.env) :: starEach [] X.env := by rfl) (h1 : (x == ("__debug__" : Str)) = false := by decide) :
    DE X fld E (.Call (.Attribute (.Name x p) "index" apos) [e] [] cpos) (eTIndex ds m) :=
  peImp (pe_bm PySem.F.plainAttrs_tuple PySem.F.slot_tuple_index PySem.F.type_tuple_index (mt_tindex hu) (pe_glob (v := .ref a) hg hm rfl h1) (pa_cons h pa_nil hs) hbase hfew hline hs rfl) fun σ H Q ⟨g, s, env, ok, er, p⟩ => by
    refine ⟨.inr (.inl ⟨rfl, hty⟩), g, s, env, ok, er, p.bind.mono fun g1 s1 H1 r t1 p1 v rv => ?_⟩
    obtain ⟨x, rfl, p2⟩ := onD_post p1
    unfold dTIndex at p2
    split at p2
    · rename_i hsh
      obtain ⟨j, ej, p3⟩ := optM_post p2
      obtain ⟨z, h1, h2, h3⟩ := idxD_spec ej
      exact ⟨a, v, x, ds, j, z, rfl, rfl, (hd g1.Z).dpH t1.ok, Rp.dpH t1.ok rv, hsh.2, hsh.1, h1, h2, h3, post_i t1.ok p3⟩
    · exact p2.elim

/-! ### a list of one's own, appended to -/
/-- the slot's own list, or nothing -/
def ownAt (env : DEnv) (i : Nat) : Option (List RV) := match env[i]? with
  | some (some (.own l)) => some l
  | _ => none
theorem ownAt_some {env : DEnv} {i : Nat} {l : List RV} (h : ownAt env i = some l) : env[i]? = some (some (.own l)) := by
  unfold ownAt at h
  split at h
  · cases h; assumption
  · cases h
def optF {α : Type} (o : Option α) (f : α → DM Fl) : DM Fl := match o with
  | some a => f a
  | none => bad
def appTo (i : Nat) (env : DEnv) (l : List RV) (r : RV) : DM Fl := if l.length < sizeLine then ret (.nx (env.set i (some (.own (l ++ [r]))))) else bad
def extTo (i : Nat) (env : DEnv) (l : List RV) : RV → DM Fl
  | .d (.list x) => if l.length + x.length ≤ sizeLine then ret (.nx (env.set i (some (.own (l ++ x.map .d))))) else bad
  | _ => bad
def sApp (i : Nat) (m : DEnv → DM RV) : DEnv → DM Fl := fun env => optF (ownAt env i) fun l => bnd (m env) (appTo i env l)
def sExt (i : Nat) (m : DEnv → DM RV) : DEnv → DM Fl := fun env => optF (ownAt env i) fun l => bnd (m env) (extTo i env l)
theorem optF_postS {K : PySem.W.Frag} {mg : Str → Option Value} {g0 : G} {H0 : Hp} {Z : G} {s : S} {Dd : Ends} {α : Type} {o : Option α} {f : α → DM Fl} (h : PostS K mg fld E g0 H0 Z (optF o f s) Dd) : ∃ a, o = some a ∧ PostS K mg fld E g0 H0 Z (f a s) Dd := by
  cases o with
  | none => exact h.elim
  | some a => exact ⟨a, rfl, h⟩
theorem FR.setList {K : PySem.W.Frag} {mg : Str → Option Value} {g0 : G} {H0 : Hp} {g : G} {s : S} {H : Hp} {σ : St} {env : DEnv} {i : Nat} {a : Addr} {l l' : List RV} {ys : List V} (f : FR K mg g0 H0 g s H σ env) (h : env[i]? = some (some (.own l))) (hv : σ[i]? = some (some (.ref a))) (hd : Paired (RepV K mg g) ys l') :
    FR K mg g0 H0 g s (upd H a (.lst ys)) σ (env.set i (some (.own l'))) := by
  obtain ⟨v, hv', a', xs, e0, hz, hP, hH, hd0⟩ := f.er.at_ i _ h
  rw [hv] at hv'
  cases hv'
  cases e0
  have hi : i < env.length := (List.getElem?_eq_some_iff.mp h).1
  have hn := f.own i l a h hv
  have ok := f.ok
  refine ⟨f.st.mut hn hz hP (fun x q => by rw [hH] at q; cases q), ⟨by simpa using f.er.len, fun j x e => ?_, fun j k lj lk v hjk h1 h2 h3 h4 => ?_⟩, fun j lj b h1 h2 => ?_⟩
  · by_cases hj : i = j
    · subst hj
      rw [List.getElem?_set_self hi] at e; cases e
      exact ⟨.ref a, hv, a, ys, rfl, hz, hP, upd_same, hd⟩
    · rw [List.getElem?_set_ne hj] at e
      obtain ⟨v, e1, e2⟩ := f.er.at_ j x e
      refine ⟨v, e1, ?_⟩
      cases x with
      | rv r => exact e2
      | lt l2 => exact e2
      | own l2 =>
        obtain ⟨b, zs, rfl, q1, q2, q3, q4⟩ := e2
        have nb : b ≠ a := fun q => by
          subst q
          exact f.er.apart i j l l2 _ hj h e hv e1
        exact ⟨b, zs, rfl, q1, q2, by rw [upd_ne nb]; exact q3, q4⟩
  · have at2 : ∀ {j : Nat} {lj : List RV}, (env.set i (some (.own l')))[j]? = some (some (EVal.own lj)) → ∃ lj' : List RV, env[j]? = some (some (EVal.own lj')) := fun {j lj} e => by
      by_cases hj : i = j
      · subst hj; exact ⟨l, h⟩
      · rw [List.getElem?_set_ne hj] at e; exact ⟨lj, e⟩
    obtain ⟨l1, q1⟩ := at2 h1
    obtain ⟨l2, q2⟩ := at2 h2
    exact f.er.apart j k l1 l2 v hjk q1 q2 h3 h4
  · by_cases hj : i = j
    · subst hj; exact f.own i l b h h2
    · rw [List.getElem?_set_ne hj] at h1
      exact f.own j lj b h1 h2
variable {g0 : G} {H0 : Hp} {e : Expr} {m : DEnv → DM RV} {i : Nat} {x : Str} {p apos cpos spos : Pos}
theorem ds_append (h : DE X fld E e m) (hN : X.N[i]? = some x := by rfl) (hv : Vis X.env.scope x := by first | exact Or.inl rfl | exact Or.inr (Or.inl rfl) | exact Or.inr (Or.inr rfl)) (hd : (x == ("__debug__" : Str)) = false := by decide) (hcd : (x == ("__classdict__" : Str)) = false := by decide)
    (hbase : attributeBase (.Name x p) "append" X.env (eval (.Name x p) X.env) = eval (.Name x p) X.env := by rfl)
    (hfew : ((backTo cpos (starEach [e] X.env)).all (fun x => !x.1) && (backToKw cpos (keywordEach [] X.env)).all (fun x => x.1.isSome)
      && decide ([e].length + ([] : List Keyword).length + (if ([] : List Keyword).isEmpty then 0 else 1) < 30)) = true := by rfl)
    (hline : (apos.endLine == cpos.line) = true := by rfl) (hs : starEach [e] X.env = (false, eval e X.env) :: starEach [] X.env := by rfl)
    (hsw : swapsWith (.Call (.Attribute (.Name x p) "append" apos) [e] [] cpos) none spos.line X.env = pure false := by rfl) :
    DS X fld E g0 H0 (.Expr (.Call (.Attribute (.Name x p) "append" apos) [e] [] cpos) spos) (sApp i m) :=
  psImp (ps_expr (pe_bm PySem.F.plainAttrs_list PySem.F.slot_list_append PySem.F.type_list_append mt_append (pe_var hN hv hd hcd) (pa_cons h pa_nil hs) hbase hfew hline hs rfl) hsw) fun Dd σ H ⟨g, s, env, f, pp⟩ => by
    obtain ⟨l, hl0, pp⟩ := optF_postS pp
    have hl := ownAt_some hl0
    obtain ⟨v, hv, a, xs, e0, hz, hP, hH, hd0⟩ := f.er.at_ i _ hl
    subst e0
    refine ⟨_, hv, .inl ⟨rfl, _, .inl (.inl hH)⟩, g, s, env, f.ok, f.er, ?_⟩
    cases q : m env s with
    | bad => rw [bnd_bad q] at pp; exact pp.elim
    | exc e s1 => rw [bnd_exc q] at pp; exact exc_up f pp
    | ok r s1 =>
      rw [bnd_ok q] at pp
      intro g1 H1 t1 vs rvs
      have f1 := f.step t1
      unfold appTo at pp
      by_cases hsz : l.length < sizeLine
      · rw [if_pos hsz] at pp
        have hd1 := Paired.steps t1 hd0
        refine ⟨a, xs, _, rfl, rfl, t1.keep a _ hH hP, by rw [Paired.length hd0]; exact hsz, ?_⟩
        exact pp g1 _ σ (f1.setList hl hv (pairedApp hd1 (.cons rvs .nil))) t1.sub
      · rw [if_neg hsz] at pp
        exact pp.elim
/-- extend by a list that is data -/
def rExtR : V → List V → Hp → VK → Prop := fun x vs H Q => ∃ l b xs zs, x = .ref l ∧ vs = [.ref b] ∧ H l = some (.lst xs) ∧ Rd H b (.lst zs) ∧ xs.length + zs.length ≤ sizeLine ∧ Q .non (upd H l (.lst (xs ++ zs)))
theorem mt_extR : MtM X "list.extend" rExtR := by
  intro pins s σ H x vs v us Q I rx rv h
  obtain ⟨l, b, xs, zs, rfl, rfl, hH, hB, hz, q⟩ := h
  cases rx
  obtain ⟨u, rfl, ru⟩ := rv.one
  cases ru
  obtain ⟨z, its, n, r, hl, e⟩ := I.lstM hH
  obtain ⟨z2, its2, n2, r2, hl2, e2⟩ := Inv.lstR I hB
  have hsz : its.toArray.size + its2.toArray.size ≤ sizeLine := by rw [List.size_toArray, List.size_toArray]; omega
  have hlong : ¬ (!its.toArray.isEmpty && Builtin.List.listTooLong (its.toArray.size + its2.toArray.size)) = true := by
    rw [notLongL hsz, Bool.and_false]
    exact Bool.false_ne_true
  refine call_meets F.slot_list_extend ⟨_, e, rfl⟩ F.entry_list_extend (F.args_list_extend_2 _ _)
    (AutoSeq1.list_extend_list_list_0 l its.toArray n b its2.toArray n2 hlong (by rw [List.size_toArray]; omega) (by omega)) ⟨e, e2, ?_⟩
  refine ⟨.non, _, I.lset (its' := its ++ its2) hH e (by simp) (r.append r2) ?_, rfl, q⟩
  rw [List.length_append]
  omega
theorem ds_extend (h : DE X fld E e m) (hN : X.N[i]? = some x := by rfl) (hv : Vis X.env.scope x := by first | exact Or.inl rfl | exact Or.inr (Or.inl rfl) | exact Or.inr (Or.inr rfl)) (hd : (x == ("__debug__" : Str)) = false := by decide) (hcd : (x == ("__classdict__" : Str)) = false := by decide)
    (hbase : attributeBase (.Name x p) "extend" X.env (eval (.Name x p) X.env) = eval (.Name x p) X.env := by rfl)
    (hfew : ((backTo cpos (starEach [e] X.env)).all (fun x => !x.1) && (backToKw cpos (keywordEach [] X.env)).all (fun x => x.1.isSome)
      && decide ([e].length + ([] : List Keyword).length + (if ([] : List Keyword).isEmpty then 0 else 1) < 30)) = true := by rfl)
    (hline : (apos.endLine == cpos.line) = true := by rfl) (hs : starEach [e] X.env = (false, eval e X.env) :: starEach [] X.env := by rfl)
    (hsw : swapsWith (.Call (.Attribute (.Name x p) "extend" apos) [e] [] cpos) none spos.line X.env = pure false := by rfl) :
    DS X fld E g0 H0 (.Expr (.Call (.Attribute (.Name x p) "extend" apos) [e] [] cpos) spos) (sExt i m) :=
  psImp (ps_expr (pe_bm PySem.F.plainAttrs_list PySem.F.slot_list_extend PySem.F.type_list_extend mt_extR (pe_var hN hv hd hcd) (pa_cons h pa_nil hs) hbase hfew hline hs rfl) hsw) fun Dd σ H ⟨g, s, env, f, pp⟩ => by
    obtain ⟨l, hl0, pp⟩ := optF_postS pp
    have hl := ownAt_some hl0
    obtain ⟨v, hv, a, xs, e0, hz, hP, hH, hd0⟩ := f.er.at_ i _ hl
    subst e0
    refine ⟨_, hv, .inl ⟨rfl, _, .inl (.inl hH)⟩, g, s, env, f.ok, f.er, ?_⟩
    cases q : m env s with
    | bad => rw [bnd_bad q] at pp; exact pp.elim
    | exc e s1 => rw [bnd_exc q] at pp; exact exc_up f pp
    | ok r s1 =>
      rw [bnd_ok q] at pp
      intro g1 H1 t1 vs rvs
      have f1 := f.step t1
      have hr : ∃ y, r = .d (.list y) ∧ l.length + y.length ≤ sizeLine ∧ PostS X.K X.mg fld E g0 H0 g (ret (.nx (env.set i (some (.own (l ++ y.map .d))))) s1) Dd := by
        cases r with
        | box n => exact pp.elim
        | fn n => exact pp.elim
        | d z =>
          cases z with
          | list y =>
            unfold extTo at pp
            dsimp only at pp
            by_cases hsz : l.length + y.length ≤ sizeLine
            · rw [if_pos hsz] at pp; exact ⟨y, rfl, hsz, pp⟩
            · rw [if_neg hsz] at pp; exact pp.elim
          | _ => exact pp.elim
      obtain ⟨y, rfl, hsz, pp⟩ := hr
      have r1 : Rp X.K g1.Z vs (.list y) := rvs
      cases r1 with
      | lst hs hd =>
        have hd1 := Paired.steps t1 hd0
        refine ⟨a, _, xs, _, rfl, rfl, t1.keep a _ hH hP, DL.Rd.mono t1.ok.z hs, by rw [Paired.length hd0, rpAll_length hd]; exact hsz, ?_⟩
        exact pp g1 _ σ (f1.setList hl hv (pairedApp hd1 (paired_data hd))) t1.sub
end

/-! ### boxes: a list that others may change -/
section
variable {X : Cx} {fld : Str → Str} {E : XK} {g0 : G} {H0 : Hp} {e o : Expr} {m mo : DEnv → DM RV} {i k : Nat} {x : Str} {p pos apos cpos spos : Pos}
def boxAt (r : RV) : DM (List RV) := match r with
  | .box n => fun s => match s[n]? with
    | some (.lst l) => .ok l s
    | _ => .bad
  | _ => bad
def optR {α : Type} (o : Option α) (f : α → DM RV) : DM RV := optM o f
/-- o[k] of a list that may change -/
def eBox (mo : DEnv → DM RV) (k : Nat) : DEnv → DM RV := fun env => bnd (mo env) fun r => bnd (boxAt r) fun l => optM l[k]? ret
theorem box_post {K : PySem.W.Frag} {mg : Str → Option Value} {g : G} {H : Hp} {s : S} {r : RV} {k} (h : Post K mg fld E g H (boxAt r s) k) : ∃ n l, r = .box n ∧ s[n]? = some (.lst l) ∧ Post K mg fld E g H (.ok l s) k := by
  cases r with
  | d x => exact h.elim
  | fn x => exact h.elim
  | box n =>
    have h' : Post K mg fld E g H (match s[n]? with | some (.lst l) => Out.ok l s | _ => .bad) k := h
    cases q : s[n]? with
    | none => rw [q] at h'; exact h'.elim
    | some c =>
      rw [q] at h'
      cases c with
      | lst l => exact ⟨n, l, rfl, q, h'⟩
      | _ => exact h'.elim
theorem paired_get {α β : Type} {R : α → β → Prop} : ∀ {l : List β} {xs : List α} {i : Nat} {r : β}, Paired R xs l → l[i]? = some r → ∃ v, xs[i]? = some v ∧ R v r
  | [], _, _, _, h, e => by simp at e
  | x :: l, _, 0, r, h, e => by
    cases h with
    | cons h1 h2 => simp at e; subst e; exact ⟨_, rfl, h1⟩
  | x :: l, _, i + 1, r, h, e => by
    cases h with
    | cons h1 h2 =>
      obtain ⟨v, a, b⟩ := paired_get (i := i) h2 (by simpa using e)
      exact ⟨v, by simpa using a, b⟩
theorem de_box {j pos' : Pos} {kk : Nat} {kc} (h : DE X fld E o mo) (hs : PlainIx (.Constant (.int (k : Int)) kc pos') := by exact fun _ _ => rfl) : DE X fld E (.Subscript o (.Constant (.int (k : Int)) kc pos') pos) (eBox mo k) :=
  peImp (pe_ix ix_list h pe_int hs) fun σ H Q ⟨g, s, env, ok, er, p⟩ => by
    refine ⟨g, s, env, ok, er, p.bind.mono fun g1 s1 H1 r t1 p1 v rv => ?_⟩
    obtain ⟨n, l, rfl, hn, p2⟩ := box_post p1.bind
    obtain ⟨a, ha, rfl⟩ := rv
    obtain ⟨hz, xs, hH, hd⟩ := t1.ok.box n a _ ha hn
    obtain ⟨d, ed, p3⟩ := optM_post (p2 g1 H1 (.refl t1.ok))
    obtain ⟨w, h1, h2⟩ := paired_get hd ed
    exact ⟨a, xs, k, w, rfl, rfl, .inl (.inl hH), atI_nat h1, post_ret t1.ok p3 w h2⟩
/-- a thing written -/
theorem Step.cellSet {K : PySem.W.Frag} {mg : Str → Option Value} {g : G} {s : S} {H : Hp} {n : Nat} {a : Addr} {c c' : Cell} {o : HO} (ok : GOk K mg g s H) (ha : g.P[n]? = some a) (hn : s[n]? = some c) (hc : CellOk K mg g (upd H a o) a c') (hl : isLck c = false := by rfl) : Step K mg g H g (s.set n c') (upd H a o) := by
  obtain ⟨hz, c0⟩ := ok.box n a c ha hn
  have hz := hz hl
  obtain ⟨oa, ea, ca⟩ := c0.isCell
  have am : a ∈ g.P := List.mem_of_getElem? ha
  refine ⟨⟨fun b o e => ?_, by simpa using ok.len, ok.nd, fun j b cb h1 h2 => ?_⟩, fun _ _ h => h, fun _ _ _ h _ => h, ⟨[], by simp, fun _ h => absurd h (by simp)⟩, fun b o e nb => ?_⟩
  · rw [upd_ne (ne_of_none e hz)]; exact ok.z b o e
  · by_cases hj : n = j
    · subst hj
      rw [ha] at h1
      cases h1
      have hi : n < s.length := (List.getElem?_eq_some_iff.mp hn).1
      rw [List.getElem?_set_self hi] at h2
      cases h2
      exact ⟨fun _ => hz, hc⟩
    · rw [List.getElem?_set_ne hj] at h2
      obtain ⟨q1, q2⟩ := ok.box j b cb h1 h2
      have nb : b ≠ a := fun q => by
        subst q
        exact hj (by
          have hi := (List.getElem?_eq_some_iff.mp ha).1
          exact (List.getElem_inj ok.nd).mp (((List.getElem?_eq_some_iff.mp ha).2).trans ((List.getElem?_eq_some_iff.mp h1).2).symm))
      refine ⟨q1, q2.keep (fun _ _ q => q) (fun _ q => by rw [upd_ne nb]; exact q) (fun dx x q => ?_) fun _ q => q⟩
      have nd : dx ≠ a := fun z => by subst z; rw [ea] at q; cases q; exact ca.elim
      rw [upd_ne nd]; exact q
  · have nb' : b ≠ a := fun q => nb (q ▸ am)
    rw [upd_ne nb']; exact e
/-- a new thing told -/
theorem Step.cellNew {K : PySem.W.Frag} {mg : Str → Option Value} {g g1 : G} {s1 : S} {H H1 : Hp} {a : Addr} {c : Cell} (t1 : Step K mg g H g1 s1 H1) (hn : H a = none) (hz : g1.Z a = none) (hP : a ∉ g1.P) (hc : CellOk K mg g1 H1 a c) : Step K mg g H ⟨g1.Z, g1.P ++ [a]⟩ (s1 ++ [c]) H1 := by
  have up : ∀ v r, RepV K mg g1 v r → RepV K mg ⟨g1.Z, g1.P ++ [a]⟩ v r := fun v r q => RepV.le (g := g1) (g1 := ⟨g1.Z, g1.P ++ [a]⟩) (fun _ _ h => h) ⟨[a], rfl⟩ q
  refine ⟨⟨t1.ok.z, by simp [t1.ok.len], ?_, fun j b lb h1 h2 => ?_⟩, t1.z, t1.zold, ?_, t1.keep⟩
  · rw [List.nodup_append]
    exact ⟨t1.ok.nd, by simp, fun b hb c hc => by simp at hc; subst hc; exact fun q => hP (q ▸ hb)⟩
  · by_cases hj : j < s1.length
    · rw [List.getElem?_append_left hj] at h2
      have h1' : (g1.P ++ [a])[j]? = some b := h1
      rw [List.getElem?_append_left (by rw [t1.ok.len]; exact hj)] at h1'
      obtain ⟨q1, q2⟩ := t1.ok.box j b lb h1' h2
      exact ⟨q1, q2.keep up (fun _ q => q) (fun _ _ q => q) fun _ q => q⟩
    · have h1' : (g1.P ++ [a])[j]? = some b := h1
      have hlen : (s1 ++ [c]).length = s1.length + 1 := by simp
      have hj2 := (List.getElem?_eq_some_iff.mp h2).1
      have ej : j = s1.length := by omega
      subst ej
      rw [List.getElem?_append_right (by omega)] at h2
      rw [← t1.ok.len, List.getElem?_append_right (by omega)] at h1'
      simp at h1' h2
      subst h1'
      subst h2
      exact ⟨fun _ => hz, hc.keep up (fun _ q => q) (fun _ _ q => q) fun _ q => q⟩
  · obtain ⟨r, e, fr⟩ := t1.p
    refine ⟨r ++ [a], by show g1.P ++ [a] = _; rw [e, List.append_assoc], fun b hb => ?_⟩
    rcases List.mem_append.mp hb with hb | hb
    · exact fr b hb
    · simp at hb; subst hb; exact hn
theorem box_at {K : PySem.W.Frag} {mg : Str → Option Value} {g1 : G} {s1 : S} {H1 : Hp} {a : Addr} (ok : GOk K mg g1 s1 H1) : (g1.P ++ [a])[s1.length]? = some a := by
  rw [← ok.len]
  simp
/-- o[k] = .. of a list that may change -/
def setCell (n : Nat) (c : Cell) (env : DEnv) : DM DEnv := fun s => .ok env (s.set n c)
def tgBox (mo : DEnv → DM RV) (k : Nat) : TgF := fun r env => bnd (mo env) fun b => bnd (boxAt b) fun l => match b with
  | .box n => if k < l.length then setCell n (.lst (l.set k r)) env else bad
  | _ => bad
theorem paired_set {α β : Type} {R : α → β → Prop} {v : α} {d : β} (h0 : R v d) : ∀ {l : List β} {xs : List α} (k : Nat), Paired R xs l → Paired R (xs.set k v) (l.set k d)
  | [], _, _, h => by cases h; exact .nil
  | x :: l, _, 0, h => by cases h with | cons _ h2 => exact .cons h0 h2
  | x :: l, _, k + 1, h => by cases h with | cons h1 h2 => exact .cons h1 (paired_set h0 k h2)
theorem ixN_nat {n k : Nat} (h : k < n) : ixN n (k : Int) = some k := by
  unfold ixN
  rw [if_pos (Int.natCast_nonneg k), if_pos (by omega)]
  simp
theorem dg_box {kc} {pos' : Pos} (h : DE X fld E o mo)
    (ha : ∀ v, assign (.Subscript o (.Constant (.int (k : Int)) kc pos') pos) X.env v = (do
      let ov ← holding [v] (eval o X.env)
      let iv ← holding [v, ov] (eval (.Constant (.int (k : Int)) kc pos') X.env)
      standAt pos
      holding [v, ov, iv] (setItem ov iv v)
      release [v, ov, iv] []) := by intro _; rfl) : DG X fld E [] (.Subscript o (.Constant (.int (k : Int)) kc pos') pos) (tgBox mo k) :=
  pgImp (pg_sub h pe_int set_list ha) fun v σ H Q ⟨g, s, env, r, ok, er, rv, p⟩ => by
    unfold tgBox at p
    refine ⟨g, s, env, ok, er, p.bind.mono fun g1 s1 H1 b t1 p1 w rw' => ?_⟩
    obtain ⟨n, l, rfl, hn, p2⟩ := box_post p1.bind
    obtain ⟨a, hA, rfl⟩ := rw'
    have p3 := p2 g1 H1 (.refl t1.ok)
    dsimp only at p3
    split at p3
    · rename_i hk
      obtain ⟨hz, xs, hH, hd⟩ := t1.ok.box n a _ hA hn
      have rv1 := RepV.step t1 rv
      have st := Step.cellSet (o := .lst (xs.set k v)) (c' := .lst (l.set k r)) t1.ok hA hn ⟨_, upd_same, paired_set rv1 k hd⟩
      refine ⟨a, xs, k, k, rfl, rfl, hH, ixN_nat (by rw [Paired.length hd]; exact hk), ?_⟩
      exact p3 g1 _ st σ ((er.step t1).step st) .refl
    · exact p3.elim
/-- return [..]: a new list that may change -/
def newBox (l : List RV) : DM RV := fun s => .ok (.box s.length) (s ++ [.lst l])
def eNewBox (m : DEnv → DM (List RV)) : DEnv → DM RV := fun env => bnd (m env) newBox
theorem de_newBox {mo : DEnv → DM (List RV)} (h : DO X fld E e mo) : DE X fld E e (eNewBox mo) :=
  peImp h fun σ H Q ⟨g, s, env, ok, er, p⟩ => by
    refine ⟨g, s, env, ok, er, ?_⟩
    unfold eNewBox at p
    cases q : mo env s with
    | bad => rw [bnd_bad q] at p; exact p
    | exc e s1 => rw [bnd_exc q] at p; exact p
    | ok l s1 =>
      rw [bnd_ok q] at p
      intro g1 H1 t1 a xs hn hz hP hH dl
      have st2 := t1.cellNew (c := .lst l) hn hz hP ⟨xs, hH, dl⟩
      exact p _ H1 st2 _ ⟨a, box_at t1.ok, rfl⟩
end
end DL
namespace DL
open PySem PySem.Spec L2
open PyProof.Rows hiding St

/-! ### defs of the text -/
structure FX (K : PySem.W.Frag) (x qual : Str) (st : Stmt) (dV : Value) (f : Addr) (fd : FuncData) : Prop where
  ex : ∃ (oc : Value) (od : Option Addr) (kV doc pm : Value) (an : Option Addr) (cdv ct : Value) (osl : Array (Option Value)),
    fd = PySem.W.fnOf x qual (defArgs st) (defBody st) (defScope st) dV kV doc pm an cdv ct ∧ K.lookup f = some ⟨oc, od, .func fd, osl⟩ ∧ PySem.W.codeIn K cdv qual = true
  kp : PySem.W.keepIn K (.ref f) = true
theorem fx_mk {K : PySem.W.Frag} {x qual : Str} {st : Stmt} {f : Addr} {oc : Value} {od an : Option Addr} {osl : Array (Option Value)} {dV kV doc pm cdv ct : Value} (l : K.lookup f = some ⟨oc, od, .func (PySem.W.fnOf x qual (defArgs st) (defBody st) (defScope st) dV kV doc pm an cdv ct), osl⟩)
    (c : PySem.W.codeIn K cdv qual = true) (k : PySem.W.keepIn K (.ref f) = true) : FX K x qual st dV f (PySem.W.fnOf x qual (defArgs st) (defBody st) (defScope st) dV kV doc pm an cdv ct) := ⟨⟨oc, od, kV, doc, pm, an, cdv, ct, osl, rfl, l, c⟩, k⟩
section
variable {P : Program} {w : World} {K : PySem.W.Frag} {mg : Str → Option Value} {base : Heap} {fld : Str → Str} {x qual : Str} {st : Stmt} {dV : Value} {f : Addr} {fd : FuncData}
theorem DFn.of {k : Nat} {N ps : List Str} {m : DEnv → DM Fl} (F : FX K x qual st dV f fd) (S : FnScope N ps (defScope st))
    (hbody : ∀ (cdv : Value) (A : Around) (outer : List Env) (s : Shared) (g0 : G) (H : Hp) (E : XK), Room k (A.deeper (envOfC qual (defScope st) s.heap.objs.size f cdv)) → A.guards = some [] →
      Passes (L2.CX P w) (cxOf (L2.CX P w) P w K mg base N qual (defScope st) f cdv A outer s H E) E → Takes (cxOf (L2.CX P w) P w K mg base N qual (defScope st) f cdv A outer s H E) (fun cls d _ H => E cls d H) →
      PassesOwn (model P w) (A.deeper (envOfC qual (defScope st) s.heap.objs.size f cdv)) (envOfC qual (defScope st) s.heap.objs.size f cdv) (cxOf (L2.CX P w) P w K mg base N qual (defScope st) f cdv A outer s H E).xe →
      DSs (cxOf (L2.CX P w) P w K mg base N qual (defScope st) f cdv A outer s H E) fld E g0 H (defBody st) m) : DFn P w K mg base fld (k + 1) f fd ps (mFun N.length m) := by
  obtain ⟨oc, od, kV, doc, pm, an, cdv, ct, osl, rfl, lk, hcd⟩ := F.ex
  exact DFn.mk lk hcd S fun A outer s g0 H E => hbody cdv A outer s g0 H E
/-- no default is wanted -/
theorem FX.kb {ps : List Str} {n : Nat} {ks : List Str} {idx : List Nat} (F : FX K x qual st dV f fd)
    (h : ∀ (kV doc pm : Value) (an : Option Addr) (cdv ct : Value) (us ws : List Value), us.length = n → ws.length = ks.length → bindArgs (PySem.W.fnOf x qual (defArgs st) (defBody st) (defScope st) dV kV doc pm an cdv ct) ⟨us, ks.zip ws⟩ = pure (ps.zip (pick idx (us ++ (ws ++ []))))) : KB K fd ps n ks [] idx := by
  obtain ⟨oc, od, kV, doc, pm, an, cdv, ct, osl, rfl, lk, hcd⟩ := F.ex
  exact ⟨fun s us ws _ h1 h2 => .of_eq (h kV doc pm an cdv ct us ws h1 h2)⟩
/-- the defaults stand in the tuple at T -/
theorem FX.kbd {ps : List Str} {n : Nat} {ks : List Str} {idx : List Nat} {T : Addr} {o : Obj} {its : List Value} {c : Nat} (F : FX K x qual st (.ref T) f fd) (lT : K.lookup T = some o) (oT : o.data = .seq its.toArray c)
    (h : ∀ (kV doc pm : Value) (an : Option Addr) (cdv ct : Value) (us ws : List Value), us.length = n → ws.length = ks.length →
      ∃ k, bindArgs (PySem.W.fnOf x qual (defArgs st) (defBody st) (defScope st) (.ref T) kV doc pm an cdv ct) ⟨us, ks.zip ws⟩ = seqItems? (.ref T) >>= k ∧ k (some its.toArray) = pure (ps.zip (pick idx (us ++ (ws ++ its))))) : KB K fd ps n ks its idx := by
  obtain ⟨oc, od, kV, doc, pm, an, cdv, ct, osl, rfl, lk, hcd⟩ := F.ex
  refine ⟨fun s us ws X h1 h2 => ?_⟩
  obtain ⟨k, e1, e2⟩ := h kV doc pm an cdv ct us ws h1 h2
  refine BindsTo.of_looks fun M => ?_
  rw [e1]
  exact looks_items X lT oT (.of_pure e2)
end
theorem hu64 {k : Nat} {A : Around} (h : Room k A) : A.units + 64 < cLine := by have := h.un; omega
theorem hu65 {k : Nat} {A : Around} (h : Room k A) : A.units + 65 < cLine := by have := h.un; omega
theorem hu66 {k : Nat} {A : Around} (h : Room k A) : A.units + 66 < cLine := by have := h.un; omega

section
variable {X : Cx} {fld : Str → Str} {E : XK} {g0 : G} {H0 : Hp} {pos : Pos} {e a b : Expr} {st : Stmt} {ma mb : DEnv → DM RV} {i : Nat} {x : Str} {p : Pos}
/-- a statement that is not come to -/
def sBad : DEnv → DM Fl := fun _ => bad
theorem ds_never : DS X fld E g0 H0 st sBad := psImp ps_never fun Dd σ H ⟨g, s, env, f, p⟩ => p.elim
/-- list + list, to be one's own -/
def catL : RV → RV → DM (List RV)
  | .d (.list x), .d (.list y) => if x.length + y.length ≤ sizeLine then ret ((x ++ y).map .d) else bad
  | _, _ => bad
def oCat (a b : DEnv → DM RV) : DEnv → DM (List RV) := fun env => bnd (a env) fun x => bnd (b env) fun y => catL x y
theorem do_cat (ha : DE X fld E a ma) (hb : DE X fld E b mb) : DO X fld E (.BinOp a .Add b pos) (oCat ma mb) :=
  peImp (pe_op op_catR ha hb) fun σ H Q ⟨g, s, env, ok, er, p⟩ => by
    refine ⟨g, s, env, ok, er, p.bind.mono fun g1 s1 H1 r t1 p1 v rv => ?_⟩
    refine ⟨g1, s1, env, t1.ok, er.step t1, p1.bind.mono fun g2 s2 H2 r2 t2 p2 u ru => ?_⟩
    have hr : ∃ x y, r = .d (.list x) ∧ r2 = .d (.list y) ∧ x.length + y.length ≤ sizeLine ∧ Post X.K X.mg fld E g2 H2 (ret ((x ++ y).map .d) s2) fun g' _ H' l => ∀ a xs, H a = none → g'.Z a = none → a ∉ g'.P → H' a = some (.lst xs) → Paired (RepV X.K X.mg g') xs l → Q (.ref a) H' := by
      cases r with
      | box n => exact p2.elim
      | fn n => exact p2.elim
      | d x =>
        cases r2 with
        | box n => cases x <;> exact p2.elim
        | fn n => cases x <;> exact p2.elim
        | d y =>
          cases x with
          | list x =>
            cases y with
            | list y =>
              unfold catL at p2
              dsimp only at p2
              by_cases h : x.length + y.length ≤ sizeLine
              · rw [if_pos h] at p2; exact ⟨x, y, rfl, rfl, h, p2⟩
              · rw [if_neg h] at p2; exact p2.elim
            | _ => exact p2.elim
          | _ => exact p2.elim
    obtain ⟨x, y, rfl, rfl, hz, p3⟩ := hr
    have r1 : Rp X.K g2.Z v (.list x) := RepV.step (mg := X.mg) (r := .d (.list x)) t2 rv
    have r2' : Rp X.K g2.Z u (.list y) := ru
    cases r1 with
    | @lst a1 xs1 _ hs hd =>
      cases r2' with
      | @lst a2 xs2 _ hs2 hd2 =>
        refine ⟨_, _, _, _, rfl, rfl, DL.Rd.mono t2.ok.z hs, DL.Rd.mono t2.ok.z hs2, by rw [rpAll_length hd, rpAll_length hd2]; exact hz, fun q hq => ?_⟩
        have st := Step.newH (o := .lst (xs1 ++ xs2)) t2.ok hq
        refine p3 _ _ st q _ (t1.fresh (t2.fresh hq)) ?_ ?_ upd_same (paired_data (dpAll_app hd hd2))
        · cases qz : g2.Z q with
          | none => rfl
          | some o => rw [t2.ok.z _ _ qz] at hq; cases hq
        · intro hm
          obtain ⟨xs', hx, _⟩ := t2.ok.there hm
          rw [hq] at hx; cases hx
/-- an item, the length of a list that may be one's own -/
def listAt (env : DEnv) (i : Nat) : Option (List RV) := match env[i]? with
  | some (some (.own l)) => some l
  | some (some (.rv (.d (.list l)))) => some (l.map .d)
  | _ => none
theorem listAt_rep {K : PySem.W.Frag} {mg : Str → Option Value} {g : G} {s : S} {H : Hp} {σ : St} {env : DEnv} {l : List RV} (ok : GOk K mg g s H) (er : ER K mg g H σ env) (h : listAt env i = some l) : ∃ a xs, σ[i]? = some (some (.ref a)) ∧ Rd H a (.lst xs) ∧ Paired (RepV K mg g) xs l ∧ (H a = some (.lst xs) ∧ a ∉ g.P ∨ Rd g.Z a (.lst xs)) := by
  unfold listAt at h
  split at h
  · rename_i l' q
    cases h
    obtain ⟨v, hv, a, xs, e0, hz, hP, hH, hd⟩ := er.at_ i _ q
    subst e0
    exact ⟨a, xs, hv, .inl hH, hd, .inl ⟨hH, hP⟩⟩
  · rename_i l' q
    cases h
    obtain ⟨v, hv, r⟩ := er.at_ i _ q
    have r : Rp K g.Z v (.list l') := r
    cases r with
    | lst hs hd => exact ⟨_, _, hv, DL.Rd.mono ok.z hs, paired_data hd, .inr hs⟩
  · cases h
def lIx (l : List RV) : D → DM RV
  | .int j => optM (atI l j) ret
  | _ => bad
theorem paired_atI {α β : Type} {R : α → β → Prop} {xs : List α} {l : List β} {i : Int} {d : β} (h : Paired R xs l) (e : atI l i = some d) : ∃ v, atI xs i = some v ∧ R v d := by
  unfold atI at e ⊢
  rw [Paired.length h]
  cases q : ixN l.length i with
  | none => rw [q] at e; cases e
  | some j =>
    rw [q] at e
    exact paired_get h e
def eLIx (i : Nat) (mb : DEnv → DM RV) : DEnv → DM RV := fun env => optM (listAt env i) fun l => bnd (mb env) fun r => onD r fun y => lIx l y
theorem de_lix (i : Nat) (hb : DE X fld E b mb) (hN : X.N[i]? = some x := by rfl) (hv : Vis X.env.scope x := by first | exact Or.inl rfl | exact Or.inr (Or.inl rfl) | exact Or.inr (Or.inr rfl)) (hd : (x == ("__debug__" : Str)) = false := by decide) (hcd : (x == ("__classdict__" : Str)) = false := by decide)
    (hs : PlainIx b := by exact fun _ _ => rfl) : DE X fld E (.Subscript (.Name x p) b pos) (eLIx i mb) :=
  peImp (pe_ix ix_list (pe_var hN hv hd hcd) hb hs) fun σ H Q ⟨g, s, env, ok, er, pp⟩ => by
    obtain ⟨l, hl, pp⟩ := optM_post pp
    obtain ⟨a, xs, h1, h2, h3, h4⟩ := listAt_rep ok er hl
    refine ⟨_, h1, g, s, env, ok, er, pp.bind.mono fun g1 s1 H1 r t1 p1 v rv => ?_⟩
    obtain ⟨y, rfl, p2⟩ := onD_post p1
    have q1 : Rd H1 a (.lst xs) := by
      rcases h4 with ⟨q1, q2⟩ | q1
      · exact .inl (t1.keep _ _ q1 q2)
      · exact DL.Rd.mono (fun b o h => t1.ok.z b o (t1.z b o h)) q1
    cases y with
    | int k =>
      have p3 : Post X.K X.mg fld E g1 H1 (optM (atI l k) ret s1) (K0 X.K X.mg Q) := p2
      obtain ⟨d, q, p4⟩ := optM_post p3
      obtain ⟨w, e1, e2⟩ := paired_atI h3 q
      cases rv
      exact ⟨a, xs, k, w, rfl, rfl, .inl q1, e1, post_ret t1.ok p4 w (e2.step t1)⟩
    | _ => exact p2.elim
def eLLen (i : Nat) : DEnv → DM RV := fun env => optM (listAt env i) fun l => dI l.length
theorem de_llen (i : Nat) (hg : Gl X "len") (hm : X.mg "len" = none) (hN : X.N[i]? = some x := by rfl) (hv : Vis X.env.scope x := by first | exact Or.inl rfl | exact Or.inr (Or.inl rfl) | exact Or.inr (Or.inr rfl)) (hd : (x == ("__debug__" : Str)) = false := by decide) (hcd : (x == ("__classdict__" : Str)) = false := by decide)
    {p2 : Pos} (hs : starEach [Expr.Name x p2] X.env = (false, eval (.Name x p2) X.env) :: starEach [] X.env := by rfl) : DE X fld E (.Call (.Name "len" p) [.Name x p2] [] pos) (eLLen i) :=
  peImp (pe_callB call_len_seq hg hm (by decide +kernel) (pa_cons (pe_var hN hv hd hcd) pa_nil hs) (he := hs)) fun σ H Q ⟨g, s, env, ok, er, pp⟩ => by
    obtain ⟨l, hl, pp⟩ := optM_post pp
    obtain ⟨a, xs, h1, h2, h3, h4⟩ := listAt_rep ok er hl
    refine ⟨_, h1, a, xs, rfl, .inl (.inl h2), ?_⟩
    rw [Paired.length h3]
    exact post_i ok pp
end

/-! ### the law -/
theorem law_callG {P : Program} {w : World} {K : PySem.W.Frag} {mg mb : Str → Option Value} {CX : CXT} {k : Nat} {fa a : Addr} {fd : FuncData} {x : Str} {sp : Sp} {s₁ : Shared} {vs : List Value} {ns : List Int}
    (KX : K.In s₁.heap) (hns : s₁.heap.Ns mainGlobals mg) (hb : s₁.heap.Ns builtinsNs mb) (hbb : ∀ x : Str, x ≠ "__name__" → mb x = bootBuiltins x) (hlim : s₁.heap.NoLimit) (hg : s₁.gens = #[])
    (ha : s₁.heap.get? a = some { cls := .type "list", data := .seq vs.toArray }) (hi : IntsAre vs ns) (hl : ns.length ≤ sizeLine) (hr : Room k callerA)
    (F : ∀ base : Heap, K.In base → base.Ns mainGlobals mg → FnG P w K mg base CX k fa fd [x] sp) (hbind : ∀ (s : Shared) (u : Value), BindsTo s fd ⟨[u], []⟩ [(x, u)])
    (hsp : ∀ (H : Hp) (o : Obj), (∀ b u, H b = some u → b = a) → H a = some (.frz o (.lst (ns.map V.int))) → sp [.ref a] H (fun v _ => v = .bl true) fun _ _ _ => False)
    (hCX : ∀ H e s', CX [] H s₁ (fun _ _ _ => False) e s' → False) (hka : ∀ o, K.lookup a = some o → o.cls ≠ .type "list") :
    codeAny (model P w) callerA (.call (.ref fa) ⟨[.ref a], []⟩) (fun r s' => r = .ok (.ret (.bool true)) ∧ OldK s₁.heap s'.heap ∧ s'.os = s₁.os ∧ AllBare s'.gens) s₁ := by
  have rv := vals_ints hi
  have hk : K.lookup a = none := by
    cases q : K.lookup a with
    | none => rfl
    | some o =>
      have e := KX a o q
      rw [ha] at e
      cases e
      exact absurd rfl (hka _ q)
  let H : Hp := fun b => if b = a then some (.frz { cls := .type "list", data := .seq vs.toArray } (.lst (ns.map V.int))) else none
  have hHa : H a = some (.frz { cls := .type "list", data := .seq vs.toArray } (.lst (ns.map V.int))) := if_pos rfl
  have hA : ∀ b u, H b = some u → b = a := fun b u z => by
    by_cases e : b = a
    · exact e
    · have z' : (if b = a then some (HO.frz { cls := .type "list", data := .seq vs.toArray } (.lst (ns.map V.int))) else none) = some u := z
      rw [if_neg e] at z'; cases z'
  have hok : HOk P w H s₁.heap := fun b u z => by
    have e := hA b u z
    subst e
    rw [hHa] at z
    cases z
    exact ⟨ha, by rw [List.length_map]; exact hl, vs, _, rv, ha⟩
  have base_of : ∀ {b : Addr} {o : Obj}, s₁.heap.get? b = some o → H b = none → (hidT s₁.heap H).get? b = some o := fun e n => hidT_get e n
  have noA : ∀ {b : Addr} {o : Obj} {es : Array DictEntry} {ep : Nat}, s₁.heap.get? b = some o → o.data = .dict es ep → H b = none := fun {b o es ep} e d => by
    cases q : H b with
    | none => rfl
    | some u =>
      have e' : b = a := hA b u q
      subst e'
      rw [ha] at e; cases e
      have d' : Data.seq vs.toArray _ = Data.dict es ep := d
      cases d'
  have nsK : ∀ {b : Addr} {m : Str → Option Value}, s₁.heap.Ns b m → (hidT s₁.heap H).Ns b m := fun {b m} ⟨o, es, ep, e, d, r⟩ => ⟨o, es, ep, base_of e (noA e d), d, r⟩
  have hKb : K.In (hidT s₁.heap H) := fun b o e => base_of (KX b o e) (by
    cases q : H b with
    | none => rfl
    | some u =>
      have e' : b = a := hA b u q
      subst e'
      rw [hk] at e; cases e)
  have hM : Mod K mg (hidT s₁.heap H) := ⟨hKb, nsK hns, ⟨mb, nsK hb, hbb⟩, let ⟨mc, h1, h2⟩ := hlim; ⟨mc, nsK h1, h2⟩⟩
  have e0 : Env0 P w K mg (hidT s₁.heap H) callerA [] s₁ H := ⟨rfl, hM, fun b o e => of_hidT e, Nat.le_of_eq (hidT_size _ _), trivial, fun b hb => absurd (show b ∈ ([] : List Addr) from hb) (by simp), hok, .of_eq hg⟩
  refine codeAny_mono ((F _ hKb (nsK hns)).run callerA [] s₁ H ⟨[.ref a], []⟩ [.ref a] [.ref a] _ _ hr rfl e0 (hbind s₁ (.ref a)) (.cons rfl .nil) rfl (hsp H _ hA hHa)) fun r s' h => ?_
  cases r with
  | error e => exact (hCX H e s' h).elim
  | ok fl =>
    cases fl with
    | next => exact False.elim h
    | brk => exact False.elim h
    | cont => exact False.elim h
    | ret u =>
      obtain ⟨v, H', os, bare, un, hok', r', q⟩ := h
      have q' : v = .bl true := q
      subst q'
      obtain rfl : u = Value.bool true := r'
      refine ⟨rfl, OldK.of_keep fun b o e => ?_, os, bare⟩
      cases q : H b with
      | none => exact un.keep b o e q (by intro z; exact absurd (show b ∈ ([] : List Addr) from z) (by simp)) (by simp)
      | some u =>
        have eb := hA b u q
        subst eb
        have z2 := un.frzs b _ _ hHa
        obtain ⟨e2, _⟩ := hok' b _ z2
        rw [ha] at e
        cases e
        exact e2
/-- the goal that k_head leaves, from the law's mirror: it answers True -/
theorem walk_ofG {l : PySem.W.OpenLaw} {n k N : Nat} {q : Program} {loose : List Str} {XP : (Str → Option Value) → Heap → Prop} {YP : World → Heap → Prop} {d : DefRec} {K : Params → PySem.W.Frag} {m : List RV → DM RV} {x : Str} {fld : Str → Str}
    (hn : l.most = some n) (hn2 : n ≤ sizeLine) (hdf : d.params.defaults = []) (hr : Room k callerA)
    (hY : ∀ (w : World) (h : Heap), YP w h → (K w.params).In h)
    (hK : ∀ (w : World) (a : Addr) (o : Obj), (K w.params).lookup a = some o → o.cls ≠ .type "list")
    (F : ∀ (w : World) (mg : Str → Option Value) (fa : Addr) (h : Heap), (K w.params).In h → h.Ns mainGlobals mg → mg d.name = some (.ref fa) →
      ∃ fd : FuncData, (∀ (s : Shared) (u : Value), BindsTo s fd ⟨[u], []⟩ [(x, u)]) ∧
        ∀ base : Heap, (K w.params).In base → base.Ns mainGlobals mg → DFn l.prog w (K w.params) mg base fld k fa fd [x] m)
    (hm : ∀ ns : List Int, ns.length ≤ n → ∃ s, m [.d (.list (ns.map .int))] [] = .ok (.d (.bool true)) s) :
    PySem.W.WalkO q loose XP YP l.row.toRowW d [] (fun f vs => PySem.call f vs) := by
  refine Att.attach_call hn hdf fun w s₀ s₁ mg mb fa o pm cd doc a vs ns G Y ho hd hcd hmg hobj hints hlen hg => ?_
  have KX := hY w _ Y
  obtain ⟨fd, hb, hF⟩ := F w mg fa _ KX G.T.g hmg
  refine law_callG KX G.T.g G.T.b G.T.builtins G.T.nolimit hg hobj hints (Nat.le_trans hlen hn2) hr hF hb (fun H o hA hH => ?_) (fun H e s' z => ?_) fun o => hK w a o
  · obtain ⟨s, e⟩ := hm ns hlen
    have ok : GOk (K w.params) mg ⟨H, []⟩ [] H := ⟨fun _ _ h => h, rfl, List.nodup_nil, fun i a l h _ => by simp at h⟩
    refine ⟨⟨H, []⟩, [], [.d (.list (ns.map .int))], ok, .cons ?_ .nil, ?_⟩
    · refine .lst (xs := ns.map V.int) (.inr ⟨o, hH⟩) ?_
      clear e hH hlen hints hobj
      induction ns with
      | nil => exact .nil
      | cons n ns ih => exact .cons (.int n) ih
    · rw [e]
      intro g' H' t v rv
      have rv : Rp _ g'.Z v (.bool true) := rv
      cases rv
      rfl
  · obtain ⟨a, B, H', cls, d, _, _, _, _, _, _, _, z⟩ := z
    exact z
end DL
namespace DL
open PySem PySem.Spec L2
open PyProof.Rows hiding St

/-! ### enumerate(tuple) -/
theorem meets_enumerate_newT (l : Addr) (items : Array Value) (n : Nat) (dct : Option Addr) (sl : Array (Option Value)) :
    Meets (Builtin.«enumerate.__new__» ⟨[.type "enumerate", .ref l], []⟩) (fun _ R s => s.heap.get? l = some { cls := .type "tuple", dict := dct, data := .seq items n, slots := sl } ∧
      R (.ok (.ret (.ref (s.heap.push { cls := .type "tuple_iterator", data := .fields #[.ref l, .int 0 0] }).objs.size)))
        { s with heap := (s.heap.push { cls := .type "tuple_iterator", data := .fields #[.ref l, .int 0 0] }).push { cls := .type "enumerate", data := .fields #[.none, .bool false, .ref s.heap.objs.size, rawInt 0, .none, .none] } }) :=
  .of_wp fun prog w A R s h => by
    obtain ⟨hp, g, d, tk, os⟩ := s; obtain ⟨hl, h⟩ := h
    have hsub := sub_enumerate
    have hL : Heap.IsTuple (Shared.heap ⟨hp, g, d, tk, os⟩) l items := ⟨_, hl, rfl, n, rfl⟩
    wp_walk using AutoSeq1.wpAny_loadPart' hl
    refine wpAny_stack_any fun st => wpAny_pure ?_
    split
    · rename_i c _ _ _ _ _
      cases (c == Value.type "enumerate")
      · wp_walk using AutoSeq1.wpAny_loadPart' hl, wpAny_pyIter_tuple hL
        exact ⟨_, rfl, h⟩
      · wp_walk using AutoSeq1.wpAny_loadPart' hl, wpAny_pyIter_tuple hL
        exact ⟨_, rfl, h⟩
    · wp_walk using AutoSeq1.wpAny_loadPart' hl, wpAny_pyIter_tuple hL
      exact ⟨_, rfl, h⟩
theorem call_enumerate_tuple {prog : Program} {w : World} {A : Around} {E : Value → Shared → Prop} {s : Shared} {l : Addr} {items : Array Value} {Q : Value → Shared → Prop} (hL : s.heap.IsTuple l items)
    (h : ∀ h', IsEnum h' (s.heap.objs.size + 1) s.heap.objs.size 0 .none → h'.IsTupleIter s.heap.objs.size l 0 → h'.objs.size = s.heap.objs.size + 2 →
      (∀ b o, s.heap.get? b = some o → h'.get? b = some o) → Q (.ref (s.heap.objs.size + 1)) { s with heap := h' }) :
    wpAny (model prog w) A (call (.type "enumerate") [.ref l]) Q E s := by
  obtain ⟨⟨c, dct, dt, sl⟩, hl, hc, n, hd⟩ := hL
  replace hc : c = .type "tuple" := hc
  replace hd : dt = .seq items n := hd
  subst hc hd
  refine callType_new F.called_enumerate (by decide) (F.typeCall_enumerate_1 _) (F.newCall_enumerate_1 _) (fun obj => F.args_object_init_2 obj _) F.entry_enumerate_new
    (meets_enumerate_newT l items n dct sl) ⟨hl, ?_⟩
  have hz : (s.heap.push { cls := .type "tuple_iterator", data := .fields #[.ref l, .int 0 0] }).objs.size = s.heap.objs.size + 1 := Heap.size_push ..
  show _ ∧ _
  rw [hz]
  have he : IsEnum ((s.heap.push { cls := .type "tuple_iterator", data := .fields #[.ref l, .int 0 0] }).push
      { cls := .type "enumerate", data := .fields #[.none, .bool false, .ref s.heap.objs.size, rawInt 0, .none, .none] }) (s.heap.objs.size + 1) s.heap.objs.size 0 .none := by
    have := Heap.get?_push_size (s.heap.push { cls := .type "tuple_iterator", data := .fields #[.ref l, .int 0 0] })
      (o := { cls := .type "enumerate", data := .fields #[.none, .bool false, .ref s.heap.objs.size, rawInt 0, .none, .none] }) rfl
    rw [hz] at this; exact this
  refine ⟨⟨_, he, rfl⟩, h _ he ⟨_, Heap.get?_push_of_some _ (Heap.get?_push_size _ rfl), rfl, rfl⟩ (by rw [Heap.size_push, hz]) fun b o x => Heap.get?_push_of_some _ (Heap.get?_push_of_some _ x)⟩

theorem drawsT {prog : Program} {w : World} {A : Around} (hh : A.handled = none) (it t : Addr) (hne : t ≠ it) (items : Array Value) :
    Draws prog w A it [it, t] items.size (fun i v => items[i]? = some v) (fun i h => h.IsTupleIter it t i ∧ h.IsTuple t items) where
  live := fun _ _ st => let ⟨o, ho, _⟩ := st.1; ⟨o, ho⟩
  frame := fun _ _ _ st hk => ⟨st.1.at fun o e => hk it (by simp) o e, let ⟨o, ho, r⟩ := st.2; ⟨o, hk t (by simp) o ho, r⟩⟩
  item := fun i s Q E hi st hQ => by
    refine RZ.nextOf_tuple_item st.1 st.2 (x := items[i]) (by simp [hi]) fun h' hit' hs' => ?_
    exact hQ _ h' s.toks (by simp [hi]) ⟨hit', let ⟨o, ho, r⟩ := st.2; ⟨o, hs'.extBut t o hne ho, r⟩⟩ hs'
  done := fun s Q E st hE => RZ.nextOf_tuple_end hh st.1 st.2 (by simp) hE
/-- the tuple at a, each item in a new pair -/
def IteT (K : PySem.W.Frag) (a : Addr) : It :=
  ⟨fun i H => ∃ (xs : List V) (x : V), SqT K H a xs ∧ xs[i]? = some x, fun i H v H' => ∃ T x, v = .ref T ∧ H T = none ∧ H' = upd H T (.tup [.int (i : Nat), x]) ∧ ∀ xs, SqT K H a xs → xs[i]? = some x, fun i H => ∃ xs : List V, SqT K H a xs ∧ xs.length ≤ i⟩
theorem turn_enumT {P : Program} {w : World} {K : PySem.W.Frag} {elts : List Expr} {kk : Nat} {tpos : Pos} (a e it : Addr) (hat : a ≠ it) :
    Turn P w K (.Tuple elts kk tpos) (IteT K a) [e, it] e (fun i h => (∃ old, IsEnum h e it ((i : Nat) : Int) old) ∧ h.IsTupleIter it a i ∧ e ≠ it) where
  mem := by simp
  obj := fun i h st b hb => by
    obtain ⟨⟨old, he⟩, ⟨o, ho, hc, hd⟩, _⟩ := st
    have e' : b = e ∨ b = it := by simpa using hb
    rcases e' with z | z
    · rw [z]; exact ⟨_, he, fun v q => nomatch q⟩
    · rw [z]; exact ⟨o, ho, fun v q => by rw [hd] at q; cases q⟩
  keep := fun i h h' st k => let ⟨⟨old, he⟩, hi, hne⟩ := st; ⟨⟨old, k e (by simp) _ he⟩, hi.at fun o q => k it (by simp) o q, hne⟩
  item := by
    intro X hP hw hK hc i pins s σ H E I hf st hg
    subst hP hw hK
    obtain ⟨⟨old, he⟩, hit, hne⟩ := st
    obtain ⟨xs, x, hq, hx⟩ := hg
    obtain ⟨its, rv, p, hz⟩ := I.tuple hq
    obtain ⟨u, hu, ru⟩ := rv.get hx
    have hu' : its.toArray[i]? = some u := by simpa using hu
    have hil : i < its.toArray.size := by
      rcases Nat.lt_or_ge i its.toArray.size with q | q
      · exact q
      · rw [Array.getElem?_eq_none q] at hu'; cases hu'
    have hel : e < s.heap.objs.size := Heap.lt_size he
    have hitl : it < s.heap.objs.size := by obtain ⟨_, q, _⟩ := hit; exact Heap.lt_size q
    have hea : e ∉ [it, a] := by
      intro q
      have q' : e = it ∨ e = a := by simpa using q
      rcases q' with q' | q'
      · exact hne q'
      · obtain ⟨o, ho, hc', _⟩ := p
        rw [← q', he] at ho
        cases ho
        have hc2 : Value.type "enumerate" = Value.type "tuple" := hc'
        exact absurd hc2 (by decide)
    refine wpAny_pyNext_enum_itemD (drawsT (A := X.A.in1) (I.ok.hd hc) it a hat its.toArray) he ⟨hit, show s.heap.IsTuple a its.toArray from p⟩ hil hne hea fun u2 h' tk hu2 ho hst hT hsz hk => ?_
    rw [hu'] at hu2
    cases hu2
    obtain ⟨hit', _⟩ := hst
    refine ⟨_, rfl, wpAny_letOwnedTupleGo_enum (s := { s with heap := h', toks := tk + 1 }) ho fun h'' he' sb => ?_⟩
    have hT2 : h''.get? s.heap.objs.size = some { cls := .type "tuple", data := .seq #[.int i tk, u] } := (sb.2 _ (Nat.ne_of_gt hel)).trans hT
    have new : ObjOk X.prog X.w (upd H s.heap.objs.size (.tup [.int (i : Nat), x])) h'' s.heap.objs.size (.tup [.int (i : Nat), x]) :=
      ⟨by show 2 ≤ sizeLine; decide, [.int i tk, u], .cons ⟨_, rfl⟩ (.cons ru .nil), ⟨_, hT2, rfl, _, rfl⟩⟩
    have I1 : Inv X pins σ (upd H s.heap.objs.size (.tup [.int (i : Nat), x])) { s with heap := h'', toks := tk + 1 } :=
      I.turnedNew (ch := [e, it]) (fun b ob hb q => (sb.2 b (fun z => hb (by simp [z]))).trans (hk b ob (fun z => hb (by simp [z])) (fun z => hb (by simp [z])) q)) hf (Nat.le_refl _) new
    refine ⟨.ref s.heap.objs.size, _, I1, rfl, ⟨_, x, rfl, I.hok.fresh (Nat.le_refl _), rfl, fun ys hy => by rw [I.tuple_inj hy hq]; exact hx⟩, ⟨⟨u, ?_⟩, hit'.at fun o q => (sb.2 it (Ne.symm hne)).trans q, hne⟩, fun b hb => ?_⟩
    · have e1 : ((i + 1 : Nat) : Int) = (i : Int) + 1 := by omega
      rw [e1]; exact he'
    · have hb' : b < s.heap.objs.size := by
        have e' : b = e ∨ b = it := by simpa using hb
        rcases e' with z | z
        · rw [z]; exact hel
        · rw [z]; exact hitl
      rw [upd_ne (Nat.ne_of_lt hb')]
      exact (hf b hb).1
  done := by
    intro X hP hw hK hc i pins s σ H E I hf st hg
    subst hP hw hK
    obtain ⟨⟨old, he⟩, hit, hne⟩ := st
    obtain ⟨xs, hq, hx⟩ := hg
    obtain ⟨its, rv, p, hz⟩ := I.tuple hq
    obtain ⟨f0, f1, f2, f3, f4, f5⟩ := hf it (by simp)
    have hl := rv.length
    have hn : its.toArray[i]? = none := by simp; omega
    show wpAny _ _ (pyNext (.ref e)) _ _ _
    have hTy : s.TypeIs (.ref e) "enumerate" := ⟨_, he, rfl⟩
    unfold pyNext
    refine wpAny_bind (wpAny_attempt (wpAny_callSpecial?_slot (name := Str.ofString "__next__") hTy F.slot_enumerate_next
      (wpAny_call_entry F.slot_enumerate_next hTy F.entry_enumerate_next ?_ (F.args_enumerate_next_1 _))))
    show wpAny _ _ (field (.ref e) 2 >>= _) _ _ _
    refine wpAny_bind (wpAny_field he rfl (x := .ref it) rfl ?_)
    refine wpAny_bind (RZ.nextOf_tuple_end (I.ok.hd hc) hit (show s.heap.IsTuple a its.toArray from p) hn fun h' y eb hx' => ?_)
    obtain ⟨o, ho, hc⟩ := hx'
    refine wpAny_bind (wpAny_isInstance (T := "StopIteration") (b := true) ⟨o, ho, hc⟩ isSubtype_stop ?_)
    exact wpAny_pure ⟨rfl, I.turned (t' := s.toks) (fun b o hb q => eb b o hb q) f0 f1 f3 f4 f5⟩
  self := fun A i s Q E st h => let ⟨⟨_, he⟩, _⟩ := st; wpAny_pyIter_enum he h
def iEnumA (K : PySem.W.Frag) (ta : TA) : TI := fun σ H R => ta σ H fun vs H1 => ∃ a xs, vs = [.ref a] ∧ ((SqL K H1 a xs ∧ R (Ite K a) H1) ∨ (SqT K H1 a xs ∧ R (IteT K a) H1))
theorem pi_enumA {X : Cx} {e : Expr} {ta : TA} {p pos tpos : Pos} {elts : List Expr} {kk : Nat} (hg : Gl X "enumerate") (hm : X.mg "enumerate" = none) (ha : PA X [e] ta) (hs : starEach [e] X.env = [(false, eval e X.env)] := by rfl) :
    PI X (.Tuple elts kk tpos) (.Call (.Name "enumerate" p) [e] [] pos) (iEnumA X.K ta) := by
  refine ⟨fun pins s σ H R I h => ?_⟩
  refine Call_ (ld_blt I hg hm boot_enumerate (PyProof.Rows.callWith_type1 (thn (ha.run pos pins s σ H _ I h) fun us s1 ⟨vs, H1, I1, r1, q1⟩ => ?_) hs rfl))
  obtain ⟨a, xs, ex, q1⟩ := q1
  subst ex
  cases r1 with
  | cons r rr =>
    cases rr
    cases r
    have fp : ∀ b, b ∈ [s1.heap.objs.size + 1, s1.heap.objs.size] → FpOk X pins H1 b := fun b hb => by
      have e' : b = s1.heap.objs.size + 1 ∨ b = s1.heap.objs.size := by simpa using hb
      have hle : s1.heap.objs.size ≤ b := by
        rcases e' with z | z
        · rw [z]; exact Nat.le_add_right _ _
        · rw [z]; exact Nat.le_refl _
      exact I1.fpOk hle (I1.hok.fresh hle)
    rcases q1 with ⟨hq, q⟩ | ⟨hq, q⟩
    · obtain ⟨its, rv, p', hz⟩ := I1.list hq
      refine call_enumerate_list p'.isList fun h' he hit hsz hk => wpAny_pyIter_enum he ?_
      have I2 : Inv X pins σ H1 { s1 with heap := h' } := I1.kept (t' := s1.toks) hk
      exact ⟨s1.heap.objs.size + 1, [s1.heap.objs.size + 1, s1.heap.objs.size], _, _, H1, rfl, I2, turn_enum a (s1.heap.objs.size + 1) s1.heap.objs.size, ⟨⟨.none, he⟩, hit, Nat.succ_ne_self _⟩, fp, q⟩
    · obtain ⟨its, rv, p', hz⟩ := I1.tuple hq
      have p2 : s1.heap.IsTuple a its.toArray := p'
      refine call_enumerate_tuple p2 fun h' he hit hsz hk => wpAny_pyIter_enum he ?_
      have I2 : Inv X pins σ H1 { s1 with heap := h' } := I1.kept (t' := s1.toks) hk
      have hal : a < s1.heap.objs.size := by obtain ⟨_, q, _⟩ := p2; exact Heap.lt_size q
      exact ⟨s1.heap.objs.size + 1, [s1.heap.objs.size + 1, s1.heap.objs.size], _, _, H1, rfl, I2, turn_enumT a (s1.heap.objs.size + 1) s1.heap.objs.size (Nat.ne_of_lt hal), ⟨⟨.none, he⟩, hit, Nat.succ_ne_self _⟩, fp, q⟩

def enumD : Nat → List D → List D
  | _, [] => []
  | k, d :: r => .tuple [.int k, d] :: enumD (k + 1) r
theorem enumD_get : ∀ {l : List D} {k i : Nat}, (enumD k l)[i]? = (l[i]?).map fun d => .tuple [.int ((k + i : Nat) : Int), d]
  | [], k, i => by simp [enumD]
  | d :: r, k, 0 => by simp [enumD]
  | d :: r, k, i + 1 => by
    have := @enumD_get r (k + 1) i
    simp only [enumD, List.getElem?_cons_succ, this]
    have e : k + 1 + i = k + (i + 1) := by omega
    rw [e]
theorem enumD_len : ∀ {l : List D} {k : Nat}, (enumD k l).length = l.length
  | [], k => rfl
  | d :: r, k => by simp [enumD, enumD_len]
theorem new_pair {K : PySem.W.Frag} {mg : Str → Option Value} {g : G} {s : S} {H : Hp} (ok : GOk K mg g s H) {v u : V} {x y : D} (h1 : Rp K g.Z v x) (h2 : Rp K g.Z u y) {T : Addr} (hT : H T = none) :
    ∃ g', Step K mg g H g' s (upd H T (.tup [v, u])) ∧ Rp K g'.Z (.ref T) (.tuple [x, y]) := by
  have st := Step.newZ (o := .tup [v, u]) ok hT
  exact ⟨_, st, .tup (.inl (.inl upd_same)) (.cons (Rp.mono st.z _ _ h1) (.cons (Rp.mono st.z _ _ h2) .nil))⟩
theorem walks_enumL {K : PySem.W.Frag} {mg : Str → Option Value} {Z : Hp} {a : Addr} {xs : List V} {l : List D} (hs : SqL K Z a xs) (hd : RpAll K Z xs l) : Walks K mg (Ite K a) Z (enumD 0 l) := by
  intro g s H ok hz i
  have q : SqL K H a xs := Same.seq (show Same Z H from fun b o h => ok.z b o (hz b o h)) hs
  refine ⟨fun h => ⟨xs, q, by rw [dpAll_length hd]; rw [enumD_len] at h; exact h⟩, fun d e => ?_⟩
  rw [enumD_get] at e
  obtain ⟨d', e1, e2⟩ := Option.map_eq_some_iff.mp e
  subst e2
  obtain ⟨v, hv, dv⟩ := dpAll_get hd e1
  refine ⟨⟨xs, v, q, hv⟩, fun x H' y => ?_⟩
  obtain ⟨T, x', rfl, hT, rfl, y⟩ := y
  have e2 := y xs q
  rw [hv] at e2
  cases e2
  rw [Nat.zero_add]
  exact new_pair ok (.int _) (Rp.mono hz d' _ dv) hT
theorem walks_enumT {K : PySem.W.Frag} {mg : Str → Option Value} {Z : Hp} {a : Addr} {xs : List V} {l : List D} (hs : SqT K Z a xs) (hd : RpAll K Z xs l) : Walks K mg (IteT K a) Z (enumD 0 l) := by
  intro g s H ok hz i
  have q : SqT K H a xs := sqT_mono (fun b o h => ok.z b o (hz b o h)) hs
  refine ⟨fun h => ⟨xs, q, by rw [dpAll_length hd]; rw [enumD_len] at h; exact h⟩, fun d e => ?_⟩
  rw [enumD_get] at e
  obtain ⟨d', e1, e2⟩ := Option.map_eq_some_iff.mp e
  subst e2
  obtain ⟨v, hv, dv⟩ := dpAll_get hd e1
  refine ⟨⟨xs, v, q, hv⟩, fun x H' y => ?_⟩
  obtain ⟨T, x', rfl, hT, rfl, y⟩ := y
  have e2 := y xs q
  rw [hv] at e2
  cases e2
  rw [Nat.zero_add]
  exact new_pair ok (.int _) (Rp.mono hz d' _ dv) hT
def iEnumD (m : DEnv → DM RV) : DEnv → DM (List D) := fun env => bnd (m env) fun r => bnd (items r) fun l => ret (enumD 0 l)
def iZipD (m m2 : DEnv → DM RV) : DEnv → DM (List D) := fun env => bnd (m env) fun r => bnd (m2 env) fun r2 => match r, r2 with
  | .d (.tuple l), .d (.tuple l2) => ret (List.zipWith (fun a b => .tuple [a, b]) l l2)
  | .d (.list l), .d (.list l2) => ret (List.zipWith (fun a b => .tuple [a, b]) l l2)
  | _, _ => bad
section
variable {X : Cx} {fld : Str → Str} {E : XK} {pos p tpos : Pos} {e e2 : Expr} {tg : Expr} {m m2 : DEnv → DM RV} {elts : List Expr} {kk : Nat}
theorem paired1 {K : PySem.W.Frag} {mg : Str → Option Value} {g : G} {v : V} {r : RV} (h : RepV K mg g v r) : Paired (RepV K mg g) [v] [r] := .cons h .nil
theorem di_enum (hg : Gl X "enumerate") (hm : X.mg "enumerate" = none) (h : DE X fld E e m) (hs : starEach [e] X.env = [(false, eval e X.env)] := by rfl) :
    DI X fld E (.Tuple elts kk tpos) (.Call (.Name "enumerate" p) [e] [] pos) (iEnumD m) :=
  piImp (pi_enumA hg hm (pa_cons h pa_nil hs) hs) fun σ H R ⟨g, s, env, ok, er, p⟩ => by
    refine ⟨g, s, env, ok, er, p.bind.mono fun g1 s1 H1 r t1 p1 v rv => ?_⟩
    cases r with
    | box n => exact p1.elim
    | fn n => exact p1.elim
    | d x =>
      cases x with
      | list l =>
        cases rv with
        | lst hs hd => exact ⟨_, _, rfl, .inl ⟨.inl (DL.Rd.mono t1.ok.z hs), p1 g1 H1 (.refl t1.ok) _ (walks_enumL (.inl hs) hd)⟩⟩
      | tuple l =>
        cases rv with
        | tup hs hd => exact ⟨_, _, rfl, .inr ⟨sqT_mono t1.ok.z hs, p1 g1 H1 (.refl t1.ok) _ (walks_enumT hs hd)⟩⟩
      | _ => exact p1.elim
theorem walks_zipL {K : PySem.W.Frag} {mg : Str → Option Value} {Z : Hp} {a b : Addr} {xs ys : List V} {l k : List D} (hs : SqL K Z a xs) (hd : RpAll K Z xs l) (hs2 : SqL K Z b ys) (hd2 : RpAll K Z ys k) : Walks K mg (Itz K a b) Z (List.zipWith (fun a b => .tuple [a, b]) l k) := by
  intro g s H ok hz i
  have sm : Same Z H := fun b o h => ok.z b o (hz b o h)
  have q : SqL K H a xs := Same.seq sm hs
  have q2 : SqL K H b ys := Same.seq sm hs2
  refine ⟨fun h => ⟨xs, ys, q, q2, by rw [dpAll_length hd, dpAll_length hd2]; rw [List.length_zipWith] at h; omega⟩, fun d e => ?_⟩
  rw [List.getElem?_zipWith] at e
  obtain ⟨d1, d2, e1, e2, e3⟩ : ∃ d1 d2, l[i]? = some d1 ∧ k[i]? = some d2 ∧ d = .tuple [d1, d2] := by
    cases h1 : l[i]? with
    | none => rw [h1] at e; cases e
    | some d1 =>
      cases h2 : k[i]? with
      | none => rw [h1, h2] at e; cases e
      | some d2 => rw [h1, h2] at e; cases e; exact ⟨_, _, rfl, rfl, rfl⟩
  subst e3
  obtain ⟨v, hv, dv⟩ := dpAll_get hd e1
  obtain ⟨v2, hv2, dv2⟩ := dpAll_get hd2 e2
  refine ⟨⟨xs, ys, v, v2, q, q2, hv, hv2⟩, fun x H' y => ?_⟩
  obtain ⟨T, x1, x2, rfl, hT, rfl, y1, y2⟩ := y
  have f1 := y1 xs q
  have f2 := y2 ys q2
  rw [hv] at f1
  rw [hv2] at f2
  cases f1
  cases f2
  exact new_pair ok (Rp.mono hz _ _ dv) (Rp.mono hz _ _ dv2) hT
theorem walks_zipT {K : PySem.W.Frag} {mg : Str → Option Value} {Z : Hp} {a b : Addr} {xs ys : List V} {l k : List D} (hs : SqT K Z a xs) (hd : RpAll K Z xs l) (hs2 : SqT K Z b ys) (hd2 : RpAll K Z ys k) : Walks K mg (RZ.ItzT K a b) Z (List.zipWith (fun a b => .tuple [a, b]) l k) := by
  intro g s H ok hz i
  have q : SqT K H a xs := sqT_mono (fun b o h => ok.z b o (hz b o h)) hs
  have q2 : SqT K H b ys := sqT_mono (fun b o h => ok.z b o (hz b o h)) hs2
  refine ⟨fun h => ⟨xs, ys, q, q2, by rw [dpAll_length hd, dpAll_length hd2]; rw [List.length_zipWith] at h; omega⟩, fun d e => ?_⟩
  rw [List.getElem?_zipWith] at e
  obtain ⟨d1, d2, e1, e2, e3⟩ : ∃ d1 d2, l[i]? = some d1 ∧ k[i]? = some d2 ∧ d = .tuple [d1, d2] := by
    cases h1 : l[i]? with
    | none => rw [h1] at e; cases e
    | some d1 =>
      cases h2 : k[i]? with
      | none => rw [h1, h2] at e; cases e
      | some d2 => rw [h1, h2] at e; cases e; exact ⟨_, _, rfl, rfl, rfl⟩
  subst e3
  obtain ⟨v, hv, dv⟩ := dpAll_get hd e1
  obtain ⟨v2, hv2, dv2⟩ := dpAll_get hd2 e2
  refine ⟨⟨xs, ys, v, v2, q, q2, hv, hv2⟩, fun x H' y => ?_⟩
  obtain ⟨T, x1, x2, rfl, hT, rfl, y1, y2⟩ := y
  have f1 := y1 xs q
  have f2 := y2 ys q2
  rw [hv] at f1
  rw [hv2] at f2
  cases f1
  cases f2
  exact new_pair ok (Rp.mono hz _ _ dv) (Rp.mono hz _ _ dv2) hT
theorem di_zip (hg : Gl X "zip") (hm : X.mg "zip" = none) (h : DE X fld E e m) (h2 : DE X fld E e2 m2) (hs2 : starEach [e2] X.env = (false, eval e2 X.env) :: starEach [] X.env := by rfl)
    (hs : starEach [e, e2] X.env = (false, eval e X.env) :: starEach [e2] X.env := by rfl) (hpl : (backTo pos (starEach [e2] X.env)).any (·.1) = false := by rfl) :
    DI X fld E (.Tuple elts kk tpos) (.Call (.Name "zip" p) [e, e2] [] pos) (iZipD m m2) :=
  piImp (RZ.pi_zipA hg hm (pa_cons h (pa_cons h2 pa_nil hs2) hs) hs hpl) fun σ H R ⟨g, s, env, ok, er, p⟩ => by
    refine ⟨g, s, env, ok, er, p.bind.mono fun g1 s1 H1 r t1 p1 v rv => ?_⟩
    refine ⟨g1, s1, env, t1.ok, er.step t1, p1.bind.mono fun g2 s2 H2 r2 t2 p2 v2 rv2 => ?_⟩
    have rv := RepV.step (mg := X.mg) t2 rv
    cases r with
    | box n => exact p2.elim
    | fn n => exact p2.elim
    | d x =>
      cases r2 with
      | box n => cases x <;> exact p2.elim
      | fn n => cases x <;> exact p2.elim
      | d y =>
        cases x with
        | list l =>
          cases y with
          | list l2 =>
            cases rv with
            | lst hs hd =>
              cases rv2 with
              | lst hs2 hd2 => exact ⟨_, _, _, _, rfl, .inl ⟨.inl (DL.Rd.mono t2.ok.z hs), .inl (DL.Rd.mono t2.ok.z hs2), p2 g2 H2 (.refl t2.ok) _ (walks_zipL (.inl hs) hd (.inl hs2) hd2)⟩⟩
          | _ => exact p2.elim
        | tuple l =>
          cases y with
          | tuple l2 =>
            cases rv with
            | tup hs hd =>
              cases rv2 with
              | tup hs2 hd2 => exact ⟨_, _, _, _, rfl, .inr ⟨sqT_mono t2.ok.z hs, sqT_mono t2.ok.z hs2, p2 g2 H2 (.refl t2.ok) _ (walks_zipT hs hd hs2 hd2)⟩⟩
          | _ => exact p2.elim
        | _ => exact p2.elim
end
end DL
namespace DL
open PySem PySem.Spec L2
open PyProof.Rows hiding St

theorem passE0 {X : Cx} : Passes (L2.CX X.prog X.w) X E0 := fun pins σ H s e s' I h => by
  obtain ⟨a, B, H', cls, d, _, _, _, _, _, _, _, z⟩ := h
  exact z.elim

section
variable {X : Cx} {fld : Str → Str} {E : XK} {pos p : Pos} {e : Expr} {es : List Expr} {ma : DEnv → DM RV} {ms : DEnv → DM (List RV)}
theorem paired_rpAll {K : PySem.W.Frag} {mg : Str → Option Value} {g : G} : ∀ {l : List D} {xs : List V} {vs : List V} {rs : List RV}, RpAll K g.Z xs l → Paired (RepV K mg g) vs rs → Paired (RepV K mg g) (xs ++ vs) (l.map .d ++ rs)
  | [], _, _, _, h, r => by cases h; exact r
  | d :: l, _, _, _, h, r => by
    cases h with
    | cons h1 h2 => exact .cons h1 (paired_rpAll h2 r)
theorem da_star (he : DE X fld E e ma) (hr : DA X fld E es ms) (hs : starEach (.Starred e p :: es) X.env = (true, eval e X.env) :: starEach es X.env := by rfl) : DA X fld E (.Starred e p :: es) (aStar ma ms) :=
  paImp (StX.pa_star he hr hs) fun σ H Q ⟨g, s, env, ok, er, p⟩ => by
    refine ⟨g, s, env, ok, er, p.bind.mono fun g1 s1 H1 r t1 p1 v rv => ?_⟩
    have fin : ∀ {l : List D} {q : Addr} {xs : List V}, RpAll X.K g1.Z xs l → (SqT X.K H1 q xs ∨ SqL X.K H1 q xs) → v = .ref q → Post X.K X.mg fld E g1 H1 (bnd (ms env) (fun ys => ret (l.map .d ++ ys)) s1) (fun g' _ H' rs => ∀ vs, Paired (RepV X.K X.mg g') vs rs → Q vs H') →
        ∃ p xs, v = V.ref p ∧ (SqT X.K H1 p xs ∨ SqL X.K H1 p xs) ∧ upA X.K X.mg fld E ms σ H1 fun ys H2 => Q (xs ++ ys) H2 := fun {l q xs} hd hs hv p2 => by
      refine ⟨q, xs, hv, hs, g1, s1, env, t1.ok, er.step t1, p2.bind.mono fun g2 s2 H2 ys t2 p3 vs rvs => ?_⟩
      exact p3 g2 H2 (.refl t2.ok) _ (paired_rpAll (RpAll.mono t2.z _ _ hd) rvs)
    cases r with
    | box n => exact p1.elim
    | fn n => exact p1.elim
    | d x =>
      cases x with
      | list l =>
        cases rv with
        | lst hs hd => exact fin hd (.inr (.inl (DL.Rd.mono t1.ok.z hs))) rfl p1
      | tuple l =>
        cases rv with
        | tup hs hd => exact fin hd (.inl (sqT_mono t1.ok.z hs)) rfl p1
      | _ => exact p1.elim

/-! ### ** -/
def dPow : D → D → DM RV
  | .int i, .int j => if 0 ≤ j ∧ j ≤ 1000000 ∧ i.natAbs < 2 ^ 64 then dI (i ^ j.toNat) else bad
  | _, _ => bad
theorem od_pow : OpD X fld E (rI CPow fun i j => .int (i ^ j.toNat)) dPow := by
  intro g s H v u x y Q ok rx ry p
  cases x with
  | int i =>
    cases y with
    | int j =>
      cases rx
      cases ry
      have p : Post X.K X.mg fld E g H ((if 0 ≤ j ∧ j ≤ 1000000 ∧ i.natAbs < 2 ^ 64 then dI (i ^ j.toNat) else bad) s) (K0 X.K X.mg Q) := p
      by_cases q : 0 ≤ j ∧ j ≤ 1000000 ∧ i.natAbs < 2 ^ 64
      · rw [if_pos q] at p
        exact ⟨i, j, rfl, rfl, q, post_i ok p⟩
      · rw [if_neg q] at p; exact p.elim
    | _ => exact p.elim
  | _ => exact p.elim

/-! ### a call of a name that holds a def -/
structure HeldD (X : Cx) (fld : Str → Str) (k n np : Nat) (x : Str) (m : List RV → DM RV) : Prop where
  ex : ∃ (f : Addr) (fd : FuncData) (ps : List Str), ps.length = np ∧ X.mg x = some (.ref f) ∧ DFn X.prog X.w X.K X.mg X.base fld k f fd ps m ∧ PySem.W.keepIn X.K (.ref f) = true ∧ KB X.K fd ps n [] [] (List.range n)
def slotF (env : DEnv) (i : Nat) (F : Str → DM RV) : DM RV := match env[i]? with
  | some (some (.rv (.fn x))) => F x
  | _ => bad
def tblF (tbl : Str → Option (List RV → DM RV)) (x : Str) (F : (List RV → DM RV) → DM RV) : DM RV := match tbl x with
  | some m => F m
  | none => bad
def eCallV (i n np : Nat) (tbl : Str → Option (List RV → DM RV)) (a : DEnv → DM (List RV)) : DEnv → DM RV := fun env => slotF env i fun x => tblF tbl x fun m => eCall n 0 np (List.range n) [] m a aNil env
theorem slotF_post {K : PySem.W.Frag} {mg : Str → Option Value} {g : G} {H : Hp} {s : S} {env : DEnv} {i : Nat} {F : Str → DM RV} {k} (h : Post K mg fld E g H (slotF env i F s) k) : ∃ x, env[i]? = some (some (.rv (.fn x))) ∧ Post K mg fld E g H (F x s) k := by
  unfold slotF at h
  cases q : env[i]? with
  | none => rw [q] at h; exact h.elim
  | some o =>
    rw [q] at h
    cases o with
    | none => exact h.elim
    | some y =>
      cases y with
      | own l => exact h.elim
      | lt l => exact h.elim
      | rv r =>
        cases r with
        | d x => exact h.elim
        | box n => exact h.elim
        | fn x => exact ⟨x, rfl, h⟩
theorem tblF_post {K : PySem.W.Frag} {mg : Str → Option Value} {g : G} {H : Hp} {s : S} {tbl : Str → Option (List RV → DM RV)} {x : Str} {F : (List RV → DM RV) → DM RV} {k} (h : Post K mg fld E g H (tblF tbl x F s) k) : ∃ m, tbl x = some m ∧ Post K mg fld E g H (F m s) k := by
  unfold tblF at h
  cases q : tbl x with
  | none => rw [q] at h; exact h.elim
  | some m => rw [q] at h; exact ⟨m, rfl, h⟩
theorem held_nil {P : Str → (List RV → DM RV) → Prop} : ∀ y m, ([] : List (Str × (List RV → DM RV))).lookup y = some m → P y m := fun y m h => by cases h
theorem held_cons {P : Str → (List RV → DM RV) → Prop} {x : Str} {m0 : List RV → DM RV} {l : List (Str × (List RV → DM RV))} (h : P x m0) (r : ∀ y m, l.lookup y = some m → P y m) : ∀ y m, ((x, m0) :: l).lookup y = some m → P y m := fun y m e => by
  rw [List.lookup_cons] at e
  by_cases q : (y == x) = true
  · rw [q] at e
    cases e
    rw [eq_of_beq q]; exact h
  · rw [Bool.not_eq_true] at q
    rw [q] at e
    exact r y m e
theorem de_callV {k n np : Nat} {tbl : Str → Option (List RV → DM RV)} {x : Str} {a : DEnv → DM (List RV)} (i : Nat) (hT : ∀ y m, tbl y = some m → HeldD X fld k n np y m) (hr : Room k X.A) (hgd : X.A.guards = some []) (hx : Passes (L2.CX X.prog X.w) X E)
    (ha : DA X fld E (e :: es) a) (hN : X.N[i]? = some x := by rfl) (hv : Vis X.env.scope x := by first | exact Or.inl rfl | exact Or.inr (Or.inl rfl) | exact Or.inr (Or.inr rfl)) (hdb : (x == ("__debug__" : Str)) = false := by decide) (hcd : (x == ("__classdict__" : Str)) = false := by decide)
    (he : starEach (e :: es) X.env = (false, eval e X.env) :: starEach es X.env := by rfl) (hpl : (backTo pos (starEach es X.env)).any (·.1) = false := by rfl) :
    DE X fld E (.Call (.Name x p) (e :: es) [] pos) (eCallV i n np tbl a) := by
  refine ⟨fun pins s σ H Q I h => ?_⟩
  obtain ⟨g, s0, env, ok, er, pp⟩ := h
  obtain ⟨y, hy, pp⟩ := slotF_post pp
  obtain ⟨m, hm, pp⟩ := tblF_post pp
  obtain ⟨v, hs, hrv⟩ := er.at_ i _ hy
  obtain ⟨f', hf', rfl⟩ : ∃ a, X.mg y = some (.ref a) ∧ v = .ref a := hrv
  obtain ⟨f, fd, ps, hnp, hf, F, hk, hb⟩ := (hT y m hm).ex
  subst hnp
  have e1 : f = f' := by rw [hf] at hf'; cases hf'; rfl
  subst e1
  refine wpAny_Call_Name_kw (thn ((pe_var (pos := p) hN hv hdb hcd).run pins s σ H (fun v H1 => v = .ref f ∧ H1 = H) I ⟨.ref f, hs, rfl, rfl⟩) fun u s1 ⟨v, H1, I1, r1, q1⟩ => ?_)
  obtain ⟨rfl, rfl⟩ := q1
  cases r1
  have h2 := callG_nil (call_up (X := X) (fld := fld) (E := E) (n := n) (ps := ps) (idx := List.range n) (dvs := []) (dd := []) (m := m) (a := a) (ak := aNil) (nk := 0) (fun _ => .nil) σ _ Q ⟨g, s0, env, ok, er, pp⟩) upA_mono
  refine PySem.W.callWith_K (h₀ := X.base) I.ok.mod.kin hk (thn (ha.run pos pins s1 σ _ _ I1 h2) fun us s2 ⟨vs, H2, I2, r, q⟩ => ⟨I2.kIn, ?_⟩) he hpl
  obtain ⟨q1, q2, q3, q4⟩ := q
  exact run_fnG (ks := []) (ws := []) F hr hgd hb .nil hx I2 r .nil q1 q2 q3 q4

/-! ### a, b = x, y with local names -/
variable {g0 : G} {H0 : Hp}
def setD (i : Nat) (r : RV) (env : DEnv) : DEnv := env.set i (some (.rv r))
def sPar (i j : Nat) (m : DEnv → DM (List RV)) : DEnv → DM Fl := fun env => bnd (m env) fun rs => match rs with
  | [a, b] => ret (.nx ((env.set i (some (.rv a))).set j (some (.rv b))))
  | _ => bad
def sPar3 (i j l : Nat) (m : DEnv → DM (List RV)) : DEnv → DM Fl := fun env => bnd (m env) fun rs => match rs with
  | [a, b, c] => ret (.nx (((env.set i (some (.rv a))).set j (some (.rv b))).set l (some (.rv c))))
  | _ => bad
theorem exc_upA {m : DEnv → DM (List RV)} {k : List RV → DM Fl} {K : PySem.W.Frag} {mg : Str → Option Value} {g : G} {s : S} {H : Hp} {σ : St} {env : DEnv} {Dd : Ends} {Q : List V → Hp → Prop} (f : FR K mg g0 H0 g s H σ env) (p : PostS K mg fld E g0 H0 g (bnd (m env) k s) Dd)
    (h : ∀ rs s1 g1 H1, m env s = .ok rs s1 → Step K mg g H g1 s1 H1 → FR K mg g0 H0 g1 s1 H1 σ env → PostS K mg fld E g0 H0 g (k rs s1) Dd → ∀ vs, Paired (RepV K mg g1) vs rs → Q vs H1) : upA K mg fld E m σ H Q := by
  refine ⟨g, s, env, f.ok, f.er, ?_⟩
  unfold bnd at p
  cases q : m env s with
  | bad => rw [q] at p; exact p
  | exc e s' => rw [q] at p; exact exc_up f p
  | ok rs s' =>
    rw [q] at p
    exact fun g1 H1 t1 vs rvs => h rs s' g1 H1 q t1 (f.step t1) p vs rvs
theorem ds_par {i j : Nat} {x y : Str} {a b : Expr} {px py pt : Pos} {kt k2 pt2} (hc : X.calm = true) (hN : X.N.Nodup) (hi : X.N[i]? = some x) (hj : X.N[j]? = some y) (hij : i ≠ j)
    (hx : X.env.scope.names.lookup x = some .local) (hy : X.env.scope.names.lookup y = some .local) (ha : DA X fld E [a, b] ms)
    (hw : swappedStores [.Tuple [.Name x px, .Name y py] kt pt] (.Tuple [a, b] k2 pt2) X.env = pure (some [x, y]))
    (hs : swapsWithSole [.Tuple [.Name x px, .Name y py] kt pt] (.Tuple [a, b] k2 pt2) pos.line X.env = pure false := by rfl) :
    DS X fld E g0 H0 (.Assign [.Tuple [.Name x px, .Name y py] kt pt] (.Tuple [a, b] k2 pt2) pos) (sPar i j ms) :=
  psImp (ps_par hc hN hi hj hij hx hy ha hw hs) fun Dd σ H ⟨g, s, env, f, p⟩ => exc_upA f p fun rs s1 g1 H1 e1 t1 f1 p1 vs rvs => by
    cases rvs with
    | nil => exact p1.elim
    | cons r1 rr =>
      cases rr with
      | nil => exact p1.elim
      | cons r2 rr =>
        cases rr with
        | cons _ _ => exact p1.elim
        | nil =>
          have ea := f1.er.set (i := i) r1
          have fa := f1.kept (.refl t1.ok) ea (.set f1.er)
          exact ⟨_, _, rfl, p1 g1 H1 _ (fa.kept (.refl t1.ok) (ea.set (i := j) r2) (.set ea)) t1.sub⟩
theorem ds_par3 {i j l : Nat} {x y z : Str} {a b c : Expr} {px py pz pt : Pos} {kt k2 pt2} (hc : X.calm = true) (hN : X.N.Nodup) (hi : X.N[i]? = some x) (hj : X.N[j]? = some y) (hl : X.N[l]? = some z) (hij : i ≠ j) (hil : i ≠ l) (hjl : j ≠ l)
    (hx : X.env.scope.names.lookup x = some .local) (hy : X.env.scope.names.lookup y = some .local) (hz : X.env.scope.names.lookup z = some .local) (ha : DA X fld E [a, b, c] ms)
    (hw : swappedStores [.Tuple [.Name x px, .Name y py, .Name z pz] kt pt] (.Tuple [a, b, c] k2 pt2) X.env = pure (some [x, y, z]))
    (hs : swapsWithSole [.Tuple [.Name x px, .Name y py, .Name z pz] kt pt] (.Tuple [a, b, c] k2 pt2) pos.line X.env = pure false := by rfl) :
    DS X fld E g0 H0 (.Assign [.Tuple [.Name x px, .Name y py, .Name z pz] kt pt] (.Tuple [a, b, c] k2 pt2) pos) (sPar3 i j l ms) :=
  psImp (ps_par3 hc hN hi hj hl hij hil hjl hx hy hz ha hw hs) fun Dd σ H ⟨g, s, env, f, p⟩ => exc_upA f p fun rs s1 g1 H1 e1 t1 f1 p1 vs rvs => by
    cases rvs with
    | nil => exact p1.elim
    | cons r1 rr =>
      cases rr with
      | nil => exact p1.elim
      | cons r2 rr =>
        cases rr with
        | nil => exact p1.elim
        | cons r3 rr =>
          cases rr with
          | cons _ _ => exact p1.elim
          | nil =>
            have ea := f1.er.set (i := i) r1
            have fa := f1.kept (.refl t1.ok) ea (.set f1.er)
            have eb := ea.set (i := j) r2
            have fb := fa.kept (.refl t1.ok) eb (.set ea)
            exact ⟨_, _, _, rfl, p1 g1 H1 _ (fb.kept (.refl t1.ok) (eb.set (i := l) r3) (.set eb)) t1.sub⟩
end
end DL
namespace DL
open PySem PySem.Spec L2
open PyProof.Rows hiding St

/-! ### constants of the module, checked in the part K -/
def isTy (n : String) : Value → Bool
  | .type m => decide (m = n)
  | _ => false
theorem isTy_eq {n : String} {v : Value} (h : isTy n v = true) : v = .type n := by
  cases v with
  | type m => exact congrArg Value.type (of_decide_eq_true h)
  | _ => exact absurd h (by intro q; cases q)
def isNo : Option Addr → Bool
  | none => true
  | some _ => false
def seqOf : Data → Option (List Value)
  | .seq its _ => some its.toList
  | _ => none
theorem seqOf_eq {d : Data} {l : List Value} (h : seqOf d = some l) : ∃ its n, d = .seq its n ∧ its.toList = l := by
  cases d with
  | seq its n => exact ⟨its, n, rfl, Option.some.inj h⟩
  | _ => cases h
def tupOf (K : PySem.W.Frag) (a : Addr) : Option (List Value) := match K.lookup a with
  | none => none
  | some o => if isTy "tuple" o.cls && isNo o.dict then seqOf o.data else none
theorem tupOf_eq {K : PySem.W.Frag} {a : Addr} {l : List Value} (h : tupOf K a = some l) : ∃ o its n, K.lookup a = some o ∧ o.cls = .type "tuple" ∧ o.dict = none ∧ o.data = .seq its n ∧ its.toList = l := by
  unfold tupOf at h
  cases q : K.lookup a with
  | none => rw [q] at h; cases h
  | some o =>
    rw [q] at h
    dsimp only at h
    by_cases z : (isTy "tuple" o.cls && isNo o.dict) = true
    · rw [if_pos z] at h
      obtain ⟨its, n, e1, e2⟩ := seqOf_eq h
      have z := Bool.and_eq_true_iff.mp z
      refine ⟨o, its, n, rfl, isTy_eq z.1, ?_, e1, e2⟩
      have z2 := z.2
      cases hd : o.dict with
      | none => rfl
      | some b => rw [hd] at z2; cases z2
    · rw [if_neg z] at h; cases h
mutual
def chkD (K : PySem.W.Frag) : D → Value → Bool
  | .none, .none => true
  | .bool b, .bool c => b == c
  | .int i, .int j _ => decide (i = j)
  | .str x, .str y _ => decide (x = y)
  | .tuple l, .ref a => match tupOf K a with
    | some us => decide (us.length ≤ 1000) && chkAll K l us
    | none => false
  | _, _ => false
def chkAll (K : PySem.W.Frag) : List D → List Value → Bool
  | [], [] => true
  | d :: l, u :: us => chkD K d u && chkAll K l us
  | _, _ => false
end
mutual
theorem chkD_ok {K : PySem.W.Frag} : ∀ (d : D) (u : Value), chkD K d u = true → ∃ v, RelV v u ∧ ∀ Z, Rp K Z v d
  | .none, u, h => by
    cases u <;> first | exact ⟨.non, rfl, fun _ => .non⟩ | (unfold chkD at h; cases h)
  | .bool b, u, h => by
    cases u with
    | bool c =>
      unfold chkD at h
      have e : b = c := by simpa using h
      subst e
      exact ⟨.bl b, rfl, fun _ => .bl b⟩
    | _ => unfold chkD at h; cases h
  | .int i, u, h => by
    cases u with
    | int j t =>
      unfold chkD at h
      have e : i = j := of_decide_eq_true h
      subst e
      exact ⟨.int i, ⟨t, rfl⟩, fun _ => .int i⟩
    | _ => unfold chkD at h; cases h
  | .str x, u, h => by
    cases u with
    | str y t =>
      unfold chkD at h
      have e : x = y := of_decide_eq_true h
      subst e
      exact ⟨.str x, ⟨t, rfl⟩, fun _ => .str x⟩
    | _ => unfold chkD at h; cases h
  | .list l, u, h => by cases u <;> (unfold chkD at h; cases h)
  | .dict l, u, h => by cases u <;> (unfold chkD at h; cases h)
  | .tuple l, u, h => by
    cases u with
    | ref a =>
      unfold chkD at h
      cases q : tupOf K a with
      | none => rw [q] at h; cases h
      | some us =>
        rw [q] at h
        dsimp only at h
        have z := Bool.and_eq_true_iff.mp h
        obtain ⟨o, its, n, e1, e2, e3, e4, e5⟩ := tupOf_eq q
        obtain ⟨vs, r, hd⟩ := chkAll_ok l us z.2
        refine ⟨.ref a, rfl, fun Z => .tup (xs := vs) (.inr ⟨o, its, n, e1, e2, e4, ?_, by rw [e5]; exact r⟩) (hd Z)⟩
        have l1 : us.length ≤ 1000 := of_decide_eq_true z.1
        have l2 : its.size = us.length := by rw [← e5]; simp
        have l3 : 1000 ≤ sizeLine := by decide
        omega
    | _ => unfold chkD at h; cases h
theorem chkAll_ok {K : PySem.W.Frag} : ∀ (l : List D) (us : List Value), chkAll K l us = true → ∃ vs, Vals vs us ∧ ∀ Z, RpAll K Z vs l
  | [], us, h => by
    cases us with
    | nil => exact ⟨[], .nil, fun _ => .nil⟩
    | cons u us => unfold chkAll at h; cases h
  | d :: l, us, h => by
    cases us with
    | nil => unfold chkAll at h; cases h
    | cons u us =>
      unfold chkAll at h
      have z := Bool.and_eq_true_iff.mp h
      obtain ⟨v, r, hv⟩ := chkD_ok d u z.1
      obtain ⟨vs, rs, hs⟩ := chkAll_ok l us z.2
      exact ⟨v :: vs, .cons r rs, fun Z => .cons (hv Z) (hs Z)⟩
end
structure GlobD (K : PySem.W.Frag) (mg : Str → Option Value) (x : Str) (d : D) : Prop where
  ex : ∃ u v, mg x = some u ∧ RelV v u ∧ ∀ Z, Rp K Z v d
structure TupG (K : PySem.W.Frag) (mg : Str → Option Value) (x : Str) (ds : List D) : Prop where
  ex : ∃ a, mg x = some (.ref a) ∧ (∃ o, K.lookup a = some o ∧ o.cls = .type "tuple" ∧ o.dict = none) ∧ ∀ Z, Rp K Z (.ref a) (.tuple ds)
def chkG (K : PySem.W.Frag) (x : Str) (d : D) : Bool := match PySem.W.nsIn K mainGlobals x with
  | some (some u) => chkD K d u
  | _ => false
theorem chkG_some {K : PySem.W.Frag} {x : Str} {d : D} (h : chkG K x d = true) : ∃ u, PySem.W.nsIn K mainGlobals x = some (some u) ∧ chkD K d u = true := by
  unfold chkG at h
  cases q : PySem.W.nsIn K mainGlobals x with
  | none => rw [q] at h; cases h
  | some o =>
    rw [q] at h
    cases o with
    | none => cases h
    | some u => exact ⟨u, rfl, h⟩
section
variable {K : PySem.W.Frag} {mg : Str → Option Value} {h : Heap}
theorem globD {x : Str} {d : D} (KX : K.In h) (G : h.Ns mainGlobals mg) (c : chkG K x d = true) : GlobD K mg x d := by
  obtain ⟨u, e, c⟩ := chkG_some c
  obtain ⟨v, r, hv⟩ := chkD_ok d u c
  exact ⟨u, v, PySem.W.mg_of KX G e, r, hv⟩
theorem tupG {x : Str} {ds : List D} (KX : K.In h) (G : h.Ns mainGlobals mg) (c : chkG K x (.tuple ds) = true) : TupG K mg x ds := by
  obtain ⟨u, e, c⟩ := chkG_some c
  obtain ⟨v, r, hv⟩ := chkD_ok _ u c
  cases u with
  | ref a =>
    have ev : v = .ref a := by
      have := hv (fun _ => none)
      cases this with
      | tup _ _ => cases r; rfl
    subst ev
    unfold chkD at c
    cases q : tupOf K a with
    | none => rw [q] at c; cases c
    | some us =>
      obtain ⟨o, its, n, e1, e2, e3, e4, e5⟩ := tupOf_eq q
      exact ⟨a, PySem.W.mg_of KX G e, ⟨o, e1, e2, e3⟩, hv⟩
  | _ => unfold chkD at c; cases c
end
section
variable {X : Cx} {fld : Str → Str} {E : XK} {pos : Pos}
theorem de_globD {x : Str} {d : D} (hg : Gl X x) (h : GlobD X.K X.mg x d) (h1 : (x == ("__debug__" : Str)) = false := by decide) : DE X fld E (.Name x pos) (eC d) := by
  obtain ⟨u, v, hm, r, hd⟩ := h.ex
  exact de_glob hg hm r hd h1
theorem de_tindexG {x : Str} {ds : List D} {e : Expr} {m : DEnv → DM RV} {p apos cpos : Pos} (hu : X.A.units + 65 < cLine) (hg : Gl X x) (ht : TupG X.K X.mg x ds) (h : DE X fld E e m)
    (hbase : attributeBase (.Name x p) "index" X.env (eval (.Name x p) X.env) = eval (.Name x p) X.env := by rfl)
    (hfew : ((backTo cpos (starEach [e] X.env)).all (fun x => !x.1) && (backToKw cpos (keywordEach [] X.env)).all (fun x => x.1.isSome)
      && decide ([e].length + ([] : List Keyword).length + (if ([] : List Keyword).isEmpty then 0 else 1) < 30)) = true := by rfl)
    (hline : (apos.endLine == cpos.line) = true := by rfl) (hs : starEach [e] X.env = (false, eval e X.env) :: starEach [] X.env := by rfl) (h1 : (x == ("__debug__" : Str)) = false := by decide) :
    DE X fld E (.Call (.Attribute (.Name x p) "index" apos) [e] [] cpos) (eTIndex ds m) := by
  obtain ⟨a, hm, hty, hd⟩ := ht.ex
  exact de_tindex hu hg hm hty hd h hbase hfew hline hs h1
end
/-! ### no list among the objects of K -/
def noList (K : PySem.W.Frag) : Bool := K.all fun p => !isTy "list" p.2.cls
theorem noList_ok {K : PySem.W.Frag} (h : noList K = true) {a : Addr} {o : Obj} (e : K.lookup a = some o) : o.cls ≠ .type "list" := by
  unfold noList at h
  have hm : (a, o) ∈ K := by
    clear h
    induction K with
    | nil => cases e
    | cons p K ih =>
      obtain ⟨b, o'⟩ := p
      rw [List.lookup_cons] at e
      by_cases q : (a == b) = true
      · rw [q] at e
        cases e
        have : a = b := eq_of_beq q
        subst this
        exact List.mem_cons_self ..
      · rw [Bool.not_eq_true] at q
        rw [q] at e
        exact List.mem_cons_of_mem _ (ih e)
  have := List.all_eq_true.mp h _ hm
  intro q
  dsimp only at this
  rw [q] at this
  exact absurd this (by decide +kernel)
end DL
namespace DL
open PySem PySem.Spec L2
open PyProof.Rows hiding St

structure KBD (K : PySem.W.Frag) (fd : FuncData) (ps : List Str) (n : Nat) (ks : List Str) (dd : List D) (idx : List Nat) : Prop where
  ex : ∃ dvs ds, KB K fd ps n ks ds idx ∧ Vals dvs ds ∧ ∀ Z, RpAll K Z dvs dd
theorem KB.d {K : PySem.W.Frag} {fd : FuncData} {ps : List Str} {n : Nat} {ks : List Str} {idx : List Nat} (h : KB K fd ps n ks [] idx) : KBD K fd ps n ks [] idx := ⟨[], [], h, .nil, fun _ => .nil⟩
def chkTup (K : PySem.W.Frag) (dd : List D) : Value → Bool
  | .ref a => match tupOf K a with
    | some us => chkAll K dd us
    | none => false
  | _ => false
section
variable {K : PySem.W.Frag} {mg : Str → Option Value} {x qual : Str} {st : Stmt} {dV : Value} {f : Addr} {fd : FuncData}
theorem FX.kbD {ps : List Str} {n : Nat} {ks : List Str} {idx : List Nat} {dd : List D} (F : FX K x qual st dV f fd) (c : chkTup K dd dV = true)
    (h : ∀ (T : Addr) (its : List Value) (kV doc pm : Value) (an : Option Addr) (cdv ct : Value) (us ws : List Value), its.length = dd.length → us.length = n → ws.length = ks.length →
      ∃ k, bindArgs (PySem.W.fnOf x qual (defArgs st) (defBody st) (defScope st) (.ref T) kV doc pm an cdv ct) ⟨us, ks.zip ws⟩ = seqItems? (.ref T) >>= k ∧ k (some its.toArray) = pure (ps.zip (pick idx (us ++ (ws ++ its))))) : KBD K fd ps n ks dd idx := by
  cases dV with
  | ref T =>
    unfold chkTup at c
    dsimp only at c
    cases q : tupOf K T with
    | none => rw [q] at c; cases c
    | some its =>
      rw [q] at c
      obtain ⟨vs, r, hd⟩ := chkAll_ok dd its c
      obtain ⟨o, its0, m, e1, e2, e3, e4, e5⟩ := tupOf_eq q
      have hl : its.length = dd.length := by
        have l1 := r.length
        have l2 := rpAll_length (hd (fun _ => none))
        omega
      refine ⟨vs, its, F.kbd (c := m) e1 ?_ fun kV doc pm an cdv ct us ws => h T its kV doc pm an cdv ct us ws hl, r, hd⟩
      rw [e4, ← e5]
  | _ => cases c
end
section
variable {X : Cx} {fld : Str → Str} {E : XK} {k n : Nat} {f : Addr} {fd : FuncData} {ps ks : List Str} {dd : List D} {idx : List Nat} {x : Str} {p pos kpos : Pos} {e : Expr} {es : List Expr} {kws : List Keyword} {m : List RV → DM RV} {a ak : DEnv → DM (List RV)}
theorem de_callD (F : DFn X.prog X.w X.K X.mg X.base fld k f fd ps m) (hr : Room k X.A) (hgd : X.A.guards = some []) (hg : Gl X x) (hm : X.mg x = some (.ref f)) (hk : PySem.W.keepIn X.K (.ref f) = true) (hb : KBD X.K fd ps n [] dd idx) (hx : Passes (L2.CX X.prog X.w) X E)
    (ha : DA X fld E (e :: es) a) (hdb : (x == ("__debug__" : Str)) = false := by decide) (he : starEach (e :: es) X.env = (false, eval e X.env) :: starEach es X.env := by rfl) (hpl : (backTo pos (starEach es X.env)).any (·.1) = false := by rfl) :
    DE X fld E (.Call (.Name x p) (e :: es) [] pos) (eCall n 0 ps.length idx dd m a aNil) := by
  obtain ⟨dvs, ds, hb, hd, hdd⟩ := hb.ex
  exact de_call F hr hgd hg hm hk hb hd hdd hx ha hdb he hpl
theorem de_callD0 (F : DFn X.prog X.w X.K X.mg X.base fld k f fd ps m) (hr : Room k X.A) (hgd : X.A.guards = some []) (hg : Gl X x) (hm : X.mg x = some (.ref f)) (hk : PySem.W.keepIn X.K (.ref f) = true) (hb : KBD X.K fd ps 0 [] dd idx) (hx : Passes (L2.CX X.prog X.w) X E)
    (hdb : (x == ("__debug__" : Str)) = false := by decide) : DE X fld E (.Call (.Name x p) [] [] pos) (eCall 0 0 ps.length idx dd m aNil aNil) := by
  obtain ⟨dvs, ds, hb, hd, hdd⟩ := hb.ex
  exact de_call0 F hr hgd hg hm hk hb hd hdd hx hdb
theorem de_callKD (F : DFn X.prog X.w X.K X.mg X.base fld k f fd ps m) (hr : Room k X.A) (hgd : X.A.guards = some []) (hg : Gl X x) (hm : X.mg x = some (.ref f)) (hk : PySem.W.keepIn X.K (.ref f) = true) (hb : KBD X.K fd ps n ks dd idx) (hx : Passes (L2.CX X.prog X.w) X E)
    (ha : DA X fld E (e :: es) a) (hkw : DK X fld E kws ak) (hall : (backToKw pos (keywordEach kws X.env)).all (·.1.isSome) = true := by rfl) (hks : (backToKw pos (keywordEach kws X.env)).filterMap (·.1) = ks := by rfl)
    (hdb : (x == ("__debug__" : Str)) = false := by decide) (he : starEach (e :: es) X.env = (false, eval e X.env) :: starEach es X.env := by rfl)
    (hpl : ((backTo pos (starEach (e :: es) X.env)).any (·.1) || (backToKw pos (keywordEach kws X.env)).any (·.1.isNone)) = false := by rfl) :
    DE X fld E (.Call (.Name x p) (e :: es) kws pos) (eCall n ks.length ps.length idx dd m a ak) := by
  obtain ⟨dvs, ds, hb, hd, hdd⟩ := hb.ex
  exact de_callK F hr hgd hg hm hk hb hd hdd hx ha hkw hall hks hdb he hpl
theorem de_callKD0 (F : DFn X.prog X.w X.K X.mg X.base fld k f fd ps m) (hr : Room k X.A) (hgd : X.A.guards = some []) (hg : Gl X x) (hm : X.mg x = some (.ref f)) (hk : PySem.W.keepIn X.K (.ref f) = true) (hb : KBD X.K fd ps 0 ks dd idx) (hx : Passes (L2.CX X.prog X.w) X E)
    (hkw : DK X fld E kws ak) (hall : (backToKw pos (keywordEach kws X.env)).all (·.1.isSome) = true := by rfl) (hks : (backToKw pos (keywordEach kws X.env)).filterMap (·.1) = ks := by rfl)
    (hdb : (x == ("__debug__" : Str)) = false := by decide)
    (hpl : ((backTo pos (starEach [] X.env)).any (·.1) || (backToKw pos (keywordEach kws X.env)).any (·.1.isNone)) = false := by rfl) :
    DE X fld E (.Call (.Name x p) [] kws pos) (eCall 0 ks.length ps.length idx dd m aNil ak) := by
  obtain ⟨dvs, ds, hb, hd, hdd⟩ := hb.ex
  exact de_callK0 F hr hgd hg hm hk hb hd hdd hx hkw hall hks hdb hpl
end
theorem pureI {f : Int → Int → Bool} : ∀ x y s a s', dCmpI f x y s = .ok a s' → s' = s := by
  intro x y s a s' h
  cases x with
  | int i =>
    cases y with
    | int j =>
      have h : ret (RV.d (.bool (f i j))) s = Out.ok a s' := h
      cases h; rfl
    | _ => cases h
  | _ => cases h
theorem pureEq : ∀ x y s a s', dEq x y s = .ok a s' → s' = s := by
  intro x y s a s' h
  unfold dEq ofB at h
  cases q : eqD x y with
  | none => rw [q] at h; cases h
  | some b =>
    rw [q] at h
    have h : ret (RV.d (.bool b)) s = Out.ok a s' := h
    cases h; rfl
end DL
namespace DL
open PySem PySem.Spec L2
theorem blkOk_of {N : List Str} {sc scope : Scope} {own : List (Str × Nat)} (h : decide (scope.kind = .function ∧ (∀ y ∈ scope.names, scope.names.lookup y.1 = some y.2) ∧ (∀ p ∈ own, N[p.2]? = some p.1) ∧
    (∀ y ∈ scope.names, y.2 = .free → sc.names.lookup y.1 = some .cell ∨ sc.names.lookup y.1 = some .free) ∧ (∀ y ∈ scope.names, y.2 = .local ∨ y.2 = .cell → y.1 ∈ own.map (·.1) ∨ y.1 ∉ N)) = true) : BlkOk N sc scope own :=
  let ⟨a, b, c, d, e⟩ := of_decide_eq_true h
  ⟨a, b, c, d, e⟩
end DL
namespace DL
open PySem PySem.Spec L2
open PyProof.Rows hiding St
section
variable {X : Cx} {fld : Str → Str} {E : XK} {pos : Pos} {tg iter elt tg1 iter1 : Expr} {ifs ifs1 : List Expr} {scope : Scope} {it it1 : DEnv → DM (List D)} {t t1 : TgF} {mi mi1 : DEnv → DM Bool} {me : DEnv → DM RV} {own : List (Str × Nat)} {L L1 vs1 : List Nat}
theorem do_lcX (hc : X.calm = true) (hN : X.N.Nodup) (hi : DI X fld E tg iter it) (ok : BlkOk X.N X.env.scope scope own) (hL : ∀ i ∈ L, i ∈ own.map (·.2))
    (hg : ∀ (s : Shared) (H : Hp) (C : Addr) (cl : List (Str × Addr)) (fp : List Addr), Passes (L2.CX X.prog X.w) (X.blk s H scope (compEnvC scope cl C X.env) fp) E0 → DG (X.blk s H scope (compEnvC scope cl C X.env) fp) fld E0 L tg t)
    (ht : ∀ (s : Shared) (H : Hp) (C : Addr) (cl : List (Str × Addr)) (fp : List Addr), Passes (L2.CX X.prog X.w) (X.blk s H scope (compEnvC scope cl C X.env) fp) E0 → DTs (X.blk s H scope (compEnvC scope cl C X.env) fp) fld E0 ifs mi)
    (he : ∀ (s : Shared) (H : Hp) (C : Addr) (cl : List (Str × Addr)) (fp : List Addr), Passes (L2.CX X.prog X.w) (X.blk s H scope (compEnvC scope cl C X.env) fp) E0 → DE (X.blk s H scope (compEnvC scope cl C X.env) fp) fld E0 elt me) (hs : ∀ x, foldedSetIterable iter X.env x = pure x := by intro _; rfl) :
    DO X fld E (.ListComp elt [⟨tg, iter, ifs, 0⟩] scope pos) (oLc (own.map (·.2)) it t mi me) :=
  do_lc hc hN hi ok hL (fun s H C cl fp => hg s H C cl fp passE0) (fun s H C cl fp => ht s H C cl fp passE0) (fun s H C cl fp => he s H C cl fp passE0) hs
theorem ds_setLcX {g0 : G} {H0 : Hp} {i : Nat} {y : Str} {py spos : Pos} (hc : X.calm = true) (hN : X.N.Nodup) (hy : X.N[i]? = some y) (hyl : X.env.scope.names.lookup y = some .local)
    (hsw : swapsWith (.ListComp elt [⟨tg, iter, ifs, 0⟩] scope pos) (some (.Name y py)) spos.line X.env = pure true) (hi : DI X fld E tg iter it) (ok : BlkOk X.N X.env.scope scope own) (hL : ∀ i ∈ L, i ∈ own.map (·.2))
    (hg : ∀ (s : Shared) (H : Hp) (C : Addr) (cl : List (Str × Addr)) (fp : List Addr), Passes (L2.CX X.prog X.w) (X.blk s H scope (compEnvC scope cl C X.env) fp) E0 → DG (X.blk s H scope (compEnvC scope cl C X.env) fp) fld E0 L tg t)
    (ht : ∀ (s : Shared) (H : Hp) (C : Addr) (cl : List (Str × Addr)) (fp : List Addr), Passes (L2.CX X.prog X.w) (X.blk s H scope (compEnvC scope cl C X.env) fp) E0 → DTs (X.blk s H scope (compEnvC scope cl C X.env) fp) fld E0 ifs mi)
    (he : ∀ (s : Shared) (H : Hp) (C : Addr) (cl : List (Str × Addr)) (fp : List Addr), Passes (L2.CX X.prog X.w) (X.blk s H scope (compEnvC scope cl C X.env) fp) E0 → DE (X.blk s H scope (compEnvC scope cl C X.env) fp) fld E0 elt me) (hs : ∀ x, foldedSetIterable iter X.env x = pure x := by intro _; rfl) :
    DS X fld E g0 H0 (.Assign [.Name y py] (.ListComp elt [⟨tg, iter, ifs, 0⟩] scope pos) spos) (sOwn i (oLc (own.map (·.2)) it t mi me)) :=
  ds_setLc hc hN hy hyl hsw hi ok hL (fun s H C cl fp => hg s H C cl fp passE0) (fun s H C cl fp => ht s H C cl fp passE0) (fun s H C cl fp => he s H C cl fp passE0) hs
theorem do_lc2X (hc : X.calm = true) (hN : X.N.Nodup) (hi : DI X fld E tg iter it) (ok : BlkOk X.N X.env.scope scope own) (hv : ∀ i ∈ vs1, i ∈ own.map (·.2)) (hL : ∀ i ∈ L, i ∈ own.map (·.2)) (hL1 : ∀ i ∈ L1, i ∈ vs1)
    (hg : ∀ (s : Shared) (H : Hp) (C : Addr) (cl : List (Str × Addr)) (fp : List Addr), Passes (L2.CX X.prog X.w) (X.blk s H scope (compEnvC scope cl C X.env) fp) E0 → DG (X.blk s H scope (compEnvC scope cl C X.env) fp) fld E0 L tg t)
    (ht : ∀ (s : Shared) (H : Hp) (C : Addr) (cl : List (Str × Addr)) (fp : List Addr), Passes (L2.CX X.prog X.w) (X.blk s H scope (compEnvC scope cl C X.env) fp) E0 → DTs (X.blk s H scope (compEnvC scope cl C X.env) fp) fld E0 ifs mi)
    (hi1 : ∀ (s : Shared) (H : Hp) (C : Addr) (cl : List (Str × Addr)) (fp : List Addr), Passes (L2.CX X.prog X.w) (X.blk s H scope (compEnvC scope cl C X.env) fp) E0 → DI (X.blk s H scope (compEnvC scope cl C X.env) fp) fld E0 tg1 iter1 it1)
    (hg1 : ∀ (s : Shared) (H : Hp) (C : Addr) (cl : List (Str × Addr)) (fp : List Addr), Passes (L2.CX X.prog X.w) (X.blk s H scope (compEnvC scope cl C X.env) fp) E0 → DG (X.blk s H scope (compEnvC scope cl C X.env) fp) fld E0 L1 tg1 t1)
    (ht1 : ∀ (s : Shared) (H : Hp) (C : Addr) (cl : List (Str × Addr)) (fp : List Addr), Passes (L2.CX X.prog X.w) (X.blk s H scope (compEnvC scope cl C X.env) fp) E0 → DTs (X.blk s H scope (compEnvC scope cl C X.env) fp) fld E0 ifs1 mi1)
    (he : ∀ (s : Shared) (H : Hp) (C : Addr) (cl : List (Str × Addr)) (fp : List Addr), Passes (L2.CX X.prog X.w) (X.blk s H scope (compEnvC scope cl C X.env) fp) E0 → DE (X.blk s H scope (compEnvC scope cl C X.env) fp) fld E0 elt me) (hs : ∀ x, foldedSetIterable iter X.env x = pure x := by intro _; rfl) (hs1 : ∀ env x, foldedSetIterable iter1 env x = pure x := by intro _ _; rfl) :
    DO X fld E (.ListComp elt [⟨tg, iter, ifs, 0⟩, ⟨tg1, iter1, ifs1, 0⟩] scope pos) (oLc2 (own.map (·.2)) vs1 it t mi it1 t1 mi1 me) :=
  do_lc2 hc hN hi ok hv hL hL1 (fun s H C cl fp => hg s H C cl fp passE0) (fun s H C cl fp => ht s H C cl fp passE0) (fun s H C cl fp => hi1 s H C cl fp passE0) (fun s H C cl fp => hg1 s H C cl fp passE0) (fun s H C cl fp => ht1 s H C cl fp passE0) (fun s H C cl fp => he s H C cl fp passE0) hs hs1
theorem ds_setLc2X {g0 : G} {H0 : Hp} {i : Nat} {y : Str} {py spos : Pos} (hc : X.calm = true) (hN : X.N.Nodup) (hy : X.N[i]? = some y) (hyl : X.env.scope.names.lookup y = some .local)
    (hsw : swapsWith (.ListComp elt [⟨tg, iter, ifs, 0⟩, ⟨tg1, iter1, ifs1, 0⟩] scope pos) (some (.Name y py)) spos.line X.env = pure true) (hi : DI X fld E tg iter it) (ok : BlkOk X.N X.env.scope scope own) (hv : ∀ i ∈ vs1, i ∈ own.map (·.2)) (hL : ∀ i ∈ L, i ∈ own.map (·.2)) (hL1 : ∀ i ∈ L1, i ∈ vs1)
    (hg : ∀ (s : Shared) (H : Hp) (C : Addr) (cl : List (Str × Addr)) (fp : List Addr), Passes (L2.CX X.prog X.w) (X.blk s H scope (compEnvC scope cl C X.env) fp) E0 → DG (X.blk s H scope (compEnvC scope cl C X.env) fp) fld E0 L tg t)
    (ht : ∀ (s : Shared) (H : Hp) (C : Addr) (cl : List (Str × Addr)) (fp : List Addr), Passes (L2.CX X.prog X.w) (X.blk s H scope (compEnvC scope cl C X.env) fp) E0 → DTs (X.blk s H scope (compEnvC scope cl C X.env) fp) fld E0 ifs mi)
    (hi1 : ∀ (s : Shared) (H : Hp) (C : Addr) (cl : List (Str × Addr)) (fp : List Addr), Passes (L2.CX X.prog X.w) (X.blk s H scope (compEnvC scope cl C X.env) fp) E0 → DI (X.blk s H scope (compEnvC scope cl C X.env) fp) fld E0 tg1 iter1 it1)
    (hg1 : ∀ (s : Shared) (H : Hp) (C : Addr) (cl : List (Str × Addr)) (fp : List Addr), Passes (L2.CX X.prog X.w) (X.blk s H scope (compEnvC scope cl C X.env) fp) E0 → DG (X.blk s H scope (compEnvC scope cl C X.env) fp) fld E0 L1 tg1 t1)
    (ht1 : ∀ (s : Shared) (H : Hp) (C : Addr) (cl : List (Str × Addr)) (fp : List Addr), Passes (L2.CX X.prog X.w) (X.blk s H scope (compEnvC scope cl C X.env) fp) E0 → DTs (X.blk s H scope (compEnvC scope cl C X.env) fp) fld E0 ifs1 mi1)
    (he : ∀ (s : Shared) (H : Hp) (C : Addr) (cl : List (Str × Addr)) (fp : List Addr), Passes (L2.CX X.prog X.w) (X.blk s H scope (compEnvC scope cl C X.env) fp) E0 → DE (X.blk s H scope (compEnvC scope cl C X.env) fp) fld E0 elt me) (hs : ∀ x, foldedSetIterable iter X.env x = pure x := by intro _; rfl) (hs1 : ∀ env x, foldedSetIterable iter1 env x = pure x := by intro _ _; rfl) :
    DS X fld E g0 H0 (.Assign [.Name y py] (.ListComp elt [⟨tg, iter, ifs, 0⟩, ⟨tg1, iter1, ifs1, 0⟩] scope pos) spos) (sOwn i (oLc2 (own.map (·.2)) vs1 it t mi it1 t1 mi1 me)) :=
  ds_setLc2 hc hN hy hyl hsw hi ok hv hL hL1 (fun s H C cl fp => hg s H C cl fp passE0) (fun s H C cl fp => ht s H C cl fp passE0) (fun s H C cl fp => hi1 s H C cl fp passE0) (fun s H C cl fp => hg1 s H C cl fp passE0) (fun s H C cl fp => ht1 s H C cl fp passE0) (fun s H C cl fp => he s H C cl fp passE0) hs hs1
end
end DL
namespace DL
open PySem PySem.Spec L2
open PyProof.Rows hiding St

/-! ### one step of a mirror at a time -/

section
variable {α β : Type} {m : DM α} {f : α → DM β} {s : S} {env : DEnv} {a b c : DEnv → DM RV} {i k n np : Nat} {x y : D} {r : RV} {t : TgF} {ts : TgsF} {as bs : DEnv → DM (List RV)} {o : DEnv → DM (List RV)} {l : List D} {rl : List RV} {p q : DEnv → DM Bool} {st su : DEnv → DM Fl} {g h : D → D → DM RV} {u : D → DM RV} {it it1 : DEnv → DM (List D)} {fl : Fl} {idx vs vs1 : List Nat} {dd : List D} {mf : List RV → DM RV}
theorem a_bnd : bnd m f s = match m s with | .ok a s' => f a s' | .exc e s' => .exc e s' | .bad => .bad := rfl
theorem a_ret {v : α} : ret v s = .ok v s := rfl
theorem a_bad : (bad : DM α) s = .bad := rfl
theorem a_eC : eC x env s = .ok (.d x) s := rfl
theorem a_eFn {z : Str} : eFn z env s = .ok (.fn z) s := rfl
theorem a_onD : onD (.d x) u = u x := rfl
theorem a_eOp : eOp g a b env s = bnd (a env) (fun x => bnd (b env) fun y => onD x fun x => onD y fun y => g x y) s := rfl
theorem a_eUn : eUn u a env s = bnd (a env) (fun x => onD x u) s := rfl
theorem a_aNil : aNil env s = .ok [] s := rfl
theorem a_aCons : aCons a as env s = bnd (a env) (fun x => bnd (as env) fun xs => ret (x :: xs)) s := rfl
theorem a_aStar : aStar a as env s = bnd (a env) (fun x => bnd (items x) fun l => bnd (as env) fun xs => ret (l.map .d ++ xs)) s := rfl
theorem a_itemsL : items (.d (.list l)) = ret l := rfl
theorem a_itemsT : items (.d (.tuple l)) = ret l := rfl
theorem a_dats0 : dats [] = ret [] := rfl
theorem a_dats1 {rs : List RV} : dats (.d x :: rs) = bnd (dats rs) fun l => ret (x :: l) := rfl
theorem a_small {l : List α} : small l s = if l.length ≤ sizeLine then .ok ⟨⟩ s else .bad := by unfold small; split <;> rfl
theorem a_eTup : eTup as env s = bnd (as env) (fun xs => bnd (dats xs) fun l => bnd (small l) fun _ => ret (.d (.tuple l))) s := rfl
theorem a_oLst : oLst as env s = bnd (as env) (fun xs => bnd (small xs) fun _ => ret xs) s := rfl
theorem a_eFz : eFz o env s = bnd (o env) (fun xs => bnd (dats xs) fun l => ret (.d (.list l))) s := rfl
theorem a_tgN : tgN i r env s = .ok (env.set i (some (.rv r))) s := rfl
theorem a_tgsNil : tgsNil [] env s = .ok env s := rfl
theorem a_tgsCons : tgsCons t ts (x :: l) env s = bnd (t (.d x) env) (fun e => ts l e) s := rfl
theorem a_tgT : tgT n ts (.d (.tuple l)) env s = if l.length = n then ts l env s else .bad := by unfold tgT; dsimp only; split <;> rfl
theorem a_tgL : tgL n ts (.d (.list l)) env s = if l.length = n then ts l env s else .bad := by unfold tgL; dsimp only; split <;> rfl
theorem a_sNext : sNext env s = .ok (.nx env) s := rfl
theorem a_sSeq : sSeq st su env s = bnd (st env) (fun f => match f with | .nx e => su e | f => ret f) s := rfl
theorem a_sRet : sRet a env s = bnd (a env) (fun r => ret (.rt r)) s := rfl
theorem a_sRetN : sRetN env s = .ok (.rt (.d .none)) s := rfl
theorem a_sDrop : sDrop a env s = bnd (a env) (fun _ => ret (.nx env)) s := rfl
theorem a_sAsg : sAsg a t env s = bnd (a env) (fun r => bnd (t r env) fun e => ret (.nx e)) s := rfl
theorem a_sOwn : sOwn i o env s = bnd (o env) (fun l => ret (.nx (env.set i (some (.own l))))) s := rfl
theorem a_sIf : sIf p st su env s = bnd (p env) (fun t => if t = true then st env else su env) s := rfl
theorem a_sBrk : sBrk env s = .ok (.bk env) s := rfl
theorem a_sCnt : sCnt env s = .ok (.ct env) s := rfl
theorem a_sFor : sFor it t st env s = bnd (it env) (fun l => forL t st l env) s := rfl
theorem a_forL0 : forL t st [] env s = .ok (.nx env) s := rfl
theorem a_forL1 : forL t st (x :: l) env s = bnd (t (.d x) env) (fun e => bnd (st e) fun f => match f with | .nx e => forL t st l e | .ct e => forL t st l e | .bk e => ret (.nx e) | .rt r => ret (.rt r)) s := rfl
theorem a_iItems : iItems a env s = bnd (a env) items s := rfl
theorem a_ite {c : Prop} [Decidable c] {m1 m2 : DM α} : (if c then m1 else m2) s = if c then m1 s else m2 s := by split <;> rfl
theorem a_eCB : eCB mf as env s = bnd (as env) mf s := rfl
theorem a_on1 : on1 u [.d x] = u x := rfl
theorem a_on2 : on2 g [.d x, .d y] = g x y := rfl
theorem a_eIf : eIf p a b env s = bnd (p env) (fun t => if t = true then a env else b env) s := rfl
theorem a_mT : mT a env s = bnd (a env) asB s := rfl
theorem a_asB {z : Bool} : asB (.d (.bool z)) = ret z := rfl
theorem a_mNot : mNot p env s = bnd (p env) (fun b => ret (!b)) s := rfl
theorem a_mAnd : mAnd p q env s = bnd (p env) (fun t => if t = true then q env else ret false) s := rfl
theorem a_mOr : mOr p q env s = bnd (p env) (fun t => if t = true then ret true else q env) s := rfl
theorem a_eNot : eNot a env s = bnd (a env) (fun r => bnd (asB r) fun b => dB (!b)) s := rfl
theorem a_eAnd : eAnd a b env s = bnd (a env) (fun r => bnd (asB r) fun t => if t = true then b env else dB false) s := rfl
theorem a_eOr : eOr a b env s = bnd (a env) (fun r => bnd (asB r) fun t => if t = true then dB true else b env) s := rfl
theorem a_dB {z : Bool} : dB z s = .ok (.d (.bool z)) s := rfl
theorem a_dI {z : Int} : dI z s = .ok (.d (.int z)) s := rfl
theorem a_dAddI {i j : Int} : dAdd (.int i) (.int j) = dI (i + j) := rfl
theorem a_dSub {i j : Int} : dSub (.int i) (.int j) = dI (i - j) := rfl
theorem a_dMulL {i j : Int} (h1 : -(2 ^ 64) < i) (h2 : i < 2 ^ 64) : dMul (.int i) (.int j) = dI (i * j) := by
  show (if CMul i j then dI (i * j) else bad) = _
  exact if_pos (show CMul i j from Or.inl ⟨h1, h2⟩)
theorem a_dMulR {i j : Int} (h1 : -(2 ^ 64) < j) (h2 : j < 2 ^ 64) : dMul (.int i) (.int j) = dI (i * j) := by
  show (if CMul i j then dI (i * j) else bad) = _
  exact if_pos (show CMul i j from Or.inr ⟨h1, h2⟩)
theorem a_dMod {i j : Int} (h : 0 < j) : dMod (.int i) (.int j) = dI (i % j) := if_pos h
theorem a_dFdiv {i j : Int} (h : 0 < j ∧ j < 1073741824) : dFdiv (.int i) (.int j) = dI (i / j) := if_pos h
theorem a_dDivmod {i j : Int} (h : 0 < j ∧ j < 1073741824) : dDivmod (.int i) (.int j) = ret (.d (.tuple [.int (i / j), .int (i % j)])) := if_pos h
theorem a_dCmpI {f : Int → Int → Bool} {i j : Int} : dCmpI f (.int i) (.int j) = dB (f i j) := rfl
theorem a_dAbs {i : Int} : dAbs (.int i) = dI (if i < 0 then -i else i) := rfl
theorem a_dInt {i : Int} : dInt (.int i) = dI i := rfl
theorem a_dMax2 {i j : Int} : dMax2 (.int i) (.int j) = dI (if j > i then j else i) := rfl
theorem a_dMin2 {i j : Int} : dMin2 (.int i) (.int j) = dI (if j < i then j else i) := rfl
theorem a_dLenT : dLen (.tuple l) = dI l.length := rfl
theorem a_dLenL : dLen (.list l) = dI l.length := rfl
theorem a_eVar {r : RV} (h : env[i]? = some (some (.rv r))) : eVar i env s = .ok r s := by unfold eVar; rw [h]; rfl
theorem a_eBox {j : Nat} : eBox a k env s = bnd (a env) (fun r => bnd (boxAt r) fun l => optM l[k]? ret) s := rfl
theorem a_boxAt {j : Nat} (h : s[j]? = some (.lst rl)) : boxAt (.box j) s = .ok rl s := by unfold boxAt; dsimp only; rw [h]
theorem a_tgBox : tgBox a k r env s = bnd (a env) (fun b => bnd (boxAt b) fun l => match b with
  | .box n => if k < l.length then setCell n (.lst (l.set k r)) env else bad
  | _ => bad) s := rfl
theorem a_setCell {c : Cell} : setCell n c env s = .ok env (s.set n c) := rfl
theorem a_optM {z : α} {F : α → DM RV} : optM (some z) F = F z := rfl
theorem a_mFun {rs : List RV} : mFun n st rs s = bnd (st (env0 n rs)) (fun f => match f with
  | .nx _ => ret (.d .none)
  | .rt r => ret r
  | _ => bad) s := rfl
end


/-! ### the pail and the deal that every law of this program has -/
def pailM (c1 c2 : Int) : List RV → DM RV := mFun 5
    (sSeq (sAsg (eOp dAdd (eC (.int c1)) (eOp dMul (eC (.int c2)) (eVar 1))) (tgN 2))
    (sSeq (sFor (iItems (eSl (eVar 0) none (some (eC (.int 12))))) (tgN 3)
    (sAsg (eOp dMod (eCB (on1 dInt) (aCons (eOp dAdd (eOp dAdd (eOp dMul (eVar 2) (eC (.int 65071))) (eOp dMul (eOp dMod (eCB (on1 dInt) (aCons (eVar 3) aNil)) (eC (.int 2147483423))) (eC (.int 17)))) (eC (.int 5))) aNil)) (eC (.int 2147483423))) (tgN 2)))
    (sSeq (sAsg (eIf (mT (eOp dLt (eVar 1) (eCB (on1 dLen) (aCons (eVar 0) aNil)))) (eCB (on1 dInt) (aCons (eOp dIx (eVar 0) (eVar 1)) aNil)) (eC (.int 0))) (tgN 4))
    (sSeq (sAsg (eOp dMod (eCB (on1 dInt) (aCons (eOp dAdd (eOp dAdd (eOp dMul (eVar 2) (eC (.int 61))) (eOp dMul (eOp dMod (eCB (on1 dInt) (aCons (eVar 4) aNil)) (eC (.int 2147483423))) (eC (.int 30011)))) (eC (.int 7))) aNil)) (eC (.int 2147483423))) (tgN 2))
    (sRet (eNewBox (oLst (aCons (eIf (mOr (mT (eOp dLt (eVar 4) (eC (.int 0)))) (mT (eOp dGe (eVar 4) (eOp dPow (eC (.int 10)) (eC (.int 15)))))) (eCB (on1 dAbs) (aCons (eVar 4) aNil)) (eC (.int 0))) (aCons (eVar 2) (aCons (eC (.int 0)) aNil))))))))))
def dealM : List RV → DM RV := mFun 4
    (sSeq (sIf (mT (eOp dGt (eBox (eVar 0) 0) (eC (.int 0))))
    (sSeq (sAsg (eCB (on2 dDivmod) (aCons (eBox (eVar 0) 0) (aCons (eVar 1) aNil))) (tgT 2 (tgsCons (tgBox (eVar 0) 0) (tgsCons (tgN 2) tgsNil))))
    (sRet (eVar 2))) sNext)
    (sSeq (sAsg (eOp dAdd (eBox (eVar 0) 2) (eC (.int 1))) (tgBox (eVar 0) 2))
    (sSeq (sAsg (eOp dMod (eCB (on1 dInt) (aCons (eOp dAdd (eOp dMul (eBox (eVar 0) 1) (eC (.int 15511))) (eOp dMul (eC (.int 11903)) (eBox (eVar 0) 2))) aNil)) (eC (.int 2147483423))) (tgN 3))
    (sSeq (sAsg (eOp dMod (eCB (on1 dInt) (aCons (eOp dAdd (eOp dMul (eVar 3) (eOp dAdd (eOp dMod (eCB (on1 dInt) (aCons (eVar 3) aNil)) (eC (.int 5147))) (eC (.int 30011)))) (eOp dMul (eC (.int 31)) (eBox (eVar 0) 2))) aNil)) (eC (.int 2147483423))) (tgBox (eVar 0) 1))
    (sRet (eOp dMod (eCB (on1 dInt) (aCons (eOp dFdiv (eBox (eVar 0) 1) (eC (.int 349))) aNil)) (eVar 1)))))))
theorem ev_bnd {α β : Type} {m : DM α} {f : α → DM β} {s s1 : S} {a : α} {r : Out β} (h : m s = .ok a s1) (h2 : f a s1 = r) : bnd m f s = r := by rw [bnd_ok h]; exact h2
theorem ev_seq {a b : DEnv → DM Fl} {env e1 : DEnv} {s s1 : S} {r : Out Fl} (h : a env s = .ok (.nx e1) s1) (h2 : b e1 s1 = r) : sSeq a b env s = r := ev_bnd h h2
theorem ev_rt {a b : DEnv → DM Fl} {env : DEnv} {s s1 : S} {r : RV} (h : a env s = .ok (.rt r) s1) : sSeq a b env s = .ok (.rt r) s1 := ev_bnd h rfl
theorem ev_asg {m : DEnv → DM RV} {t : TgF} {env e1 : DEnv} {s s1 s2 : S} {r : RV} (h : m env s = .ok r s1) (h2 : t r env s1 = .ok e1 s2) : sAsg m t env s = .ok (.nx e1) s2 := ev_bnd h (ev_bnd h2 rfl)
theorem ev_ret {m : DEnv → DM RV} {env : DEnv} {s s1 : S} {r : RV} (h : m env s = .ok r s1) : sRet m env s = .ok (.rt r) s1 := ev_bnd h rfl
theorem ev_op {f : D → D → DM RV} {a b : DEnv → DM RV} {env : DEnv} {s s1 s2 : S} {x y : D} {r : Out RV} (h : a env s = .ok (.d x) s1) (h2 : b env s1 = .ok (.d y) s2) (h3 : f x y s2 = r) : eOp f a b env s = r := ev_bnd h (ev_bnd h2 h3)
theorem ev_fun {n : Nat} {st : DEnv → DM Fl} {rs : List RV} {s s1 : S} {r : RV} (h : st (env0 n rs) s = .ok (.rt r) s1) : mFun n st rs s = .ok r s1 := ev_bnd h rfl
theorem ev_cb1 {u : D → DM RV} {a : DEnv → DM RV} {env : DEnv} {s s1 : S} {x : D} {r : Out RV} (h : a env s = .ok (.d x) s1) (h2 : u x s1 = r) : eCB (on1 u) (aCons a aNil) env s = r := ev_bnd (ev_bnd h rfl) h2
theorem ev_mod {i j : Int} {s : S} (h : 0 < j) : dMod (.int i) (.int j) s = .ok (.d (.int (i % j))) s := by rw [a_dMod h]; rfl
theorem ev_mulR {i j : Int} {s : S} (h1 : -(2 ^ 64) < j) (h2 : j < 2 ^ 64) : dMul (.int i) (.int j) s = .ok (.d (.int (i * j))) s := by rw [a_dMulR h1 h2]; rfl
theorem ev_mulL {i j : Int} {s : S} (h1 : -(2 ^ 64) < i) (h2 : i < 2 ^ 64) : dMul (.int i) (.int j) s = .ok (.d (.int (i * j))) s := by rw [a_dMulL h1 h2]; rfl
theorem ev_for1 {t : TgF} {st : DEnv → DM Fl} {x : D} {l : List D} {env e1 e2 : DEnv} {s s1 s2 : S} {r : Out Fl} (h : t (.d x) env s = .ok e1 s1) (h2 : st e1 s1 = .ok (.nx e2) s2) (h3 : forL t st l e2 s2 = r) : forL t st (x :: l) env s = r := ev_bnd h (ev_bnd h2 h3)
theorem ev_asB {b c : Bool} {s : S} (h : b = c) : asB (.d (.bool b)) s = .ok c s := by subst h; rfl
theorem mod_small (i : Int) {j : Int} (h : 0 < j) (h2 : j < 2 ^ 60) : -(2 ^ 64) < i % j ∧ i % j < 2 ^ 64 := by
  have := Int.emod_nonneg i (Int.ne_of_gt h)
  have := Int.emod_lt_of_pos i h
  constructor <;> omega
def pc (a m k : Int) : Cell := .lst [.d (.int a), .d (.int m), .d (.int k)]
theorem deal_1 {top : Int} (h0 : 0 < top) (h1 : top < 1073741824) {n : Nat} {a m k : Int} {s : S} (hs : s[n]? = some (pc a m k)) (ha : 0 < a) :
    dealM [.box n, .d (.int top)] s = .ok (.d (.int (a % top))) (s.set n (pc (a / top) m k)) := by
  have hb : ∀ {e : DEnv} {j : Nat} {d : D}, e[0]? = some (some (.rv (.box n))) → [RV.d (.int a), .d (.int m), .d (.int k)][j]? = some (.d d) → eBox (eVar 0) j e s = .ok (.d d) s := fun {e j d} he hd => ev_bnd (a_eVar he) (ev_bnd (a_boxAt hs) (by rw [hd]; rfl))
  refine ev_fun (ev_rt ?_)
  refine ev_bnd (s1 := s) (a := true) (ev_bnd (ev_op (hb rfl rfl) rfl rfl) ?_) ?_
  · exact ev_asB (decide_eq_true ha)
  · refine ev_seq (ev_asg (r := .d (.tuple [.int (a / top), .int (a % top)])) (s1 := s) ?_ (e1 := [some (.rv (.box n)), some (.rv (.d (.int top))), some (.rv (.d (.int (a % top)))), none]) (s2 := s.set n (pc (a / top) m k)) ?_) ?_
    · refine ev_bnd (a := [.d (.int a), .d (.int top)]) (s1 := s) (ev_bnd (hb rfl rfl) rfl) ?_
      show dDivmod (.int a) (.int top) s = _
      rw [a_dDivmod ⟨h0, h1⟩]; rfl
    · show tgsCons _ _ [PyData.int (a / top), .int (a % top)] _ _ = _
      refine ev_bnd (s1 := s.set n (pc (a / top) m k)) (ev_bnd (a_eVar rfl) (ev_bnd (a_boxAt hs) rfl)) rfl
    · exact ev_ret (a_eVar rfl)
theorem deal_2 {top : Int} (h0 : 0 < top) {n : Nat} {a m k : Int} {s : S} (hs : s[n]? = some (pc a m k)) (ha : ¬ 0 < a) :
    ∃ v m', 0 ≤ v ∧ v < top ∧ dealM [.box n, .d (.int top)] s = .ok (.d (.int v)) (s.set n (pc a m' (k + 1))) := by
  have hn : n < s.length := (List.getElem?_eq_some_iff.mp hs).1
  have hb : ∀ {m' k' : Int} {e : DEnv} {j : Nat} {d : D} {s : S}, s[n]? = some (pc a m' k') → e[0]? = some (some (.rv (.box n))) → [RV.d (.int a), .d (.int m'), .d (.int k')][j]? = some (.d d) → eBox (eVar 0) j e s = .ok (.d d) s := fun {m' k' e j d s} hs he hd => ev_bnd (a_eVar he) (ev_bnd (a_boxAt hs) (by rw [hd]; rfl))
  have get : ∀ (s : S) (l : Cell), n < s.length → (s.set n l)[n]? = some l := fun s l h => List.getElem?_set_self h
  have hs1 := get s (pc a m (k + 1)) hn
  let mixed : Int := (m * 15511 + 11903 * (k + 1)) % 2147483423
  let m' : Int := (mixed * (mixed % 5147 + 30011) + 31 * (k + 1)) % 2147483423
  refine ⟨m' / 349 % top, m', Int.emod_nonneg _ (Int.ne_of_gt h0), Int.emod_lt_of_pos _ h0, ?_⟩
  have e2 : (s.set n (pc a m (k + 1))).set n (pc a m' (k + 1)) = s.set n (pc a m' (k + 1)) := by rw [List.set_set]
  have hs2 : (s.set n (pc a m' (k + 1)))[n]? = some (pc a m' (k + 1)) := get s _ hn
  refine ev_fun (ev_seq (e1 := [some (.rv (.box n)), some (.rv (.d (.int top))), none, none]) (s1 := s) ?_ ?_)
  · refine ev_bnd (s1 := s) (a := false) (ev_bnd (ev_op (hb hs rfl rfl) rfl rfl) (ev_asB (decide_eq_false ha))) rfl
  refine ev_seq (e1 := [some (.rv (.box n)), some (.rv (.d (.int top))), none, none]) (s1 := s.set n (pc a m (k + 1))) (ev_asg (ev_op (hb hs rfl rfl) rfl rfl) ?_) ?_
  · exact ev_bnd (a_eVar rfl) (ev_bnd (a_boxAt hs) rfl)
  refine ev_seq (e1 := [some (.rv (.box n)), some (.rv (.d (.int top))), none, some (.rv (.d (.int mixed)))]) (s1 := s.set n (pc a m (k + 1))) (ev_asg (r := .d (.int mixed)) ?_ rfl) ?_
  · refine ev_op (ev_cb1 (ev_op (ev_op (hb hs1 rfl rfl) rfl (ev_mulR (by decide) (by decide))) (ev_op rfl (hb hs1 rfl rfl) (ev_mulL (by decide) (by decide))) rfl) rfl) rfl (ev_mod (by decide))
  refine ev_seq (e1 := [some (.rv (.box n)), some (.rv (.d (.int top))), none, some (.rv (.d (.int mixed)))]) (s1 := s.set n (pc a m' (k + 1))) (ev_asg (r := .d (.int m')) (s1 := s.set n (pc a m (k + 1))) ?_ ?_) ?_
  · refine ev_op (ev_cb1 (ev_op (ev_op (a_eVar rfl) (ev_op (ev_op (ev_cb1 (a_eVar rfl) rfl) rfl (ev_mod (by decide))) rfl rfl) (ev_mulL ?_ ?_)) (ev_op rfl (hb hs1 rfl rfl) (ev_mulL (by decide) (by decide))) rfl) rfl) rfl (ev_mod (by decide))
    · exact (mod_small _ (by decide) (by decide)).1
    · exact (mod_small _ (by decide) (by decide)).2
  · refine ev_bnd (a_eVar rfl) (ev_bnd (a_boxAt hs1) ?_)
    show Out.ok _ ((s.set n _).set n _) = _
    exact congrArg (Out.ok _) e2
  · exact ev_ret (ev_op (ev_cb1 (ev_op (hb hs2 rfl rfl) rfl (by rw [a_dFdiv (by decide)]; rfl)) rfl) (a_eVar rfl) (ev_mod h0))
theorem deal_ok {top : Int} (h0 : 0 < top) (h1 : top < 1073741824) {n : Nat} {a m k : Int} {s : S} (hs : s[n]? = some (pc a m k)) (ha : 0 ≤ a) :
    ∃ v a' m' k', 0 ≤ v ∧ v < top ∧ 0 ≤ a' ∧ dealM [.box n, .d (.int top)] s = .ok (.d (.int v)) (s.set n (pc a' m' k')) := by
  by_cases h : 0 < a
  · exact ⟨_, _, _, _, Int.emod_nonneg _ (Int.ne_of_gt h0), Int.emod_lt_of_pos _ h0, Int.ediv_nonneg ha (Int.le_of_lt h0), deal_1 h0 h1 hs h⟩
  · obtain ⟨v, m', h2, h3, e⟩ := deal_2 h0 hs h
    exact ⟨v, a, m', k + 1, h2, h3, ha, e⟩

/-- int(own) % 2147483423 and so on: one turn of the mixing -/
theorem ev_mix {i j : Nat} {c1 c2 c3 : Int} {mm x : Int} {env : DEnv} {s : S} (hi : env[i]? = some (some (.rv (.d (.int mm))))) (hj : env[j]? = some (some (.rv (.d (.int x))))) (h1 : -(2 ^ 64) < c1 ∧ c1 < 2 ^ 64) (h2 : -(2 ^ 64) < c2 ∧ c2 < 2 ^ 64) :
    eOp dMod (eCB (on1 dInt) (aCons (eOp dAdd (eOp dAdd (eOp dMul (eVar i) (eC (.int c1))) (eOp dMul (eOp dMod (eCB (on1 dInt) (aCons (eVar j) aNil)) (eC (.int 2147483423))) (eC (.int c2)))) (eC (.int c3))) aNil)) (eC (.int 2147483423)) env s =
      .ok (.d (.int ((mm * c1 + x % 2147483423 * c2 + c3) % 2147483423))) s :=
  ev_op (ev_cb1 (ev_op (ev_op (ev_op (a_eVar hi) rfl (ev_mulR h1.1 h1.2)) (ev_op (ev_op (ev_cb1 (a_eVar hj) rfl) rfl (ev_mod (by decide))) rfl (ev_mulR h2.1 h2.2)) rfl) rfl rfl) rfl) rfl (ev_mod (by decide))
theorem cut_ints (ns : List Int) (lo hi : Option Int) : ∃ ms : List Int, cutD (ns.map .int) lo hi = ms.map .int := by
  unfold cutD
  refine ⟨((ns.drop (HT.sIx (ns.map PyData.int).length 0 lo)).take (HT.sIx (ns.map PyData.int).length (ns.map PyData.int).length hi - HT.sIx (ns.map PyData.int).length 0 lo)), ?_⟩
  rw [List.map_take, List.map_drop]
theorem atI_nat' {α : Type} {l : List α} {n : Nat} (h : n < l.length) : atI l (n : Int) = some l[n] := by
  have e : ixN l.length (n : Int) = some n := by
    unfold ixN
    rw [if_pos (Int.natCast_nonneg n), if_pos (by omega)]
    simp
  unfold atI
  rw [e]
  exact List.getElem?_eq_getElem h
theorem pail_ok {c1 c2 : Int} (hc : -(2 ^ 64) < c2 ∧ c2 < 2 ^ 64) (ns : List Int) (t : Nat) (s : S) :
    ∃ a m, 0 ≤ a ∧ pailM c1 c2 [.d (.list (ns.map .int)), .d (.int t)] s = .ok (.box s.length) (s ++ [pc a m 0]) := by
  obtain ⟨ms, hms⟩ := cut_ints ns none (some 12)
  -- the loop
  have loop : ∀ (ms : List Int) (m0 : Int) (o3 : Option EVal), ∃ m1 o3', forL (tgN 3) (sAsg (eOp dMod (eCB (on1 dInt) (aCons (eOp dAdd (eOp dAdd (eOp dMul (eVar 2) (eC (.int 65071))) (eOp dMul (eOp dMod (eCB (on1 dInt) (aCons (eVar 3) aNil)) (eC (.int 2147483423))) (eC (.int 17)))) (eC (.int 5))) aNil)) (eC (.int 2147483423))) (tgN 2)) (ms.map .int) [some (.rv (.d (.list (ns.map .int)))), some (.rv (.d (.int t))), some (.rv (.d (.int m0))), o3, none] s =
      .ok (.nx [some (.rv (.d (.list (ns.map .int)))), some (.rv (.d (.int t))), some (.rv (.d (.int m1))), o3', none]) s := by
    intro ms
    induction ms with
    | nil => exact fun m0 o3 => ⟨m0, o3, rfl⟩
    | cons x ms ih =>
      intro m0 o3
      obtain ⟨m1, o3', e⟩ := ih ((m0 * 65071 + x % 2147483423 * 17 + 5) % 2147483423) (some (.rv (.d (.int x))))
      refine ⟨m1, o3', ev_for1 (x := .int x) (l := ms.map .int) rfl (ev_asg (ev_mix (mm := m0) (x := x) rfl rfl (by decide) (by decide)) rfl) e⟩
  obtain ⟨m1, o3, hl⟩ := loop ms (c1 + c2 * t) none
  -- the script's own number
  obtain ⟨own, ho⟩ : ∃ own : Int, eIf (mT (eOp dLt (eVar 1) (eCB (on1 dLen) (aCons (eVar 0) aNil)))) (eCB (on1 dInt) (aCons (eOp dIx (eVar 0) (eVar 1)) aNil)) (eC (.int 0)) [some (.rv (.d (.list (ns.map .int)))), some (.rv (.d (.int t))), some (.rv (.d (.int m1))), o3, none] s = .ok (.d (.int own)) s := by
    by_cases h : t < (ns.map PyData.int).length
    · refine ⟨ns[t]'(by simpa using h), ev_bnd (s1 := s) (a := true) (ev_bnd (ev_op (a_eVar rfl) (ev_cb1 (a_eVar rfl) rfl) rfl) (ev_asB (decide_eq_true (by omega)))) (ev_cb1 (x := .int (ns[t]'(by simpa using h))) (s1 := s) (ev_op (a_eVar rfl) (a_eVar rfl) ?_) rfl)⟩
      show optM (atI (ns.map PyData.int) (t : Int)) _ s = _
      rw [atI_nat' h]
      simp only [List.getElem_map]
      rfl
    · exact ⟨0, ev_bnd (s1 := s) (a := false) (ev_bnd (ev_op (a_eVar rfl) (ev_cb1 (a_eVar rfl) rfl) rfl) (ev_asB (decide_eq_false (by omega)))) rfl⟩
  let m2 : Int := (m1 * 61 + own % 2147483423 * 30011 + 7) % 2147483423
  have fin : ∃ a : Int, 0 ≤ a ∧ eIf (mOr (mT (eOp dLt (eVar 4) (eC (.int 0)))) (mT (eOp dGe (eVar 4) (eOp dPow (eC (.int 10)) (eC (.int 15)))))) (eCB (on1 dAbs) (aCons (eVar 4) aNil)) (eC (.int 0)) [some (.rv (.d (.list (ns.map .int)))), some (.rv (.d (.int t))), some (.rv (.d (.int m2))), o3, some (.rv (.d (.int own)))] s = .ok (.d (.int a)) s := by
    have hp : ∀ env : DEnv, eOp dPow (eC (.int 10)) (eC (.int 15)) env s = .ok (.d (.int 1000000000000000)) s := fun env => by kernel_rfl
    have hg : eOp dGe (eVar 4) (eOp dPow (eC (.int 10)) (eC (.int 15))) [some (.rv (.d (.list (ns.map .int)))), some (.rv (.d (.int t))), some (.rv (.d (.int m2))), o3, some (.rv (.d (.int own)))] s = .ok (.d (.bool (decide (1000000000000000 ≤ own)))) s := ev_op (a_eVar rfl) (hp _) rfl
    by_cases h : own < 0 ∨ 1000000000000000 ≤ own
    · refine ⟨if own < 0 then -own else own, by split <;> omega, ev_bnd (s1 := s) (a := true) ?_ (ev_cb1 (a_eVar rfl) rfl)⟩
      by_cases h1 : own < 0
      · exact ev_bnd (s1 := s) (a := true) (ev_bnd (ev_op (a_eVar rfl) rfl rfl) (ev_asB (decide_eq_true h1))) rfl
      · refine ev_bnd (s1 := s) (a := false) (ev_bnd (ev_op (a_eVar rfl) rfl rfl) (ev_asB (decide_eq_false h1))) ?_
        exact ev_bnd hg (ev_asB (decide_eq_true (by omega)))
    · refine ⟨0, by omega, ev_bnd (s1 := s) (a := false) ?_ rfl⟩
      refine ev_bnd (s1 := s) (a := false) (ev_bnd (ev_op (a_eVar rfl) rfl rfl) (ev_asB (decide_eq_false (by omega)))) ?_
      exact ev_bnd hg (ev_asB (decide_eq_false (by omega)))
  obtain ⟨a, ha, ha2⟩ := fin
  refine ⟨a, m2, ha, ev_fun (ev_seq (e1 := [some (.rv (.d (.list (ns.map .int)))), some (.rv (.d (.int t))), some (.rv (.d (.int (c1 + c2 * t)))), none, none]) (s1 := s) (ev_asg (ev_op rfl (ev_op rfl (a_eVar rfl) (ev_mulL hc.1 hc.2)) rfl) rfl) ?_)⟩
  refine ev_seq (s1 := s) (ev_bnd (a := ms.map PyData.int) (s1 := s) ?_ hl) ?_
  · refine ev_bnd (a := .d (.list (ms.map .int))) (s1 := s) ?_ rfl
    rw [← hms]
    exact ev_bnd (a_eVar rfl) rfl
  refine ev_seq (ev_asg ho rfl) ?_
  refine ev_seq (ev_asg (ev_mix rfl rfl (by decide) (by decide)) rfl) ?_
  refine ev_ret (ev_bnd (a := [.d (.int a), .d (.int m2), .d (.int 0)]) (s1 := s) (ev_bnd (a := [.d (.int a), .d (.int m2), .d (.int 0)]) (s1 := s) (ev_bnd ha2 (ev_bnd (ev_bnd (a_eVar rfl) (ev_bnd rfl rfl)) rfl)) rfl) rfl)
end DL
namespace DL
open PySem PySem.Spec L2
open PyProof.Rows hiding St

/-! ### repr of small data -/
mutual
def OkR : D → Prop
  | .none => True
  | .bool _ => True
  | .int i => i.natAbs < 2 ^ 63
  | .str x => (PyData.str x).shown.length ≤ 1000
  | .list l => OkRAll l
  | .tuple l => OkRAll l
  | .dict _ => False
def OkRAll : List D → Prop
  | [] => True
  | x :: l => OkR x ∧ OkRAll l
end
mutual
def szR : D → Nat
  | .none => 4
  | .bool _ => 5
  | .int _ => 70
  | .str _ => 1000
  | .list l => szRAll l + 2
  | .tuple l => szRAll l + 3
  | .dict _ => 0
def szRAll : List D → Nat
  | [] => 0
  | x :: l => szR x + 2 + szRAll l
end
def lenAll : List Str → Nat
  | [] => 0
  | t :: ts => t.length + 2 + lenAll ts
theorem textFrom_le : ∀ (ts : List Str) (k : Nat) (acc : Str), (textFrom k acc ts).length ≤ acc.length + lenAll ts
  | [], k, acc => Nat.le_refl _
  | t :: ts, k, acc => by
    have h := textFrom_le ts (k + 1) (acc ++ (if k > 0 then ", " else "" : String) ++ t)
    have e : (acc ++ (if k > 0 then ", " else "" : String) ++ t).length = acc.length + (if k > 0 then 2 else 0) + t.length := by
      rw [strLen_append, strLen_append]
      split <;> rfl
    show (textFrom (k + 1) _ ts).length ≤ acc.length + (t.length + 2 + lenAll ts)
    have e3 : (if k > 0 then 2 else 0) ≤ 2 := by split <;> omega
    omega
theorem join_le : ∀ (ts : List Str), (Str.join ", " ts).length ≤ lenAll ts
  | [] => Nat.zero_le _
  | [x] => by show x.length ≤ x.length + 2 + 0; omega
  | x :: y :: r => by
    have ih := join_le (y :: r)
    show (x ++ ", " ++ Str.join ", " (y :: r)).length ≤ x.length + 2 + lenAll (y :: r)
    have e2 : ((", " : String) : Str).length = 2 := rfl
    rw [strLen_append, strLen_append, e2]
    omega
mutual
theorem shown_le : ∀ d : D, OkR d → d.shown.length ≤ szR d ∧ PyData.showable d = true
  | .none, _ => ⟨by decide +kernel, by unfold PyData.showable; rfl⟩
  | .bool b, _ => ⟨by cases b <;> decide +kernel, by unfold PyData.showable; rfl⟩
  | .int i, h => by
    have h : i.natAbs < 2 ^ 63 := by unfold OkR at h; exact h
    have hl : i.natAbs.log2 < 64 := by
      by_cases h0 : i.natAbs = 0
      · rw [h0]; decide
      · have := (Nat.log2_lt h0 (k := 63)).mpr h
        omega
    refine ⟨?_, ?_⟩
    · have := int_text_length_le (k := 64) (by decide) hl
      have e : (PyData.int i).shown = Str.ofString (toString i) := by unfold PyData.shown; rfl
      rw [e, PySem.ofString_length]
      unfold szR
      omega
    · unfold PyData.showable
      exact decide_eq_true (by omega)
  | .str x, h => by
    have h : (PyData.str x).shown.length ≤ 1000 := by unfold OkR at h; exact h
    exact ⟨by unfold szR; exact h, by unfold PyData.showable; rfl⟩
  | .list l, h => by
    have h : OkRAll l := by unfold OkR at h; exact h
    obtain ⟨a, b⟩ := shownAll_le l h
    refine ⟨?_, by unfold PyData.showable; exact b⟩
    have e : (PyData.list l).shown = listText (PyData.shownAll l) := by unfold PyData.shown; rfl
    have e1 : (listText (PyData.shownAll l)).length = (textFrom 0 "[" (PyData.shownAll l)).length + 1 := by
      unfold listText; rw [strLen_append]; rfl
    have e2 := textFrom_le (PyData.shownAll l) 0 "["
    have e3 : (Str.ofString "[").length = 1 := rfl
    rw [e, e1]
    unfold szR
    omega
  | .tuple l, h => by
    have h : OkRAll l := by unfold OkR at h; exact h
    obtain ⟨a, b⟩ := shownAll_le l h
    refine ⟨?_, by unfold PyData.showable; exact b⟩
    have e : (PyData.tuple l).shown = tupleText (PyData.shownAll l) := by unfold PyData.shown; rfl
    have e1 : (tupleText (PyData.shownAll l)).length ≤ 1 + (Str.join ", " (PyData.shownAll l)).length + 2 := by
      unfold tupleText; rw [strLen_append, strLen_append]
      have e3 : (Str.ofString "(").length = 1 := rfl
      rw [e3]
      split
      · exact Nat.le_refl _
      · exact Nat.le_succ _
    have e2 := join_le (PyData.shownAll l)
    rw [e]
    unfold szR
    omega
  | .dict l, h => by unfold OkR at h; exact h.elim
theorem shownAll_le : ∀ l : List D, OkRAll l → lenAll (PyData.shownAll l) ≤ szRAll l ∧ PyData.showableAll l = true
  | [], _ => ⟨by unfold PyData.shownAll lenAll szRAll; exact Nat.le_refl _, by unfold PyData.showableAll; rfl⟩
  | x :: l, h => by
    have h : OkR x ∧ OkRAll l := by unfold OkRAll at h; exact h
    obtain ⟨a, b⟩ := shown_le x h.1
    obtain ⟨c, d⟩ := shownAll_le l h.2
    refine ⟨?_, ?_⟩
    · unfold PyData.shownAll lenAll szRAll
      omega
    · unfold PyData.showableAll
      rw [b, d]; rfl
end
theorem reprD_some {x : D} (h : OkR x) (h2 : szR x ≤ 16777216) (h3 : SeqAt.shaped x = true) : reprD x = some x.shown := by
  obtain ⟨a, b⟩ := shown_le x h
  unfold reprD
  rw [if_pos ⟨b, h3, by rw [sizeLine_eq]; omega⟩]
theorem ev_repr {a : DEnv → DM RV} {env : DEnv} {s s1 : S} {x : D} (h : a env s = .ok (.d x) s1) (h1 : OkR x) (h2 : szR x ≤ 16777216) (h3 : SeqAt.shaped x = true) : eCB (on1 dRepr) (aCons a aNil) env s = .ok (.d (.str x.shown)) s1 :=
  ev_cb1 h (by unfold dRepr; rw [reprD_some h1 h2 h3]; rfl)
/-- repr(a) != repr(b), of one value -/
theorem ev_reprNe {a b : DEnv → DM RV} {env : DEnv} {s s1 s2 : S} {x y : D} (h : a env s = .ok (.d x) s1) (h' : b env s1 = .ok (.d y) s2) (e : x = y) (h1 : OkR x) (h2 : szR x ≤ 16777216) (h3 : SeqAt.shaped x = true) :
    eOp dNe (eCB (on1 dRepr) (aCons a aNil)) (eCB (on1 dRepr) (aCons b aNil)) env s = .ok (.d (.bool false)) s2 := by
  subst e
  refine ev_op (ev_repr h h1 h2 h3) (ev_repr h' h1 h2 h3) ?_
  show ofB ((some (decide (x.shown = x.shown))).map (!·)) s2 = _
  rw [decide_eq_true rfl]; rfl
theorem ev_reprEq {a b : DEnv → DM RV} {env : DEnv} {s s1 s2 : S} {x y : D} (h : a env s = .ok (.d x) s1) (h' : b env s1 = .ok (.d y) s2) (e : x = y) (h1 : OkR x) (h2 : szR x ≤ 16777216) (h3 : SeqAt.shaped x = true) :
    eOp dEq (eCB (on1 dRepr) (aCons a aNil)) (eCB (on1 dRepr) (aCons b aNil)) env s = .ok (.d (.bool true)) s2 := by
  subst e
  refine ev_op (ev_repr h h1 h2 h3) (ev_repr h' h1 h2 h3) ?_
  show ofB (some (decide (x.shown = x.shown))) s2 = _
  rw [decide_eq_true rfl]; rfl

/-! ### a list of deals -/
theorem ev_noX {α : Type} {m : DM α} {s s1 : S} {a : α} (h : m s = .ok a s1) : noX m s = .ok a s1 := by unfold noX; rw [h]
theorem ev_lc1 {t : TgF} {elt : DEnv → DM RV} {env e1 : DEnv} {x : D} {r : RV} {xs : List D} {l : List RV} {s s1 s2 s3 : S} (h : t (.d x) env s = .ok e1 s1) (h2 : elt e1 s1 = .ok r s2) (h3 : lcL t tstY elt env xs s2 = .ok l s3) : lcL t tstY elt env (x :: xs) s = .ok (r :: l) s3 :=
  ev_bnd (ev_noX h) (ev_bnd (a := true) (s1 := s1) rfl (ev_bnd (ev_noX h2) (ev_bnd h3 rfl)))
theorem dats_map (l : List D) (s : S) : dats (l.map .d) s = .ok l s := by
  induction l with
  | nil => rfl
  | cons d l ih => exact ev_bnd ih rfl
theorem ev_fz {o : DEnv → DM (List RV)} {env : DEnv} {s s1 : S} {l : List D} (h : o env s = .ok (l.map .d) s1) : eFz o env s = .ok (.d (.list l)) s1 := ev_bnd h (ev_bnd (dats_map l s1) rfl)
theorem ev_call {n m np : Nat} {idx : List Nat} {dd : List D} {f : List RV → DM RV} {a ak : DEnv → DM (List RV)} {env : DEnv} {s s1 s2 : S} {xs ys zs : List RV} {r : Out RV} (h : a env s = .ok xs s1) (h2 : ak env s1 = .ok ys s2) (hp : pick idx (xs ++ (ys ++ dd.map .d)) = zs) (hl : xs.length = n ∧ ys.length = m ∧ zs.length = np)
    (h3 : f zs s2 = r) : eCall n m np idx dd f a ak env s = r := by
  subst hp
  exact ev_bnd h (ev_bnd h2 (by rw [if_pos hl]; exact h3))
/-- the box n is a pail -/
def Pail (s : S) (n : Nat) : Prop := ∃ a m k : Int, 0 ≤ a ∧ s[n]? = some (pc a m k)
theorem Pail.deal {s : S} {n : Nat} (p : Pail s n) {top : Int} (h0 : 0 < top) (h1 : top < 1073741824) : ∃ (v : Int) (s' : S), 0 ≤ v ∧ v < top ∧ dealM [.box n, .d (.int top)] s = .ok (.d (.int v)) s' ∧ Pail s' n ∧ s'.length = s.length := by
  obtain ⟨a, m, k, ha, hs⟩ := p
  obtain ⟨v, a', m', k', h2, h3, h4, e⟩ := deal_ok h0 h1 hs ha
  have hn : n < s.length := (List.getElem?_eq_some_iff.mp hs).1
  exact ⟨v, _, h2, h3, e, ⟨a', m', k', h4, List.getElem?_set_self hn⟩, by simp⟩
theorem deals_ok {top : Int} (h0 : 0 < top) (h1 : top < 1073741824) {n i j : Nat} {env : DEnv} (hij : i ≠ j) (he : env[j]? = some (some (.rv (.box n)))) : ∀ (l : List D) {s : S}, Pail s n →
    ∃ (vs : List Int) (s' : S), vs.length = l.length ∧ (∀ v ∈ vs, 0 ≤ v ∧ v < top) ∧ lcL (tgN i) tstY (eCall 2 0 2 [0, 1] [] dealM (aCons (eVar j) (aCons (eC (.int top)) aNil)) aNil) env l s = .ok (vs.map fun v => .d (.int v)) s' ∧ Pail s' n ∧ s'.length = s.length
  | [], s, p => ⟨[], s, rfl, fun _ h => absurd h (by simp), rfl, p, rfl⟩
  | x :: l, s, p => by
    obtain ⟨v, s1, a1, a2, e, p1, l1⟩ := p.deal h0 h1
    obtain ⟨vs, s2, b1, b2, b3, b4, b5⟩ := deals_ok h0 h1 hij he l p1
    refine ⟨v :: vs, s2, by simp [b1], fun w hw => ?_, ?_, b4, b5.trans l1⟩
    · rcases List.mem_cons.mp hw with rfl | hw
      · exact ⟨a1, a2⟩
      · exact b2 w hw
    · refine ev_lc1 (e1 := env.set i (some (.rv (.d x)))) (s1 := s) rfl (r := .d (.int v)) (s2 := s1) ?_ b3
      have he' : (env.set i (some (.rv (.d x))))[j]? = some (some (.rv (.box n))) := by rw [List.getElem?_set_ne hij]; exact he
      refine ev_bnd (a := [.box n, .d (.int top)]) (s1 := s) (ev_bnd (a_eVar he') rfl) ?_
      exact e
def lawM (N : Int) (right pail : List RV → DM RV) : List RV → DM RV := mFun 2
    (sRet (eCB (on1 dAll) (aCons (eFz (oLc [1] (iRange1 (eCB (on2 dMax2) (aCons (eC (.int 1)) (aCons (eCB (on2 dMin2) (aCons (eCB (on1 dLen) (aCons (eVar 0) aNil)) (aCons (eC (.int N)) aNil))) aNil)))) (tgN 1) tstY (eCall 1 0 1 [0] [] right (aCons (eCall 2 0 2 [0, 1] [] pail (aCons (eVar 0) (aCons (eVar 1) aNil)) aNil) aNil) aNil))) aNil)))
theorem lawM_ok {N c1 c2 : Int} (hN : N < 1000) (hc : -(2 ^ 64) < c2 ∧ c2 < 2 ^ 64) {right : List RV → DM RV} (h : ∀ (n : Nat) (s : S), Pail s n → ∃ s', right [.box n] s = .ok (.d (.bool true)) s') :
    ∀ ns : List Int, ns.length ≤ 63 → ∃ s, lawM N right (pailM c1 c2) [.d (.list (ns.map .int))] [] = .ok (.d (.bool true)) s := by
  intro ns _
  have loop : ∀ (k lo : Nat) (s : S), ∃ s', lcL (tgN 1) tstY (eCall 1 0 1 [0] [] right (aCons (eCall 2 0 2 [0, 1] [] (pailM c1 c2) (aCons (eVar 0) (aCons (eVar 1) aNil)) aNil) aNil) aNil) [some (.rv (.d (.list (ns.map .int)))), none] ((List.range' lo k).map fun (i : Nat) => .int (0 + (i : Int))) s = .ok (List.replicate k (.d (.bool true))) s' := by
    intro k
    induction k with
    | zero => exact fun lo s => ⟨s, rfl⟩
    | succ k ih =>
      intro lo s
      obtain ⟨a, m, ha, e⟩ := pail_ok (c1 := c1) hc ns lo s
      obtain ⟨s1, e1⟩ := h s.length (s ++ [pc a m 0]) ⟨a, m, 0, ha, by simp⟩
      obtain ⟨s2, e2⟩ := ih (lo + 1) s1
      refine ⟨s2, ?_⟩
      rw [List.range'_succ, List.map_cons, List.replicate_succ]
      rw [Int.zero_add]
      refine ev_lc1 (e1 := [some (.rv (.d (.list (ns.map .int)))), some (.rv (.d (.int lo)))]) (s1 := s) rfl (r := .d (.bool true)) (s2 := s1) ?_ e2
      refine ev_call (xs := [.box s.length]) (ys := []) (s1 := s ++ [pc a m 0]) (s2 := s ++ [pc a m 0]) (ev_bnd (a := .box s.length) (s1 := s ++ [pc a m 0]) ?_ rfl) rfl (zs := [.box s.length]) rfl ⟨rfl, rfl, rfl⟩ e1
      exact ev_call (xs := [.d (.list (ns.map .int)), .d (.int lo)]) (ys := []) (s1 := s) (s2 := s) rfl rfl (zs := [.d (.list (ns.map .int)), .d (.int lo)]) rfl ⟨rfl, rfl, rfl⟩ e
  let j : Int := if N < ((ns.map PyData.int).length : Int) then N else ((ns.map PyData.int).length : Int)
  have hj : j < 1000 := by
    by_cases q : N < ((ns.map PyData.int).length : Int)
    · have : j = N := if_pos q
      omega
    · have : j = ((ns.map PyData.int).length : Int) := if_neg q
      omega
  let k : Int := if j > 1 then j else 1
  have hk : 1 ≤ k ∧ k < 1000 := by
    by_cases q : j > 1
    · have : k = j := if_pos q
      omega
    · have : k = 1 := if_neg q
      omega
  obtain ⟨s', e⟩ := loop k.toNat 0 []
  refine ⟨s', ev_fun (ev_ret (ev_cb1 (x := .list (List.replicate k.toNat (.bool true))) (s1 := s') (ev_fz (ev_bnd (a := rangeD 0 k.toNat) (s1 := []) ?_ ?_)) ?_))⟩
  · refine ev_bnd (a := .d (.int k)) (s1 := []) rfl ?_
    show (if -(2 ^ 62) ≤ k ∧ k < 2 ^ 62 then ret (rangeD 0 k.toNat) else bad) [] = _
    rw [if_pos ⟨by omega, by omega⟩]; rfl
  · show (if (rangeD 0 k.toNat).length ≤ sizeLine then lcL _ _ _ _ (rangeD 0 k.toNat) else bad) [] = _
    have hl : (rangeD 0 k.toNat).length ≤ sizeLine := by
      rw [sizeLine_eq]
      unfold rangeD
      rw [List.length_map, List.length_range]
      omega
    rw [if_pos hl]
    unfold rangeD
    rw [List.range_eq_range', List.map_replicate]
    exact e
  · show optM (bolsOf (List.replicate k.toNat (.bool true))) (fun ns => dB (ns.all fun b => b)) s' = _
    have eb : ∀ n : Nat, bolsOf (List.replicate n (.bool true)) = some (List.replicate n true) := by
      intro n
      induction n with
      | zero => rfl
      | succ n ih =>
        rw [List.replicate_succ, List.replicate_succ]
        show (bolsOf (List.replicate n (.bool true))).map (true :: ·) = _
        rw [ih]; rfl
    rw [eb]
    show Out.ok (RV.d (.bool ((List.replicate k.toNat true).all fun b => b))) s' = _
    have ea : ((List.replicate k.toNat true).all fun b => b) = true := List.all_eq_true.mpr fun b hb => (List.mem_replicate.mp hb).2
    rw [ea]
end DL
namespace DL
open PySem PySem.Spec L2
open PyProof.Rows hiding St

/-! ### classes of the text -/
/-- the class c at C; fs are names of attributes of its instances, none of the class -/
structure ClsX (K : PySem.W.Frag) (mg : Str → Option Value) (c : Str) (C : Addr) (fs : List Str) : Prop where
  at_ : mg c = some (.ref C)
  cls : Cls K C
  na : ∀ f ∈ fs, NoAttr K C f
def isBI (n : String) : Option (Option Value) → Bool
  | some (some (.builtin m)) => decide (m = n)
  | _ => false
def isNN : Option (Option Value) → Bool
  | some none => true
  | _ => false
def chkCls (K : PySem.W.Frag) (C : Addr) (fs : List Str) : Bool := PySem.W.plainGet K C Str.empty && (PySem.W.hasDictIn K C && (PySem.W.plainOver K C && (isBI "object.__setattr__" (PySem.W.findIn K (.ref C) "__setattr__") && fs.all fun f => isNN (PySem.W.findIn K (.ref C) f))))
theorem clsX {K : PySem.W.Frag} {mg : Str → Option Value} {c : Str} {C : Addr} {fs : List Str} (hm : mg c = some (.ref C)) (h : chkCls K C fs = true) : ClsX K mg c C fs := by
  unfold chkCls at h
  obtain ⟨h1, h⟩ := Bool.and_eq_true_iff.mp h
  obtain ⟨h2, h⟩ := Bool.and_eq_true_iff.mp h
  obtain ⟨h3, h⟩ := Bool.and_eq_true_iff.mp h
  obtain ⟨h4, h5⟩ := Bool.and_eq_true_iff.mp h
  refine ⟨hm, ⟨h1, h2, h3, ?_⟩, fun f hf => ?_⟩
  · cases q : PySem.W.findIn K (.ref C) "__setattr__" with
    | none => rw [q] at h4; cases h4
    | some o =>
      rw [q] at h4
      cases o with
      | none => cases h4
      | some v =>
        cases v with
        | builtin m => rw [show m = "object.__setattr__" from of_decide_eq_true h4]
        | _ => cases h4
  · have := List.all_eq_true.mp h5 f hf
    unfold NoAttr
    cases q : PySem.W.findIn K (.ref C) f with
    | none => rw [q] at this; cases this
    | some o =>
      rw [q] at this
      cases o with
      | none => rfl
      | some v => cases this

section
variable {K : PySem.W.Frag} {mg : Str → Option Value} {fld : Str → Str} {E : XK} {g : G} {s : S} {H : Hp} {α : Type}
/-- the instance r, of one of the classes cs -/
def insAt (cs : List Str) (r : RV) : DM (Str × List (Str × RV)) := match r with
  | .box n => fun s => match s[n]? with
    | some (.ins c fs) => if cs.contains c = true then .ok (c, fs) s else .bad
    | _ => .bad
  | _ => bad
theorem ins_post {cs : List Str} {r : RV} {k} (h : Post K mg fld E g H (insAt cs r s) k) : ∃ n c fs, r = .box n ∧ s[n]? = some (.ins c fs) ∧ c ∈ cs ∧ Post K mg fld E g H (.ok (c, fs) s) k := by
  cases r with
  | d x => exact h.elim
  | fn x => exact h.elim
  | box n =>
    have h' : Post K mg fld E g H (match s[n]? with | some (.ins c fs) => (if cs.contains c = true then Out.ok (c, fs) s else .bad) | _ => .bad) k := h
    cases q : s[n]? with
    | none => rw [q] at h'; exact h'.elim
    | some c =>
      rw [q] at h'
      cases c with
      | ins c fs =>
        dsimp only at h'
        by_cases hc : cs.contains c = true
        · rw [if_pos hc] at h'
          exact ⟨n, c, fs, rfl, q, by simpa using hc, h'⟩
        · rw [if_neg hc] at h'; exact h'.elim
      | _ => exact h'.elim
/-- an instance, in the heap -/
theorem ins_rep {n : Nat} {c : Str} {fs : List (Str × RV)} {v : V} (ok : GOk K mg g s H) (rv : RepV K mg g v (.box n)) (hn : s[n]? = some (.ins c fs)) :
    ∃ a C dx vs, v = .ref a ∧ g.P[n]? = some a ∧ mg c = some (.ref C) ∧ H a = some (.ins C dx vs) ∧ H dx = some (.own a) ∧ Paired (fun p q => p.1 = q.1 ∧ RepV K mg g p.2 q.2) vs fs := by
  obtain ⟨a, ha, rfl⟩ := rv
  obtain ⟨_, C, dx, vs, h1, h2, h3, h4⟩ := ok.box n a _ ha hn
  exact ⟨a, C, dx, vs, rfl, ha, h1, h2, h3, h4⟩
def lookF (f : Str) : List (Str × RV) → Option RV
  | [] => none
  | (x, r) :: l => if f = x then some r else lookF f l
theorem lookF_rep {f : Str} : ∀ {fs : List (Str × RV)} {vs : List (Str × V)} {r : RV}, Paired (fun p q => p.1 = q.1 ∧ RepV K mg g p.2 q.2) vs fs → lookF f fs = some r → ∃ v, vs.lookup f = some v ∧ RepV K mg g v r
  | [], _, _, h, e => by cases e
  | (x, r0) :: fs, _, r, h, e => by
    cases h with
    | @cons p _ vs _ h1 h2 =>
      obtain ⟨y, v⟩ := p
      obtain ⟨q1, q2⟩ := h1
      dsimp only at q1 q2
      subst q1
      unfold lookF at e
      rw [List.lookup_cons]
      by_cases hx : f = y
      · rw [if_pos hx] at e
        cases e
        have : (f == y) = true := beq_iff_eq.mpr hx
        rw [this]
        exact ⟨v, rfl, q2⟩
      · rw [if_neg hx] at e
        have : (f == y) = false := beq_eq_false_iff_ne.mpr hx
        rw [this]
        exact lookF_rep h2 e
theorem lookF_none {f : Str} : ∀ {fs : List (Str × RV)} {vs : List (Str × V)}, Paired (fun p q => p.1 = q.1 ∧ RepV K mg g p.2 q.2) vs fs → lookF f fs = none → vs.lookup f = none
  | [], _, h, e => by cases h; rfl
  | (x, r0) :: fs, _, h, e => by
    cases h with
    | @cons p _ vs _ h1 h2 =>
      obtain ⟨y, v⟩ := p
      obtain ⟨q1, q2⟩ := h1
      dsimp only at q1 q2
      subst q1
      unfold lookF at e
      rw [List.lookup_cons]
      by_cases hx : f = y
      · rw [if_pos hx] at e; cases e
      · rw [if_neg hx] at e
        have : (f == y) = false := beq_eq_false_iff_ne.mpr hx
        rw [this]
        exact lookF_none h2 e
def putR (f : Str) (r : RV) : List (Str × RV) → List (Str × RV)
  | [] => [(f, r)]
  | (x, y) :: l => if x = f then (x, r) :: l else (x, y) :: putR f r l
theorem putR_rep {f : Str} {v : V} {r : RV} (hv : RepV K mg g v r) : ∀ {fs : List (Str × RV)} {vs : List (Str × V)}, Paired (fun p q => p.1 = q.1 ∧ RepV K mg g p.2 q.2) vs fs → Paired (fun p q => p.1 = q.1 ∧ RepV K mg g p.2 q.2) (putF f v vs) (putR f r fs)
  | [], _, h => by cases h; exact .cons ⟨rfl, hv⟩ .nil
  | (x, r0) :: fs, _, h => by
    cases h with
    | @cons p _ vs _ h1 h2 =>
      obtain ⟨y, w⟩ := p
      obtain ⟨q1, q2⟩ := h1
      dsimp only at q1 q2
      subst q1
      unfold putF putR
      by_cases hx : y = f
      · rw [if_pos hx, if_pos hx]; exact .cons ⟨rfl, hv⟩ h2
      · rw [if_neg hx, if_neg hx]; exact .cons ⟨rfl, q2⟩ (putR_rep hv h2)
end

section
variable {X : Cx} {fld : Str → Str} {E : XK} {g0 : G} {H0 : Hp} {pos pos' apos p : Pos} {e o value : Expr} {es : List Expr} {mo mv : DEnv → DM RV} {f m : Str} {cs : List Str}
/-- o.f -/
def eAttr (cs : List Str) (f : Str) (mo : DEnv → DM RV) : DEnv → DM RV := fun env => bnd (mo env) fun r => bnd (insAt cs r) fun q => optM (lookF f q.2) ret
theorem de_attr (h : DE X fld E o mo) (hc : ∀ c ∈ cs, ∃ C fs, ClsX X.K X.mg c C fs ∧ f ∈ fs) (hb : attributeBase o f X.env (eval o X.env) = eval o X.env := by rfl) : DE X fld E (.Attribute o f pos) (eAttr cs f mo) :=
  peImp (pe_fld h hb) fun σ H Q ⟨g, s, env, ok, er, p⟩ => by
    refine ⟨g, s, env, ok, er, p.bind.mono fun g1 s1 H1 r t1 p1 v rv => ?_⟩
    obtain ⟨n, c, fs, rfl, hn, hcs, p2⟩ := ins_post p1.bind
    obtain ⟨a, C, dx, vs, rfl, ha, hm, hH, hd, hfs⟩ := ins_rep t1.ok rv hn
    obtain ⟨C', fs', cx, hf⟩ := hc c hcs
    have eC : C = C' := by have := cx.at_; rw [hm] at this; cases this; rfl
    subst eC
    obtain ⟨w, ew, p3⟩ := optM_post (p2 g1 H1 (.refl t1.ok))
    obtain ⟨u, eu, ru⟩ := lookF_rep hfs ew
    exact ⟨a, C, dx, vs, u, rfl, hH, cx.cls, cx.na f hf, eu, post_ret t1.ok p3 u ru⟩
/-- o.f = value -/
def setF (cs : List Str) (f : Str) (y o : RV) (env : DEnv) : DM Fl := bnd (insAt cs o) fun q => match o with
  | .box n => fun s => if q.2.length < 1000 then .ok (.nx env) (s.set n (.ins q.1 (putR f y q.2))) else .bad
  | _ => bad
def sAttr (cs : List Str) (f : Str) (mo mv : DEnv → DM RV) : DEnv → DM Fl := fun env => bnd (mv env) fun y => bnd (mo env) fun o => setF cs f y o env
theorem ds_attr (h : DE X fld E o mo) (hv : DE X fld E value mv) (hc : ∀ c ∈ cs, ∃ C fs, ClsX X.K X.mg c C fs ∧ f ∈ fs) (hs : swapsWith value (some (.Attribute o f pos')) pos.line X.env = pure false := by rfl) :
    DS X fld E g0 H0 (.Assign [.Attribute o f pos'] value pos) (sAttr cs f mo mv) :=
  psImp (ps_fld h hv hs) fun Dd σ H ⟨g, s, env, fr, pp⟩ => by
    refine ⟨g, s, env, fr.ok, fr.er, ?_⟩
    unfold sAttr at pp
    cases q : mv env s with
    | bad => rw [bnd_bad q] at pp; exact pp.elim
    | exc e s1 => rw [bnd_exc q] at pp; exact exc_up fr pp
    | ok y s1 =>
      rw [bnd_ok q] at pp
      intro g1 H1 t1 v rv
      have f1 := fr.step t1
      refine ⟨g1, s1, env, t1.ok, f1.er, ?_⟩
      cases q2 : mo env s1 with
      | bad => rw [bnd_bad q2] at pp; exact pp.elim
      | exc e s2 => rw [bnd_exc q2] at pp; exact exc_up f1 pp
      | ok r s2 =>
        rw [bnd_ok q2] at pp
        intro g2 H2 t2 w rw'
        have f2 := f1.step t2
        have hr : ∃ n c fs, r = .box n ∧ s2[n]? = some (.ins c fs) ∧ c ∈ cs ∧ fs.length < 1000 ∧ PostS X.K X.mg fld E g0 H0 g (Out.ok (Fl.nx env) (s2.set n (.ins c (putR f y fs)))) Dd := by
          unfold setF at pp
          cases r with
          | d x => exact pp.elim
          | fn x => exact pp.elim
          | box n =>
            cases qn : s2[n]? with
            | none =>
              have e0 : insAt cs (.box n) s2 = .bad := by unfold insAt; dsimp only; rw [qn]
              rw [bnd_bad e0] at pp; exact pp.elim
            | some c0 =>
              cases c0 with
              | ins c fs =>
                by_cases hcc : cs.contains c = true
                · have e0 : insAt cs (.box n) s2 = .ok (c, fs) s2 := by unfold insAt; dsimp only; rw [qn]; dsimp only; rw [if_pos hcc]
                  rw [bnd_ok e0] at pp
                  have pp : PostS X.K X.mg fld E g0 H0 g (if fs.length < 1000 then Out.ok (Fl.nx env) (s2.set n (Cell.ins c (putR f y fs))) else .bad) Dd := pp
                  by_cases hl : fs.length < 1000
                  · rw [if_pos hl] at pp
                    exact ⟨n, c, fs, rfl, qn, by simpa using hcc, hl, pp⟩
                  · rw [if_neg hl] at pp; exact pp.elim
                · have e0 : insAt cs (.box n) s2 = .bad := by unfold insAt; dsimp only; rw [qn]; dsimp only; rw [if_neg hcc]
                  rw [bnd_bad e0] at pp; exact pp.elim
              | _ =>
                have e0 : insAt cs (.box n) s2 = .bad := by unfold insAt; dsimp only; rw [qn]
                rw [bnd_bad e0] at pp; exact pp.elim
        obtain ⟨n, c, fs, rfl, hn, hcs, hl, pp⟩ := hr
        obtain ⟨a, C, dx, vs, rfl, ha, hm, hH, hd, hfs⟩ := ins_rep t2.ok rw' hn
        obtain ⟨C', fs', cx, hf⟩ := hc c hcs
        have eC : C = C' := by have := cx.at_; rw [hm] at this; cases this; rfl
        subst eC
        have ne : dx ≠ a := fun z => by subst z; rw [hH] at hd; cases hd
        have st := Step.cellSet (o := .ins C dx (putF f v vs)) (c' := .ins c (putR f y fs)) t2.ok ha hn ⟨C, dx, _, hm, upd_same, by rw [upd_ne ne]; exact hd, putR_rep (rv.step t2) hfs⟩
        refine ⟨a, C, dx, vs, rfl, hH, cx.cls, cx.na f hf, by rw [Paired.length hfs]; exact hl, ?_⟩
        exact pp g2 _ σ (f2.step st) (Sub.trans t1.sub t2.sub)
end
end DL
namespace DL
open PySem PySem.Spec L2
open PyProof.Rows hiding St

theorem make_guards {A : Around} {C : Addr} {us : List Value} {kw : List (Str × Value)} (h : A.guards = some []) : (A.under (.builtin "type.__call__" ⟨.ref C :: us, kw⟩)).guards = some [] := by
  first | exact h | (simpa [Around.under, Code.weight, Code.isCreation, Code.isGuard, Code.isCaller, Code.frames, Code.isFrame, guardIds] using h)

structure HeldM (X : Cx) (fld : Str → Str) (k : Nat) (m : Str) (n np : Nat) (idx : List Nat) (dd : List D) (c : Str) (f : List RV → DM RV) : Prop where
  ex : ∃ (C : Addr) (fs : List Str) (fa : Addr) (fd : FuncData) (ps : List Str), ClsX X.K X.mg c C fs ∧ Meth X.K C m fa ∧ DFn X.prog X.w X.K X.mg X.base fld k fa fd ps f ∧ ps.length = np ∧ KBD X.K fd ps n [] dd idx
def pickM (o : Option (List RV → DM RV)) (w : Option RV) : DM (List RV → DM RV) := match o, w with
  | some f, none => ret f
  | _, _ => bad
def methF (tbl : List (Str × (List RV → DM RV))) (m : Str) (r : RV) : DM (List RV → DM RV) := bnd (insAt (tbl.map (·.1)) r) fun q => pickM (tbl.lookup q.1) (lookF m q.2)
def eMeth (tbl : List (Str × (List RV → DM RV))) (m : Str) (n np : Nat) (idx : List Nat) (dd : List D) (mo : DEnv → DM RV) (a : DEnv → DM (List RV)) : DEnv → DM RV := fun env => bnd (mo env) fun r => bnd (methF tbl m r) fun f => bnd (a env) fun xs =>
  if (r :: xs).length = n ∧ (pick idx ((r :: xs) ++ ([] ++ dd.map .d))).length = np then f (pick idx ((r :: xs) ++ ([] ++ dd.map .d))) else bad
section
variable {X : Cx} {fld : Str → Str} {E : XK} {pos apos p : Pos} {e o : Expr} {es : List Expr} {mo : DEnv → DM RV} {a : DEnv → DM (List RV)} {m x : Str} {tbl : List (Str × (List RV → DM RV))} {k n np : Nat} {idx : List Nat} {dd : List D}
theorem meth_post {K : PySem.W.Frag} {mg : Str → Option Value} {g : G} {s : S} {H : Hp} {r : RV} {β : Type} {F : (List RV → DM RV) → DM β} {kk} (h : Post K mg fld E g H (bnd (methF tbl m r) F s) kk) :
    ∃ i c fs f, r = .box i ∧ s[i]? = some (.ins c fs) ∧ tbl.lookup c = some f ∧ lookF m fs = none ∧ Post K mg fld E g H (F f s) kk := by
  have h2 := h.bind
  unfold methF at h2
  obtain ⟨i, c, fs, e1, hn, hc, h3⟩ := ins_post h2.bind
  subst e1
  have e0 : insAt (tbl.map (·.1)) (.box i) s = .ok (c, fs) s := by
    unfold insAt
    dsimp only
    rw [hn]
    dsimp only
    rw [if_pos (by simpa using hc)]
  have e1 : methF tbl m (.box i) s = pickM (tbl.lookup c) (lookF m fs) s := by unfold methF; exact bnd_ok e0
  cases q1 : tbl.lookup c with
  | none =>
    have e2 : methF tbl m (.box i) s = .bad := by rw [e1, q1]; rfl
    rw [bnd_bad e2] at h; exact h.elim
  | some f =>
    cases q2 : lookF m fs with
    | some w =>
      have e2 : methF tbl m (.box i) s = .bad := by rw [e1, q1, q2]; rfl
      rw [bnd_bad e2] at h; exact h.elim
    | none =>
      have e2 : methF tbl m (.box i) s = .ok f s := by rw [e1, q1, q2]; rfl
      rw [bnd_ok e2] at h
      exact ⟨i, c, fs, f, rfl, hn, q1, q2, h⟩
theorem de_meth {pl : Sem Bool} (h : DE X fld E o mo) (hT : ∀ c f, tbl.lookup c = some f → HeldM X fld k m n np idx dd c f) (hr : Room k X.A) (hgd : X.A.guards = some []) (hx : Passes (L2.CX X.prog X.w) X E) (ha : DA X fld E (e :: es) a)
    (hst : starEach (e :: es) X.env = (false, eval e X.env) :: starEach es X.env := by rfl) (hpl : (backTo pos (starEach es X.env)).any (·.1) = false := by rfl)
    (ht : eval (.Call (.Attribute o m apos) (e :: es) [] pos) X.env = (do
      let ov ← eval o X.env
      standAt apos.atName
      let (f, first) ← holding [ov] (getMethod ov m pl)
      callWith pos f first (backTo pos (starEach (e :: es) X.env)) (backToKw pos (keywordEach [] X.env))) := by rfl) :
    DE X fld E (.Call (.Attribute o m apos) (e :: es) [] pos) (eMeth tbl m n np idx dd mo a) := by
  refine ⟨fun pins s σ H Q I hq => ?_⟩
  obtain ⟨g, s0, env, ok, er, pp⟩ := hq
  have hE : upE X.K X.mg fld E mo σ H fun v H1 => ∃ g1 s1 r, GOk X.K X.mg g1 s1 H1 ∧ ER X.K X.mg g1 H1 σ env ∧ RepV X.K X.mg g1 v r ∧ Post X.K X.mg fld E g1 H1 (bnd (methF tbl m r) (fun f => bnd (a env) fun xs =>
      if (r :: xs).length = n ∧ (pick idx ((r :: xs) ++ ([] ++ dd.map .d))).length = np then f (pick idx ((r :: xs) ++ ([] ++ dd.map .d))) else bad) s1) (K0 X.K X.mg Q) :=
    ⟨g, s0, env, ok, er, pp.bind.mono fun g1 s1 H1 r t1 p1 v rv => ⟨g1, s1, r, t1.ok, er.step t1, rv, p1⟩⟩
  refine PySem.W.methodCall_KW (pl := pl) (thn (h.run pins s σ H _ I hE) fun u s1 ⟨xv, H1, I1, rx, g1, sd, r, ok1, er1, rv, p1⟩ => ?_) ht
  obtain ⟨i, c, fs, f, rfl, hn, hl, hlf, p2⟩ := meth_post p1
  obtain ⟨ad, C, dx, vs0, rfl, hP, hm, hH, hd, hfs⟩ := ins_rep ok1 rv hn
  obtain ⟨C', cfs, fa, fd, ps, cx, hM, F, hnp, hkb⟩ := (hT c f hl).ex
  have eC : C = C' := by have := cx.at_; rw [hm] at this; cases this; rfl
  subst eC
  subst hnp
  obtain ⟨dvs, ds, hb, hdv, hdd⟩ := hkb.ex
  obtain rfl : u = Value.ref ad := rx
  refine getmeth_ok I1 hH cx.cls hM (lookF_none hfs hlf) ?_
  have hA : upA X.K X.mg fld E a σ H1 fun vs H2 => (V.ref ad :: vs).length = n ∧ (pick idx ((V.ref ad :: vs) ++ ([] ++ dvs))).length = ps.length ∧ toSp X.K X.mg fld f (pick idx ((V.ref ad :: vs) ++ ([] ++ dvs))) H2 Q E := by
    refine ⟨g1, sd, env, ok1, er1, p2.bind.mono fun g2 s2 H2 xs t2 p3 vs rvs => ?_⟩
    have all : Paired (RepV X.K X.mg g2) ((V.ref ad :: vs) ++ ([] ++ dvs)) ((RV.box i :: xs) ++ ([] ++ dd.map .d)) := pairedApp (.cons (RepV.step t2 rv) rvs) (pairedApp .nil (paired_data (hdd _)))
    have pk := pick_rel all idx
    by_cases q : (RV.box i :: xs).length = n ∧ (pick idx ((RV.box i :: xs) ++ ([] ++ dd.map .d))).length = ps.length
    · rw [if_pos q] at p3
      exact ⟨(by rw [← q.1]; simpa using Paired.length rvs), (Paired.length pk).trans q.2, g2, s2, _, t2.ok, pk, p3⟩
    · rw [if_neg q] at p3
      exact p3.elim
  refine PySem.W.callWith_K (first := [.ref ad]) (h₀ := X.base) I1.ok.mod.kin hM.kp (thn (ha.run pos pins s1 σ H1 _ I1 hA) fun us s2 ⟨vs, H2, I2, r, q1, q2, q3⟩ => ⟨I2.kIn, ?_⟩) hst hpl
  exact run_fnG (ks := []) (ws := []) (zs := []) (us := .ref ad :: us) (vs := .ref ad :: vs) F hr hgd hb hdv hx I2 (.cons rfl r) .nil q1 rfl q2 q3
theorem de_meth0 {pl : Sem Bool} (h : DE X fld E o mo) (hT : ∀ c f, tbl.lookup c = some f → HeldM X fld k m n np idx dd c f) (hr : Room k X.A) (hgd : X.A.guards = some []) (hx : Passes (L2.CX X.prog X.w) X E)
    (ht : eval (.Call (.Attribute o m apos) [] [] pos) X.env = (do
      let ov ← eval o X.env
      standAt apos.atName
      let (f, first) ← holding [ov] (getMethod ov m pl)
      callWith pos f first (backTo pos (starEach [] X.env)) (backToKw pos (keywordEach [] X.env))) := by rfl) :
    DE X fld E (.Call (.Attribute o m apos) [] [] pos) (eMeth tbl m n np idx dd mo aNil) := by
  refine ⟨fun pins s σ H Q I hq => ?_⟩
  obtain ⟨g, s0, env, ok, er, pp⟩ := hq
  have hE : upE X.K X.mg fld E mo σ H fun v H1 => ∃ g1 s1 r, GOk X.K X.mg g1 s1 H1 ∧ ER X.K X.mg g1 H1 σ env ∧ RepV X.K X.mg g1 v r ∧ Post X.K X.mg fld E g1 H1 (bnd (methF tbl m r) (fun f => bnd (aNil env) fun xs =>
      if (r :: xs).length = n ∧ (pick idx ((r :: xs) ++ ([] ++ dd.map .d))).length = np then f (pick idx ((r :: xs) ++ ([] ++ dd.map .d))) else bad) s1) (K0 X.K X.mg Q) :=
    ⟨g, s0, env, ok, er, pp.bind.mono fun g1 s1 H1 r t1 p1 v rv => ⟨g1, s1, r, t1.ok, er.step t1, rv, p1⟩⟩
  refine PySem.W.methodCall_KW (pl := pl) (thn (h.run pins s σ H _ I hE) fun u s1 ⟨xv, H1, I1, rx, g1, sd, r, ok1, er1, rv, p1⟩ => ?_) ht
  obtain ⟨i, c, fs, f, rfl, hn, hl, hlf, p2⟩ := meth_post p1
  obtain ⟨ad, C, dx, vs0, rfl, hP, hm, hH, hd, hfs⟩ := ins_rep ok1 rv hn
  obtain ⟨C', cfs, fa, fd, ps, cx, hM, F, hnp, hkb⟩ := (hT c f hl).ex
  have eC : C = C' := by have := cx.at_; rw [hm] at this; cases this; rfl
  subst eC
  subst hnp
  obtain ⟨dvs, ds, hb, hdv, hdd⟩ := hkb.ex
  obtain rfl : u = Value.ref ad := rx
  refine getmeth_ok I1 hH cx.cls hM (lookF_none hfs hlf) ?_
  have p3 : Post X.K X.mg fld E g1 H1 ((if ([RV.box i] : List RV).length = n ∧ (pick idx (([RV.box i] : List RV) ++ ([] ++ dd.map .d))).length = ps.length then f (pick idx ([RV.box i] ++ ([] ++ dd.map .d))) else bad) sd) (K0 X.K X.mg Q) := p2
  have all : Paired (RepV X.K X.mg g1) ([V.ref ad] ++ ([] ++ dvs)) ([RV.box i] ++ ([] ++ dd.map .d)) := pairedApp (.cons rv .nil) (pairedApp .nil (paired_data (hdd _)))
  have pk := pick_rel all idx
  by_cases q : ([RV.box i] : List RV).length = n ∧ (pick idx (([RV.box i] : List RV) ++ ([] ++ dd.map .d))).length = ps.length
  · rw [if_pos q] at p3
    exact PySem.W.callWith_K0 (first := [.ref ad]) I1.kIn hM.kp (run_fnG (ks := []) (ws := []) (zs := []) (us := [.ref ad]) (vs := [.ref ad]) F hr hgd hb hdv hx I1 (.cons rfl .nil) .nil q.1 rfl ((Paired.length pk).trans q.2) ⟨g1, sd, _, ok1, pk, p3⟩)
  · rw [if_neg q] at p3
    exact p3.elim

/-! ### a new instance -/
def eMake (c : Str) (n np : Nat) (idx : List Nat) (dd : List D) (f : List RV → DM RV) (a : DEnv → DM (List RV)) : DEnv → DM RV := fun env => bnd (a env) fun xs s =>
  if (RV.box s.length :: xs).length = n ∧ (pick idx ((RV.box s.length :: xs) ++ ([] ++ dd.map .d))).length = np then
    match f (pick idx ((RV.box s.length :: xs) ++ ([] ++ dd.map .d))) (s ++ [.ins c []]) with
    | .ok (.d .none) s' => .ok (.box s.length) s'
    | .exc e s' => .exc e s'
    | _ => .bad
  else .bad
structure MkX (X : Cx) (fld : Str → Str) (k : Nat) (c : Str) (n np : Nat) (idx : List Nat) (dd : List D) (f : List RV → DM RV) : Prop where
  ex : ∃ (C : Addr) (fa : Addr) (fd : FuncData) (ps : List Str), X.mg c = some (.ref C) ∧ Mk X.K C fa ∧ DFn X.prog X.w X.K X.mg X.base fld k fa fd ps f ∧ ps.length = np ∧ KBD X.K fd ps n [] dd idx
theorem run_makeG {C : Addr} {f : Addr} {fd : FuncData} {ps : List Str} {sp : Sp} {dvs : List V} {ds : List Value} {pins : List (Addr × Obj)} {σ : L2.St} {H : Hp} {s : Shared} {Q : VK} {us : List Value} {vs : List V} (M : Mk X.K C f) (F : FnG X.prog X.w X.K X.mg X.base (L2.CX X.prog X.w) k f fd ps sp) (hr : Room (k + 1) X.A) (hgd : X.A.guards = some []) (hb : KB X.K fd ps n [] ds idx) (hd : Vals dvs ds)
    (hx : Passes (L2.CX X.prog X.w) X E) (I : Inv X pins σ H s) (r : Vals vs us) (hn : vs.length + 1 = n)
    (hl : ∀ x : Addr, (pick idx ((V.ref x :: vs) ++ ([] ++ dvs))).length = ps.length)
    (h : ∀ x dx, H x = none → H dx = none → dx ≠ x → sp (pick idx ((V.ref x :: vs) ++ ([] ++ dvs))) (upd (upd H dx (.own x)) x (.ins C dx [])) (fun v H2 => v = .non ∧ Q (.ref x) H2) E) :
    wpAny (model X.prog X.w) X.A (call (.ref C) us) (EP X pins σ Q) X.xe s := by
  have hq := h (s.heap.objs.size + 1) s.heap.objs.size (I.hok.fresh (Nat.le_succ _)) (I.hok.fresh (Nat.le_refl _)) (Nat.ne_of_lt (Nat.lt_succ_self _))
  have I2 := Inv.made (C := C) I
  have r1 : Vals (V.ref (s.heap.objs.size + 1) :: vs) (Value.ref (s.heap.objs.size + 1) :: us) := .cons rfl r
  have r2 := pick_rel (pairedApp r1 (pairedApp (R := RelV) (.nil) hd)) idx
  refine wpAny_call (make_map (f := f) I.kIn M.makes M.init (beq_iff_eq.mp M.fn) (codeAny_mono (F.run _ X.stack _ _ ⟨Value.ref (s.heap.objs.size + 1) :: us, []⟩ _ _ _ E (hr.make C us []) (make_guards hgd)
    (I2.env0.make C us []) (hb.to _ (Value.ref (s.heap.objs.size + 1) :: us) [] I2.kIn (by rw [← hn, ← Paired.length r1]; rfl) rfl) r2 (hl _) hq) fun r s' hq' => ?_))
  cases r with
  | error e => exact hx pins σ _ _ e s' I2 hq'
  | ok fl =>
    cases fl with
    | ret u =>
      obtain ⟨v, H', I3, rv, ev, q3⟩ := I2.after hq'
      subst ev
      exact ⟨rv, ⟨V.ref (s.heap.objs.size + 1), H', I3, rfl, q3⟩⟩
    | next => exact False.elim hq'
    | brk => exact False.elim hq'
    | cont => exact False.elim hq'
/-- what the instance's making means for the mirror -/
theorem make_sp {K : PySem.W.Frag} {mg : Str → Option Value} {g : G} {sd : S} {H : Hp} {Q : VK} {c : Str} {C : Addr} {f : List RV → DM RV} {vs : List V} {xs : List RV} {dvs : List V} (ok : GOk K mg g sd H) (hm : mg c = some (.ref C)) (rvs : Paired (RepV K mg g) vs xs) (hdd : ∀ Z, RpAll K Z dvs dd)
    (pp : Post K mg fld E g H (match f (pick idx ((RV.box sd.length :: xs) ++ ([] ++ dd.map .d))) (sd ++ [.ins c []]) with
      | .ok (.d .none) s' => .ok (.box sd.length) s'
      | .exc e s' => .exc e s'
      | _ => .bad) (K0 K mg Q)) : ∀ x dx, H x = none → H dx = none → dx ≠ x → toSp K mg fld f (pick idx ((V.ref x :: vs) ++ ([] ++ dvs))) (upd (upd H dx (.own x)) x (.ins C dx [])) (fun v H2 => v = .non ∧ Q (.ref x) H2) E := by
  intro x dx hx hdx hne
  have t0 := Step.newH (o := .own x) ok hdx
  have hx1 : upd H dx (.own x) x = none := by rw [upd_ne (Ne.symm hne)]; exact hx
  have t1 := t0.trans (Step.newH (o := .ins C dx []) t0.ok hx1)
  have zx : g.Z x = none := by
    cases q : g.Z x with
    | none => rfl
    | some o => rw [ok.z _ _ q] at hx; cases hx
  have px : x ∉ g.P := fun hm => by
    obtain ⟨o, e, _⟩ := ok.there hm
    rw [hx] at e; cases e
  have t2 := t1.cellNew (c := .ins c []) hx zx px ⟨C, dx, [], hm, upd_same, by rw [upd_ne hne]; exact upd_same, .nil⟩
  have rb : RepV K mg ⟨g.Z, g.P ++ [x]⟩ (.ref x) (.box sd.length) := ⟨x, box_at ok, rfl⟩
  have all : Paired (RepV K mg ⟨g.Z, g.P ++ [x]⟩) ((V.ref x :: vs) ++ ([] ++ dvs)) ((RV.box sd.length :: xs) ++ ([] ++ dd.map .d)) := pairedApp (.cons rb (Paired.steps t2 rvs)) (pairedApp .nil (paired_data (hdd _)))
  refine ⟨⟨g.Z, g.P ++ [x]⟩, sd ++ [.ins c []], _, t2.ok, pick_rel all idx, ?_⟩
  cases q : f (pick idx ((RV.box sd.length :: xs) ++ ([] ++ dd.map .d))) (sd ++ [.ins c []]) with
  | bad => rw [q] at pp; exact pp
  | exc e s' => rw [q] at pp; exact fun g' H' cls od t ex => pp g' H' cls od (t2.trans t) ex
  | ok r s' =>
    rw [q] at pp
    cases r with
    | box n => exact pp.elim
    | fn n => exact pp.elim
    | d y =>
      cases y with
      | none =>
        intro g' H' t v rv
        have rv : Rp K g'.Z v .none := rv
        cases rv
        exact ⟨rfl, pp g' H' (t2.trans t) _ (RepV.step t rb)⟩
      | _ => exact pp.elim
theorem de_make {m' : List RV → DM RV} (hM : MkX X fld k x n np idx dd m') (hr : Room (k + 1) X.A) (hgd : X.A.guards = some []) (hg : Gl X x) (hx : Passes (L2.CX X.prog X.w) X E) (ha : DA X fld E (e :: es) a)
    (hdb : (x == ("__debug__" : Str)) = false := by decide) (he : starEach (e :: es) X.env = (false, eval e X.env) :: starEach es X.env := by rfl) (hpl : (backTo pos (starEach es X.env)).any (·.1) = false := by rfl) :
    DE X fld E (.Call (.Name x p) (e :: es) [] pos) (eMake x n np idx dd m' a) := by
  obtain ⟨C, fa, fd, ps, hm, M, F, hnp, hkb⟩ := hM.ex
  subst hnp
  obtain ⟨dvs, ds, hb, hdv, hdd⟩ := hkb.ex
  refine ⟨fun pins s σ H Q I hq => ?_⟩
  obtain ⟨g, s0, env, ok, er, pp⟩ := hq
  have hA : upA X.K X.mg fld E a σ H fun vs H2 => vs.length + 1 = n ∧ (∀ y : Addr, (pick idx ((V.ref y :: vs) ++ ([] ++ dvs))).length = ps.length) ∧ ∀ x dx, H2 x = none → H2 dx = none → dx ≠ x → toSp X.K X.mg fld m' (pick idx ((V.ref x :: vs) ++ ([] ++ dvs))) (upd (upd H2 dx (.own x)) x (.ins C dx [])) (fun v H2 => v = .non ∧ Q (.ref x) H2) E := by
    refine ⟨g, s0, env, ok, er, pp.bind.mono fun g2 s2 H2 xs t2 p3 vs rvs => ?_⟩
    by_cases q : (RV.box s2.length :: xs).length = n ∧ (pick idx ((RV.box s2.length :: xs) ++ ([] ++ dd.map .d))).length = ps.length
    · rw [if_pos q] at p3
      refine ⟨by rw [← q.1]; simpa using Paired.length rvs, fun y => ?_, make_sp t2.ok hm rvs hdd p3⟩
      have all : Paired (fun _ _ => True) ((V.ref y :: vs) ++ ([] ++ dvs)) ((RV.box s2.length :: xs) ++ ([] ++ dd.map .d)) := pairedApp (.cons trivial (Paired.mapP rvs fun _ _ _ => trivial)) (pairedApp .nil (Paired.mapP (paired_data (mg := X.mg) (g := g2) (hdd _)) fun _ _ _ => trivial))
      exact (Paired.length (pick_rel all idx)).trans q.2
    · rw [if_neg q] at p3
      exact p3.elim
  refine wpAny_Call_Name_kw (ld_glob I hg hm ?_ hdb)
  refine PySem.W.callWith_K (h₀ := X.base) I.ok.mod.kin M.kp (thn (ha.run pos pins s σ H _ I hA) fun us s1 ⟨vs, H1, I1, r, q1, q2, q3⟩ => ⟨I1.kIn, ?_⟩) he hpl
  exact run_makeG M F hr hgd hb hdv hx I1 r q1 q2 q3
end
end DL
namespace DL
open PySem PySem.Spec L2
open PyProof.Rows hiding St

/-! ### lists that may change, met by expressions -/
def guardM (b : Bool) : DM PUnit := if b = true then ret ⟨⟩ else bad
def putL (r : RV) (l : List RV) (v : RV) : DM RV := match r with
  | .box n => fun s => .ok v (s.set n (.lst l))
  | _ => bad
section
variable {K : PySem.W.Frag} {mg : Str → Option Value} {fld : Str → Str} {E : XK} {g : G} {s : S} {H : Hp}
theorem guard_post {α : Type} {b : Bool} {F : PUnit → DM α} {k} (h : Post K mg fld E g H (bnd (guardM b) F s) k) : b = true ∧ Post K mg fld E g H (F ⟨⟩ s) k := by
  cases b with
  | true => exact ⟨rfl, h⟩
  | false => exact h.elim
theorem boxAt_ok {n : Nat} {l : List RV} (h : s[n]? = some (.lst l)) : boxAt (.box n) s = .ok l s := by unfold boxAt; dsimp only; rw [h]
theorem box_post2 {α : Type} {r : RV} {F : List RV → DM α} {k} (h : Post K mg fld E g H (bnd (boxAt r) F s) k) : ∃ n l, r = .box n ∧ s[n]? = some (.lst l) ∧ Post K mg fld E g H (F l s) k := by
  obtain ⟨n, l, e, hn, _⟩ := box_post h.bind
  subst e
  rw [bnd_ok (boxAt_ok hn)] at h
  exact ⟨n, l, rfl, hn, h⟩
theorem box_rep {n : Nat} {l : List RV} {v : V} (ok : GOk K mg g s H) (rv : RepV K mg g v (.box n)) (hn : s[n]? = some (.lst l)) : ∃ a xs, v = .ref a ∧ g.P[n]? = some a ∧ H a = some (.lst xs) ∧ Paired (RepV K mg g) xs l := by
  obtain ⟨a, ha, rfl⟩ := rv
  obtain ⟨_, xs, h1, h2⟩ := ok.box n a _ ha hn
  exact ⟨a, xs, rfl, ha, h1, h2⟩
theorem paired_last {α β : Type} {R : α → β → Prop} : ∀ {xs : List α} {l : List β}, Paired R xs l → Paired R xs.dropLast l.dropLast
  | _, _, .nil => .nil
  | _, _, .cons h .nil => .nil
  | _, _, .cons h (.cons h2 r) => .cons h (paired_last (.cons h2 r))
theorem paired_erase {α β : Type} {R : α → β → Prop} : ∀ {xs : List α} {l : List β} (k : Nat), Paired R xs l → Paired R (xs.eraseIdx k) (l.eraseIdx k)
  | _, _, _, .nil => by simp only [List.eraseIdx_nil]; exact .nil
  | _, _, 0, .cons h r => r
  | _, _, k + 1, .cons h r => .cons h (paired_erase k r)
theorem putL_post {n : Nat} {a : Addr} {l l' : List RV} {ys : List V} {r : RV} {v : V} {Q : VK} (ok : GOk K mg g s H) (ha : g.P[n]? = some a) (hn : s[n]? = some (.lst l)) (hd : Paired (RepV K mg g) ys l') (rv : RepV K mg g v r)
    (p : Post K mg fld E g H (putL (.box n) l' r s) (K0 K mg Q)) : Q v (upd H a (.lst ys)) := by
  have st := Step.cellSet (o := .lst ys) (c' := .lst l') ok ha hn ⟨ys, upd_same, hd⟩
  exact p g _ st v (RepV.step st rv)
end
section
variable {X : Cx} {fld : Str → Str} {E : XK} {g0 : G} {H0 : Hp} {pos apos cpos p : Pos} {e o a b : Expr} {mo mv ma mb : DEnv → DM RV} {x : Str}
/-- o.append(e) -/
def eLApp (mo mv : DEnv → DM RV) : DEnv → DM RV := fun env => bnd (mo env) fun r => bnd (boxAt r) fun _ => bnd (mv env) fun y => bnd (boxAt r) fun l => bnd (guardM (decide (l.length < sizeLine))) fun _ => putL r (l ++ [y]) (.d .none)
theorem de_lapp (ho : DE X fld E o mo) (h : DE X fld E e mv) (hbase : attributeBase o "append" X.env (eval o X.env) = eval o X.env := by rfl)
    (hfew : ((backTo cpos (starEach [e] X.env)).all (fun x => !x.1) && (backToKw cpos (keywordEach [] X.env)).all (fun x => x.1.isSome)
      && decide ([e].length + ([] : List Keyword).length + (if ([] : List Keyword).isEmpty then 0 else 1) < 30)) = true := by rfl)
    (hline : (apos.endLine == cpos.line) = true := by rfl) (hs : starEach [e] X.env = (false, eval e X.env) :: starEach [] X.env := by rfl) :
    DE X fld E (.Call (.Attribute o "append" apos) [e] [] cpos) (eLApp mo mv) :=
  peImp (pe_bm PySem.F.plainAttrs_list PySem.F.slot_list_append PySem.F.type_list_append mt_append ho (pa_cons h pa_nil hs) hbase hfew hline hs rfl) fun σ H Q ⟨g, s, env, ok, er, pp⟩ => by
    refine ⟨g, s, env, ok, er, pp.bind.mono fun g1 s1 H1 r t1 p1 v rv => ?_⟩
    obtain ⟨n, l, rfl, hn, p2⟩ := box_post2 p1
    obtain ⟨ad, xs, rfl, hP, hH, hd⟩ := box_rep t1.ok rv hn
    refine ⟨.inl ⟨rfl, _, .inl (.inl hH)⟩, g1, s1, env, t1.ok, er.step t1, p2.bind.mono fun g2 s2 H2 y t2 p3 w rw' => ?_⟩
    obtain ⟨n', l2, en, hn2, p4⟩ := box_post2 p3
    cases en
    obtain ⟨ad', xs2, ea, hP2, hH2, hd2⟩ := box_rep t2.ok (rv.step t2) hn2
    cases ea
    obtain ⟨hz, p5⟩ := guard_post p4
    exact ⟨ad, xs2, w, rfl, rfl, hH2, by rw [Paired.length hd2]; exact of_decide_eq_true hz, putL_post t2.ok hP2 hn2 (pairedApp hd2 (.cons rw' .nil)) (show RepV X.K X.mg g2 .non (.d .none) from Rp.non) p5⟩
/-- o.pop() -/
def eLPop (mo : DEnv → DM RV) : DEnv → DM RV := fun env => bnd (mo env) fun r => bnd (boxAt r) fun l => optM l[l.length - 1]? fun y => putL r l.dropLast y
theorem de_lpop (ho : DE X fld E o mo) (hbase : attributeBase o "pop" X.env (eval o X.env) = eval o X.env := by rfl) (hline : (apos.endLine == cpos.line) = true := by rfl) :
    DE X fld E (.Call (.Attribute o "pop" apos) [] [] cpos) (eLPop mo) :=
  peImp (pe_bm0 PySem.F.plainAttrs_list PySem.F.slot_list_pop PySem.F.type_list_pop mt_pop ho hbase hline) fun σ H Q ⟨g, s, env, ok, er, pp⟩ => by
    refine ⟨g, s, env, ok, er, pp.bind.mono fun g1 s1 H1 r t1 p1 v rv => ?_⟩
    obtain ⟨n, l, rfl, hn, p2⟩ := box_post2 p1
    obtain ⟨ad, xs, rfl, hP, hH, hd⟩ := box_rep t1.ok rv hn
    obtain ⟨y, ey, p3⟩ := optM_post p2
    obtain ⟨w, h1, h2⟩ := paired_get hd ey
    rw [← Paired.length hd] at h1
    exact ⟨.inl ⟨rfl, _, .inl (.inl hH)⟩, ad, xs, w, rfl, rfl, hH, h1, putL_post t1.ok hP hn (paired_last hd) h2 p3⟩
/-- o.pop(i) -/
def eLPopAt (mo mv : DEnv → DM RV) : DEnv → DM RV := fun env => bnd (mo env) fun r => bnd (boxAt r) fun _ => bnd (mv env) fun i => bnd (boxAt r) fun l => match i with
  | .d (.int i) => bnd (guardM (decide (-(2 ^ 63) ≤ i ∧ i < 2 ^ 63))) fun _ => optM (seqIndex? i l.length) fun k => optM l[k]? fun y => putL r (l.eraseIdx k) y
  | _ => bad
theorem de_lpopAt (ho : DE X fld E o mo) (h : DE X fld E e mv) (hbase : attributeBase o "pop" X.env (eval o X.env) = eval o X.env := by rfl)
    (hfew : ((backTo cpos (starEach [e] X.env)).all (fun x => !x.1) && (backToKw cpos (keywordEach [] X.env)).all (fun x => x.1.isSome)
      && decide ([e].length + ([] : List Keyword).length + (if ([] : List Keyword).isEmpty then 0 else 1) < 30)) = true := by rfl)
    (hline : (apos.endLine == cpos.line) = true := by rfl) (hs : starEach [e] X.env = (false, eval e X.env) :: starEach [] X.env := by rfl) :
    DE X fld E (.Call (.Attribute o "pop" apos) [e] [] cpos) (eLPopAt mo mv) :=
  peImp (pe_bm PySem.F.plainAttrs_list PySem.F.slot_list_pop PySem.F.type_list_pop mt_popAt ho (pa_cons h pa_nil hs) hbase hfew hline hs rfl) fun σ H Q ⟨g, s, env, ok, er, pp⟩ => by
    refine ⟨g, s, env, ok, er, pp.bind.mono fun g1 s1 H1 r t1 p1 v rv => ?_⟩
    obtain ⟨n, l, rfl, hn, p2⟩ := box_post2 p1
    obtain ⟨ad, xs, rfl, hP, hH, hd⟩ := box_rep t1.ok rv hn
    refine ⟨.inl ⟨rfl, _, .inl (.inl hH)⟩, g1, s1, env, t1.ok, er.step t1, p2.bind.mono fun g2 s2 H2 y t2 p3 w rw' => ?_⟩
    obtain ⟨n', l2, en, hn2, p4⟩ := box_post2 p3
    cases en
    obtain ⟨ad', xs2, ea, hP2, hH2, hd2⟩ := box_rep t2.ok (rv.step t2) hn2
    cases ea
    cases y with
    | box _ => exact p4.elim
    | fn _ => exact p4.elim
    | d y =>
      cases y with
      | int i =>
        cases rw'
        obtain ⟨hz, p5⟩ := guard_post p4
        have hz := of_decide_eq_true hz
        obtain ⟨k, ek, p6⟩ := optM_post p5
        obtain ⟨z, ez, p7⟩ := optM_post p6
        obtain ⟨u, h1, h2⟩ := paired_get hd2 ez
        exact ⟨ad, xs2, i, k, u, rfl, rfl, hH2, hz.1, hz.2, by rw [Paired.length hd2]; exact ek, h1, putL_post t2.ok hP2 hn2 (paired_erase k hd2) h2 p7⟩
      | _ => exact p4.elim
/-- a[b], a list that may change or data -/
def ixA (r y : RV) : DM RV := match r with
  | .d x => onD y fun y => dIx x y
  | .box n => bnd (boxAt (.box n)) fun l => onD y fun y => lIx l y
  | .fn _ => bad
def eIxA (a b : DEnv → DM RV) : DEnv → DM RV := fun env => bnd (a env) fun x => bnd (b env) fun y => ixA x y
theorem de_ixA (ha : DE X fld E a ma) (hb : DE X fld E b mb) (hs : PlainIx b := by exact fun _ _ => rfl) : DE X fld E (.Subscript a b pos) (eIxA ma mb) :=
  peImp (pe_ix (IxR.or ix_seq ix_list) ha hb hs) fun σ H Q ⟨g, s, env, ok, er, p⟩ => by
    refine ⟨g, s, env, ok, er, p.bind.mono fun g1 s1 H1 r t1 p1 v rv => ?_⟩
    refine ⟨g1, s1, env, t1.ok, er.step t1, p1.bind.mono fun g2 s2 H2 y t2 p2 w rw' => ?_⟩
    cases r with
    | fn _ => exact p2.elim
    | d x =>
      obtain ⟨z, rfl, p3⟩ := onD_post p2
      exact .inl (od_ix g2 s2 H2 v w x z Q t2.ok (RepV.step (mg := X.mg) (r := .d x) t2 rv) rw' p3)
    | box n =>
      obtain ⟨n', l, en, hn, p3⟩ := box_post2 p2
      cases en
      obtain ⟨ad, xs, rfl, hP, hH, hd⟩ := box_rep t2.ok (rv.step t2) hn
      obtain ⟨z, rfl, p4⟩ := onD_post p3
      cases z with
      | int k =>
        cases rw'
        have p5 : Post X.K X.mg fld E g2 H2 (optM (atI l k) ret s2) (K0 X.K X.mg Q) := p4
        obtain ⟨d, q, p6⟩ := optM_post p5
        obtain ⟨u, e1, e2⟩ := paired_atI hd q
        exact .inr ⟨ad, xs, k, u, rfl, rfl, .inl (.inl hH), e1, post_ret t2.ok p6 u e2⟩
      | _ => exact p4.elim
/-- a thing, as data, at this moment -/
def asD (s : S) : RV → Option D
  | .d x => some x
  | .box n => match s[n]? with
    | some (.lst l) => (datL l).map .list
    | _ => none
  | .fn _ => none
def onS (r : RV) (f : D → DM RV) : DM RV := fun s => match asD s r with
  | some x => f x s
  | none => .bad
theorem asD_dp {K : PySem.W.Frag} {mg : Str → Option Value} {g : G} {s : S} {H : Hp} {v : V} {r : RV} {x : D} (ok : GOk K mg g s H) (rv : RepV K mg g v r) (h : asD s r = some x) : Dp K H v x := by
  cases r with
  | d y => cases h; exact Rp.dpH ok rv
  | fn y => cases h
  | box n =>
    unfold asD at h
    dsimp only at h
    cases q : s[n]? with
    | none => rw [q] at h; cases h
    | some c =>
      rw [q] at h
      cases c with
      | lst l =>
        dsimp only at h
        obtain ⟨dl, e1, rfl⟩ := Option.map_eq_some_iff.mp h
        obtain ⟨ad, xs, rfl, hP, hH, hd⟩ := box_rep ok rv q
        exact .lst (.inl (.inl hH)) (RpAll.dp dl xs (RpAll.mono ok.z _ _ (datL_rep e1 hd)))
      | _ => cases h
theorem onS_post {K : PySem.W.Frag} {mg : Str → Option Value} {g : G} {H : Hp} {s : S} {r : RV} {f : D → DM RV} {k} (h : Post K mg fld E g H (onS r f s) k) : ∃ x, asD s r = some x ∧ Post K mg fld E g H (f x s) k := by
  unfold onS at h
  cases q : asD s r with
  | none => rw [q] at h; exact h.elim
  | some x => rw [q] at h; exact ⟨x, rfl, h⟩
/-- an operator that only looks -/
def OpS (X : Cx) (fld : Str → Str) (E : XK) (r : R2) (f : D → D → DM RV) : Prop := ∀ (g : G) (s : S) (H : Hp) (v u : V) (x y : D) (Q : VK), GOk X.K X.mg g s H → Dp X.K H v x → Dp X.K H u y →
  Post X.K X.mg fld E g H (f x y s) (fun g' _ H' r => ∀ v, RepV X.K X.mg g' v r → Q v H') → r v u H Q
def eOpS (f : D → D → DM RV) (a b : DEnv → DM RV) : DEnv → DM RV := fun env => bnd (a env) fun x => bnd (b env) fun y => onS x fun x => onS y fun y => f x y
theorem up_opS {r : R2} {f : D → D → DM RV} (hr : OpS X fld E r f) : ∀ σ H Q, upE X.K X.mg fld E (eOpS f ma mb) σ H Q → tOp r (upE X.K X.mg fld E ma) (upE X.K X.mg fld E mb) σ H Q := by
  rintro σ H Q ⟨g, s, env, ok, er, p⟩
  refine ⟨g, s, env, ok, er, p.bind.mono fun g1 s1 H1 x t1 p1 v rv => ?_⟩
  refine ⟨g1, s1, env, t1.ok, er.step t1, p1.bind.mono fun g2 s2 H2 y t2 p2 u ru => ?_⟩
  obtain ⟨dx, ex, p3⟩ := onS_post p2
  obtain ⟨dy, ey, p4⟩ := onS_post p3
  exact hr g2 s2 H2 v u dx dy Q t2.ok (asD_dp t2.ok (rv.step t2) ex) (asD_dp t2.ok ru ey) p4
theorem de_cmpS {op : CmpOp} {r : R2} {f : D → D → DM RV} (ho : OpR X (compareOp op) r) (hr : OpS X fld E r f) (ha : DE X fld E a ma) (hb : DE X fld E b mb) (hm : behindInMarks op b = false := by rfl) : DE X fld E (.Compare a [op] [b] pos) (eOpS f ma mb) :=
  peImp (pe_cmpR ho ha hb hm) (up_opS hr)
theorem dt_cmpS {op : CmpOp} {r : R2} {f : D → D → DM RV} (ho : OpR X (compareOp op) r) (hr : OpS X fld E r f) (ha : DE X fld E a ma) (hb : DE X fld E b mb) (hm : behindInMarks op b = false := by rfl) : DT X fld E (.Compare a [op] [b] pos) (mT (eOpS f ma mb)) :=
  ptImp (pt_cmpR ho ha hb hm) fun σ H Q ⟨g, s, env, ok, er, p⟩ => by
    refine up_opS hr σ H _ ⟨g, s, env, ok, er, p.bind.mono fun g1 s1 H1 r t1 p1 v rv => ?_⟩
    obtain ⟨b, rfl, rfl, p2⟩ := asB_post rv p1
    exact ⟨b, rfl, p2 g1 H1 (.refl t1.ok)⟩
theorem os_eq : OpS X fld E (rEqA X.K) dEq := by
  intro g s H v u x y Q ok rx ry p
  unfold dEq at p
  cases e : eqD x y with
  | none => rw [e] at p; exact p.elim
  | some b =>
    rw [e] at p
    have q : Q (.bl b) H := post_b ok p
    rcases eqD_cases e with ⟨a, c, rfl, rfl, rfl⟩ | ⟨h1, h2, rfl⟩
    · cases rx; cases ry
      refine .inl ⟨rfl, ?_⟩
      rw [dec_str]; exact q
    · exact .inr ⟨x, y, rx, ry, h1, h2, q⟩
/-- len, tuple, of a thing that may be a list that may change -/
def lenA : List RV → DM RV
  | [.d x] => dLen x
  | [.box n] => bnd (boxAt (.box n)) fun l => dI l.length
  | _ => bad
theorem cd_lenA : CallD X fld E (fun xs H Q => ∃ x n, xs = [x] ∧ LenV X.K x H n ∧ Q (.int n) H) lenA := by
  intro g s H vs rs Q ok rvs p
  cases rvs with
  | nil => exact p.elim
  | @cons v r vs rs h1 h2 =>
    cases h2 with
    | cons _ _ => cases r <;> exact p.elim
    | nil =>
      cases r with
      | fn _ => exact p.elim
      | d x => exact cd_len g s H [v] [.d x] Q ok (.cons h1 .nil) p
      | box n =>
        obtain ⟨n', l, en, hn, p2⟩ := box_post2 p
        cases en
        obtain ⟨ad, xs, rfl, hP, hH, hd⟩ := box_rep ok h1 hn
        exact ⟨_, _, rfl, .inl ⟨_, .inl (.inl hH), (Paired.length hd).symm⟩, post_i ok p2⟩
def tupA : List RV → DM RV
  | [.d x] => dTuple x
  | [.box n] => bnd (boxAt (.box n)) fun l => optM (datL l) fun dl => ret (.d (.tuple dl))
  | _ => bad
theorem cd_tupA : CallD X fld E (fun xs H Q => ∃ p ys, xs = [.ref p] ∧ ((SqL X.K H p ys ∧ ∀ l, H l = none → Q (.ref l) (upd H l (.tup ys))) ∨ (SqT X.K H p ys ∧ Q (.ref p) H))) tupA := by
  intro g s H vs rs Q ok rvs p
  cases rvs with
  | nil => exact p.elim
  | @cons v r vs rs h1 h2 =>
    cases h2 with
    | cons _ _ => cases r <;> exact p.elim
    | nil =>
      cases r with
      | fn _ => exact p.elim
      | d x => exact cd_tuple g s H [v] [.d x] Q ok (.cons h1 .nil) p
      | box n =>
        obtain ⟨n', l, en, hn, p2⟩ := box_post2 p
        cases en
        obtain ⟨ad, xs, rfl, hP, hH, hd⟩ := box_rep ok h1 hn
        obtain ⟨dl, e1, p3⟩ := optM_post p2
        exact ⟨_, _, rfl, .inl ⟨.inl (.inl hH), fun b hb => post_newT ok p3 (datL_rep e1 hd) hb⟩⟩
end
end DL
namespace DL
open PySem PySem.Spec L2
open PyProof.Rows hiding St

/-! ### live tuples -/
def upL (K : PySem.W.Frag) (mg : Str → Option Value) (fld : Str → Str) (E : XK) (m : DEnv → DM (List D)) : TE := fun σ H Q => ∃ g s env, GOk K mg g s H ∧ ER K mg g H σ env ∧ Post K mg fld E g H (m env s) fun g' _ H' l => ∀ a xs, g'.Z a = some (.tup xs) → RpAll K g'.Z xs l → Q (.ref a) H'
abbrev DLt (X : Cx) (fld : Str → Str) (E : XK) (e : Expr) (m : DEnv → DM (List D)) : Prop := PE X e (upL X.K X.mg fld E m)
def lTup (a : DEnv → DM (List RV)) : DEnv → DM (List D) := fun env => bnd (a env) fun xs => bnd (dats xs) fun l => bnd (small l) fun _ => ret l
def lVar (i : Nat) : DEnv → DM (List D) := fun env => match env[i]? with
  | some (some (.lt l)) => ret l
  | _ => bad
section
variable {X : Cx} {fld : Str → Str} {E : XK} {g0 : G} {H0 : Hp} {pos apos cpos pos' : Pos} {e o d value : Expr} {es : List Expr} {ms : DEnv → DM (List RV)} {x : Str} {ml : DEnv → DM (List D)} {md mv mx mk : DEnv → DM RV}
theorem dl_tup {x1} (h : DA X fld E es ms) : DLt X fld E (.Tuple es x1 pos) (lTup ms) :=
  peImp (pe_tup h) fun σ H Q ⟨g, s, env, ok, er, p⟩ => by
    refine ⟨g, s, env, ok, er, p.bind.mono fun g1 s1 H1 xs t1 p1 vs rvs => ?_⟩
    obtain ⟨l, e, dl⟩ := RpAll.of_dats p1.bind rvs
    rw [bnd_ok e] at p1
    obtain ⟨z, e2⟩ := small_post (Post.bind (m := small l) p1)
    rw [bnd_ok e2] at p1
    rw [← dpAll_length dl] at z
    refine ⟨z, fun q hq => ?_⟩
    have st := Step.newZ (o := .tup vs) t1.ok hq
    exact p1 _ _ st q vs upd_same (RpAll.mono st.z l vs dl)
theorem dl_var (i : Nat) (hN : X.N[i]? = some x := by rfl) (hv : Vis X.env.scope x := by first | exact Or.inl rfl | exact Or.inr (Or.inl rfl) | exact Or.inr (Or.inr rfl)) (hd : (x == ("__debug__" : Str)) = false := by decide)
    (hcd : (x == ("__classdict__" : Str)) = false := by decide) : DLt X fld E (.Name x pos) (lVar i) :=
  peImp (pe_var hN hv hd hcd) fun σ H Q ⟨g, s, env, ok, er, p⟩ => by
    unfold lVar at p
    cases q : env[i]? with
    | none => rw [q] at p; exact p.elim
    | some o =>
      cases o with
      | none => rw [q] at p; exact p.elim
      | some x =>
        cases x with
        | own l => rw [q] at p; exact p.elim
        | rv r => rw [q] at p; exact p.elim
        | lt l =>
          rw [q] at p
          obtain ⟨v, hs, a, xs, rfl, hz, hd⟩ := er.at_ i _ q
          exact ⟨_, hs, p g H (.refl ok) a xs hz hd⟩
theorem ER.setLt {K : PySem.W.Frag} {mg : Str → Option Value} {g : G} {H : Hp} {σ : St} {env : DEnv} (e : ER K mg g H σ env) {i : Nat} {a : Addr} {xs : List V} {l : List D} (hz : g.Z a = some (.tup xs)) (hd : RpAll K g.Z xs l) : ER K mg g H (σ.set i (some (.ref a))) (env.set i (some (.lt l))) := by
  refine ⟨by simp [e.len], fun j x h => ?_, fun j k lj lk w hjk h1 h2 h3 h4 => ?_⟩
  · by_cases hj : i = j
    · subst hj
      have hl : i < env.length := by
        rcases Nat.lt_or_ge i env.length with q | q
        · exact q
        · rw [List.getElem?_eq_none (by simpa using q)] at h; cases h
      rw [List.getElem?_set_self hl] at h
      cases h
      exact ⟨.ref a, List.getElem?_set_self (by rw [e.len]; exact hl), a, xs, rfl, hz, hd⟩
    · rw [List.getElem?_set_ne hj] at h ⊢
      exact e.at_ j x h
  · have ne : ∀ {j lj}, (env.set i (some (.lt l)))[j]? = some (some (.own lj)) → i ≠ j := fun {j lj} h q => by
      subst q
      have hl : i < env.length := by
        rcases Nat.lt_or_ge i env.length with q | q
        · exact q
        · rw [List.getElem?_eq_none (by simpa using q)] at h; cases h
      rw [List.getElem?_set_self hl] at h; cases h
    have n1 := ne h1
    have n2 := ne h2
    rw [List.getElem?_set_ne n1] at h1 h3
    rw [List.getElem?_set_ne n2] at h2 h4
    exact e.apart j k lj lk w hjk h1 h2 h3 h4
theorem FR.setLt {K : PySem.W.Frag} {mg : Str → Option Value} {g g1 : G} {s s1 : S} {H H1 : Hp} {σ : St} {env : DEnv} {i : Nat} {a : Addr} {xs : List V} {l : List D} (f : FR K mg g0 H0 g s H σ env) (t : Step K mg g H g1 s1 H1) (hz : g1.Z a = some (.tup xs)) (hd : RpAll K g1.Z xs l) :
    FR K mg g0 H0 g1 s1 H1 (σ.set i (some (.ref a))) (env.set i (some (.lt l))) := by
  have f1 := f.step t
  refine ⟨f1.st, f1.er.setLt hz hd, fun j lj b h1 h2 => ?_⟩
  by_cases hj : i = j
  · subst hj
    have hl : i < env.length := by
      rcases Nat.lt_or_ge i env.length with q | q
      · exact q
      · rw [List.getElem?_eq_none (by simpa using q)] at h1; cases h1
    rw [List.getElem?_set_self hl] at h1; cases h1
  · rw [List.getElem?_set_ne hj] at h1 h2
    exact f1.own j lj b h1 h2
/-- name = a live tuple -/
def sLt (i : Nat) (m : DEnv → DM (List D)) : DEnv → DM Fl := fun env => bnd (m env) fun l => ret (.nx (env.set i (some (.lt l))))
theorem ds_setLt {i : Nat} (hN : X.N.Nodup) (h : DLt X fld E e ml) (hi : X.N[i]? = some x := by rfl) (hx : Loc X.env.scope x := by first | exact Or.inl rfl | exact Or.inr rfl) (hs : swapsWith e (some (.Name x pos')) pos.line X.env = pure false := by rfl)
    (hf : X.fn x = true ∨ X.env.scope.names.lookup x = some .local := by first | exact .inl rfl | exact .inr rfl | assumption) : DS X fld E g0 H0 (.Assign [.Name x pos'] e pos) (sLt i ml) :=
  psImp (ps_set hN hi hx h hs hf) fun Dd σ H q => by
    obtain ⟨g, s, env, f, p⟩ := q
    refine ⟨g, s, env, f.ok, f.er, ?_⟩
    unfold sLt bnd at p
    cases q : ml env s with
    | bad => rw [q] at p; exact p
    | exc e s' => rw [q] at p; exact exc_up f p
    | ok l s' =>
      rw [q] at p
      intro g1 H1 t1 a xs hz hd
      exact p g1 H1 _ (f.setLt t1 hz hd) t1.sub

/-! ### dicts -/
def keyD : D → Option Key
  | .int i => some (.inl i)
  | .str x => some (.inr x)
  | _ => none
def keysD : List D → Option (List Key)
  | [] => some []
  | d :: l => match keyD d, keysD l with
    | some k, some ks => some (k :: ks)
    | _, _ => none
theorem keyD_rep {K : PySem.W.Frag} {Z : Hp} {v : V} {d : D} {k : Key} (r : Rp K Z v d) (h : keyD d = some k) : v = kV k := by
  cases r with
  | int i => cases h; rfl
  | str x => cases h; rfl
  | _ => cases h
theorem keysD_rep {K : PySem.W.Frag} {Z : Hp} : ∀ {l : List D} {xs : List V} {ks : List Key}, RpAll K Z xs l → keysD l = some ks → xs = ks.map kV
  | [], _, _, r, h => by cases r; cases h; rfl
  | d :: l, _, ks, r, h => by
    cases r with
    | cons r1 r2 =>
      unfold keysD at h
      cases q1 : keyD d with
      | none => rw [q1] at h; cases h
      | some k =>
        cases q2 : keysD l with
        | none => rw [q1, q2] at h; cases h
        | some ks' =>
          rw [q1, q2] at h
          cases h
          rw [keyD_rep r1 q1, keysD_rep r2 q2]; rfl
variable {κ : Type} [DecidableEq κ]
def lookV (kvs : List (κ × RV)) (k : κ) : Option RV := match kvs with
  | [] => none
  | p :: r => if p.1 = k then some p.2 else lookV r k
def putV (kvs : List (κ × RV)) (k : κ) (v : RV) : List (κ × RV) :=
  if (kvs.any fun kv => decide (kv.1 = k)) = true then kvs.map (fun kv => if kv.1 = k then (kv.1, v) else kv) else kvs ++ [(k, v)]
theorem lookV_rep {K : PySem.W.Frag} {mg : Str → Option Value} {g : G} {k : κ} : ∀ {kvs : List (κ × RV)} {vs : List (κ × V)}, Paired (fun p q => p.1 = q.1 ∧ RepV K mg g p.2 q.2) vs kvs →
    (∀ r, lookV kvs k = some r → ∃ v, valV vs k = some v ∧ RepV K mg g v r) ∧ (lookV kvs k = none → valV vs k = none)
  | [], _, h => by cases h; exact ⟨fun r e => (by cases e), fun _ => rfl⟩
  | (y, r0) :: kvs, _, h => by
    cases h with
    | @cons p _ vs _ h1 h2 =>
      obtain ⟨z, w⟩ := p
      obtain ⟨q1, q2⟩ := h1
      dsimp only at q1 q2
      subst q1
      obtain ⟨i1, i2⟩ := lookV_rep (k := k) h2
      by_cases hk : z = k
      · refine ⟨fun r e => ?_, fun e => ?_⟩
        · unfold lookV at e; rw [if_pos hk] at e; cases e
          exact ⟨w, valV_pos hk, q2⟩
        · unfold lookV at e; rw [if_pos hk] at e; cases e
      · refine ⟨fun r e => ?_, fun e => ?_⟩
        · unfold lookV at e; rw [if_neg hk] at e
          obtain ⟨v, e1, e2⟩ := i1 r e
          exact ⟨v, (valV_neg hk).trans e1, e2⟩
        · unfold lookV at e; rw [if_neg hk] at e
          exact (valV_neg hk).trans (i2 e)
theorem putV_rep {K : PySem.W.Frag} {mg : Str → Option Value} {g : G} {k : κ} {v : V} {r : RV} (hv : RepV K mg g v r) {kvs : List (κ × RV)} {vs : List (κ × V)} (h : Paired (fun p q => p.1 = q.1 ∧ RepV K mg g p.2 q.2) vs kvs) :
    Paired (fun p q => p.1 = q.1 ∧ RepV K mg g p.2 q.2) (putK vs k v) (putV kvs k r) := by
  have ha : (vs.any fun kv => decide (kv.1 = k)) = (kvs.any fun kv => decide (kv.1 = k)) := by
    induction h with
    | nil => rfl
    | cons q _ ih => rw [List.any_cons, List.any_cons, ih, q.1]
  unfold putK putV
  rw [ha]
  split
  · rename_i hh
    clear hh ha
    induction h with
    | nil => exact .nil
    | @cons p q _ _ hq _ ih =>
      rw [List.map_cons, List.map_cons]
      refine .cons ?_ ih
      by_cases hk : p.1 = k
      · rw [if_pos hk, if_pos (hq.1 ▸ hk)]; exact ⟨hq.1, hv⟩
      · rw [if_neg hk, if_neg (fun z => hk (hq.1.trans z))]; exact hq
  · exact pairedApp h (.cons ⟨rfl, hv⟩ .nil)
/-- the dict r, with tuple keys; with keys that are ints, texts -/
def dctTAt (r : RV) : DM (List (List Key × RV)) := match r with
  | .box n => fun s => match s[n]? with
    | some (.dctT l) => .ok l s
    | _ => .bad
  | _ => bad
def dctAt (r : RV) : DM (List (Key × RV)) := match r with
  | .box n => fun s => match s[n]? with
    | some (.dct l) => .ok l s
    | _ => .bad
  | _ => bad
theorem dctT_post {α : Type} {K : PySem.W.Frag} {mg : Str → Option Value} {g : G} {s : S} {H : Hp} {r : RV} {F : List (List Key × RV) → DM α} {k} (h : Post K mg fld E g H (bnd (dctTAt r) F s) k) : ∃ n l, r = .box n ∧ s[n]? = some (.dctT l) ∧ Post K mg fld E g H (F l s) k := by
  cases r with
  | d x => exact h.elim
  | fn x => exact h.elim
  | box n =>
    cases q : s[n]? with
    | none =>
      have e : dctTAt (.box n) s = .bad := by unfold dctTAt; dsimp only; rw [q]
      rw [bnd_bad e] at h; exact h.elim
    | some c =>
      cases c with
      | dctT l =>
        have e : dctTAt (.box n) s = .ok l s := by unfold dctTAt; dsimp only; rw [q]
        rw [bnd_ok e] at h; exact ⟨n, l, rfl, q, h⟩
      | _ =>
        have e : dctTAt (.box n) s = .bad := by unfold dctTAt; dsimp only; rw [q]
        rw [bnd_bad e] at h; exact h.elim
theorem dct_post {α : Type} {K : PySem.W.Frag} {mg : Str → Option Value} {g : G} {s : S} {H : Hp} {r : RV} {F : List (Key × RV) → DM α} {k} (h : Post K mg fld E g H (bnd (dctAt r) F s) k) : ∃ n l, r = .box n ∧ s[n]? = some (.dct l) ∧ Post K mg fld E g H (F l s) k := by
  cases r with
  | d x => exact h.elim
  | fn x => exact h.elim
  | box n =>
    cases q : s[n]? with
    | none =>
      have e : dctAt (.box n) s = .bad := by unfold dctAt; dsimp only; rw [q]
      rw [bnd_bad e] at h; exact h.elim
    | some c =>
      cases c with
      | dct l =>
        have e : dctAt (.box n) s = .ok l s := by unfold dctAt; dsimp only; rw [q]
        rw [bnd_ok e] at h; exact ⟨n, l, rfl, q, h⟩
      | _ =>
        have e : dctAt (.box n) s = .bad := by unfold dctAt; dsimp only; rw [q]
        rw [bnd_bad e] at h; exact h.elim
/-- d.get(k, x), tuple keys -/
def eDGet2T (md : DEnv → DM RV) (mk : DEnv → DM (List D)) (mx : DEnv → DM RV) : DEnv → DM RV := fun env => bnd (md env) fun r => bnd (dctTAt r) fun _ => bnd (mk env) fun l => bnd (mx env) fun z => bnd (dctTAt r) fun kvs => optM (keysD l) fun ks => ret ((lookV kvs ks).getD z)
theorem de_dget2T {e2 f : Expr} (hu : X.A.units + 1 < cLine) (hd : DE X fld E o md) (hk : DLt X fld E e2 ml) (hx : DE X fld E f mx) (m : M2 X o "get" apos e2 f cpos) : DE X fld E (.Call (.Attribute o "get" apos) [e2, f] [] cpos) (eDGet2T md ml mx) :=
  peImp (pe_dget2 hu hd hk hx m) fun σ H Q ⟨g, s, env, ok, er, p⟩ => by
    refine ⟨g, s, env, ok, er, p.bind.mono fun g1 s1 H1 r t1 p1 v rv => ?_⟩
    obtain ⟨n, kvs, rfl, hn, p2⟩ := dctT_post p1
    obtain ⟨a, hP, rfl⟩ := rv
    obtain ⟨_, vs, hH, hvs⟩ := t1.ok.box n a _ hP hn
    refine ⟨a, rfl, .inr ⟨_, .inl hH⟩, g1, s1, env, t1.ok, er.step t1, p2.bind.mono fun g2 s2 H2 l t2 p3 b xs hz hxs => ?_⟩
    refine ⟨g2, s2, env, t2.ok, (er.step t1).step t2, p3.bind.mono fun g3 s3 H3 z t3 p4 w rw' => ?_⟩
    obtain ⟨n', kvs2, en, hn2, p5⟩ := dctT_post p4
    cases en
    have hP3 : g3.P[n]? = some a := by
      obtain ⟨r1, e1, _⟩ := t2.p
      obtain ⟨r2, e2, _⟩ := t3.p
      have hl := (List.getElem?_eq_some_iff.mp hP).1
      rw [e2, e1, List.append_assoc, List.getElem?_append_left hl]; exact hP
    obtain ⟨_, vs2, hH2, hvs2⟩ := t3.ok.box n a _ hP3 hn2
    obtain ⟨ks, eks, p6⟩ := optM_post p5
    have ex := keysD_rep hxs eks
    obtain ⟨l1, l2⟩ := lookV_rep (k := ks) hvs2
    have hb : H3 b = some (.tup (ks.map kV)) := by rw [← ex]; exact t3.ok.z b _ (t3.z b _ hz)
    refine ⟨_, .inr ⟨_, ks, b, .inl hH2, rfl, hb, rfl⟩, ?_⟩
    cases q : lookV kvs2 ks with
    | none => rw [l2 q]; rw [q] at p6; exact post_ret t3.ok p6 w rw'
    | some r =>
      obtain ⟨u, e1, e2⟩ := l1 r q
      rw [e1]; rw [q] at p6; exact post_ret t3.ok p6 u e2
/-- d[k] = v, tuple keys -/
def setDT (r : RV) (kvs : List (List Key × RV)) (env : DEnv) : DM Fl := match r with
  | .box n => fun s => .ok (.nx env) (s.set n (.dctT kvs))
  | _ => bad
def optFl {α : Type} (o : Option α) (f : α → DM Fl) : DM Fl := optF o f
def sDPutT (md : DEnv → DM RV) (mk : DEnv → DM (List D)) (mv : DEnv → DM RV) : DEnv → DM Fl := fun env => bnd (mv env) fun v => bnd (md env) fun r => bnd (mk env) fun l => bnd (dctTAt r) fun kvs => optF (keysD l) fun ks => bnd (guardM (decide (kvs.length < sizeLine))) fun _ => setDT r (putV kvs ks v) env
theorem ds_dputT {e2 : Expr} (hu : X.A.units + 1 < cLine) (hd : DE X fld E o md) (hk : DLt X fld E e2 ml) (hv : DE X fld E value mv) (hs : swapsWith value (some (.Subscript o e2 pos')) pos.line X.env = pure false := by rfl) :
    DS X fld E g0 H0 (.Assign [.Subscript o e2 pos'] value pos) (sDPutT md ml mv) :=
  psImp (ps_dput hu hd hk hv hs) fun Dd σ H ⟨g, s, env, fr, pp⟩ => by
    refine ⟨g, s, env, fr.ok, fr.er, ?_⟩
    unfold sDPutT at pp
    cases q : mv env s with
    | bad => rw [bnd_bad q] at pp; exact pp.elim
    | exc e s1 => rw [bnd_exc q] at pp; exact exc_up fr pp
    | ok y s1 =>
      rw [bnd_ok q] at pp
      intro g1 H1 t1 v rv
      have f1 := fr.step t1
      refine ⟨g1, s1, env, t1.ok, f1.er, ?_⟩
      cases q2 : md env s1 with
      | bad => rw [bnd_bad q2] at pp; exact pp.elim
      | exc e s2 => rw [bnd_exc q2] at pp; exact exc_up f1 pp
      | ok r s2 =>
        rw [bnd_ok q2] at pp
        intro g2 H2 t2 w rw'
        have f2 := f1.step t2
        refine ⟨g2, s2, env, t2.ok, f2.er, ?_⟩
        cases q3 : ml env s2 with
        | bad => rw [bnd_bad q3] at pp; exact pp.elim
        | exc e s3 => rw [bnd_exc q3] at pp; exact exc_up f2 pp
        | ok l s3 =>
          rw [bnd_ok q3] at pp
          intro g3 H3 t3 b xs hz hxs
          have f3 := f2.step t3
          have hr : ∃ n kvs ks, r = .box n ∧ s3[n]? = some (.dctT kvs) ∧ keysD l = some ks ∧ kvs.length < sizeLine ∧ PostS X.K X.mg fld E g0 H0 g (Out.ok (Fl.nx env) (s3.set n (.dctT (putV kvs ks y)))) Dd := by
            cases r with
            | d x => exact pp.elim
            | fn x => exact pp.elim
            | box n =>
              cases qn : s3[n]? with
              | none =>
                have e0 : dctTAt (.box n) s3 = .bad := by unfold dctTAt; dsimp only; rw [qn]
                rw [bnd_bad e0] at pp; exact pp.elim
              | some c0 =>
                cases c0 with
                | dctT kvs =>
                  have e0 : dctTAt (.box n) s3 = .ok kvs s3 := by unfold dctTAt; dsimp only; rw [qn]
                  rw [bnd_ok e0] at pp
                  obtain ⟨ks, ek, pp⟩ := optF_postS pp
                  cases hz : decide (kvs.length < sizeLine) with
                  | false => rw [hz] at pp; exact pp.elim
                  | true => rw [hz] at pp; exact ⟨n, kvs, ks, rfl, qn, ek, of_decide_eq_true hz, pp⟩
                | _ =>
                  have e0 : dctTAt (.box n) s3 = .bad := by unfold dctTAt; dsimp only; rw [qn]
                  rw [bnd_bad e0] at pp; exact pp.elim
          obtain ⟨n, kvs, ks, rfl, hn, ek, hl, pp⟩ := hr
          obtain ⟨a, hP, rfl⟩ := rw'.step t3
          obtain ⟨_, vs, hH, hvs⟩ := t3.ok.box n a _ hP hn
          have ex := keysD_rep hxs ek
          have hb : H3 b = some (.tup (ks.map kV)) := by rw [← ex]; exact t3.ok.z b _ hz
          have st := Step.cellSet (o := .dT (putK vs ks v)) (c' := .dctT (putV kvs ks y)) t3.ok hP hn ⟨_, upd_same, putV_rep (RepV.step t3 (RepV.step t2 rv)) hvs⟩
          refine ⟨a, _, rfl, .inr ⟨vs, ks, b, hH, rfl, hb, by rw [Paired.length hvs]; exact hl, rfl⟩, ?_⟩
          exact pp g3 _ σ (f3.step st) (Sub.trans t1.sub (Sub.trans t2.sub t3.sub))
/-- {} : a new dict with tuple keys -/
def eDNewT : DEnv → DM RV := fun _ s => .ok (.box s.length) (s ++ [.dctT []])
theorem de_dnewT : DE X fld E (.Dict [] [] pos) eDNewT :=
  peImp pe_dnewT fun σ H Q ⟨g, s, env, ok, er, p⟩ => by
    intro a ha
    have t1 := Step.newH (o := .dT []) ok ha
    have za : g.Z a = none := by
      cases q : g.Z a with
      | none => rfl
      | some o => rw [ok.z _ _ q] at ha; cases ha
    have pa : a ∉ g.P := fun hm => by
      obtain ⟨o, e, _⟩ := ok.there hm
      rw [ha] at e; cases e
    have t2 := t1.cellNew (c := .dctT []) ha za pa ⟨[], upd_same, .nil⟩
    exact p _ _ t2 _ ⟨a, box_at ok, rfl⟩
def eDNewK : DEnv → DM RV := fun _ s => .ok (.box s.length) (s ++ [.dct []])
theorem de_dnewK : DE X fld E (.Dict [] [] pos) eDNewK :=
  peImp pe_dnewK fun σ H Q ⟨g, s, env, ok, er, p⟩ => by
    intro a ha
    have t1 := Step.newH (o := .dK []) ok ha
    have za : g.Z a = none := by
      cases q : g.Z a with
      | none => rfl
      | some o => rw [ok.z _ _ q] at ha; cases ha
    have pa : a ∉ g.P := fun hm => by
      obtain ⟨o, e, _⟩ := ok.there hm
      rw [ha] at e; cases e
    have t2 := t1.cellNew (c := .dct []) ha za pa ⟨[], upd_same, .nil⟩
    exact p _ _ t2 _ ⟨a, box_at ok, rfl⟩
end
end DL
namespace DL
open PySem PySem.Spec L2
open PyProof.Rows hiding St

/-! ### dicts of the module with texts as keys, never written behind the top -/
structure KDctG (K : PySem.W.Frag) (w : World) (mg : Str → Option Value) (x : Str) (tbl : List (Str × D)) : Prop where
  ex : ∃ a, mg x = some (.ref a) ∧ ∀ z d, tbl.lookup z = some d → ∃ v, KDct K w a z v ∧ ∀ Z, Rp K Z v d
def chkKeys (K : PySem.W.Frag) (a : Addr) (tbl : List (Str × D)) : Bool := tbl.all fun p => match PySem.W.nsIn K a p.1 with
  | some (some u) => chkD K p.2 u
  | _ => false
theorem lookup_mem' {α : Type} {z : Str} {d : α} : ∀ {l : List (Str × α)}, l.lookup z = some d → (z, d) ∈ l
  | [], h => by cases h
  | (y, e) :: l, h => by
    rw [List.lookup_cons] at h
    by_cases q : (z == y) = true
    · rw [q] at h
      cases h
      rw [eq_of_beq q]
      exact List.mem_cons_self ..
    · rw [Bool.not_eq_true] at q
      rw [q] at h
      exact List.mem_cons_of_mem _ (lookup_mem' h)
theorem kdctG {K : PySem.W.Frag} {w : World} {mg : Str → Option Value} {h : Heap} {x : Str} {a : Addr} {es : Array DictEntry} {n : Nat} {tbl : List (Str × D)} (KX : K.In h) (G : h.Ns mainGlobals mg) (e : PySem.W.nsIn K mainGlobals x = some (some (.ref a)))
    (l : K.lookup a = some ⟨.type "dict", none, .dict es n, #[]⟩) (hk : PySem.W.KeysLit w.params es.toList) (c : chkKeys K a tbl = true) : KDctG K w mg x tbl := by
  refine ⟨a, PySem.W.mg_of KX G e, fun z d hz => ?_⟩
  have hc := List.all_eq_true.mp c _ (lookup_mem' hz)
  dsimp only at hc
  cases q : PySem.W.nsIn K a z with
  | none => rw [q] at hc; cases hc
  | some o =>
    rw [q] at hc
    cases o with
    | none => cases hc
    | some u =>
      obtain ⟨v, r, hv⟩ := chkD_ok d u hc
      exact ⟨v, ⟨es, n, u, l, hk, q, r⟩, hv⟩
section
variable {X : Cx} {fld : Str → Str} {E : XK} {pos p : Pos} {b : Expr} {mb : DEnv → DM RV} {x : Str} {tbl : List (Str × D)}
def strM (y : RV) (f : Str → DM RV) : DM RV := match y with
  | .d (.str z) => f z
  | _ => bad
def eKDct (tbl : List (Str × D)) (mb : DEnv → DM RV) : DEnv → DM RV := fun env => bnd (mb env) fun y => strM y fun z => optM (tbl.lookup z) fun d => ret (.d d)
theorem de_kdct (hg : Gl X x) (h : KDctG X.K X.w X.mg x tbl) (hb : DE X fld E b mb) (h1 : (x == ("__debug__" : Str)) = false := by decide) (hs : PlainIx b := by exact fun _ _ => rfl) : DE X fld E (.Subscript (.Name x p) b pos) (eKDct tbl mb) := by
  obtain ⟨a, hm, hv⟩ := h.ex
  refine peImp (pe_ix ix_kdict (pe_glob (v := .ref a) hg hm rfl h1) hb hs) fun σ H Q ⟨g, s, env, ok, er, pp⟩ => ?_
  refine ⟨g, s, env, ok, er, pp.bind.mono fun g1 s1 H1 r t1 p1 v rv => ?_⟩
  cases r with
  | box n => exact p1.elim
  | fn n => exact p1.elim
  | d y =>
    cases y with
    | str z =>
      cases rv
      have p2 : Post X.K X.mg fld E g1 H1 (optM (tbl.lookup z) (fun d => ret (.d d)) s1) (K0 X.K X.mg Q) := p1
      obtain ⟨d, ed, p3⟩ := optM_post p2
      obtain ⟨u, k, hr⟩ := hv z d ed
      exact ⟨a, z, u, rfl, rfl, k, post_ret t1.ok p3 u (hr _)⟩
    | _ => exact p1.elim
end
end DL
namespace DL
open PySem PySem.Spec L2
open PyProof.Rows hiding St

/-- for what gen.py prints: facts of each of some classes -/
theorem allC_nil {P : Str → Prop} : ∀ c ∈ ([] : List Str), P c := fun c h => absurd h (by simp)
theorem allC_cons {P : Str → Prop} {x : Str} {l : List Str} (h : P x) (r : ∀ c ∈ l, P c) : ∀ c ∈ x :: l, P c := fun c hc => by
  rcases List.mem_cons.mp hc with e | hc
  · subst e; exact h
  · exact r c hc
/-- a def whose mirror tells nothing: every promise is kept -/
theorem DFn.none {P : Program} {w : World} {K : PySem.W.Frag} {mg : Str → Option Value} {base : Heap} {fld : Str → Str} {k : Nat} {f : Addr} {fd : FuncData} {ps : List Str} : DFn P w K mg base fld k f fd ps fun _ => bad :=
  ⟨fun A outer s H args us vs Q E hr hgd e0 hb r hl hsp => by
    obtain ⟨g, s0, rs, ok, rr, p⟩ := hsp
    exact p.elim⟩
theorem DFn.up {P : Program} {w : World} {K : PySem.W.Frag} {mg : Str → Option Value} {base : Heap} {fld : Str → Str} {j k : Nat} {f : Addr} {fd : FuncData} {ps : List Str} {m : List RV → DM RV} (F : DFn P w K mg base fld j f fd ps m) (h : j ≤ k) : DFn P w K mg base fld k f fd ps m := FnG.mono F h
/-- a class's method, of the i-th statement of the text the j-th -/
def methOf (s : Stmt) (j : Nat) : Stmt := match s with
  | .ClassDef _ _ _ body _ _ _ _ _ _ _ => body.getD j (.Pass ⟨0, 0, 0, 0⟩)
  | _ => .Pass ⟨0, 0, 0, 0⟩
theorem hu1 {k : Nat} {A : Around} (h : Room k A) : A.units + 1 < cLine := by have := h.un; omega
end DL
namespace DL
open PySem PySem.Spec L2
open PyProof.Rows hiding St

/-! ### a call that is handed data and gives data needs nothing of the things that may change -/
def noBox : List RV → Bool
  | [] => true
  | .box _ :: _ => false
  | _ :: l => noBox l
def frmO (o : Out RV) (s : S) : Out RV := match o with
  | .ok (.d v) _ => .ok (.d v) s
  | .exc e _ => .exc e s
  | _ => .bad
def frm (m : List RV → DM RV) : List RV → DM RV := fun rs s => if noBox rs = true then frmO (m rs []) s else .bad
theorem noBox_rep {K : PySem.W.Frag} {mg : Str → Option Value} {g g' : G} (hz : g'.Z = g.Z) : ∀ {rs : List RV} {vs : List V}, noBox rs = true → Paired (RepV K mg g) vs rs → Paired (RepV K mg g') vs rs
  | [], _, _, h => by cases h; exact .nil
  | .box n :: rs, _, h, _ => by cases h
  | .d x :: rs, _, h, r => by
    cases r with
    | cons r1 r2 => exact .cons (show Rp K g'.Z _ x by rw [hz]; exact r1) (noBox_rep hz h r2)
  | .fn x :: rs, _, h, r => by
    cases r with
    | cons r1 r2 => exact .cons r1 (noBox_rep hz h r2)
theorem Step.unframe {K : PySem.W.Frag} {mg : Str → Option Value} {g g1 : G} {s s1 : S} {H H1 : Hp} (ok : GOk K mg g s H) (t : Step K mg ⟨g.Z, []⟩ H g1 s1 H1) : Step K mg g H ⟨g1.Z, g.P⟩ s H1 := by
  have keep : ∀ a o, H a = some o → H1 a = some o := fun a o h => t.keep a o h (by simp)
  refine ⟨⟨t.ok.z, ok.len, ok.nd, fun i a c h1 h2 => ?_⟩, t.z, fun a o h n _ => t.zold a o h n (by simp), ⟨[], by simp, fun _ h => absurd h (by simp)⟩, fun a o h _ => keep a o h⟩
  obtain ⟨n, cc⟩ := ok.box i a c h1 h2
  obtain ⟨o, e, _⟩ := cc.isCell
  refine ⟨fun ql => t.zold a o e (n ql) (by simp), cc.keep (fun v r q => RepV.le (g := g) (g1 := ⟨g1.Z, g.P⟩) t.z ⟨[], by simp⟩ q) (fun _ q => keep _ _ q) (fun _ _ q => keep _ _ q) fun _ q => t.z _ _ q⟩
theorem DFn.frame {P : Program} {w : World} {K : PySem.W.Frag} {mg : Str → Option Value} {base : Heap} {fld : Str → Str} {k : Nat} {f : Addr} {fd : FuncData} {ps : List Str} {m : List RV → DM RV} (F : DFn P w K mg base fld k f fd ps m) : DFn P w K mg base fld k f fd ps (frm m) :=
  ⟨fun A outer s H args us vs Q E hr hgd e0 hb r hl hsp => by
    refine F.run A outer s H args us vs Q E hr hgd e0 hb r hl ?_
    obtain ⟨g, sd, rs, ok, rr, p⟩ := hsp
    unfold frm at p
    by_cases hn : noBox rs = true
    · rw [if_pos hn] at p
      refine ⟨⟨g.Z, []⟩, [], rs, ⟨ok.z, rfl, List.nodup_nil, fun i a c h1 _ => by simp at h1⟩, noBox_rep (g := g) (g' := ⟨g.Z, []⟩) rfl hn rr, ?_⟩
      cases q : m rs [] with
      | bad => rw [q] at p; exact p
      | exc e s1 =>
        rw [q] at p
        intro g1 H1 cls od t ex
        refine p ⟨g1.Z, g.P⟩ H1 cls od (t.unframe ok) ?_
        obtain ⟨C, a, v, h1, h2, h3, h4, h5⟩ := ex
        exact ⟨C, a, v, h1, h2, h3, h4, h5⟩
      | ok x s1 =>
        rw [q] at p
        cases x with
        | box n => exact p.elim
        | fn n => exact p.elim
        | d x => exact fun g1 H1 t v rv => p ⟨g1.Z, g.P⟩ H1 (t.unframe ok) v rv
    · rw [if_neg hn] at p; exact p.elim⟩
end DL
namespace DL
open PySem PySem.Spec L2
open PyProof.Rows hiding St

/-! ### outcomes compared in the kernel -/
mutual
def beqD : D → D → Bool
  | .none, .none => true
  | .bool a, .bool b => a == b
  | .int a, .int b => decide (a = b)
  | .str a, .str b => decide (a = b)
  | .list a, .list b => beqDs a b
  | .tuple a, .tuple b => beqDs a b
  | _, _ => false
def beqDs : List D → List D → Bool
  | [], [] => true
  | x :: xs, y :: ys => beqD x y && beqDs xs ys
  | _, _ => false
end
mutual
theorem beqD_eq : ∀ (a b : D), beqD a b = true → a = b
  | .none, b, h => by cases b <;> first | rfl | (unfold beqD at h; cases h)
  | .bool a, b, h => by
    cases b with
    | bool c => unfold beqD at h; rw [eq_of_beq h]
    | _ => unfold beqD at h; cases h
  | .int a, b, h => by
    cases b with
    | int c => unfold beqD at h; rw [of_decide_eq_true h]
    | _ => unfold beqD at h; cases h
  | .str a, b, h => by
    cases b with
    | str c => unfold beqD at h; rw [of_decide_eq_true h]
    | _ => unfold beqD at h; cases h
  | .list a, b, h => by
    cases b with
    | list c => unfold beqD at h; rw [beqDs_eq a c h]
    | _ => unfold beqD at h; cases h
  | .tuple a, b, h => by
    cases b with
    | tuple c => unfold beqD at h; rw [beqDs_eq a c h]
    | _ => unfold beqD at h; cases h
  | .dict a, b, h => by cases b <;> (unfold beqD at h; cases h)
theorem beqDs_eq : ∀ (a b : List D), beqDs a b = true → a = b
  | [], b, h => by
    cases b with
    | nil => rfl
    | cons y ys => unfold beqDs at h; cases h
  | x :: xs, b, h => by
    cases b with
    | nil => unfold beqDs at h; cases h
    | cons y ys =>
      unfold beqDs at h
      have z := Bool.and_eq_true_iff.mp h
      rw [beqD_eq x y z.1, beqDs_eq xs ys z.2]
end
/-- the mirror, from the empty state, gives just v -/
def gives (m : List RV → DM RV) (rs : List RV) (v : D) : Bool := match m rs [] with
  | .ok (.d x) _ => beqD x v
  | _ => false
theorem frm_gives {m : List RV → DM RV} {rs : List RV} {v : D} {s : S} (hb : noBox rs = true) (h : gives m rs v = true) : frm m rs s = .ok (.d v) s := by
  unfold frm
  rw [if_pos hb]
  unfold gives at h
  cases q : m rs [] with
  | bad => rw [q] at h; cases h
  | exc e s1 => rw [q] at h; cases h
  | ok r s1 =>
    rw [q] at h
    cases r with
    | d x => rw [beqD_eq x v h]; rfl
    | box n => cases h
    | fn n => cases h
end DL
namespace DL
open PySem PySem.Spec L2
open PyProof.Rows hiding St

/-! ### data of which repr can be told, by a look in the kernel -/
mutual
def okb : D → Bool
  | .none => true
  | .bool _ => true
  | .int i => decide (i.natAbs < 2 ^ 63)
  | .str x => Nat.ble (PyData.str x).shown.length 1000
  | .list l => okbs l
  | .tuple l => okbs l
  | .dict _ => false
def okbs : List D → Bool
  | [] => true
  | x :: l => okb x && okbs l
end
mutual
theorem okb_ok : ∀ d : D, okb d = true → OkR d
  | .none, _ => by unfold OkR; trivial
  | .bool _, _ => by unfold OkR; trivial
  | .int i, h => by unfold okb at h; unfold OkR; exact of_decide_eq_true h
  | .str x, h => by unfold okb at h; unfold OkR; exact Nat.le_of_ble_eq_true h
  | .list l, h => by unfold okb at h; unfold OkR; exact okbs_ok l h
  | .tuple l, h => by unfold okb at h; unfold OkR; exact okbs_ok l h
  | .dict _, h => by unfold okb at h; cases h
theorem okbs_ok : ∀ l : List D, okbs l = true → OkRAll l
  | [], _ => by unfold OkRAll; trivial
  | x :: l, h => by
    unfold okbs at h
    have z := Bool.and_eq_true_iff.mp h
    unfold OkRAll
    exact ⟨okb_ok x z.1, okbs_ok l z.2⟩
end
theorem okT {l : List D} (h : OkRAll l) : OkR (.tuple l) := by unfold OkR; exact h
theorem okL {l : List D} (h : OkRAll l) : OkR (.list l) := by unfold OkR; exact h
theorem okI {i : Int} (h : i.natAbs < 2 ^ 63) : OkR (.int i) := by unfold OkR; exact h
theorem okN : OkRAll [] := by unfold OkRAll; trivial
theorem okC {x : D} {l : List D} (h : OkR x) (r : OkRAll l) : OkRAll (x :: l) := by unfold OkRAll; exact ⟨h, r⟩
/-- a word below n, all of them looked at -/
theorem below {n : Nat} {p : Nat → Bool} (h : (List.range n).all p = true) {w : Int} (h1 : 0 ≤ w) (h2 : w < n) : p w.toNat = true ∧ ((w.toNat : Nat) : Int) = w :=
  ⟨List.all_eq_true.mp h _ (List.mem_range.mpr (by omega)), by omega⟩
end DL
namespace DL
open PySem PySem.Spec L2
open PyProof.Rows hiding St

/-! ### dicts whose keys are ints and texts; reads and writes of what may be data, a list or a dict -/
section
variable {K : PySem.W.Frag} {mg : Str → Option Value} {fld : Str → Str} {E : XK} {g : G} {s : S} {H : Hp}
theorem dct_rep {n : Nat} {l : List (Key × RV)} {v : V} (ok : GOk K mg g s H) (rv : RepV K mg g v (.box n)) (hn : s[n]? = some (.dct l)) :
    ∃ a vs, v = .ref a ∧ g.P[n]? = some a ∧ H a = some (.dK vs) ∧ Paired (fun p q => p.1 = q.1 ∧ RepV K mg g p.2 q.2) vs l := by
  obtain ⟨a, ha, rfl⟩ := rv
  obtain ⟨_, vs, h1, h2⟩ := ok.box n a _ ha hn
  exact ⟨a, vs, rfl, ha, h1, h2⟩
def onK (y : RV) (f : Key → DM RV) : DM RV := match y with
  | .d d => optM (keyD d) f
  | _ => bad
theorem onK_post {y : RV} {f : Key → DM RV} {v : V} {k} (h : Post K mg fld E g H (onK y f s) k) (rv : RepV K mg g v y) : ∃ ky, v = kV ky ∧ Post K mg fld E g H (f ky s) k := by
  cases y with
  | box n => exact h.elim
  | fn n => exact h.elim
  | d d =>
    obtain ⟨ky, e, p⟩ := optM_post h
    exact ⟨ky, keyD_rep rv e, p⟩
end
theorem orOp {X : Cx} {f : Value → Value → Sem Value} {r r' : R2} (h : OpR X f r) (h' : OpR X f r') : OpR X f (fun x y H Q => r x y H Q ∨ r' x y H Q) := by
  intro pins s σ H x y v u Q I rx ry q
  rcases q with q | q
  · exact h pins s σ H x y v u Q I rx ry q
  · exact h' pins s σ H x y v u Q I rx ry q
theorem PSet.or {X : Cx} {t t' : TSet} (h : PSet X t) (h' : PSet X t') : PSet X (fun o i v H Q => t o i v H Q ∨ t' o i v H Q) := by
  intro pins s σ H o i v ov iv u Q I ro ri rv q
  rcases q with q | q
  · exact h pins s σ H o i v ov iv u Q I ro ri rv q
  · exact h' pins s σ H o i v ov iv u Q I ro ri rv q
def rIxK : R2 := fun x y H Q => ∃ a v, x = .ref a ∧ DGet H a y (some v) ∧ Q v H
theorem ix_dict {X : Cx} (hu : X.A.units + 1 < cLine) : IxR X rIxK := by
  intro value slice pins s σ H x y v u Q I rx ry h hs
  obtain ⟨a, w, rfl, g, q⟩ := h
  obtain rfl : v = Value.ref a := rx
  exact tail_any (dict_typeIs I g) PySem.F.slot_dict_getitem.lookup (d_getItem hu I g ry fun w' s3 I3 rw' => ⟨w, H, I3, rw', q⟩) hs
theorem set_dict {X : Cx} (hu : X.A.units + 1 < cLine) : PSet X (fun o i v H Q => ∃ a H4, o = .ref a ∧ DPut H a i v H4 ∧ Q H4) := by
  intro pins s σ H o i v ov iv u Q I ro ri rv h
  obtain ⟨a, H4, rfl, g, q⟩ := h
  obtain rfl : ov = Value.ref a := ro
  exact d_setItem hu I g ri rv fun s4 I4 => ⟨H4, I4, q⟩
def rInK (neg : Bool) : R2 := fun x y H Q => ∃ a o, y = .ref a ∧ DGet H a x o ∧ Q (.bl (o.isSome != neg)) H
theorem op_inK {X : Cx} (hu : X.A.units + 1 < cLine) : OpR X (compareOp .In) (rInK false) := by
  intro pins s σ H x y v u Q I rx ry h
  obtain ⟨a, o, rfl, g, q⟩ := h
  obtain rfl : u = Value.ref a := ry
  rw [Bool.bne_false] at q
  exact d_in hu I g rx fun s3 I3 => ⟨.bl o.isSome, H, I3, rfl, q⟩
theorem op_notInK {X : Cx} (hu : X.A.units + 1 < cLine) : OpR X (compareOp .NotIn) (rInK true) := by
  intro pins s σ H x y v u Q I rx ry h
  obtain ⟨a, o, rfl, g, q⟩ := h
  obtain rfl : u = Value.ref a := ry
  rw [Bool.bne_true] at q
  exact d_notIn hu I g rx fun s3 I3 => ⟨.bl (!o.isSome), H, I3, rfl, q⟩

section
variable {X : Cx} {fld : Str → Str} {E : XK} {g0 : G} {H0 : Hp} {pos apos cpos p : Pos} {e o a b e2 f : Expr} {mo mv ma mb md mk mx mi : DEnv → DM RV} {x : Str}
/-- a[b] of data, a list, a dict -/
def ixU (r y : RV) : DM RV := match r with
  | .d x => onD y fun y => dIx x y
  | .box n => fun s => match s[n]? with
    | some (.lst l) => onD y (fun y => lIx l y) s
    | some (.dct kvs) => onK y (fun k => optM (lookV kvs k) ret) s
    | _ => .bad
  | .fn _ => bad
def eIxU (a b : DEnv → DM RV) : DEnv → DM RV := fun env => bnd (a env) fun x => bnd (b env) fun y => ixU x y
theorem de_ixU (hu : X.A.units + 1 < cLine) (ha : DE X fld E a ma) (hb : DE X fld E b mb) (hs : PlainIx b := by exact fun _ _ => rfl) : DE X fld E (.Subscript a b pos) (eIxU ma mb) :=
  peImp (pe_ix (IxR.or (IxR.or ix_seq ix_list) (ix_dict hu)) ha hb hs) fun σ H Q ⟨g, s, env, ok, er, p⟩ => by
    refine ⟨g, s, env, ok, er, p.bind.mono fun g1 s1 H1 r t1 p1 v rv => ?_⟩
    refine ⟨g1, s1, env, t1.ok, er.step t1, p1.bind.mono fun g2 s2 H2 y t2 p2 w rw' => ?_⟩
    cases r with
    | fn _ => exact p2.elim
    | d x =>
      obtain ⟨z, rfl, p3⟩ := onD_post p2
      exact .inl (.inl (od_ix g2 s2 H2 v w x z Q t2.ok (RepV.step (mg := X.mg) (r := .d x) t2 rv) rw' p3))
    | box n =>
      have p3 : Post X.K X.mg fld E g2 H2 (match s2[n]? with
        | some (.lst l) => onD y (fun y => lIx l y) s2
        | some (.dct kvs) => onK y (fun k => optM (lookV kvs k) ret) s2
        | _ => .bad) (K0 X.K X.mg Q) := p2
      cases q : s2[n]? with
      | none => rw [q] at p3; exact p3.elim
      | some c =>
        rw [q] at p3
        cases c with
        | lst l =>
          obtain ⟨ad, xs, rfl, hP, hH, hd⟩ := box_rep t2.ok (rv.step t2) q
          obtain ⟨z, rfl, p4⟩ := onD_post p3
          cases z with
          | int k =>
            cases rw'
            have p5 : Post X.K X.mg fld E g2 H2 (optM (atI l k) ret s2) (K0 X.K X.mg Q) := p4
            obtain ⟨d, q, p6⟩ := optM_post p5
            obtain ⟨u, e1, e2⟩ := paired_atI hd q
            exact .inl (.inr ⟨ad, xs, k, u, rfl, rfl, .inl (.inl hH), e1, post_ret t2.ok p6 u e2⟩)
          | _ => exact p4.elim
        | dct kvs =>
          obtain ⟨ad, vs, rfl, hP, hH, hvs⟩ := dct_rep t2.ok (rv.step t2) q
          obtain ⟨ky, ew, p4⟩ := onK_post p3 rw'
          subst ew
          obtain ⟨r, er', p5⟩ := optM_post p4
          obtain ⟨u, e1, e2⟩ := (lookV_rep (k := ky) hvs).1 r er'
          exact .inr ⟨ad, u, rfl, by rw [← e1]; exact DGet.k hH, post_ret t2.ok p5 u e2⟩
        | _ => exact p3.elim
/-- an operator of two values, of whatever kind -/
def OpV (X : Cx) (fld : Str → Str) (E : XK) (r : R2) (F : RV → RV → DM RV) : Prop := ∀ (g : G) (s : S) (H : Hp) (v u : V) (x y : RV) (Q : VK), GOk X.K X.mg g s H → RepV X.K X.mg g v x → RepV X.K X.mg g u y →
  Post X.K X.mg fld E g H (F x y s) (K0 X.K X.mg Q) → r v u H Q
def eOpV (F : RV → RV → DM RV) (a b : DEnv → DM RV) : DEnv → DM RV := fun env => bnd (a env) fun x => bnd (b env) fun y => F x y
theorem up_opV {r : R2} {F : RV → RV → DM RV} (hr : OpV X fld E r F) : ∀ σ H Q, upE X.K X.mg fld E (eOpV F ma mb) σ H Q → tOp r (upE X.K X.mg fld E ma) (upE X.K X.mg fld E mb) σ H Q := by
  rintro σ H Q ⟨g, s, env, ok, er, p⟩
  refine ⟨g, s, env, ok, er, p.bind.mono fun g1 s1 H1 x t1 p1 v rv => ?_⟩
  refine ⟨g1, s1, env, t1.ok, er.step t1, p1.bind.mono fun g2 s2 H2 y t2 p2 u ru => ?_⟩
  exact hr g2 s2 H2 v u x y Q t2.ok (rv.step t2) ru p2
theorem de_cmpV {op : CmpOp} {r : R2} {F : RV → RV → DM RV} (ho : OpR X (compareOp op) r) (hr : OpV X fld E r F) (ha : DE X fld E a ma) (hb : DE X fld E b mb) (hm : behindInMarks op b = false := by rfl) : DE X fld E (.Compare a [op] [b] pos) (eOpV F ma mb) :=
  peImp (pe_cmpR ho ha hb hm) (up_opV hr)
theorem dt_cmpV {op : CmpOp} {r : R2} {F : RV → RV → DM RV} (ho : OpR X (compareOp op) r) (hr : OpV X fld E r F) (ha : DE X fld E a ma) (hb : DE X fld E b mb) (hm : behindInMarks op b = false := by rfl) : DT X fld E (.Compare a [op] [b] pos) (mT (eOpV F ma mb)) :=
  ptImp (pt_cmpR ho ha hb hm) fun σ H Q ⟨g, s, env, ok, er, p⟩ => by
    refine up_opV hr σ H _ ⟨g, s, env, ok, er, p.bind.mono fun g1 s1 H1 r t1 p1 v rv => ?_⟩
    obtain ⟨b, rfl, rfl, p2⟩ := asB_post rv p1
    exact ⟨b, rfl, p2 g1 H1 (.refl t1.ok)⟩
def inU (neg : Bool) (x y : RV) : DM RV := match y with
  | .d y => onD x fun x => inD neg x y
  | .box n => fun s => match s[n]? with
    | some (.lst l) => onD x (fun x => match datL l with | some dl => inD neg x (.list dl) | none => bad) s
    | some (.dct kvs) => onK x (fun k => dB ((lookV kvs k).isSome != neg)) s
    | _ => .bad
  | .fn _ => bad
theorem ov_in {neg : Bool} : OpV X fld E (fun x y H Q => rInA X.K neg x y H Q ∨ rInK neg x y H Q) (inU neg) := by
  intro g s H v u x y Q ok rx ry p
  cases y with
  | fn _ => exact p.elim
  | d y =>
    obtain ⟨z, rfl, p3⟩ := onD_post p
    exact .inl (od_in g s H v u z y Q ok rx ry p3)
  | box n =>
    have p3 : Post X.K X.mg fld E g H (match s[n]? with
      | some (.lst l) => onD x (fun x => match datL l with | some dl => inD neg x (.list dl) | none => bad) s
      | some (.dct kvs) => onK x (fun k => dB ((lookV kvs k).isSome != neg)) s
      | _ => .bad) (K0 X.K X.mg Q) := p
    cases q : s[n]? with
    | none => rw [q] at p3; exact p3.elim
    | some c =>
      rw [q] at p3
      cases c with
      | lst l =>
        obtain ⟨z, rfl, p4⟩ := onD_post p3
        cases q2 : datL l with
        | none => rw [q2] at p4; exact p4.elim
        | some dl =>
          rw [q2] at p4
          have hy := asD_dp (x := .list dl) ok ry (by unfold asD; dsimp only; rw [q]; dsimp only; rw [q2]; rfl)
          have p5 : Post X.K X.mg fld E g H (if SeqAt.shaped z = true ∧ SeqAt.shaped (.list dl) = true then dB (dl.any (fun w => PyData.eqv w z) != neg) s else .bad) (K0 X.K X.mg Q) := by
            have e : inD neg z (.list dl) s = if SeqAt.shaped z = true ∧ SeqAt.shaped (.list dl) = true then dB (dl.any (fun w => PyData.eqv w z) != neg) s else .bad := by
              unfold inD; dsimp only; split <;> rfl
            rw [← e]; exact p4
          by_cases h : SeqAt.shaped z = true ∧ SeqAt.shaped (.list dl) = true
          · rw [if_pos h] at p5
            exact .inl ⟨z, dl, rx.dpH ok, .inl hy, h.1, h.2, post_b ok p5⟩
          · rw [if_neg h] at p5; exact p5.elim
      | dct kvs =>
        obtain ⟨ad, vs, rfl, hP, hH, hvs⟩ := dct_rep ok ry q
        obtain ⟨ky, ew, p4⟩ := onK_post p3 rx
        subst ew
        have hs : (valV vs ky).isSome = (lookV kvs ky).isSome := by
          cases q3 : lookV kvs ky with
          | none => rw [(lookV_rep (k := ky) hvs).2 q3]; rfl
          | some r =>
            obtain ⟨w, e1, _⟩ := (lookV_rep (k := ky) hvs).1 r q3
            rw [e1]; rfl
        refine .inr ⟨ad, _, rfl, DGet.k hH, ?_⟩
        rw [hs]; exact post_b ok p4
      | _ => exact p3.elim
/-- x is None, x is not None -/
def isNU (neg : Bool) (x y : RV) : DM RV := match y with
  | .d .none => match x with
    | .d .none => dB (!neg)
    | _ => dB neg
  | _ => bad
theorem rv_none {K : PySem.W.Frag} {mg : Str → Option Value} {g : G} {v : V} {x : RV} (h : RepV K mg g v x) : (v = .non ↔ x = .d .none) := by
  cases x with
  | d d => cases d <;> cases h <;> simp
  | box n => obtain ⟨a, _, rfl⟩ := h; simp
  | fn n => obtain ⟨a, _, rfl⟩ := h; simp
theorem ov_isN : OpV X fld E (fun x y H Q => y = .non ∧ Q (.bl (decide (x = .non))) H) (isNU false) := by
  intro g s H v u x y Q ok rx ry p
  cases y with
  | d y =>
    cases y with
    | none =>
      cases ry
      refine ⟨rfl, ?_⟩
      have hi := rv_none rx
      by_cases h : x = .d .none
      · subst h
        rw [decide_eq_true (hi.mpr rfl)]; exact post_b ok p
      · rw [decide_eq_false (fun z => h (hi.mp z))]
        have e : isNU false x (.d .none) = dB false := by
          unfold isNU; dsimp only; split
          · exact absurd rfl h
          · rfl
        rw [e] at p; exact post_b ok p
    | _ => exact p.elim
  | box _ => exact p.elim
  | fn _ => exact p.elim
theorem ov_notN : OpV X fld E (fun x y H Q => y = .non ∧ Q (.bl (!decide (x = .non))) H) (isNU true) := by
  intro g s H v u x y Q ok rx ry p
  cases y with
  | d y =>
    cases y with
    | none =>
      cases ry
      refine ⟨rfl, ?_⟩
      have hi := rv_none rx
      by_cases h : x = .d .none
      · subst h
        rw [decide_eq_true (hi.mpr rfl)]; exact post_b ok p
      · rw [decide_eq_false (fun z => h (hi.mp z))]
        have e : isNU true x (.d .none) = dB true := by
          unfold isNU; dsimp only; split
          · exact absurd rfl h
          · rfl
        rw [e] at p; exact post_b ok p
    | _ => exact p.elim
  | box _ => exact p.elim
  | fn _ => exact p.elim
/-- d.get(k), d.get(k, x) -/
def eDGet1 (md mk : DEnv → DM RV) : DEnv → DM RV := fun env => bnd (md env) fun r => bnd (dctAt r) fun _ => bnd (mk env) fun y => bnd (dctAt r) fun kvs => onK y fun k => ret ((lookV kvs k).getD (.d .none))
def eDGet2 (md mk mx : DEnv → DM RV) : DEnv → DM RV := fun env => bnd (md env) fun r => bnd (dctAt r) fun _ => bnd (mk env) fun y => bnd (mx env) fun z => bnd (dctAt r) fun kvs => onK y fun k => ret ((lookV kvs k).getD z)
theorem pKeep {K : PySem.W.Frag} {mg : Str → Option Value} {g g' : G} {H H' : Hp} {s' : S} (t : Step K mg g H g' s' H') {n : Nat} {a : Addr} (h : g.P[n]? = some a) : g'.P[n]? = some a := by
  obtain ⟨r, e, _⟩ := t.p
  rw [e, List.getElem?_append_left (List.getElem?_eq_some_iff.mp h).1]; exact h
theorem de_dget1 (hu : X.A.units + 1 < cLine) (hd : DE X fld E o md) (hk : DE X fld E e mk) (m : M1 X o "get" apos e cpos) : DE X fld E (.Call (.Attribute o "get" apos) [e] [] cpos) (eDGet1 md mk) :=
  peImp (pe_dget1 hu hd hk m) fun σ H Q ⟨g, s, env, ok, er, p⟩ => by
    refine ⟨g, s, env, ok, er, p.bind.mono fun g1 s1 H1 r t1 p1 v rv => ?_⟩
    obtain ⟨n, kvs, rfl, hn, p2⟩ := dct_post p1
    obtain ⟨a, vs, rfl, hP, hH, hvs⟩ := dct_rep t1.ok rv hn
    refine ⟨a, rfl, .inl ⟨_, .inl hH⟩, g1, s1, env, t1.ok, er.step t1, p2.bind.mono fun g2 s2 H2 y t2 p3 w rw' => ?_⟩
    obtain ⟨n', kvs2, en, hn2, p5⟩ := dct_post p3
    cases en
    obtain ⟨a', vs2, ea, _, hH2, hvs2⟩ := dct_rep t2.ok (rv.step t2) hn2
    cases ea
    obtain ⟨ky, ew, p6⟩ := onK_post p5 rw'
    subst ew
    obtain ⟨l1, l2⟩ := lookV_rep (k := ky) hvs2
    refine ⟨_, DGet.k hH2, ?_⟩
    cases q : lookV kvs2 ky with
    | none => rw [l2 q]; rw [q] at p6; exact post_ret t2.ok p6 _ .non
    | some r =>
      obtain ⟨u, e1, e2⟩ := l1 r q
      rw [e1]; rw [q] at p6; exact post_ret t2.ok p6 u e2
theorem de_dget2 (hu : X.A.units + 1 < cLine) (hd : DE X fld E o md) (hk : DE X fld E e mk) (hx : DE X fld E f mx) (m : M2 X o "get" apos e f cpos) : DE X fld E (.Call (.Attribute o "get" apos) [e, f] [] cpos) (eDGet2 md mk mx) :=
  peImp (pe_dget2 hu hd hk hx m) fun σ H Q ⟨g, s, env, ok, er, p⟩ => by
    refine ⟨g, s, env, ok, er, p.bind.mono fun g1 s1 H1 r t1 p1 v rv => ?_⟩
    obtain ⟨n, kvs, rfl, hn, p2⟩ := dct_post p1
    obtain ⟨a, vs, rfl, hP, hH, hvs⟩ := dct_rep t1.ok rv hn
    refine ⟨a, rfl, .inl ⟨_, .inl hH⟩, g1, s1, env, t1.ok, er.step t1, p2.bind.mono fun g2 s2 H2 y t2 p3 w rw' => ?_⟩
    refine ⟨g2, s2, env, t2.ok, (er.step t1).step t2, p3.bind.mono fun g3 s3 H3 z t3 p4 u ru => ?_⟩
    obtain ⟨n', kvs2, en, hn2, p5⟩ := dct_post p4
    cases en
    obtain ⟨a', vs2, ea, _, hH2, hvs2⟩ := dct_rep t3.ok ((rv.step t2).step t3) hn2
    cases ea
    obtain ⟨ky, ew, p6⟩ := onK_post p5 (rw'.step t3)
    subst ew
    obtain ⟨l1, l2⟩ := lookV_rep (k := ky) hvs2
    refine ⟨_, DGet.k hH2, ?_⟩
    cases q : lookV kvs2 ky with
    | none => rw [l2 q]; rw [q] at p6; exact post_ret t3.ok p6 _ ru
    | some r =>
      obtain ⟨u, e1, e2⟩ := l1 r q
      rw [e1]; rw [q] at p6; exact post_ret t3.ok p6 u e2
/-- a[b] = .. of a list, a dict -/
def putL' (n : Nat) (l : List RV) (y r : RV) (env : DEnv) : DM DEnv := match y with
  | .d (.int k) => match ixN l.length k with
    | some j => setCell n (.lst (l.set j r)) env
    | none => bad
  | _ => bad
def putK' (n : Nat) (kvs : List (Key × RV)) (y r : RV) (env : DEnv) : DM DEnv := match y with
  | .d d => match keyD d with
    | some k => if kvs.length < sizeLine then setCell n (.dct (putV kvs k r)) env else bad
    | none => bad
  | _ => bad
def putU (b y r : RV) (env : DEnv) : DM DEnv := match b with
  | .box n => fun s => match s[n]? with
    | some (.lst l) => putL' n l y r env s
    | some (.dct kvs) => putK' n kvs y r env s
    | _ => .bad
  | _ => bad
def tgU (mo mi : DEnv → DM RV) : TgF := fun r env => bnd (mo env) fun b => bnd (mi env) fun y => putU b y r env
theorem dg_sub {i : Expr} (hu : X.A.units + 1 < cLine) (h : DE X fld E o mo) (hi : DE X fld E i mi)
    (ha : ∀ v, assign (.Subscript o i pos) X.env v = (do
      let ov ← holding [v] (eval o X.env)
      let iv ← holding [v, ov] (eval i X.env)
      standAt pos
      holding [v, ov, iv] (setItem ov iv v)
      release [v, ov, iv] []) := by intro _; rfl) : DG X fld E [] (.Subscript o i pos) (tgU mo mi) :=
  pgImp (pg_sub h hi (PSet.or set_list (set_dict hu)) ha) fun v σ H Q ⟨g, s, env, r, ok, er, rv, p⟩ => by
    refine ⟨g, s, env, ok, er, p.bind.mono fun g1 s1 H1 b t1 p1 w rw' => ?_⟩
    refine ⟨g1, s1, env, t1.ok, er.step t1, p1.bind.mono fun g2 s2 H2 y t2 p2 u ru => ?_⟩
    have er2 := (er.step t1).step t2
    have rv2 := (RepV.step t1 rv).step t2
    cases b with
    | d _ => exact p2.elim
    | fn _ => exact p2.elim
    | box n =>
      have p3 : Post X.K X.mg fld E g2 H2 (match s2[n]? with
        | some (.lst l) => putL' n l y r env s2
        | some (.dct kvs) => putK' n kvs y r env s2
        | _ => .bad) (fun g' _ H' env' => ∀ σ', ER X.K X.mg g' H' σ' env' → Kept [] σ env σ' env' → Q σ' H') := p2
      cases q : s2[n]? with
      | none => rw [q] at p3; exact p3.elim
      | some c =>
        rw [q] at p3
        cases c with
        | lst l =>
          obtain ⟨ad, xs, rfl, hP, hH, hd⟩ := box_rep t2.ok (rw'.step t2) q
          have p4 : Post X.K X.mg fld E g2 H2 (putL' n l y r env s2) _ := p3
          cases y with
          | box _ => exact p4.elim
          | fn _ => exact p4.elim
          | d y =>
            cases y with
            | int k =>
              cases ru
              unfold putL' at p4
              dsimp only at p4
              cases qj : ixN l.length k with
              | none => rw [qj] at p4; exact p4.elim
              | some j =>
                rw [qj] at p4
                have st := Step.cellSet (o := .lst (xs.set j v)) (c' := .lst (l.set j r)) t2.ok hP q ⟨_, upd_same, paired_set rv2 j hd⟩
                exact .inl ⟨ad, xs, k, j, rfl, rfl, hH, by rw [Paired.length hd]; exact qj, p4 g2 _ st σ (er2.step st) .refl⟩
            | _ => exact p4.elim
        | dct kvs =>
          obtain ⟨ad, vs, rfl, hP, hH, hvs⟩ := dct_rep t2.ok (rw'.step t2) q
          have p4 : Post X.K X.mg fld E g2 H2 (putK' n kvs y r env s2) _ := p3
          cases y with
          | box _ => exact p4.elim
          | fn _ => exact p4.elim
          | d y =>
            unfold putK' at p4
            dsimp only at p4
            cases qk : keyD y with
            | none => rw [qk] at p4; exact p4.elim
            | some ky =>
              rw [qk] at p4
              dsimp only at p4
              by_cases hz : kvs.length < sizeLine
              · rw [if_pos hz] at p4
                have eu := keyD_rep ru qk
                subst eu
                have st := Step.cellSet (o := .dK (putK vs ky v)) (c' := .dct (putV kvs ky r)) t2.ok hP q ⟨_, upd_same, putV_rep rv2 hvs⟩
                exact .inr ⟨ad, _, rfl, DPut.k hH (by rw [Paired.length hvs]; exact hz), p4 g2 _ st σ (er2.step st) .refl⟩
              · rw [if_neg hz] at p4; exact p4.elim
        | _ => exact p3.elim
end
end DL
namespace DL
open PySem PySem.Spec L2
open PyProof.Rows hiding St

/-! ### dict displays, dict(..), list(..) -/
section
variable {K : PySem.W.Frag} {mg : Str → Option Value} {fld : Str → Str} {E : XK} {g : G} {s : S} {H : Hp}
theorem fresh_z {a : Addr} (ok : GOk K mg g s H) (ha : H a = none) : g.Z a = none := by
  cases q : g.Z a with
  | none => rfl
  | some o => rw [ok.z _ _ q] at ha; cases ha
theorem fresh_p {a : Addr} (ok : GOk K mg g s H) (ha : H a = none) : a ∉ g.P := fun hm => by
  obtain ⟨o, e, _⟩ := ok.there hm
  rw [ha] at e; cases e
def upP (K : PySem.W.Frag) (mg : Str → Option Value) (fld : Str → Str) (E : XK) (m : DEnv → DM (List (RV × RV))) (σ : St) (H : Hp) (Q : List (V × V) → Hp → Prop) : Prop :=
  ∃ g s env, GOk K mg g s H ∧ ER K mg g H σ env ∧ Post K mg fld E g H (m env s) fun g' _ H' l => ∀ vs, Paired (fun p q => RepV K mg g' p.1 q.1 ∧ RepV K mg g' p.2 q.2) vs l → Q vs H'
def kvsOf : List (RV × RV) → Option (List (Key × RV))
  | [] => some []
  | (.d k, v) :: r => match keyD k, kvsOf r with
    | some k, some l => some ((k, v) :: l)
    | _, _ => none
  | _ :: _ => none
theorem kvs_rep : ∀ {l : List (RV × RV)} {kvs : List (Key × RV)} {vs : List (V × V)}, kvsOf l = some kvs → Paired (fun p q => RepV K mg g p.1 q.1 ∧ RepV K mg g p.2 q.2) vs l →
    ∃ kv' : List (Key × V), vs = kv'.map (fun kv => (kV kv.1, kv.2)) ∧ Paired (fun p q => p.1 = q.1 ∧ RepV K mg g p.2 q.2) kv' kvs
  | [], kvs, vs, h, r => by cases h; cases r; exact ⟨[], rfl, .nil⟩
  | (.box _, v) :: l, kvs, vs, h, r => by cases h
  | (.fn _, v) :: l, kvs, vs, h, r => by cases h
  | (.d k, v) :: l, kvs, vs, h, r => by
    cases r with
    | @cons p _ vs _ r1 r2 =>
      unfold kvsOf at h
      cases q1 : keyD k with
      | none => rw [q1] at h; cases h
      | some ky =>
        cases q2 : kvsOf l with
        | none => rw [q1, q2] at h; cases h
        | some l' =>
          rw [q1, q2] at h
          cases h
          obtain ⟨kv', e1, e2⟩ := kvs_rep q2 r2
          obtain ⟨p1, p2⟩ := p
          have ek := keyD_rep r1.1 q1
          dsimp only at ek
          exact ⟨(ky, p2) :: kv', by rw [List.map_cons, e1, ek], .cons ⟨rfl, r1.2⟩ e2⟩
def mergeV (kvs more : List (Key × RV)) : List (Key × RV) := more.foldl (fun acc kv => putV acc kv.1 kv.2) kvs
theorem mergeV_rep {more : List (Key × V)} {morev : List (Key × RV)} (h : Paired (fun p q => p.1 = q.1 ∧ RepV K mg g p.2 q.2) more morev) : ∀ {kvs : List (Key × V)} {kvsv : List (Key × RV)}, Paired (fun p q => p.1 = q.1 ∧ RepV K mg g p.2 q.2) kvs kvsv →
    Paired (fun p q => p.1 = q.1 ∧ RepV K mg g p.2 q.2) (mergeK kvs more) (mergeV kvsv morev) := by
  induction h with
  | nil => exact fun q => q
  | @cons p q _ _ r1 _ ih =>
    intro kvs kvsv r
    have z := putV_rep (k := p.1) r1.2 r
    rw [r1.1] at z
    show Paired _ (mergeK (putK kvs p.1 p.2) _) (mergeV (putV kvsv q.1 q.2) _)
    rw [r1.1]
    exact ih z
def newCell (c : Cell) : DM RV := fun s => .ok (.box s.length) (s ++ [c])
end
section
variable {X : Cx} {fld : Str → Str} {E : XK} {pos p : Pos} {e k v : Expr} {keys : List (Option Expr)} {values : List Expr} {mk mv : DEnv → DM RV} {m : DEnv → DM (List (RV × RV))} {ma : DEnv → DM (List RV)} {x : Str}
def DPs (X : Cx) (fld : Str → Str) (E : XK) (pos : Pos) (keys : List (Option Expr)) (values : List Expr) (m : DEnv → DM (List (RV × RV))) : Prop := ∃ trs, PPs X pos keys values trs ∧ ∀ σ H Q, upP X.K X.mg fld E m σ H Q → tPairs trs σ H Q
def pNil : DEnv → DM (List (RV × RV)) := fun _ => ret []
def pCons (mk mv : DEnv → DM RV) (r : DEnv → DM (List (RV × RV))) : DEnv → DM (List (RV × RV)) := fun env => bnd (mk env) fun k => bnd (mv env) fun v => bnd (r env) fun l => ret ((k, v) :: l)
theorem dps_nil : DPs X fld E pos [] [] pNil := ⟨[], pps_nil, fun σ H Q ⟨g, s, env, ok, er, p⟩ => p g H (.refl ok) [] .nil⟩
theorem dps_cons (hk : DE X fld E k mk) (hv : DE X fld E v mv) (hr : DPs X fld E pos keys values m) : DPs X fld E pos (some k :: keys) (v :: values) (pCons mk mv m) := by
  obtain ⟨trs, h1, h2⟩ := hr
  refine ⟨_, pps_cons hk hv h1, ?_⟩
  rintro σ H Q ⟨g, s, env, ok, er, p⟩
  refine ⟨g, s, env, ok, er, p.bind.mono fun g1 s1 H1 k t1 p1 v rv => ?_⟩
  refine ⟨g1, s1, env, t1.ok, er.step t1, p1.bind.mono fun g2 s2 H2 w t2 p2 u ru => ?_⟩
  refine h2 σ H2 _ ⟨g2, s2, env, t2.ok, (er.step t1).step t2, p2.bind.mono fun g3 s3 H3 l t3 p3 vs rvs => ?_⟩
  exact p3 g3 H3 (.refl t3.ok) _ (.cons ⟨(rv.step t2).step t3, ru.step t3⟩ rvs)
def eDisp (m : DEnv → DM (List (RV × RV))) : DEnv → DM RV := fun env => bnd (m env) fun l => optM (kvsOf l) fun kvs => bnd (guardM (decide (kvs.length ≤ 15))) fun _ => newCell (.dct (mergeV [] kvs))
theorem de_disp (h : DPs X fld E pos keys values m) (hall : keys.all (·.isSome) = true := by rfl) (hl : keys.length = values.length := by rfl) (h0 : keys ≠ [] := by exact fun z => by cases z) (h15 : keys.length ≤ 15 := by decide) : DE X fld E (.Dict keys values pos) (eDisp m) := by
  obtain ⟨trs, h1, h2⟩ := h
  refine peImp (pe_disp h1 hall hl h0 h15) fun σ H Q ⟨g, s, env, ok, er, p⟩ => ?_
  intro a ha
  have za := fresh_z ok ha
  have pa := fresh_p ok ha
  have t0 := Step.newH (o := .dK []) ok ha
  refine h2 σ _ _ ⟨g, s, env, t0.ok, er.step t0, ?_⟩
  unfold eDisp at p
  cases q : m env s with
  | bad => rw [bnd_bad q] at p; exact p.elim
  | exc e s1 => rw [bnd_exc q] at p; exact fun g' H' cls od t x => p g' H' cls od (t0.trans t) x
  | ok l s1 =>
    rw [bnd_ok q] at p
    obtain ⟨kvs, ek, p2⟩ := optM_post p
    obtain ⟨hz, p3⟩ := guard_post p2
    intro g1 H1 t1 vs rvs
    have hH : H1 a = some (.dK []) := t1.keep a _ upd_same pa
    have za1 : g1.Z a = none := t1.zold a _ upd_same za pa
    have pa1 : a ∉ g1.P := fun q => pa (t1.pold upd_same q)
    obtain ⟨kv', e1, rk⟩ := kvs_rep ek rvs
    refine ⟨hH, kv', e1, by rw [Paired.length rk]; exact of_decide_eq_true hz, ?_⟩
    have tm := (t0.trans t1).mut (o := .dK (mergeK [] kv')) ha za1 pa1 (fun x q => by rw [hH] at q; cases q)
    have tc := tm.cellNew (c := .dct (mergeV [] kvs)) ha za1 pa1 ⟨_, upd_same, mergeV_rep rk .nil⟩
    exact p3 _ _ tc _ ⟨a, box_at t1.ok, rfl⟩
/-- dict(a list of pairs) -/
def pairsD : List D → Option (List (Key × RV))
  | [] => some []
  | .tuple [k, v] :: r => match keyD k, pairsD r with
    | some k, some l => some ((k, .d v) :: l)
    | _, _ => none
  | _ :: _ => none
theorem pairs_repD {K : PySem.W.Frag} {mg : Str → Option Value} {g : G} : ∀ {l : List D} {kvs : List (Key × RV)} {xs : List V}, pairsD l = some kvs → RpAll K g.Z xs l →
    ∃ (ps : List Addr) (kv' : List (Key × V)), xs = ps.map V.ref ∧ Paired (fun p kv => SqT K g.Z p [kV kv.1, kv.2]) ps kv' ∧ Paired (fun p q => p.1 = q.1 ∧ RepV K mg g p.2 q.2) kv' kvs
  | [], kvs, xs, h, r => by cases h; cases r; exact ⟨[], [], rfl, .nil, .nil⟩
  | d :: l, kvs, xs, h, r => by
    unfold pairsD at h
    split at h
    · rename_i heq; cases heq
    · rename_i k v r' heq
      cases heq
      split at h
      · rename_i ky l' q1 q2
        cases h
        cases r with
        | cons r1 r2 =>
          obtain ⟨ps, kv', e1, e2, e3⟩ := pairs_repD (mg := mg) q2 r2
          cases r1 with
          | @tup a ys _ hs hd =>
            cases hd with
            | cons d1 d2 =>
              cases d2 with
              | @cons w _ _ _ d3 d4 =>
                cases d4
                have ek := keyD_rep d1 q1
                subst ek
                exact ⟨a :: ps, (ky, w) :: kv', by rw [List.map_cons, e1], .cons hs e2, .cons ⟨rfl, d3⟩ e3⟩
      · cases h
    · cases h
def dDictP : D → DM RV := fun x => match x with
  | .list l => optM (pairsD l) fun kvs => newCell (.dct (mergeV [] kvs))
  | _ => bad
theorem cd_dictP : CallD X fld E (fun xs H Q => ∃ (a : Addr) (ps : List Addr) (kvs : List (Key × V)), xs = [.ref a] ∧ SqL X.K H a (ps.map V.ref) ∧ Paired (fun p kv => SqT X.K H p [kV kv.1, kv.2]) ps kvs ∧
    ∀ p, H p = none → Q (.ref p) (upd H p (.dK (mergeK [] kvs)))) (on1 dDictP) := cd_1 fun g s H v x Q ok rx p => by
  cases x with
  | list l =>
    cases rx with
    | lst hs hd =>
      obtain ⟨kvs, ek, p2⟩ := optM_post p
      obtain ⟨ps, kv', e1, e2, e3⟩ := pairs_repD (mg := X.mg) ek hd
      subst e1
      refine ⟨_, ps, kv', rfl, .inl (DL.Rd.mono ok.z hs), Paired.mapP e2 fun _ _ q => sqT_mono ok.z q, fun b hb => ?_⟩
      have t1 := Step.newH (o := .dK (mergeK [] kv')) ok hb
      have tc := t1.cellNew (c := .dct (mergeV [] kvs)) hb (fresh_z ok hb) (fresh_p ok hb) ⟨_, upd_same, mergeV_rep e3 .nil⟩
      exact p2 _ _ tc _ ⟨b, box_at ok, rfl⟩
  | _ => exact p.elim
/-- list(x): a new list -/
def listA : List RV → DM (List RV)
  | [.d (.list l)] => ret (l.map .d)
  | [.d (.tuple l)] => ret (l.map .d)
  | [.box n] => boxAt (.box n)
  | _ => bad
def oList (ma : DEnv → DM (List RV)) : DEnv → DM (List RV) := fun env => bnd (ma env) listA
theorem do_list (hg : Gl X x) (hm : X.mg x = none) (hv : bootBuiltins x = some (.type "list")) (ha : DA X fld E [e] ma) (hn : x ≠ "__name__" := by decide) (hdb : (x == ("__debug__" : Str)) = false := by decide)
    (he : starEach [e] X.env = (false, eval e X.env) :: starEach [] X.env := by rfl) (hpl : (backTo pos (starEach [] X.env)).any (·.1) = false := by rfl) : DO X fld E (.Call (.Name x p) [e] [] pos) (oList ma) :=
  peImp (pe_callTy call_list_of hg hm hv ha hn hdb he hpl) fun σ H Q ⟨g, s, env, ok, er, p⟩ => by
    refine ⟨g, s, env, ok, er, p.bind.mono fun g1 s1 H1 rs t1 p1 vs rvs => ?_⟩
    have fin : ∀ {ys : List V} {l : List RV}, Paired (RepV X.K X.mg g1) ys l → listA rs s1 = .ok l s1 → ∀ a, H1 a = none → Q (.ref a) (upd H1 a (.lst ys)) := fun {ys l} hd e a ha => by
      rw [e] at p1
      have st := Step.newH (o := .lst ys) t1.ok ha
      exact p1 _ _ st a ys (t1.fresh ha) (fresh_z t1.ok ha) (fresh_p t1.ok ha) upd_same hd
    cases rvs with
    | nil => exact p1.elim
    | @cons v r vs rs h1 h2 =>
      cases h2 with
      | cons _ _ =>
        cases r with
        | d x => cases x <;> exact p1.elim
        | box _ => exact p1.elim
        | fn _ => exact p1.elim
      | nil =>
        cases r with
        | fn _ => exact p1.elim
        | d x =>
          cases x with
          | list l =>
            cases h1 with
            | lst hs hd => exact ⟨_, _, rfl, .inl (.inl (DL.Rd.mono t1.ok.z hs)), fin (paired_data hd) rfl⟩
          | tuple l =>
            cases h1 with
            | tup hs hd => exact ⟨_, _, rfl, .inr (sqT_mono t1.ok.z hs), fin (paired_data hd) rfl⟩
          | _ => exact p1.elim
        | box n =>
          have p2 : Post X.K X.mg fld E g1 H1 (boxAt (.box n) s1) _ := p1
          obtain ⟨n', l, en, hn, _⟩ := box_post p2
          cases en
          obtain ⟨ad, xs, rfl, hP, hH, hd⟩ := box_rep t1.ok h1 hn
          exact ⟨_, _, rfl, .inl (.inl (.inl hH)), fin hd (boxAt_ok hn)⟩
end
end DL
namespace DL
open PySem PySem.Spec L2
open PyProof.Rows hiding St

/-! ### loops over what may change -/
section
variable {X : Cx} {fld : Str → Str} {E : XK} {g0 : G} {H0 : Hp} {pos : Pos} {e iter tg : Expr} {body : List Stmt} {m : DEnv → DM RV} {t : TgF} {b : DEnv → DM Fl} {L : List Nat}
/-- what a loop asks of its iterator -/
def ForR (g : TG) (tb : TS) (D : Ends) (σ : St) (J : It) (H1 : Hp) : Prop := ∃ W : Nat → Nat → St → Hp → Prop, (∃ m, W 0 m σ H1) ∧ ∀ i m σ H, W i m σ H →
  (J.stop i H ∧ D.nx σ H) ∨ (J.go i H ∧ ∃ N : St → Hp → Prop, (∀ σ' H', N σ' H' → ∃ m', m' < m ∧ W (i + 1) m' σ' H') ∧ ∀ x H', J.yld i H x H' → g x σ H' fun σ2 H2 => tb { D with nx := N, ct := N, bk := D.nx } σ2 H2)
theorem for_core {g1 : G} {s1 : S} {H1 : Hp} {σ : St} {env : DEnv} {l : List D} {J : It} {Dd : Ends} (f : FR X.K X.mg g0 H0 g1 s1 H1 σ env) (hJ : Walks X.K X.mg J g1.Z l) (p : PostS X.K X.mg fld E g0 H0 g1 (forL t b l env s1) Dd) :
    ForR (upG X.K X.mg fld E L t) (upS X.K X.mg fld E g0 H0 b) Dd σ J H1 := by
  refine ⟨fun i m σ' H' => m = l.length - i ∧ i ≤ l.length ∧ ∃ g' s' env', FR X.K X.mg g0 H0 g' s' H' σ' env' ∧ Sub g1 g' ∧ PostS X.K X.mg fld E g0 H0 g1 (forL t b (l.drop i) env' s') Dd,
    ⟨l.length, by simp, Nat.zero_le _, g1, s1, env, f, .refl, by simpa using p⟩, ?_⟩
  rintro i m σ' H' ⟨rfl, hil, g', s', env', f', hz, p'⟩
  obtain ⟨hstop, hgo⟩ := hJ g' s' H' f'.ok hz.1 i
  by_cases hlt : i < l.length
  · have hd : l.drop i = l[i] :: l.drop (i + 1) := List.drop_eq_getElem_cons hlt
    obtain ⟨go, yld⟩ := hgo l[i] (List.getElem?_eq_getElem hlt)
    refine .inr ⟨go, fun σ2 H2 => ∃ g2 s2 env2, FR X.K X.mg g0 H0 g2 s2 H2 σ2 env2 ∧ Sub g1 g2 ∧ PostS X.K X.mg fld E g0 H0 g1 (forL t b (l.drop (i + 1)) env2 s2) Dd, fun σ2 H2 ⟨g2, s2, env2, f2, hz2, p2⟩ => ⟨l.length - (i + 1), by omega, rfl, hlt, g2, s2, env2, f2, hz2, p2⟩, fun x H2 y => ?_⟩
    obtain ⟨g2, t2, dx⟩ := yld x H2 y
    have f2 := f'.step t2
    rw [hd] at p'
    unfold forL at p'
    refine ⟨g2, s', env', .d l[i], t2.ok, f2.er, dx, ?_⟩
    cases q2 : t (.d l[i]) env' s' with
    | bad => rw [bnd_bad q2] at p'; exact p'
    | exc e s'' => rw [bnd_exc q2] at p'; exact exc_up f2 p'
    | ok env3 s3 =>
      rw [bnd_ok q2] at p'
      intro g3 H3 t3 σ3 er3 k3
      have f3 := f2.kept t3 er3 k3
      have z3 : Sub g1 g3 := Sub.trans hz (Sub.trans t2.sub t3.sub)
      refine ⟨g3, s3, env3, f3, ?_⟩
      cases q3 : b env3 s3 with
      | bad => rw [bnd_bad q3] at p'; exact p'
      | exc e s'' => rw [bnd_exc q3] at p'; exact p'
      | ok fl s4 =>
        rw [bnd_ok q3] at p'
        cases fl with
        | nx e => exact fun g4 H4 σ4 f4 z4 => ⟨g4, s4, e, f4, z3.trans z4, p'⟩
        | ct e => exact fun g4 H4 σ4 f4 z4 => ⟨g4, s4, e, f4, z3.trans z4, p'⟩
        | bk e => exact fun g4 H4 σ4 f4 z4 => p' g4 H4 σ4 f4 (z3.trans z4)
        | rt r => exact fun g4 H4 v t rv q => p' g4 H4 v t rv (z3.trans q)
  · have e : i = l.length := by omega
    subst e
    rw [List.drop_length] at p'
    exact .inl ⟨hstop (Nat.le_refl _), p' g' H' σ' f' hz⟩
/-- over a list that may change: it is read anew at each turn -/
def forA (n : Nat) (t : TgF) (body : DEnv → DM Fl) : Nat → Nat → DEnv → DM Fl
  | 0, _, _ => bad
  | k + 1, i, env => bnd (boxAt (.box n)) fun l => match l[i]? with
    | none => ret (.nx env)
    | some r => bnd (t r env) fun e => bnd (body e) fun f => match f with
      | .nx e => forA n t body k (i + 1) e
      | .ct e => forA n t body k (i + 1) e
      | .bk e => ret (.nx e)
      | .rt r => ret (.rt r)
def sForU (m : DEnv → DM RV) (t : TgF) (body : DEnv → DM Fl) : DEnv → DM Fl := fun env => bnd (m env) fun r => match r with
  | .box n => bnd (boxAt (.box n)) fun l => forA n t body (l.length + 1) 0 env
  | r => bnd (items r) fun l => forL t body l env
theorem boxAt_postS {Z : G} {s : S} {r : RV} {F : List RV → DM Fl} {Dd : Ends} (h : PostS X.K X.mg fld E g0 H0 Z (bnd (boxAt r) F s) Dd) : ∃ n l, r = .box n ∧ s[n]? = some (.lst l) ∧ PostS X.K X.mg fld E g0 H0 Z (F l s) Dd := by
  cases r with
  | d _ => exact h.elim
  | fn _ => exact h.elim
  | box n =>
    cases q : s[n]? with
    | none =>
      have e : boxAt (.box n) s = .bad := by unfold boxAt; dsimp only; rw [q]
      rw [bnd_bad e] at h; exact h.elim
    | some c =>
      cases c with
      | lst l => rw [bnd_ok (boxAt_ok q)] at h; exact ⟨n, l, rfl, q, h⟩
      | _ =>
        have e : boxAt (.box n) s = .bad := by unfold boxAt; dsimp only; rw [q]
        rw [bnd_bad e] at h; exact h.elim
theorem forA_core {g1 : G} {s1 : S} {H1 : Hp} {σ : St} {env : DEnv} {n k : Nat} {a : Addr} {Dd : Ends} (f : FR X.K X.mg g0 H0 g1 s1 H1 σ env) (hP : g1.P[n]? = some a) (p : PostS X.K X.mg fld E g0 H0 g1 (forA n t b k 0 env s1) Dd) :
    ForR (upG X.K X.mg fld E L t) (upS X.K X.mg fld E g0 H0 b) Dd σ (Itl X.K a) H1 := by
  refine ⟨fun i m σ' H' => ∃ g' s' env', FR X.K X.mg g0 H0 g' s' H' σ' env' ∧ Sub g1 g' ∧ PostS X.K X.mg fld E g0 H0 g1 (forA n t b m i env' s') Dd, ⟨k, g1, s1, env, f, .refl, p⟩, ?_⟩
  rintro i m σ' H' ⟨g', s', env', f', hz, p'⟩
  cases m with
  | zero => exact p'.elim
  | succ m =>
    unfold forA at p'
    obtain ⟨n', l, en, hn, p2⟩ := boxAt_postS p'
    cases en
    have hP' : g'.P[n]? = some a := by
      obtain ⟨r, e⟩ := hz.2
      rw [e, List.getElem?_append_left (List.getElem?_eq_some_iff.mp hP).1]; exact hP
    obtain ⟨_, xs, hH, hd⟩ := f'.ok.box n a _ hP' hn
    cases q : l[i]? with
    | none =>
      rw [q] at p2
      have hl : l.length ≤ i := List.getElem?_eq_none_iff.mp q
      exact .inl ⟨⟨xs, .inl (.inl hH), by rw [Paired.length hd]; exact hl⟩, p2 g' H' σ' f' hz⟩
    | some r =>
      rw [q] at p2
      obtain ⟨v, hv, rv⟩ := paired_get hd q
      refine .inr ⟨⟨xs, v, .inl (.inl hH), hv⟩, fun σ2 H2 => ∃ g2 s2 env2, FR X.K X.mg g0 H0 g2 s2 H2 σ2 env2 ∧ Sub g1 g2 ∧ PostS X.K X.mg fld E g0 H0 g1 (forA n t b m (i + 1) env2 s2) Dd, fun σ2 H2 h => ⟨m, Nat.lt_succ_self _, h⟩, fun x H2 y => ?_⟩
      obtain ⟨rfl, y⟩ := y
      have ex := y xs (.inl (.inl hH))
      rw [hv] at ex
      cases ex
      refine ⟨g', s', env', r, f'.ok, f'.er, rv, ?_⟩
      have p3 : PostS X.K X.mg fld E g0 H0 g1 (bnd (t r env') (fun e => bnd (b e) fun f => match f with
        | .nx e => forA n t b m (i + 1) e
        | .ct e => forA n t b m (i + 1) e
        | .bk e => ret (.nx e)
        | .rt r => ret (.rt r)) s') Dd := p2
      cases q2 : t r env' s' with
      | bad => rw [bnd_bad q2] at p3; exact p3
      | exc e s'' => rw [bnd_exc q2] at p3; exact exc_up f' p3
      | ok env3 s3 =>
        rw [bnd_ok q2] at p3
        intro g3 H3 t3 σ3 er3 k3
        have f3 := f'.kept t3 er3 k3
        have z3 : Sub g1 g3 := Sub.trans hz t3.sub
        refine ⟨g3, s3, env3, f3, ?_⟩
        cases q3 : b env3 s3 with
        | bad => rw [bnd_bad q3] at p3; exact p3
        | exc e s'' => rw [bnd_exc q3] at p3; exact p3
        | ok fl s4 =>
          rw [bnd_ok q3] at p3
          cases fl with
          | nx e => exact fun g4 H4 σ4 f4 z4 => ⟨g4, s4, e, f4, z3.trans z4, p3⟩
          | ct e => exact fun g4 H4 σ4 f4 z4 => ⟨g4, s4, e, f4, z3.trans z4, p3⟩
          | bk e => exact fun g4 H4 σ4 f4 z4 => p3 g4 H4 σ4 f4 (z3.trans z4)
          | rt r => exact fun g4 H4 v t rv q => p3 g4 H4 v t rv (z3.trans q)
theorem ds_forU (hp : PassesOwn (model X.prog X.w) X.A X.env X.xe) (hc : X.calm = true) (he : DE X fld E e m) (ht : DG X fld E L tg t) (hb : DSs X fld E g0 H0 body b) (hs : ∀ x, foldedSetIterable e X.env x = pure x := by intro _; rfl) :
    DS X fld E g0 H0 (.For tg e body [] pos) (sForU m t b) :=
  psImp (ps_for hp hc (pi_seq he) ht hb hs) fun Dd σ H ⟨g, s, env, f, p⟩ => by
    refine ⟨g, s, env, f.ok, f.er, ?_⟩
    unfold sForU at p
    cases q : m env s with
    | bad => rw [bnd_bad q] at p; exact p
    | exc e s' => rw [bnd_exc q] at p; exact exc_up f p
    | ok r s1 =>
      rw [bnd_ok q] at p
      intro g1 H1 t1 v rv
      have f1 := f.step t1
      cases r with
      | fn _ => exact p.elim
      | box n =>
        obtain ⟨n', l, en, hn, p2⟩ := boxAt_postS p
        cases en
        obtain ⟨a, xs, rfl, hP, hH, hd⟩ := box_rep t1.ok rv hn
        exact ⟨a, rfl, .inl ⟨⟨xs, .inl (.inl hH)⟩, forA_core f1 hP (p2.z t1.sub)⟩⟩
      | d x =>
        cases x with
        | list l =>
          cases rv with
          | lst hs hd => exact ⟨_, rfl, .inl ⟨⟨_, .inl (DL.Rd.mono t1.ok.z hs)⟩, for_core f1 (walks_lst (.inl hs) hd) (PostS.z (o := forL t b l env s1) p t1.sub)⟩⟩
        | tuple l =>
          cases rv with
          | tup hs hd => exact ⟨_, rfl, .inr ⟨⟨_, sqT_mono t1.ok.z hs⟩, for_core f1 (walks_tup hs hd) (PostS.z (o := forL t b l env s1) p t1.sub)⟩⟩
        | _ => exact p.elim
end
end DL
namespace DL
open PySem PySem.Spec L2
open PyProof.Rows hiding St

/-! ### a dict that is walked -/
section
variable {K : PySem.W.Frag} {mg : Str → Option Value} {g0 g g2 : G} {H0 H H2 : Hp} {s s2 : S} {σ σ2 : St} {env env2 : DEnv} {n : Nat} {d : Addr} {od : Obj} {vs : List (Key × V)} {kvs kvs2 : List (Key × RV)}
theorem nodupP (nd : g.P.Nodup) {i j : Nat} {a : Addr} (h : g.P[i]? = some a) (h2 : g.P[j]? = some a) : i = j := by
  obtain ⟨hi, e1⟩ := List.getElem?_eq_some_iff.mp h
  obtain ⟨hj, e2⟩ := List.getElem?_eq_some_iff.mp h2
  exact (List.getElem_inj nd).mp (e1.trans e2.symm)
theorem FR.lock (f : FR K mg g0 H0 g s H σ env) (hP : g.P[n]? = some d) (hn : s[n]? = some (.dct kvs)) (hH : H d = some (.dK vs)) (hd : Paired (fun p q => p.1 = q.1 ∧ RepV K mg g p.2 q.2) vs kvs) (od : Obj) :
    FR K mg g0 H0 ⟨upd g.Z d (.frz od (.dK vs)), g.P⟩ (s.set n (.lck kvs)) (upd H d (.frz od (.dK vs))) σ env := by
  have hz : g.Z d = none := (f.ok.box n d _ hP hn).1 rfl
  have dm : d ∈ g.P := List.mem_of_getElem? hP
  have zz : ∀ a o, g.Z a = some o → upd g.Z d (.frz od (.dK vs)) a = some o := fun a o h => by rw [upd_ne (ne_of_none h hz)]; exact h
  have up : ∀ v r, RepV K mg g v r → RepV K mg ⟨upd g.Z d (.frz od (.dK vs)), g.P⟩ v r := fun v r q => RepV.le (g := g) (g1 := ⟨upd g.Z d (.frz od (.dK vs)), g.P⟩) zz ⟨[], by simp⟩ q
  have hi : n < s.length := (List.getElem?_eq_some_iff.mp hn).1
  have old : ∀ a o, H0 a = some o → a ∉ g0.P → a ≠ d := fun a o h hp q => by subst q; exact hp (f.st.pold h dm)
  have ok' : GOk K mg ⟨upd g.Z d (.frz od (.dK vs)), g.P⟩ (s.set n (.lck kvs)) (upd H d (.frz od (.dK vs))) := by
    refine ⟨fun a o h => ?_, by simpa using f.ok.len, f.ok.nd, fun j b c h1 h2 => ?_⟩
    · have h : upd g.Z d (.frz od (.dK vs)) a = some o := h
      by_cases ha : a = d
      · subst ha; rw [upd_same] at h ⊢; exact h
      · rw [upd_ne ha] at h ⊢; exact f.ok.z a o h
    · by_cases hj : n = j
      · subst hj
        have eb : d = b := by rw [hP] at h1; cases h1; rfl
        subst eb
        rw [List.getElem?_set_self hi] at h2
        cases h2
        exact ⟨(fun q => by cases q), od, vs, upd_same, upd_same, Paired.mapP hd fun _ _ q => ⟨q.1, up _ _ q.2⟩⟩
      · rw [List.getElem?_set_ne hj] at h2
        obtain ⟨q1, q2⟩ := f.ok.box j b c h1 h2
        have nb : b ≠ d := fun q => hj (by subst q; exact nodupP f.ok.nd hP h1)
        refine ⟨fun ql => by show upd g.Z d _ b = none; rw [upd_ne nb]; exact q1 ql, q2.keep up (fun _ q => by rw [upd_ne nb]; exact q) (fun dx x q => ?_) (zz b)⟩
        have nd : dx ≠ d := fun z => by subst z; rw [hH] at q; cases q
        rw [upd_ne nd]; exact q
  refine ⟨⟨ok', fun a o h => zz a o (f.st.z a o h), fun a o h n hp => ?_, f.st.p, fun a o h hp => ?_⟩, ⟨f.er.len, fun i e h => ?_, f.er.apart⟩, f.own⟩
  · show upd g.Z d _ a = none
    rw [upd_ne (old a o h hp)]; exact f.st.zold a o h n hp
  · rw [upd_ne (old a o h hp)]; exact f.st.keep a o h hp
  · obtain ⟨v, e1, e2⟩ := f.er.at_ i e h
    refine ⟨v, e1, ?_⟩
    cases e with
    | rv r => exact up v r e2
    | own l =>
      obtain ⟨a, xs, rfl, q1, q2, q3, q4⟩ := e2
      have na : a ≠ d := fun q => q2 (by subst q; exact dm)
      exact ⟨a, xs, rfl, by show upd g.Z d _ a = none; rw [upd_ne na]; exact q1, q2, by rw [upd_ne na]; exact q3, Paired.mapP q4 fun _ _ q => up _ _ q⟩
    | lt l =>
      obtain ⟨a, xs, rfl, q1, q2⟩ := e2
      exact ⟨a, xs, rfl, zz _ _ q1, RpAll.mono zz l xs q2⟩
/-- Z without d -/
def dropZ (Z : Hp) (d : Addr) : Hp := fun a => if a = d then none else Z a
theorem dropZ_ne {Z : Hp} {a : Addr} (h : a ≠ d) : dropZ Z d a = Z a := if_neg h
theorem dropZ_self {Z : Hp} : dropZ Z d d = none := if_pos rfl
theorem dropZ_of {Z : Hp} {a : Addr} {o : HO} (h : dropZ Z d a = some o) : a ≠ d ∧ Z a = some o := by
  by_cases q : a = d
  · subst q; rw [dropZ_self] at h; cases h
  · rw [dropZ_ne q] at h; exact ⟨q, h⟩
theorem Rd.drop {Z : Hp} {a : Addr} {u : HO} (hZ : Z d = some (.frz od (.dK vs))) (hu : ∀ l, u ≠ .dK l) (hu2 : ∀ o l, u ≠ .frz o l) (r : Rd Z a u) : Rd (dropZ Z d) a u := by
  have na : a ≠ d := fun q => by
    subst q
    rcases r with r | ⟨o, r⟩
    · rw [hZ] at r; exact hu2 _ _ (Option.some.inj r).symm
    · rw [hZ] at r; cases r; exact hu _ rfl
  rcases r with r | ⟨o, r⟩
  · exact .inl (by rw [dropZ_ne na]; exact r)
  · exact .inr ⟨o, by rw [dropZ_ne na]; exact r⟩
mutual
theorem Rp.drop {Z : Hp} (hZ : Z d = some (.frz od (.dK vs))) : ∀ (x : D) (v : V), Rp K Z v x → Rp K (dropZ Z d) v x
  | .none, _, r => by cases r; exact .non
  | .bool b, _, r => by cases r; exact .bl b
  | .int i, _, r => by cases r; exact .int i
  | .str x, _, r => by cases r; exact .str x
  | .list ds, _, r => by
    cases r with
    | lst hs ha => exact .lst (Rd.drop hZ (fun _ q => by cases q) (fun _ _ q => by cases q) hs) (RpAll.drop hZ ds _ ha)
  | .tuple ds, _, r => by
    cases r with
    | tup hs ha =>
      refine .tup ?_ (RpAll.drop hZ ds _ ha)
      rcases hs with hs | hs
      · exact .inl (Rd.drop hZ (fun _ q => by cases q) (fun _ _ q => by cases q) hs)
      · exact .inr hs
  | .dict _, _, r => by cases r
theorem RpAll.drop {Z : Hp} (hZ : Z d = some (.frz od (.dK vs))) : ∀ (ds : List D) (us : List V), RpAll K Z us ds → RpAll K (dropZ Z d) us ds
  | [], _, r => by cases r; exact .nil
  | x :: ds, _, r => by
    cases r with
    | cons r1 r2 => exact .cons (Rp.drop hZ x _ r1) (RpAll.drop hZ ds _ r2)
end
theorem RepV.drop (hZ : g.Z d = some (.frz od (.dK vs))) {v : V} {r : RV} (h : RepV K mg g v r) : RepV K mg ⟨dropZ g.Z d, g.P⟩ v r := by
  cases r with
  | d x => exact Rp.drop hZ x v h
  | box n => exact h
  | fn x => exact h
theorem Step.unlock (t : Step K mg g0 H0 g2 s2 H2) (hP : g2.P[n]? = some d) (hn : s2[n]? = some (.lck kvs2)) (hZ : g2.Z d = some (.frz od (.dK vs))) (hz0 : g0.Z d = none) :
    Step K mg g0 H0 ⟨dropZ g2.Z d, g2.P⟩ (s2.set n (.dct kvs2)) (upd H2 d (.dK vs)) := by
  have dm : d ∈ g2.P := List.mem_of_getElem? hP
  have hi : n < s2.length := (List.getElem?_eq_some_iff.mp hn).1
  have hH : H2 d = some (.frz od (.dK vs)) := t.ok.z d _ hZ
  obtain ⟨_, o', vs', h1, h2, hd⟩ := t.ok.box n d _ hP hn
  have ev : vs' = vs := by rw [hZ] at h2; cases h2; rfl
  subst ev
  have old : ∀ a o, H0 a = some o → a ∉ g0.P → a ≠ d := fun a o h hp q => by subst q; exact hp (t.pold h dm)
  refine ⟨⟨fun a o h => ?_, by simpa using t.ok.len, t.ok.nd, fun j b c h1 h2 => ?_⟩, fun a o h => ?_, fun a o h n hp => ?_, t.p, fun a o h hp => ?_⟩
  · obtain ⟨na, h⟩ := dropZ_of h
    rw [upd_ne na]; exact t.ok.z a o h
  · by_cases hj : n = j
    · subst hj
      have eb : d = b := by rw [hP] at h1; cases h1; rfl
      subst eb
      rw [List.getElem?_set_self hi] at h2
      cases h2
      exact ⟨fun _ => dropZ_self, vs', upd_same, Paired.mapP hd fun _ _ q => ⟨q.1, RepV.drop hZ q.2⟩⟩
    · rw [List.getElem?_set_ne hj] at h2
      obtain ⟨q1, q2⟩ := t.ok.box j b c h1 h2
      have nb : b ≠ d := fun q => hj (by subst q; exact nodupP t.ok.nd hP h1)
      refine ⟨fun ql => by show dropZ g2.Z d b = none; rw [dropZ_ne nb]; exact q1 ql, q2.keep (fun _ _ q => RepV.drop hZ q) (fun _ q => by rw [upd_ne nb]; exact q) (fun dx x q => ?_) (fun o q => by show dropZ g2.Z d b = some o; rw [dropZ_ne nb]; exact q)⟩
      have nd : dx ≠ d := fun z => by subst z; rw [hH] at q; cases q
      rw [upd_ne nd]; exact q
  · have na : a ≠ d := fun q => by subst q; rw [hz0] at h; cases h
    show dropZ g2.Z d a = some o
    rw [dropZ_ne na]; exact t.z a o h
  · have na := old a o h hp
    show dropZ g2.Z d a = none
    rw [dropZ_ne na]; exact t.zold a o h n hp
  · rw [upd_ne (old a o h hp)]; exact t.keep a o h hp
theorem FR.unlock (f : FR K mg g0 H0 g2 s2 H2 σ2 env2) (hP : g2.P[n]? = some d) (hn : s2[n]? = some (.lck kvs2)) (hZ : g2.Z d = some (.frz od (.dK vs))) (hz0 : g0.Z d = none) :
    FR K mg g0 H0 ⟨dropZ g2.Z d, g2.P⟩ (s2.set n (.dct kvs2)) (upd H2 d (.dK vs)) σ2 env2 := by
  have dm : d ∈ g2.P := List.mem_of_getElem? hP
  refine ⟨f.st.unlock hP hn hZ hz0, ⟨f.er.len, fun i e h => ?_, f.er.apart⟩, f.own⟩
  obtain ⟨v, e1, e2⟩ := f.er.at_ i e h
  refine ⟨v, e1, ?_⟩
  cases e with
  | rv r => exact RepV.drop hZ e2
  | own l =>
    obtain ⟨a, xs, rfl, q1, q2, q3, q4⟩ := e2
    have na : a ≠ d := fun q => q2 (by subst q; exact dm)
    exact ⟨a, xs, rfl, by show dropZ g2.Z d a = none; rw [dropZ_ne na]; exact q1, q2, by rw [upd_ne na]; exact q3, Paired.mapP q4 fun _ _ q => RepV.drop hZ q⟩
  | lt l =>
    obtain ⟨a, xs, rfl, q1, q2⟩ := e2
    have na : a ≠ d := fun q => by subst q; rw [hZ] at q1; cases q1
    exact ⟨a, xs, rfl, by show dropZ g2.Z d a = _; rw [dropZ_ne na]; exact q1, RpAll.drop hZ l xs q2⟩
end
section
variable {X : Cx} {fld : Str → Str} {E : XK} {g0 : G} {H0 : Hp} {pos apos cpos : Pos} {e tg : Expr} {st : Stmt} {md : DEnv → DM RV} {m : DEnv → DM Fl}
def unlk (n : Nat) (o : Out Fl) : Out Fl := match o with
  | .ok f s2 => match s2[n]? with
    | some (.lck kvs2) => .ok f (s2.set n (.dct kvs2))
    | _ => .bad
  | _ => .bad
/-- the dict that md gives is locked while m runs -/
def sLock (md : DEnv → DM RV) (m : DEnv → DM Fl) : DEnv → DM Fl := fun env s => match md env s with
  | .ok (.box n) _ => match s[n]? with
    | some (.dct kvs) => unlk n (m env (s.set n (.lck kvs)))
    | _ => .bad
  | _ => .bad
theorem ds_lock (h : DS X fld E g0 H0 st m) : DS X fld E g0 H0 st (sLock md m) :=
  psImp (ps_lock h) fun Dd σ H ⟨g, s, env, f, p⟩ => by
    have hr : ∃ n kvs, s[n]? = some (.dct kvs) ∧ PostS X.K X.mg fld E g0 H0 g (unlk n (m env (s.set n (.lck kvs)))) Dd := by
      unfold sLock at p
      cases q : md env s with
      | bad => rw [q] at p; exact p.elim
      | exc e s' => rw [q] at p; exact p.elim
      | ok r s1 =>
        rw [q] at p
        cases r with
        | d _ => exact p.elim
        | fn _ => exact p.elim
        | box n =>
          dsimp only at p
          cases q2 : s[n]? with
          | none => rw [q2] at p; exact p.elim
          | some c =>
            rw [q2] at p
            cases c with
            | dct kvs => exact ⟨n, kvs, q2, p⟩
            | _ => exact p.elim
    obtain ⟨n, kvs, hn, p⟩ := hr
    have hl : n < g.P.length := by rw [f.ok.len]; exact (List.getElem?_eq_some_iff.mp hn).1
    obtain ⟨d, hP⟩ : ∃ d, g.P[n]? = some d := ⟨_, List.getElem?_eq_getElem hl⟩
    obtain ⟨hz, vs, hH, hd⟩ := f.ok.box n d _ hP hn
    have hz := hz rfl
    have hz0 : g0.Z d = none := by
      cases q : g0.Z d with
      | none => rfl
      | some o => rw [f.st.z d o q] at hz; cases hz
    refine ⟨d, .dK vs, hH, trivial, fun od => ?_⟩
    refine ⟨_, _, env, f.lock hP hn hH hd od, ?_⟩
    have facts : ∀ {g2 : G}, Sub ⟨upd g.Z d (.frz od (.dK vs)), g.P⟩ g2 → g2.P[n]? = some d ∧ g2.Z d = some (.frz od (.dK vs)) ∧ Sub g ⟨dropZ g2.Z d, g2.P⟩ := fun {g2} z => by
      obtain ⟨r, er⟩ := z.2
      have er : g2.P = g.P ++ r := er
      refine ⟨by rw [er, List.getElem?_append_left hl]; exact hP, z.1 d _ upd_same, fun a o h => ?_, r, er⟩
      have na : a ≠ d := fun q => by subst q; rw [hz] at h; cases h
      show dropZ g2.Z d a = some o
      rw [dropZ_ne na]
      exact z.1 a o (by show upd g.Z d _ a = some o; rw [upd_ne na]; exact h)
    cases q2 : m env (s.set n (.lck kvs)) with
    | bad => rw [q2] at p; exact p.elim
    | exc e s' => rw [q2] at p; exact p.elim
    | ok fl s2 =>
      rw [q2] at p
      have hr2 : ∃ kvs2, s2[n]? = some (.lck kvs2) ∧ PostS X.K X.mg fld E g0 H0 g (.ok fl (s2.set n (.dct kvs2))) Dd := by
        unfold unlk at p
        dsimp only at p
        cases q3 : s2[n]? with
        | none => rw [q3] at p; exact p.elim
        | some c =>
          rw [q3] at p
          cases c with
          | lck kvs2 => exact ⟨kvs2, rfl, p⟩
          | _ => exact p.elim
      obtain ⟨kvs2, hn2, p⟩ := hr2
      cases fl with
      | nx e => exact fun g2 H2 σ2 f2 z2 => let ⟨a1, a2, a3⟩ := facts z2; ⟨f2.ok.z d _ a2, p _ _ σ2 (f2.unlock a1 hn2 a2 hz0) a3⟩
      | bk e => exact fun g2 H2 σ2 f2 z2 => let ⟨a1, a2, a3⟩ := facts z2; ⟨f2.ok.z d _ a2, p _ _ σ2 (f2.unlock a1 hn2 a2 hz0) a3⟩
      | ct e => exact fun g2 H2 σ2 f2 z2 => let ⟨a1, a2, a3⟩ := facts z2; ⟨f2.ok.z d _ a2, p _ _ σ2 (f2.unlock a1 hn2 a2 hz0) a3⟩
      | rt r => exact fun g2 H2 v t rv z2 => let ⟨a1, a2, a3⟩ := facts z2; ⟨t.ok.z d _ a2, p _ _ v (t.unlock a1 hn2 a2 hz0) (RepV.drop a2 rv) a3⟩
/-! #### the items, keys, values of a dict that is locked -/
def kD : Key → D
  | .inl i => .int i
  | .inr x => .str x
theorem kD_rep {K : PySem.W.Frag} {Z : Hp} : ∀ k : Key, Rp K Z (kV k) (kD k)
  | .inl i => .int i
  | .inr x => .str x
def itemsD : List (Key × RV) → Option (List D)
  | [] => some []
  | (k, .d v) :: r => (itemsD r).map (.tuple [kD k, v] :: ·)
  | _ :: _ => none
def valsD : List (Key × RV) → Option (List D)
  | [] => some []
  | (_, .d v) :: r => (valsD r).map (v :: ·)
  | _ :: _ => none
theorem itemsD_get {K : PySem.W.Frag} {mg : Str → Option Value} {g : G} : ∀ {kvs : List (Key × RV)} {vs : List (Key × V)} {l : List D}, itemsD kvs = some l → Paired (fun p q => p.1 = q.1 ∧ RepV K mg g p.2 q.2) vs kvs →
    l.length = vs.length ∧ ∀ (i : Nat) (x : D), l[i]? = some x → ∀ (k : Key) (v : V), vs[i]? = some (k, v) → ∃ d : D, x = PyData.tuple [kD k, d] ∧ Rp K g.Z v d
  | [], vs, l, h, r => by cases h; cases r; exact ⟨rfl, fun i x e => by simp at e⟩
  | (k, .box _) :: kvs, vs, l, h, r => by cases h
  | (k, .fn _) :: kvs, vs, l, h, r => by cases h
  | (k, .d v) :: kvs, vs, l, h, r => by
    cases r with
    | @cons p _ vs _ r1 r2 =>
      unfold itemsD at h
      obtain ⟨l', e1, rfl⟩ := Option.map_eq_some_iff.mp h
      obtain ⟨i1, i2⟩ := itemsD_get e1 r2
      refine ⟨by simp [i1], fun i x e k' v' e' => ?_⟩
      cases i with
      | zero =>
        simp at e e'
        subst e
        subst e'
        exact ⟨v, by rw [show k' = k from r1.1], r1.2⟩
      | succ i => exact i2 i x (by simpa using e) k' v' (by simpa using e')
theorem valsD_get {K : PySem.W.Frag} {mg : Str → Option Value} {g : G} : ∀ {kvs : List (Key × RV)} {vs : List (Key × V)} {l : List D}, valsD kvs = some l → Paired (fun p q => p.1 = q.1 ∧ RepV K mg g p.2 q.2) vs kvs →
    l.length = vs.length ∧ ∀ (i : Nat) (x : D), l[i]? = some x → ∀ (k : Key) (v : V), vs[i]? = some (k, v) → Rp K g.Z v x
  | [], vs, l, h, r => by cases h; cases r; exact ⟨rfl, fun i x e => by simp at e⟩
  | (k, .box _) :: kvs, vs, l, h, r => by cases h
  | (k, .fn _) :: kvs, vs, l, h, r => by cases h
  | (k, .d v) :: kvs, vs, l, h, r => by
    cases r with
    | @cons p _ vs _ r1 r2 =>
      unfold valsD at h
      obtain ⟨l', e1, rfl⟩ := Option.map_eq_some_iff.mp h
      obtain ⟨i1, i2⟩ := valsD_get e1 r2
      refine ⟨by simp [i1], fun i x e k' v' e' => ?_⟩
      cases i with
      | zero =>
        simp at e e'
        subst e
        subst e'
        exact r1.2
      | succ i => exact i2 i x (by simpa using e) k' v' (by simpa using e')
theorem keys_get {K : PySem.W.Frag} {mg : Str → Option Value} {g : G} {kvs : List (Key × RV)} {vs : List (Key × V)} (h : Paired (fun p q => p.1 = q.1 ∧ RepV K mg g p.2 q.2) vs kvs) : kvs.map (fun p => kD p.1) = vs.map fun p => kD p.1 := by
  induction h with
  | nil => rfl
  | cons r _ ih => rw [List.map_cons, List.map_cons, ih, r.1]
section
variable {K : PySem.W.Frag} {mg : Str → Option Value} {Z : Hp} {d : Addr} {o : Obj} {vs : List (Key × V)} {l : List D}
theorem walks_itm (hZ : Z d = some (.frz o (.dK vs))) (hl : l.length = vs.length) (hx : ∀ (i : Nat) (x : D), l[i]? = some x → ∀ (k : Key) (v : V), vs[i]? = some (k, v) → ∃ y : D, x = PyData.tuple [kD k, y] ∧ Rp K Z v y) : Walks K mg (Iti d o vs) Z l := by
  intro g s H ok hz i
  have hH : H d = some (.frz o (.dK vs)) := ok.z _ _ (hz _ _ hZ)
  refine ⟨fun h => ⟨hH, by omega⟩, fun x e => ⟨⟨hH, by rw [← hl]; exact (List.getElem?_eq_some_iff.mp e).1⟩, fun y H' q => ?_⟩⟩
  obtain ⟨T, k, v, e1, rfl, hT, rfl⟩ := q
  obtain ⟨z, rfl, rz⟩ := hx i x e k v e1
  have st := Step.newZ (o := .tup [kV k, v]) ok hT
  exact ⟨_, st, .tup (.inl (.inl upd_same)) (.cons (kD_rep k) (.cons (Rp.mono (fun a o h => st.z a o (hz a o h)) _ _ rz) .nil))⟩
theorem walks_val (hZ : Z d = some (.frz o (.dK vs))) (hl : l.length = vs.length) (hx : ∀ (i : Nat) (x : D), l[i]? = some x → ∀ (k : Key) (v : V), vs[i]? = some (k, v) → Rp K Z v x) : Walks K mg (Itd d o vs) Z l := by
  intro g s H ok hz i
  have hH : H d = some (.frz o (.dK vs)) := ok.z _ _ (hz _ _ hZ)
  refine ⟨fun h => ⟨hH, by omega⟩, fun x e => ⟨⟨hH, by rw [← hl]; exact (List.getElem?_eq_some_iff.mp e).1⟩, fun y H' q => ?_⟩⟩
  obtain ⟨rfl, k, e1⟩ := q
  exact ⟨g, .refl ok, Rp.mono hz _ _ (hx i x e k y e1)⟩
theorem walks_key (hZ : Z d = some (.frz o (.dK vs))) : Walks K mg (Itk d o vs) Z (vs.map fun p => kD p.1) := by
  intro g s H ok hz i
  have hH : H d = some (.frz o (.dK vs)) := ok.z _ _ (hz _ _ hZ)
  refine ⟨fun h => ⟨hH, by simpa using h⟩, fun x e => ⟨⟨hH, by have := (List.getElem?_eq_some_iff.mp e).1; simpa using this⟩, fun y H' q => ?_⟩⟩
  obtain ⟨rfl, k, v, e1, rfl⟩ := q
  rw [List.getElem?_map, e1] at e
  cases e
  exact ⟨g, .refl ok, kD_rep k⟩
end
def lckAt (r : RV) : DM (List (Key × RV)) := match r with
  | .box n => fun s => match s[n]? with
    | some (.lck l) => .ok l s
    | _ => .bad
  | _ => bad
theorem lck_post {α : Type} {K : PySem.W.Frag} {mg : Str → Option Value} {g : G} {s : S} {H : Hp} {r : RV} {v : V} {F : List (Key × RV) → DM α} {k} (ok : GOk K mg g s H) (rv : RepV K mg g v r) (h : Post K mg fld E g H (bnd (lckAt r) F s) k) :
    ∃ d o vs kvs, v = .ref d ∧ H d = some (.frz o (.dK vs)) ∧ g.Z d = some (.frz o (.dK vs)) ∧ Paired (fun p q => p.1 = q.1 ∧ RepV K mg g p.2 q.2) vs kvs ∧ Post K mg fld E g H (F kvs s) k := by
  cases r with
  | d x => exact h.elim
  | fn x => exact h.elim
  | box n =>
    obtain ⟨d, hP, rfl⟩ := rv
    cases q : s[n]? with
    | none =>
      have e : lckAt (.box n) s = .bad := by unfold lckAt; dsimp only; rw [q]
      rw [bnd_bad e] at h; exact h.elim
    | some c =>
      cases c with
      | lck l =>
        have e : lckAt (.box n) s = .ok l s := by unfold lckAt; dsimp only; rw [q]
        rw [bnd_ok e] at h
        obtain ⟨_, o, vs, h1, h2, h3⟩ := ok.box n d _ hP q
        exact ⟨d, o, vs, l, rfl, h1, h2, h3, h⟩
      | _ =>
        have e : lckAt (.box n) s = .bad := by unfold lckAt; dsimp only; rw [q]
        rw [bnd_bad e] at h; exact h.elim
def optI (o : Option (List D)) : DM (List D) := match o with
  | some l => ret l
  | none => bad
theorem optI_post {K : PySem.W.Frag} {mg : Str → Option Value} {g : G} {s : S} {H : Hp} {o : Option (List D)} {k} (h : Post K mg fld E g H (optI o s) k) : ∃ l, o = some l ∧ Post K mg fld E g H (ret l s) k := by
  cases o with
  | none => exact h.elim
  | some l => exact ⟨l, rfl, h⟩
def iItmD (md : DEnv → DM RV) : DEnv → DM (List D) := fun env => bnd (md env) fun r => bnd (lckAt r) fun kvs => optI (itemsD kvs)
def iValD (md : DEnv → DM RV) : DEnv → DM (List D) := fun env => bnd (md env) fun r => bnd (lckAt r) fun kvs => optI (valsD kvs)
def iKeyD (md : DEnv → DM RV) : DEnv → DM (List D) := fun env => bnd (md env) fun r => bnd (lckAt r) fun kvs => ret (kvs.map fun p => kD p.1)
theorem di_items {elts : List Expr} {kk : Nat} {tpos : Pos} (he : DE X fld E e md) (hbase : attributeBase e "items" X.env (eval e X.env) = eval e X.env := by rfl) (hline : (apos.endLine == cpos.line) = true := by rfl) :
    DI X fld E (.Tuple elts kk tpos) (.Call (.Attribute e "items" apos) [] [] cpos) (iItmD md) :=
  piImp (pi_items he hbase hline) fun σ H R ⟨g, s, env, ok, er, p⟩ => by
    refine ⟨g, s, env, ok, er, p.bind.mono fun g1 s1 H1 r t1 p1 v rv => ?_⟩
    obtain ⟨d, o, vs, kvs, rfl, h1, h2, h3, p2⟩ := lck_post t1.ok rv p1
    obtain ⟨l, el, p3⟩ := optI_post p2
    obtain ⟨q1, q2⟩ := itemsD_get el h3
    exact ⟨d, o, vs, rfl, h1, p3 g1 H1 (.refl t1.ok) _ (walks_itm h2 q1 q2)⟩
theorem di_values (he : DE X fld E e md) (hbase : attributeBase e "values" X.env (eval e X.env) = eval e X.env := by rfl) (hline : (apos.endLine == cpos.line) = true := by rfl) :
    DI X fld E tg (.Call (.Attribute e "values" apos) [] [] cpos) (iValD md) :=
  piImp (pi_values he hbase hline) fun σ H R ⟨g, s, env, ok, er, p⟩ => by
    refine ⟨g, s, env, ok, er, p.bind.mono fun g1 s1 H1 r t1 p1 v rv => ?_⟩
    obtain ⟨d, o, vs, kvs, rfl, h1, h2, h3, p2⟩ := lck_post t1.ok rv p1
    obtain ⟨l, el, p3⟩ := optI_post p2
    obtain ⟨q1, q2⟩ := valsD_get el h3
    exact ⟨d, o, vs, rfl, h1, p3 g1 H1 (.refl t1.ok) _ (walks_val h2 q1 q2)⟩
theorem di_keys (he : DE X fld E e md) : DI X fld E tg e (iKeyD md) :=
  piImp (pi_keys he) fun σ H R ⟨g, s, env, ok, er, p⟩ => by
    refine ⟨g, s, env, ok, er, p.bind.mono fun g1 s1 H1 r t1 p1 v rv => ?_⟩
    obtain ⟨d, o, vs, kvs, rfl, h1, h2, h3, p2⟩ := lck_post t1.ok rv p1
    rw [keys_get h3] at p2
    exact ⟨d, o, rfl, .inl ⟨vs, h1, p2 g1 H1 (.refl t1.ok) _ (walks_key h2)⟩⟩
end
end DL
namespace DL
open PySem PySem.Spec L2
open PyProof.Rows hiding St

/-! ### xs[::-1], != of what stands -/
theorem paired_rev {α β : Type} {R : α → β → Prop} {xs : List α} {l : List β} (h : Paired R xs l) : Paired R xs.reverse l.reverse := by
  induction h with
  | nil => exact .nil
  | cons r _ ih => rw [List.reverse_cons, List.reverse_cons]; exact pairedApp ih (.cons r .nil)
section
variable {X : Cx} {fld : Str → Str} {E : XK} {pos p1 p2 p3 : Pos} {k : Option Str} {e : Expr} {m : DEnv → DM RV}
def revA (r : RV) : DM (List RV) := match r with
  | .d (.list l) => ret (l.map .d).reverse
  | .box n => bnd (boxAt (.box n)) fun l => ret l.reverse
  | _ => bad
def oRev (m : DEnv → DM RV) : DEnv → DM (List RV) := fun env => bnd (m env) revA
theorem do_rev {k} (he : DE X fld E e m) : DO X fld E (.Subscript e (.Slice none none (some (.UnaryOp .USub (.Constant (.int 1) k p1) p2)) p3) pos) (oRev m) :=
  peImp (pe_revL he) fun σ H Q ⟨g, s, env, ok, er, p⟩ => by
    refine ⟨g, s, env, ok, er, p.bind.mono fun g1 s1 H1 r t1 p1 v rv => ?_⟩
    have fin : ∀ {ys : List V} {l : List RV}, Paired (RepV X.K X.mg g1) ys l → revA r s1 = .ok l.reverse s1 → ∀ a, H1 a = none → Q (.ref a) (upd H1 a (.lst ys.reverse)) := fun {ys l} hd e a ha => by
      rw [e] at p1
      have st := Step.newH (o := .lst ys.reverse) t1.ok ha
      exact p1 _ _ st a ys.reverse (t1.fresh ha) (fresh_z t1.ok ha) (fresh_p t1.ok ha) upd_same (paired_rev hd)
    cases r with
    | fn _ => exact p1.elim
    | d x =>
      cases x with
      | list l =>
        cases rv with
        | lst hs hd => exact ⟨_, _, rfl, .inl (DL.Rd.mono t1.ok.z hs), fin (paired_data hd) rfl⟩
      | _ => exact p1.elim
    | box n =>
      obtain ⟨n', l, en, hn, p2⟩ := box_post2 p1
      cases en
      obtain ⟨ad, xs, rfl, hP, hH, hd⟩ := box_rep t1.ok rv hn
      refine ⟨_, _, rfl, .inl (.inl hH), fin hd ?_⟩
      show bnd (boxAt (.box n)) _ s1 = _
      rw [bnd_ok (boxAt_ok hn)]; rfl
theorem os_ne : OpS X fld E (rNeA X.K) dNe := by
  intro g s H v u x y Q ok rx ry p
  unfold dNe at p
  cases e : eqD x y with
  | none => rw [e] at p; exact p.elim
  | some b =>
    rw [e] at p
    have q : Q (.bl (!b)) H := post_b ok p
    rcases eqD_cases e with ⟨a, c, rfl, rfl, rfl⟩ | ⟨h1, h2, rfl⟩
    · cases rx; cases ry
      refine .inl ⟨rfl, ?_⟩
      rw [dec_str]; exact q
    · exact .inr ⟨x, y, rx, ry, h1, h2, q⟩
end
end DL
namespace DL
open PySem PySem.Spec L2
open PyProof.Rows hiding St

/-! ### a tuple times 0, times 1; a list times k -/
theorem tuple_mul0W (l : Addr) (items : Array Value) (n : Nat) (dd : Option Addr) (sl : Array (Option Value)) (x : Int) (u : Tok) (c0 : (decide (x < -(2 ^ 63)) || decide (x ≥ 2 ^ 63)) = false) (c1 : (items.isEmpty || x == 1) = false) (c2 : (decide (x ≤ 0) || items.isEmpty) = true) :
    Meets (Builtin.«tuple.__mul__» ⟨[.ref l, .int x u], []⟩) (fun _ R s => s.heap.get? l = some { cls := .type "tuple", dict := dd, data := .seq items n, slots := sl } ∧
      R (.ok (.ret (Value.ref s.heap.objs.size))) { s with heap := s.heap.push { cls := Value.type "tuple", data := Data.seq #[] }, toks := s.toks }) :=
  .of_wp fun prog w A R s h => by
    obtain ⟨hp, g, d, tk, os⟩ := s
    obtain ⟨hl, h⟩ := h
    have f1 := AutoSeq1.idx_int
    wp_walk using wpAny_loadPart' hl
    repeat (first
      | (refine wpAny_ite_false (decide_eq_false (by rw [c0]; exact Bool.false_ne_true)) ?_; wp_walk using wpAny_loadPart' hl)
      | (refine wpAny_ite_false (decide_eq_false (by rw [c1]; exact Bool.false_ne_true)) ?_; wp_walk using wpAny_loadPart' hl)
      | (refine wpAny_ite_true (decide_eq_true c2) ?_; wp_walk using wpAny_loadPart' hl))
    exact ⟨_, rfl, h⟩
theorem tuple_mul1W (l : Addr) (items : Array Value) (n : Nat) (dd : Option Addr) (sl : Array (Option Value)) (x : Int) (u : Tok) (c0 : (decide (x < -(2 ^ 63)) || decide (x ≥ 2 ^ 63)) = false) (c1 : (items.isEmpty || x == 1) = true) :
    Meets (Builtin.«tuple.__mul__» ⟨[.ref l, .int x u], []⟩) (fun _ R s => s.heap.get? l = some { cls := .type "tuple", dict := dd, data := .seq items n, slots := sl } ∧
      R (.ok (.ret (Value.ref l))) s) :=
  .of_wp fun prog w A R s h => by
    obtain ⟨hp, g, d, tk, os⟩ := s
    obtain ⟨hl, h⟩ := h
    have f1 := AutoSeq1.idx_int
    wp_walk using wpAny_loadPart' hl
    repeat (first
      | (refine wpAny_ite_false (decide_eq_false (by rw [c0]; exact Bool.false_ne_true)) ?_; wp_walk using wpAny_loadPart' hl)
      | (refine wpAny_ite_true (decide_eq_true c1) ?_; wp_walk using wpAny_loadPart' hl))
    exact ⟨_, rfl, h⟩
def rRep0 (K : PySem.W.Frag) : R2 := fun x y H Q => ∃ l k xs, x = .ref l ∧ y = .int k ∧ SqT K H l xs ∧ xs ≠ [] ∧ -(2 ^ 63) ≤ k ∧ k ≤ 0 ∧ ∀ p, H p = none → Q (.ref p) (upd H p (.tup []))
def rRep1 (K : PySem.W.Frag) : R2 := fun x y H Q => ∃ l k xs, x = .ref l ∧ y = .int k ∧ SqT K H l xs ∧ (xs = [] ∨ k = 1) ∧ -(2 ^ 63) ≤ k ∧ k < 2 ^ 63 ∧ Q (.ref l) H
theorem op_rep0 {X : Cx} : OpR X (binaryOp .Mult) (rRep0 X.K) := by
  intro pins s σ H x y v u Q I rx ry h
  obtain ⟨l, k, xs, rfl, rfl, hT, hne, h1, h2, q⟩ := h
  cases rx
  obtain ⟨t, rfl⟩ := ry
  obtain ⟨its, r, ⟨⟨cls, dd, data, sl⟩, ho, hc, n, hd⟩, hs⟩ := I.tuple hT
  simp only at hc hd
  subst hc hd
  have hle : its.length = xs.length := r.length.symm
  have hn : its ≠ [] := fun e => hne (by
    rw [e] at hle
    exact List.eq_nil_of_length_eq_zero hle.symm)
  have hi : its.toArray.isEmpty = false := by
    cases its with
    | nil => exact absurd rfl hn
    | cons a b => rfl
  have c0 : (decide (k < -(2 ^ 63)) || decide (k ≥ 2 ^ 63)) = false := by
    rw [decide_eq_false (by omega), decide_eq_false (by omega)] <;> rfl
  have c1 : (its.toArray.isEmpty || k == 1) = false := by
    rw [hi, Bool.false_or]
    exact beq_eq_false_iff_ne.mpr (by omega)
  have c2 : (decide (k ≤ 0) || its.toArray.isEmpty) = true := by
    rw [decide_eq_true (by omega)]; rfl
  refine wpAny_binaryOp_repeat_ref (T := "tuple") (U := "int") (by decide) ⟨_, ho, rfl⟩ (fun s' => typeIs_int s' k t) noFill_tuple_mul F.fills_int_mul F.slot_int_rmul repeat_tuple F.slot_int_index.lookup
    (call_meets F.slot_int_rmul (typeIs_int s k t) F.entry_int_rmul (F.args_int_rmul_2 _ _) (int_rmul_tuple k t l its.toArray n dd sl)
      ⟨ho, rfl, ⟨_, ho, rfl⟩, call_meets F.slot_tuple_mul ⟨_, ho, rfl⟩ F.entry_tuple_mul (F.args_tuple_mul_2 _ _) (tuple_mul0W l its.toArray n dd sl k t c0 c1 c2) ⟨ho, ?_⟩⟩)
  refine ⟨.ref s.heap.objs.size, _, I.laid (t' := s.toks) (o := .tup []) (fun b ob q => Heap.get?_push_of_some _ q) (Nat.le_refl _) ?_, rfl, q _ (I.hok.fresh (Nat.le_refl _))⟩
  exact ⟨Nat.zero_le _, [], .nil, IsTup.new _ _⟩
theorem op_rep1 {X : Cx} : OpR X (binaryOp .Mult) (rRep1 X.K) := by
  intro pins s σ H x y v u Q I rx ry h
  obtain ⟨l, k, xs, rfl, rfl, hT, hne, h1, h2, q⟩ := h
  cases rx
  obtain ⟨t, rfl⟩ := ry
  obtain ⟨its, r, ⟨⟨cls, dd, data, sl⟩, ho, hc, n, hd⟩, hs⟩ := I.tuple hT
  simp only at hc hd
  subst hc hd
  have hle : its.length = xs.length := r.length.symm
  have c0 : (decide (k < -(2 ^ 63)) || decide (k ≥ 2 ^ 63)) = false := by
    rw [decide_eq_false (by omega), decide_eq_false (by omega)] <;> rfl
  have c1 : (its.toArray.isEmpty || k == 1) = true := by
    rcases hne with e | e
    · subst e
      have : its = [] := List.eq_nil_of_length_eq_zero (by simpa using hle)
      subst this; rfl
    · subst e; simp
  exact wpAny_binaryOp_repeat_ref (T := "tuple") (U := "int") (by decide) ⟨_, ho, rfl⟩ (fun s' => typeIs_int s' k t) noFill_tuple_mul F.fills_int_mul F.slot_int_rmul repeat_tuple F.slot_int_index.lookup
    (call_meets F.slot_int_rmul (typeIs_int s k t) F.entry_int_rmul (F.args_int_rmul_2 _ _) (int_rmul_tuple k t l its.toArray n dd sl)
      ⟨ho, rfl, ⟨_, ho, rfl⟩, call_meets F.slot_tuple_mul ⟨_, ho, rfl⟩ F.entry_tuple_mul (F.args_tuple_mul_2 _ _) (tuple_mul1W l its.toArray n dd sl k t c0 c1) ⟨ho, ⟨.ref l, H, I, rfl, q⟩⟩⟩)
section
variable {X : Cx} {fld : Str → Str} {E : XK} {pos : Pos} {e f : Expr} {mk : DEnv → DM RV} {mo : DEnv → DM (List RV)}
def dMulB : D → D → DM RV
  | .tuple l, .int k => if -(2 ^ 63) ≤ k ∧ k < 2 ^ 63 then (if (l.isEmpty || k == 1) = true then ret (.d (.tuple l)) else if k ≤ 0 then ret (.d (.tuple [])) else dMul (.tuple l) (.int k)) else bad
  | x, y => dMul x y
theorem od_mulB : OpD X fld E (fun x y H Q => rMulA X.K x y H Q ∨ (rRep0 X.K x y H Q ∨ rRep1 X.K x y H Q)) dMulB := by
  intro g s H v u x y Q ok rx ry p
  have gen : dMulB x y = dMul x y → rMulA X.K v u H Q ∨ (rRep0 X.K v u H Q ∨ rRep1 X.K v u H Q) := fun e => .inl (od_mul g s H v u x y Q ok rx ry (by rw [← e]; exact p))
  cases x with
  | tuple l =>
    cases y with
    | int k =>
      unfold dMulB at p
      dsimp only at p
      by_cases hk : -(2 ^ 63) ≤ k ∧ k < 2 ^ 63
      · rw [if_pos hk] at p
        by_cases h1 : (l.isEmpty || k == 1) = true
        · rw [if_pos h1] at p
          cases rx with
          | @tup a xs _ hs hd =>
            cases ry
            refine .inr (.inr ⟨a, k, xs, rfl, rfl, sqT_mono ok.z hs, ?_, hk.1, hk.2, p g H (.refl ok) _ (.tup hs hd)⟩)
            rcases Bool.or_eq_true_iff.mp h1 with q | q
            · have : l = [] := List.isEmpty_iff.mp q
              subst this
              cases hd
              exact .inl rfl
            · exact .inr (by simpa using q)
        · rw [if_neg h1] at p
          by_cases h0 : k ≤ 0
          · rw [if_pos h0] at p
            cases rx with
            | @tup a xs _ hs hd =>
              cases ry
              refine .inr (.inl ⟨a, k, xs, rfl, rfl, sqT_mono ok.z hs, fun q => ?_, hk.1, h0, fun b hb => post_newT ok p .nil hb⟩)
              subst q
              cases hd
              exact h1 rfl
          · exact gen (by unfold dMulB; dsimp only; rw [if_pos hk, if_neg h1, if_neg h0])
      · rw [if_neg hk] at p; exact p.elim
    | _ => exact gen rfl
  | _ => cases y <;> exact gen rfl
/-- [..] * k -/
theorem paired_repl {α β : Type} {R : α → β → Prop} {xs : List α} {l : List β} (h : Paired R xs l) : ∀ n : Nat, Paired R (List.replicate n xs).flatten (List.replicate n l).flatten
  | 0 => .nil
  | n + 1 => by
    rw [List.replicate_succ, List.replicate_succ, List.flatten_cons, List.flatten_cons]
    exact pairedApp h (paired_repl h n)
def repA (l : List RV) (r : RV) : DM (List RV) := match r with
  | .d (.int k) => if -(2 ^ 63) ≤ k ∧ k < 2 ^ 63 ∧ l.length * k.toNat ≤ sizeLine then ret (List.replicate k.toNat l).flatten else bad
  | _ => bad
def oRep (mo : DEnv → DM (List RV)) (mk : DEnv → DM RV) : DEnv → DM (List RV) := fun env => bnd (mo env) fun l => bnd (mk env) fun r => repA l r
theorem do_rep (h : DO X fld E e mo) (hk : DE X fld E f mk) : DO X fld E (.BinOp e .Mult f pos) (oRep mo mk) :=
  peImp (pe_op op_rep h hk) fun σ H Q ⟨g, s, env, ok, er, p⟩ => by
    refine ⟨g, s, env, ok, er, p.bind.mono fun g1 s1 H1 l t1 p1 a xs hn hz hP hH hd => ?_⟩
    refine ⟨g1, s1, env, t1.ok, er.step t1, p1.bind.mono fun g2 s2 H2 r t2 p2 v rv => ?_⟩
    cases r with
    | fn _ => exact p2.elim
    | box _ => exact p2.elim
    | d x =>
      cases x with
      | int k =>
        cases rv
        unfold repA at p2
        dsimp only at p2
        by_cases q : -(2 ^ 63) ≤ k ∧ k < 2 ^ 63 ∧ l.length * k.toNat ≤ sizeLine
        · rw [if_pos q] at p2
          refine ⟨a, k, xs, rfl, rfl, t2.keep a _ hH hP, q.1, q.2.1, by rw [Paired.length hd]; exact q.2.2, fun b hb => ?_⟩
          have st := Step.newH (o := .lst (List.replicate k.toNat xs).flatten) t2.ok hb
          exact p2 _ _ st b _ (t1.fresh (t2.fresh hb)) (fresh_z t2.ok hb) (fresh_p t2.ok hb) upd_same (paired_repl (Paired.mapP hd fun _ _ r => RepV.step t2 r) _)
        · rw [if_neg q] at p2; exact p2.elim
      | _ => exact p2.elim
end
end DL
namespace DL
open PySem PySem.Spec L2
open PyProof.Rows hiding St

/-! ### extend of a cell; enumerate of what may be a cell -/
section
variable {X : Cx} {fld : Str → Str} {E : XK} {g0 : G} {H0 : Hp} {pos apos cpos p tpos : Pos} {e o ea eb : Expr} {body : List Stmt} {m mo mv : DEnv → DM RV} {t1 t2 : TgF} {b : DEnv → DM Fl} {L L1 L2 : List Nat}
def listOf (y : RV) : DM (List RV) := match y with
  | .d (.list l) => ret (l.map .d)
  | .box n => boxAt (.box n)
  | _ => bad
theorem listOf_post {α : Type} {K : PySem.W.Frag} {mg : Str → Option Value} {g : G} {s : S} {H : Hp} {y : RV} {v : V} {F : List RV → DM α} {k} (ok : GOk K mg g s H) (rv : RepV K mg g v y) (h : Post K mg fld E g H (bnd (listOf y) F s) k) :
    ∃ b zs l, v = .ref b ∧ Rd H b (.lst zs) ∧ Paired (RepV K mg g) zs l ∧ Post K mg fld E g H (F l s) k := by
  cases y with
  | fn _ => exact h.elim
  | d x =>
    cases x with
    | list l =>
      cases rv with
      | lst hs hd => exact ⟨_, _, _, rfl, DL.Rd.mono ok.z hs, paired_data hd, h⟩
    | _ => exact h.elim
  | box n =>
    have h : Post K mg fld E g H (bnd (boxAt (.box n)) F s) k := h
    obtain ⟨n', l, en, hn, p2⟩ := box_post2 h
    cases en
    obtain ⟨ad, xs, rfl, hP, hH, hd⟩ := box_rep ok rv hn
    exact ⟨ad, xs, l, rfl, .inl hH, hd, p2⟩
def eLExt (mo mv : DEnv → DM RV) : DEnv → DM RV := fun env => bnd (mo env) fun r => bnd (boxAt r) fun _ => bnd (mv env) fun y => bnd (listOf y) fun ys => bnd (boxAt r) fun l => bnd (guardM (decide (l.length + ys.length ≤ sizeLine))) fun _ => putL r (l ++ ys) (.d .none)
theorem de_lext (ho : DE X fld E o mo) (h : DE X fld E e mv) (hbase : attributeBase o "extend" X.env (eval o X.env) = eval o X.env := by rfl)
    (hfew : ((backTo cpos (starEach [e] X.env)).all (fun x => !x.1) && (backToKw cpos (keywordEach [] X.env)).all (fun x => x.1.isSome)
      && decide ([e].length + ([] : List Keyword).length + (if ([] : List Keyword).isEmpty then 0 else 1) < 30)) = true := by rfl)
    (hline : (apos.endLine == cpos.line) = true := by rfl) (hs : starEach [e] X.env = (false, eval e X.env) :: starEach [] X.env := by rfl) :
    DE X fld E (.Call (.Attribute o "extend" apos) [e] [] cpos) (eLExt mo mv) :=
  peImp (pe_bm PySem.F.plainAttrs_list PySem.F.slot_list_extend PySem.F.type_list_extend mt_extR ho (pa_cons h pa_nil hs) hbase hfew hline hs rfl) fun σ H Q ⟨g, s, env, ok, er, pp⟩ => by
    refine ⟨g, s, env, ok, er, pp.bind.mono fun g1 s1 H1 r t1 p1 v rv => ?_⟩
    obtain ⟨n, l, rfl, hn, p2⟩ := box_post2 p1
    obtain ⟨ad, xs, rfl, hP, hH, hd⟩ := box_rep t1.ok rv hn
    refine ⟨.inl ⟨rfl, _, .inl (.inl hH)⟩, g1, s1, env, t1.ok, er.step t1, p2.bind.mono fun g2 s2 H2 y t2 p3 w rw' => ?_⟩
    obtain ⟨b, zs, ys, rfl, hb, hzs, p4⟩ := listOf_post t2.ok rw' p3
    obtain ⟨n', l2, en, hn2, p5⟩ := box_post2 p4
    cases en
    obtain ⟨ad', xs2, ea, hP2, hH2, hd2⟩ := box_rep t2.ok (rv.step t2) hn2
    cases ea
    obtain ⟨hz, p6⟩ := guard_post p5
    exact ⟨ad, b, xs2, zs, rfl, rfl, hH2, hb, by rw [Paired.length hd2, Paired.length hzs]; exact of_decide_eq_true hz, putL_post t2.ok hP2 hn2 (pairedApp hd2 hzs) (show RepV X.K X.mg g2 .non (.d .none) from Rp.non) p6⟩
theorem PG.or {tg : Expr} {t t' : TG} (h : PG X tg t) (h' : PG X tg t') : PG X tg (fun v σ H Q => t v σ H Q ∨ t' v σ H Q) := ⟨fun pins s σ H v u Q I r q => q.elim (fun q => h.run pins s σ H v u Q I r q) fun q => h'.run pins s σ H v u Q I r q⟩
theorem ForR.mono {g g' : TG} {tb : TS} {D : Ends} {σ : St} {J : It} {H1 : Hp} (h : ForR g tb D σ J H1) (hg : ∀ v σ H Q, g v σ H Q → g' v σ H Q) : ForR g' tb D σ J H1 := by
  obtain ⟨W, w0, step⟩ := h
  refine ⟨W, w0, fun i m σ H w => ?_⟩
  rcases step i m σ H w with q | ⟨go, N, hN, y⟩
  · exact .inl q
  · exact .inr ⟨go, N, hN, fun x H' q => hg _ _ _ _ (y x H' q)⟩
/-- a pair of a number and a thing -/
def upG2 (K : PySem.W.Frag) (mg : Str → Option Value) (fld : Str → Str) (E : XK) (L : List Nat) (t1 t2 : TgF) : TG := fun v σ H Q => ∃ g s env T x r, ∃ i : Int, GOk K mg g s H ∧ ER K mg g H σ env ∧ v = .ref T ∧ H T = some (.tup [.int i, x]) ∧ RepV K mg g x r ∧
  Post K mg fld E g H (bnd (t1 (.d (.int i)) env) (fun e => t2 r e) s) fun g' _ H' env' => ∀ σ', ER K mg g' H' σ' env' → Kept L σ env σ' env' → Q σ' H'
theorem dg_pair {k : Nat} (hc : X.calm = true) (h1 : DG X fld E L1 ea t1) (h2 : DG X fld E L2 eb t2) (hs1 : (assignEach [ea, eb] X.env).map (·.2) = assign ea X.env :: (assignEach [eb] X.env).map (·.2) := by rfl)
    (hs2 : (assignEach [eb] X.env).map (·.2) = assign eb X.env :: (assignEach [] X.env).map (·.2) := by rfl) (hn : (assignEach [ea, eb] X.env).length = 2 := by rfl) (hst : (assignEach [ea, eb] X.env).findIdx? (·.1) = none := by rfl) :
    PG X (.Tuple [ea, eb] k tpos) (upG2 X.K X.mg fld E (L1 ++ L2) t1 t2) :=
  pgImp (pg_tup hc (pgs_cons h1 (pgs_cons h2 pgs_nil hs2) hs1) hn hst) fun v σ H Q ⟨g, s, env, T, x, r, i, ok, er, ev, hT, rv, p⟩ => by
    subst ev
    refine ⟨T, [.int i, x], rfl, .inl (.inl hT), rfl, .int i, [x], rfl, g, s, env, .d (.int i), ok, er, .int i, p.bind.mono fun g1 s1 H1 env1 t1' p1 σ1 er1 k1 => ?_⟩
    refine ⟨x, [], rfl, g1, s1, env1, r, t1'.ok, er1, rv.step t1', p1.mono fun g2 s2 H2 env2 t2' p2 σ2 er2 k2 => ?_⟩
    exact ⟨rfl, p2 σ2 er2 (k1.trans k2)⟩
def forE (n : Nat) (t1 t2 : TgF) (body : DEnv → DM Fl) : Nat → Nat → DEnv → DM Fl
  | 0, _, _ => bad
  | k + 1, i, env => bnd (boxAt (.box n)) fun l => match l[i]? with
    | none => ret (.nx env)
    | some r => bnd (bnd (t1 (.d (.int (i : Int))) env) fun e => t2 r e) fun e => bnd (body e) fun f => match f with
      | .nx e => forE n t1 t2 body k (i + 1) e
      | .ct e => forE n t1 t2 body k (i + 1) e
      | .bk e => ret (.nx e)
      | .rt r => ret (.rt r)
theorem forE_core {gg1 : G} {s1 : S} {H1 : Hp} {σ : St} {env : DEnv} {n k : Nat} {a : Addr} {Dd : Ends} (f : FR X.K X.mg g0 H0 gg1 s1 H1 σ env) (hP : gg1.P[n]? = some a) (p : PostS X.K X.mg fld E g0 H0 gg1 (forE n t1 t2 b k 0 env s1) Dd) :
    ForR (upG2 X.K X.mg fld E L t1 t2) (upS X.K X.mg fld E g0 H0 b) Dd σ (Ite X.K a) H1 := by
  refine ⟨fun i m σ' H' => ∃ g' s' env', FR X.K X.mg g0 H0 g' s' H' σ' env' ∧ Sub gg1 g' ∧ PostS X.K X.mg fld E g0 H0 gg1 (forE n t1 t2 b m i env' s') Dd, ⟨k, gg1, s1, env, f, .refl, p⟩, ?_⟩
  rintro i m σ' H' ⟨g', s', env', f', hz, p'⟩
  cases m with
  | zero => exact p'.elim
  | succ m =>
    unfold forE at p'
    obtain ⟨n', l, en, hn, p2⟩ := boxAt_postS p'
    cases en
    have hP' : g'.P[n]? = some a := by
      obtain ⟨r, e⟩ := hz.2
      rw [e, List.getElem?_append_left (List.getElem?_eq_some_iff.mp hP).1]; exact hP
    obtain ⟨_, xs, hH, hd⟩ := f'.ok.box n a _ hP' hn
    cases q : l[i]? with
    | none =>
      rw [q] at p2
      have hl : l.length ≤ i := List.getElem?_eq_none_iff.mp q
      exact .inl ⟨⟨xs, .inl (.inl hH), by rw [Paired.length hd]; exact hl⟩, p2 g' H' σ' f' hz⟩
    | some r =>
      rw [q] at p2
      obtain ⟨v, hv, rv⟩ := paired_get hd q
      refine .inr ⟨⟨xs, v, .inl (.inl hH), hv⟩, fun σ2 H2 => ∃ g2 s2 env2, FR X.K X.mg g0 H0 g2 s2 H2 σ2 env2 ∧ Sub gg1 g2 ∧ PostS X.K X.mg fld E g0 H0 gg1 (forE n t1 t2 b m (i + 1) env2 s2) Dd, fun σ2 H2 h => ⟨m, Nat.lt_succ_self _, h⟩, fun x H2 y => ?_⟩
      obtain ⟨T, x', rfl, hT, rfl, y⟩ := y
      have ex := y xs (.inl (.inl hH))
      rw [hv] at ex
      cases ex
      have st := Step.newH (o := .tup [.int (i : Nat), v]) f'.ok hT
      have f2 := f'.step st
      refine ⟨g', s', env', T, v, r, (i : Nat), st.ok, f2.er, rfl, upd_same, rv, ?_⟩
      have p3 : PostS X.K X.mg fld E g0 H0 gg1 (bnd (bnd (t1 (.d (.int (i : Int))) env') fun e => t2 r e) (fun e => bnd (b e) fun f => match f with
        | .nx e => forE n t1 t2 b m (i + 1) e
        | .ct e => forE n t1 t2 b m (i + 1) e
        | .bk e => ret (.nx e)
        | .rt r => ret (.rt r)) s') Dd := p2
      cases q2 : (bnd (t1 (.d (.int (i : Int))) env') fun e => t2 r e) s' with
      | bad => rw [bnd_bad q2] at p3; exact p3
      | exc e s'' => rw [bnd_exc q2] at p3; exact exc_up f2 p3
      | ok env3 s3 =>
        rw [bnd_ok q2] at p3
        intro g3 H3 t3 σ3 er3 k3
        have f3 := f2.kept t3 er3 k3
        have z3 : Sub gg1 g3 := Sub.trans hz t3.sub
        refine ⟨g3, s3, env3, f3, ?_⟩
        cases q3 : b env3 s3 with
        | bad => rw [bnd_bad q3] at p3; exact p3
        | exc e s'' => rw [bnd_exc q3] at p3; exact p3
        | ok fl s4 =>
          rw [bnd_ok q3] at p3
          cases fl with
          | nx e => exact fun g4 H4 σ4 f4 z4 => ⟨g4, s4, e, f4, z3.trans z4, p3⟩
          | ct e => exact fun g4 H4 σ4 f4 z4 => ⟨g4, s4, e, f4, z3.trans z4, p3⟩
          | bk e => exact fun g4 H4 σ4 f4 z4 => p3 g4 H4 σ4 f4 (z3.trans z4)
          | rt r => exact fun g4 H4 v t rv q => p3 g4 H4 v t rv (z3.trans q)
def sForEU (m : DEnv → DM RV) (t1 t2 : TgF) (body : DEnv → DM Fl) : DEnv → DM Fl := fun env => bnd (m env) fun r => match r with
  | .box n => bnd (boxAt (.box n)) fun l => forE n t1 t2 body (l.length + 1) 0 env
  | r => bnd (items r) fun l => forL (tgT 2 (tgsCons t1 (tgsCons t2 tgsNil))) body (enumD 0 l) env
theorem ds_forEU {kk : Nat} (hp : PassesOwn (model X.prog X.w) X.A X.env X.xe) (hc : X.calm = true) (hg : Gl X "enumerate") (hm : X.mg "enumerate" = none) (he : DE X fld E e m) (h1 : DG X fld E L1 ea t1) (h2 : DG X fld E L2 eb t2) (hb : DSs X fld E g0 H0 body b)
    (hs1 : (assignEach [ea, eb] X.env).map (·.2) = assign ea X.env :: (assignEach [eb] X.env).map (·.2) := by rfl)
    (hs2 : (assignEach [eb] X.env).map (·.2) = assign eb X.env :: (assignEach [] X.env).map (·.2) := by rfl) (hn : (assignEach [ea, eb] X.env).length = 2 := by rfl) (hst : (assignEach [ea, eb] X.env).findIdx? (·.1) = none := by rfl)
    (hse : starEach [e] X.env = [(false, eval e X.env)] := by rfl) (hs : ∀ x, foldedSetIterable (.Call (.Name "enumerate" p) [e] [] pos) X.env x = pure x := by intro _; rfl) :
    DS X fld E g0 H0 (.For (.Tuple [ea, eb] kk tpos) (.Call (.Name "enumerate" p) [e] [] pos) body [] cpos) (sForEU m t1 t2 b) :=
  psImp (ps_for hp hc (pi_enumA hg hm (pa_cons he pa_nil hse) hse) (PG.or (dg_tup hc (dgs_cons h1 (dgs_cons h2 dgs_nil hs2) hs1) hn hst) (dg_pair hc h1 h2 hs1 hs2 hn hst)) hb hs) fun Dd σ H ⟨g, s, env, f, p⟩ => by
    refine ⟨g, s, env, f.ok, f.er, ?_⟩
    unfold sForEU at p
    cases q : m env s with
    | bad => rw [bnd_bad q] at p; exact p
    | exc e s' => rw [bnd_exc q] at p; exact exc_up f p
    | ok r s1 =>
      rw [bnd_ok q] at p
      intro g1 H1 t1' v rv
      have f1 := f.step t1'
      let gU : TG := fun v σ H Q => upG X.K X.mg fld E (L1 ++ (L2 ++ [])) (tgT 2 (tgsCons t1 (tgsCons t2 tgsNil))) v σ H Q ∨ upG2 X.K X.mg fld E (L1 ++ L2) t1 t2 v σ H Q
      cases r with
      | fn _ => exact p.elim
      | box n =>
        obtain ⟨n', l, en, hn, p2⟩ := boxAt_postS p
        cases en
        obtain ⟨a, xs, rfl, hP, hH, hd⟩ := box_rep t1'.ok rv hn
        have bx : ForR gU (upS X.K X.mg fld E g0 H0 b) Dd σ (Ite X.K a) H1 := ForR.mono (forE_core (L := L1 ++ L2) f1 hP (p2.z t1'.sub)) fun _ _ _ _ q => Or.inr q
        exact ⟨a, xs, rfl, .inl ⟨.inl (.inl hH), bx⟩⟩
      | d x =>
        cases x with
        | list l =>
          cases rv with
          | @lst a xs _ hs hd =>
            have bx : ForR gU (upS X.K X.mg fld E g0 H0 b) Dd σ (Ite X.K a) H1 := ForR.mono (for_core (L := L1 ++ (L2 ++ [])) f1 (walks_enumL (.inl hs) hd) (PostS.z (o := forL _ b (enumD 0 l) env s1) p t1'.sub)) fun _ _ _ _ q => Or.inl q
            exact ⟨_, _, rfl, .inl ⟨.inl (DL.Rd.mono t1'.ok.z hs), bx⟩⟩
        | tuple l =>
          cases rv with
          | @tup a xs _ hs hd =>
            have bx : ForR gU (upS X.K X.mg fld E g0 H0 b) Dd σ (IteT X.K a) H1 := ForR.mono (for_core (L := L1 ++ (L2 ++ [])) f1 (walks_enumT hs hd) (PostS.z (o := forL _ b (enumD 0 l) env s1) p t1'.sub)) fun _ _ _ _ q => Or.inl q
            exact ⟨_, _, rfl, .inr ⟨sqT_mono t1'.ok.z hs, bx⟩⟩
        | _ => exact p.elim
end
end DL
namespace L39
open PySem PySem.Spec L2 DL
open PyProof.Rows hiding St

def topS (i : Nat) : Stmt := PySem.Challenge.pw_barestack_k39_whole_known_nets_verdicts.main.body.getD i (.Pass ⟨0, 0, 0, 0⟩)
abbrev s_is_whole : Stmt := topS 2
abbrev s_is_number : Stmt := topS 3
abbrev s_is_word : Stmt := topS 4
abbrev s_is_tuple_of : Stmt := topS 5
abbrev s_is_short_tuple : Stmt := topS 6
abbrev s_is_shuffle : Stmt := topS 12
abbrev s_looks_of : Stmt := topS 13
abbrev s_is_headed : Stmt := topS 25
abbrev s_is_plain_item : Stmt := topS 26
abbrev s_bodies_in : Stmt := topS 27
abbrev s_is_item : Stmt := topS 28
abbrev s_is_body : Stmt := topS 29
abbrev s_taken_by : Stmt := topS 30
abbrev s_left_by : Stmt := topS 31
abbrev s_size_of : Stmt := topS 33
abbrev s_Place___init__ : Stmt := methOf (topS 34) 0
abbrev s_places_of : Stmt := topS 35
abbrev s_items_in_all : Stmt := topS 39
abbrev s_is_code_form : Stmt := topS 40
abbrev s_check_code : Stmt := topS 47
abbrev s_check_f : Stmt := topS 48
abbrev s_check_place : Stmt := topS 49
abbrev s_net_of_item : Stmt := topS 55
abbrev s_net_of_body : Stmt := topS 56
abbrev s_nets_of : Stmt := topS 57
abbrev s_is_unlike : Stmt := topS 58
abbrev s_unlike_places : Stmt := topS 59
abbrev s_heights_in : Stmt := topS 60
abbrev s_Effects_deeper : Stmt := methOf (topS 61) 2
abbrev s_Effects_find_depths : Stmt := methOf (topS 61) 1
abbrev s_Effects___init__ : Stmt := methOf (topS 61) 0
abbrev s_Effects_told : Stmt := methOf (topS 61) 4
abbrev s_Effects_verdict : Stmt := methOf (topS 61) 5
abbrev s_check_even : Stmt := topS 63
abbrev s_nets : Stmt := topS 65
abbrev s_verdict : Stmt := topS 66
abbrev s_Effects_ring : Stmt := methOf (topS 61) 3
abbrev s_ring : Stmt := topS 67
abbrev s_effects : Stmt := topS 68
abbrev s_height_at : Stmt := topS 69
abbrev s__law_pail : Stmt := topS 71
abbrev s__law_deal : Stmt := topS 72
abbrev s__law_inner : Stmt := topS 74
abbrev s__law_items : Stmt := topS 73
abbrev s__law_many : Stmt := topS 75
abbrev s__law_takes : Stmt := topS 76
abbrev s__law_passes : Stmt := topS 77
abbrev s__law_item_net : Stmt := topS 78
abbrev s__law_nets : Stmt := topS 79
abbrev s__law_lift : Stmt := topS 80
abbrev s__law_lifts : Stmt := topS 81
abbrev s__law_is_ring : Stmt := topS 82
abbrev s__law_right : Stmt := topS 83
abbrev s_law : Stmt := topS 84
theorem sc_is_whole : FnScope ["value"] ["value"] (defScope s_is_whole) := ⟨rfl, rfl, rfl, by decide +kernel, rfl, by decide +kernel, by decide +kernel⟩
theorem sc_is_number : FnScope ["value", "low", "most"] ["value", "low", "most"] (defScope s_is_number) := ⟨rfl, rfl, rfl, by decide +kernel, rfl, by decide +kernel, by decide +kernel⟩
theorem sc_is_word : FnScope ["value"] ["value"] (defScope s_is_word) := ⟨rfl, rfl, rfl, by decide +kernel, rfl, by decide +kernel, by decide +kernel⟩
theorem sc_is_tuple_of : FnScope ["value", "many"] ["value", "many"] (defScope s_is_tuple_of) := ⟨rfl, rfl, rfl, by decide +kernel, rfl, by decide +kernel, by decide +kernel⟩
theorem sc_is_short_tuple : FnScope ["value", "low", "most"] ["value", "low", "most"] (defScope s_is_short_tuple) := ⟨rfl, rfl, rfl, by decide +kernel, rfl, by decide +kernel, by decide +kernel⟩
theorem sc_is_shuffle : FnScope ["value", "word", "number"] ["value"] (defScope s_is_shuffle) := ⟨rfl, rfl, rfl, by decide +kernel, rfl, by decide +kernel, by decide +kernel⟩
theorem sc_looks_of : FnScope ["shuffle"] ["shuffle"] (defScope s_looks_of) := ⟨rfl, rfl, rfl, by decide +kernel, rfl, by decide +kernel, by decide +kernel⟩
theorem sc_is_headed : FnScope ["value", "many"] ["value", "many"] (defScope s_is_headed) := ⟨rfl, rfl, rfl, by decide +kernel, rfl, by decide +kernel, by decide +kernel⟩
theorem sc_is_plain_item : FnScope ["value"] ["value"] (defScope s_is_plain_item) := ⟨rfl, rfl, rfl, by decide +kernel, rfl, by decide +kernel, by decide +kernel⟩
theorem sc_bodies_in : FnScope ["item"] ["item"] (defScope s_bodies_in) := ⟨rfl, rfl, rfl, by decide +kernel, rfl, by decide +kernel, by decide +kernel⟩
theorem sc_is_item : FnScope ["value", "many", "deep", "body"] ["value", "many", "deep"] (defScope s_is_item) := ⟨rfl, rfl, rfl, by decide +kernel, rfl, by decide +kernel, by decide +kernel⟩
theorem sc_is_body : FnScope ["value", "many", "deep", "item"] ["value", "many", "deep"] (defScope s_is_body) := ⟨rfl, rfl, rfl, by decide +kernel, rfl, by decide +kernel, by decide +kernel⟩
theorem sc_taken_by : FnScope ["item"] ["item"] (defScope s_taken_by) := ⟨rfl, rfl, rfl, by decide +kernel, rfl, by decide +kernel, by decide +kernel⟩
theorem sc_left_by : FnScope ["item"] ["item"] (defScope s_left_by) := ⟨rfl, rfl, rfl, by decide +kernel, rfl, by decide +kernel, by decide +kernel⟩
theorem sc_size_of : FnScope ["body", "item", "inner"] ["body"] (defScope s_size_of) := ⟨rfl, rfl, rfl, by decide +kernel, rfl, by decide +kernel, by decide +kernel⟩
theorem sc_Place___init__ : FnScope ["self", "item", "way", "index"] ["self", "item", "way", "index"] (defScope s_Place___init__) := ⟨rfl, rfl, rfl, by decide +kernel, rfl, by decide +kernel, by decide +kernel⟩
theorem sc_places_of : FnScope ["body", "way", "found", "index", "item", "which", "inner"] ["body", "way"] (defScope s_places_of) := ⟨rfl, rfl, rfl, by decide +kernel, rfl, by decide +kernel, by decide +kernel⟩
theorem sc_items_in_all : FnScope ["code", "body"] ["code"] (defScope s_items_in_all) := ⟨rfl, rfl, rfl, by decide +kernel, rfl, by decide +kernel, by decide +kernel⟩
theorem sc_is_code_form : FnScope ["value", "body"] ["value"] (defScope s_is_code_form) := ⟨rfl, rfl, rfl, by decide +kernel, rfl, by decide +kernel, by decide +kernel⟩
theorem sc_check_code : FnScope ["value"] ["value"] (defScope s_check_code) := ⟨rfl, rfl, rfl, by decide +kernel, rfl, by decide +kernel, by decide +kernel⟩
theorem sc_check_f : FnScope ["code", "value"] ["code", "value"] (defScope s_check_f) := ⟨rfl, rfl, rfl, by decide +kernel, rfl, by decide +kernel, by decide +kernel⟩
theorem sc_check_place : FnScope ["code", "function", "value"] ["code", "function", "value"] (defScope s_check_place) := ⟨rfl, rfl, rfl, by decide +kernel, rfl, by decide +kernel, by decide +kernel⟩
theorem sc_net_of_item : FnScope ["item", "nets", "word", "some", "net"] ["item", "nets"] (defScope s_net_of_item) := ⟨rfl, rfl, rfl, by decide +kernel, rfl, by decide +kernel, by decide +kernel⟩
theorem sc_net_of_body : FnScope ["body", "nets", "total", "item", "found"] ["body", "nets"] (defScope s_net_of_body) := ⟨rfl, rfl, rfl, by decide +kernel, rfl, by decide +kernel, by decide +kernel⟩
theorem sc_nets_of : FnScope ["code", "nets", "ahead", "found", "body", "known", "_"] ["code"] (defScope s_nets_of) := ⟨rfl, rfl, rfl, by decide +kernel, rfl, by decide +kernel, by decide +kernel⟩
theorem sc_is_unlike : FnScope ["item", "nets", "first", "second"] ["item", "nets"] (defScope s_is_unlike) := ⟨rfl, rfl, rfl, by decide +kernel, rfl, by decide +kernel, by decide +kernel⟩
theorem sc_unlike_places : FnScope ["code", "nets", "found", "function", "body", "place", "own"] ["code", "nets"] (defScope s_unlike_places) := ⟨rfl, rfl, rfl, by decide +kernel, rfl, by decide +kernel, by decide +kernel⟩
theorem sc_heights_in : FnScope ["body", "nets", "place", "height", "found", "item", "inner", "own", "net"] ["body", "nets", "place", "height"] (defScope s_heights_in) := ⟨rfl, rfl, rfl, by decide +kernel, rfl, by decide +kernel, by decide +kernel⟩
theorem sc_Effects_deeper : FnScope ["self", "depths", "found", "function", "_", "called", "height"] ["self", "depths"] (defScope s_Effects_deeper) := ⟨rfl, rfl, rfl, by decide +kernel, rfl, by decide +kernel, by decide +kernel⟩
theorem sc_Effects_find_depths : FnScope ["self", "depths", "function", "body", "places", "deepest", "place", "height", "item", "_"] ["self"] (defScope s_Effects_find_depths) := ⟨rfl, rfl, rfl, by decide +kernel, rfl, by decide +kernel, by decide +kernel⟩
theorem sc_Effects___init__ : FnScope ["self", "code", "body"] ["self", "code"] (defScope s_Effects___init__) := ⟨rfl, rfl, rfl, by decide +kernel, rfl, by decide +kernel, by decide +kernel⟩
theorem sc_Effects_told : FnScope ["self", "deep", "net"] ["self"] (defScope s_Effects_told) := ⟨rfl, rfl, rfl, by decide +kernel, rfl, by decide +kernel, by decide +kernel⟩
theorem sc_Effects_verdict : FnScope ["self"] ["self"] (defScope s_Effects_verdict) := ⟨rfl, rfl, rfl, by decide +kernel, rfl, by decide +kernel, by decide +kernel⟩
theorem sc_check_even : FnScope ["code", "found"] ["code"] (defScope s_check_even) := ⟨rfl, rfl, rfl, by decide +kernel, rfl, by decide +kernel, by decide +kernel⟩
theorem sc_nets : FnScope ["code"] ["code"] (defScope s_nets) := ⟨rfl, rfl, rfl, by decide +kernel, rfl, by decide +kernel, by decide +kernel⟩
theorem sc_verdict : FnScope ["code"] ["code"] (defScope s_verdict) := ⟨rfl, rfl, rfl, by decide +kernel, rfl, by decide +kernel, by decide +kernel⟩
theorem sc_Effects_ring : FnScope ["self", "sums", "lasts", "function", "_", "call", "new", "found", "first"] ["self"] (defScope s_Effects_ring) := ⟨rfl, rfl, rfl, by decide +kernel, rfl, by decide +kernel, by decide +kernel⟩
theorem sc_ring : FnScope ["code", "found"] ["code"] (defScope s_ring) := ⟨rfl, rfl, rfl, by decide +kernel, rfl, by decide +kernel, by decide +kernel⟩
theorem sc_effects : FnScope ["code"] ["code"] (defScope s_effects) := ⟨rfl, rfl, rfl, by decide +kernel, rfl, by decide +kernel, by decide +kernel⟩
theorem sc_height_at : FnScope ["code", "f", "place"] ["code", "f", "place"] (defScope s_height_at) := ⟨rfl, rfl, rfl, by decide +kernel, rfl, by decide +kernel, by decide +kernel⟩
theorem sc__law_pail : FnScope ["script", "turn", "mixed", "cell", "own"] ["script", "turn"] (defScope s__law_pail) := ⟨rfl, rfl, rfl, by decide +kernel, rfl, by decide +kernel, by decide +kernel⟩
theorem sc__law_deal : FnScope ["pail", "top", "figure", "mixed"] ["pail", "top"] (defScope s__law_deal) := ⟨rfl, rfl, rfl, by decide +kernel, rfl, by decide +kernel, by decide +kernel⟩
theorem sc__law_inner : FnScope ["item"] ["item"] (defScope s__law_inner) := ⟨rfl, rfl, rfl, by decide +kernel, rfl, by decide +kernel, by decide +kernel⟩
theorem sc__law_items : FnScope ["body", "found", "item", "inner"] ["body"] (defScope s__law_items) := ⟨rfl, rfl, rfl, by decide +kernel, rfl, by decide +kernel, by decide +kernel⟩
theorem sc__law_many : FnScope ["body", "item", "inner"] ["body"] (defScope s__law_many) := ⟨rfl, rfl, rfl, by decide +kernel, rfl, by decide +kernel, by decide +kernel⟩
theorem sc__law_takes : FnScope ["item", "word", "k"] ["item"] (defScope s__law_takes) := ⟨rfl, rfl, rfl, by decide +kernel, rfl, by decide +kernel, by decide +kernel⟩
theorem sc__law_passes : FnScope ["body", "gains", "total", "item", "is_so", "net"] ["body", "gains"] (defScope s__law_passes) := ⟨rfl, rfl, rfl, by decide +kernel, rfl, by decide +kernel, by decide +kernel⟩
theorem sc__law_item_net : FnScope ["item", "gains", "word", "first", "other", "own", "takes", "leaves"] ["item", "gains"] (defScope s__law_item_net) := ⟨rfl, rfl, rfl, by decide +kernel, rfl, by decide +kernel, by decide +kernel⟩
theorem sc__law_nets : FnScope ["code", "gains", "turn", "new", "f", "is_so", "net"] ["code"] (defScope s__law_nets) := ⟨rfl, rfl, rfl, by decide +kernel, rfl, by decide +kernel, by decide +kernel⟩
theorem sc__law_lift : FnScope ["body", "gains", "height", "place", "found", "item", "more", "inner", "is_so", "net"] ["body", "gains", "height", "place", "found"] (defScope s__law_lift) := ⟨rfl, rfl, rfl, by decide +kernel, rfl, by decide +kernel, by decide +kernel⟩
theorem sc__law_lifts : FnScope ["code", "gains", "found", "body", "own"] ["code"] (defScope s__law_lifts) := ⟨rfl, rfl, rfl, by decide +kernel, rfl, by decide +kernel, by decide +kernel⟩
theorem sc__law_is_ring : FnScope ["code", "circle", "lifts", "total", "k", "f", "place", "item", "there"] ["code", "circle"] (defScope s__law_is_ring) := ⟨rfl, rfl, rfl, by decide +kernel, rfl, by decide +kernel, by decide +kernel⟩
theorem sc__law_right : FnScope ["pail", "many", "words", "falling", "told", "due", "rows", "one", "two", "far", "body", "place"] ["pail"] (defScope s__law_right) := ⟨rfl, rfl, rfl, by decide +kernel, rfl, by decide +kernel, by decide +kernel⟩
theorem sc_law : FnScope ["script", "turn"] ["script"] (defScope s_law) := ⟨rfl, rfl, rfl, by decide +kernel, rfl, by decide +kernel, by decide +kernel⟩
def c_ADD : D := (.str "add")
def c_BARE : D := (.tuple [(.str "add"), (.str "sub"), (.str "same"), (.str "less"), (.str "read"), (.str "write")])
def c_BOTTOMLESS : D := (.str "bottomless")
def c_CALL : D := (.str "call")
def c_COPY : D := (.str "copy")
def c_DEEPEST : D := (.int 3)
def c_DROP : D := (.str "drop")
def c_EVEN : D := (.str "even")
def c_IF : D := (.str "if")
def c_MOST_DEEP : D := (.int 4)
def c_MOST_FUNCTIONS : D := (.int 6)
def c_MOST_ITEMS : D := (.int 400)
def c_ROLL : D := (.str "roll")
def c_ROUND : D := (.int 256)
def c_ROUND_NET : D := (.int 1)
def c_SUB : D := (.str "sub")
def c_UNLIKE : D := (.str "unlike")
def c_WHILE : D := (.str "while")
def c_WORD : D := (.str "word")
def fuel_Effects_ring : Nat := 5000
def fuel_nets_of : Nat := 5000
def q_LEAVES : List (Str × D) := [("drop", (.int 0)), ("word", (.int 1)), ("add", (.int 1)), ("sub", (.int 1)), ("same", (.int 1)), ("less", (.int 1)), ("read", (.int 1)), ("write", (.int 0))]
def q_TAKES : List (Str × D) := [("drop", (.int 1)), ("word", (.int 0)), ("add", (.int 2)), ("sub", (.int 2)), ("same", (.int 2)), ("less", (.int 2)), ("read", (.int 0)), ("write", (.int 1)), ("call", (.int 0)), ("if", (.int 1)), ("while", (.int 1))]
structure Txt (K : PySem.W.Frag) (w : World) (mg : Str → Option Value) where
  C_Place : Addr
  X_Place : ClsX K mg "Place" C_Place ["item", "way", "index"]
  C_Effects : Addr
  X_Effects : ClsX K mg "Effects" C_Effects ["own_bodies", "nets", "unlike", "heights", "calls", "depths"]
  f_is_whole : Addr
  fd_is_whole : FuncData
  F_is_whole : FX K "is_whole" "is_whole" s_is_whole .none f_is_whole fd_is_whole
  g_is_whole : mg "is_whole" = some (.ref f_is_whole)
  f_is_number : Addr
  fd_is_number : FuncData
  dV_is_number : Value
  F_is_number : FX K "is_number" "is_number" s_is_number dV_is_number f_is_number fd_is_number
  g_is_number : mg "is_number" = some (.ref f_is_number)
  d_is_number : chkTup K [.none] dV_is_number = true
  f_is_word : Addr
  fd_is_word : FuncData
  F_is_word : FX K "is_word" "is_word" s_is_word .none f_is_word fd_is_word
  g_is_word : mg "is_word" = some (.ref f_is_word)
  f_is_tuple_of : Addr
  fd_is_tuple_of : FuncData
  F_is_tuple_of : FX K "is_tuple_of" "is_tuple_of" s_is_tuple_of .none f_is_tuple_of fd_is_tuple_of
  g_is_tuple_of : mg "is_tuple_of" = some (.ref f_is_tuple_of)
  f_is_short_tuple : Addr
  fd_is_short_tuple : FuncData
  F_is_short_tuple : FX K "is_short_tuple" "is_short_tuple" s_is_short_tuple .none f_is_short_tuple fd_is_short_tuple
  g_is_short_tuple : mg "is_short_tuple" = some (.ref f_is_short_tuple)
  f_is_shuffle : Addr
  fd_is_shuffle : FuncData
  F_is_shuffle : FX K "is_shuffle" "is_shuffle" s_is_shuffle .none f_is_shuffle fd_is_shuffle
  g_is_shuffle : mg "is_shuffle" = some (.ref f_is_shuffle)
  f_looks_of : Addr
  fd_looks_of : FuncData
  F_looks_of : FX K "looks_of" "looks_of" s_looks_of .none f_looks_of fd_looks_of
  g_looks_of : mg "looks_of" = some (.ref f_looks_of)
  f_is_headed : Addr
  fd_is_headed : FuncData
  F_is_headed : FX K "is_headed" "is_headed" s_is_headed .none f_is_headed fd_is_headed
  g_is_headed : mg "is_headed" = some (.ref f_is_headed)
  f_is_plain_item : Addr
  fd_is_plain_item : FuncData
  F_is_plain_item : FX K "is_plain_item" "is_plain_item" s_is_plain_item .none f_is_plain_item fd_is_plain_item
  g_is_plain_item : mg "is_plain_item" = some (.ref f_is_plain_item)
  f_bodies_in : Addr
  fd_bodies_in : FuncData
  F_bodies_in : FX K "bodies_in" "bodies_in" s_bodies_in .none f_bodies_in fd_bodies_in
  g_bodies_in : mg "bodies_in" = some (.ref f_bodies_in)
  f_is_item : Addr
  fd_is_item : FuncData
  F_is_item : FX K "is_item" "is_item" s_is_item .none f_is_item fd_is_item
  g_is_item : mg "is_item" = some (.ref f_is_item)
  f_is_body : Addr
  fd_is_body : FuncData
  F_is_body : FX K "is_body" "is_body" s_is_body .none f_is_body fd_is_body
  g_is_body : mg "is_body" = some (.ref f_is_body)
  f_taken_by : Addr
  fd_taken_by : FuncData
  F_taken_by : FX K "taken_by" "taken_by" s_taken_by .none f_taken_by fd_taken_by
  g_taken_by : mg "taken_by" = some (.ref f_taken_by)
  f_left_by : Addr
  fd_left_by : FuncData
  F_left_by : FX K "left_by" "left_by" s_left_by .none f_left_by fd_left_by
  g_left_by : mg "left_by" = some (.ref f_left_by)
  f_size_of : Addr
  fd_size_of : FuncData
  F_size_of : FX K "size_of" "size_of" s_size_of .none f_size_of fd_size_of
  g_size_of : mg "size_of" = some (.ref f_size_of)
  f_Place___init__ : Addr
  fd_Place___init__ : FuncData
  F_Place___init__ : FX K "__init__" "Place.__init__" s_Place___init__ .none f_Place___init__ fd_Place___init__
  M_Place___init__ : Meth K C_Place "__init__" f_Place___init__
  f_places_of : Addr
  fd_places_of : FuncData
  dV_places_of : Value
  F_places_of : FX K "places_of" "places_of" s_places_of dV_places_of f_places_of fd_places_of
  g_places_of : mg "places_of" = some (.ref f_places_of)
  d_places_of : chkTup K [(.tuple [])] dV_places_of = true
  f_items_in_all : Addr
  fd_items_in_all : FuncData
  F_items_in_all : FX K "items_in_all" "items_in_all" s_items_in_all .none f_items_in_all fd_items_in_all
  g_items_in_all : mg "items_in_all" = some (.ref f_items_in_all)
  f_is_code_form : Addr
  fd_is_code_form : FuncData
  F_is_code_form : FX K "is_code_form" "is_code_form" s_is_code_form .none f_is_code_form fd_is_code_form
  g_is_code_form : mg "is_code_form" = some (.ref f_is_code_form)
  f_check_code : Addr
  fd_check_code : FuncData
  F_check_code : FX K "check_code" "check_code" s_check_code .none f_check_code fd_check_code
  g_check_code : mg "check_code" = some (.ref f_check_code)
  f_check_f : Addr
  fd_check_f : FuncData
  F_check_f : FX K "check_f" "check_f" s_check_f .none f_check_f fd_check_f
  g_check_f : mg "check_f" = some (.ref f_check_f)
  f_check_place : Addr
  fd_check_place : FuncData
  F_check_place : FX K "check_place" "check_place" s_check_place .none f_check_place fd_check_place
  g_check_place : mg "check_place" = some (.ref f_check_place)
  f_net_of_item : Addr
  fd_net_of_item : FuncData
  F_net_of_item : FX K "net_of_item" "net_of_item" s_net_of_item .none f_net_of_item fd_net_of_item
  g_net_of_item : mg "net_of_item" = some (.ref f_net_of_item)
  f_net_of_body : Addr
  fd_net_of_body : FuncData
  F_net_of_body : FX K "net_of_body" "net_of_body" s_net_of_body .none f_net_of_body fd_net_of_body
  g_net_of_body : mg "net_of_body" = some (.ref f_net_of_body)
  f_nets_of : Addr
  fd_nets_of : FuncData
  F_nets_of : FX K "nets_of" "nets_of" s_nets_of .none f_nets_of fd_nets_of
  g_nets_of : mg "nets_of" = some (.ref f_nets_of)
  f_is_unlike : Addr
  fd_is_unlike : FuncData
  F_is_unlike : FX K "is_unlike" "is_unlike" s_is_unlike .none f_is_unlike fd_is_unlike
  g_is_unlike : mg "is_unlike" = some (.ref f_is_unlike)
  f_unlike_places : Addr
  fd_unlike_places : FuncData
  F_unlike_places : FX K "unlike_places" "unlike_places" s_unlike_places .none f_unlike_places fd_unlike_places
  g_unlike_places : mg "unlike_places" = some (.ref f_unlike_places)
  f_heights_in : Addr
  fd_heights_in : FuncData
  F_heights_in : FX K "heights_in" "heights_in" s_heights_in .none f_heights_in fd_heights_in
  g_heights_in : mg "heights_in" = some (.ref f_heights_in)
  f_Effects_deeper : Addr
  fd_Effects_deeper : FuncData
  F_Effects_deeper : FX K "deeper" "Effects.deeper" s_Effects_deeper .none f_Effects_deeper fd_Effects_deeper
  M_Effects_deeper : Meth K C_Effects "deeper" f_Effects_deeper
  f_Effects_find_depths : Addr
  fd_Effects_find_depths : FuncData
  F_Effects_find_depths : FX K "find_depths" "Effects.find_depths" s_Effects_find_depths .none f_Effects_find_depths fd_Effects_find_depths
  M_Effects_find_depths : Meth K C_Effects "find_depths" f_Effects_find_depths
  f_Effects___init__ : Addr
  fd_Effects___init__ : FuncData
  F_Effects___init__ : FX K "__init__" "Effects.__init__" s_Effects___init__ .none f_Effects___init__ fd_Effects___init__
  M_Effects___init__ : Meth K C_Effects "__init__" f_Effects___init__
  f_Effects_told : Addr
  fd_Effects_told : FuncData
  F_Effects_told : FX K "told" "Effects.told" s_Effects_told .none f_Effects_told fd_Effects_told
  M_Effects_told : Meth K C_Effects "told" f_Effects_told
  f_Effects_verdict : Addr
  fd_Effects_verdict : FuncData
  F_Effects_verdict : FX K "verdict" "Effects.verdict" s_Effects_verdict .none f_Effects_verdict fd_Effects_verdict
  M_Effects_verdict : Meth K C_Effects "verdict" f_Effects_verdict
  f_check_even : Addr
  fd_check_even : FuncData
  F_check_even : FX K "check_even" "check_even" s_check_even .none f_check_even fd_check_even
  g_check_even : mg "check_even" = some (.ref f_check_even)
  f_nets : Addr
  fd_nets : FuncData
  F_nets : FX K "nets" "nets" s_nets .none f_nets fd_nets
  g_nets : mg "nets" = some (.ref f_nets)
  f_verdict : Addr
  fd_verdict : FuncData
  F_verdict : FX K "verdict" "verdict" s_verdict .none f_verdict fd_verdict
  g_verdict : mg "verdict" = some (.ref f_verdict)
  f_Effects_ring : Addr
  fd_Effects_ring : FuncData
  F_Effects_ring : FX K "ring" "Effects.ring" s_Effects_ring .none f_Effects_ring fd_Effects_ring
  M_Effects_ring : Meth K C_Effects "ring" f_Effects_ring
  f_ring : Addr
  fd_ring : FuncData
  F_ring : FX K "ring" "ring" s_ring .none f_ring fd_ring
  g_ring : mg "ring" = some (.ref f_ring)
  f_effects : Addr
  fd_effects : FuncData
  F_effects : FX K "effects" "effects" s_effects .none f_effects fd_effects
  g_effects : mg "effects" = some (.ref f_effects)
  f_height_at : Addr
  fd_height_at : FuncData
  F_height_at : FX K "height_at" "height_at" s_height_at .none f_height_at fd_height_at
  g_height_at : mg "height_at" = some (.ref f_height_at)
  f__law_pail : Addr
  fd__law_pail : FuncData
  F__law_pail : FX K "_law_pail" "_law_pail" s__law_pail .none f__law_pail fd__law_pail
  g__law_pail : mg "_law_pail" = some (.ref f__law_pail)
  f__law_deal : Addr
  fd__law_deal : FuncData
  F__law_deal : FX K "_law_deal" "_law_deal" s__law_deal .none f__law_deal fd__law_deal
  g__law_deal : mg "_law_deal" = some (.ref f__law_deal)
  f__law_inner : Addr
  fd__law_inner : FuncData
  F__law_inner : FX K "_law_inner" "_law_inner" s__law_inner .none f__law_inner fd__law_inner
  g__law_inner : mg "_law_inner" = some (.ref f__law_inner)
  f__law_items : Addr
  fd__law_items : FuncData
  F__law_items : FX K "_law_items" "_law_items" s__law_items .none f__law_items fd__law_items
  g__law_items : mg "_law_items" = some (.ref f__law_items)
  f__law_many : Addr
  fd__law_many : FuncData
  F__law_many : FX K "_law_many" "_law_many" s__law_many .none f__law_many fd__law_many
  g__law_many : mg "_law_many" = some (.ref f__law_many)
  f__law_takes : Addr
  fd__law_takes : FuncData
  F__law_takes : FX K "_law_takes" "_law_takes" s__law_takes .none f__law_takes fd__law_takes
  g__law_takes : mg "_law_takes" = some (.ref f__law_takes)
  f__law_passes : Addr
  fd__law_passes : FuncData
  F__law_passes : FX K "_law_passes" "_law_passes" s__law_passes .none f__law_passes fd__law_passes
  g__law_passes : mg "_law_passes" = some (.ref f__law_passes)
  f__law_item_net : Addr
  fd__law_item_net : FuncData
  F__law_item_net : FX K "_law_item_net" "_law_item_net" s__law_item_net .none f__law_item_net fd__law_item_net
  g__law_item_net : mg "_law_item_net" = some (.ref f__law_item_net)
  f__law_nets : Addr
  fd__law_nets : FuncData
  F__law_nets : FX K "_law_nets" "_law_nets" s__law_nets .none f__law_nets fd__law_nets
  g__law_nets : mg "_law_nets" = some (.ref f__law_nets)
  f__law_lift : Addr
  fd__law_lift : FuncData
  F__law_lift : FX K "_law_lift" "_law_lift" s__law_lift .none f__law_lift fd__law_lift
  g__law_lift : mg "_law_lift" = some (.ref f__law_lift)
  f__law_lifts : Addr
  fd__law_lifts : FuncData
  F__law_lifts : FX K "_law_lifts" "_law_lifts" s__law_lifts .none f__law_lifts fd__law_lifts
  g__law_lifts : mg "_law_lifts" = some (.ref f__law_lifts)
  f__law_is_ring : Addr
  fd__law_is_ring : FuncData
  F__law_is_ring : FX K "_law_is_ring" "_law_is_ring" s__law_is_ring .none f__law_is_ring fd__law_is_ring
  g__law_is_ring : mg "_law_is_ring" = some (.ref f__law_is_ring)
  f__law_right : Addr
  fd__law_right : FuncData
  F__law_right : FX K "_law_right" "_law_right" s__law_right .none f__law_right fd__law_right
  g__law_right : mg "_law_right" = some (.ref f__law_right)
  f_law : Addr
  fd_law : FuncData
  F_law : FX K "law" "law" s_law .none f_law fd_law
  g_law : mg "law" = some (.ref f_law)
  K_Place : Mk K C_Place f_Place___init__
  K_Effects : Mk K C_Effects f_Effects___init__
  k_ADD : GlobD K mg "ADD" c_ADD
  k_BARE : GlobD K mg "BARE" c_BARE
  k_BOTTOMLESS : GlobD K mg "BOTTOMLESS" c_BOTTOMLESS
  k_CALL : GlobD K mg "CALL" c_CALL
  k_COPY : GlobD K mg "COPY" c_COPY
  k_DEEPEST : GlobD K mg "DEEPEST" c_DEEPEST
  k_DROP : GlobD K mg "DROP" c_DROP
  k_EVEN : GlobD K mg "EVEN" c_EVEN
  k_IF : GlobD K mg "IF" c_IF
  k_MOST_DEEP : GlobD K mg "MOST_DEEP" c_MOST_DEEP
  k_MOST_FUNCTIONS : GlobD K mg "MOST_FUNCTIONS" c_MOST_FUNCTIONS
  k_MOST_ITEMS : GlobD K mg "MOST_ITEMS" c_MOST_ITEMS
  k_ROLL : GlobD K mg "ROLL" c_ROLL
  k_ROUND : GlobD K mg "ROUND" c_ROUND
  k_ROUND_NET : GlobD K mg "ROUND_NET" c_ROUND_NET
  k_SUB : GlobD K mg "SUB" c_SUB
  k_UNLIKE : GlobD K mg "UNLIKE" c_UNLIKE
  k_WHILE : GlobD K mg "WHILE" c_WHILE
  k_WORD : GlobD K mg "WORD" c_WORD
  q_LEAVES : KDctG K w mg "LEAVES" q_LEAVES
  q_TAKES : KDctG K w mg "TAKES" q_TAKES
  z_abs : mg "abs" = none
  z_all : mg "all" = none
  z_bool : mg "bool" = none
  z_dict : mg "dict" = none
  z_divmod : mg "divmod" = none
  z_enumerate : mg "enumerate" = none
  z_int : mg "int" = none
  z_isinstance : mg "isinstance" = none
  z_len : mg "len" = none
  z_list : mg "list" = none
  z_max : mg "max" = none
  z_min : mg "min" = none
  z_range : mg "range" = none
  z_repr : mg "repr" = none
  z_str : mg "str" = none
  z_sum : mg "sum" = none
  z_tuple : mg "tuple" = none
  z_zip : mg "zip" = none
theorem kb_is_whole_1 {K : PySem.W.Frag} {w : World} {mg : Str → Option Value} (T : Txt K w mg) : KB K T.fd_is_whole ["value"] 1 [] [] [0] := T.F_is_whole.kb fun _ _ _ _ _ _ us ws h1 h2 => match us, h1, ws, h2 with | [_], _, [], _ => rfl
theorem b_is_whole_1 {K : PySem.W.Frag} {w : World} {mg : Str → Option Value} (T : Txt K w mg) : KBD K T.fd_is_whole ["value"] 1 [] [] [0] := KB.d (kb_is_whole_1 T)
theorem b_is_number_3 {K : PySem.W.Frag} {w : World} {mg : Str → Option Value} (T : Txt K w mg) : KBD K T.fd_is_number ["value", "low", "most"] 3 [] [.none] [0, 1, 2] := T.F_is_number.kbD T.d_is_number fun _ its _ _ _ _ _ _ us ws h0 h1 h2 => match its, h0, us, h1, ws, h2 with | [_], _, [_, _, _], _, [], _ => ⟨_, rfl, rfl⟩
theorem kb_is_tuple_of_2 {K : PySem.W.Frag} {w : World} {mg : Str → Option Value} (T : Txt K w mg) : KB K T.fd_is_tuple_of ["value", "many"] 2 [] [] [0, 1] := T.F_is_tuple_of.kb fun _ _ _ _ _ _ us ws h1 h2 => match us, h1, ws, h2 with | [_, _], _, [], _ => rfl
theorem b_is_tuple_of_2 {K : PySem.W.Frag} {w : World} {mg : Str → Option Value} (T : Txt K w mg) : KBD K T.fd_is_tuple_of ["value", "many"] 2 [] [] [0, 1] := KB.d (kb_is_tuple_of_2 T)
theorem kb_is_shuffle_1 {K : PySem.W.Frag} {w : World} {mg : Str → Option Value} (T : Txt K w mg) : KB K T.fd_is_shuffle ["value"] 1 [] [] [0] := T.F_is_shuffle.kb fun _ _ _ _ _ _ us ws h1 h2 => match us, h1, ws, h2 with | [_], _, [], _ => rfl
theorem b_is_shuffle_1 {K : PySem.W.Frag} {w : World} {mg : Str → Option Value} (T : Txt K w mg) : KBD K T.fd_is_shuffle ["value"] 1 [] [] [0] := KB.d (kb_is_shuffle_1 T)
theorem kb_is_headed_2 {K : PySem.W.Frag} {w : World} {mg : Str → Option Value} (T : Txt K w mg) : KB K T.fd_is_headed ["value", "many"] 2 [] [] [0, 1] := T.F_is_headed.kb fun _ _ _ _ _ _ us ws h1 h2 => match us, h1, ws, h2 with | [_, _], _, [], _ => rfl
theorem b_is_headed_2 {K : PySem.W.Frag} {w : World} {mg : Str → Option Value} (T : Txt K w mg) : KBD K T.fd_is_headed ["value", "many"] 2 [] [] [0, 1] := KB.d (kb_is_headed_2 T)
theorem kb_is_word_1 {K : PySem.W.Frag} {w : World} {mg : Str → Option Value} (T : Txt K w mg) : KB K T.fd_is_word ["value"] 1 [] [] [0] := T.F_is_word.kb fun _ _ _ _ _ _ us ws h1 h2 => match us, h1, ws, h2 with | [_], _, [], _ => rfl
theorem b_is_word_1 {K : PySem.W.Frag} {w : World} {mg : Str → Option Value} (T : Txt K w mg) : KBD K T.fd_is_word ["value"] 1 [] [] [0] := KB.d (kb_is_word_1 T)
theorem kb_is_body_3 {K : PySem.W.Frag} {w : World} {mg : Str → Option Value} (T : Txt K w mg) : KB K T.fd_is_body ["value", "many", "deep"] 3 [] [] [0, 1, 2] := T.F_is_body.kb fun _ _ _ _ _ _ us ws h1 h2 => match us, h1, ws, h2 with | [_, _, _], _, [], _ => rfl
theorem b_is_body_3 {K : PySem.W.Frag} {w : World} {mg : Str → Option Value} (T : Txt K w mg) : KBD K T.fd_is_body ["value", "many", "deep"] 3 [] [] [0, 1, 2] := KB.d (kb_is_body_3 T)
theorem kb_is_plain_item_1 {K : PySem.W.Frag} {w : World} {mg : Str → Option Value} (T : Txt K w mg) : KB K T.fd_is_plain_item ["value"] 1 [] [] [0] := T.F_is_plain_item.kb fun _ _ _ _ _ _ us ws h1 h2 => match us, h1, ws, h2 with | [_], _, [], _ => rfl
theorem b_is_plain_item_1 {K : PySem.W.Frag} {w : World} {mg : Str → Option Value} (T : Txt K w mg) : KBD K T.fd_is_plain_item ["value"] 1 [] [] [0] := KB.d (kb_is_plain_item_1 T)
theorem kb_is_item_3 {K : PySem.W.Frag} {w : World} {mg : Str → Option Value} (T : Txt K w mg) : KB K T.fd_is_item ["value", "many", "deep"] 3 [] [] [0, 1, 2] := T.F_is_item.kb fun _ _ _ _ _ _ us ws h1 h2 => match us, h1, ws, h2 with | [_, _, _], _, [], _ => rfl
theorem b_is_item_3 {K : PySem.W.Frag} {w : World} {mg : Str → Option Value} (T : Txt K w mg) : KBD K T.fd_is_item ["value", "many", "deep"] 3 [] [] [0, 1, 2] := KB.d (kb_is_item_3 T)
theorem kb_looks_of_1 {K : PySem.W.Frag} {w : World} {mg : Str → Option Value} (T : Txt K w mg) : KB K T.fd_looks_of ["shuffle"] 1 [] [] [0] := T.F_looks_of.kb fun _ _ _ _ _ _ us ws h1 h2 => match us, h1, ws, h2 with | [_], _, [], _ => rfl
theorem b_looks_of_1 {K : PySem.W.Frag} {w : World} {mg : Str → Option Value} (T : Txt K w mg) : KBD K T.fd_looks_of ["shuffle"] 1 [] [] [0] := KB.d (kb_looks_of_1 T)
theorem kb_bodies_in_1 {K : PySem.W.Frag} {w : World} {mg : Str → Option Value} (T : Txt K w mg) : KB K T.fd_bodies_in ["item"] 1 [] [] [0] := T.F_bodies_in.kb fun _ _ _ _ _ _ us ws h1 h2 => match us, h1, ws, h2 with | [_], _, [], _ => rfl
theorem b_bodies_in_1 {K : PySem.W.Frag} {w : World} {mg : Str → Option Value} (T : Txt K w mg) : KBD K T.fd_bodies_in ["item"] 1 [] [] [0] := KB.d (kb_bodies_in_1 T)
theorem kb_size_of_1 {K : PySem.W.Frag} {w : World} {mg : Str → Option Value} (T : Txt K w mg) : KB K T.fd_size_of ["body"] 1 [] [] [0] := T.F_size_of.kb fun _ _ _ _ _ _ us ws h1 h2 => match us, h1, ws, h2 with | [_], _, [], _ => rfl
theorem b_size_of_1 {K : PySem.W.Frag} {w : World} {mg : Str → Option Value} (T : Txt K w mg) : KBD K T.fd_size_of ["body"] 1 [] [] [0] := KB.d (kb_size_of_1 T)
theorem kb_Place___init___4 {K : PySem.W.Frag} {w : World} {mg : Str → Option Value} (T : Txt K w mg) : KB K T.fd_Place___init__ ["self", "item", "way", "index"] 4 [] [] [0, 1, 2, 3] := T.F_Place___init__.kb fun _ _ _ _ _ _ us ws h1 h2 => match us, h1, ws, h2 with | [_, _, _, _], _, [], _ => rfl
theorem b_Place___init___4 {K : PySem.W.Frag} {w : World} {mg : Str → Option Value} (T : Txt K w mg) : KBD K T.fd_Place___init__ ["self", "item", "way", "index"] 4 [] [] [0, 1, 2, 3] := KB.d (kb_Place___init___4 T)
theorem b_places_of_2 {K : PySem.W.Frag} {w : World} {mg : Str → Option Value} (T : Txt K w mg) : KBD K T.fd_places_of ["body", "way"] 2 [] [(.tuple [])] [0, 1] := T.F_places_of.kbD T.d_places_of fun _ its _ _ _ _ _ _ us ws h0 h1 h2 => match its, h0, us, h1, ws, h2 with | [_], _, [_, _], _, [], _ => ⟨_, rfl, rfl⟩
theorem kb_is_short_tuple_3 {K : PySem.W.Frag} {w : World} {mg : Str → Option Value} (T : Txt K w mg) : KB K T.fd_is_short_tuple ["value", "low", "most"] 3 [] [] [0, 1, 2] := T.F_is_short_tuple.kb fun _ _ _ _ _ _ us ws h1 h2 => match us, h1, ws, h2 with | [_, _, _], _, [], _ => rfl
theorem b_is_short_tuple_3 {K : PySem.W.Frag} {w : World} {mg : Str → Option Value} (T : Txt K w mg) : KBD K T.fd_is_short_tuple ["value", "low", "most"] 3 [] [] [0, 1, 2] := KB.d (kb_is_short_tuple_3 T)
theorem kb_items_in_all_1 {K : PySem.W.Frag} {w : World} {mg : Str → Option Value} (T : Txt K w mg) : KB K T.fd_items_in_all ["code"] 1 [] [] [0] := T.F_items_in_all.kb fun _ _ _ _ _ _ us ws h1 h2 => match us, h1, ws, h2 with | [_], _, [], _ => rfl
theorem b_items_in_all_1 {K : PySem.W.Frag} {w : World} {mg : Str → Option Value} (T : Txt K w mg) : KBD K T.fd_items_in_all ["code"] 1 [] [] [0] := KB.d (kb_items_in_all_1 T)
theorem kb_is_code_form_1 {K : PySem.W.Frag} {w : World} {mg : Str → Option Value} (T : Txt K w mg) : KB K T.fd_is_code_form ["value"] 1 [] [] [0] := T.F_is_code_form.kb fun _ _ _ _ _ _ us ws h1 h2 => match us, h1, ws, h2 with | [_], _, [], _ => rfl
theorem b_is_code_form_1 {K : PySem.W.Frag} {w : World} {mg : Str → Option Value} (T : Txt K w mg) : KBD K T.fd_is_code_form ["value"] 1 [] [] [0] := KB.d (kb_is_code_form_1 T)
theorem kb_net_of_body_2 {K : PySem.W.Frag} {w : World} {mg : Str → Option Value} (T : Txt K w mg) : KB K T.fd_net_of_body ["body", "nets"] 2 [] [] [0, 1] := T.F_net_of_body.kb fun _ _ _ _ _ _ us ws h1 h2 => match us, h1, ws, h2 with | [_, _], _, [], _ => rfl
theorem b_net_of_body_2 {K : PySem.W.Frag} {w : World} {mg : Str → Option Value} (T : Txt K w mg) : KBD K T.fd_net_of_body ["body", "nets"] 2 [] [] [0, 1] := KB.d (kb_net_of_body_2 T)
theorem kb_left_by_1 {K : PySem.W.Frag} {w : World} {mg : Str → Option Value} (T : Txt K w mg) : KB K T.fd_left_by ["item"] 1 [] [] [0] := T.F_left_by.kb fun _ _ _ _ _ _ us ws h1 h2 => match us, h1, ws, h2 with | [_], _, [], _ => rfl
theorem b_left_by_1 {K : PySem.W.Frag} {w : World} {mg : Str → Option Value} (T : Txt K w mg) : KBD K T.fd_left_by ["item"] 1 [] [] [0] := KB.d (kb_left_by_1 T)
theorem kb_taken_by_1 {K : PySem.W.Frag} {w : World} {mg : Str → Option Value} (T : Txt K w mg) : KB K T.fd_taken_by ["item"] 1 [] [] [0] := T.F_taken_by.kb fun _ _ _ _ _ _ us ws h1 h2 => match us, h1, ws, h2 with | [_], _, [], _ => rfl
theorem b_taken_by_1 {K : PySem.W.Frag} {w : World} {mg : Str → Option Value} (T : Txt K w mg) : KBD K T.fd_taken_by ["item"] 1 [] [] [0] := KB.d (kb_taken_by_1 T)
theorem kb_net_of_item_2 {K : PySem.W.Frag} {w : World} {mg : Str → Option Value} (T : Txt K w mg) : KB K T.fd_net_of_item ["item", "nets"] 2 [] [] [0, 1] := T.F_net_of_item.kb fun _ _ _ _ _ _ us ws h1 h2 => match us, h1, ws, h2 with | [_, _], _, [], _ => rfl
theorem b_net_of_item_2 {K : PySem.W.Frag} {w : World} {mg : Str → Option Value} (T : Txt K w mg) : KBD K T.fd_net_of_item ["item", "nets"] 2 [] [] [0, 1] := KB.d (kb_net_of_item_2 T)
theorem b_places_of_1 {K : PySem.W.Frag} {w : World} {mg : Str → Option Value} (T : Txt K w mg) : KBD K T.fd_places_of ["body", "way"] 1 [] [(.tuple [])] [0, 1] := T.F_places_of.kbD T.d_places_of fun _ its _ _ _ _ _ _ us ws h0 h1 h2 => match its, h0, us, h1, ws, h2 with | [_], _, [_], _, [], _ => ⟨_, rfl, rfl⟩
theorem kb_is_unlike_2 {K : PySem.W.Frag} {w : World} {mg : Str → Option Value} (T : Txt K w mg) : KB K T.fd_is_unlike ["item", "nets"] 2 [] [] [0, 1] := T.F_is_unlike.kb fun _ _ _ _ _ _ us ws h1 h2 => match us, h1, ws, h2 with | [_, _], _, [], _ => rfl
theorem b_is_unlike_2 {K : PySem.W.Frag} {w : World} {mg : Str → Option Value} (T : Txt K w mg) : KBD K T.fd_is_unlike ["item", "nets"] 2 [] [] [0, 1] := KB.d (kb_is_unlike_2 T)
theorem kb_heights_in_4 {K : PySem.W.Frag} {w : World} {mg : Str → Option Value} (T : Txt K w mg) : KB K T.fd_heights_in ["body", "nets", "place", "height"] 4 [] [] [0, 1, 2, 3] := T.F_heights_in.kb fun _ _ _ _ _ _ us ws h1 h2 => match us, h1, ws, h2 with | [_, _, _, _], _, [], _ => rfl
theorem b_heights_in_4 {K : PySem.W.Frag} {w : World} {mg : Str → Option Value} (T : Txt K w mg) : KBD K T.fd_heights_in ["body", "nets", "place", "height"] 4 [] [] [0, 1, 2, 3] := KB.d (kb_heights_in_4 T)
theorem kb_Effects_deeper_2 {K : PySem.W.Frag} {w : World} {mg : Str → Option Value} (T : Txt K w mg) : KB K T.fd_Effects_deeper ["self", "depths"] 2 [] [] [0, 1] := T.F_Effects_deeper.kb fun _ _ _ _ _ _ us ws h1 h2 => match us, h1, ws, h2 with | [_, _], _, [], _ => rfl
theorem b_Effects_deeper_2 {K : PySem.W.Frag} {w : World} {mg : Str → Option Value} (T : Txt K w mg) : KBD K T.fd_Effects_deeper ["self", "depths"] 2 [] [] [0, 1] := KB.d (kb_Effects_deeper_2 T)
theorem kb_nets_of_1 {K : PySem.W.Frag} {w : World} {mg : Str → Option Value} (T : Txt K w mg) : KB K T.fd_nets_of ["code"] 1 [] [] [0] := T.F_nets_of.kb fun _ _ _ _ _ _ us ws h1 h2 => match us, h1, ws, h2 with | [_], _, [], _ => rfl
theorem b_nets_of_1 {K : PySem.W.Frag} {w : World} {mg : Str → Option Value} (T : Txt K w mg) : KBD K T.fd_nets_of ["code"] 1 [] [] [0] := KB.d (kb_nets_of_1 T)
theorem kb_unlike_places_2 {K : PySem.W.Frag} {w : World} {mg : Str → Option Value} (T : Txt K w mg) : KB K T.fd_unlike_places ["code", "nets"] 2 [] [] [0, 1] := T.F_unlike_places.kb fun _ _ _ _ _ _ us ws h1 h2 => match us, h1, ws, h2 with | [_, _], _, [], _ => rfl
theorem b_unlike_places_2 {K : PySem.W.Frag} {w : World} {mg : Str → Option Value} (T : Txt K w mg) : KBD K T.fd_unlike_places ["code", "nets"] 2 [] [] [0, 1] := KB.d (kb_unlike_places_2 T)
theorem kb_Effects_find_depths_1 {K : PySem.W.Frag} {w : World} {mg : Str → Option Value} (T : Txt K w mg) : KB K T.fd_Effects_find_depths ["self"] 1 [] [] [0] := T.F_Effects_find_depths.kb fun _ _ _ _ _ _ us ws h1 h2 => match us, h1, ws, h2 with | [_], _, [], _ => rfl
theorem b_Effects_find_depths_1 {K : PySem.W.Frag} {w : World} {mg : Str → Option Value} (T : Txt K w mg) : KBD K T.fd_Effects_find_depths ["self"] 1 [] [] [0] := KB.d (kb_Effects_find_depths_1 T)
theorem kb_Effects_told_1 {K : PySem.W.Frag} {w : World} {mg : Str → Option Value} (T : Txt K w mg) : KB K T.fd_Effects_told ["self"] 1 [] [] [0] := T.F_Effects_told.kb fun _ _ _ _ _ _ us ws h1 h2 => match us, h1, ws, h2 with | [_], _, [], _ => rfl
theorem b_Effects_told_1 {K : PySem.W.Frag} {w : World} {mg : Str → Option Value} (T : Txt K w mg) : KBD K T.fd_Effects_told ["self"] 1 [] [] [0] := KB.d (kb_Effects_told_1 T)
theorem kb_Effects___init___2 {K : PySem.W.Frag} {w : World} {mg : Str → Option Value} (T : Txt K w mg) : KB K T.fd_Effects___init__ ["self", "code"] 2 [] [] [0, 1] := T.F_Effects___init__.kb fun _ _ _ _ _ _ us ws h1 h2 => match us, h1, ws, h2 with | [_, _], _, [], _ => rfl
theorem b_Effects___init___2 {K : PySem.W.Frag} {w : World} {mg : Str → Option Value} (T : Txt K w mg) : KBD K T.fd_Effects___init__ ["self", "code"] 2 [] [] [0, 1] := KB.d (kb_Effects___init___2 T)
theorem kb_check_code_1 {K : PySem.W.Frag} {w : World} {mg : Str → Option Value} (T : Txt K w mg) : KB K T.fd_check_code ["value"] 1 [] [] [0] := T.F_check_code.kb fun _ _ _ _ _ _ us ws h1 h2 => match us, h1, ws, h2 with | [_], _, [], _ => rfl
theorem b_check_code_1 {K : PySem.W.Frag} {w : World} {mg : Str → Option Value} (T : Txt K w mg) : KBD K T.fd_check_code ["value"] 1 [] [] [0] := KB.d (kb_check_code_1 T)
theorem kb_Effects_verdict_1 {K : PySem.W.Frag} {w : World} {mg : Str → Option Value} (T : Txt K w mg) : KB K T.fd_Effects_verdict ["self"] 1 [] [] [0] := T.F_Effects_verdict.kb fun _ _ _ _ _ _ us ws h1 h2 => match us, h1, ws, h2 with | [_], _, [], _ => rfl
theorem b_Effects_verdict_1 {K : PySem.W.Frag} {w : World} {mg : Str → Option Value} (T : Txt K w mg) : KBD K T.fd_Effects_verdict ["self"] 1 [] [] [0] := KB.d (kb_Effects_verdict_1 T)
theorem kb_Effects_ring_1 {K : PySem.W.Frag} {w : World} {mg : Str → Option Value} (T : Txt K w mg) : KB K T.fd_Effects_ring ["self"] 1 [] [] [0] := T.F_Effects_ring.kb fun _ _ _ _ _ _ us ws h1 h2 => match us, h1, ws, h2 with | [_], _, [], _ => rfl
theorem b_Effects_ring_1 {K : PySem.W.Frag} {w : World} {mg : Str → Option Value} (T : Txt K w mg) : KBD K T.fd_Effects_ring ["self"] 1 [] [] [0] := KB.d (kb_Effects_ring_1 T)
theorem kb_check_even_1 {K : PySem.W.Frag} {w : World} {mg : Str → Option Value} (T : Txt K w mg) : KB K T.fd_check_even ["code"] 1 [] [] [0] := T.F_check_even.kb fun _ _ _ _ _ _ us ws h1 h2 => match us, h1, ws, h2 with | [_], _, [], _ => rfl
theorem b_check_even_1 {K : PySem.W.Frag} {w : World} {mg : Str → Option Value} (T : Txt K w mg) : KBD K T.fd_check_even ["code"] 1 [] [] [0] := KB.d (kb_check_even_1 T)
theorem kb_check_f_2 {K : PySem.W.Frag} {w : World} {mg : Str → Option Value} (T : Txt K w mg) : KB K T.fd_check_f ["code", "value"] 2 [] [] [0, 1] := T.F_check_f.kb fun _ _ _ _ _ _ us ws h1 h2 => match us, h1, ws, h2 with | [_, _], _, [], _ => rfl
theorem b_check_f_2 {K : PySem.W.Frag} {w : World} {mg : Str → Option Value} (T : Txt K w mg) : KBD K T.fd_check_f ["code", "value"] 2 [] [] [0, 1] := KB.d (kb_check_f_2 T)
theorem kb_check_place_3 {K : PySem.W.Frag} {w : World} {mg : Str → Option Value} (T : Txt K w mg) : KB K T.fd_check_place ["code", "function", "value"] 3 [] [] [0, 1, 2] := T.F_check_place.kb fun _ _ _ _ _ _ us ws h1 h2 => match us, h1, ws, h2 with | [_, _, _], _, [], _ => rfl
theorem b_check_place_3 {K : PySem.W.Frag} {w : World} {mg : Str → Option Value} (T : Txt K w mg) : KBD K T.fd_check_place ["code", "function", "value"] 3 [] [] [0, 1, 2] := KB.d (kb_check_place_3 T)
theorem kb__law_inner_1 {K : PySem.W.Frag} {w : World} {mg : Str → Option Value} (T : Txt K w mg) : KB K T.fd__law_inner ["item"] 1 [] [] [0] := T.F__law_inner.kb fun _ _ _ _ _ _ us ws h1 h2 => match us, h1, ws, h2 with | [_], _, [], _ => rfl
theorem b__law_inner_1 {K : PySem.W.Frag} {w : World} {mg : Str → Option Value} (T : Txt K w mg) : KBD K T.fd__law_inner ["item"] 1 [] [] [0] := KB.d (kb__law_inner_1 T)
theorem kb__law_items_1 {K : PySem.W.Frag} {w : World} {mg : Str → Option Value} (T : Txt K w mg) : KB K T.fd__law_items ["body"] 1 [] [] [0] := T.F__law_items.kb fun _ _ _ _ _ _ us ws h1 h2 => match us, h1, ws, h2 with | [_], _, [], _ => rfl
theorem b__law_items_1 {K : PySem.W.Frag} {w : World} {mg : Str → Option Value} (T : Txt K w mg) : KBD K T.fd__law_items ["body"] 1 [] [] [0] := KB.d (kb__law_items_1 T)
theorem kb__law_many_1 {K : PySem.W.Frag} {w : World} {mg : Str → Option Value} (T : Txt K w mg) : KB K T.fd__law_many ["body"] 1 [] [] [0] := T.F__law_many.kb fun _ _ _ _ _ _ us ws h1 h2 => match us, h1, ws, h2 with | [_], _, [], _ => rfl
theorem b__law_many_1 {K : PySem.W.Frag} {w : World} {mg : Str → Option Value} (T : Txt K w mg) : KBD K T.fd__law_many ["body"] 1 [] [] [0] := KB.d (kb__law_many_1 T)
theorem kb__law_item_net_2 {K : PySem.W.Frag} {w : World} {mg : Str → Option Value} (T : Txt K w mg) : KB K T.fd__law_item_net ["item", "gains"] 2 [] [] [0, 1] := T.F__law_item_net.kb fun _ _ _ _ _ _ us ws h1 h2 => match us, h1, ws, h2 with | [_, _], _, [], _ => rfl
theorem b__law_item_net_2 {K : PySem.W.Frag} {w : World} {mg : Str → Option Value} (T : Txt K w mg) : KBD K T.fd__law_item_net ["item", "gains"] 2 [] [] [0, 1] := KB.d (kb__law_item_net_2 T)
theorem kb__law_passes_2 {K : PySem.W.Frag} {w : World} {mg : Str → Option Value} (T : Txt K w mg) : KB K T.fd__law_passes ["body", "gains"] 2 [] [] [0, 1] := T.F__law_passes.kb fun _ _ _ _ _ _ us ws h1 h2 => match us, h1, ws, h2 with | [_, _], _, [], _ => rfl
theorem b__law_passes_2 {K : PySem.W.Frag} {w : World} {mg : Str → Option Value} (T : Txt K w mg) : KBD K T.fd__law_passes ["body", "gains"] 2 [] [] [0, 1] := KB.d (kb__law_passes_2 T)
theorem kb__law_takes_1 {K : PySem.W.Frag} {w : World} {mg : Str → Option Value} (T : Txt K w mg) : KB K T.fd__law_takes ["item"] 1 [] [] [0] := T.F__law_takes.kb fun _ _ _ _ _ _ us ws h1 h2 => match us, h1, ws, h2 with | [_], _, [], _ => rfl
theorem b__law_takes_1 {K : PySem.W.Frag} {w : World} {mg : Str → Option Value} (T : Txt K w mg) : KBD K T.fd__law_takes ["item"] 1 [] [] [0] := KB.d (kb__law_takes_1 T)
theorem kb__law_lift_5 {K : PySem.W.Frag} {w : World} {mg : Str → Option Value} (T : Txt K w mg) : KB K T.fd__law_lift ["body", "gains", "height", "place", "found"] 5 [] [] [0, 1, 2, 3, 4] := T.F__law_lift.kb fun _ _ _ _ _ _ us ws h1 h2 => match us, h1, ws, h2 with | [_, _, _, _, _], _, [], _ => rfl
theorem b__law_lift_5 {K : PySem.W.Frag} {w : World} {mg : Str → Option Value} (T : Txt K w mg) : KBD K T.fd__law_lift ["body", "gains", "height", "place", "found"] 5 [] [] [0, 1, 2, 3, 4] := KB.d (kb__law_lift_5 T)
theorem kb__law_nets_1 {K : PySem.W.Frag} {w : World} {mg : Str → Option Value} (T : Txt K w mg) : KB K T.fd__law_nets ["code"] 1 [] [] [0] := T.F__law_nets.kb fun _ _ _ _ _ _ us ws h1 h2 => match us, h1, ws, h2 with | [_], _, [], _ => rfl
theorem b__law_nets_1 {K : PySem.W.Frag} {w : World} {mg : Str → Option Value} (T : Txt K w mg) : KBD K T.fd__law_nets ["code"] 1 [] [] [0] := KB.d (kb__law_nets_1 T)
theorem kb__law_lifts_1 {K : PySem.W.Frag} {w : World} {mg : Str → Option Value} (T : Txt K w mg) : KB K T.fd__law_lifts ["code"] 1 [] [] [0] := T.F__law_lifts.kb fun _ _ _ _ _ _ us ws h1 h2 => match us, h1, ws, h2 with | [_], _, [], _ => rfl
theorem b__law_lifts_1 {K : PySem.W.Frag} {w : World} {mg : Str → Option Value} (T : Txt K w mg) : KBD K T.fd__law_lifts ["code"] 1 [] [] [0] := KB.d (kb__law_lifts_1 T)
theorem kb__law_deal_2 {K : PySem.W.Frag} {w : World} {mg : Str → Option Value} (T : Txt K w mg) : KB K T.fd__law_deal ["pail", "top"] 2 [] [] [0, 1] := T.F__law_deal.kb fun _ _ _ _ _ _ us ws h1 h2 => match us, h1, ws, h2 with | [_, _], _, [], _ => rfl
theorem b__law_deal_2 {K : PySem.W.Frag} {w : World} {mg : Str → Option Value} (T : Txt K w mg) : KBD K T.fd__law_deal ["pail", "top"] 2 [] [] [0, 1] := KB.d (kb__law_deal_2 T)
theorem kb_verdict_1 {K : PySem.W.Frag} {w : World} {mg : Str → Option Value} (T : Txt K w mg) : KB K T.fd_verdict ["code"] 1 [] [] [0] := T.F_verdict.kb fun _ _ _ _ _ _ us ws h1 h2 => match us, h1, ws, h2 with | [_], _, [], _ => rfl
theorem b_verdict_1 {K : PySem.W.Frag} {w : World} {mg : Str → Option Value} (T : Txt K w mg) : KBD K T.fd_verdict ["code"] 1 [] [] [0] := KB.d (kb_verdict_1 T)
theorem kb__law_is_ring_2 {K : PySem.W.Frag} {w : World} {mg : Str → Option Value} (T : Txt K w mg) : KB K T.fd__law_is_ring ["code", "circle"] 2 [] [] [0, 1] := T.F__law_is_ring.kb fun _ _ _ _ _ _ us ws h1 h2 => match us, h1, ws, h2 with | [_, _], _, [], _ => rfl
theorem b__law_is_ring_2 {K : PySem.W.Frag} {w : World} {mg : Str → Option Value} (T : Txt K w mg) : KBD K T.fd__law_is_ring ["code", "circle"] 2 [] [] [0, 1] := KB.d (kb__law_is_ring_2 T)
theorem kb_ring_1 {K : PySem.W.Frag} {w : World} {mg : Str → Option Value} (T : Txt K w mg) : KB K T.fd_ring ["code"] 1 [] [] [0] := T.F_ring.kb fun _ _ _ _ _ _ us ws h1 h2 => match us, h1, ws, h2 with | [_], _, [], _ => rfl
theorem b_ring_1 {K : PySem.W.Frag} {w : World} {mg : Str → Option Value} (T : Txt K w mg) : KBD K T.fd_ring ["code"] 1 [] [] [0] := KB.d (kb_ring_1 T)
theorem kb_nets_1 {K : PySem.W.Frag} {w : World} {mg : Str → Option Value} (T : Txt K w mg) : KB K T.fd_nets ["code"] 1 [] [] [0] := T.F_nets.kb fun _ _ _ _ _ _ us ws h1 h2 => match us, h1, ws, h2 with | [_], _, [], _ => rfl
theorem b_nets_1 {K : PySem.W.Frag} {w : World} {mg : Str → Option Value} (T : Txt K w mg) : KBD K T.fd_nets ["code"] 1 [] [] [0] := KB.d (kb_nets_1 T)
theorem kb_verdict_0_code {K : PySem.W.Frag} {w : World} {mg : Str → Option Value} (T : Txt K w mg) : KB K T.fd_verdict ["code"] 0 ["code"] [] [0] := T.F_verdict.kb fun _ _ _ _ _ _ us ws h1 h2 => match us, h1, ws, h2 with | [], _, [_], _ => rfl
theorem b_verdict_0_code {K : PySem.W.Frag} {w : World} {mg : Str → Option Value} (T : Txt K w mg) : KBD K T.fd_verdict ["code"] 0 ["code"] [] [0] := KB.d (kb_verdict_0_code T)
theorem kb_height_at_3 {K : PySem.W.Frag} {w : World} {mg : Str → Option Value} (T : Txt K w mg) : KB K T.fd_height_at ["code", "f", "place"] 3 [] [] [0, 1, 2] := T.F_height_at.kb fun _ _ _ _ _ _ us ws h1 h2 => match us, h1, ws, h2 with | [_, _, _], _, [], _ => rfl
theorem b_height_at_3 {K : PySem.W.Frag} {w : World} {mg : Str → Option Value} (T : Txt K w mg) : KBD K T.fd_height_at ["code", "f", "place"] 3 [] [] [0, 1, 2] := KB.d (kb_height_at_3 T)
theorem kb_height_at_0_place_f_code {K : PySem.W.Frag} {w : World} {mg : Str → Option Value} (T : Txt K w mg) : KB K T.fd_height_at ["code", "f", "place"] 0 ["place", "f", "code"] [] [2, 1, 0] := T.F_height_at.kb fun _ _ _ _ _ _ us ws h1 h2 => match us, h1, ws, h2 with | [], _, [_, _, _], _ => rfl
theorem b_height_at_0_place_f_code {K : PySem.W.Frag} {w : World} {mg : Str → Option Value} (T : Txt K w mg) : KBD K T.fd_height_at ["code", "f", "place"] 0 ["place", "f", "code"] [] [2, 1, 0] := KB.d (kb_height_at_0_place_f_code T)
theorem kb_effects_0_code {K : PySem.W.Frag} {w : World} {mg : Str → Option Value} (T : Txt K w mg) : KB K T.fd_effects ["code"] 0 ["code"] [] [0] := T.F_effects.kb fun _ _ _ _ _ _ us ws h1 h2 => match us, h1, ws, h2 with | [], _, [_], _ => rfl
theorem b_effects_0_code {K : PySem.W.Frag} {w : World} {mg : Str → Option Value} (T : Txt K w mg) : KBD K T.fd_effects ["code"] 0 ["code"] [] [0] := KB.d (kb_effects_0_code T)
theorem kb__law_right_1 {K : PySem.W.Frag} {w : World} {mg : Str → Option Value} (T : Txt K w mg) : KB K T.fd__law_right ["pail"] 1 [] [] [0] := T.F__law_right.kb fun _ _ _ _ _ _ us ws h1 h2 => match us, h1, ws, h2 with | [_], _, [], _ => rfl
theorem b__law_right_1 {K : PySem.W.Frag} {w : World} {mg : Str → Option Value} (T : Txt K w mg) : KBD K T.fd__law_right ["pail"] 1 [] [] [0] := KB.d (kb__law_right_1 T)
theorem kb__law_pail_2 {K : PySem.W.Frag} {w : World} {mg : Str → Option Value} (T : Txt K w mg) : KB K T.fd__law_pail ["script", "turn"] 2 [] [] [0, 1] := T.F__law_pail.kb fun _ _ _ _ _ _ us ws h1 h2 => match us, h1, ws, h2 with | [_, _], _, [], _ => rfl
theorem b__law_pail_2 {K : PySem.W.Frag} {w : World} {mg : Str → Option Value} (T : Txt K w mg) : KBD K T.fd__law_pail ["script", "turn"] 2 [] [] [0, 1] := KB.d (kb__law_pail_2 T)
def m_is_whole : List RV → DM RV := mFun 1
    (sRet (eAnd (eIsi isIntD (eVar 0)) (eNot (eIsi isBoolD (eVar 0)))))
def m_is_number : List RV → DM RV := mFun 3
    (sRet (eAnd (eCall 1 0 1 [0] [] m_is_whole (aCons (eVar 0) aNil) aNil) (eAnd (eOp dLe (eVar 1) (eVar 0)) (eOr (eOpV (isNU false) (eVar 2) (eC .none)) (eOp dLe (eVar 0) (eVar 2))))))
def m_is_word : List RV → DM RV := mFun 1
    (sRet (eCall 3 0 3 [0, 1, 2] [.none] m_is_number (aCons (eVar 0) (aCons (eC (.int 0)) (aCons (eOp dSub (eC c_ROUND) (eC (.int 1))) aNil))) aNil))
def m_is_tuple_of : List RV → DM RV := mFun 2
    (sRet (eAnd (eIsi isTupD (eVar 0)) (eOp dEq (eCB lenA (aCons (eVar 0) aNil)) (eVar 1))))
def m_is_short_tuple : List RV → DM RV := mFun 3
    (sRet (eAnd (eIsi isTupD (eVar 0)) (eChain dLe dLe (eVar 1) (eCB lenA (aCons (eVar 0) aNil)) (eVar 2))))
def m_is_shuffle : List RV → DM RV := mFun 3
    (sSeq (sIf (mOr (mNot (mT (eCall 2 0 2 [0, 1] [] m_is_tuple_of (aCons (eVar 0) (aCons (eC (.int 2)) aNil)) aNil))) (mNot (mT (eIsi isStrD (eIxU (eVar 0) (eC (.int 0)))))))
    (sRet (eC (.bool false))) sNext)
    (sSeq (sAsg (eVar 0) (tgT 2 (tgsCons (tgN 1) (tgsCons (tgN 2) tgsNil))))
    (sSeq (sIf (mT (eOp dEq (eVar 1) (eC c_DROP)))
    (sRet (eCall 3 0 3 [0, 1, 2] [.none] m_is_number (aCons (eVar 2) (aCons (eC (.int 0)) (aCons (eC (.int 0)) aNil))) aNil)) sNext)
    (sSeq (sIf (mT (eOp dEq (eVar 1) (eC c_ROLL)))
    (sRet (eCall 3 0 3 [0, 1, 2] [.none] m_is_number (aCons (eVar 2) (aCons (eC (.int 1)) (aCons (eC c_DEEPEST) aNil))) aNil)) sNext)
    (sRet (eAnd (eOp dEq (eVar 1) (eC c_COPY)) (eCall 3 0 3 [0, 1, 2] [.none] m_is_number (aCons (eVar 2) (aCons (eC (.int 0)) (aCons (eC c_DEEPEST) aNil))) aNil)))))))
def m_looks_of : List RV → DM RV := mFun 1
    (sRet (eOp dAdd (eIxU (eVar 0) (eC (.int 1))) (eC (.int 1))))
def m_is_headed : List RV → DM RV := mFun 2
    (sRet (eAnd (eCall 2 0 2 [0, 1] [] m_is_tuple_of (aCons (eVar 0) (aCons (eVar 1) aNil)) aNil) (eIsi isStrD (eIxU (eVar 0) (eC (.int 0))))))
def m_is_plain_item : List RV → DM RV := mFun 1
    (sSeq (sIf (mT (eCall 1 0 1 [0] [] m_is_shuffle (aCons (eVar 0) aNil) aNil))
    (sRet (eC (.bool true))) sNext)
    (sSeq (sIf (mOr (mNot (mT (eCall 2 0 2 [0, 1] [] m_is_headed (aCons (eVar 0) (aCons (eC (.int 2)) aNil)) aNil))) (mT (eOp (inD true) (eIxU (eVar 0) (eC (.int 0))) (eTup (aCons (eC c_WORD) (aCons (eC c_ADD) (aCons (eC c_SUB) aNil)))))))
    (sRet (eC (.bool false))) sNext)
    (sRet (eIf (mT (eOp dEq (eIxU (eVar 0) (eC (.int 0))) (eC c_WORD))) (eCall 1 0 1 [0] [] m_is_word (aCons (eIxU (eVar 0) (eC (.int 1))) aNil) aNil) (eCall 3 0 3 [0, 1, 2] [.none] m_is_number (aCons (eIxU (eVar 0) (eC (.int 1))) (aCons (eC (.int 0)) (aCons (eC (.int 0)) aNil))) aNil)))))
def m_bodies_in : List RV → DM RV := mFun 1
    (sRet (eIf (mT (eOp (inD false) (eIxU (eVar 0) (eC (.int 0))) (eTup (aCons (eC c_IF) (aCons (eC c_WHILE) aNil))))) (eSl (eVar 0) (some (eC (.int 1))) none) (eTup aNil)))
structure G_10 where
  is_item : List RV → DM RV
  is_body : List RV → DM RV
def mf_is_item (r : G_10) : List RV → DM RV := mFun 4
    (sSeq (sIf (mOr (mAnd (mT (eCall 2 0 2 [0, 1] [] m_is_headed (aCons (eVar 0) (aCons (eC (.int 3)) aNil)) aNil)) (mT (eOp dEq (eIxU (eVar 0) (eC (.int 0))) (eC c_IF)))) (mAnd (mT (eCall 2 0 2 [0, 1] [] m_is_headed (aCons (eVar 0) (aCons (eC (.int 2)) aNil)) aNil)) (mT (eOp dEq (eIxU (eVar 0) (eC (.int 0))) (eC c_WHILE)))))
    (sRet (eCB (on1 dAll) (aCons (eFz (oLc [3] (iItems (eSl (eVar 0) (some (eC (.int 1))) none)) (tgN 3) tstY (eCall 3 0 3 [0, 1, 2] [] r.is_body (aCons (eVar 3) (aCons (eVar 1) (aCons (eVar 2) aNil))) aNil))) aNil))) sNext)
    (sSeq (sIf (mT (eCall 1 0 1 [0] [] m_is_plain_item (aCons (eVar 0) aNil) aNil))
    (sRet (eC (.bool true))) sNext)
    (sSeq (sIf (mNot (mT (eCall 2 0 2 [0, 1] [] m_is_headed (aCons (eVar 0) (aCons (eC (.int 2)) aNil)) aNil)))
    (sRet (eC (.bool false))) sNext)
    (sSeq (sIf (mT (eOp dEq (eIxU (eVar 0) (eC (.int 0))) (eC c_CALL)))
    (sRet (eCall 3 0 3 [0, 1, 2] [.none] m_is_number (aCons (eIxU (eVar 0) (eC (.int 1))) (aCons (eC (.int 0)) (aCons (eOp dSub (eVar 1) (eC (.int 1))) aNil))) aNil)) sNext)
    (sRet (eAnd (eOp (inD false) (eIxU (eVar 0) (eC (.int 0))) (eC c_BARE)) (eCall 3 0 3 [0, 1, 2] [.none] m_is_number (aCons (eIxU (eVar 0) (eC (.int 1))) (aCons (eC (.int 0)) (aCons (eC (.int 0)) aNil))) aNil)))))))
def mf_is_body (r : G_10) : List RV → DM RV := mFun 4
    (sSeq (sIf (mOr (mT (eOp dLe (eVar 2) (eC (.int 0)))) (mNot (mT (eIsi isTupD (eVar 0)))))
    (sRet (eC (.bool false))) sNext)
    (sRet (eCB (on1 dAll) (aCons (eFz (oLc [3] (iItems (eVar 0)) (tgN 3) tstY (eCall 3 0 3 [0, 1, 2] [] r.is_item (aCons (eVar 3) (aCons (eVar 1) (aCons (eOp dSub (eVar 2) (eC (.int 1))) aNil))) aNil))) aNil))))
def g_10 : Nat → G_10
  | 0 => ⟨fun _ => bad, fun _ => bad⟩
  | n + 1 => ⟨mf_is_item (g_10 n), mf_is_body (g_10 n)⟩
def m_is_item : List RV → DM RV := (g_10 12).is_item
def m_is_body : List RV → DM RV := (g_10 12).is_body
def m_taken_by : List RV → DM RV := mFun 1
    (sRet (eIf (mT (eOp (inD false) (eIxU (eVar 0) (eC (.int 0))) (eTup (aCons (eC c_COPY) (aCons (eC c_ROLL) aNil))))) (eCall 1 0 1 [0] [] m_looks_of (aCons (eVar 0) aNil) aNil) (eKDct q_TAKES (eIxU (eVar 0) (eC (.int 0))))))
def m_left_by : List RV → DM RV := mFun 1
    (sSeq (sIf (mT (eOp dEq (eIxU (eVar 0) (eC (.int 0))) (eC c_COPY)))
    (sRet (eOp dAdd (eCall 1 0 1 [0] [] m_looks_of (aCons (eVar 0) aNil) aNil) (eC (.int 1)))) sNext)
    (sRet (eIf (mT (eOp dEq (eIxU (eVar 0) (eC (.int 0))) (eC c_ROLL))) (eCall 1 0 1 [0] [] m_looks_of (aCons (eVar 0) aNil) aNil) (eKDct q_LEAVES (eIxU (eVar 0) (eC (.int 0)))))))
structure G_13 where
  size_of : List RV → DM RV
def mf_size_of (r : G_13) : List RV → DM RV := mFun 3
    (sRet (eCB (on1 dSum) (aCons (eFz (oLc [1] (iItems (eVar 0)) (tgN 1) tstY (eOp dAdd (eC (.int 1)) (eCB (on1 dSum) (aCons (eFz (oLc [2] (iItems (eCall 1 0 1 [0] [] m_bodies_in (aCons (eVar 1) aNil) aNil)) (tgN 2) tstY (eCall 1 0 1 [0] [] r.size_of (aCons (eVar 2) aNil) aNil))) aNil))))) aNil)))
def g_13 : Nat → G_13
  | 0 => ⟨fun _ => bad⟩
  | n + 1 => ⟨mf_size_of (g_13 n)⟩
def m_size_of : List RV → DM RV := (g_13 12).size_of
def m_Place___init__ : List RV → DM RV := mFun 4
    (sSeq (sAttr ["Place"] "item" (eVar 0) (eVar 1))
    (sSeq (sAttr ["Place"] "way" (eVar 0) (eVar 2))
    (sAttr ["Place"] "index" (eVar 0) (eVar 3))))
structure G_15 where
  places_of : List RV → DM RV
def b1_places_of (r : G_15) : DEnv → DM Fl := (sDrop (eLExt (eVar 2) (eCall 2 0 2 [0, 1] [(.tuple [])] r.places_of (aCons (eVar 6) (aCons (eTup (aStar (eVar 1) (aCons (eTup (aCons (eVar 3) (aCons (eOp dAdd (eVar 5) (eC (.int 1))) aNil))) aNil))) aNil)) aNil)))
def b2_places_of (r : G_15) : DEnv → DM Fl := (sSeq (sDrop (eLApp (eVar 2) (eMake "Place" 4 4 [0, 1, 2, 3] [] m_Place___init__ (aCons (eVar 4) (aCons (eVar 1) (aCons (eVar 3) aNil))))))
    (sForEU (eCall 1 0 1 [0] [] m_bodies_in (aCons (eVar 4) aNil) aNil) (tgN 5) (tgN 6) (b1_places_of r)))
def mf_places_of (r : G_15) : List RV → DM RV := mFun 7
    (sSeq (sAsg (eNewBox (oLst aNil)) (tgN 2))
    (sSeq (sForEU (eVar 0) (tgN 3) (tgN 4) (b2_places_of r))
    (sRet (eVar 2))))
def g_15 : Nat → G_15
  | 0 => ⟨fun _ => bad⟩
  | n + 1 => ⟨mf_places_of (g_15 n)⟩
def m_places_of : List RV → DM RV := (g_15 12).places_of
def m_items_in_all : List RV → DM RV := mFun 2
    (sRet (eCB (on1 dSum) (aCons (eFz (oLc [1] (iItems (eVar 0)) (tgN 1) tstY (eCall 1 0 1 [0] [] m_size_of (aCons (eVar 1) aNil) aNil))) aNil)))
def m_is_code_form : List RV → DM RV := mFun 2
    (sSeq (sIf (mNot (mT (eCall 3 0 3 [0, 1, 2] [] m_is_short_tuple (aCons (eVar 0) (aCons (eC (.int 1)) (aCons (eC c_MOST_FUNCTIONS) aNil))) aNil)))
    (sRet (eC (.bool false))) sNext)
    (sSeq (sIf (mNot (mT (eCB (on1 dAll) (aCons (eFz (oLc [1] (iItems (eVar 0)) (tgN 1) tstY (eCall 3 0 3 [0, 1, 2] [] m_is_body (aCons (eVar 1) (aCons (eCB lenA (aCons (eVar 0) aNil)) (aCons (eC c_MOST_DEEP) aNil))) aNil))) aNil))))
    (sRet (eC (.bool false))) sNext)
    (sRet (eOp dLe (eCall 1 0 1 [0] [] m_items_in_all (aCons (eVar 0) aNil) aNil) (eC c_MOST_ITEMS)))))
def m_check_code : List RV → DM RV := mFun 1
    (sIf (mNot (mT (eCall 1 0 1 [0] [] m_is_code_form (aCons (eVar 0) aNil) aNil)))
    sBad sNext)
def m_check_f : List RV → DM RV := mFun 2
    (sIf (mNot (mT (eCall 3 0 3 [0, 1, 2] [.none] m_is_number (aCons (eVar 1) (aCons (eC (.int 0)) (aCons (eOp dSub (eCB lenA (aCons (eVar 0) aNil)) (eC (.int 1))) aNil))) aNil)))
    sBad sNext)
def m_check_place : List RV → DM RV := mFun 3
    (sIf (mNot (mT (eCall 3 0 3 [0, 1, 2] [.none] m_is_number (aCons (eVar 2) (aCons (eC (.int 0)) (aCons (eOp dSub (eCall 1 0 1 [0] [] m_size_of (aCons (eIxU (eVar 0) (eVar 1)) aNil) aNil) (eC (.int 1))) aNil))) aNil)))
    sBad sNext)
structure G_21 where
  net_of_item : List RV → DM RV
  net_of_body : List RV → DM RV
def mf_net_of_item (r : G_21) : List RV → DM RV := mFun 5
    (sSeq (sAsg (eIxU (eVar 0) (eC (.int 0))) (tgN 2))
    (sSeq (sIf (mT (eOp dEq (eVar 2) (eC c_WHILE)))
    (sRet (eFz (oLst (aCons (eUn dNeg (eC (.int 1))) aNil)))) sNext)
    (sSeq (sIf (mT (eOp dEq (eVar 2) (eC c_CALL)))
    (sRet (eIf (mT (eOpV (isNU false) (eIxU (eVar 1) (eIxU (eVar 0) (eC (.int 1)))) (eC .none))) (eFz (oLst aNil)) (eFz (oLst (aCons (eIxU (eVar 1) (eIxU (eVar 0) (eC (.int 1)))) aNil))))) sNext)
    (sSeq (sIf (mT (eOp dEq (eVar 2) (eC c_IF)))
    (sSeq (sAsg (eFz (oLst (aStar (eCall 2 0 2 [0, 1] [] r.net_of_body (aCons (eIxU (eVar 0) (eC (.int 1))) (aCons (eVar 1) aNil)) aNil) (aStar (eCall 2 0 2 [0, 1] [] r.net_of_body (aCons (eIxU (eVar 0) (eC (.int 2))) (aCons (eVar 1) aNil)) aNil) aNil)))) (tgN 3))
    (sRet (eFz (oLc [4] (iItems (eSl (eVar 3) none (some (eC (.int 1))))) (tgN 4) tstY (eOp dSub (eVar 4) (eC (.int 1))))))) sNext)
    (sRet (eFz (oLst (aCons (eOp dSub (eCall 1 0 1 [0] [] m_left_by (aCons (eVar 0) aNil) aNil) (eCall 1 0 1 [0] [] m_taken_by (aCons (eVar 0) aNil) aNil)) aNil))))))))
def b1_net_of_body (r : G_21) : DEnv → DM Fl := (sSeq (sAsg (eCall 2 0 2 [0, 1] [] r.net_of_item (aCons (eVar 3) (aCons (eVar 1) aNil)) aNil) (tgN 4))
    (sSeq (sIf (mT (eOp dEq (eVar 4) (eFz (oLst aNil))))
    (sRet (eFz (oLst aNil))) sNext)
    (sAsg (eOp dAdd (eVar 2) (eIxU (eVar 4) (eC (.int 0)))) (tgN 2))))
def mf_net_of_body (r : G_21) : List RV → DM RV := mFun 5
    (sSeq (sAsg (eC (.int 0)) (tgN 2))
    (sSeq (sForU (eVar 0) (tgN 3) (b1_net_of_body r))
    (sRet (eFz (oLst (aCons (eVar 2) aNil))))))
def g_21 : Nat → G_21
  | 0 => ⟨fun _ => bad, fun _ => bad⟩
  | n + 1 => ⟨mf_net_of_item (g_21 n), mf_net_of_body (g_21 n)⟩
def m_net_of_item : List RV → DM RV := (g_21 12).net_of_item
def m_net_of_body : List RV → DM RV := (g_21 12).net_of_body
def b1_nets_of : DEnv → DM Fl := (sApp 3 (eIf (mT (eOpV (isNU true) (eVar 5) (eC .none))) (eVar 5) (eOp dIx (eFz (oLst (aStar (eCall 2 0 2 [0, 1] [] m_net_of_body (aCons (eVar 4) (aCons (eVar 2) aNil)) aNil) (aCons (eC .none) aNil)))) (eC (.int 0)))))
def b2_nets_of : DEnv → DM Fl := (sSeq (sAsg (eVar 1) (tgN 2))
    (sSeq (sOwn 3 (oLst aNil))
    (sSeq (sFor (iZipD (eVar 0) (eVar 2)) (tgT 2 (tgsCons (tgN 4) (tgsCons (tgN 5) tgsNil))) b1_nets_of)
    (sFrz 3 (sAsg (eCB (on1 dTuple) (aCons (eVar 3) aNil)) (tgN 1))))))
def m_nets_of : List RV → DM RV := mFun 7
    (sSeq (sPar 1 2 (aCons (eCB (on1 dTuple) (aCons (eFz (oLc [6] (iItems (eVar 0)) (tgN 6) tstY (eC .none))) aNil)) (aCons (eTup aNil) aNil)))
    (sSeq (sWhile fuel_nets_of (mT (eOp dNe (eVar 1) (eVar 2))) b2_nets_of)
    (sRet (eVar 1))))
def m_is_unlike : List RV → DM RV := mFun 4
    (sSeq (sIf (mT (eOp dEq (eIxU (eVar 0) (eC (.int 0))) (eC c_IF)))
    (sSeq (sPar 2 3 (aCons (eCall 2 0 2 [0, 1] [] m_net_of_body (aCons (eIxU (eVar 0) (eC (.int 1))) (aCons (eVar 1) aNil)) aNil) (aCons (eCall 2 0 2 [0, 1] [] m_net_of_body (aCons (eIxU (eVar 0) (eC (.int 2))) (aCons (eVar 1) aNil)) aNil) aNil)))
    (sRet (eAnd (eOp dNe (eVar 2) (eFz (oLst aNil))) (eAnd (eOp dNe (eVar 3) (eFz (oLst aNil))) (eOp dNe (eVar 2) (eVar 3)))))) sNext)
    (sRet (eAnd (eOp dEq (eIxU (eVar 0) (eC (.int 0))) (eC c_WHILE)) (eOp (inD true) (eCall 2 0 2 [0, 1] [] m_net_of_body (aCons (eIxU (eVar 0) (eC (.int 1))) (aCons (eVar 1) aNil)) aNil) (eTup (aCons (eFz (oLst aNil)) (aCons (eFz (oLst (aCons (eC c_ROUND_NET) aNil))) aNil)))))))
def b1_unlike_places : DEnv → DM Fl := (sIf (mT (eCall 2 0 2 [0, 1] [] m_is_unlike (aCons (eAttr ["Place"] "item" (eVar 6)) (aCons (eVar 1) aNil)) aNil))
    (sApp 2 (eTup (aCons (eVar 3) (aCons (eVar 5) aNil)))) sNext)
def b2_unlike_places : DEnv → DM Fl := (sForEU (eCall 1 0 2 [0, 1] [(.tuple [])] m_places_of (aCons (eVar 4) aNil) aNil) (tgN 5) (tgN 6) b1_unlike_places)
def m_unlike_places : List RV → DM RV := mFun 7
    (sSeq (sOwn 2 (oLst aNil))
    (sSeq (sForEU (eVar 0) (tgN 3) (tgN 4) b2_unlike_places)
    (sFrz 2 (sRet (eVar 2)))))
structure G_25 where
  heights_in : List RV → DM RV
def b1_heights_in (r : G_25) : DEnv → DM Fl := (sSeq (sExt 4 (eCall 4 0 4 [0, 1, 2, 3] [] r.heights_in (aCons (eVar 7) (aCons (eVar 1) (aCons (eVar 6) (aCons (eOp dSub (eVar 3) (eC (.int 1))) aNil)))) aNil))
    (sAsg (eOp dAdd (eVar 6) (eCall 1 0 1 [0] [] m_size_of (aCons (eVar 7) aNil) aNil)) (tgN 6)))
def b2_heights_in (r : G_25) : DEnv → DM Fl := (sSeq (sApp 4 (eTup (aCons (eVar 2) (aCons (eVar 3) aNil))))
    (sSeq (sIf (mT (eOp (inD false) (eIxU (eVar 5) (eC (.int 0))) (eTup (aCons (eC c_IF) (aCons (eC c_WHILE) aNil)))))
    (sSeq (sAsg (eOp dAdd (eVar 2) (eC (.int 1))) (tgN 6))
    (sForU (eSl (eVar 5) (some (eC (.int 1))) none) (tgN 7) (b1_heights_in r))) sNext)
    (sSeq (sAsg (eCall 2 0 2 [0, 1] [] m_net_of_item (aCons (eVar 5) (aCons (eVar 1) aNil)) aNil) (tgN 8))
    (sSeq (sIf (mT (eOp dEq (eVar 8) (eFz (oLst aNil))))
    (sFrz 4 (sRet (eVar 4))) sNext)
    (sSeq (sAsg (eOp dAdd (eVar 3) (eIxU (eVar 8) (eC (.int 0)))) (tgN 3))
    (sAsg (eOp dAdd (eVar 2) (eCall 1 0 1 [0] [] m_size_of (aCons (eTup (aCons (eVar 5) aNil)) aNil) aNil)) (tgN 2)))))))
def mf_heights_in (r : G_25) : List RV → DM RV := mFun 9
    (sSeq (sOwn 4 (oLst aNil))
    (sSeq (sForU (eVar 0) (tgN 5) (b2_heights_in r))
    (sFrz 4 (sRet (eVar 4)))))
def g_25 : Nat → G_25
  | 0 => ⟨fun _ => bad⟩
  | n + 1 => ⟨mf_heights_in (g_25 n)⟩
def m_heights_in : List RV → DM RV := (g_25 12).heights_in
def b1_Effects_deeper : DEnv → DM Fl := (sAsg (eCB (on2 dMax2) (aCons (eIxU (eVar 2) (eVar 3)) (aCons (eOp dSub (eIxU (eVar 1) (eVar 5)) (eVar 6)) aNil))) (tgU (eVar 2) (eVar 3)))
def m_Effects_deeper : List RV → DM RV := mFun 7
    (sSeq (sAsg (eNewBox (oList (aCons (eVar 1) aNil))) (tgN 2))
    (sSeq (sForU (eAttr ["Effects"] "calls" (eVar 0)) (tgT 4 (tgsCons (tgN 3) (tgsCons (tgN 4) (tgsCons (tgN 5) (tgsCons (tgN 6) tgsNil))))) b1_Effects_deeper)
    (sRet (eVar 2))))
def b1_Effects_find_depths : DEnv → DM Fl := (sSeq (sAsg (eAttr ["Place"] "item" (eIxU (eVar 4) (eVar 6))) (tgN 8))
    (sSeq (sAsg (eCB (on2 dMax2) (aCons (eVar 5) (aCons (eOp dSub (eCall 1 0 1 [0] [] m_taken_by (aCons (eVar 8) aNil) aNil) (eVar 7)) aNil))) (tgN 5))
    (sIf (mT (eOp dEq (eIxU (eVar 8) (eC (.int 0))) (eC c_CALL)))
    (sDrop (eLApp (eAttr ["Effects"] "calls" (eVar 0)) (eTup (aCons (eVar 2) (aCons (eVar 6) (aCons (eIxU (eVar 8) (eC (.int 1))) (aCons (eVar 7) aNil))))))) sNext)))
def b2_Effects_find_depths : DEnv → DM Fl := (sSeq (sPar 4 5 (aCons (eCall 1 0 2 [0, 1] [(.tuple [])] m_places_of (aCons (eVar 3) aNil) aNil) (aCons (eC (.int 0)) aNil)))
    (sSeq (sLock (eIxU (eAttr ["Effects"] "heights" (eVar 0)) (eVar 2)) (sFor (iItmD (eIxU (eAttr ["Effects"] "heights" (eVar 0)) (eVar 2))) (tgT 2 (tgsCons (tgN 6) (tgsCons (tgN 7) tgsNil))) b1_Effects_find_depths))
    (sDrop (eLApp (eVar 1) (eVar 5)))))
def b3_Effects_find_depths : DEnv → DM Fl := (sAsg (eMeth [("Effects", m_Effects_deeper)] "deeper" 2 2 [0, 1] [] (eVar 0) (aCons (eVar 1) aNil)) (tgN 1))
def m_Effects_find_depths : List RV → DM RV := mFun 10
    (sSeq (sAsg (eNewBox (oLst aNil)) (tgN 1))
    (sSeq (sForEU (eAttr ["Effects"] "own_bodies" (eVar 0)) (tgN 2) (tgN 3) b2_Effects_find_depths)
    (sSeq (sForU (eAttr ["Effects"] "own_bodies" (eVar 0)) (tgN 9) b3_Effects_find_depths)
    (sIf (mT (eOpS dEq (eVar 1) (eMeth [("Effects", m_Effects_deeper)] "deeper" 2 2 [0, 1] [] (eVar 0) (aCons (eVar 1) aNil))))
    (sAttr ["Effects"] "depths" (eVar 0) (eCB tupA (aCons (eVar 1) aNil))) sNext))))
def m_Effects___init__ : List RV → DM RV := mFun 3
    (sSeq (sAttr ["Effects"] "own_bodies" (eVar 0) (eVar 1))
    (sSeq (sAttr ["Effects"] "nets" (eVar 0) (eCall 1 0 1 [0] [] m_nets_of (aCons (eVar 1) aNil) aNil))
    (sSeq (sAttr ["Effects"] "unlike" (eVar 0) (eOp dIx (eFz (oLst (aStar (eCall 2 0 2 [0, 1] [] m_unlike_places (aCons (eVar 1) (aCons (eAttr ["Effects"] "nets" (eVar 0)) aNil)) aNil) (aCons (eC .none) aNil)))) (eC (.int 0))))
    (sSeq (sAttr ["Effects"] "heights" (eVar 0) (eNewBox (oLst aNil)))
    (sSeq (sAttr ["Effects"] "calls" (eVar 0) (eNewBox (oLst aNil)))
    (sSeq (sAttr ["Effects"] "depths" (eVar 0) (eC .none))
    (sIf (mT (eOpV (isNU false) (eAttr ["Effects"] "unlike" (eVar 0)) (eC .none)))
    (sSeq (sAttr ["Effects"] "heights" (eVar 0) (eNewBox (oLc [2] (iItems (eVar 1)) (tgN 2) tstY (eCB (on1 dDictP) (aCons (eCall 4 0 4 [0, 1, 2, 3] [] m_heights_in (aCons (eVar 2) (aCons (eAttr ["Effects"] "nets" (eVar 0)) (aCons (eC (.int 0)) (aCons (eC (.int 0)) aNil)))) aNil) aNil)))))
    (sDrop (eMeth [("Effects", m_Effects_find_depths)] "find_depths" 1 1 [0] [] (eVar 0) aNil))) sNext)))))))
def m_Effects_told : List RV → DM RV := mFun 3
    (sRet (eCB (on1 dTuple) (aCons (eFz (oLc [1, 2] (iZipD (eAttr ["Effects"] "depths" (eVar 0)) (eAttr ["Effects"] "nets" (eVar 0))) (tgT 2 (tgsCons (tgN 1) (tgsCons (tgN 2) tgsNil))) tstY (eTup (aCons (eVar 1) (aCons (eIf (mT (eOpV (isNU false) (eVar 2) (eC .none))) (eC .none) (eOp dAdd (eVar 1) (eVar 2))) aNil))))) aNil)))
def m_Effects_verdict : List RV → DM RV := mFun 1
    (sSeq (sIf (mT (eOpV (isNU true) (eAttr ["Effects"] "unlike" (eVar 0)) (eC .none)))
    (sRet (eTup (aCons (eC c_UNLIKE) (aCons (eIxU (eAttr ["Effects"] "unlike" (eVar 0)) (eC (.int 0))) (aCons (eIxU (eAttr ["Effects"] "unlike" (eVar 0)) (eC (.int 1))) aNil))))) sNext)
    (sRet (eIf (mT (eOpV (isNU false) (eAttr ["Effects"] "depths" (eVar 0)) (eC .none))) (eTup (aCons (eC c_BOTTOMLESS) aNil)) (eTup (aCons (eC c_EVEN) (aCons (eMeth [("Effects", m_Effects_told)] "told" 1 1 [0] [] (eVar 0) aNil) aNil))))))
def m_check_even : List RV → DM RV := mFun 2
    (sSeq (sAsg (eMake "Effects" 2 2 [0, 1] [] m_Effects___init__ (aCons (eVar 0) aNil)) (tgN 1))
    (sSeq (sIf (mT (eOpV (isNU false) (eAttr ["Effects"] "depths" (eVar 1)) (eC .none)))
    sBad sNext)
    (sRet (eVar 1))))
def m_nets : List RV → DM RV := mFun 1
    (sSeq (sDrop (eCall 1 0 1 [0] [] m_check_code (aCons (eVar 0) aNil) aNil))
    (sRet (eCall 1 0 1 [0] [] m_nets_of (aCons (eVar 0) aNil) aNil)))
def m_verdict : List RV → DM RV := mFun 1
    (sSeq (sDrop (eCall 1 0 1 [0] [] m_check_code (aCons (eVar 0) aNil) aNil))
    (sRet (eMeth [("Effects", m_Effects_verdict)] "verdict" 1 1 [0] [] (eMake "Effects" 2 2 [0, 1] [] m_Effects___init__ (aCons (eVar 0) aNil)) aNil)))
def b1_Effects_ring : DEnv → DM Fl := (sSeq (sAsg (eOp dAdd (eIxU (eVar 1) (eIxU (eVar 5) (eC (.int 0)))) (eIxU (eVar 5) (eC (.int 3)))) (tgN 6))
    (sIf (mT (eOp dLt (eVar 6) (eIxU (eVar 1) (eIxU (eVar 5) (eC (.int 2))))))
    (sSeq (sAsg (eVar 6) (tgU (eVar 1) (eIxU (eVar 5) (eC (.int 2)))))
    (sSeq (sAsg (eVar 5) (tgU (eVar 2) (eIxU (eVar 5) (eC (.int 2)))))
    (sAsg (eIxU (eVar 5) (eC (.int 2))) (tgN 3)))) sNext))
def b2_Effects_ring : DEnv → DM Fl := (sForU (eAttr ["Effects"] "calls" (eVar 0)) (tgN 5) b1_Effects_ring)
def b3_Effects_ring : DEnv → DM Fl := (sAsg (eIxU (eIxU (eVar 2) (eVar 3)) (eC (.int 0))) (tgN 3))
def b4_Effects_ring : DEnv → DM Fl := (sDrop (eLApp (eVar 7) (eIxU (eVar 2) (eIxU (eIxU (eVar 7) (eUn dNeg (eC (.int 1)))) (eC (.int 0))))))
def m_Effects_ring : List RV → DM RV := mFun 9
    (sSeq (sPar 1 2 (aCons (eNewBox (oLc [4] (iItems (eAttr ["Effects"] "own_bodies" (eVar 0))) (tgN 4) tstY (eC (.int 0)))) (aCons eDNewK aNil)))
    (sSeq (sAsg (eC (.int 0)) (tgN 3))
    (sSeq (sFor (iRange1 (eOp dAdd (eCB (on1 dLen) (aCons (eAttr ["Effects"] "own_bodies" (eVar 0)) aNil)) (eC (.int 1)))) (tgN 4) b2_Effects_ring)
    (sSeq (sForU (eAttr ["Effects"] "own_bodies" (eVar 0)) (tgN 4) b3_Effects_ring)
    (sSeq (sPar 7 8 (aCons (eNewBox (oLst (aCons (eIxU (eVar 2) (eVar 3)) aNil))) (aCons (eVar 3) aNil)))
    (sSeq (sWhile fuel_Effects_ring (mT (eOp dNe (eIxU (eIxU (eVar 7) (eUn dNeg (eC (.int 1)))) (eC (.int 0))) (eVar 8))) b4_Effects_ring)
    (sRet (eCB (on1 dTuple) (aCons (eFz (oLc [5] (iItems (eFz (oRev (eVar 7)))) (tgN 5) tstY (eTup (aCons (eIxU (eVar 5) (eC (.int 0))) (aCons (eIxU (eVar 5) (eC (.int 1))) aNil))))) aNil)))))))))
def m_ring : List RV → DM RV := mFun 2
    (sSeq (sDrop (eCall 1 0 1 [0] [] m_check_code (aCons (eVar 0) aNil) aNil))
    (sSeq (sAsg (eMake "Effects" 2 2 [0, 1] [] m_Effects___init__ (aCons (eVar 0) aNil)) (tgN 1))
    (sSeq (sIf (mT (eOpV (isNU true) (eAttr ["Effects"] "unlike" (eVar 1)) (eC .none)))
    sBad sNext)
    (sRet (eIf (mT (eOpV (isNU false) (eAttr ["Effects"] "depths" (eVar 1)) (eC .none))) (eMeth [("Effects", m_Effects_ring)] "ring" 1 1 [0] [] (eVar 1) aNil) (eC .none))))))
def m_effects : List RV → DM RV := mFun 1
    (sSeq (sDrop (eCall 1 0 1 [0] [] m_check_code (aCons (eVar 0) aNil) aNil))
    (sRet (eMeth [("Effects", m_Effects_told)] "told" 1 1 [0] [] (eCall 1 0 1 [0] [] m_check_even (aCons (eVar 0) aNil) aNil) aNil)))
def m_height_at : List RV → DM RV := mFun 3
    (sSeq (sDrop (eCall 1 0 1 [0] [] m_check_code (aCons (eVar 0) aNil) aNil))
    (sSeq (sDrop (eCall 2 0 2 [0, 1] [] m_check_f (aCons (eVar 0) (aCons (eVar 1) aNil)) aNil))
    (sSeq (sDrop (eCall 3 0 3 [0, 1, 2] [] m_check_place (aCons (eVar 0) (aCons (eVar 1) (aCons (eVar 2) aNil))) aNil))
    (sRet (eDGet1 (eIxU (eAttr ["Effects"] "heights" (eCall 1 0 1 [0] [] m_check_even (aCons (eVar 0) aNil) aNil)) (eVar 1)) (eVar 2))))))
def b1__law_pail : DEnv → DM Fl := (sAsg (eOp dMod (eCB (on1 dInt) (aCons (eOp dAdd (eOp dAdd (eOp dMul (eVar 2) (eC (.int 65071))) (eOp dMul (eOp dMod (eCB (on1 dInt) (aCons (eVar 3) aNil)) (eC (.int 2147483423))) (eC (.int 17)))) (eC (.int 5))) aNil)) (eC (.int 2147483423))) (tgN 2))
def m__law_pail : List RV → DM RV := mFun 5
    (sSeq (sAsg (eOp dAdd (eC (.int 3095188)) (eOp dMul (eC (.int 17021)) (eVar 1))) (tgN 2))
    (sSeq (sFor (iItems (eSl (eVar 0) none (some (eC (.int 12))))) (tgN 3) b1__law_pail)
    (sSeq (sAsg (eIf (mT (eOp dLt (eVar 1) (eCB (on1 dLen) (aCons (eVar 0) aNil)))) (eCB (on1 dInt) (aCons (eOp dIx (eVar 0) (eVar 1)) aNil)) (eC (.int 0))) (tgN 4))
    (sSeq (sAsg (eOp dMod (eCB (on1 dInt) (aCons (eOp dAdd (eOp dAdd (eOp dMul (eVar 2) (eC (.int 61))) (eOp dMul (eOp dMod (eCB (on1 dInt) (aCons (eVar 4) aNil)) (eC (.int 2147483423))) (eC (.int 30011)))) (eC (.int 7))) aNil)) (eC (.int 2147483423))) (tgN 2))
    (sRet (eNewBox (oLst (aCons (eIf (mOr (mT (eOp dLt (eVar 4) (eC (.int 0)))) (mT (eOp dGe (eVar 4) (eOp dPow (eC (.int 10)) (eC (.int 15)))))) (eCB (on1 dAbs) (aCons (eVar 4) aNil)) (eC (.int 0))) (aCons (eVar 2) (aCons (eC (.int 0)) aNil))))))))))
def m__law_deal : List RV → DM RV := mFun 4
    (sSeq (sIf (mT (eOp dGt (eBox (eVar 0) 0) (eC (.int 0))))
    (sSeq (sAsg (eCB (on2 dDivmod) (aCons (eBox (eVar 0) 0) (aCons (eVar 1) aNil))) (tgT 2 (tgsCons (tgBox (eVar 0) 0) (tgsCons (tgN 2) tgsNil))))
    (sRet (eVar 2))) sNext)
    (sSeq (sAsg (eOp dAdd (eBox (eVar 0) 2) (eC (.int 1))) (tgBox (eVar 0) 2))
    (sSeq (sAsg (eOp dMod (eCB (on1 dInt) (aCons (eOp dAdd (eOp dMul (eBox (eVar 0) 1) (eC (.int 15511))) (eOp dMul (eC (.int 11903)) (eBox (eVar 0) 2))) aNil)) (eC (.int 2147483423))) (tgN 3))
    (sSeq (sAsg (eOp dMod (eCB (on1 dInt) (aCons (eOp dAdd (eOp dMul (eVar 3) (eOp dAdd (eOp dMod (eCB (on1 dInt) (aCons (eVar 3) aNil)) (eC (.int 5147))) (eC (.int 30011)))) (eOp dMul (eC (.int 31)) (eBox (eVar 0) 2))) aNil)) (eC (.int 2147483423))) (tgBox (eVar 0) 1))
    (sRet (eOp dMod (eCB (on1 dInt) (aCons (eOp dFdiv (eBox (eVar 0) 1) (eC (.int 349))) aNil)) (eVar 1)))))))
def m__law_inner : List RV → DM RV := mFun 1
    (sRet (eIf (mAnd (mT (eOp dEq (eIxU (eVar 0) (eC (.int 0))) (eC (.str "if")))) (mT (eOp dEq (eCB lenA (aCons (eVar 0) aNil)) (eC (.int 3))))) (eSl (eVar 0) (some (eC (.int 1))) none) (eIf (mAnd (mT (eOp dEq (eIxU (eVar 0) (eC (.int 0))) (eC (.str "while")))) (mT (eOp dEq (eCB lenA (aCons (eVar 0) aNil)) (eC (.int 2))))) (eSl (eVar 0) (some (eC (.int 1))) none) (eTup aNil))))
structure G_41 where
  _law_items : List RV → DM RV
def b1__law_items (r : G_41) : DEnv → DM Fl := (sFrz 1 (sOwn 1 (oCat (eVar 1) (eCall 1 0 1 [0] [] r._law_items (aCons (eVar 3) aNil) aNil))))
def b2__law_items (r : G_41) : DEnv → DM Fl := (sSeq (sApp 1 (eVar 2))
    (sFor (iItems (eCall 1 0 1 [0] [] m__law_inner (aCons (eVar 2) aNil) aNil)) (tgN 3) (b1__law_items r)))
def mf__law_items (r : G_41) : List RV → DM RV := mFun 4
    (sSeq (sOwn 1 (oLst aNil))
    (sSeq (sForU (eVar 0) (tgN 2) (b2__law_items r))
    (sFrz 1 (sRet (eVar 1)))))
def g_41 : Nat → G_41
  | 0 => ⟨fun _ => bad⟩
  | n + 1 => ⟨mf__law_items (g_41 n)⟩
def m__law_items : List RV → DM RV := (g_41 12)._law_items
structure G_42 where
  _law_many : List RV → DM RV
def mf__law_many (r : G_42) : List RV → DM RV := mFun 3
    (sRet (eCB (on1 dSum) (aCons (eFz (oLc [1] (iItems (eVar 0)) (tgN 1) tstY (eOp dAdd (eC (.int 1)) (eCB (on1 dSum) (aCons (eFz (oLc [2] (iItems (eCall 1 0 1 [0] [] m__law_inner (aCons (eVar 1) aNil) aNil)) (tgN 2) tstY (eCall 1 0 1 [0] [] r._law_many (aCons (eVar 2) aNil) aNil))) aNil))))) aNil)))
def g_42 : Nat → G_42
  | 0 => ⟨fun _ => bad⟩
  | n + 1 => ⟨mf__law_many (g_42 n)⟩
def m__law_many : List RV → DM RV := (g_42 12)._law_many
def m__law_takes : List RV → DM RV := mFun 3
    (sSeq (sPar 1 2 (aCons (eIxU (eVar 0) (eC (.int 0))) (aCons (eIf (mT (eOp dGt (eCB lenA (aCons (eVar 0) aNil)) (eC (.int 1)))) (eIxU (eVar 0) (eC (.int 1))) (eC (.int 0))) aNil)))
    (sSeq (sIf (mT (eOp (inD false) (eVar 1) (eTup (aCons (eC (.str "copy")) (aCons (eC (.str "roll")) aNil)))))
    (sRet (eTup (aCons (eOp dAdd (eVar 2) (eC (.int 1))) (aCons (eIf (mT (eOp dEq (eVar 1) (eC (.str "copy")))) (eOp dAdd (eVar 2) (eC (.int 2))) (eOp dAdd (eVar 2) (eC (.int 1)))) aNil)))) sNext)
    (sRet (eDGet2 (eDisp (pCons (eC (.str "drop")) (eTup (aCons (eC (.int 1)) (aCons (eC (.int 0)) aNil))) (pCons (eC (.str "word")) (eTup (aCons (eC (.int 0)) (aCons (eC (.int 1)) aNil))) (pCons (eC (.str "read")) (eTup (aCons (eC (.int 0)) (aCons (eC (.int 1)) aNil))) (pCons (eC (.str "write")) (eTup (aCons (eC (.int 1)) (aCons (eC (.int 0)) aNil))) pNil))))) (eVar 1) (eTup (aCons (eC (.int 2)) (aCons (eC (.int 1)) aNil)))))))
structure G_44 where
  _law_passes : List RV → DM RV
  _law_item_net : List RV → DM RV
def b1__law_passes (r : G_44) : DEnv → DM Fl := (sSeq (sAsg (eCall 2 0 2 [0, 1] [] r._law_item_net (aCons (eVar 3) (aCons (eVar 1) aNil)) aNil) (tgT 2 (tgsCons (tgN 4) (tgsCons (tgN 5) tgsNil))))
    (sSeq (sIf (mNot (mT (eVar 4)))
    (sRet (eTup (aCons (eC (.bool false)) (aCons (eC .none) aNil)))) sNext)
    (sAsg (eOp dAdd (eVar 2) (eVar 5)) (tgN 2))))
def mf__law_passes (r : G_44) : List RV → DM RV := mFun 6
    (sSeq (sAsg (eC (.int 0)) (tgN 2))
    (sSeq (sForU (eVar 0) (tgN 3) (b1__law_passes r))
    (sRet (eTup (aCons (eC (.bool true)) (aCons (eVar 2) aNil))))))
def mf__law_item_net (r : G_44) : List RV → DM RV := mFun 8
    (sSeq (sAsg (eIxU (eVar 0) (eC (.int 0))) (tgN 2))
    (sSeq (sIf (mT (eOp dEq (eVar 2) (eC (.str "call"))))
    (sRet (eTup (aCons (eOpV (isNU true) (eIxU (eVar 1) (eIxU (eVar 0) (eC (.int 1)))) (eC .none)) (aCons (eIxU (eVar 1) (eIxU (eVar 0) (eC (.int 1)))) aNil)))) sNext)
    (sSeq (sIf (mT (eOp dEq (eVar 2) (eC (.str "while"))))
    (sRet (eTup (aCons (eC (.bool true)) (aCons (eUn dNeg (eC (.int 1))) aNil)))) sNext)
    (sSeq (sIf (mT (eOp dEq (eVar 2) (eC (.str "if"))))
    (sSeq (sPar 3 4 (aCons (eCall 2 0 2 [0, 1] [] r._law_passes (aCons (eIxU (eVar 0) (eC (.int 1))) (aCons (eVar 1) aNil)) aNil) (aCons (eCall 2 0 2 [0, 1] [] r._law_passes (aCons (eIxU (eVar 0) (eC (.int 2))) (aCons (eVar 1) aNil)) aNil) aNil)))
    (sSeq (sAsg (eIf (mT (eIxU (eVar 3) (eC (.int 0)))) (eVar 3) (eVar 4)) (tgN 5))
    (sRet (eTup (aCons (eIxU (eVar 5) (eC (.int 0))) (aCons (eIf (mT (eIxU (eVar 5) (eC (.int 0)))) (eOp dSub (eIxU (eVar 5) (eC (.int 1))) (eC (.int 1))) (eC .none)) aNil)))))) sNext)
    (sSeq (sAsg (eCall 1 0 1 [0] [] m__law_takes (aCons (eVar 0) aNil) aNil) (tgT 2 (tgsCons (tgN 6) (tgsCons (tgN 7) tgsNil))))
    (sRet (eTup (aCons (eC (.bool true)) (aCons (eOp dSub (eVar 7) (eVar 6)) aNil)))))))))
def g_44 : Nat → G_44
  | 0 => ⟨fun _ => bad, fun _ => bad⟩
  | n + 1 => ⟨mf__law_passes (g_44 n), mf__law_item_net (g_44 n)⟩
def m__law_passes : List RV → DM RV := (g_44 12)._law_passes
def m__law_item_net : List RV → DM RV := (g_44 12)._law_item_net
def b1__law_nets : DEnv → DM Fl := (sSeq (sAsg (eCall 2 0 2 [0, 1] [] m__law_passes (aCons (eIxU (eVar 0) (eVar 4)) (aCons (eVar 1) aNil)) aNil) (tgT 2 (tgsCons (tgN 5) (tgsCons (tgN 6) tgsNil))))
    (sAsg (eIf (mAnd (mT (eOpV (isNU false) (eIxU (eVar 1) (eVar 4)) (eC .none))) (mT (eVar 5))) (eVar 6) (eIxU (eVar 1) (eVar 4))) (tgU (eVar 3) (eVar 4))))
def b2__law_nets : DEnv → DM Fl := (sSeq (sAsg (eNewBox (oList (aCons (eVar 1) aNil))) (tgN 3))
    (sSeq (sFor (iRange1 (eCB lenA (aCons (eVar 0) aNil))) (tgN 4) b1__law_nets)
    (sSeq (sIf (mT (eOpS dEq (eVar 3) (eVar 1)))
    sBrk sNext)
    (sAsg (eVar 3) (tgN 1)))))
def m__law_nets : List RV → DM RV := mFun 7
    (sSeq (sAsg (eFz (oRep (oLst (aCons (eC .none) aNil)) (eCB lenA (aCons (eVar 0) aNil)))) (tgN 1))
    (sSeq (sFor (iRange1 (eOp dAdd (eCB lenA (aCons (eVar 0) aNil)) (eC (.int 1)))) (tgN 2) b2__law_nets)
    (sRet (eCB tupA (aCons (eVar 1) aNil)))))
structure G_46 where
  _law_lift : List RV → DM RV
def b1__law_lift (r : G_46) : DEnv → DM Fl := (sSeq (sDrop (eCall 5 0 5 [0, 1, 2, 3, 4] [] r._law_lift (aCons (eVar 7) (aCons (eVar 1) (aCons (eOp dSub (eVar 2) (eC (.int 1))) (aCons (eVar 6) (aCons (eVar 4) aNil))))) aNil))
    (sAsg (eOp dAdd (eVar 6) (eCall 1 0 1 [0] [] m__law_many (aCons (eVar 7) aNil) aNil)) (tgN 6)))
def b2__law_lift (r : G_46) : DEnv → DM Fl := (sSeq (sAsg (eVar 2) (tgU (eVar 4) (eVar 3)))
    (sSeq (sAsg (eOp dAdd (eVar 3) (eC (.int 1))) (tgN 6))
    (sSeq (sFor (iItems (eCall 1 0 1 [0] [] m__law_inner (aCons (eVar 5) aNil) aNil)) (tgN 7) (b1__law_lift r))
    (sSeq (sAsg (eCall 2 0 2 [0, 1] [] m__law_item_net (aCons (eVar 5) (aCons (eVar 1) aNil)) aNil) (tgT 2 (tgsCons (tgN 8) (tgsCons (tgN 9) tgsNil))))
    (sSeq (sIf (mNot (mT (eVar 8)))
    sRetN sNext)
    (sPar 3 2 (aCons (eVar 6) (aCons (eOp dAdd (eVar 2) (eVar 9)) aNil))))))))
def mf__law_lift (r : G_46) : List RV → DM RV := mFun 10
    (sForU (eVar 0) (tgN 5) (b2__law_lift r))
def g_46 : Nat → G_46
  | 0 => ⟨fun _ => bad⟩
  | n + 1 => ⟨mf__law_lift (g_46 n)⟩
def m__law_lift : List RV → DM RV := (g_46 12)._law_lift
def b1__law_lifts : DEnv → DM Fl := (sSeq (sAsg eDNewK (tgN 4))
    (sSeq (sDrop (eCall 5 0 5 [0, 1, 2, 3, 4] [] m__law_lift (aCons (eVar 3) (aCons (eVar 1) (aCons (eC (.int 0)) (aCons (eC (.int 0)) (aCons (eVar 4) aNil))))) aNil))
    (sDrop (eLApp (eVar 2) (eVar 4)))))
def m__law_lifts : List RV → DM RV := mFun 5
    (sSeq (sPar 1 2 (aCons (eCall 1 0 1 [0] [] m__law_nets (aCons (eVar 0) aNil) aNil) (aCons (eNewBox (oLst aNil)) aNil)))
    (sSeq (sForU (eVar 0) (tgN 3) b1__law_lifts)
    (sRet (eVar 2))))
def b1__law_is_ring : DEnv → DM Fl := (sSeq (sAsg (eIxU (eCall 1 0 1 [0] [] m__law_items (aCons (eIxU (eVar 0) (eVar 5)) aNil) aNil) (eVar 6)) (tgN 7))
    (sSeq (sAsg (eIf (mT (eOp dLt (eOp dAdd (eVar 4) (eC (.int 1))) (eCB lenA (aCons (eVar 1) aNil)))) (eIxU (eVar 1) (eOp dAdd (eVar 4) (eC (.int 1)))) (eIxU (eVar 1) (eC (.int 0)))) (tgN 8))
    (sSeq (sIf (mOr (mT (eOp dNe (eIxU (eVar 7) (eC (.int 0))) (eC (.str "call")))) (mOr (mT (eOpV (inU true) (eVar 6) (eIxU (eVar 2) (eVar 5)))) (mT (eOp dNe (eIxU (eVar 7) (eC (.int 1))) (eIxU (eVar 8) (eC (.int 0)))))))
    (sRet (eC (.bool false))) sNext)
    (sAsg (eOp dAdd (eVar 3) (eIxU (eIxU (eVar 2) (eVar 5)) (eVar 6))) (tgN 3)))))
def m__law_is_ring : List RV → DM RV := mFun 9
    (sSeq (sPar 2 3 (aCons (eCall 1 0 1 [0] [] m__law_lifts (aCons (eVar 0) aNil) aNil) (aCons (eC (.int 0)) aNil)))
    (sSeq (sIf (mOr (mNot (mT (eIsi isTupD (eVar 1)))) (mT (eOp dEq (eVar 1) (eTup aNil))))
    (sRet (eC (.bool false))) sNext)
    (sSeq (sForEU (eVar 1) (tgN 4) (tgT 2 (tgsCons (tgN 5) (tgsCons (tgN 6) tgsNil))) b1__law_is_ring)
    (sRet (eOp dLt (eVar 3) (eC (.int 0)))))))
def m__law_right : List RV → DM RV := mFun 12
    (sSeq (sAsg (eCall 2 0 2 [0, 1] [] m__law_deal (aCons (eVar 0) (aCons (eC (.int 6)) aNil)) aNil) (tgN 1))
    (sSeq (sAsg (eOp dMulB (eTup (aCons (eTup (aCons (eC (.str "word")) (aCons (eC (.int 1)) aNil))) aNil)) (eVar 1)) (tgN 2))
    (sSeq (sAsg (eTup (aCons (eTup (aCons (eTup (aCons (eC (.str "copy")) (aCons (eC (.int 0)) aNil))) (aCons (eTup (aCons (eC (.str "if")) (aCons (eTup (aCons (eTup (aCons (eC (.str "drop")) (aCons (eC (.int 0)) aNil))) (aCons (eTup (aCons (eC (.str "call")) (aCons (eC (.int 0)) aNil))) (aCons (eTup (aCons (eC (.str "word")) (aCons (eC (.int 1)) aNil))) aNil)))) (aCons (eTup aNil) aNil)))) aNil))) (aCons (eTup (aCons (eTup (aCons (eC (.str "word")) (aCons (eC (.int 0)) aNil))) (aCons (eTup (aCons (eC (.str "call")) (aCons (eC (.int 0)) aNil))) aNil))) aNil))) (tgN 3))
    (sSeq (sAsg (eFz (oLst (aCons (eCall 1 0 1 [0] [] (frm m_verdict) (aCons (eVar 3) aNil) aNil) (aCons (eCall 2 0 2 [0, 1] [] (frm m__law_is_ring) (aCons (eVar 3) (aCons (eCall 1 0 1 [0] [] (frm m_ring) (aCons (eVar 3) aNil) aNil) aNil)) aNil) (aCons (eCall 1 0 1 [0] [] (frm m_nets) (aCons (eVar 3) aNil) aNil) (aCons (eCall 1 0 1 [0] [] (frm m_verdict) (aCons (eTup (aCons (eTup (aCons (eTup (aCons (eC (.str "call")) (aCons (eC (.int 0)) aNil))) aNil)) aNil)) aNil) aNil) aNil)))))) (tgN 4))
    (sSeq (sAsg (eOp dAdd (eVar 4) (eFz (oLst (aCons (eCall 1 0 1 [0] [] (frm m_nets) (aCons (eTup (aCons (eTup (aCons (eTup (aCons (eC (.str "call")) (aCons (eC (.int 0)) aNil))) aNil)) aNil)) aNil) aNil) aNil)))) (tgN 4))
    (sSeq (sOwn 5 (oLst (aCons (eTup (aCons (eC (.str "bottomless")) aNil)) (aCons (eC (.bool true)) (aCons (eTup (aCons (eC (.int 0)) (aCons (eC (.int 1)) aNil))) (aCons (eTup (aCons (eC (.str "even")) (aCons (eTup (aCons (eTup (aCons (eC (.int 0)) (aCons (eC .none) aNil))) aNil)) aNil))) (aCons (eTup (aCons (eC .none) aNil)) aNil)))))))
    (sSeq (sAsg (eOp dAdd (eVar 4) (eFz (oLst (aCons (eCall 1 0 1 [0] [] (frm m_verdict) (aCons (eTup (aCons (eOp dAdd (eVar 2) (eTup (aCons (eTup (aCons (eC (.str "if")) (aCons (eTup (aCons (eTup (aCons (eC (.str "word")) (aCons (eC (.int 1)) aNil))) aNil)) (aCons (eTup aNil) aNil)))) aNil))) aNil)) aNil) aNil) (aCons (eCall 1 0 1 [0] [] (frm m_verdict) (aCons (eTup (aCons (eOp dAdd (eVar 2) (eTup (aCons (eTup (aCons (eC (.str "while")) (aCons (eTup aNil) aNil))) aNil))) aNil)) aNil) aNil) aNil))))) (tgN 4))
    (sSeq (sFrz 5 (sOwn 5 (oCat (eVar 5) (eFz (oLst (aCons (eTup (aCons (eC (.str "unlike")) (aCons (eC (.int 0)) (aCons (eVar 1) aNil)))) (aCons (eTup (aCons (eC (.str "unlike")) (aCons (eC (.int 0)) (aCons (eVar 1) aNil)))) aNil)))))))
    (sSeq (sAsg (eTup (aCons (eOp dAdd (eVar 2) (eTup (aCons (eTup (aCons (eC (.str "roll")) (aCons (eC (.int 3)) aNil))) (aCons (eTup (aCons (eC (.str "add")) (aCons (eC (.int 0)) aNil))) aNil)))) (aCons (eVar 2) aNil))) (tgN 6))
    (sSeq (sAsg (eOp dAdd (eVar 4) (eFz (oLst (aCons (eCall 1 0 1 [0] [] (frm m_verdict) (aCons (eVar 6) aNil) aNil) (aCons (eCall 0 1 1 [0] [] (frm m_verdict) aNil (aCons (eTup (aCons (eVar 2) aNil)) aNil)) (aCons (eCall 1 0 1 [0] [] (frm m_verdict) (aCons (eTup (aCons (eOp dAdd (eVar 2) (eTup (aCons (eTup (aCons (eC (.str "while")) (aCons (eTup (aCons (eTup (aCons (eC (.str "word")) (aCons (eC (.int 0)) aNil))) aNil)) aNil))) aNil))) aNil)) aNil) aNil) aNil)))))) (tgN 4))
    (sSeq (sFrz 5 (sOwn 5 (oCat (eVar 5) (eFz (oLst (aCons (eTup (aCons (eC (.str "even")) (aCons (eTup (aCons (eTup (aCons (eCB (on2 dMax2) (aCons (eC (.int 0)) (aCons (eOp dSub (eC (.int 4)) (eVar 1)) aNil))) (aCons (eOp dSub (eOp dAdd (eCB (on2 dMax2) (aCons (eC (.int 0)) (aCons (eOp dSub (eC (.int 4)) (eVar 1)) aNil))) (eVar 1)) (eC (.int 1))) aNil))) (aCons (eTup (aCons (eC (.int 0)) (aCons (eVar 1) aNil))) aNil))) aNil))) (aCons (eTup (aCons (eC (.str "even")) (aCons (eTup (aCons (eTup (aCons (eC (.int 0)) (aCons (eVar 1) aNil))) aNil)) aNil))) aNil)))))))
    (sSeq (sApp 5 (eTup (aCons (eC (.str "even")) (aCons (eTup (aCons (eTup (aCons (eCB (on2 dMax2) (aCons (eC (.int 0)) (aCons (eOp dSub (eC (.int 1)) (eVar 1)) aNil))) (aCons (eOp dSub (eOp dAdd (eCB (on2 dMax2) (aCons (eC (.int 0)) (aCons (eOp dSub (eC (.int 1)) (eVar 1)) aNil))) (eVar 1)) (eC (.int 1))) aNil))) aNil)) aNil))))
    (sSeq (sAsg (eTup (aCons (eTup (aCons (eTup (aCons (eC (.str "call")) (aCons (eC (.int 1)) aNil))) (aCons (eTup (aCons (eC (.str "drop")) (aCons (eC (.int 0)) aNil))) aNil))) (aCons (eTup (aCons (eTup (aCons (eC (.str "write")) (aCons (eC (.int 0)) aNil))) (aCons (eTup (aCons (eC (.str "call")) (aCons (eC (.int 0)) aNil))) aNil))) aNil))) (tgN 7))
    (sSeq (sAsg (eOp dAdd (eVar 4) (eFz (oLst (aCons (eCall 1 0 1 [0] [] (frm m_verdict) (aCons (eVar 7) aNil) aNil) (aCons (eCall 1 0 1 [0] [] (frm m_nets) (aCons (eVar 7) aNil) aNil) (aCons (eCall 2 0 2 [0, 1] [] (frm m__law_is_ring) (aCons (eVar 7) (aCons (eCall 1 0 1 [0] [] (frm m_ring) (aCons (eVar 7) aNil) aNil) aNil)) aNil) aNil)))))) (tgN 4))
    (sSeq (sFrz 5 (sOwn 5 (oCat (eVar 5) (eFz (oLst (aCons (eTup (aCons (eC (.str "bottomless")) aNil)) (aCons (eTup (aCons (eC .none) (aCons (eC .none) aNil))) (aCons (eC (.bool true)) aNil))))))))
    (sSeq (sAsg (eTup (aCons (eTup (aCons (eTup (aCons (eC (.str "call")) (aCons (eC (.int 1)) aNil))) (aCons (eTup (aCons (eC (.str "drop")) (aCons (eC (.int 0)) aNil))) aNil))) (aCons (eTup (aCons (eTup (aCons (eC (.str "write")) (aCons (eC (.int 0)) aNil))) (aCons (eTup (aCons (eC (.str "if")) (aCons (eTup (aCons (eTup (aCons (eC (.str "call")) (aCons (eC (.int 0)) aNil))) (aCons (eTup (aCons (eC (.str "word")) (aCons (eC (.int 1)) aNil))) aNil))) (aCons (eTup aNil) aNil)))) (aCons (eTup (aCons (eC (.str "word")) (aCons (eC (.int 3)) aNil))) aNil)))) aNil))) (tgN 8))
    (sSeq (sAsg (eOp dAdd (eVar 8) (eTup (aCons (eTup (aCons (eTup (aCons (eC (.str "word")) (aCons (eC (.int 2)) aNil))) (aCons (eTup (aCons (eC (.str "word")) (aCons (eC (.int 0)) aNil))) aNil))) aNil))) (tgN 8))
    (sSeq (sAsg (eOp dAdd (eVar 4) (eFz (oLst (aCons (eCall 1 0 1 [0] [] (frm m_nets) (aCons (eVar 8) aNil) aNil) (aCons (eCall 1 0 1 [0] [] (frm m_verdict) (aCons (eVar 8) aNil) aNil) aNil))))) (tgN 4))
    (sSeq (sFrz 5 (sOwn 5 (oCat (eVar 5) (eFz (oLst (aCons (eTup (aCons (eUn dNeg (eC (.int 2))) (aCons (eUn dNeg (eC (.int 1))) (aCons (eC (.int 2)) aNil)))) (aCons (eTup (aCons (eC (.str "unlike")) (aCons (eC (.int 1)) (aCons (eC (.int 1)) aNil)))) aNil)))))))
    (sSeq (sAsg (eTup (aCons (eTup (aCons (eTup (aCons (eC (.str "drop")) (aCons (eC (.int 0)) aNil))) (aCons (eTup (aCons (eC (.str "if")) (aCons (eTup (aCons (eTup (aCons (eC (.str "call")) (aCons (eC (.int 1)) aNil))) aNil)) (aCons (eTup (aCons (eTup (aCons (eC (.str "word")) (aCons (eC (.int 0)) aNil))) aNil)) aNil)))) (aCons (eTup (aCons (eC (.str "drop")) (aCons (eC (.int 0)) aNil))) aNil)))) (aCons (eTup (aCons (eTup (aCons (eC (.str "call")) (aCons (eC (.int 0)) aNil))) (aCons (eTup (aCons (eC (.str "copy")) (aCons (eC (.int 0)) aNil))) (aCons (eTup (aCons (eC (.str "copy")) (aCons (eC (.int 0)) aNil))) aNil)))) aNil))) (tgN 9))
    (sSeq (sAsg (eOp dAdd (eVar 4) (eFz (oLst (aCons (eCall 1 0 1 [0] [] (frm m_nets) (aCons (eVar 9) aNil) aNil) (aCons (eCall 1 0 1 [0] [] (frm m_verdict) (aCons (eVar 9) aNil) aNil) aNil))))) (tgN 4))
    (sSeq (sFrz 5 (sOwn 5 (oCat (eVar 5) (eFz (oLst (aCons (eTup (aCons (eUn dNeg (eC (.int 2))) (aCons (eC (.int 0)) aNil))) (aCons (eTup (aCons (eC (.str "unlike")) (aCons (eC (.int 0)) (aCons (eC (.int 1)) aNil)))) aNil)))))))
    (sSeq (sAsg (eOp dAdd (eOp dMulB (eTup (aCons (eTup (aCons (eC (.str "word")) (aCons (eC (.int 1)) aNil))) aNil)) (eC (.int 3))) (eTup (aCons (eTup (aCons (eC (.str "copy")) (aCons (eC (.int 1)) aNil))) (aCons (eTup (aCons (eC (.str "if")) (aCons (eTup (aCons (eTup (aCons (eC (.str "add")) (aCons (eC (.int 0)) aNil))) aNil)) (aCons (eTup (aCons (eTup (aCons (eC (.str "drop")) (aCons (eC (.int 0)) aNil))) aNil)) aNil)))) (aCons (eTup (aCons (eC (.str "while")) (aCons (eTup (aCons (eTup (aCons (eC (.str "word")) (aCons (eC (.int 0)) aNil))) aNil)) aNil))) aNil))))) (tgN 10))
    (sSeq (sAsg (eOp dAdd (eVar 10) (eTup (aCons (eTup (aCons (eC (.str "call")) (aCons (eC (.int 0)) aNil))) (aCons (eTup (aCons (eC (.str "word")) (aCons (eC (.int 4)) aNil))) aNil)))) (tgN 10))
    (sSeq (sAsg (eOp dAdd (eVar 4) (eFz (oLst (aCons (eFz (oLc [11] (iRange1 (eC (.int 11))) (tgN 11) tstY (eCall 3 0 3 [0, 1, 2] [] (frm m_height_at) (aCons (eTup (aCons (eVar 10) aNil)) (aCons (eC (.int 0)) (aCons (eVar 11) aNil))) aNil))) (aCons (eCall 0 3 3 [2, 1, 0] [] (frm m_height_at) aNil (aCons (eC (.int 6)) (aCons (eC (.int 0)) (aCons (eTup (aCons (eVar 10) aNil)) aNil)))) aNil))))) (tgN 4))
    (sSeq (sFrz 5 (sOwn 5 (oCat (eVar 5) (eFz (oLst (aCons (eFz (oLst (aCons (eC (.int 0)) (aCons (eC (.int 1)) (aCons (eC (.int 2)) (aCons (eC (.int 3)) (aCons (eC (.int 4)) (aCons (eC (.int 3)) (aCons (eC (.int 3)) (aCons (eC (.int 2)) (aCons (eC (.int 1)) (aCons (eC (.int 1)) (aCons (eC .none) aNil))))))))))))) (aCons (eC (.int 3)) aNil)))))))
    (sSeq (sAsg (eOp dAdd (eVar 4) (eFz (oLst (aCons (eCall 1 0 1 [0] [] (frm m_verdict) (aCons (eTup (aCons (eVar 10) aNil)) aNil) aNil) (aCons (eCall 0 1 1 [0] [] (frm m_effects) aNil (aCons (eTup (aCons (eVar 2) (aCons (eTup (aCons (eTup (aCons (eC (.str "call")) (aCons (eC (.int 0)) aNil))) aNil)) aNil))) aNil)) aNil))))) (tgN 4))
    (sFrz 5 (sRet (eOp dEq (eCB (on1 dRepr) (aCons (eVar 4) aNil)) (eCB (on1 dRepr) (aCons (eOp dAdd (eVar 5) (eFz (oLst (aCons (eTup (aCons (eC (.str "even")) (aCons (eTup (aCons (eTup (aCons (eC (.int 0)) (aCons (eC .none) aNil))) aNil)) aNil))) (aCons (eTup (aCons (eTup (aCons (eC (.int 0)) (aCons (eVar 1) aNil))) (aCons (eTup (aCons (eC (.int 0)) (aCons (eVar 1) aNil))) aNil))) aNil))))) aNil))))))))))))))))))))))))))))))))
def m_law : List RV → DM RV := mFun 2
    (sRet (eCB (on1 dAll) (aCons (eFz (oLc [1] (iRange1 (eCB (on2 dMax2) (aCons (eC (.int 1)) (aCons (eCB (on2 dMin2) (aCons (eCB (on1 dLen) (aCons (eVar 0) aNil)) (aCons (eC (.int 3)) aNil))) aNil)))) (tgN 1) tstY (eCall 1 0 1 [0] [] m__law_right (aCons (eCall 2 0 2 [0, 1] [] m__law_pail (aCons (eVar 0) (aCons (eVar 1) aNil)) aNil) aNil) aNil))) aNil)))
theorem part_0 (n : Nat) (s : S) : (sSeq (sAsg (eOp dMulB (eTup (aCons (eTup (aCons (eC (.str "word")) (aCons (eC (.int 1)) aNil))) aNil)) (eVar 1)) (tgN 2))
    (sSeq (sAsg (eTup (aCons (eTup (aCons (eTup (aCons (eC (.str "copy")) (aCons (eC (.int 0)) aNil))) (aCons (eTup (aCons (eC (.str "if")) (aCons (eTup (aCons (eTup (aCons (eC (.str "drop")) (aCons (eC (.int 0)) aNil))) (aCons (eTup (aCons (eC (.str "call")) (aCons (eC (.int 0)) aNil))) (aCons (eTup (aCons (eC (.str "word")) (aCons (eC (.int 1)) aNil))) aNil)))) (aCons (eTup aNil) aNil)))) aNil))) (aCons (eTup (aCons (eTup (aCons (eC (.str "word")) (aCons (eC (.int 0)) aNil))) (aCons (eTup (aCons (eC (.str "call")) (aCons (eC (.int 0)) aNil))) aNil))) aNil))) (tgN 3))
    (sSeq (sAsg (eFz (oLst (aCons (eCall 1 0 1 [0] [] (frm m_verdict) (aCons (eVar 3) aNil) aNil) (aCons (eCall 2 0 2 [0, 1] [] (frm m__law_is_ring) (aCons (eVar 3) (aCons (eCall 1 0 1 [0] [] (frm m_ring) (aCons (eVar 3) aNil) aNil) aNil)) aNil) (aCons (eCall 1 0 1 [0] [] (frm m_nets) (aCons (eVar 3) aNil) aNil) (aCons (eCall 1 0 1 [0] [] (frm m_verdict) (aCons (eTup (aCons (eTup (aCons (eTup (aCons (eC (.str "call")) (aCons (eC (.int 0)) aNil))) aNil)) aNil)) aNil) aNil) aNil)))))) (tgN 4))
    (sSeq (sAsg (eOp dAdd (eVar 4) (eFz (oLst (aCons (eCall 1 0 1 [0] [] (frm m_nets) (aCons (eTup (aCons (eTup (aCons (eTup (aCons (eC (.str "call")) (aCons (eC (.int 0)) aNil))) aNil)) aNil)) aNil) aNil) aNil)))) (tgN 4))
    (sSeq (sOwn 5 (oLst (aCons (eTup (aCons (eC (.str "bottomless")) aNil)) (aCons (eC (.bool true)) (aCons (eTup (aCons (eC (.int 0)) (aCons (eC (.int 1)) aNil))) (aCons (eTup (aCons (eC (.str "even")) (aCons (eTup (aCons (eTup (aCons (eC (.int 0)) (aCons (eC .none) aNil))) aNil)) aNil))) (aCons (eTup (aCons (eC .none) aNil)) aNil)))))))
    (sSeq (sAsg (eOp dAdd (eVar 4) (eFz (oLst (aCons (eCall 1 0 1 [0] [] (frm m_verdict) (aCons (eTup (aCons (eOp dAdd (eVar 2) (eTup (aCons (eTup (aCons (eC (.str "if")) (aCons (eTup (aCons (eTup (aCons (eC (.str "word")) (aCons (eC (.int 1)) aNil))) aNil)) (aCons (eTup aNil) aNil)))) aNil))) aNil)) aNil) aNil) (aCons (eCall 1 0 1 [0] [] (frm m_verdict) (aCons (eTup (aCons (eOp dAdd (eVar 2) (eTup (aCons (eTup (aCons (eC (.str "while")) (aCons (eTup aNil) aNil))) aNil))) aNil)) aNil) aNil) aNil))))) (tgN 4))
    (sSeq (sFrz 5 (sOwn 5 (oCat (eVar 5) (eFz (oLst (aCons (eTup (aCons (eC (.str "unlike")) (aCons (eC (.int 0)) (aCons (eVar 1) aNil)))) (aCons (eTup (aCons (eC (.str "unlike")) (aCons (eC (.int 0)) (aCons (eVar 1) aNil)))) aNil)))))))
    (sSeq (sAsg (eTup (aCons (eOp dAdd (eVar 2) (eTup (aCons (eTup (aCons (eC (.str "roll")) (aCons (eC (.int 3)) aNil))) (aCons (eTup (aCons (eC (.str "add")) (aCons (eC (.int 0)) aNil))) aNil)))) (aCons (eVar 2) aNil))) (tgN 6))
    (sSeq (sAsg (eOp dAdd (eVar 4) (eFz (oLst (aCons (eCall 1 0 1 [0] [] (frm m_verdict) (aCons (eVar 6) aNil) aNil) (aCons (eCall 0 1 1 [0] [] (frm m_verdict) aNil (aCons (eTup (aCons (eVar 2) aNil)) aNil)) (aCons (eCall 1 0 1 [0] [] (frm m_verdict) (aCons (eTup (aCons (eOp dAdd (eVar 2) (eTup (aCons (eTup (aCons (eC (.str "while")) (aCons (eTup (aCons (eTup (aCons (eC (.str "word")) (aCons (eC (.int 0)) aNil))) aNil)) aNil))) aNil))) aNil)) aNil) aNil) aNil)))))) (tgN 4))
    (sSeq (sFrz 5 (sOwn 5 (oCat (eVar 5) (eFz (oLst (aCons (eTup (aCons (eC (.str "even")) (aCons (eTup (aCons (eTup (aCons (eCB (on2 dMax2) (aCons (eC (.int 0)) (aCons (eOp dSub (eC (.int 4)) (eVar 1)) aNil))) (aCons (eOp dSub (eOp dAdd (eCB (on2 dMax2) (aCons (eC (.int 0)) (aCons (eOp dSub (eC (.int 4)) (eVar 1)) aNil))) (eVar 1)) (eC (.int 1))) aNil))) (aCons (eTup (aCons (eC (.int 0)) (aCons (eVar 1) aNil))) aNil))) aNil))) (aCons (eTup (aCons (eC (.str "even")) (aCons (eTup (aCons (eTup (aCons (eC (.int 0)) (aCons (eVar 1) aNil))) aNil)) aNil))) aNil)))))))
    (sSeq (sApp 5 (eTup (aCons (eC (.str "even")) (aCons (eTup (aCons (eTup (aCons (eCB (on2 dMax2) (aCons (eC (.int 0)) (aCons (eOp dSub (eC (.int 1)) (eVar 1)) aNil))) (aCons (eOp dSub (eOp dAdd (eCB (on2 dMax2) (aCons (eC (.int 0)) (aCons (eOp dSub (eC (.int 1)) (eVar 1)) aNil))) (eVar 1)) (eC (.int 1))) aNil))) aNil)) aNil))))
    (sSeq (sAsg (eTup (aCons (eTup (aCons (eTup (aCons (eC (.str "call")) (aCons (eC (.int 1)) aNil))) (aCons (eTup (aCons (eC (.str "drop")) (aCons (eC (.int 0)) aNil))) aNil))) (aCons (eTup (aCons (eTup (aCons (eC (.str "write")) (aCons (eC (.int 0)) aNil))) (aCons (eTup (aCons (eC (.str "call")) (aCons (eC (.int 0)) aNil))) aNil))) aNil))) (tgN 7))
    (sSeq (sAsg (eOp dAdd (eVar 4) (eFz (oLst (aCons (eCall 1 0 1 [0] [] (frm m_verdict) (aCons (eVar 7) aNil) aNil) (aCons (eCall 1 0 1 [0] [] (frm m_nets) (aCons (eVar 7) aNil) aNil) (aCons (eCall 2 0 2 [0, 1] [] (frm m__law_is_ring) (aCons (eVar 7) (aCons (eCall 1 0 1 [0] [] (frm m_ring) (aCons (eVar 7) aNil) aNil) aNil)) aNil) aNil)))))) (tgN 4))
    (sSeq (sFrz 5 (sOwn 5 (oCat (eVar 5) (eFz (oLst (aCons (eTup (aCons (eC (.str "bottomless")) aNil)) (aCons (eTup (aCons (eC .none) (aCons (eC .none) aNil))) (aCons (eC (.bool true)) aNil))))))))
    (sSeq (sAsg (eTup (aCons (eTup (aCons (eTup (aCons (eC (.str "call")) (aCons (eC (.int 1)) aNil))) (aCons (eTup (aCons (eC (.str "drop")) (aCons (eC (.int 0)) aNil))) aNil))) (aCons (eTup (aCons (eTup (aCons (eC (.str "write")) (aCons (eC (.int 0)) aNil))) (aCons (eTup (aCons (eC (.str "if")) (aCons (eTup (aCons (eTup (aCons (eC (.str "call")) (aCons (eC (.int 0)) aNil))) (aCons (eTup (aCons (eC (.str "word")) (aCons (eC (.int 1)) aNil))) aNil))) (aCons (eTup aNil) aNil)))) (aCons (eTup (aCons (eC (.str "word")) (aCons (eC (.int 3)) aNil))) aNil)))) aNil))) (tgN 8))
    (sSeq (sAsg (eOp dAdd (eVar 8) (eTup (aCons (eTup (aCons (eTup (aCons (eC (.str "word")) (aCons (eC (.int 2)) aNil))) (aCons (eTup (aCons (eC (.str "word")) (aCons (eC (.int 0)) aNil))) aNil))) aNil))) (tgN 8))
    (sSeq (sAsg (eOp dAdd (eVar 4) (eFz (oLst (aCons (eCall 1 0 1 [0] [] (frm m_nets) (aCons (eVar 8) aNil) aNil) (aCons (eCall 1 0 1 [0] [] (frm m_verdict) (aCons (eVar 8) aNil) aNil) aNil))))) (tgN 4))
    (sSeq (sFrz 5 (sOwn 5 (oCat (eVar 5) (eFz (oLst (aCons (eTup (aCons (eUn dNeg (eC (.int 2))) (aCons (eUn dNeg (eC (.int 1))) (aCons (eC (.int 2)) aNil)))) (aCons (eTup (aCons (eC (.str "unlike")) (aCons (eC (.int 1)) (aCons (eC (.int 1)) aNil)))) aNil)))))))
    (sSeq (sAsg (eTup (aCons (eTup (aCons (eTup (aCons (eC (.str "drop")) (aCons (eC (.int 0)) aNil))) (aCons (eTup (aCons (eC (.str "if")) (aCons (eTup (aCons (eTup (aCons (eC (.str "call")) (aCons (eC (.int 1)) aNil))) aNil)) (aCons (eTup (aCons (eTup (aCons (eC (.str "word")) (aCons (eC (.int 0)) aNil))) aNil)) aNil)))) (aCons (eTup (aCons (eC (.str "drop")) (aCons (eC (.int 0)) aNil))) aNil)))) (aCons (eTup (aCons (eTup (aCons (eC (.str "call")) (aCons (eC (.int 0)) aNil))) (aCons (eTup (aCons (eC (.str "copy")) (aCons (eC (.int 0)) aNil))) (aCons (eTup (aCons (eC (.str "copy")) (aCons (eC (.int 0)) aNil))) aNil)))) aNil))) (tgN 9))
    (sSeq (sAsg (eOp dAdd (eVar 4) (eFz (oLst (aCons (eCall 1 0 1 [0] [] (frm m_nets) (aCons (eVar 9) aNil) aNil) (aCons (eCall 1 0 1 [0] [] (frm m_verdict) (aCons (eVar 9) aNil) aNil) aNil))))) (tgN 4))
    (sSeq (sFrz 5 (sOwn 5 (oCat (eVar 5) (eFz (oLst (aCons (eTup (aCons (eUn dNeg (eC (.int 2))) (aCons (eC (.int 0)) aNil))) (aCons (eTup (aCons (eC (.str "unlike")) (aCons (eC (.int 0)) (aCons (eC (.int 1)) aNil)))) aNil)))))))
    (sSeq (sAsg (eOp dAdd (eOp dMulB (eTup (aCons (eTup (aCons (eC (.str "word")) (aCons (eC (.int 1)) aNil))) aNil)) (eC (.int 3))) (eTup (aCons (eTup (aCons (eC (.str "copy")) (aCons (eC (.int 1)) aNil))) (aCons (eTup (aCons (eC (.str "if")) (aCons (eTup (aCons (eTup (aCons (eC (.str "add")) (aCons (eC (.int 0)) aNil))) aNil)) (aCons (eTup (aCons (eTup (aCons (eC (.str "drop")) (aCons (eC (.int 0)) aNil))) aNil)) aNil)))) (aCons (eTup (aCons (eC (.str "while")) (aCons (eTup (aCons (eTup (aCons (eC (.str "word")) (aCons (eC (.int 0)) aNil))) aNil)) aNil))) aNil))))) (tgN 10))
    (sSeq (sAsg (eOp dAdd (eVar 10) (eTup (aCons (eTup (aCons (eC (.str "call")) (aCons (eC (.int 0)) aNil))) (aCons (eTup (aCons (eC (.str "word")) (aCons (eC (.int 4)) aNil))) aNil)))) (tgN 10))
    (sSeq (sAsg (eOp dAdd (eVar 4) (eFz (oLst (aCons (eFz (oLc [11] (iRange1 (eC (.int 11))) (tgN 11) tstY (eCall 3 0 3 [0, 1, 2] [] (frm m_height_at) (aCons (eTup (aCons (eVar 10) aNil)) (aCons (eC (.int 0)) (aCons (eVar 11) aNil))) aNil))) (aCons (eCall 0 3 3 [2, 1, 0] [] (frm m_height_at) aNil (aCons (eC (.int 6)) (aCons (eC (.int 0)) (aCons (eTup (aCons (eVar 10) aNil)) aNil)))) aNil))))) (tgN 4))
    (sSeq (sFrz 5 (sOwn 5 (oCat (eVar 5) (eFz (oLst (aCons (eFz (oLst (aCons (eC (.int 0)) (aCons (eC (.int 1)) (aCons (eC (.int 2)) (aCons (eC (.int 3)) (aCons (eC (.int 4)) (aCons (eC (.int 3)) (aCons (eC (.int 3)) (aCons (eC (.int 2)) (aCons (eC (.int 1)) (aCons (eC (.int 1)) (aCons (eC .none) aNil))))))))))))) (aCons (eC (.int 3)) aNil)))))))
    (sSeq (sAsg (eOp dAdd (eVar 4) (eFz (oLst (aCons (eCall 1 0 1 [0] [] (frm m_verdict) (aCons (eTup (aCons (eVar 10) aNil)) aNil) aNil) (aCons (eCall 0 1 1 [0] [] (frm m_effects) aNil (aCons (eTup (aCons (eVar 2) (aCons (eTup (aCons (eTup (aCons (eC (.str "call")) (aCons (eC (.int 0)) aNil))) aNil)) aNil))) aNil)) aNil))))) (tgN 4))
    (sFrz 5 (sRet (eOp dEq (eCB (on1 dRepr) (aCons (eVar 4) aNil)) (eCB (on1 dRepr) (aCons (eOp dAdd (eVar 5) (eFz (oLst (aCons (eTup (aCons (eC (.str "even")) (aCons (eTup (aCons (eTup (aCons (eC (.int 0)) (aCons (eC .none) aNil))) aNil)) aNil))) (aCons (eTup (aCons (eTup (aCons (eC (.int 0)) (aCons (eVar 1) aNil))) (aCons (eTup (aCons (eC (.int 0)) (aCons (eVar 1) aNil))) aNil))) aNil))))) aNil))))))))))))))))))))))))))))))) [some (.rv (.box n)), some (.rv (.d (.int 0))), none, none, none, none, none, none, none, none, none, none] s = .ok (.rt (.d (.bool true))) s := by kernel_rfl
theorem part_1 (n : Nat) (s : S) : (sSeq (sAsg (eOp dMulB (eTup (aCons (eTup (aCons (eC (.str "word")) (aCons (eC (.int 1)) aNil))) aNil)) (eVar 1)) (tgN 2))
    (sSeq (sAsg (eTup (aCons (eTup (aCons (eTup (aCons (eC (.str "copy")) (aCons (eC (.int 0)) aNil))) (aCons (eTup (aCons (eC (.str "if")) (aCons (eTup (aCons (eTup (aCons (eC (.str "drop")) (aCons (eC (.int 0)) aNil))) (aCons (eTup (aCons (eC (.str "call")) (aCons (eC (.int 0)) aNil))) (aCons (eTup (aCons (eC (.str "word")) (aCons (eC (.int 1)) aNil))) aNil)))) (aCons (eTup aNil) aNil)))) aNil))) (aCons (eTup (aCons (eTup (aCons (eC (.str "word")) (aCons (eC (.int 0)) aNil))) (aCons (eTup (aCons (eC (.str "call")) (aCons (eC (.int 0)) aNil))) aNil))) aNil))) (tgN 3))
    (sSeq (sAsg (eFz (oLst (aCons (eCall 1 0 1 [0] [] (frm m_verdict) (aCons (eVar 3) aNil) aNil) (aCons (eCall 2 0 2 [0, 1] [] (frm m__law_is_ring) (aCons (eVar 3) (aCons (eCall 1 0 1 [0] [] (frm m_ring) (aCons (eVar 3) aNil) aNil) aNil)) aNil) (aCons (eCall 1 0 1 [0] [] (frm m_nets) (aCons (eVar 3) aNil) aNil) (aCons (eCall 1 0 1 [0] [] (frm m_verdict) (aCons (eTup (aCons (eTup (aCons (eTup (aCons (eC (.str "call")) (aCons (eC (.int 0)) aNil))) aNil)) aNil)) aNil) aNil) aNil)))))) (tgN 4))
    (sSeq (sAsg (eOp dAdd (eVar 4) (eFz (oLst (aCons (eCall 1 0 1 [0] [] (frm m_nets) (aCons (eTup (aCons (eTup (aCons (eTup (aCons (eC (.str "call")) (aCons (eC (.int 0)) aNil))) aNil)) aNil)) aNil) aNil) aNil)))) (tgN 4))
    (sSeq (sOwn 5 (oLst (aCons (eTup (aCons (eC (.str "bottomless")) aNil)) (aCons (eC (.bool true)) (aCons (eTup (aCons (eC (.int 0)) (aCons (eC (.int 1)) aNil))) (aCons (eTup (aCons (eC (.str "even")) (aCons (eTup (aCons (eTup (aCons (eC (.int 0)) (aCons (eC .none) aNil))) aNil)) aNil))) (aCons (eTup (aCons (eC .none) aNil)) aNil)))))))
    (sSeq (sAsg (eOp dAdd (eVar 4) (eFz (oLst (aCons (eCall 1 0 1 [0] [] (frm m_verdict) (aCons (eTup (aCons (eOp dAdd (eVar 2) (eTup (aCons (eTup (aCons (eC (.str "if")) (aCons (eTup (aCons (eTup (aCons (eC (.str "word")) (aCons (eC (.int 1)) aNil))) aNil)) (aCons (eTup aNil) aNil)))) aNil))) aNil)) aNil) aNil) (aCons (eCall 1 0 1 [0] [] (frm m_verdict) (aCons (eTup (aCons (eOp dAdd (eVar 2) (eTup (aCons (eTup (aCons (eC (.str "while")) (aCons (eTup aNil) aNil))) aNil))) aNil)) aNil) aNil) aNil))))) (tgN 4))
    (sSeq (sFrz 5 (sOwn 5 (oCat (eVar 5) (eFz (oLst (aCons (eTup (aCons (eC (.str "unlike")) (aCons (eC (.int 0)) (aCons (eVar 1) aNil)))) (aCons (eTup (aCons (eC (.str "unlike")) (aCons (eC (.int 0)) (aCons (eVar 1) aNil)))) aNil)))))))
    (sSeq (sAsg (eTup (aCons (eOp dAdd (eVar 2) (eTup (aCons (eTup (aCons (eC (.str "roll")) (aCons (eC (.int 3)) aNil))) (aCons (eTup (aCons (eC (.str "add")) (aCons (eC (.int 0)) aNil))) aNil)))) (aCons (eVar 2) aNil))) (tgN 6))
    (sSeq (sAsg (eOp dAdd (eVar 4) (eFz (oLst (aCons (eCall 1 0 1 [0] [] (frm m_verdict) (aCons (eVar 6) aNil) aNil) (aCons (eCall 0 1 1 [0] [] (frm m_verdict) aNil (aCons (eTup (aCons (eVar 2) aNil)) aNil)) (aCons (eCall 1 0 1 [0] [] (frm m_verdict) (aCons (eTup (aCons (eOp dAdd (eVar 2) (eTup (aCons (eTup (aCons (eC (.str "while")) (aCons (eTup (aCons (eTup (aCons (eC (.str "word")) (aCons (eC (.int 0)) aNil))) aNil)) aNil))) aNil))) aNil)) aNil) aNil) aNil)))))) (tgN 4))
    (sSeq (sFrz 5 (sOwn 5 (oCat (eVar 5) (eFz (oLst (aCons (eTup (aCons (eC (.str "even")) (aCons (eTup (aCons (eTup (aCons (eCB (on2 dMax2) (aCons (eC (.int 0)) (aCons (eOp dSub (eC (.int 4)) (eVar 1)) aNil))) (aCons (eOp dSub (eOp dAdd (eCB (on2 dMax2) (aCons (eC (.int 0)) (aCons (eOp dSub (eC (.int 4)) (eVar 1)) aNil))) (eVar 1)) (eC (.int 1))) aNil))) (aCons (eTup (aCons (eC (.int 0)) (aCons (eVar 1) aNil))) aNil))) aNil))) (aCons (eTup (aCons (eC (.str "even")) (aCons (eTup (aCons (eTup (aCons (eC (.int 0)) (aCons (eVar 1) aNil))) aNil)) aNil))) aNil)))))))
    (sSeq (sApp 5 (eTup (aCons (eC (.str "even")) (aCons (eTup (aCons (eTup (aCons (eCB (on2 dMax2) (aCons (eC (.int 0)) (aCons (eOp dSub (eC (.int 1)) (eVar 1)) aNil))) (aCons (eOp dSub (eOp dAdd (eCB (on2 dMax2) (aCons (eC (.int 0)) (aCons (eOp dSub (eC (.int 1)) (eVar 1)) aNil))) (eVar 1)) (eC (.int 1))) aNil))) aNil)) aNil))))
    (sSeq (sAsg (eTup (aCons (eTup (aCons (eTup (aCons (eC (.str "call")) (aCons (eC (.int 1)) aNil))) (aCons (eTup (aCons (eC (.str "drop")) (aCons (eC (.int 0)) aNil))) aNil))) (aCons (eTup (aCons (eTup (aCons (eC (.str "write")) (aCons (eC (.int 0)) aNil))) (aCons (eTup (aCons (eC (.str "call")) (aCons (eC (.int 0)) aNil))) aNil))) aNil))) (tgN 7))
    (sSeq (sAsg (eOp dAdd (eVar 4) (eFz (oLst (aCons (eCall 1 0 1 [0] [] (frm m_verdict) (aCons (eVar 7) aNil) aNil) (aCons (eCall 1 0 1 [0] [] (frm m_nets) (aCons (eVar 7) aNil) aNil) (aCons (eCall 2 0 2 [0, 1] [] (frm m__law_is_ring) (aCons (eVar 7) (aCons (eCall 1 0 1 [0] [] (frm m_ring) (aCons (eVar 7) aNil) aNil) aNil)) aNil) aNil)))))) (tgN 4))
    (sSeq (sFrz 5 (sOwn 5 (oCat (eVar 5) (eFz (oLst (aCons (eTup (aCons (eC (.str "bottomless")) aNil)) (aCons (eTup (aCons (eC .none) (aCons (eC .none) aNil))) (aCons (eC (.bool true)) aNil))))))))
    (sSeq (sAsg (eTup (aCons (eTup (aCons (eTup (aCons (eC (.str "call")) (aCons (eC (.int 1)) aNil))) (aCons (eTup (aCons (eC (.str "drop")) (aCons (eC (.int 0)) aNil))) aNil))) (aCons (eTup (aCons (eTup (aCons (eC (.str "write")) (aCons (eC (.int 0)) aNil))) (aCons (eTup (aCons (eC (.str "if")) (aCons (eTup (aCons (eTup (aCons (eC (.str "call")) (aCons (eC (.int 0)) aNil))) (aCons (eTup (aCons (eC (.str "word")) (aCons (eC (.int 1)) aNil))) aNil))) (aCons (eTup aNil) aNil)))) (aCons (eTup (aCons (eC (.str "word")) (aCons (eC (.int 3)) aNil))) aNil)))) aNil))) (tgN 8))
    (sSeq (sAsg (eOp dAdd (eVar 8) (eTup (aCons (eTup (aCons (eTup (aCons (eC (.str "word")) (aCons (eC (.int 2)) aNil))) (aCons (eTup (aCons (eC (.str "word")) (aCons (eC (.int 0)) aNil))) aNil))) aNil))) (tgN 8))
    (sSeq (sAsg (eOp dAdd (eVar 4) (eFz (oLst (aCons (eCall 1 0 1 [0] [] (frm m_nets) (aCons (eVar 8) aNil) aNil) (aCons (eCall 1 0 1 [0] [] (frm m_verdict) (aCons (eVar 8) aNil) aNil) aNil))))) (tgN 4))
    (sSeq (sFrz 5 (sOwn 5 (oCat (eVar 5) (eFz (oLst (aCons (eTup (aCons (eUn dNeg (eC (.int 2))) (aCons (eUn dNeg (eC (.int 1))) (aCons (eC (.int 2)) aNil)))) (aCons (eTup (aCons (eC (.str "unlike")) (aCons (eC (.int 1)) (aCons (eC (.int 1)) aNil)))) aNil)))))))
    (sSeq (sAsg (eTup (aCons (eTup (aCons (eTup (aCons (eC (.str "drop")) (aCons (eC (.int 0)) aNil))) (aCons (eTup (aCons (eC (.str "if")) (aCons (eTup (aCons (eTup (aCons (eC (.str "call")) (aCons (eC (.int 1)) aNil))) aNil)) (aCons (eTup (aCons (eTup (aCons (eC (.str "word")) (aCons (eC (.int 0)) aNil))) aNil)) aNil)))) (aCons (eTup (aCons (eC (.str "drop")) (aCons (eC (.int 0)) aNil))) aNil)))) (aCons (eTup (aCons (eTup (aCons (eC (.str "call")) (aCons (eC (.int 0)) aNil))) (aCons (eTup (aCons (eC (.str "copy")) (aCons (eC (.int 0)) aNil))) (aCons (eTup (aCons (eC (.str "copy")) (aCons (eC (.int 0)) aNil))) aNil)))) aNil))) (tgN 9))
    (sSeq (sAsg (eOp dAdd (eVar 4) (eFz (oLst (aCons (eCall 1 0 1 [0] [] (frm m_nets) (aCons (eVar 9) aNil) aNil) (aCons (eCall 1 0 1 [0] [] (frm m_verdict) (aCons (eVar 9) aNil) aNil) aNil))))) (tgN 4))
    (sSeq (sFrz 5 (sOwn 5 (oCat (eVar 5) (eFz (oLst (aCons (eTup (aCons (eUn dNeg (eC (.int 2))) (aCons (eC (.int 0)) aNil))) (aCons (eTup (aCons (eC (.str "unlike")) (aCons (eC (.int 0)) (aCons (eC (.int 1)) aNil)))) aNil)))))))
    (sSeq (sAsg (eOp dAdd (eOp dMulB (eTup (aCons (eTup (aCons (eC (.str "word")) (aCons (eC (.int 1)) aNil))) aNil)) (eC (.int 3))) (eTup (aCons (eTup (aCons (eC (.str "copy")) (aCons (eC (.int 1)) aNil))) (aCons (eTup (aCons (eC (.str "if")) (aCons (eTup (aCons (eTup (aCons (eC (.str "add")) (aCons (eC (.int 0)) aNil))) aNil)) (aCons (eTup (aCons (eTup (aCons (eC (.str "drop")) (aCons (eC (.int 0)) aNil))) aNil)) aNil)))) (aCons (eTup (aCons (eC (.str "while")) (aCons (eTup (aCons (eTup (aCons (eC (.str "word")) (aCons (eC (.int 0)) aNil))) aNil)) aNil))) aNil))))) (tgN 10))
    (sSeq (sAsg (eOp dAdd (eVar 10) (eTup (aCons (eTup (aCons (eC (.str "call")) (aCons (eC (.int 0)) aNil))) (aCons (eTup (aCons (eC (.str "word")) (aCons (eC (.int 4)) aNil))) aNil)))) (tgN 10))
    (sSeq (sAsg (eOp dAdd (eVar 4) (eFz (oLst (aCons (eFz (oLc [11] (iRange1 (eC (.int 11))) (tgN 11) tstY (eCall 3 0 3 [0, 1, 2] [] (frm m_height_at) (aCons (eTup (aCons (eVar 10) aNil)) (aCons (eC (.int 0)) (aCons (eVar 11) aNil))) aNil))) (aCons (eCall 0 3 3 [2, 1, 0] [] (frm m_height_at) aNil (aCons (eC (.int 6)) (aCons (eC (.int 0)) (aCons (eTup (aCons (eVar 10) aNil)) aNil)))) aNil))))) (tgN 4))
    (sSeq (sFrz 5 (sOwn 5 (oCat (eVar 5) (eFz (oLst (aCons (eFz (oLst (aCons (eC (.int 0)) (aCons (eC (.int 1)) (aCons (eC (.int 2)) (aCons (eC (.int 3)) (aCons (eC (.int 4)) (aCons (eC (.int 3)) (aCons (eC (.int 3)) (aCons (eC (.int 2)) (aCons (eC (.int 1)) (aCons (eC (.int 1)) (aCons (eC .none) aNil))))))))))))) (aCons (eC (.int 3)) aNil)))))))
    (sSeq (sAsg (eOp dAdd (eVar 4) (eFz (oLst (aCons (eCall 1 0 1 [0] [] (frm m_verdict) (aCons (eTup (aCons (eVar 10) aNil)) aNil) aNil) (aCons (eCall 0 1 1 [0] [] (frm m_effects) aNil (aCons (eTup (aCons (eVar 2) (aCons (eTup (aCons (eTup (aCons (eC (.str "call")) (aCons (eC (.int 0)) aNil))) aNil)) aNil))) aNil)) aNil))))) (tgN 4))
    (sFrz 5 (sRet (eOp dEq (eCB (on1 dRepr) (aCons (eVar 4) aNil)) (eCB (on1 dRepr) (aCons (eOp dAdd (eVar 5) (eFz (oLst (aCons (eTup (aCons (eC (.str "even")) (aCons (eTup (aCons (eTup (aCons (eC (.int 0)) (aCons (eC .none) aNil))) aNil)) aNil))) (aCons (eTup (aCons (eTup (aCons (eC (.int 0)) (aCons (eVar 1) aNil))) (aCons (eTup (aCons (eC (.int 0)) (aCons (eVar 1) aNil))) aNil))) aNil))))) aNil))))))))))))))))))))))))))))))) [some (.rv (.box n)), some (.rv (.d (.int 1))), none, none, none, none, none, none, none, none, none, none] s = .ok (.rt (.d (.bool true))) s := by kernel_rfl
theorem part_2 (n : Nat) (s : S) : (sSeq (sAsg (eOp dMulB (eTup (aCons (eTup (aCons (eC (.str "word")) (aCons (eC (.int 1)) aNil))) aNil)) (eVar 1)) (tgN 2))
    (sSeq (sAsg (eTup (aCons (eTup (aCons (eTup (aCons (eC (.str "copy")) (aCons (eC (.int 0)) aNil))) (aCons (eTup (aCons (eC (.str "if")) (aCons (eTup (aCons (eTup (aCons (eC (.str "drop")) (aCons (eC (.int 0)) aNil))) (aCons (eTup (aCons (eC (.str "call")) (aCons (eC (.int 0)) aNil))) (aCons (eTup (aCons (eC (.str "word")) (aCons (eC (.int 1)) aNil))) aNil)))) (aCons (eTup aNil) aNil)))) aNil))) (aCons (eTup (aCons (eTup (aCons (eC (.str "word")) (aCons (eC (.int 0)) aNil))) (aCons (eTup (aCons (eC (.str "call")) (aCons (eC (.int 0)) aNil))) aNil))) aNil))) (tgN 3))
    (sSeq (sAsg (eFz (oLst (aCons (eCall 1 0 1 [0] [] (frm m_verdict) (aCons (eVar 3) aNil) aNil) (aCons (eCall 2 0 2 [0, 1] [] (frm m__law_is_ring) (aCons (eVar 3) (aCons (eCall 1 0 1 [0] [] (frm m_ring) (aCons (eVar 3) aNil) aNil) aNil)) aNil) (aCons (eCall 1 0 1 [0] [] (frm m_nets) (aCons (eVar 3) aNil) aNil) (aCons (eCall 1 0 1 [0] [] (frm m_verdict) (aCons (eTup (aCons (eTup (aCons (eTup (aCons (eC (.str "call")) (aCons (eC (.int 0)) aNil))) aNil)) aNil)) aNil) aNil) aNil)))))) (tgN 4))
    (sSeq (sAsg (eOp dAdd (eVar 4) (eFz (oLst (aCons (eCall 1 0 1 [0] [] (frm m_nets) (aCons (eTup (aCons (eTup (aCons (eTup (aCons (eC (.str "call")) (aCons (eC (.int 0)) aNil))) aNil)) aNil)) aNil) aNil) aNil)))) (tgN 4))
    (sSeq (sOwn 5 (oLst (aCons (eTup (aCons (eC (.str "bottomless")) aNil)) (aCons (eC (.bool true)) (aCons (eTup (aCons (eC (.int 0)) (aCons (eC (.int 1)) aNil))) (aCons (eTup (aCons (eC (.str "even")) (aCons (eTup (aCons (eTup (aCons (eC (.int 0)) (aCons (eC .none) aNil))) aNil)) aNil))) (aCons (eTup (aCons (eC .none) aNil)) aNil)))))))
    (sSeq (sAsg (eOp dAdd (eVar 4) (eFz (oLst (aCons (eCall 1 0 1 [0] [] (frm m_verdict) (aCons (eTup (aCons (eOp dAdd (eVar 2) (eTup (aCons (eTup (aCons (eC (.str "if")) (aCons (eTup (aCons (eTup (aCons (eC (.str "word")) (aCons (eC (.int 1)) aNil))) aNil)) (aCons (eTup aNil) aNil)))) aNil))) aNil)) aNil) aNil) (aCons (eCall 1 0 1 [0] [] (frm m_verdict) (aCons (eTup (aCons (eOp dAdd (eVar 2) (eTup (aCons (eTup (aCons (eC (.str "while")) (aCons (eTup aNil) aNil))) aNil))) aNil)) aNil) aNil) aNil))))) (tgN 4))
    (sSeq (sFrz 5 (sOwn 5 (oCat (eVar 5) (eFz (oLst (aCons (eTup (aCons (eC (.str "unlike")) (aCons (eC (.int 0)) (aCons (eVar 1) aNil)))) (aCons (eTup (aCons (eC (.str "unlike")) (aCons (eC (.int 0)) (aCons (eVar 1) aNil)))) aNil)))))))
    (sSeq (sAsg (eTup (aCons (eOp dAdd (eVar 2) (eTup (aCons (eTup (aCons (eC (.str "roll")) (aCons (eC (.int 3)) aNil))) (aCons (eTup (aCons (eC (.str "add")) (aCons (eC (.int 0)) aNil))) aNil)))) (aCons (eVar 2) aNil))) (tgN 6))
    (sSeq (sAsg (eOp dAdd (eVar 4) (eFz (oLst (aCons (eCall 1 0 1 [0] [] (frm m_verdict) (aCons (eVar 6) aNil) aNil) (aCons (eCall 0 1 1 [0] [] (frm m_verdict) aNil (aCons (eTup (aCons (eVar 2) aNil)) aNil)) (aCons (eCall 1 0 1 [0] [] (frm m_verdict) (aCons (eTup (aCons (eOp dAdd (eVar 2) (eTup (aCons (eTup (aCons (eC (.str "while")) (aCons (eTup (aCons (eTup (aCons (eC (.str "word")) (aCons (eC (.int 0)) aNil))) aNil)) aNil))) aNil))) aNil)) aNil) aNil) aNil)))))) (tgN 4))
    (sSeq (sFrz 5 (sOwn 5 (oCat (eVar 5) (eFz (oLst (aCons (eTup (aCons (eC (.str "even")) (aCons (eTup (aCons (eTup (aCons (eCB (on2 dMax2) (aCons (eC (.int 0)) (aCons (eOp dSub (eC (.int 4)) (eVar 1)) aNil))) (aCons (eOp dSub (eOp dAdd (eCB (on2 dMax2) (aCons (eC (.int 0)) (aCons (eOp dSub (eC (.int 4)) (eVar 1)) aNil))) (eVar 1)) (eC (.int 1))) aNil))) (aCons (eTup (aCons (eC (.int 0)) (aCons (eVar 1) aNil))) aNil))) aNil))) (aCons (eTup (aCons (eC (.str "even")) (aCons (eTup (aCons (eTup (aCons (eC (.int 0)) (aCons (eVar 1) aNil))) aNil)) aNil))) aNil)))))))
    (sSeq (sApp 5 (eTup (aCons (eC (.str "even")) (aCons (eTup (aCons (eTup (aCons (eCB (on2 dMax2) (aCons (eC (.int 0)) (aCons (eOp dSub (eC (.int 1)) (eVar 1)) aNil))) (aCons (eOp dSub (eOp dAdd (eCB (on2 dMax2) (aCons (eC (.int 0)) (aCons (eOp dSub (eC (.int 1)) (eVar 1)) aNil))) (eVar 1)) (eC (.int 1))) aNil))) aNil)) aNil))))
    (sSeq (sAsg (eTup (aCons (eTup (aCons (eTup (aCons (eC (.str "call")) (aCons (eC (.int 1)) aNil))) (aCons (eTup (aCons (eC (.str "drop")) (aCons (eC (.int 0)) aNil))) aNil))) (aCons (eTup (aCons (eTup (aCons (eC (.str "write")) (aCons (eC (.int 0)) aNil))) (aCons (eTup (aCons (eC (.str "call")) (aCons (eC (.int 0)) aNil))) aNil))) aNil))) (tgN 7))
    (sSeq (sAsg (eOp dAdd (eVar 4) (eFz (oLst (aCons (eCall 1 0 1 [0] [] (frm m_verdict) (aCons (eVar 7) aNil) aNil) (aCons (eCall 1 0 1 [0] [] (frm m_nets) (aCons (eVar 7) aNil) aNil) (aCons (eCall 2 0 2 [0, 1] [] (frm m__law_is_ring) (aCons (eVar 7) (aCons (eCall 1 0 1 [0] [] (frm m_ring) (aCons (eVar 7) aNil) aNil) aNil)) aNil) aNil)))))) (tgN 4))
    (sSeq (sFrz 5 (sOwn 5 (oCat (eVar 5) (eFz (oLst (aCons (eTup (aCons (eC (.str "bottomless")) aNil)) (aCons (eTup (aCons (eC .none) (aCons (eC .none) aNil))) (aCons (eC (.bool true)) aNil))))))))
    (sSeq (sAsg (eTup (aCons (eTup (aCons (eTup (aCons (eC (.str "call")) (aCons (eC (.int 1)) aNil))) (aCons (eTup (aCons (eC (.str "drop")) (aCons (eC (.int 0)) aNil))) aNil))) (aCons (eTup (aCons (eTup (aCons (eC (.str "write")) (aCons (eC (.int 0)) aNil))) (aCons (eTup (aCons (eC (.str "if")) (aCons (eTup (aCons (eTup (aCons (eC (.str "call")) (aCons (eC (.int 0)) aNil))) (aCons (eTup (aCons (eC (.str "word")) (aCons (eC (.int 1)) aNil))) aNil))) (aCons (eTup aNil) aNil)))) (aCons (eTup (aCons (eC (.str "word")) (aCons (eC (.int 3)) aNil))) aNil)))) aNil))) (tgN 8))
    (sSeq (sAsg (eOp dAdd (eVar 8) (eTup (aCons (eTup (aCons (eTup (aCons (eC (.str "word")) (aCons (eC (.int 2)) aNil))) (aCons (eTup (aCons (eC (.str "word")) (aCons (eC (.int 0)) aNil))) aNil))) aNil))) (tgN 8))
    (sSeq (sAsg (eOp dAdd (eVar 4) (eFz (oLst (aCons (eCall 1 0 1 [0] [] (frm m_nets) (aCons (eVar 8) aNil) aNil) (aCons (eCall 1 0 1 [0] [] (frm m_verdict) (aCons (eVar 8) aNil) aNil) aNil))))) (tgN 4))
    (sSeq (sFrz 5 (sOwn 5 (oCat (eVar 5) (eFz (oLst (aCons (eTup (aCons (eUn dNeg (eC (.int 2))) (aCons (eUn dNeg (eC (.int 1))) (aCons (eC (.int 2)) aNil)))) (aCons (eTup (aCons (eC (.str "unlike")) (aCons (eC (.int 1)) (aCons (eC (.int 1)) aNil)))) aNil)))))))
    (sSeq (sAsg (eTup (aCons (eTup (aCons (eTup (aCons (eC (.str "drop")) (aCons (eC (.int 0)) aNil))) (aCons (eTup (aCons (eC (.str "if")) (aCons (eTup (aCons (eTup (aCons (eC (.str "call")) (aCons (eC (.int 1)) aNil))) aNil)) (aCons (eTup (aCons (eTup (aCons (eC (.str "word")) (aCons (eC (.int 0)) aNil))) aNil)) aNil)))) (aCons (eTup (aCons (eC (.str "drop")) (aCons (eC (.int 0)) aNil))) aNil)))) (aCons (eTup (aCons (eTup (aCons (eC (.str "call")) (aCons (eC (.int 0)) aNil))) (aCons (eTup (aCons (eC (.str "copy")) (aCons (eC (.int 0)) aNil))) (aCons (eTup (aCons (eC (.str "copy")) (aCons (eC (.int 0)) aNil))) aNil)))) aNil))) (tgN 9))
    (sSeq (sAsg (eOp dAdd (eVar 4) (eFz (oLst (aCons (eCall 1 0 1 [0] [] (frm m_nets) (aCons (eVar 9) aNil) aNil) (aCons (eCall 1 0 1 [0] [] (frm m_verdict) (aCons (eVar 9) aNil) aNil) aNil))))) (tgN 4))
    (sSeq (sFrz 5 (sOwn 5 (oCat (eVar 5) (eFz (oLst (aCons (eTup (aCons (eUn dNeg (eC (.int 2))) (aCons (eC (.int 0)) aNil))) (aCons (eTup (aCons (eC (.str "unlike")) (aCons (eC (.int 0)) (aCons (eC (.int 1)) aNil)))) aNil)))))))
    (sSeq (sAsg (eOp dAdd (eOp dMulB (eTup (aCons (eTup (aCons (eC (.str "word")) (aCons (eC (.int 1)) aNil))) aNil)) (eC (.int 3))) (eTup (aCons (eTup (aCons (eC (.str "copy")) (aCons (eC (.int 1)) aNil))) (aCons (eTup (aCons (eC (.str "if")) (aCons (eTup (aCons (eTup (aCons (eC (.str "add")) (aCons (eC (.int 0)) aNil))) aNil)) (aCons (eTup (aCons (eTup (aCons (eC (.str "drop")) (aCons (eC (.int 0)) aNil))) aNil)) aNil)))) (aCons (eTup (aCons (eC (.str "while")) (aCons (eTup (aCons (eTup (aCons (eC (.str "word")) (aCons (eC (.int 0)) aNil))) aNil)) aNil))) aNil))))) (tgN 10))
    (sSeq (sAsg (eOp dAdd (eVar 10) (eTup (aCons (eTup (aCons (eC (.str "call")) (aCons (eC (.int 0)) aNil))) (aCons (eTup (aCons (eC (.str "word")) (aCons (eC (.int 4)) aNil))) aNil)))) (tgN 10))
    (sSeq (sAsg (eOp dAdd (eVar 4) (eFz (oLst (aCons (eFz (oLc [11] (iRange1 (eC (.int 11))) (tgN 11) tstY (eCall 3 0 3 [0, 1, 2] [] (frm m_height_at) (aCons (eTup (aCons (eVar 10) aNil)) (aCons (eC (.int 0)) (aCons (eVar 11) aNil))) aNil))) (aCons (eCall 0 3 3 [2, 1, 0] [] (frm m_height_at) aNil (aCons (eC (.int 6)) (aCons (eC (.int 0)) (aCons (eTup (aCons (eVar 10) aNil)) aNil)))) aNil))))) (tgN 4))
    (sSeq (sFrz 5 (sOwn 5 (oCat (eVar 5) (eFz (oLst (aCons (eFz (oLst (aCons (eC (.int 0)) (aCons (eC (.int 1)) (aCons (eC (.int 2)) (aCons (eC (.int 3)) (aCons (eC (.int 4)) (aCons (eC (.int 3)) (aCons (eC (.int 3)) (aCons (eC (.int 2)) (aCons (eC (.int 1)) (aCons (eC (.int 1)) (aCons (eC .none) aNil))))))))))))) (aCons (eC (.int 3)) aNil)))))))
    (sSeq (sAsg (eOp dAdd (eVar 4) (eFz (oLst (aCons (eCall 1 0 1 [0] [] (frm m_verdict) (aCons (eTup (aCons (eVar 10) aNil)) aNil) aNil) (aCons (eCall 0 1 1 [0] [] (frm m_effects) aNil (aCons (eTup (aCons (eVar 2) (aCons (eTup (aCons (eTup (aCons (eC (.str "call")) (aCons (eC (.int 0)) aNil))) aNil)) aNil))) aNil)) aNil))))) (tgN 4))
    (sFrz 5 (sRet (eOp dEq (eCB (on1 dRepr) (aCons (eVar 4) aNil)) (eCB (on1 dRepr) (aCons (eOp dAdd (eVar 5) (eFz (oLst (aCons (eTup (aCons (eC (.str "even")) (aCons (eTup (aCons (eTup (aCons (eC (.int 0)) (aCons (eC .none) aNil))) aNil)) aNil))) (aCons (eTup (aCons (eTup (aCons (eC (.int 0)) (aCons (eVar 1) aNil))) (aCons (eTup (aCons (eC (.int 0)) (aCons (eVar 1) aNil))) aNil))) aNil))))) aNil))))))))))))))))))))))))))))))) [some (.rv (.box n)), some (.rv (.d (.int 2))), none, none, none, none, none, none, none, none, none, none] s = .ok (.rt (.d (.bool true))) s := by kernel_rfl
theorem part_3 (n : Nat) (s : S) : (sSeq (sAsg (eOp dMulB (eTup (aCons (eTup (aCons (eC (.str "word")) (aCons (eC (.int 1)) aNil))) aNil)) (eVar 1)) (tgN 2))
    (sSeq (sAsg (eTup (aCons (eTup (aCons (eTup (aCons (eC (.str "copy")) (aCons (eC (.int 0)) aNil))) (aCons (eTup (aCons (eC (.str "if")) (aCons (eTup (aCons (eTup (aCons (eC (.str "drop")) (aCons (eC (.int 0)) aNil))) (aCons (eTup (aCons (eC (.str "call")) (aCons (eC (.int 0)) aNil))) (aCons (eTup (aCons (eC (.str "word")) (aCons (eC (.int 1)) aNil))) aNil)))) (aCons (eTup aNil) aNil)))) aNil))) (aCons (eTup (aCons (eTup (aCons (eC (.str "word")) (aCons (eC (.int 0)) aNil))) (aCons (eTup (aCons (eC (.str "call")) (aCons (eC (.int 0)) aNil))) aNil))) aNil))) (tgN 3))
    (sSeq (sAsg (eFz (oLst (aCons (eCall 1 0 1 [0] [] (frm m_verdict) (aCons (eVar 3) aNil) aNil) (aCons (eCall 2 0 2 [0, 1] [] (frm m__law_is_ring) (aCons (eVar 3) (aCons (eCall 1 0 1 [0] [] (frm m_ring) (aCons (eVar 3) aNil) aNil) aNil)) aNil) (aCons (eCall 1 0 1 [0] [] (frm m_nets) (aCons (eVar 3) aNil) aNil) (aCons (eCall 1 0 1 [0] [] (frm m_verdict) (aCons (eTup (aCons (eTup (aCons (eTup (aCons (eC (.str "call")) (aCons (eC (.int 0)) aNil))) aNil)) aNil)) aNil) aNil) aNil)))))) (tgN 4))
    (sSeq (sAsg (eOp dAdd (eVar 4) (eFz (oLst (aCons (eCall 1 0 1 [0] [] (frm m_nets) (aCons (eTup (aCons (eTup (aCons (eTup (aCons (eC (.str "call")) (aCons (eC (.int 0)) aNil))) aNil)) aNil)) aNil) aNil) aNil)))) (tgN 4))
    (sSeq (sOwn 5 (oLst (aCons (eTup (aCons (eC (.str "bottomless")) aNil)) (aCons (eC (.bool true)) (aCons (eTup (aCons (eC (.int 0)) (aCons (eC (.int 1)) aNil))) (aCons (eTup (aCons (eC (.str "even")) (aCons (eTup (aCons (eTup (aCons (eC (.int 0)) (aCons (eC .none) aNil))) aNil)) aNil))) (aCons (eTup (aCons (eC .none) aNil)) aNil)))))))
    (sSeq (sAsg (eOp dAdd (eVar 4) (eFz (oLst (aCons (eCall 1 0 1 [0] [] (frm m_verdict) (aCons (eTup (aCons (eOp dAdd (eVar 2) (eTup (aCons (eTup (aCons (eC (.str "if")) (aCons (eTup (aCons (eTup (aCons (eC (.str "word")) (aCons (eC (.int 1)) aNil))) aNil)) (aCons (eTup aNil) aNil)))) aNil))) aNil)) aNil) aNil) (aCons (eCall 1 0 1 [0] [] (frm m_verdict) (aCons (eTup (aCons (eOp dAdd (eVar 2) (eTup (aCons (eTup (aCons (eC (.str "while")) (aCons (eTup aNil) aNil))) aNil))) aNil)) aNil) aNil) aNil))))) (tgN 4))
    (sSeq (sFrz 5 (sOwn 5 (oCat (eVar 5) (eFz (oLst (aCons (eTup (aCons (eC (.str "unlike")) (aCons (eC (.int 0)) (aCons (eVar 1) aNil)))) (aCons (eTup (aCons (eC (.str "unlike")) (aCons (eC (.int 0)) (aCons (eVar 1) aNil)))) aNil)))))))
    (sSeq (sAsg (eTup (aCons (eOp dAdd (eVar 2) (eTup (aCons (eTup (aCons (eC (.str "roll")) (aCons (eC (.int 3)) aNil))) (aCons (eTup (aCons (eC (.str "add")) (aCons (eC (.int 0)) aNil))) aNil)))) (aCons (eVar 2) aNil))) (tgN 6))
    (sSeq (sAsg (eOp dAdd (eVar 4) (eFz (oLst (aCons (eCall 1 0 1 [0] [] (frm m_verdict) (aCons (eVar 6) aNil) aNil) (aCons (eCall 0 1 1 [0] [] (frm m_verdict) aNil (aCons (eTup (aCons (eVar 2) aNil)) aNil)) (aCons (eCall 1 0 1 [0] [] (frm m_verdict) (aCons (eTup (aCons (eOp dAdd (eVar 2) (eTup (aCons (eTup (aCons (eC (.str "while")) (aCons (eTup (aCons (eTup (aCons (eC (.str "word")) (aCons (eC (.int 0)) aNil))) aNil)) aNil))) aNil))) aNil)) aNil) aNil) aNil)))))) (tgN 4))
    (sSeq (sFrz 5 (sOwn 5 (oCat (eVar 5) (eFz (oLst (aCons (eTup (aCons (eC (.str "even")) (aCons (eTup (aCons (eTup (aCons (eCB (on2 dMax2) (aCons (eC (.int 0)) (aCons (eOp dSub (eC (.int 4)) (eVar 1)) aNil))) (aCons (eOp dSub (eOp dAdd (eCB (on2 dMax2) (aCons (eC (.int 0)) (aCons (eOp dSub (eC (.int 4)) (eVar 1)) aNil))) (eVar 1)) (eC (.int 1))) aNil))) (aCons (eTup (aCons (eC (.int 0)) (aCons (eVar 1) aNil))) aNil))) aNil))) (aCons (eTup (aCons (eC (.str "even")) (aCons (eTup (aCons (eTup (aCons (eC (.int 0)) (aCons (eVar 1) aNil))) aNil)) aNil))) aNil)))))))
    (sSeq (sApp 5 (eTup (aCons (eC (.str "even")) (aCons (eTup (aCons (eTup (aCons (eCB (on2 dMax2) (aCons (eC (.int 0)) (aCons (eOp dSub (eC (.int 1)) (eVar 1)) aNil))) (aCons (eOp dSub (eOp dAdd (eCB (on2 dMax2) (aCons (eC (.int 0)) (aCons (eOp dSub (eC (.int 1)) (eVar 1)) aNil))) (eVar 1)) (eC (.int 1))) aNil))) aNil)) aNil))))
    (sSeq (sAsg (eTup (aCons (eTup (aCons (eTup (aCons (eC (.str "call")) (aCons (eC (.int 1)) aNil))) (aCons (eTup (aCons (eC (.str "drop")) (aCons (eC (.int 0)) aNil))) aNil))) (aCons (eTup (aCons (eTup (aCons (eC (.str "write")) (aCons (eC (.int 0)) aNil))) (aCons (eTup (aCons (eC (.str "call")) (aCons (eC (.int 0)) aNil))) aNil))) aNil))) (tgN 7))
    (sSeq (sAsg (eOp dAdd (eVar 4) (eFz (oLst (aCons (eCall 1 0 1 [0] [] (frm m_verdict) (aCons (eVar 7) aNil) aNil) (aCons (eCall 1 0 1 [0] [] (frm m_nets) (aCons (eVar 7) aNil) aNil) (aCons (eCall 2 0 2 [0, 1] [] (frm m__law_is_ring) (aCons (eVar 7) (aCons (eCall 1 0 1 [0] [] (frm m_ring) (aCons (eVar 7) aNil) aNil) aNil)) aNil) aNil)))))) (tgN 4))
    (sSeq (sFrz 5 (sOwn 5 (oCat (eVar 5) (eFz (oLst (aCons (eTup (aCons (eC (.str "bottomless")) aNil)) (aCons (eTup (aCons (eC .none) (aCons (eC .none) aNil))) (aCons (eC (.bool true)) aNil))))))))
    (sSeq (sAsg (eTup (aCons (eTup (aCons (eTup (aCons (eC (.str "call")) (aCons (eC (.int 1)) aNil))) (aCons (eTup (aCons (eC (.str "drop")) (aCons (eC (.int 0)) aNil))) aNil))) (aCons (eTup (aCons (eTup (aCons (eC (.str "write")) (aCons (eC (.int 0)) aNil))) (aCons (eTup (aCons (eC (.str "if")) (aCons (eTup (aCons (eTup (aCons (eC (.str "call")) (aCons (eC (.int 0)) aNil))) (aCons (eTup (aCons (eC (.str "word")) (aCons (eC (.int 1)) aNil))) aNil))) (aCons (eTup aNil) aNil)))) (aCons (eTup (aCons (eC (.str "word")) (aCons (eC (.int 3)) aNil))) aNil)))) aNil))) (tgN 8))
    (sSeq (sAsg (eOp dAdd (eVar 8) (eTup (aCons (eTup (aCons (eTup (aCons (eC (.str "word")) (aCons (eC (.int 2)) aNil))) (aCons (eTup (aCons (eC (.str "word")) (aCons (eC (.int 0)) aNil))) aNil))) aNil))) (tgN 8))
    (sSeq (sAsg (eOp dAdd (eVar 4) (eFz (oLst (aCons (eCall 1 0 1 [0] [] (frm m_nets) (aCons (eVar 8) aNil) aNil) (aCons (eCall 1 0 1 [0] [] (frm m_verdict) (aCons (eVar 8) aNil) aNil) aNil))))) (tgN 4))
    (sSeq (sFrz 5 (sOwn 5 (oCat (eVar 5) (eFz (oLst (aCons (eTup (aCons (eUn dNeg (eC (.int 2))) (aCons (eUn dNeg (eC (.int 1))) (aCons (eC (.int 2)) aNil)))) (aCons (eTup (aCons (eC (.str "unlike")) (aCons (eC (.int 1)) (aCons (eC (.int 1)) aNil)))) aNil)))))))
    (sSeq (sAsg (eTup (aCons (eTup (aCons (eTup (aCons (eC (.str "drop")) (aCons (eC (.int 0)) aNil))) (aCons (eTup (aCons (eC (.str "if")) (aCons (eTup (aCons (eTup (aCons (eC (.str "call")) (aCons (eC (.int 1)) aNil))) aNil)) (aCons (eTup (aCons (eTup (aCons (eC (.str "word")) (aCons (eC (.int 0)) aNil))) aNil)) aNil)))) (aCons (eTup (aCons (eC (.str "drop")) (aCons (eC (.int 0)) aNil))) aNil)))) (aCons (eTup (aCons (eTup (aCons (eC (.str "call")) (aCons (eC (.int 0)) aNil))) (aCons (eTup (aCons (eC (.str "copy")) (aCons (eC (.int 0)) aNil))) (aCons (eTup (aCons (eC (.str "copy")) (aCons (eC (.int 0)) aNil))) aNil)))) aNil))) (tgN 9))
    (sSeq (sAsg (eOp dAdd (eVar 4) (eFz (oLst (aCons (eCall 1 0 1 [0] [] (frm m_nets) (aCons (eVar 9) aNil) aNil) (aCons (eCall 1 0 1 [0] [] (frm m_verdict) (aCons (eVar 9) aNil) aNil) aNil))))) (tgN 4))
    (sSeq (sFrz 5 (sOwn 5 (oCat (eVar 5) (eFz (oLst (aCons (eTup (aCons (eUn dNeg (eC (.int 2))) (aCons (eC (.int 0)) aNil))) (aCons (eTup (aCons (eC (.str "unlike")) (aCons (eC (.int 0)) (aCons (eC (.int 1)) aNil)))) aNil)))))))
    (sSeq (sAsg (eOp dAdd (eOp dMulB (eTup (aCons (eTup (aCons (eC (.str "word")) (aCons (eC (.int 1)) aNil))) aNil)) (eC (.int 3))) (eTup (aCons (eTup (aCons (eC (.str "copy")) (aCons (eC (.int 1)) aNil))) (aCons (eTup (aCons (eC (.str "if")) (aCons (eTup (aCons (eTup (aCons (eC (.str "add")) (aCons (eC (.int 0)) aNil))) aNil)) (aCons (eTup (aCons (eTup (aCons (eC (.str "drop")) (aCons (eC (.int 0)) aNil))) aNil)) aNil)))) (aCons (eTup (aCons (eC (.str "while")) (aCons (eTup (aCons (eTup (aCons (eC (.str "word")) (aCons (eC (.int 0)) aNil))) aNil)) aNil))) aNil))))) (tgN 10))
    (sSeq (sAsg (eOp dAdd (eVar 10) (eTup (aCons (eTup (aCons (eC (.str "call")) (aCons (eC (.int 0)) aNil))) (aCons (eTup (aCons (eC (.str "word")) (aCons (eC (.int 4)) aNil))) aNil)))) (tgN 10))
    (sSeq (sAsg (eOp dAdd (eVar 4) (eFz (oLst (aCons (eFz (oLc [11] (iRange1 (eC (.int 11))) (tgN 11) tstY (eCall 3 0 3 [0, 1, 2] [] (frm m_height_at) (aCons (eTup (aCons (eVar 10) aNil)) (aCons (eC (.int 0)) (aCons (eVar 11) aNil))) aNil))) (aCons (eCall 0 3 3 [2, 1, 0] [] (frm m_height_at) aNil (aCons (eC (.int 6)) (aCons (eC (.int 0)) (aCons (eTup (aCons (eVar 10) aNil)) aNil)))) aNil))))) (tgN 4))
    (sSeq (sFrz 5 (sOwn 5 (oCat (eVar 5) (eFz (oLst (aCons (eFz (oLst (aCons (eC (.int 0)) (aCons (eC (.int 1)) (aCons (eC (.int 2)) (aCons (eC (.int 3)) (aCons (eC (.int 4)) (aCons (eC (.int 3)) (aCons (eC (.int 3)) (aCons (eC (.int 2)) (aCons (eC (.int 1)) (aCons (eC (.int 1)) (aCons (eC .none) aNil))))))))))))) (aCons (eC (.int 3)) aNil)))))))
    (sSeq (sAsg (eOp dAdd (eVar 4) (eFz (oLst (aCons (eCall 1 0 1 [0] [] (frm m_verdict) (aCons (eTup (aCons (eVar 10) aNil)) aNil) aNil) (aCons (eCall 0 1 1 [0] [] (frm m_effects) aNil (aCons (eTup (aCons (eVar 2) (aCons (eTup (aCons (eTup (aCons (eC (.str "call")) (aCons (eC (.int 0)) aNil))) aNil)) aNil))) aNil)) aNil))))) (tgN 4))
    (sFrz 5 (sRet (eOp dEq (eCB (on1 dRepr) (aCons (eVar 4) aNil)) (eCB (on1 dRepr) (aCons (eOp dAdd (eVar 5) (eFz (oLst (aCons (eTup (aCons (eC (.str "even")) (aCons (eTup (aCons (eTup (aCons (eC (.int 0)) (aCons (eC .none) aNil))) aNil)) aNil))) (aCons (eTup (aCons (eTup (aCons (eC (.int 0)) (aCons (eVar 1) aNil))) (aCons (eTup (aCons (eC (.int 0)) (aCons (eVar 1) aNil))) aNil))) aNil))))) aNil))))))))))))))))))))))))))))))) [some (.rv (.box n)), some (.rv (.d (.int 3))), none, none, none, none, none, none, none, none, none, none] s = .ok (.rt (.d (.bool true))) s := by kernel_rfl
theorem part_4 (n : Nat) (s : S) : (sSeq (sAsg (eOp dMulB (eTup (aCons (eTup (aCons (eC (.str "word")) (aCons (eC (.int 1)) aNil))) aNil)) (eVar 1)) (tgN 2))
    (sSeq (sAsg (eTup (aCons (eTup (aCons (eTup (aCons (eC (.str "copy")) (aCons (eC (.int 0)) aNil))) (aCons (eTup (aCons (eC (.str "if")) (aCons (eTup (aCons (eTup (aCons (eC (.str "drop")) (aCons (eC (.int 0)) aNil))) (aCons (eTup (aCons (eC (.str "call")) (aCons (eC (.int 0)) aNil))) (aCons (eTup (aCons (eC (.str "word")) (aCons (eC (.int 1)) aNil))) aNil)))) (aCons (eTup aNil) aNil)))) aNil))) (aCons (eTup (aCons (eTup (aCons (eC (.str "word")) (aCons (eC (.int 0)) aNil))) (aCons (eTup (aCons (eC (.str "call")) (aCons (eC (.int 0)) aNil))) aNil))) aNil))) (tgN 3))
    (sSeq (sAsg (eFz (oLst (aCons (eCall 1 0 1 [0] [] (frm m_verdict) (aCons (eVar 3) aNil) aNil) (aCons (eCall 2 0 2 [0, 1] [] (frm m__law_is_ring) (aCons (eVar 3) (aCons (eCall 1 0 1 [0] [] (frm m_ring) (aCons (eVar 3) aNil) aNil) aNil)) aNil) (aCons (eCall 1 0 1 [0] [] (frm m_nets) (aCons (eVar 3) aNil) aNil) (aCons (eCall 1 0 1 [0] [] (frm m_verdict) (aCons (eTup (aCons (eTup (aCons (eTup (aCons (eC (.str "call")) (aCons (eC (.int 0)) aNil))) aNil)) aNil)) aNil) aNil) aNil)))))) (tgN 4))
    (sSeq (sAsg (eOp dAdd (eVar 4) (eFz (oLst (aCons (eCall 1 0 1 [0] [] (frm m_nets) (aCons (eTup (aCons (eTup (aCons (eTup (aCons (eC (.str "call")) (aCons (eC (.int 0)) aNil))) aNil)) aNil)) aNil) aNil) aNil)))) (tgN 4))
    (sSeq (sOwn 5 (oLst (aCons (eTup (aCons (eC (.str "bottomless")) aNil)) (aCons (eC (.bool true)) (aCons (eTup (aCons (eC (.int 0)) (aCons (eC (.int 1)) aNil))) (aCons (eTup (aCons (eC (.str "even")) (aCons (eTup (aCons (eTup (aCons (eC (.int 0)) (aCons (eC .none) aNil))) aNil)) aNil))) (aCons (eTup (aCons (eC .none) aNil)) aNil)))))))
    (sSeq (sAsg (eOp dAdd (eVar 4) (eFz (oLst (aCons (eCall 1 0 1 [0] [] (frm m_verdict) (aCons (eTup (aCons (eOp dAdd (eVar 2) (eTup (aCons (eTup (aCons (eC (.str "if")) (aCons (eTup (aCons (eTup (aCons (eC (.str "word")) (aCons (eC (.int 1)) aNil))) aNil)) (aCons (eTup aNil) aNil)))) aNil))) aNil)) aNil) aNil) (aCons (eCall 1 0 1 [0] [] (frm m_verdict) (aCons (eTup (aCons (eOp dAdd (eVar 2) (eTup (aCons (eTup (aCons (eC (.str "while")) (aCons (eTup aNil) aNil))) aNil))) aNil)) aNil) aNil) aNil))))) (tgN 4))
    (sSeq (sFrz 5 (sOwn 5 (oCat (eVar 5) (eFz (oLst (aCons (eTup (aCons (eC (.str "unlike")) (aCons (eC (.int 0)) (aCons (eVar 1) aNil)))) (aCons (eTup (aCons (eC (.str "unlike")) (aCons (eC (.int 0)) (aCons (eVar 1) aNil)))) aNil)))))))
    (sSeq (sAsg (eTup (aCons (eOp dAdd (eVar 2) (eTup (aCons (eTup (aCons (eC (.str "roll")) (aCons (eC (.int 3)) aNil))) (aCons (eTup (aCons (eC (.str "add")) (aCons (eC (.int 0)) aNil))) aNil)))) (aCons (eVar 2) aNil))) (tgN 6))
    (sSeq (sAsg (eOp dAdd (eVar 4) (eFz (oLst (aCons (eCall 1 0 1 [0] [] (frm m_verdict) (aCons (eVar 6) aNil) aNil) (aCons (eCall 0 1 1 [0] [] (frm m_verdict) aNil (aCons (eTup (aCons (eVar 2) aNil)) aNil)) (aCons (eCall 1 0 1 [0] [] (frm m_verdict) (aCons (eTup (aCons (eOp dAdd (eVar 2) (eTup (aCons (eTup (aCons (eC (.str "while")) (aCons (eTup (aCons (eTup (aCons (eC (.str "word")) (aCons (eC (.int 0)) aNil))) aNil)) aNil))) aNil))) aNil)) aNil) aNil) aNil)))))) (tgN 4))
    (sSeq (sFrz 5 (sOwn 5 (oCat (eVar 5) (eFz (oLst (aCons (eTup (aCons (eC (.str "even")) (aCons (eTup (aCons (eTup (aCons (eCB (on2 dMax2) (aCons (eC (.int 0)) (aCons (eOp dSub (eC (.int 4)) (eVar 1)) aNil))) (aCons (eOp dSub (eOp dAdd (eCB (on2 dMax2) (aCons (eC (.int 0)) (aCons (eOp dSub (eC (.int 4)) (eVar 1)) aNil))) (eVar 1)) (eC (.int 1))) aNil))) (aCons (eTup (aCons (eC (.int 0)) (aCons (eVar 1) aNil))) aNil))) aNil))) (aCons (eTup (aCons (eC (.str "even")) (aCons (eTup (aCons (eTup (aCons (eC (.int 0)) (aCons (eVar 1) aNil))) aNil)) aNil))) aNil)))))))
    (sSeq (sApp 5 (eTup (aCons (eC (.str "even")) (aCons (eTup (aCons (eTup (aCons (eCB (on2 dMax2) (aCons (eC (.int 0)) (aCons (eOp dSub (eC (.int 1)) (eVar 1)) aNil))) (aCons (eOp dSub (eOp dAdd (eCB (on2 dMax2) (aCons (eC (.int 0)) (aCons (eOp dSub (eC (.int 1)) (eVar 1)) aNil))) (eVar 1)) (eC (.int 1))) aNil))) aNil)) aNil))))
    (sSeq (sAsg (eTup (aCons (eTup (aCons (eTup (aCons (eC (.str "call")) (aCons (eC (.int 1)) aNil))) (aCons (eTup (aCons (eC (.str "drop")) (aCons (eC (.int 0)) aNil))) aNil))) (aCons (eTup (aCons (eTup (aCons (eC (.str "write")) (aCons (eC (.int 0)) aNil))) (aCons (eTup (aCons (eC (.str "call")) (aCons (eC (.int 0)) aNil))) aNil))) aNil))) (tgN 7))
    (sSeq (sAsg (eOp dAdd (eVar 4) (eFz (oLst (aCons (eCall 1 0 1 [0] [] (frm m_verdict) (aCons (eVar 7) aNil) aNil) (aCons (eCall 1 0 1 [0] [] (frm m_nets) (aCons (eVar 7) aNil) aNil) (aCons (eCall 2 0 2 [0, 1] [] (frm m__law_is_ring) (aCons (eVar 7) (aCons (eCall 1 0 1 [0] [] (frm m_ring) (aCons (eVar 7) aNil) aNil) aNil)) aNil) aNil)))))) (tgN 4))
    (sSeq (sFrz 5 (sOwn 5 (oCat (eVar 5) (eFz (oLst (aCons (eTup (aCons (eC (.str "bottomless")) aNil)) (aCons (eTup (aCons (eC .none) (aCons (eC .none) aNil))) (aCons (eC (.bool true)) aNil))))))))
    (sSeq (sAsg (eTup (aCons (eTup (aCons (eTup (aCons (eC (.str "call")) (aCons (eC (.int 1)) aNil))) (aCons (eTup (aCons (eC (.str "drop")) (aCons (eC (.int 0)) aNil))) aNil))) (aCons (eTup (aCons (eTup (aCons (eC (.str "write")) (aCons (eC (.int 0)) aNil))) (aCons (eTup (aCons (eC (.str "if")) (aCons (eTup (aCons (eTup (aCons (eC (.str "call")) (aCons (eC (.int 0)) aNil))) (aCons (eTup (aCons (eC (.str "word")) (aCons (eC (.int 1)) aNil))) aNil))) (aCons (eTup aNil) aNil)))) (aCons (eTup (aCons (eC (.str "word")) (aCons (eC (.int 3)) aNil))) aNil)))) aNil))) (tgN 8))
    (sSeq (sAsg (eOp dAdd (eVar 8) (eTup (aCons (eTup (aCons (eTup (aCons (eC (.str "word")) (aCons (eC (.int 2)) aNil))) (aCons (eTup (aCons (eC (.str "word")) (aCons (eC (.int 0)) aNil))) aNil))) aNil))) (tgN 8))
    (sSeq (sAsg (eOp dAdd (eVar 4) (eFz (oLst (aCons (eCall 1 0 1 [0] [] (frm m_nets) (aCons (eVar 8) aNil) aNil) (aCons (eCall 1 0 1 [0] [] (frm m_verdict) (aCons (eVar 8) aNil) aNil) aNil))))) (tgN 4))
    (sSeq (sFrz 5 (sOwn 5 (oCat (eVar 5) (eFz (oLst (aCons (eTup (aCons (eUn dNeg (eC (.int 2))) (aCons (eUn dNeg (eC (.int 1))) (aCons (eC (.int 2)) aNil)))) (aCons (eTup (aCons (eC (.str "unlike")) (aCons (eC (.int 1)) (aCons (eC (.int 1)) aNil)))) aNil)))))))
    (sSeq (sAsg (eTup (aCons (eTup (aCons (eTup (aCons (eC (.str "drop")) (aCons (eC (.int 0)) aNil))) (aCons (eTup (aCons (eC (.str "if")) (aCons (eTup (aCons (eTup (aCons (eC (.str "call")) (aCons (eC (.int 1)) aNil))) aNil)) (aCons (eTup (aCons (eTup (aCons (eC (.str "word")) (aCons (eC (.int 0)) aNil))) aNil)) aNil)))) (aCons (eTup (aCons (eC (.str "drop")) (aCons (eC (.int 0)) aNil))) aNil)))) (aCons (eTup (aCons (eTup (aCons (eC (.str "call")) (aCons (eC (.int 0)) aNil))) (aCons (eTup (aCons (eC (.str "copy")) (aCons (eC (.int 0)) aNil))) (aCons (eTup (aCons (eC (.str "copy")) (aCons (eC (.int 0)) aNil))) aNil)))) aNil))) (tgN 9))
    (sSeq (sAsg (eOp dAdd (eVar 4) (eFz (oLst (aCons (eCall 1 0 1 [0] [] (frm m_nets) (aCons (eVar 9) aNil) aNil) (aCons (eCall 1 0 1 [0] [] (frm m_verdict) (aCons (eVar 9) aNil) aNil) aNil))))) (tgN 4))
    (sSeq (sFrz 5 (sOwn 5 (oCat (eVar 5) (eFz (oLst (aCons (eTup (aCons (eUn dNeg (eC (.int 2))) (aCons (eC (.int 0)) aNil))) (aCons (eTup (aCons (eC (.str "unlike")) (aCons (eC (.int 0)) (aCons (eC (.int 1)) aNil)))) aNil)))))))
    (sSeq (sAsg (eOp dAdd (eOp dMulB (eTup (aCons (eTup (aCons (eC (.str "word")) (aCons (eC (.int 1)) aNil))) aNil)) (eC (.int 3))) (eTup (aCons (eTup (aCons (eC (.str "copy")) (aCons (eC (.int 1)) aNil))) (aCons (eTup (aCons (eC (.str "if")) (aCons (eTup (aCons (eTup (aCons (eC (.str "add")) (aCons (eC (.int 0)) aNil))) aNil)) (aCons (eTup (aCons (eTup (aCons (eC (.str "drop")) (aCons (eC (.int 0)) aNil))) aNil)) aNil)))) (aCons (eTup (aCons (eC (.str "while")) (aCons (eTup (aCons (eTup (aCons (eC (.str "word")) (aCons (eC (.int 0)) aNil))) aNil)) aNil))) aNil))))) (tgN 10))
    (sSeq (sAsg (eOp dAdd (eVar 10) (eTup (aCons (eTup (aCons (eC (.str "call")) (aCons (eC (.int 0)) aNil))) (aCons (eTup (aCons (eC (.str "word")) (aCons (eC (.int 4)) aNil))) aNil)))) (tgN 10))
    (sSeq (sAsg (eOp dAdd (eVar 4) (eFz (oLst (aCons (eFz (oLc [11] (iRange1 (eC (.int 11))) (tgN 11) tstY (eCall 3 0 3 [0, 1, 2] [] (frm m_height_at) (aCons (eTup (aCons (eVar 10) aNil)) (aCons (eC (.int 0)) (aCons (eVar 11) aNil))) aNil))) (aCons (eCall 0 3 3 [2, 1, 0] [] (frm m_height_at) aNil (aCons (eC (.int 6)) (aCons (eC (.int 0)) (aCons (eTup (aCons (eVar 10) aNil)) aNil)))) aNil))))) (tgN 4))
    (sSeq (sFrz 5 (sOwn 5 (oCat (eVar 5) (eFz (oLst (aCons (eFz (oLst (aCons (eC (.int 0)) (aCons (eC (.int 1)) (aCons (eC (.int 2)) (aCons (eC (.int 3)) (aCons (eC (.int 4)) (aCons (eC (.int 3)) (aCons (eC (.int 3)) (aCons (eC (.int 2)) (aCons (eC (.int 1)) (aCons (eC (.int 1)) (aCons (eC .none) aNil))))))))))))) (aCons (eC (.int 3)) aNil)))))))
    (sSeq (sAsg (eOp dAdd (eVar 4) (eFz (oLst (aCons (eCall 1 0 1 [0] [] (frm m_verdict) (aCons (eTup (aCons (eVar 10) aNil)) aNil) aNil) (aCons (eCall 0 1 1 [0] [] (frm m_effects) aNil (aCons (eTup (aCons (eVar 2) (aCons (eTup (aCons (eTup (aCons (eC (.str "call")) (aCons (eC (.int 0)) aNil))) aNil)) aNil))) aNil)) aNil))))) (tgN 4))
    (sFrz 5 (sRet (eOp dEq (eCB (on1 dRepr) (aCons (eVar 4) aNil)) (eCB (on1 dRepr) (aCons (eOp dAdd (eVar 5) (eFz (oLst (aCons (eTup (aCons (eC (.str "even")) (aCons (eTup (aCons (eTup (aCons (eC (.int 0)) (aCons (eC .none) aNil))) aNil)) aNil))) (aCons (eTup (aCons (eTup (aCons (eC (.int 0)) (aCons (eVar 1) aNil))) (aCons (eTup (aCons (eC (.int 0)) (aCons (eVar 1) aNil))) aNil))) aNil))))) aNil))))))))))))))))))))))))))))))) [some (.rv (.box n)), some (.rv (.d (.int 4))), none, none, none, none, none, none, none, none, none, none] s = .ok (.rt (.d (.bool true))) s := by kernel_rfl
theorem part_5 (n : Nat) (s : S) : (sSeq (sAsg (eOp dMulB (eTup (aCons (eTup (aCons (eC (.str "word")) (aCons (eC (.int 1)) aNil))) aNil)) (eVar 1)) (tgN 2))
    (sSeq (sAsg (eTup (aCons (eTup (aCons (eTup (aCons (eC (.str "copy")) (aCons (eC (.int 0)) aNil))) (aCons (eTup (aCons (eC (.str "if")) (aCons (eTup (aCons (eTup (aCons (eC (.str "drop")) (aCons (eC (.int 0)) aNil))) (aCons (eTup (aCons (eC (.str "call")) (aCons (eC (.int 0)) aNil))) (aCons (eTup (aCons (eC (.str "word")) (aCons (eC (.int 1)) aNil))) aNil)))) (aCons (eTup aNil) aNil)))) aNil))) (aCons (eTup (aCons (eTup (aCons (eC (.str "word")) (aCons (eC (.int 0)) aNil))) (aCons (eTup (aCons (eC (.str "call")) (aCons (eC (.int 0)) aNil))) aNil))) aNil))) (tgN 3))
    (sSeq (sAsg (eFz (oLst (aCons (eCall 1 0 1 [0] [] (frm m_verdict) (aCons (eVar 3) aNil) aNil) (aCons (eCall 2 0 2 [0, 1] [] (frm m__law_is_ring) (aCons (eVar 3) (aCons (eCall 1 0 1 [0] [] (frm m_ring) (aCons (eVar 3) aNil) aNil) aNil)) aNil) (aCons (eCall 1 0 1 [0] [] (frm m_nets) (aCons (eVar 3) aNil) aNil) (aCons (eCall 1 0 1 [0] [] (frm m_verdict) (aCons (eTup (aCons (eTup (aCons (eTup (aCons (eC (.str "call")) (aCons (eC (.int 0)) aNil))) aNil)) aNil)) aNil) aNil) aNil)))))) (tgN 4))
    (sSeq (sAsg (eOp dAdd (eVar 4) (eFz (oLst (aCons (eCall 1 0 1 [0] [] (frm m_nets) (aCons (eTup (aCons (eTup (aCons (eTup (aCons (eC (.str "call")) (aCons (eC (.int 0)) aNil))) aNil)) aNil)) aNil) aNil) aNil)))) (tgN 4))
    (sSeq (sOwn 5 (oLst (aCons (eTup (aCons (eC (.str "bottomless")) aNil)) (aCons (eC (.bool true)) (aCons (eTup (aCons (eC (.int 0)) (aCons (eC (.int 1)) aNil))) (aCons (eTup (aCons (eC (.str "even")) (aCons (eTup (aCons (eTup (aCons (eC (.int 0)) (aCons (eC .none) aNil))) aNil)) aNil))) (aCons (eTup (aCons (eC .none) aNil)) aNil)))))))
    (sSeq (sAsg (eOp dAdd (eVar 4) (eFz (oLst (aCons (eCall 1 0 1 [0] [] (frm m_verdict) (aCons (eTup (aCons (eOp dAdd (eVar 2) (eTup (aCons (eTup (aCons (eC (.str "if")) (aCons (eTup (aCons (eTup (aCons (eC (.str "word")) (aCons (eC (.int 1)) aNil))) aNil)) (aCons (eTup aNil) aNil)))) aNil))) aNil)) aNil) aNil) (aCons (eCall 1 0 1 [0] [] (frm m_verdict) (aCons (eTup (aCons (eOp dAdd (eVar 2) (eTup (aCons (eTup (aCons (eC (.str "while")) (aCons (eTup aNil) aNil))) aNil))) aNil)) aNil) aNil) aNil))))) (tgN 4))
    (sSeq (sFrz 5 (sOwn 5 (oCat (eVar 5) (eFz (oLst (aCons (eTup (aCons (eC (.str "unlike")) (aCons (eC (.int 0)) (aCons (eVar 1) aNil)))) (aCons (eTup (aCons (eC (.str "unlike")) (aCons (eC (.int 0)) (aCons (eVar 1) aNil)))) aNil)))))))
    (sSeq (sAsg (eTup (aCons (eOp dAdd (eVar 2) (eTup (aCons (eTup (aCons (eC (.str "roll")) (aCons (eC (.int 3)) aNil))) (aCons (eTup (aCons (eC (.str "add")) (aCons (eC (.int 0)) aNil))) aNil)))) (aCons (eVar 2) aNil))) (tgN 6))
    (sSeq (sAsg (eOp dAdd (eVar 4) (eFz (oLst (aCons (eCall 1 0 1 [0] [] (frm m_verdict) (aCons (eVar 6) aNil) aNil) (aCons (eCall 0 1 1 [0] [] (frm m_verdict) aNil (aCons (eTup (aCons (eVar 2) aNil)) aNil)) (aCons (eCall 1 0 1 [0] [] (frm m_verdict) (aCons (eTup (aCons (eOp dAdd (eVar 2) (eTup (aCons (eTup (aCons (eC (.str "while")) (aCons (eTup (aCons (eTup (aCons (eC (.str "word")) (aCons (eC (.int 0)) aNil))) aNil)) aNil))) aNil))) aNil)) aNil) aNil) aNil)))))) (tgN 4))
    (sSeq (sFrz 5 (sOwn 5 (oCat (eVar 5) (eFz (oLst (aCons (eTup (aCons (eC (.str "even")) (aCons (eTup (aCons (eTup (aCons (eCB (on2 dMax2) (aCons (eC (.int 0)) (aCons (eOp dSub (eC (.int 4)) (eVar 1)) aNil))) (aCons (eOp dSub (eOp dAdd (eCB (on2 dMax2) (aCons (eC (.int 0)) (aCons (eOp dSub (eC (.int 4)) (eVar 1)) aNil))) (eVar 1)) (eC (.int 1))) aNil))) (aCons (eTup (aCons (eC (.int 0)) (aCons (eVar 1) aNil))) aNil))) aNil))) (aCons (eTup (aCons (eC (.str "even")) (aCons (eTup (aCons (eTup (aCons (eC (.int 0)) (aCons (eVar 1) aNil))) aNil)) aNil))) aNil)))))))
    (sSeq (sApp 5 (eTup (aCons (eC (.str "even")) (aCons (eTup (aCons (eTup (aCons (eCB (on2 dMax2) (aCons (eC (.int 0)) (aCons (eOp dSub (eC (.int 1)) (eVar 1)) aNil))) (aCons (eOp dSub (eOp dAdd (eCB (on2 dMax2) (aCons (eC (.int 0)) (aCons (eOp dSub (eC (.int 1)) (eVar 1)) aNil))) (eVar 1)) (eC (.int 1))) aNil))) aNil)) aNil))))
    (sSeq (sAsg (eTup (aCons (eTup (aCons (eTup (aCons (eC (.str "call")) (aCons (eC (.int 1)) aNil))) (aCons (eTup (aCons (eC (.str "drop")) (aCons (eC (.int 0)) aNil))) aNil))) (aCons (eTup (aCons (eTup (aCons (eC (.str "write")) (aCons (eC (.int 0)) aNil))) (aCons (eTup (aCons (eC (.str "call")) (aCons (eC (.int 0)) aNil))) aNil))) aNil))) (tgN 7))
    (sSeq (sAsg (eOp dAdd (eVar 4) (eFz (oLst (aCons (eCall 1 0 1 [0] [] (frm m_verdict) (aCons (eVar 7) aNil) aNil) (aCons (eCall 1 0 1 [0] [] (frm m_nets) (aCons (eVar 7) aNil) aNil) (aCons (eCall 2 0 2 [0, 1] [] (frm m__law_is_ring) (aCons (eVar 7) (aCons (eCall 1 0 1 [0] [] (frm m_ring) (aCons (eVar 7) aNil) aNil) aNil)) aNil) aNil)))))) (tgN 4))
    (sSeq (sFrz 5 (sOwn 5 (oCat (eVar 5) (eFz (oLst (aCons (eTup (aCons (eC (.str "bottomless")) aNil)) (aCons (eTup (aCons (eC .none) (aCons (eC .none) aNil))) (aCons (eC (.bool true)) aNil))))))))
    (sSeq (sAsg (eTup (aCons (eTup (aCons (eTup (aCons (eC (.str "call")) (aCons (eC (.int 1)) aNil))) (aCons (eTup (aCons (eC (.str "drop")) (aCons (eC (.int 0)) aNil))) aNil))) (aCons (eTup (aCons (eTup (aCons (eC (.str "write")) (aCons (eC (.int 0)) aNil))) (aCons (eTup (aCons (eC (.str "if")) (aCons (eTup (aCons (eTup (aCons (eC (.str "call")) (aCons (eC (.int 0)) aNil))) (aCons (eTup (aCons (eC (.str "word")) (aCons (eC (.int 1)) aNil))) aNil))) (aCons (eTup aNil) aNil)))) (aCons (eTup (aCons (eC (.str "word")) (aCons (eC (.int 3)) aNil))) aNil)))) aNil))) (tgN 8))
    (sSeq (sAsg (eOp dAdd (eVar 8) (eTup (aCons (eTup (aCons (eTup (aCons (eC (.str "word")) (aCons (eC (.int 2)) aNil))) (aCons (eTup (aCons (eC (.str "word")) (aCons (eC (.int 0)) aNil))) aNil))) aNil))) (tgN 8))
    (sSeq (sAsg (eOp dAdd (eVar 4) (eFz (oLst (aCons (eCall 1 0 1 [0] [] (frm m_nets) (aCons (eVar 8) aNil) aNil) (aCons (eCall 1 0 1 [0] [] (frm m_verdict) (aCons (eVar 8) aNil) aNil) aNil))))) (tgN 4))
    (sSeq (sFrz 5 (sOwn 5 (oCat (eVar 5) (eFz (oLst (aCons (eTup (aCons (eUn dNeg (eC (.int 2))) (aCons (eUn dNeg (eC (.int 1))) (aCons (eC (.int 2)) aNil)))) (aCons (eTup (aCons (eC (.str "unlike")) (aCons (eC (.int 1)) (aCons (eC (.int 1)) aNil)))) aNil)))))))
    (sSeq (sAsg (eTup (aCons (eTup (aCons (eTup (aCons (eC (.str "drop")) (aCons (eC (.int 0)) aNil))) (aCons (eTup (aCons (eC (.str "if")) (aCons (eTup (aCons (eTup (aCons (eC (.str "call")) (aCons (eC (.int 1)) aNil))) aNil)) (aCons (eTup (aCons (eTup (aCons (eC (.str "word")) (aCons (eC (.int 0)) aNil))) aNil)) aNil)))) (aCons (eTup (aCons (eC (.str "drop")) (aCons (eC (.int 0)) aNil))) aNil)))) (aCons (eTup (aCons (eTup (aCons (eC (.str "call")) (aCons (eC (.int 0)) aNil))) (aCons (eTup (aCons (eC (.str "copy")) (aCons (eC (.int 0)) aNil))) (aCons (eTup (aCons (eC (.str "copy")) (aCons (eC (.int 0)) aNil))) aNil)))) aNil))) (tgN 9))
    (sSeq (sAsg (eOp dAdd (eVar 4) (eFz (oLst (aCons (eCall 1 0 1 [0] [] (frm m_nets) (aCons (eVar 9) aNil) aNil) (aCons (eCall 1 0 1 [0] [] (frm m_verdict) (aCons (eVar 9) aNil) aNil) aNil))))) (tgN 4))
    (sSeq (sFrz 5 (sOwn 5 (oCat (eVar 5) (eFz (oLst (aCons (eTup (aCons (eUn dNeg (eC (.int 2))) (aCons (eC (.int 0)) aNil))) (aCons (eTup (aCons (eC (.str "unlike")) (aCons (eC (.int 0)) (aCons (eC (.int 1)) aNil)))) aNil)))))))
    (sSeq (sAsg (eOp dAdd (eOp dMulB (eTup (aCons (eTup (aCons (eC (.str "word")) (aCons (eC (.int 1)) aNil))) aNil)) (eC (.int 3))) (eTup (aCons (eTup (aCons (eC (.str "copy")) (aCons (eC (.int 1)) aNil))) (aCons (eTup (aCons (eC (.str "if")) (aCons (eTup (aCons (eTup (aCons (eC (.str "add")) (aCons (eC (.int 0)) aNil))) aNil)) (aCons (eTup (aCons (eTup (aCons (eC (.str "drop")) (aCons (eC (.int 0)) aNil))) aNil)) aNil)))) (aCons (eTup (aCons (eC (.str "while")) (aCons (eTup (aCons (eTup (aCons (eC (.str "word")) (aCons (eC (.int 0)) aNil))) aNil)) aNil))) aNil))))) (tgN 10))
    (sSeq (sAsg (eOp dAdd (eVar 10) (eTup (aCons (eTup (aCons (eC (.str "call")) (aCons (eC (.int 0)) aNil))) (aCons (eTup (aCons (eC (.str "word")) (aCons (eC (.int 4)) aNil))) aNil)))) (tgN 10))
    (sSeq (sAsg (eOp dAdd (eVar 4) (eFz (oLst (aCons (eFz (oLc [11] (iRange1 (eC (.int 11))) (tgN 11) tstY (eCall 3 0 3 [0, 1, 2] [] (frm m_height_at) (aCons (eTup (aCons (eVar 10) aNil)) (aCons (eC (.int 0)) (aCons (eVar 11) aNil))) aNil))) (aCons (eCall 0 3 3 [2, 1, 0] [] (frm m_height_at) aNil (aCons (eC (.int 6)) (aCons (eC (.int 0)) (aCons (eTup (aCons (eVar 10) aNil)) aNil)))) aNil))))) (tgN 4))
    (sSeq (sFrz 5 (sOwn 5 (oCat (eVar 5) (eFz (oLst (aCons (eFz (oLst (aCons (eC (.int 0)) (aCons (eC (.int 1)) (aCons (eC (.int 2)) (aCons (eC (.int 3)) (aCons (eC (.int 4)) (aCons (eC (.int 3)) (aCons (eC (.int 3)) (aCons (eC (.int 2)) (aCons (eC (.int 1)) (aCons (eC (.int 1)) (aCons (eC .none) aNil))))))))))))) (aCons (eC (.int 3)) aNil)))))))
    (sSeq (sAsg (eOp dAdd (eVar 4) (eFz (oLst (aCons (eCall 1 0 1 [0] [] (frm m_verdict) (aCons (eTup (aCons (eVar 10) aNil)) aNil) aNil) (aCons (eCall 0 1 1 [0] [] (frm m_effects) aNil (aCons (eTup (aCons (eVar 2) (aCons (eTup (aCons (eTup (aCons (eC (.str "call")) (aCons (eC (.int 0)) aNil))) aNil)) aNil))) aNil)) aNil))))) (tgN 4))
    (sFrz 5 (sRet (eOp dEq (eCB (on1 dRepr) (aCons (eVar 4) aNil)) (eCB (on1 dRepr) (aCons (eOp dAdd (eVar 5) (eFz (oLst (aCons (eTup (aCons (eC (.str "even")) (aCons (eTup (aCons (eTup (aCons (eC (.int 0)) (aCons (eC .none) aNil))) aNil)) aNil))) (aCons (eTup (aCons (eTup (aCons (eC (.int 0)) (aCons (eVar 1) aNil))) (aCons (eTup (aCons (eC (.int 0)) (aCons (eVar 1) aNil))) aNil))) aNil))))) aNil))))))))))))))))))))))))))))))) [some (.rv (.box n)), some (.rv (.d (.int 5))), none, none, none, none, none, none, none, none, none, none] s = .ok (.rt (.d (.bool true))) s := by kernel_rfl
theorem cases_top {m : Int} (h1 : 0 ≤ m) (h2 : m < 6) : m = 0 ∨ m = 1 ∨ m = 2 ∨ m = 3 ∨ m = 4 ∨ m = 5 := by omega
theorem right_ok (n : Nat) (s : S) (p : Pail s n) : ∃ s', m__law_right [.box n] s = .ok (.d (.bool true)) s' := by
  obtain ⟨m, s1, a1, a2, e1, p1, _⟩ := p.deal (top := 6) (by decide) (by decide)
  refine ⟨s1, ev_fun (ev_seq (e1 := [some (.rv (.box n)), some (.rv (.d (.int m))), none, none, none, none, none, none, none, none, none, none]) (s1 := s1) (ev_asg (r := .d (.int m)) (s1 := s1) (ev_call (xs := [.box n, .d (.int 6)]) (ys := []) (s1 := s) (s2 := s) (zs := [.box n, .d (.int 6)]) rfl rfl rfl ⟨rfl, rfl, rfl⟩ e1) rfl) ?_)⟩
  rcases cases_top a1 a2 with rfl | rfl | rfl | rfl | rfl | rfl
  · exact part_0 n s1
  · exact part_1 n s1
  · exact part_2 n s1
  · exact part_3 n s1
  · exact part_4 n s1
  · exact part_5 n s1
theorem law_true : ∀ ns : List Int, ns.length ≤ 63 → ∃ s, m_law [.d (.list (ns.map .int))] [] = .ok (.d (.bool true)) s := by
  have h := lawM_ok (N := 3) (c1 := 3095188) (c2 := 17021) (by decide) (by decide) right_ok
  exact h
theorem ok_is_whole {P : Program} {w : World} {K : PySem.W.Frag} {mg : Str → Option Value} {base : Heap} {fld : Str → Str} (T : Txt K w mg) : DFn P w K mg base fld 1 T.f_is_whole T.fd_is_whole ["value"] m_is_whole :=
  DFn.of (k := 0) T.F_is_whole sc_is_whole fun cdv A outer s g0 H E hr hgd hx tk po =>
    (dss_one (ds_ret (de_and (de_isi kit_int (by rfl) T.z_isinstance (by rfl) T.z_int (by decide +kernel) (de_var 0)) (de_one (de_not (de_isi kit_bool (by rfl) T.z_isinstance (by rfl) T.z_bool (by decide +kernel) (de_var 0)))))))
theorem ok_is_number {P : Program} {w : World} {K : PySem.W.Frag} {mg : Str → Option Value} {base : Heap} {fld : Str → Str} (T : Txt K w mg) : DFn P w K mg base fld 2 T.f_is_number T.fd_is_number ["value", "low", "most"] m_is_number :=
  DFn.of (k := 1) T.F_is_number sc_is_number fun cdv A outer s g0 H E hr hgd hx tk po =>
    (dss_one (ds_ret (de_and (de_callD ((ok_is_whole T).up (by omega)) hr hgd (by rfl) T.g_is_whole T.F_is_whole.kp (b_is_whole_1 T) hx (da_cons (de_var 0) da_nil)) (de_and (de_cmp op_le od_cmpI (de_var 1) (de_var 0)) (de_one (de_or (de_cmpV op_isN ov_isN (de_var 2) de_non) (de_one (de_cmp op_le od_cmpI (de_var 0) (de_var 2)))))))))
theorem ok_is_word {P : Program} {w : World} {K : PySem.W.Frag} {mg : Str → Option Value} {base : Heap} {fld : Str → Str} (T : Txt K w mg) : DFn P w K mg base fld 3 T.f_is_word T.fd_is_word ["value"] m_is_word :=
  DFn.of (k := 2) T.F_is_word sc_is_word fun cdv A outer s g0 H E hr hgd hx tk po =>
    (dss_one (ds_ret (de_callD ((ok_is_number T).up (by omega)) hr hgd (by rfl) T.g_is_number T.F_is_number.kp (b_is_number_3 T) hx (da_cons (de_var 0) (da_cons (de_int (j := 0)) (da_cons (de_op op_sub od_sub (de_globD (by rfl) T.k_ROUND) (de_int (j := 0))) da_nil))))))
theorem ok_is_tuple_of {P : Program} {w : World} {K : PySem.W.Frag} {mg : Str → Option Value} {base : Heap} {fld : Str → Str} (T : Txt K w mg) : DFn P w K mg base fld 1 T.f_is_tuple_of T.fd_is_tuple_of ["value", "many"] m_is_tuple_of :=
  DFn.of (k := 0) T.F_is_tuple_of sc_is_tuple_of fun cdv A outer s g0 H E hr hgd hx tk po =>
    (dss_one (ds_ret (de_and (de_isi kit_tuple (by rfl) T.z_isinstance (by rfl) T.z_tuple (by decide +kernel) (de_var 0)) (de_one (de_cmp (op_eqA (hu64 hr)) od_eq (de_cb call_len cd_lenA (by rfl) T.z_len (by decide +kernel) (da_cons (de_var 0) da_nil)) (de_var 1))))))
theorem ok_is_short_tuple {P : Program} {w : World} {K : PySem.W.Frag} {mg : Str → Option Value} {base : Heap} {fld : Str → Str} (T : Txt K w mg) : DFn P w K mg base fld 1 T.f_is_short_tuple T.fd_is_short_tuple ["value", "low", "most"] m_is_short_tuple :=
  DFn.of (k := 0) T.F_is_short_tuple sc_is_short_tuple fun cdv A outer s g0 H E hr hgd hx tk po =>
    (dss_one (ds_ret (de_and (de_isi kit_tuple (by rfl) T.z_isinstance (by rfl) T.z_tuple (by decide +kernel) (de_var 0)) (de_one (de_chain op_le op_le od_cmpI od_cmpI pureI (de_var 1) (de_cb call_len cd_lenA (by rfl) T.z_len (by decide +kernel) (da_cons (de_var 0) da_nil)) (de_var 2))))))
theorem ok_is_shuffle {P : Program} {w : World} {K : PySem.W.Frag} {mg : Str → Option Value} {base : Heap} {fld : Str → Str} (T : Txt K w mg) : DFn P w K mg base fld 3 T.f_is_shuffle T.fd_is_shuffle ["value"] m_is_shuffle :=
  DFn.of (k := 2) T.F_is_shuffle sc_is_shuffle fun cdv A outer s g0 H E hr hgd hx tk po =>
    (dss_cons (ds_if (dt_w (dw_or (dt_not (dt_val (de_callD ((ok_is_tuple_of T).up (by omega)) hr hgd (by rfl) T.g_is_tuple_of T.F_is_tuple_of.kp (b_is_tuple_of_2 T) hx (da_cons (de_var 0) (da_cons (de_int (j := 0)) da_nil))))) (dw_or1 (dt_not (dt_val (de_isi kit_str (by rfl) T.z_isinstance (by rfl) T.z_str (by decide +kernel) (de_ixU (hu1 hr) (de_var 0) (de_int (j := 0)))))))))
    (dss_one (ds_ret de_bl)) dss_nil)
    (dss_cons (ds_asg (de_var 0) (dg_tup rfl (dgs_cons (dg_name sc_is_shuffle.nd) (dgs_cons (dg_name sc_is_shuffle.nd) dgs_nil))))
    (dss_cons (ds_if (dt_cmp (op_eqA (hu64 hr)) od_eq (de_var 1) (de_globD (by rfl) T.k_DROP))
    (dss_one (ds_ret (de_callD ((ok_is_number T).up (by omega)) hr hgd (by rfl) T.g_is_number T.F_is_number.kp (b_is_number_3 T) hx (da_cons (de_var 2) (da_cons (de_int (j := 0)) (da_cons (de_int (j := 0)) da_nil)))))) dss_nil)
    (dss_cons (ds_if (dt_cmp (op_eqA (hu64 hr)) od_eq (de_var 1) (de_globD (by rfl) T.k_ROLL))
    (dss_one (ds_ret (de_callD ((ok_is_number T).up (by omega)) hr hgd (by rfl) T.g_is_number T.F_is_number.kp (b_is_number_3 T) hx (da_cons (de_var 2) (da_cons (de_int (j := 0)) (da_cons (de_globD (by rfl) T.k_DEEPEST) da_nil)))))) dss_nil)
    (dss_one (ds_ret (de_and (de_cmp (op_eqA (hu64 hr)) od_eq (de_var 1) (de_globD (by rfl) T.k_COPY)) (de_one (de_callD ((ok_is_number T).up (by omega)) hr hgd (by rfl) T.g_is_number T.F_is_number.kp (b_is_number_3 T) hx (da_cons (de_var 2) (da_cons (de_int (j := 0)) (da_cons (de_globD (by rfl) T.k_DEEPEST) da_nil))))))))))))
theorem ok_looks_of {P : Program} {w : World} {K : PySem.W.Frag} {mg : Str → Option Value} {base : Heap} {fld : Str → Str} (T : Txt K w mg) : DFn P w K mg base fld 1 T.f_looks_of T.fd_looks_of ["shuffle"] m_looks_of :=
  DFn.of (k := 0) T.F_looks_of sc_looks_of fun cdv A outer s g0 H E hr hgd hx tk po =>
    (dss_one (ds_ret (de_op op_addA od_add (de_ixU (hu1 hr) (de_var 0) (de_int (j := 0))) (de_int (j := 0)))))
theorem ok_is_headed {P : Program} {w : World} {K : PySem.W.Frag} {mg : Str → Option Value} {base : Heap} {fld : Str → Str} (T : Txt K w mg) : DFn P w K mg base fld 2 T.f_is_headed T.fd_is_headed ["value", "many"] m_is_headed :=
  DFn.of (k := 1) T.F_is_headed sc_is_headed fun cdv A outer s g0 H E hr hgd hx tk po =>
    (dss_one (ds_ret (de_and (de_callD ((ok_is_tuple_of T).up (by omega)) hr hgd (by rfl) T.g_is_tuple_of T.F_is_tuple_of.kp (b_is_tuple_of_2 T) hx (da_cons (de_var 0) (da_cons (de_var 1) da_nil))) (de_one (de_isi kit_str (by rfl) T.z_isinstance (by rfl) T.z_str (by decide +kernel) (de_ixU (hu1 hr) (de_var 0) (de_int (j := 0))))))))
theorem ok_is_plain_item {P : Program} {w : World} {K : PySem.W.Frag} {mg : Str → Option Value} {base : Heap} {fld : Str → Str} (T : Txt K w mg) : DFn P w K mg base fld 4 T.f_is_plain_item T.fd_is_plain_item ["value"] m_is_plain_item :=
  DFn.of (k := 3) T.F_is_plain_item sc_is_plain_item fun cdv A outer s g0 H E hr hgd hx tk po =>
    (dss_cons (ds_if (dt_val (de_callD ((ok_is_shuffle T).up (by omega)) hr hgd (by rfl) T.g_is_shuffle T.F_is_shuffle.kp (b_is_shuffle_1 T) hx (da_cons (de_var 0) da_nil)))
    (dss_one (ds_ret de_bl)) dss_nil)
    (dss_cons (ds_if (dt_w (dw_or (dt_not (dt_val (de_callD ((ok_is_headed T).up (by omega)) hr hgd (by rfl) T.g_is_headed T.F_is_headed.kp (b_is_headed_2 T) hx (da_cons (de_var 0) (da_cons (de_int (j := 0)) da_nil))))) (dw_or1 (dt_cmp (op_notInA (hu65 hr)) od_in (de_ixU (hu1 hr) (de_var 0) (de_int (j := 0))) (de_tup (da_cons (de_globD (by rfl) T.k_WORD) (da_cons (de_globD (by rfl) T.k_ADD) (da_cons (de_globD (by rfl) T.k_SUB) da_nil))))))))
    (dss_one (ds_ret de_bl)) dss_nil)
    (dss_one (ds_ret (de_if (dt_cmp (op_eqA (hu64 hr)) od_eq (de_ixU (hu1 hr) (de_var 0) (de_int (j := 0))) (de_globD (by rfl) T.k_WORD)) (de_callD ((ok_is_word T).up (by omega)) hr hgd (by rfl) T.g_is_word T.F_is_word.kp (b_is_word_1 T) hx (da_cons (de_ixU (hu1 hr) (de_var 0) (de_int (j := 0))) da_nil)) (de_callD ((ok_is_number T).up (by omega)) hr hgd (by rfl) T.g_is_number T.F_is_number.kp (b_is_number_3 T) hx (da_cons (de_ixU (hu1 hr) (de_var 0) (de_int (j := 0))) (da_cons (de_int (j := 0)) (da_cons (de_int (j := 0)) da_nil)))))))))
theorem ok_bodies_in {P : Program} {w : World} {K : PySem.W.Frag} {mg : Str → Option Value} {base : Heap} {fld : Str → Str} (T : Txt K w mg) : DFn P w K mg base fld 1 T.f_bodies_in T.fd_bodies_in ["item"] m_bodies_in :=
  DFn.of (k := 0) T.F_bodies_in sc_bodies_in fun cdv A outer s g0 H E hr hgd hx tk po =>
    (dss_one (ds_ret (de_if (dt_cmp (op_inA (hu65 hr)) od_in (de_ixU (hu1 hr) (de_var 0) (de_int (j := 0))) (de_tup (da_cons (de_globD (by rfl) T.k_IF) (da_cons (de_globD (by rfl) T.k_WHILE) da_nil)))) (de_slice (de_var 0) (dp_some (de_int (j := 0))) dp_none) (de_tup da_nil))))
theorem okf_is_item {P : Program} {w : World} {K : PySem.W.Frag} {mg : Str → Option Value} {base : Heap} {fld : Str → Str} (T : Txt K w mg) (n : Nat) (r : G_10) (h_is_item : DFn P w K mg base fld (4 + n) T.f_is_item T.fd_is_item ["value", "many", "deep"] r.is_item) (h_is_body : DFn P w K mg base fld (4 + n) T.f_is_body T.fd_is_body ["value", "many", "deep"] r.is_body) : DFn P w K mg base fld (4 + n + 1) T.f_is_item T.fd_is_item ["value", "many", "deep"] (mf_is_item r) :=
  DFn.of (k := 4 + n) T.F_is_item sc_is_item fun cdv A outer s g0 H E hr hgd hx tk po =>
    (dss_cons (ds_if (dt_w (dw_or (dt_w (dw_and (dt_val (de_callD ((ok_is_headed T).up (by omega)) hr hgd (by rfl) T.g_is_headed T.F_is_headed.kp (b_is_headed_2 T) hx (da_cons (de_var 0) (da_cons (de_int (j := 0)) da_nil)))) (dw_and1 (dt_cmp (op_eqA (hu64 hr)) od_eq (de_ixU (hu1 hr) (de_var 0) (de_int (j := 0))) (de_globD (by rfl) T.k_IF))))) (dw_or1 (dt_w (dw_and (dt_val (de_callD ((ok_is_headed T).up (by omega)) hr hgd (by rfl) T.g_is_headed T.F_is_headed.kp (b_is_headed_2 T) hx (da_cons (de_var 0) (da_cons (de_int (j := 0)) da_nil)))) (dw_and1 (dt_cmp (op_eqA (hu64 hr)) od_eq (de_ixU (hu1 hr) (de_var 0) (de_int (j := 0))) (de_globD (by rfl) T.k_WHILE))))))))
    (dss_one (ds_ret (de_cb (cr_all rfl) cd_all (by rfl) T.z_all (by decide +kernel) (da_cons (de_fz (do_lcX rfl sc_is_item.nd (own := [("body", 3)]) (di_seq (de_slice (de_var 0) (dp_some (de_int (j := 0))) dp_none)) (blkOk_of (by kernel_rfl)) (by decide) (fun s1 H1 C1 cl1 fp1 hx => (dg_name sc_is_item.nd)) (fun s1 H1 C1 cl1 fp1 hx => dts_nil) (fun s1 H1 C1 cl1 fp1 hx => (de_callD (h_is_body.up (by omega)) hr hgd (by rfl) T.g_is_body T.F_is_body.kp (b_is_body_3 T) hx (da_cons (de_var 3) (da_cons (de_var 1) (da_cons (de_var 2) da_nil))))))) da_nil)))) dss_nil)
    (dss_cons (ds_if (dt_val (de_callD ((ok_is_plain_item T).up (by omega)) hr hgd (by rfl) T.g_is_plain_item T.F_is_plain_item.kp (b_is_plain_item_1 T) hx (da_cons (de_var 0) da_nil)))
    (dss_one (ds_ret de_bl)) dss_nil)
    (dss_cons (ds_if (dt_not (dt_val (de_callD ((ok_is_headed T).up (by omega)) hr hgd (by rfl) T.g_is_headed T.F_is_headed.kp (b_is_headed_2 T) hx (da_cons (de_var 0) (da_cons (de_int (j := 0)) da_nil)))))
    (dss_one (ds_ret de_bl)) dss_nil)
    (dss_cons (ds_if (dt_cmp (op_eqA (hu64 hr)) od_eq (de_ixU (hu1 hr) (de_var 0) (de_int (j := 0))) (de_globD (by rfl) T.k_CALL))
    (dss_one (ds_ret (de_callD ((ok_is_number T).up (by omega)) hr hgd (by rfl) T.g_is_number T.F_is_number.kp (b_is_number_3 T) hx (da_cons (de_ixU (hu1 hr) (de_var 0) (de_int (j := 0))) (da_cons (de_int (j := 0)) (da_cons (de_op op_sub od_sub (de_var 1) (de_int (j := 0))) da_nil)))))) dss_nil)
    (dss_one (ds_ret (de_and (de_cmp (op_inA (hu65 hr)) od_in (de_ixU (hu1 hr) (de_var 0) (de_int (j := 0))) (de_globD (by rfl) T.k_BARE)) (de_one (de_callD ((ok_is_number T).up (by omega)) hr hgd (by rfl) T.g_is_number T.F_is_number.kp (b_is_number_3 T) hx (da_cons (de_ixU (hu1 hr) (de_var 0) (de_int (j := 0))) (da_cons (de_int (j := 0)) (da_cons (de_int (j := 0)) da_nil))))))))))))
theorem okf_is_body {P : Program} {w : World} {K : PySem.W.Frag} {mg : Str → Option Value} {base : Heap} {fld : Str → Str} (T : Txt K w mg) (n : Nat) (r : G_10) (h_is_item : DFn P w K mg base fld (4 + n) T.f_is_item T.fd_is_item ["value", "many", "deep"] r.is_item) (h_is_body : DFn P w K mg base fld (4 + n) T.f_is_body T.fd_is_body ["value", "many", "deep"] r.is_body) : DFn P w K mg base fld (4 + n + 1) T.f_is_body T.fd_is_body ["value", "many", "deep"] (mf_is_body r) :=
  DFn.of (k := 4 + n) T.F_is_body sc_is_body fun cdv A outer s g0 H E hr hgd hx tk po =>
    (dss_cons (ds_if (dt_w (dw_or (dt_cmp op_le od_cmpI (de_var 2) (de_int (j := 0))) (dw_or1 (dt_not (dt_val (de_isi kit_tuple (by rfl) T.z_isinstance (by rfl) T.z_tuple (by decide +kernel) (de_var 0)))))))
    (dss_one (ds_ret de_bl)) dss_nil)
    (dss_one (ds_ret (de_cb (cr_all rfl) cd_all (by rfl) T.z_all (by decide +kernel) (da_cons (de_fz (do_lcX rfl sc_is_body.nd (own := [("item", 3)]) (di_seq (de_var 0)) (blkOk_of (by kernel_rfl)) (by decide) (fun s1 H1 C1 cl1 fp1 hx => (dg_name sc_is_body.nd)) (fun s1 H1 C1 cl1 fp1 hx => dts_nil) (fun s1 H1 C1 cl1 fp1 hx => (de_callD (h_is_item.up (by omega)) hr hgd (by rfl) T.g_is_item T.F_is_item.kp (b_is_item_3 T) hx (da_cons (de_var 3) (da_cons (de_var 1) (da_cons (de_op op_sub od_sub (de_var 2) (de_int (j := 0))) da_nil))))))) da_nil)))))
theorem okg_10 {P : Program} {w : World} {K : PySem.W.Frag} {mg : Str → Option Value} {base : Heap} {fld : Str → Str} (T : Txt K w mg) : ∀ n : Nat, DFn P w K mg base fld (4 + n) T.f_is_item T.fd_is_item ["value", "many", "deep"] (g_10 n).is_item ∧ DFn P w K mg base fld (4 + n) T.f_is_body T.fd_is_body ["value", "many", "deep"] (g_10 n).is_body
  | 0 => ⟨DFn.none, DFn.none⟩
  | n + 1 => by
    have ih := okg_10 (P := P) (base := base) (fld := fld) T n
    exact ⟨okf_is_item T n _ ih.1 ih.2, okf_is_body T n _ ih.1 ih.2⟩
theorem ok_is_item {P : Program} {w : World} {K : PySem.W.Frag} {mg : Str → Option Value} {base : Heap} {fld : Str → Str} (T : Txt K w mg) : DFn P w K mg base fld 16 T.f_is_item T.fd_is_item ["value", "many", "deep"] m_is_item := (okg_10 (P := P) (base := base) (fld := fld) T 12).1
theorem ok_is_body {P : Program} {w : World} {K : PySem.W.Frag} {mg : Str → Option Value} {base : Heap} {fld : Str → Str} (T : Txt K w mg) : DFn P w K mg base fld 16 T.f_is_body T.fd_is_body ["value", "many", "deep"] m_is_body := (okg_10 (P := P) (base := base) (fld := fld) T 12).2
theorem ok_taken_by {P : Program} {w : World} {K : PySem.W.Frag} {mg : Str → Option Value} {base : Heap} {fld : Str → Str} (T : Txt K w mg) : DFn P w K mg base fld 2 T.f_taken_by T.fd_taken_by ["item"] m_taken_by :=
  DFn.of (k := 1) T.F_taken_by sc_taken_by fun cdv A outer s g0 H E hr hgd hx tk po =>
    (dss_one (ds_ret (de_if (dt_cmp (op_inA (hu65 hr)) od_in (de_ixU (hu1 hr) (de_var 0) (de_int (j := 0))) (de_tup (da_cons (de_globD (by rfl) T.k_COPY) (da_cons (de_globD (by rfl) T.k_ROLL) da_nil)))) (de_callD ((ok_looks_of T).up (by omega)) hr hgd (by rfl) T.g_looks_of T.F_looks_of.kp (b_looks_of_1 T) hx (da_cons (de_var 0) da_nil)) (de_kdct (by rfl) T.q_TAKES (de_ixU (hu1 hr) (de_var 0) (de_int (j := 0)))))))
theorem ok_left_by {P : Program} {w : World} {K : PySem.W.Frag} {mg : Str → Option Value} {base : Heap} {fld : Str → Str} (T : Txt K w mg) : DFn P w K mg base fld 2 T.f_left_by T.fd_left_by ["item"] m_left_by :=
  DFn.of (k := 1) T.F_left_by sc_left_by fun cdv A outer s g0 H E hr hgd hx tk po =>
    (dss_cons (ds_if (dt_cmp (op_eqA (hu64 hr)) od_eq (de_ixU (hu1 hr) (de_var 0) (de_int (j := 0))) (de_globD (by rfl) T.k_COPY))
    (dss_one (ds_ret (de_op op_addA od_add (de_callD ((ok_looks_of T).up (by omega)) hr hgd (by rfl) T.g_looks_of T.F_looks_of.kp (b_looks_of_1 T) hx (da_cons (de_var 0) da_nil)) (de_int (j := 0))))) dss_nil)
    (dss_one (ds_ret (de_if (dt_cmp (op_eqA (hu64 hr)) od_eq (de_ixU (hu1 hr) (de_var 0) (de_int (j := 0))) (de_globD (by rfl) T.k_ROLL)) (de_callD ((ok_looks_of T).up (by omega)) hr hgd (by rfl) T.g_looks_of T.F_looks_of.kp (b_looks_of_1 T) hx (da_cons (de_var 0) da_nil)) (de_kdct (by rfl) T.q_LEAVES (de_ixU (hu1 hr) (de_var 0) (de_int (j := 0))))))))
theorem okf_size_of {P : Program} {w : World} {K : PySem.W.Frag} {mg : Str → Option Value} {base : Heap} {fld : Str → Str} (T : Txt K w mg) (n : Nat) (r : G_13) (h_size_of : DFn P w K mg base fld (1 + n) T.f_size_of T.fd_size_of ["body"] r.size_of) : DFn P w K mg base fld (1 + n + 1) T.f_size_of T.fd_size_of ["body"] (mf_size_of r) :=
  DFn.of (k := 1 + n) T.F_size_of sc_size_of fun cdv A outer s g0 H E hr hgd hx tk po =>
    (dss_one (ds_ret (de_cb (cr_sum rfl) cd_sum (by rfl) T.z_sum (by decide +kernel) (da_cons (de_fz (do_lcX rfl sc_size_of.nd (own := [("item", 1)]) (di_seq (de_var 0)) (blkOk_of (by kernel_rfl)) (by decide) (fun s1 H1 C1 cl1 fp1 hx => (dg_name sc_size_of.nd)) (fun s1 H1 C1 cl1 fp1 hx => dts_nil) (fun s1 H1 C1 cl1 fp1 hx => (de_op op_addA od_add (de_int (j := 0)) (de_cb (cr_sum rfl) cd_sum (by rfl) T.z_sum (by decide +kernel) (da_cons (de_fz (do_lcX rfl sc_size_of.nd (own := [("inner", 2)]) (di_seq (de_callD ((ok_bodies_in T).up (by omega)) hr hgd (by rfl) T.g_bodies_in T.F_bodies_in.kp (b_bodies_in_1 T) hx (da_cons (de_var 1) da_nil))) (blkOk_of (by kernel_rfl)) (by decide) (fun s1 H1 C1 cl1 fp1 hx => (dg_name sc_size_of.nd)) (fun s1 H1 C1 cl1 fp1 hx => dts_nil) (fun s1 H1 C1 cl1 fp1 hx => (de_callD (h_size_of.up (by omega)) hr hgd (by rfl) T.g_size_of T.F_size_of.kp (b_size_of_1 T) hx (da_cons (de_var 2) da_nil))))) da_nil)))))) da_nil))))
theorem okg_13 {P : Program} {w : World} {K : PySem.W.Frag} {mg : Str → Option Value} {base : Heap} {fld : Str → Str} (T : Txt K w mg) : ∀ n : Nat, DFn P w K mg base fld (1 + n) T.f_size_of T.fd_size_of ["body"] (g_13 n).size_of
  | 0 => DFn.none
  | n + 1 => by
    have ih := okg_13 (P := P) (base := base) (fld := fld) T n
    exact okf_size_of T n _ ih
theorem ok_size_of {P : Program} {w : World} {K : PySem.W.Frag} {mg : Str → Option Value} {base : Heap} {fld : Str → Str} (T : Txt K w mg) : DFn P w K mg base fld 13 T.f_size_of T.fd_size_of ["body"] m_size_of := (okg_13 (P := P) (base := base) (fld := fld) T 12)
theorem ok_Place___init__ {P : Program} {w : World} {K : PySem.W.Frag} {mg : Str → Option Value} {base : Heap} {fld : Str → Str} (T : Txt K w mg) : DFn P w K mg base fld 1 T.f_Place___init__ T.fd_Place___init__ ["self", "item", "way", "index"] m_Place___init__ :=
  DFn.of (k := 0) T.F_Place___init__ sc_Place___init__ fun cdv A outer s g0 H E hr hgd hx tk po =>
    (dss_cons (ds_attr (de_var 0) (de_var 1) (allC_cons ⟨_, _, T.X_Place, by decide⟩ allC_nil))
    (dss_cons (ds_attr (de_var 0) (de_var 2) (allC_cons ⟨_, _, T.X_Place, by decide⟩ allC_nil))
    (dss_one (ds_attr (de_var 0) (de_var 3) (allC_cons ⟨_, _, T.X_Place, by decide⟩ allC_nil)))))
theorem okf_places_of {P : Program} {w : World} {K : PySem.W.Frag} {mg : Str → Option Value} {base : Heap} {fld : Str → Str} (T : Txt K w mg) (n : Nat) (r : G_15) (h_places_of : DFn P w K mg base fld (2 + n) T.f_places_of T.fd_places_of ["body", "way"] r.places_of) : DFn P w K mg base fld (2 + n + 1) T.f_places_of T.fd_places_of ["body", "way"] (mf_places_of r) :=
  DFn.of (k := 2 + n) T.F_places_of sc_places_of fun cdv A outer s g0 H E hr hgd hx tk po =>
    (dss_cons (ds_set (i := 2) sc_places_of.nd (de_newBox (do_lst da_nil)))
    (dss_cons (ds_forEU po rfl (by rfl) T.z_enumerate (de_var 0) (dg_name sc_places_of.nd) (dg_name sc_places_of.nd)
    (dss_cons (ds_drop (de_lapp (de_var 2) (de_make (k := 1) ⟨_, _, _, _, T.X_Place.at_, T.K_Place, (ok_Place___init__ T).up (by omega), rfl, (b_Place___init___4 T)⟩ (hr.mono (by omega)) hgd (by rfl) hx (da_cons (de_var 4) (da_cons (de_var 1) (da_cons (de_var 3) da_nil))))))
    (dss_one (ds_forEU po rfl (by rfl) T.z_enumerate (de_callD ((ok_bodies_in T).up (by omega)) hr hgd (by rfl) T.g_bodies_in T.F_bodies_in.kp (b_bodies_in_1 T) hx (da_cons (de_var 4) da_nil)) (dg_name sc_places_of.nd) (dg_name sc_places_of.nd)
    (dss_one (ds_drop (de_lext (de_var 2) (de_callD (h_places_of.up (by omega)) hr hgd (by rfl) T.g_places_of T.F_places_of.kp (b_places_of_2 T) hx (da_cons (de_var 6) (da_cons (de_tup (da_star (de_var 1) (da_cons (de_tup (da_cons (de_var 3) (da_cons (de_op op_addA od_add (de_var 5) (de_int (j := 0))) da_nil))) da_nil))) da_nil))))))))))
    (dss_one (ds_ret (de_var 2)))))
theorem okg_15 {P : Program} {w : World} {K : PySem.W.Frag} {mg : Str → Option Value} {base : Heap} {fld : Str → Str} (T : Txt K w mg) : ∀ n : Nat, DFn P w K mg base fld (2 + n) T.f_places_of T.fd_places_of ["body", "way"] (g_15 n).places_of
  | 0 => DFn.none
  | n + 1 => by
    have ih := okg_15 (P := P) (base := base) (fld := fld) T n
    exact okf_places_of T n _ ih
theorem ok_places_of {P : Program} {w : World} {K : PySem.W.Frag} {mg : Str → Option Value} {base : Heap} {fld : Str → Str} (T : Txt K w mg) : DFn P w K mg base fld 14 T.f_places_of T.fd_places_of ["body", "way"] m_places_of := (okg_15 (P := P) (base := base) (fld := fld) T 12)
theorem ok_items_in_all {P : Program} {w : World} {K : PySem.W.Frag} {mg : Str → Option Value} {base : Heap} {fld : Str → Str} (T : Txt K w mg) : DFn P w K mg base fld 14 T.f_items_in_all T.fd_items_in_all ["code"] m_items_in_all :=
  DFn.of (k := 13) T.F_items_in_all sc_items_in_all fun cdv A outer s g0 H E hr hgd hx tk po =>
    (dss_one (ds_ret (de_cb (cr_sum rfl) cd_sum (by rfl) T.z_sum (by decide +kernel) (da_cons (de_fz (do_lcX rfl sc_items_in_all.nd (own := [("body", 1)]) (di_seq (de_var 0)) (blkOk_of (by kernel_rfl)) (by decide) (fun s1 H1 C1 cl1 fp1 hx => (dg_name sc_items_in_all.nd)) (fun s1 H1 C1 cl1 fp1 hx => dts_nil) (fun s1 H1 C1 cl1 fp1 hx => (de_callD ((ok_size_of T).up (by omega)) hr hgd (by rfl) T.g_size_of T.F_size_of.kp (b_size_of_1 T) hx (da_cons (de_var 1) da_nil))))) da_nil))))
theorem ok_is_code_form {P : Program} {w : World} {K : PySem.W.Frag} {mg : Str → Option Value} {base : Heap} {fld : Str → Str} (T : Txt K w mg) : DFn P w K mg base fld 17 T.f_is_code_form T.fd_is_code_form ["value"] m_is_code_form :=
  DFn.of (k := 16) T.F_is_code_form sc_is_code_form fun cdv A outer s g0 H E hr hgd hx tk po =>
    (dss_cons (ds_if (dt_not (dt_val (de_callD ((ok_is_short_tuple T).up (by omega)) hr hgd (by rfl) T.g_is_short_tuple T.F_is_short_tuple.kp (b_is_short_tuple_3 T) hx (da_cons (de_var 0) (da_cons (de_int (j := 0)) (da_cons (de_globD (by rfl) T.k_MOST_FUNCTIONS) da_nil))))))
    (dss_one (ds_ret de_bl)) dss_nil)
    (dss_cons (ds_if (dt_not (dt_val (de_cb (cr_all rfl) cd_all (by rfl) T.z_all (by decide +kernel) (da_cons (de_fz (do_lcX rfl sc_is_code_form.nd (own := [("body", 1)]) (di_seq (de_var 0)) (blkOk_of (by kernel_rfl)) (by decide) (fun s1 H1 C1 cl1 fp1 hx => (dg_name sc_is_code_form.nd)) (fun s1 H1 C1 cl1 fp1 hx => dts_nil) (fun s1 H1 C1 cl1 fp1 hx => (de_callD ((ok_is_body T).up (by omega)) hr hgd (by rfl) T.g_is_body T.F_is_body.kp (b_is_body_3 T) hx (da_cons (de_var 1) (da_cons (de_cb call_len cd_lenA (by rfl) T.z_len (by decide +kernel) (da_cons (de_var 0) da_nil)) (da_cons (de_globD (by rfl) T.k_MOST_DEEP) da_nil))))))) da_nil))))
    (dss_one (ds_ret de_bl)) dss_nil)
    (dss_one (ds_ret (de_cmp op_le od_cmpI (de_callD ((ok_items_in_all T).up (by omega)) hr hgd (by rfl) T.g_items_in_all T.F_items_in_all.kp (b_items_in_all_1 T) hx (da_cons (de_var 0) da_nil)) (de_globD (by rfl) T.k_MOST_ITEMS))))))
theorem ok_check_code {P : Program} {w : World} {K : PySem.W.Frag} {mg : Str → Option Value} {base : Heap} {fld : Str → Str} (T : Txt K w mg) : DFn P w K mg base fld 18 T.f_check_code T.fd_check_code ["value"] m_check_code :=
  DFn.of (k := 17) T.F_check_code sc_check_code fun cdv A outer s g0 H E hr hgd hx tk po =>
    (dss_one (ds_if (dt_not (dt_val (de_callD ((ok_is_code_form T).up (by omega)) hr hgd (by rfl) T.g_is_code_form T.F_is_code_form.kp (b_is_code_form_1 T) hx (da_cons (de_var 0) da_nil))))
    (dss_one ds_never) dss_nil))
theorem ok_check_f {P : Program} {w : World} {K : PySem.W.Frag} {mg : Str → Option Value} {base : Heap} {fld : Str → Str} (T : Txt K w mg) : DFn P w K mg base fld 3 T.f_check_f T.fd_check_f ["code", "value"] m_check_f :=
  DFn.of (k := 2) T.F_check_f sc_check_f fun cdv A outer s g0 H E hr hgd hx tk po =>
    (dss_one (ds_if (dt_not (dt_val (de_callD ((ok_is_number T).up (by omega)) hr hgd (by rfl) T.g_is_number T.F_is_number.kp (b_is_number_3 T) hx (da_cons (de_var 1) (da_cons (de_int (j := 0)) (da_cons (de_op op_sub od_sub (de_cb call_len cd_lenA (by rfl) T.z_len (by decide +kernel) (da_cons (de_var 0) da_nil)) (de_int (j := 0))) da_nil))))))
    (dss_one ds_never) dss_nil))
theorem ok_check_place {P : Program} {w : World} {K : PySem.W.Frag} {mg : Str → Option Value} {base : Heap} {fld : Str → Str} (T : Txt K w mg) : DFn P w K mg base fld 14 T.f_check_place T.fd_check_place ["code", "function", "value"] m_check_place :=
  DFn.of (k := 13) T.F_check_place sc_check_place fun cdv A outer s g0 H E hr hgd hx tk po =>
    (dss_one (ds_if (dt_not (dt_val (de_callD ((ok_is_number T).up (by omega)) hr hgd (by rfl) T.g_is_number T.F_is_number.kp (b_is_number_3 T) hx (da_cons (de_var 2) (da_cons (de_int (j := 0)) (da_cons (de_op op_sub od_sub (de_callD ((ok_size_of T).up (by omega)) hr hgd (by rfl) T.g_size_of T.F_size_of.kp (b_size_of_1 T) hx (da_cons (de_ixU (hu1 hr) (de_var 0) (de_var 1)) da_nil)) (de_int (j := 0))) da_nil))))))
    (dss_one ds_never) dss_nil))
theorem okf_net_of_item {P : Program} {w : World} {K : PySem.W.Frag} {mg : Str → Option Value} {base : Heap} {fld : Str → Str} (T : Txt K w mg) (n : Nat) (r : G_21) (h_net_of_item : DFn P w K mg base fld (2 + n) T.f_net_of_item T.fd_net_of_item ["item", "nets"] r.net_of_item) (h_net_of_body : DFn P w K mg base fld (2 + n) T.f_net_of_body T.fd_net_of_body ["body", "nets"] r.net_of_body) : DFn P w K mg base fld (2 + n + 1) T.f_net_of_item T.fd_net_of_item ["item", "nets"] (mf_net_of_item r) :=
  DFn.of (k := 2 + n) T.F_net_of_item sc_net_of_item fun cdv A outer s g0 H E hr hgd hx tk po =>
    (dss_cons (ds_set (i := 2) sc_net_of_item.nd (de_ixU (hu1 hr) (de_var 0) (de_int (j := 0))))
    (dss_cons (ds_if (dt_cmp (op_eqA (hu64 hr)) od_eq (de_var 2) (de_globD (by rfl) T.k_WHILE))
    (dss_one (ds_ret (de_fz (do_lst (da_cons (de_un un_neg ud_neg (de_int (j := 0))) da_nil))))) dss_nil)
    (dss_cons (ds_if (dt_cmp (op_eqA (hu64 hr)) od_eq (de_var 2) (de_globD (by rfl) T.k_CALL))
    (dss_one (ds_ret (de_if (dt_cmpV op_isN ov_isN (de_ixU (hu1 hr) (de_var 1) (de_ixU (hu1 hr) (de_var 0) (de_int (j := 0)))) de_non) (de_fz (do_lst da_nil)) (de_fz (do_lst (da_cons (de_ixU (hu1 hr) (de_var 1) (de_ixU (hu1 hr) (de_var 0) (de_int (j := 0)))) da_nil)))))) dss_nil)
    (dss_cons (ds_if (dt_cmp (op_eqA (hu64 hr)) od_eq (de_var 2) (de_globD (by rfl) T.k_IF))
    (dss_cons (ds_set (i := 3) sc_net_of_item.nd (de_fz (do_lst (da_star (de_callD (h_net_of_body.up (by omega)) hr hgd (by rfl) T.g_net_of_body T.F_net_of_body.kp (b_net_of_body_2 T) hx (da_cons (de_ixU (hu1 hr) (de_var 0) (de_int (j := 0))) (da_cons (de_var 1) da_nil))) (da_star (de_callD (h_net_of_body.up (by omega)) hr hgd (by rfl) T.g_net_of_body T.F_net_of_body.kp (b_net_of_body_2 T) hx (da_cons (de_ixU (hu1 hr) (de_var 0) (de_int (j := 0))) (da_cons (de_var 1) da_nil))) da_nil)))))
    (dss_one (ds_ret (de_fz (do_lcX rfl sc_net_of_item.nd (own := [("net", 4)]) (di_seq (de_slice (de_var 3) dp_none (dp_some (de_int (j := 0))))) (blkOk_of (by kernel_rfl)) (by decide) (fun s1 H1 C1 cl1 fp1 hx => (dg_name sc_net_of_item.nd)) (fun s1 H1 C1 cl1 fp1 hx => dts_nil) (fun s1 H1 C1 cl1 fp1 hx => (de_op op_sub od_sub (de_var 4) (de_int (j := 0))))))))) dss_nil)
    (dss_one (ds_ret (de_fz (do_lst (da_cons (de_op op_sub od_sub (de_callD ((ok_left_by T).up (by omega)) hr hgd (by rfl) T.g_left_by T.F_left_by.kp (b_left_by_1 T) hx (da_cons (de_var 0) da_nil)) (de_callD ((ok_taken_by T).up (by omega)) hr hgd (by rfl) T.g_taken_by T.F_taken_by.kp (b_taken_by_1 T) hx (da_cons (de_var 0) da_nil))) da_nil)))))))))
theorem okf_net_of_body {P : Program} {w : World} {K : PySem.W.Frag} {mg : Str → Option Value} {base : Heap} {fld : Str → Str} (T : Txt K w mg) (n : Nat) (r : G_21) (h_net_of_item : DFn P w K mg base fld (2 + n) T.f_net_of_item T.fd_net_of_item ["item", "nets"] r.net_of_item) (h_net_of_body : DFn P w K mg base fld (2 + n) T.f_net_of_body T.fd_net_of_body ["body", "nets"] r.net_of_body) : DFn P w K mg base fld (2 + n + 1) T.f_net_of_body T.fd_net_of_body ["body", "nets"] (mf_net_of_body r) :=
  DFn.of (k := 2 + n) T.F_net_of_body sc_net_of_body fun cdv A outer s g0 H E hr hgd hx tk po =>
    (dss_cons (ds_set (i := 2) sc_net_of_body.nd (de_int (j := 0)))
    (dss_cons (ds_forU po rfl (de_var 0) (dg_name sc_net_of_body.nd)
    (dss_cons (ds_set (i := 4) sc_net_of_body.nd (de_callD (h_net_of_item.up (by omega)) hr hgd (by rfl) T.g_net_of_item T.F_net_of_item.kp (b_net_of_item_2 T) hx (da_cons (de_var 3) (da_cons (de_var 1) da_nil))))
    (dss_cons (ds_if (dt_cmp (op_eqA (hu64 hr)) od_eq (de_var 4) (de_fz (do_lst da_nil)))
    (dss_one (ds_ret (de_fz (do_lst da_nil)))) dss_nil)
    (dss_one (ds_set (i := 2) sc_net_of_body.nd (de_op op_addA od_add (de_var 2) (de_ixU (hu1 hr) (de_var 4) (de_int (j := 0)))))))))
    (dss_one (ds_ret (de_fz (do_lst (da_cons (de_var 2) da_nil)))))))
theorem okg_21 {P : Program} {w : World} {K : PySem.W.Frag} {mg : Str → Option Value} {base : Heap} {fld : Str → Str} (T : Txt K w mg) : ∀ n : Nat, DFn P w K mg base fld (2 + n) T.f_net_of_item T.fd_net_of_item ["item", "nets"] (g_21 n).net_of_item ∧ DFn P w K mg base fld (2 + n) T.f_net_of_body T.fd_net_of_body ["body", "nets"] (g_21 n).net_of_body
  | 0 => ⟨DFn.none, DFn.none⟩
  | n + 1 => by
    have ih := okg_21 (P := P) (base := base) (fld := fld) T n
    exact ⟨okf_net_of_item T n _ ih.1 ih.2, okf_net_of_body T n _ ih.1 ih.2⟩
theorem ok_net_of_item {P : Program} {w : World} {K : PySem.W.Frag} {mg : Str → Option Value} {base : Heap} {fld : Str → Str} (T : Txt K w mg) : DFn P w K mg base fld 14 T.f_net_of_item T.fd_net_of_item ["item", "nets"] m_net_of_item := (okg_21 (P := P) (base := base) (fld := fld) T 12).1
theorem ok_net_of_body {P : Program} {w : World} {K : PySem.W.Frag} {mg : Str → Option Value} {base : Heap} {fld : Str → Str} (T : Txt K w mg) : DFn P w K mg base fld 14 T.f_net_of_body T.fd_net_of_body ["body", "nets"] m_net_of_body := (okg_21 (P := P) (base := base) (fld := fld) T 12).2
theorem ok_nets_of {P : Program} {w : World} {K : PySem.W.Frag} {mg : Str → Option Value} {base : Heap} {fld : Str → Str} (T : Txt K w mg) : DFn P w K mg base fld 15 T.f_nets_of T.fd_nets_of ["code"] m_nets_of :=
  DFn.of (k := 14) T.F_nets_of sc_nets_of fun cdv A outer s g0 H E hr hgd hx tk po =>
    (dss_cons (ds_par (i := 1) (j := 2) rfl sc_nets_of.nd rfl rfl (by decide) rfl rfl (da_cons (de_ct call_tuple_of cd_tuple (by rfl) T.z_tuple (by decide +kernel) (da_cons (de_fz (do_lcX rfl sc_nets_of.nd (own := [("_", 6)]) (di_seq (de_var 0)) (blkOk_of (by kernel_rfl)) (by decide) (fun s1 H1 C1 cl1 fp1 hx => (dg_name sc_nets_of.nd)) (fun s1 H1 C1 cl1 fp1 hx => dts_nil) (fun s1 H1 C1 cl1 fp1 hx => de_non))) da_nil)) (da_cons (de_tup da_nil) da_nil)) rfl)
    (dss_cons (ds_while fuel_nets_of po (dt_cmp (op_neA (hu64 hr)) od_ne (de_var 1) (de_var 2))
    (dss_cons (ds_set (i := 2) sc_nets_of.nd (de_var 1))
    (dss_cons (ds_own (i := 3) sc_nets_of.nd (do_lst da_nil))
    (dss_cons (ds_for po rfl (di_zip (by rfl) T.z_zip (de_var 0) (de_var 2)) (dg_tup rfl (dgs_cons (dg_name sc_nets_of.nd) (dgs_cons (dg_name sc_nets_of.nd) dgs_nil)))
    (dss_one (ds_append (i := 3) (de_if (dt_cmpV op_notN ov_notN (de_var 5) de_non) (de_var 5) (de_ix (de_fz (do_lst (da_star (de_callD ((ok_net_of_body T).up (by omega)) hr hgd (by rfl) T.g_net_of_body T.F_net_of_body.kp (b_net_of_body_2 T) hx (da_cons (de_var 4) (da_cons (de_var 2) da_nil))) (da_cons de_non da_nil)))) (de_int (j := 0)))))))
    (dss_one (ds_frz 3 (ds_set (i := 1) sc_nets_of.nd (de_ct call_tuple_of cd_tuple (by rfl) T.z_tuple (by decide +kernel) (da_cons (de_var 3) da_nil)))))))))
    (dss_one (ds_ret (de_var 1)))))
theorem ok_is_unlike {P : Program} {w : World} {K : PySem.W.Frag} {mg : Str → Option Value} {base : Heap} {fld : Str → Str} (T : Txt K w mg) : DFn P w K mg base fld 15 T.f_is_unlike T.fd_is_unlike ["item", "nets"] m_is_unlike :=
  DFn.of (k := 14) T.F_is_unlike sc_is_unlike fun cdv A outer s g0 H E hr hgd hx tk po =>
    (dss_cons (ds_if (dt_cmp (op_eqA (hu64 hr)) od_eq (de_ixU (hu1 hr) (de_var 0) (de_int (j := 0))) (de_globD (by rfl) T.k_IF))
    (dss_cons (ds_par (i := 2) (j := 3) rfl sc_is_unlike.nd rfl rfl (by decide) rfl rfl (da_cons (de_callD ((ok_net_of_body T).up (by omega)) hr hgd (by rfl) T.g_net_of_body T.F_net_of_body.kp (b_net_of_body_2 T) hx (da_cons (de_ixU (hu1 hr) (de_var 0) (de_int (j := 0))) (da_cons (de_var 1) da_nil))) (da_cons (de_callD ((ok_net_of_body T).up (by omega)) hr hgd (by rfl) T.g_net_of_body T.F_net_of_body.kp (b_net_of_body_2 T) hx (da_cons (de_ixU (hu1 hr) (de_var 0) (de_int (j := 0))) (da_cons (de_var 1) da_nil))) da_nil)) rfl)
    (dss_one (ds_ret (de_and (de_cmp (op_neA (hu64 hr)) od_ne (de_var 2) (de_fz (do_lst da_nil))) (de_and (de_cmp (op_neA (hu64 hr)) od_ne (de_var 3) (de_fz (do_lst da_nil))) (de_one (de_cmp (op_neA (hu64 hr)) od_ne (de_var 2) (de_var 3)))))))) dss_nil)
    (dss_one (ds_ret (de_and (de_cmp (op_eqA (hu64 hr)) od_eq (de_ixU (hu1 hr) (de_var 0) (de_int (j := 0))) (de_globD (by rfl) T.k_WHILE)) (de_one (de_cmp (op_notInA (hu65 hr)) od_in (de_callD ((ok_net_of_body T).up (by omega)) hr hgd (by rfl) T.g_net_of_body T.F_net_of_body.kp (b_net_of_body_2 T) hx (da_cons (de_ixU (hu1 hr) (de_var 0) (de_int (j := 0))) (da_cons (de_var 1) da_nil))) (de_tup (da_cons (de_fz (do_lst da_nil)) (da_cons (de_fz (do_lst (da_cons (de_globD (by rfl) T.k_ROUND_NET) da_nil))) da_nil)))))))))
theorem ok_unlike_places {P : Program} {w : World} {K : PySem.W.Frag} {mg : Str → Option Value} {base : Heap} {fld : Str → Str} (T : Txt K w mg) : DFn P w K mg base fld 16 T.f_unlike_places T.fd_unlike_places ["code", "nets"] m_unlike_places :=
  DFn.of (k := 15) T.F_unlike_places sc_unlike_places fun cdv A outer s g0 H E hr hgd hx tk po =>
    (dss_cons (ds_own (i := 2) sc_unlike_places.nd (do_lst da_nil))
    (dss_cons (ds_forEU po rfl (by rfl) T.z_enumerate (de_var 0) (dg_name sc_unlike_places.nd) (dg_name sc_unlike_places.nd)
    (dss_one (ds_forEU po rfl (by rfl) T.z_enumerate (de_callD ((ok_places_of T).up (by omega)) hr hgd (by rfl) T.g_places_of T.F_places_of.kp (b_places_of_1 T) hx (da_cons (de_var 4) da_nil)) (dg_name sc_unlike_places.nd) (dg_name sc_unlike_places.nd)
    (dss_one (ds_if (dt_val (de_callD ((ok_is_unlike T).up (by omega)) hr hgd (by rfl) T.g_is_unlike T.F_is_unlike.kp (b_is_unlike_2 T) hx (da_cons (de_attr (de_var 6) (allC_cons ⟨_, _, T.X_Place, by decide⟩ allC_nil)) (da_cons (de_var 1) da_nil))))
    (dss_one (ds_append (i := 2) (de_tup (da_cons (de_var 3) (da_cons (de_var 5) da_nil))))) dss_nil)))))
    (dss_one (ds_frz 2 (ds_ret (de_var 2))))))
theorem okf_heights_in {P : Program} {w : World} {K : PySem.W.Frag} {mg : Str → Option Value} {base : Heap} {fld : Str → Str} (T : Txt K w mg) (n : Nat) (r : G_25) (h_heights_in : DFn P w K mg base fld (14 + n) T.f_heights_in T.fd_heights_in ["body", "nets", "place", "height"] r.heights_in) : DFn P w K mg base fld (14 + n + 1) T.f_heights_in T.fd_heights_in ["body", "nets", "place", "height"] (mf_heights_in r) :=
  DFn.of (k := 14 + n) T.F_heights_in sc_heights_in fun cdv A outer s g0 H E hr hgd hx tk po =>
    (dss_cons (ds_own (i := 4) sc_heights_in.nd (do_lst da_nil))
    (dss_cons (ds_forU po rfl (de_var 0) (dg_name sc_heights_in.nd)
    (dss_cons (ds_append (i := 4) (de_tup (da_cons (de_var 2) (da_cons (de_var 3) da_nil))))
    (dss_cons (ds_if (dt_cmp (op_inA (hu65 hr)) od_in (de_ixU (hu1 hr) (de_var 5) (de_int (j := 0))) (de_tup (da_cons (de_globD (by rfl) T.k_IF) (da_cons (de_globD (by rfl) T.k_WHILE) da_nil))))
    (dss_cons (ds_set (i := 6) sc_heights_in.nd (de_op op_addA od_add (de_var 2) (de_int (j := 0))))
    (dss_one (ds_forU po rfl (de_slice (de_var 5) (dp_some (de_int (j := 0))) dp_none) (dg_name sc_heights_in.nd)
    (dss_cons (ds_extend (i := 4) (de_callD (h_heights_in.up (by omega)) hr hgd (by rfl) T.g_heights_in T.F_heights_in.kp (b_heights_in_4 T) hx (da_cons (de_var 7) (da_cons (de_var 1) (da_cons (de_var 6) (da_cons (de_op op_sub od_sub (de_var 3) (de_int (j := 0))) da_nil))))))
    (dss_one (ds_set (i := 6) sc_heights_in.nd (de_op op_addA od_add (de_var 6) (de_callD ((ok_size_of T).up (by omega)) hr hgd (by rfl) T.g_size_of T.F_size_of.kp (b_size_of_1 T) hx (da_cons (de_var 7) da_nil))))))))) dss_nil)
    (dss_cons (ds_set (i := 8) sc_heights_in.nd (de_callD ((ok_net_of_item T).up (by omega)) hr hgd (by rfl) T.g_net_of_item T.F_net_of_item.kp (b_net_of_item_2 T) hx (da_cons (de_var 5) (da_cons (de_var 1) da_nil))))
    (dss_cons (ds_if (dt_cmp (op_eqA (hu64 hr)) od_eq (de_var 8) (de_fz (do_lst da_nil)))
    (dss_one (ds_frz 4 (ds_ret (de_var 4)))) dss_nil)
    (dss_cons (ds_set (i := 3) sc_heights_in.nd (de_op op_addA od_add (de_var 3) (de_ixU (hu1 hr) (de_var 8) (de_int (j := 0)))))
    (dss_one (ds_set (i := 2) sc_heights_in.nd (de_op op_addA od_add (de_var 2) (de_callD ((ok_size_of T).up (by omega)) hr hgd (by rfl) T.g_size_of T.F_size_of.kp (b_size_of_1 T) hx (da_cons (de_tup (da_cons (de_var 5) da_nil)) da_nil)))))))))))
    (dss_one (ds_frz 4 (ds_ret (de_var 4))))))
theorem okg_25 {P : Program} {w : World} {K : PySem.W.Frag} {mg : Str → Option Value} {base : Heap} {fld : Str → Str} (T : Txt K w mg) : ∀ n : Nat, DFn P w K mg base fld (14 + n) T.f_heights_in T.fd_heights_in ["body", "nets", "place", "height"] (g_25 n).heights_in
  | 0 => DFn.none
  | n + 1 => by
    have ih := okg_25 (P := P) (base := base) (fld := fld) T n
    exact okf_heights_in T n _ ih
theorem ok_heights_in {P : Program} {w : World} {K : PySem.W.Frag} {mg : Str → Option Value} {base : Heap} {fld : Str → Str} (T : Txt K w mg) : DFn P w K mg base fld 26 T.f_heights_in T.fd_heights_in ["body", "nets", "place", "height"] m_heights_in := (okg_25 (P := P) (base := base) (fld := fld) T 12)
theorem ok_Effects_deeper {P : Program} {w : World} {K : PySem.W.Frag} {mg : Str → Option Value} {base : Heap} {fld : Str → Str} (T : Txt K w mg) : DFn P w K mg base fld 1 T.f_Effects_deeper T.fd_Effects_deeper ["self", "depths"] m_Effects_deeper :=
  DFn.of (k := 0) T.F_Effects_deeper sc_Effects_deeper fun cdv A outer s g0 H E hr hgd hx tk po =>
    (dss_cons (ds_set (i := 2) sc_Effects_deeper.nd (de_newBox (do_list (by rfl) T.z_list (by decide +kernel) (da_cons (de_var 1) da_nil))))
    (dss_cons (ds_forU po rfl (de_attr (de_var 0) (allC_cons ⟨_, _, T.X_Effects, by decide⟩ allC_nil)) (dg_tup rfl (dgs_cons (dg_name sc_Effects_deeper.nd) (dgs_cons (dg_name sc_Effects_deeper.nd) (dgs_cons (dg_name sc_Effects_deeper.nd) (dgs_cons (dg_name sc_Effects_deeper.nd) dgs_nil)))))
    (dss_one (ds_asg (de_cb (call_max2 rfl) cd_max2 (by rfl) T.z_max (by decide +kernel) (da_cons (de_ixU (hu1 hr) (de_var 2) (de_var 3)) (da_cons (de_op op_sub od_sub (de_ixU (hu1 hr) (de_var 1) (de_var 5)) (de_var 6)) da_nil))) (dg_sub (hu1 hr) (de_var 2) (de_var 3)))))
    (dss_one (ds_ret (de_var 2)))))
theorem ok_Effects_find_depths {P : Program} {w : World} {K : PySem.W.Frag} {mg : Str → Option Value} {base : Heap} {fld : Str → Str} (T : Txt K w mg) : DFn P w K mg base fld 15 T.f_Effects_find_depths T.fd_Effects_find_depths ["self"] m_Effects_find_depths :=
  DFn.of (k := 14) T.F_Effects_find_depths sc_Effects_find_depths fun cdv A outer s g0 H E hr hgd hx tk po =>
    (dss_cons (ds_set (i := 1) sc_Effects_find_depths.nd (de_newBox (do_lst da_nil)))
    (dss_cons (ds_forEU po rfl (by rfl) T.z_enumerate (de_attr (de_var 0) (allC_cons ⟨_, _, T.X_Effects, by decide⟩ allC_nil)) (dg_name sc_Effects_find_depths.nd) (dg_name sc_Effects_find_depths.nd)
    (dss_cons (ds_par (i := 4) (j := 5) rfl sc_Effects_find_depths.nd rfl rfl (by decide) rfl rfl (da_cons (de_callD ((ok_places_of T).up (by omega)) hr hgd (by rfl) T.g_places_of T.F_places_of.kp (b_places_of_1 T) hx (da_cons (de_var 3) da_nil)) (da_cons (de_int (j := 0)) da_nil)) rfl)
    (dss_cons (ds_lock (md := (eIxU (eAttr ["Effects"] "heights" (eVar 0)) (eVar 2))) (ds_for po rfl (di_items (de_ixU (hu1 hr) (de_attr (de_var 0) (allC_cons ⟨_, _, T.X_Effects, by decide⟩ allC_nil)) (de_var 2))) (dg_tup rfl (dgs_cons (dg_name sc_Effects_find_depths.nd) (dgs_cons (dg_name sc_Effects_find_depths.nd) dgs_nil)))
    (dss_cons (ds_set (i := 8) sc_Effects_find_depths.nd (de_attr (de_ixU (hu1 hr) (de_var 4) (de_var 6)) (allC_cons ⟨_, _, T.X_Place, by decide⟩ allC_nil)))
    (dss_cons (ds_set (i := 5) sc_Effects_find_depths.nd (de_cb (call_max2 rfl) cd_max2 (by rfl) T.z_max (by decide +kernel) (da_cons (de_var 5) (da_cons (de_op op_sub od_sub (de_callD ((ok_taken_by T).up (by omega)) hr hgd (by rfl) T.g_taken_by T.F_taken_by.kp (b_taken_by_1 T) hx (da_cons (de_var 8) da_nil)) (de_var 7)) da_nil))))
    (dss_one (ds_if (dt_cmp (op_eqA (hu64 hr)) od_eq (de_ixU (hu1 hr) (de_var 8) (de_int (j := 0))) (de_globD (by rfl) T.k_CALL))
    (dss_one (ds_drop (de_lapp (de_attr (de_var 0) (allC_cons ⟨_, _, T.X_Effects, by decide⟩ allC_nil)) (de_tup (da_cons (de_var 2) (da_cons (de_var 6) (da_cons (de_ixU (hu1 hr) (de_var 8) (de_int (j := 0))) (da_cons (de_var 7) da_nil)))))))) dss_nil))))))
    (dss_one (ds_drop (de_lapp (de_var 1) (de_var 5)))))))
    (dss_cons (ds_forU po rfl (de_attr (de_var 0) (allC_cons ⟨_, _, T.X_Effects, by decide⟩ allC_nil)) (dg_name sc_Effects_find_depths.nd)
    (dss_one (ds_set (i := 1) sc_Effects_find_depths.nd (de_meth (tbl := [("Effects", m_Effects_deeper)]) (n := 2) (np := 2) (idx := [0, 1]) (dd := []) (de_var 0) (held_cons ⟨_, _, _, _, _, T.X_Effects, T.M_Effects_deeper, (ok_Effects_deeper T).up (by omega), rfl, (b_Effects_deeper_2 T)⟩ held_nil) hr hgd hx (da_cons (de_var 1) da_nil)))))
    (dss_one (ds_if (dt_cmpS (op_eqA (hu64 hr)) os_eq (de_var 1) (de_meth (tbl := [("Effects", m_Effects_deeper)]) (n := 2) (np := 2) (idx := [0, 1]) (dd := []) (de_var 0) (held_cons ⟨_, _, _, _, _, T.X_Effects, T.M_Effects_deeper, (ok_Effects_deeper T).up (by omega), rfl, (b_Effects_deeper_2 T)⟩ held_nil) hr hgd hx (da_cons (de_var 1) da_nil)))
    (dss_one (ds_attr (de_var 0) (de_ct call_tuple_of cd_tupA (by rfl) T.z_tuple (by decide +kernel) (da_cons (de_var 1) da_nil)) (allC_cons ⟨_, _, T.X_Effects, by decide⟩ allC_nil))) dss_nil)))))
theorem ok_Effects___init__ {P : Program} {w : World} {K : PySem.W.Frag} {mg : Str → Option Value} {base : Heap} {fld : Str → Str} (T : Txt K w mg) : DFn P w K mg base fld 27 T.f_Effects___init__ T.fd_Effects___init__ ["self", "code"] m_Effects___init__ :=
  DFn.of (k := 26) T.F_Effects___init__ sc_Effects___init__ fun cdv A outer s g0 H E hr hgd hx tk po =>
    (dss_cons (ds_attr (de_var 0) (de_var 1) (allC_cons ⟨_, _, T.X_Effects, by decide⟩ allC_nil))
    (dss_cons (ds_attr (de_var 0) (de_callD ((ok_nets_of T).up (by omega)) hr hgd (by rfl) T.g_nets_of T.F_nets_of.kp (b_nets_of_1 T) hx (da_cons (de_var 1) da_nil)) (allC_cons ⟨_, _, T.X_Effects, by decide⟩ allC_nil))
    (dss_cons (ds_attr (de_var 0) (de_ix (de_fz (do_lst (da_star (de_callD ((ok_unlike_places T).up (by omega)) hr hgd (by rfl) T.g_unlike_places T.F_unlike_places.kp (b_unlike_places_2 T) hx (da_cons (de_var 1) (da_cons (de_attr (de_var 0) (allC_cons ⟨_, _, T.X_Effects, by decide⟩ allC_nil)) da_nil))) (da_cons de_non da_nil)))) (de_int (j := 0))) (allC_cons ⟨_, _, T.X_Effects, by decide⟩ allC_nil))
    (dss_cons (ds_attr (de_var 0) (de_newBox (do_lst da_nil)) (allC_cons ⟨_, _, T.X_Effects, by decide⟩ allC_nil))
    (dss_cons (ds_attr (de_var 0) (de_newBox (do_lst da_nil)) (allC_cons ⟨_, _, T.X_Effects, by decide⟩ allC_nil))
    (dss_cons (ds_attr (de_var 0) de_non (allC_cons ⟨_, _, T.X_Effects, by decide⟩ allC_nil))
    (dss_one (ds_if (dt_cmpV op_isN ov_isN (de_attr (de_var 0) (allC_cons ⟨_, _, T.X_Effects, by decide⟩ allC_nil)) de_non)
    (dss_cons (ds_attr (de_var 0) (de_newBox (do_lcX rfl sc_Effects___init__.nd (own := [("body", 2)]) (di_seq (de_var 1)) (blkOk_of (by kernel_rfl)) (by decide) (fun s1 H1 C1 cl1 fp1 hx => (dg_name sc_Effects___init__.nd)) (fun s1 H1 C1 cl1 fp1 hx => dts_nil) (fun s1 H1 C1 cl1 fp1 hx => (de_ct (call_dictP rfl) cd_dictP (by rfl) T.z_dict (by decide +kernel) (da_cons (de_callD ((ok_heights_in T).up (by omega)) hr hgd (by rfl) T.g_heights_in T.F_heights_in.kp (b_heights_in_4 T) hx (da_cons (de_var 2) (da_cons (de_attr (de_var 0) (allC_cons ⟨_, _, T.X_Effects, by decide⟩ allC_nil)) (da_cons (de_int (j := 0)) (da_cons (de_int (j := 0)) da_nil))))) da_nil))))) (allC_cons ⟨_, _, T.X_Effects, by decide⟩ allC_nil))
    (dss_one (ds_drop (de_meth0 (tbl := [("Effects", m_Effects_find_depths)]) (n := 1) (np := 1) (idx := [0]) (dd := []) (de_var 0) (held_cons ⟨_, _, _, _, _, T.X_Effects, T.M_Effects_find_depths, (ok_Effects_find_depths T).up (by omega), rfl, (b_Effects_find_depths_1 T)⟩ held_nil) hr hgd hx)))) dss_nil))))))))
theorem ok_Effects_told {P : Program} {w : World} {K : PySem.W.Frag} {mg : Str → Option Value} {base : Heap} {fld : Str → Str} (T : Txt K w mg) : DFn P w K mg base fld 1 T.f_Effects_told T.fd_Effects_told ["self"] m_Effects_told :=
  DFn.of (k := 0) T.F_Effects_told sc_Effects_told fun cdv A outer s g0 H E hr hgd hx tk po =>
    (dss_one (ds_ret (de_ct call_tuple_of cd_tuple (by rfl) T.z_tuple (by decide +kernel) (da_cons (de_fz (do_lcX rfl sc_Effects_told.nd (own := [("deep", 1), ("net", 2)]) (di_zip (by rfl) T.z_zip (de_attr (de_var 0) (allC_cons ⟨_, _, T.X_Effects, by decide⟩ allC_nil)) (de_attr (de_var 0) (allC_cons ⟨_, _, T.X_Effects, by decide⟩ allC_nil))) (blkOk_of (by kernel_rfl)) (by decide) (fun s1 H1 C1 cl1 fp1 hx => (dg_tup rfl (dgs_cons (dg_name sc_Effects_told.nd) (dgs_cons (dg_name sc_Effects_told.nd) dgs_nil)))) (fun s1 H1 C1 cl1 fp1 hx => dts_nil) (fun s1 H1 C1 cl1 fp1 hx => (de_tup (da_cons (de_var 1) (da_cons (de_if (dt_cmpV op_isN ov_isN (de_var 2) de_non) de_non (de_op op_addA od_add (de_var 1) (de_var 2))) da_nil)))))) da_nil))))
theorem ok_Effects_verdict {P : Program} {w : World} {K : PySem.W.Frag} {mg : Str → Option Value} {base : Heap} {fld : Str → Str} (T : Txt K w mg) : DFn P w K mg base fld 2 T.f_Effects_verdict T.fd_Effects_verdict ["self"] m_Effects_verdict :=
  DFn.of (k := 1) T.F_Effects_verdict sc_Effects_verdict fun cdv A outer s g0 H E hr hgd hx tk po =>
    (dss_cons (ds_if (dt_cmpV op_notN ov_notN (de_attr (de_var 0) (allC_cons ⟨_, _, T.X_Effects, by decide⟩ allC_nil)) de_non)
    (dss_one (ds_ret (de_tup (da_cons (de_globD (by rfl) T.k_UNLIKE) (da_cons (de_ixU (hu1 hr) (de_attr (de_var 0) (allC_cons ⟨_, _, T.X_Effects, by decide⟩ allC_nil)) (de_int (j := 0))) (da_cons (de_ixU (hu1 hr) (de_attr (de_var 0) (allC_cons ⟨_, _, T.X_Effects, by decide⟩ allC_nil)) (de_int (j := 0))) da_nil)))))) dss_nil)
    (dss_one (ds_ret (de_if (dt_cmpV op_isN ov_isN (de_attr (de_var 0) (allC_cons ⟨_, _, T.X_Effects, by decide⟩ allC_nil)) de_non) (de_tup (da_cons (de_globD (by rfl) T.k_BOTTOMLESS) da_nil)) (de_tup (da_cons (de_globD (by rfl) T.k_EVEN) (da_cons (de_meth0 (tbl := [("Effects", m_Effects_told)]) (n := 1) (np := 1) (idx := [0]) (dd := []) (de_var 0) (held_cons ⟨_, _, _, _, _, T.X_Effects, T.M_Effects_told, (ok_Effects_told T).up (by omega), rfl, (b_Effects_told_1 T)⟩ held_nil) hr hgd hx) da_nil)))))))
theorem ok_check_even {P : Program} {w : World} {K : PySem.W.Frag} {mg : Str → Option Value} {base : Heap} {fld : Str → Str} (T : Txt K w mg) : DFn P w K mg base fld 29 T.f_check_even T.fd_check_even ["code"] m_check_even :=
  DFn.of (k := 28) T.F_check_even sc_check_even fun cdv A outer s g0 H E hr hgd hx tk po =>
    (dss_cons (ds_set (i := 1) sc_check_even.nd (de_make (k := 27) ⟨_, _, _, _, T.X_Effects.at_, T.K_Effects, (ok_Effects___init__ T).up (by omega), rfl, (b_Effects___init___2 T)⟩ (hr.mono (by omega)) hgd (by rfl) hx (da_cons (de_var 0) da_nil)))
    (dss_cons (ds_if (dt_cmpV op_isN ov_isN (de_attr (de_var 1) (allC_cons ⟨_, _, T.X_Effects, by decide⟩ allC_nil)) de_non)
    (dss_one ds_never) dss_nil)
    (dss_one (ds_ret (de_var 1)))))
theorem ok_nets {P : Program} {w : World} {K : PySem.W.Frag} {mg : Str → Option Value} {base : Heap} {fld : Str → Str} (T : Txt K w mg) : DFn P w K mg base fld 19 T.f_nets T.fd_nets ["code"] m_nets :=
  DFn.of (k := 18) T.F_nets sc_nets fun cdv A outer s g0 H E hr hgd hx tk po =>
    (dss_cons (ds_drop (de_callD ((ok_check_code T).up (by omega)) hr hgd (by rfl) T.g_check_code T.F_check_code.kp (b_check_code_1 T) hx (da_cons (de_var 0) da_nil)))
    (dss_one (ds_ret (de_callD ((ok_nets_of T).up (by omega)) hr hgd (by rfl) T.g_nets_of T.F_nets_of.kp (b_nets_of_1 T) hx (da_cons (de_var 0) da_nil)))))
theorem ok_verdict {P : Program} {w : World} {K : PySem.W.Frag} {mg : Str → Option Value} {base : Heap} {fld : Str → Str} (T : Txt K w mg) : DFn P w K mg base fld 29 T.f_verdict T.fd_verdict ["code"] m_verdict :=
  DFn.of (k := 28) T.F_verdict sc_verdict fun cdv A outer s g0 H E hr hgd hx tk po =>
    (dss_cons (ds_drop (de_callD ((ok_check_code T).up (by omega)) hr hgd (by rfl) T.g_check_code T.F_check_code.kp (b_check_code_1 T) hx (da_cons (de_var 0) da_nil)))
    (dss_one (ds_ret (de_meth0 (tbl := [("Effects", m_Effects_verdict)]) (n := 1) (np := 1) (idx := [0]) (dd := []) (de_make (k := 27) ⟨_, _, _, _, T.X_Effects.at_, T.K_Effects, (ok_Effects___init__ T).up (by omega), rfl, (b_Effects___init___2 T)⟩ (hr.mono (by omega)) hgd (by rfl) hx (da_cons (de_var 0) da_nil)) (held_cons ⟨_, _, _, _, _, T.X_Effects, T.M_Effects_verdict, (ok_Effects_verdict T).up (by omega), rfl, (b_Effects_verdict_1 T)⟩ held_nil) hr hgd hx))))
theorem ok_Effects_ring {P : Program} {w : World} {K : PySem.W.Frag} {mg : Str → Option Value} {base : Heap} {fld : Str → Str} (T : Txt K w mg) : DFn P w K mg base fld 1 T.f_Effects_ring T.fd_Effects_ring ["self"] m_Effects_ring :=
  DFn.of (k := 0) T.F_Effects_ring sc_Effects_ring fun cdv A outer s g0 H E hr hgd hx tk po =>
    (dss_cons (ds_par (i := 1) (j := 2) rfl sc_Effects_ring.nd rfl rfl (by decide) rfl rfl (da_cons (de_newBox (do_lcX rfl sc_Effects_ring.nd (own := [("_", 4)]) (di_seq (de_attr (de_var 0) (allC_cons ⟨_, _, T.X_Effects, by decide⟩ allC_nil))) (blkOk_of (by kernel_rfl)) (by decide) (fun s1 H1 C1 cl1 fp1 hx => (dg_name sc_Effects_ring.nd)) (fun s1 H1 C1 cl1 fp1 hx => dts_nil) (fun s1 H1 C1 cl1 fp1 hx => (de_int (j := 0))))) (da_cons de_dnewK da_nil)) rfl)
    (dss_cons (ds_set (i := 3) sc_Effects_ring.nd (de_int (j := 0)))
    (dss_cons (ds_for po rfl (di_range1 (by rfl) T.z_range (de_op op_addA od_add (de_cb call_len cd_len (by rfl) T.z_len (by decide +kernel) (da_cons (de_attr (de_var 0) (allC_cons ⟨_, _, T.X_Effects, by decide⟩ allC_nil)) da_nil)) (de_int (j := 0)))) (dg_name sc_Effects_ring.nd)
    (dss_one (ds_forU po rfl (de_attr (de_var 0) (allC_cons ⟨_, _, T.X_Effects, by decide⟩ allC_nil)) (dg_name sc_Effects_ring.nd)
    (dss_cons (ds_set (i := 6) sc_Effects_ring.nd (de_op op_addA od_add (de_ixU (hu1 hr) (de_var 1) (de_ixU (hu1 hr) (de_var 5) (de_int (j := 0)))) (de_ixU (hu1 hr) (de_var 5) (de_int (j := 0)))))
    (dss_one (ds_if (dt_cmp op_lt od_cmpI (de_var 6) (de_ixU (hu1 hr) (de_var 1) (de_ixU (hu1 hr) (de_var 5) (de_int (j := 0)))))
    (dss_cons (ds_asg (de_var 6) (dg_sub (hu1 hr) (de_var 1) (de_ixU (hu1 hr) (de_var 5) (de_int (j := 0)))))
    (dss_cons (ds_asg (de_var 5) (dg_sub (hu1 hr) (de_var 2) (de_ixU (hu1 hr) (de_var 5) (de_int (j := 0)))))
    (dss_one (ds_set (i := 3) sc_Effects_ring.nd (de_ixU (hu1 hr) (de_var 5) (de_int (j := 0))))))) dss_nil))))))
    (dss_cons (ds_forU po rfl (de_attr (de_var 0) (allC_cons ⟨_, _, T.X_Effects, by decide⟩ allC_nil)) (dg_name sc_Effects_ring.nd)
    (dss_one (ds_set (i := 3) sc_Effects_ring.nd (de_ixU (hu1 hr) (de_ixU (hu1 hr) (de_var 2) (de_var 3)) (de_int (j := 0))))))
    (dss_cons (ds_par (i := 7) (j := 8) rfl sc_Effects_ring.nd rfl rfl (by decide) rfl rfl (da_cons (de_newBox (do_lst (da_cons (de_ixU (hu1 hr) (de_var 2) (de_var 3)) da_nil))) (da_cons (de_var 3) da_nil)) rfl)
    (dss_cons (ds_while fuel_Effects_ring po (dt_cmp (op_neA (hu64 hr)) od_ne (de_ixU (hu1 hr) (de_ixU (hu1 hr) (de_var 7) (de_un un_neg ud_neg (de_int (j := 0)))) (de_int (j := 0))) (de_var 8))
    (dss_one (ds_drop (de_lapp (de_var 7) (de_ixU (hu1 hr) (de_var 2) (de_ixU (hu1 hr) (de_ixU (hu1 hr) (de_var 7) (de_un un_neg ud_neg (de_int (j := 0)))) (de_int (j := 0))))))))
    (dss_one (ds_ret (de_ct call_tuple_of cd_tuple (by rfl) T.z_tuple (by decide +kernel) (da_cons (de_fz (do_lcX rfl sc_Effects_ring.nd (own := [("call", 5)]) (di_seq (de_fz (do_rev (de_var 7)))) (blkOk_of (by kernel_rfl)) (by decide) (fun s1 H1 C1 cl1 fp1 hx => (dg_name sc_Effects_ring.nd)) (fun s1 H1 C1 cl1 fp1 hx => dts_nil) (fun s1 H1 C1 cl1 fp1 hx => (de_tup (da_cons (de_ixU (hu1 hr) (de_var 5) (de_int (j := 0))) (da_cons (de_ixU (hu1 hr) (de_var 5) (de_int (j := 0))) da_nil)))))) da_nil))))))))))
theorem ok_ring {P : Program} {w : World} {K : PySem.W.Frag} {mg : Str → Option Value} {base : Heap} {fld : Str → Str} (T : Txt K w mg) : DFn P w K mg base fld 29 T.f_ring T.fd_ring ["code"] m_ring :=
  DFn.of (k := 28) T.F_ring sc_ring fun cdv A outer s g0 H E hr hgd hx tk po =>
    (dss_cons (ds_drop (de_callD ((ok_check_code T).up (by omega)) hr hgd (by rfl) T.g_check_code T.F_check_code.kp (b_check_code_1 T) hx (da_cons (de_var 0) da_nil)))
    (dss_cons (ds_set (i := 1) sc_ring.nd (de_make (k := 27) ⟨_, _, _, _, T.X_Effects.at_, T.K_Effects, (ok_Effects___init__ T).up (by omega), rfl, (b_Effects___init___2 T)⟩ (hr.mono (by omega)) hgd (by rfl) hx (da_cons (de_var 0) da_nil)))
    (dss_cons (ds_if (dt_cmpV op_notN ov_notN (de_attr (de_var 1) (allC_cons ⟨_, _, T.X_Effects, by decide⟩ allC_nil)) de_non)
    (dss_one ds_never) dss_nil)
    (dss_one (ds_ret (de_if (dt_cmpV op_isN ov_isN (de_attr (de_var 1) (allC_cons ⟨_, _, T.X_Effects, by decide⟩ allC_nil)) de_non) (de_meth0 (tbl := [("Effects", m_Effects_ring)]) (n := 1) (np := 1) (idx := [0]) (dd := []) (de_var 1) (held_cons ⟨_, _, _, _, _, T.X_Effects, T.M_Effects_ring, (ok_Effects_ring T).up (by omega), rfl, (b_Effects_ring_1 T)⟩ held_nil) hr hgd hx) de_non))))))
theorem ok_effects {P : Program} {w : World} {K : PySem.W.Frag} {mg : Str → Option Value} {base : Heap} {fld : Str → Str} (T : Txt K w mg) : DFn P w K mg base fld 30 T.f_effects T.fd_effects ["code"] m_effects :=
  DFn.of (k := 29) T.F_effects sc_effects fun cdv A outer s g0 H E hr hgd hx tk po =>
    (dss_cons (ds_drop (de_callD ((ok_check_code T).up (by omega)) hr hgd (by rfl) T.g_check_code T.F_check_code.kp (b_check_code_1 T) hx (da_cons (de_var 0) da_nil)))
    (dss_one (ds_ret (de_meth0 (tbl := [("Effects", m_Effects_told)]) (n := 1) (np := 1) (idx := [0]) (dd := []) (de_callD ((ok_check_even T).up (by omega)) hr hgd (by rfl) T.g_check_even T.F_check_even.kp (b_check_even_1 T) hx (da_cons (de_var 0) da_nil)) (held_cons ⟨_, _, _, _, _, T.X_Effects, T.M_Effects_told, (ok_Effects_told T).up (by omega), rfl, (b_Effects_told_1 T)⟩ held_nil) hr hgd hx))))
theorem ok_height_at {P : Program} {w : World} {K : PySem.W.Frag} {mg : Str → Option Value} {base : Heap} {fld : Str → Str} (T : Txt K w mg) : DFn P w K mg base fld 30 T.f_height_at T.fd_height_at ["code", "f", "place"] m_height_at :=
  DFn.of (k := 29) T.F_height_at sc_height_at fun cdv A outer s g0 H E hr hgd hx tk po =>
    (dss_cons (ds_drop (de_callD ((ok_check_code T).up (by omega)) hr hgd (by rfl) T.g_check_code T.F_check_code.kp (b_check_code_1 T) hx (da_cons (de_var 0) da_nil)))
    (dss_cons (ds_drop (de_callD ((ok_check_f T).up (by omega)) hr hgd (by rfl) T.g_check_f T.F_check_f.kp (b_check_f_2 T) hx (da_cons (de_var 0) (da_cons (de_var 1) da_nil))))
    (dss_cons (ds_drop (de_callD ((ok_check_place T).up (by omega)) hr hgd (by rfl) T.g_check_place T.F_check_place.kp (b_check_place_3 T) hx (da_cons (de_var 0) (da_cons (de_var 1) (da_cons (de_var 2) da_nil)))))
    (dss_one (ds_ret (de_dget1 (hu1 hr) (de_ixU (hu1 hr) (de_attr (de_callD ((ok_check_even T).up (by omega)) hr hgd (by rfl) T.g_check_even T.F_check_even.kp (b_check_even_1 T) hx (da_cons (de_var 0) da_nil)) (allC_cons ⟨_, _, T.X_Effects, by decide⟩ allC_nil)) (de_var 1)) (de_var 2) ⟨rfl, rfl, rfl, rfl⟩))))))
theorem ok__law_pail {P : Program} {w : World} {K : PySem.W.Frag} {mg : Str → Option Value} {base : Heap} {fld : Str → Str} (T : Txt K w mg) : DFn P w K mg base fld 1 T.f__law_pail T.fd__law_pail ["script", "turn"] m__law_pail :=
  DFn.of (k := 0) T.F__law_pail sc__law_pail fun cdv A outer s g0 H E hr hgd hx tk po =>
    (dss_cons (ds_set (i := 2) sc__law_pail.nd (de_op op_addA od_add (de_int (j := 0)) (de_op op_mulA od_mul (de_int (j := 0)) (de_var 1))))
    (dss_cons (ds_for po rfl (di_seq (de_slice (de_var 0) dp_none (dp_some (de_int (j := 0))))) (dg_name sc__law_pail.nd)
    (dss_one (ds_set (i := 2) sc__law_pail.nd (de_op op_mod od_mod (de_ct call_int1 cd_int (by rfl) T.z_int (by decide +kernel) (da_cons (de_op op_addA od_add (de_op op_addA od_add (de_op op_mulA od_mul (de_var 2) (de_int (j := 0))) (de_op op_mulA od_mul (de_op op_mod od_mod (de_ct call_int1 cd_int (by rfl) T.z_int (by decide +kernel) (da_cons (de_var 3) da_nil)) (de_int (j := 0))) (de_int (j := 0)))) (de_int (j := 0))) da_nil)) (de_int (j := 0))))))
    (dss_cons (ds_set (i := 4) sc__law_pail.nd (de_if (dt_cmp op_lt od_cmpI (de_var 1) (de_cb call_len cd_len (by rfl) T.z_len (by decide +kernel) (da_cons (de_var 0) da_nil))) (de_ct call_int1 cd_int (by rfl) T.z_int (by decide +kernel) (da_cons (de_ix (de_var 0) (de_var 1)) da_nil)) (de_int (j := 0))))
    (dss_cons (ds_set (i := 2) sc__law_pail.nd (de_op op_mod od_mod (de_ct call_int1 cd_int (by rfl) T.z_int (by decide +kernel) (da_cons (de_op op_addA od_add (de_op op_addA od_add (de_op op_mulA od_mul (de_var 2) (de_int (j := 0))) (de_op op_mulA od_mul (de_op op_mod od_mod (de_ct call_int1 cd_int (by rfl) T.z_int (by decide +kernel) (da_cons (de_var 4) da_nil)) (de_int (j := 0))) (de_int (j := 0)))) (de_int (j := 0))) da_nil)) (de_int (j := 0))))
    (dss_one (ds_ret (de_newBox (do_lst (da_cons (de_if (dt_w (dw_or (dt_cmp op_lt od_cmpI (de_var 4) (de_int (j := 0))) (dw_or1 (dt_cmp op_ge od_cmpI (de_var 4) (de_op op_pow od_pow (de_int (j := 0)) (de_int (j := 0))))))) (de_cb call_abs cd_abs (by rfl) T.z_abs (by decide +kernel) (da_cons (de_var 4) da_nil)) (de_int (j := 0))) (da_cons (de_var 2) (da_cons (de_int (j := 0)) da_nil)))))))))))
theorem ok__law_deal {P : Program} {w : World} {K : PySem.W.Frag} {mg : Str → Option Value} {base : Heap} {fld : Str → Str} (T : Txt K w mg) : DFn P w K mg base fld 1 T.f__law_deal T.fd__law_deal ["pail", "top"] m__law_deal :=
  DFn.of (k := 0) T.F__law_deal sc__law_deal fun cdv A outer s g0 H E hr hgd hx tk po =>
    (dss_cons (ds_if (dt_cmp op_gt od_cmpI (de_box (j := ⟨0, 0, 0, 0⟩) (kk := 0) (k := 0) (de_var 0)) (de_int (j := 0)))
    (dss_cons (ds_asg (de_cb call_divmod cd_divmod (by rfl) T.z_divmod (by decide +kernel) (da_cons (de_box (j := ⟨0, 0, 0, 0⟩) (kk := 0) (k := 0) (de_var 0)) (da_cons (de_var 1) da_nil))) (dg_tup rfl (dgs_cons (dg_box (k := 0) (de_var 0)) (dgs_cons (dg_name sc__law_deal.nd) dgs_nil))))
    (dss_one (ds_ret (de_var 2)))) dss_nil)
    (dss_cons (ds_asg (de_op op_addA od_add (de_box (j := ⟨0, 0, 0, 0⟩) (kk := 0) (k := 2) (de_var 0)) (de_int (j := 0))) (dg_box (k := 2) (de_var 0)))
    (dss_cons (ds_set (i := 3) sc__law_deal.nd (de_op op_mod od_mod (de_ct call_int1 cd_int (by rfl) T.z_int (by decide +kernel) (da_cons (de_op op_addA od_add (de_op op_mulA od_mul (de_box (j := ⟨0, 0, 0, 0⟩) (kk := 0) (k := 1) (de_var 0)) (de_int (j := 0))) (de_op op_mulA od_mul (de_int (j := 0)) (de_box (j := ⟨0, 0, 0, 0⟩) (kk := 0) (k := 2) (de_var 0)))) da_nil)) (de_int (j := 0))))
    (dss_cons (ds_asg (de_op op_mod od_mod (de_ct call_int1 cd_int (by rfl) T.z_int (by decide +kernel) (da_cons (de_op op_addA od_add (de_op op_mulA od_mul (de_var 3) (de_op op_addA od_add (de_op op_mod od_mod (de_ct call_int1 cd_int (by rfl) T.z_int (by decide +kernel) (da_cons (de_var 3) da_nil)) (de_int (j := 0))) (de_int (j := 0)))) (de_op op_mulA od_mul (de_int (j := 0)) (de_box (j := ⟨0, 0, 0, 0⟩) (kk := 0) (k := 2) (de_var 0)))) da_nil)) (de_int (j := 0))) (dg_box (k := 1) (de_var 0)))
    (dss_one (ds_ret (de_op op_mod od_mod (de_ct call_int1 cd_int (by rfl) T.z_int (by decide +kernel) (da_cons (de_op op_fdiv od_fdiv (de_box (j := ⟨0, 0, 0, 0⟩) (kk := 0) (k := 1) (de_var 0)) (de_int (j := 0))) da_nil)) (de_var 1))))))))
theorem ok__law_inner {P : Program} {w : World} {K : PySem.W.Frag} {mg : Str → Option Value} {base : Heap} {fld : Str → Str} (T : Txt K w mg) : DFn P w K mg base fld 1 T.f__law_inner T.fd__law_inner ["item"] m__law_inner :=
  DFn.of (k := 0) T.F__law_inner sc__law_inner fun cdv A outer s g0 H E hr hgd hx tk po =>
    (dss_one (ds_ret (de_if (dt_w (dw_and (dt_cmp (op_eqA (hu64 hr)) od_eq (de_ixU (hu1 hr) (de_var 0) (de_int (j := 0))) de_str) (dw_and1 (dt_cmp (op_eqA (hu64 hr)) od_eq (de_cb call_len cd_lenA (by rfl) T.z_len (by decide +kernel) (da_cons (de_var 0) da_nil)) (de_int (j := 0)))))) (de_slice (de_var 0) (dp_some (de_int (j := 0))) dp_none) (de_if (dt_w (dw_and (dt_cmp (op_eqA (hu64 hr)) od_eq (de_ixU (hu1 hr) (de_var 0) (de_int (j := 0))) de_str) (dw_and1 (dt_cmp (op_eqA (hu64 hr)) od_eq (de_cb call_len cd_lenA (by rfl) T.z_len (by decide +kernel) (da_cons (de_var 0) da_nil)) (de_int (j := 0)))))) (de_slice (de_var 0) (dp_some (de_int (j := 0))) dp_none) (de_tup da_nil)))))
theorem okf__law_items {P : Program} {w : World} {K : PySem.W.Frag} {mg : Str → Option Value} {base : Heap} {fld : Str → Str} (T : Txt K w mg) (n : Nat) (r : G_41) (h__law_items : DFn P w K mg base fld (1 + n) T.f__law_items T.fd__law_items ["body"] r._law_items) : DFn P w K mg base fld (1 + n + 1) T.f__law_items T.fd__law_items ["body"] (mf__law_items r) :=
  DFn.of (k := 1 + n) T.F__law_items sc__law_items fun cdv A outer s g0 H E hr hgd hx tk po =>
    (dss_cons (ds_own (i := 1) sc__law_items.nd (do_lst da_nil))
    (dss_cons (ds_forU po rfl (de_var 0) (dg_name sc__law_items.nd)
    (dss_cons (ds_append (i := 1) (de_var 2))
    (dss_one (ds_for po rfl (di_seq (de_callD ((ok__law_inner T).up (by omega)) hr hgd (by rfl) T.g__law_inner T.F__law_inner.kp (b__law_inner_1 T) hx (da_cons (de_var 2) da_nil))) (dg_name sc__law_items.nd)
    (dss_one (ds_frz 1 (ds_own (i := 1) sc__law_items.nd (do_cat (de_var 1) (de_callD (h__law_items.up (by omega)) hr hgd (by rfl) T.g__law_items T.F__law_items.kp (b__law_items_1 T) hx (da_cons (de_var 3) da_nil))))))))))
    (dss_one (ds_frz 1 (ds_ret (de_var 1))))))
theorem okg_41 {P : Program} {w : World} {K : PySem.W.Frag} {mg : Str → Option Value} {base : Heap} {fld : Str → Str} (T : Txt K w mg) : ∀ n : Nat, DFn P w K mg base fld (1 + n) T.f__law_items T.fd__law_items ["body"] (g_41 n)._law_items
  | 0 => DFn.none
  | n + 1 => by
    have ih := okg_41 (P := P) (base := base) (fld := fld) T n
    exact okf__law_items T n _ ih
theorem ok__law_items {P : Program} {w : World} {K : PySem.W.Frag} {mg : Str → Option Value} {base : Heap} {fld : Str → Str} (T : Txt K w mg) : DFn P w K mg base fld 13 T.f__law_items T.fd__law_items ["body"] m__law_items := (okg_41 (P := P) (base := base) (fld := fld) T 12)
theorem okf__law_many {P : Program} {w : World} {K : PySem.W.Frag} {mg : Str → Option Value} {base : Heap} {fld : Str → Str} (T : Txt K w mg) (n : Nat) (r : G_42) (h__law_many : DFn P w K mg base fld (1 + n) T.f__law_many T.fd__law_many ["body"] r._law_many) : DFn P w K mg base fld (1 + n + 1) T.f__law_many T.fd__law_many ["body"] (mf__law_many r) :=
  DFn.of (k := 1 + n) T.F__law_many sc__law_many fun cdv A outer s g0 H E hr hgd hx tk po =>
    (dss_one (ds_ret (de_cb (cr_sum rfl) cd_sum (by rfl) T.z_sum (by decide +kernel) (da_cons (de_fz (do_lcX rfl sc__law_many.nd (own := [("item", 1)]) (di_seq (de_var 0)) (blkOk_of (by kernel_rfl)) (by decide) (fun s1 H1 C1 cl1 fp1 hx => (dg_name sc__law_many.nd)) (fun s1 H1 C1 cl1 fp1 hx => dts_nil) (fun s1 H1 C1 cl1 fp1 hx => (de_op op_addA od_add (de_int (j := 0)) (de_cb (cr_sum rfl) cd_sum (by rfl) T.z_sum (by decide +kernel) (da_cons (de_fz (do_lcX rfl sc__law_many.nd (own := [("inner", 2)]) (di_seq (de_callD ((ok__law_inner T).up (by omega)) hr hgd (by rfl) T.g__law_inner T.F__law_inner.kp (b__law_inner_1 T) hx (da_cons (de_var 1) da_nil))) (blkOk_of (by kernel_rfl)) (by decide) (fun s1 H1 C1 cl1 fp1 hx => (dg_name sc__law_many.nd)) (fun s1 H1 C1 cl1 fp1 hx => dts_nil) (fun s1 H1 C1 cl1 fp1 hx => (de_callD (h__law_many.up (by omega)) hr hgd (by rfl) T.g__law_many T.F__law_many.kp (b__law_many_1 T) hx (da_cons (de_var 2) da_nil))))) da_nil)))))) da_nil))))
theorem okg_42 {P : Program} {w : World} {K : PySem.W.Frag} {mg : Str → Option Value} {base : Heap} {fld : Str → Str} (T : Txt K w mg) : ∀ n : Nat, DFn P w K mg base fld (1 + n) T.f__law_many T.fd__law_many ["body"] (g_42 n)._law_many
  | 0 => DFn.none
  | n + 1 => by
    have ih := okg_42 (P := P) (base := base) (fld := fld) T n
    exact okf__law_many T n _ ih
theorem ok__law_many {P : Program} {w : World} {K : PySem.W.Frag} {mg : Str → Option Value} {base : Heap} {fld : Str → Str} (T : Txt K w mg) : DFn P w K mg base fld 13 T.f__law_many T.fd__law_many ["body"] m__law_many := (okg_42 (P := P) (base := base) (fld := fld) T 12)
theorem ok__law_takes {P : Program} {w : World} {K : PySem.W.Frag} {mg : Str → Option Value} {base : Heap} {fld : Str → Str} (T : Txt K w mg) : DFn P w K mg base fld 1 T.f__law_takes T.fd__law_takes ["item"] m__law_takes :=
  DFn.of (k := 0) T.F__law_takes sc__law_takes fun cdv A outer s g0 H E hr hgd hx tk po =>
    (dss_cons (ds_par (i := 1) (j := 2) rfl sc__law_takes.nd rfl rfl (by decide) rfl rfl (da_cons (de_ixU (hu1 hr) (de_var 0) (de_int (j := 0))) (da_cons (de_if (dt_cmp op_gt od_cmpI (de_cb call_len cd_lenA (by rfl) T.z_len (by decide +kernel) (da_cons (de_var 0) da_nil)) (de_int (j := 0))) (de_ixU (hu1 hr) (de_var 0) (de_int (j := 0))) (de_int (j := 0))) da_nil)) rfl)
    (dss_cons (ds_if (dt_cmp (op_inA (hu65 hr)) od_in (de_var 1) (de_tup (da_cons de_str (da_cons de_str da_nil))))
    (dss_one (ds_ret (de_tup (da_cons (de_op op_addA od_add (de_var 2) (de_int (j := 0))) (da_cons (de_if (dt_cmp (op_eqA (hu64 hr)) od_eq (de_var 1) de_str) (de_op op_addA od_add (de_var 2) (de_int (j := 0))) (de_op op_addA od_add (de_var 2) (de_int (j := 0)))) da_nil))))) dss_nil)
    (dss_one (ds_ret (de_dget2 (hu1 hr) (de_disp (dps_cons de_str (de_tup (da_cons (de_int (j := 0)) (da_cons (de_int (j := 0)) da_nil))) (dps_cons de_str (de_tup (da_cons (de_int (j := 0)) (da_cons (de_int (j := 0)) da_nil))) (dps_cons de_str (de_tup (da_cons (de_int (j := 0)) (da_cons (de_int (j := 0)) da_nil))) (dps_cons de_str (de_tup (da_cons (de_int (j := 0)) (da_cons (de_int (j := 0)) da_nil))) dps_nil))))) (de_var 1) (de_tup (da_cons (de_int (j := 0)) (da_cons (de_int (j := 0)) da_nil))) ⟨rfl, rfl, rfl, rfl⟩)))))
theorem okf__law_passes {P : Program} {w : World} {K : PySem.W.Frag} {mg : Str → Option Value} {base : Heap} {fld : Str → Str} (T : Txt K w mg) (n : Nat) (r : G_44) (h__law_passes : DFn P w K mg base fld (1 + n) T.f__law_passes T.fd__law_passes ["body", "gains"] r._law_passes) (h__law_item_net : DFn P w K mg base fld (1 + n) T.f__law_item_net T.fd__law_item_net ["item", "gains"] r._law_item_net) : DFn P w K mg base fld (1 + n + 1) T.f__law_passes T.fd__law_passes ["body", "gains"] (mf__law_passes r) :=
  DFn.of (k := 1 + n) T.F__law_passes sc__law_passes fun cdv A outer s g0 H E hr hgd hx tk po =>
    (dss_cons (ds_set (i := 2) sc__law_passes.nd (de_int (j := 0)))
    (dss_cons (ds_forU po rfl (de_var 0) (dg_name sc__law_passes.nd)
    (dss_cons (ds_asg (de_callD (h__law_item_net.up (by omega)) hr hgd (by rfl) T.g__law_item_net T.F__law_item_net.kp (b__law_item_net_2 T) hx (da_cons (de_var 3) (da_cons (de_var 1) da_nil))) (dg_tup rfl (dgs_cons (dg_name sc__law_passes.nd) (dgs_cons (dg_name sc__law_passes.nd) dgs_nil))))
    (dss_cons (ds_if (dt_not (dt_val (de_var 4)))
    (dss_one (ds_ret (de_tup (da_cons de_bl (da_cons de_non da_nil))))) dss_nil)
    (dss_one (ds_set (i := 2) sc__law_passes.nd (de_op op_addA od_add (de_var 2) (de_var 5)))))))
    (dss_one (ds_ret (de_tup (da_cons de_bl (da_cons (de_var 2) da_nil)))))))
theorem okf__law_item_net {P : Program} {w : World} {K : PySem.W.Frag} {mg : Str → Option Value} {base : Heap} {fld : Str → Str} (T : Txt K w mg) (n : Nat) (r : G_44) (h__law_passes : DFn P w K mg base fld (1 + n) T.f__law_passes T.fd__law_passes ["body", "gains"] r._law_passes) (h__law_item_net : DFn P w K mg base fld (1 + n) T.f__law_item_net T.fd__law_item_net ["item", "gains"] r._law_item_net) : DFn P w K mg base fld (1 + n + 1) T.f__law_item_net T.fd__law_item_net ["item", "gains"] (mf__law_item_net r) :=
  DFn.of (k := 1 + n) T.F__law_item_net sc__law_item_net fun cdv A outer s g0 H E hr hgd hx tk po =>
    (dss_cons (ds_set (i := 2) sc__law_item_net.nd (de_ixU (hu1 hr) (de_var 0) (de_int (j := 0))))
    (dss_cons (ds_if (dt_cmp (op_eqA (hu64 hr)) od_eq (de_var 2) de_str)
    (dss_one (ds_ret (de_tup (da_cons (de_cmpV op_notN ov_notN (de_ixU (hu1 hr) (de_var 1) (de_ixU (hu1 hr) (de_var 0) (de_int (j := 0)))) de_non) (da_cons (de_ixU (hu1 hr) (de_var 1) (de_ixU (hu1 hr) (de_var 0) (de_int (j := 0)))) da_nil))))) dss_nil)
    (dss_cons (ds_if (dt_cmp (op_eqA (hu64 hr)) od_eq (de_var 2) de_str)
    (dss_one (ds_ret (de_tup (da_cons de_bl (da_cons (de_un un_neg ud_neg (de_int (j := 0))) da_nil))))) dss_nil)
    (dss_cons (ds_if (dt_cmp (op_eqA (hu64 hr)) od_eq (de_var 2) de_str)
    (dss_cons (ds_par (i := 3) (j := 4) rfl sc__law_item_net.nd rfl rfl (by decide) rfl rfl (da_cons (de_callD (h__law_passes.up (by omega)) hr hgd (by rfl) T.g__law_passes T.F__law_passes.kp (b__law_passes_2 T) hx (da_cons (de_ixU (hu1 hr) (de_var 0) (de_int (j := 0))) (da_cons (de_var 1) da_nil))) (da_cons (de_callD (h__law_passes.up (by omega)) hr hgd (by rfl) T.g__law_passes T.F__law_passes.kp (b__law_passes_2 T) hx (da_cons (de_ixU (hu1 hr) (de_var 0) (de_int (j := 0))) (da_cons (de_var 1) da_nil))) da_nil)) rfl)
    (dss_cons (ds_set (i := 5) sc__law_item_net.nd (de_if (dt_val (de_ixU (hu1 hr) (de_var 3) (de_int (j := 0)))) (de_var 3) (de_var 4)))
    (dss_one (ds_ret (de_tup (da_cons (de_ixU (hu1 hr) (de_var 5) (de_int (j := 0))) (da_cons (de_if (dt_val (de_ixU (hu1 hr) (de_var 5) (de_int (j := 0)))) (de_op op_sub od_sub (de_ixU (hu1 hr) (de_var 5) (de_int (j := 0))) (de_int (j := 0))) de_non) da_nil))))))) dss_nil)
    (dss_cons (ds_asg (de_callD ((ok__law_takes T).up (by omega)) hr hgd (by rfl) T.g__law_takes T.F__law_takes.kp (b__law_takes_1 T) hx (da_cons (de_var 0) da_nil)) (dg_tup rfl (dgs_cons (dg_name sc__law_item_net.nd) (dgs_cons (dg_name sc__law_item_net.nd) dgs_nil))))
    (dss_one (ds_ret (de_tup (da_cons de_bl (da_cons (de_op op_sub od_sub (de_var 7) (de_var 6)) da_nil))))))))))
theorem okg_44 {P : Program} {w : World} {K : PySem.W.Frag} {mg : Str → Option Value} {base : Heap} {fld : Str → Str} (T : Txt K w mg) : ∀ n : Nat, DFn P w K mg base fld (1 + n) T.f__law_passes T.fd__law_passes ["body", "gains"] (g_44 n)._law_passes ∧ DFn P w K mg base fld (1 + n) T.f__law_item_net T.fd__law_item_net ["item", "gains"] (g_44 n)._law_item_net
  | 0 => ⟨DFn.none, DFn.none⟩
  | n + 1 => by
    have ih := okg_44 (P := P) (base := base) (fld := fld) T n
    exact ⟨okf__law_passes T n _ ih.1 ih.2, okf__law_item_net T n _ ih.1 ih.2⟩
theorem ok__law_passes {P : Program} {w : World} {K : PySem.W.Frag} {mg : Str → Option Value} {base : Heap} {fld : Str → Str} (T : Txt K w mg) : DFn P w K mg base fld 13 T.f__law_passes T.fd__law_passes ["body", "gains"] m__law_passes := (okg_44 (P := P) (base := base) (fld := fld) T 12).1
theorem ok__law_item_net {P : Program} {w : World} {K : PySem.W.Frag} {mg : Str → Option Value} {base : Heap} {fld : Str → Str} (T : Txt K w mg) : DFn P w K mg base fld 13 T.f__law_item_net T.fd__law_item_net ["item", "gains"] m__law_item_net := (okg_44 (P := P) (base := base) (fld := fld) T 12).2
theorem ok__law_nets {P : Program} {w : World} {K : PySem.W.Frag} {mg : Str → Option Value} {base : Heap} {fld : Str → Str} (T : Txt K w mg) : DFn P w K mg base fld 14 T.f__law_nets T.fd__law_nets ["code"] m__law_nets :=
  DFn.of (k := 13) T.F__law_nets sc__law_nets fun cdv A outer s g0 H E hr hgd hx tk po =>
    (dss_cons (ds_set (i := 1) sc__law_nets.nd (de_fz (do_rep (do_lst (da_cons de_non da_nil)) (de_cb call_len cd_lenA (by rfl) T.z_len (by decide +kernel) (da_cons (de_var 0) da_nil)))))
    (dss_cons (ds_for po rfl (di_range1 (by rfl) T.z_range (de_op op_addA od_add (de_cb call_len cd_lenA (by rfl) T.z_len (by decide +kernel) (da_cons (de_var 0) da_nil)) (de_int (j := 0)))) (dg_name sc__law_nets.nd)
    (dss_cons (ds_set (i := 3) sc__law_nets.nd (de_newBox (do_list (by rfl) T.z_list (by decide +kernel) (da_cons (de_var 1) da_nil))))
    (dss_cons (ds_for po rfl (di_range1 (by rfl) T.z_range (de_cb call_len cd_lenA (by rfl) T.z_len (by decide +kernel) (da_cons (de_var 0) da_nil))) (dg_name sc__law_nets.nd)
    (dss_cons (ds_asg (de_callD ((ok__law_passes T).up (by omega)) hr hgd (by rfl) T.g__law_passes T.F__law_passes.kp (b__law_passes_2 T) hx (da_cons (de_ixU (hu1 hr) (de_var 0) (de_var 4)) (da_cons (de_var 1) da_nil))) (dg_tup rfl (dgs_cons (dg_name sc__law_nets.nd) (dgs_cons (dg_name sc__law_nets.nd) dgs_nil))))
    (dss_one (ds_asg (de_if (dt_w (dw_and (dt_cmpV op_isN ov_isN (de_ixU (hu1 hr) (de_var 1) (de_var 4)) de_non) (dw_and1 (dt_val (de_var 5))))) (de_var 6) (de_ixU (hu1 hr) (de_var 1) (de_var 4))) (dg_sub (hu1 hr) (de_var 3) (de_var 4))))))
    (dss_cons (ds_if (dt_cmpS (op_eqA (hu64 hr)) os_eq (de_var 3) (de_var 1))
    (dss_one ds_break) dss_nil)
    (dss_one (ds_set (i := 1) sc__law_nets.nd (de_var 3)))))))
    (dss_one (ds_ret (de_ct call_tuple_of cd_tupA (by rfl) T.z_tuple (by decide +kernel) (da_cons (de_var 1) da_nil))))))
theorem okf__law_lift {P : Program} {w : World} {K : PySem.W.Frag} {mg : Str → Option Value} {base : Heap} {fld : Str → Str} (T : Txt K w mg) (n : Nat) (r : G_46) (h__law_lift : DFn P w K mg base fld (13 + n) T.f__law_lift T.fd__law_lift ["body", "gains", "height", "place", "found"] r._law_lift) : DFn P w K mg base fld (13 + n + 1) T.f__law_lift T.fd__law_lift ["body", "gains", "height", "place", "found"] (mf__law_lift r) :=
  DFn.of (k := 13 + n) T.F__law_lift sc__law_lift fun cdv A outer s g0 H E hr hgd hx tk po =>
    (dss_one (ds_forU po rfl (de_var 0) (dg_name sc__law_lift.nd)
    (dss_cons (ds_asg (de_var 2) (dg_sub (hu1 hr) (de_var 4) (de_var 3)))
    (dss_cons (ds_set (i := 6) sc__law_lift.nd (de_op op_addA od_add (de_var 3) (de_int (j := 0))))
    (dss_cons (ds_for po rfl (di_seq (de_callD ((ok__law_inner T).up (by omega)) hr hgd (by rfl) T.g__law_inner T.F__law_inner.kp (b__law_inner_1 T) hx (da_cons (de_var 5) da_nil))) (dg_name sc__law_lift.nd)
    (dss_cons (ds_drop (de_callD (h__law_lift.up (by omega)) hr hgd (by rfl) T.g__law_lift T.F__law_lift.kp (b__law_lift_5 T) hx (da_cons (de_var 7) (da_cons (de_var 1) (da_cons (de_op op_sub od_sub (de_var 2) (de_int (j := 0))) (da_cons (de_var 6) (da_cons (de_var 4) da_nil)))))))
    (dss_one (ds_set (i := 6) sc__law_lift.nd (de_op op_addA od_add (de_var 6) (de_callD ((ok__law_many T).up (by omega)) hr hgd (by rfl) T.g__law_many T.F__law_many.kp (b__law_many_1 T) hx (da_cons (de_var 7) da_nil)))))))
    (dss_cons (ds_asg (de_callD ((ok__law_item_net T).up (by omega)) hr hgd (by rfl) T.g__law_item_net T.F__law_item_net.kp (b__law_item_net_2 T) hx (da_cons (de_var 5) (da_cons (de_var 1) da_nil))) (dg_tup rfl (dgs_cons (dg_name sc__law_lift.nd) (dgs_cons (dg_name sc__law_lift.nd) dgs_nil))))
    (dss_cons (ds_if (dt_not (dt_val (de_var 8)))
    (dss_one ds_retN) dss_nil)
    (dss_one (ds_par (i := 3) (j := 2) rfl sc__law_lift.nd rfl rfl (by decide) rfl rfl (da_cons (de_var 6) (da_cons (de_op op_addA od_add (de_var 2) (de_var 9)) da_nil)) rfl)))))))))
theorem okg_46 {P : Program} {w : World} {K : PySem.W.Frag} {mg : Str → Option Value} {base : Heap} {fld : Str → Str} (T : Txt K w mg) : ∀ n : Nat, DFn P w K mg base fld (13 + n) T.f__law_lift T.fd__law_lift ["body", "gains", "height", "place", "found"] (g_46 n)._law_lift
  | 0 => DFn.none
  | n + 1 => by
    have ih := okg_46 (P := P) (base := base) (fld := fld) T n
    exact okf__law_lift T n _ ih
theorem ok__law_lift {P : Program} {w : World} {K : PySem.W.Frag} {mg : Str → Option Value} {base : Heap} {fld : Str → Str} (T : Txt K w mg) : DFn P w K mg base fld 25 T.f__law_lift T.fd__law_lift ["body", "gains", "height", "place", "found"] m__law_lift := (okg_46 (P := P) (base := base) (fld := fld) T 12)
theorem ok__law_lifts {P : Program} {w : World} {K : PySem.W.Frag} {mg : Str → Option Value} {base : Heap} {fld : Str → Str} (T : Txt K w mg) : DFn P w K mg base fld 26 T.f__law_lifts T.fd__law_lifts ["code"] m__law_lifts :=
  DFn.of (k := 25) T.F__law_lifts sc__law_lifts fun cdv A outer s g0 H E hr hgd hx tk po =>
    (dss_cons (ds_par (i := 1) (j := 2) rfl sc__law_lifts.nd rfl rfl (by decide) rfl rfl (da_cons (de_callD ((ok__law_nets T).up (by omega)) hr hgd (by rfl) T.g__law_nets T.F__law_nets.kp (b__law_nets_1 T) hx (da_cons (de_var 0) da_nil)) (da_cons (de_newBox (do_lst da_nil)) da_nil)) rfl)
    (dss_cons (ds_forU po rfl (de_var 0) (dg_name sc__law_lifts.nd)
    (dss_cons (ds_set (i := 4) sc__law_lifts.nd de_dnewK)
    (dss_cons (ds_drop (de_callD ((ok__law_lift T).up (by omega)) hr hgd (by rfl) T.g__law_lift T.F__law_lift.kp (b__law_lift_5 T) hx (da_cons (de_var 3) (da_cons (de_var 1) (da_cons (de_int (j := 0)) (da_cons (de_int (j := 0)) (da_cons (de_var 4) da_nil)))))))
    (dss_one (ds_drop (de_lapp (de_var 2) (de_var 4)))))))
    (dss_one (ds_ret (de_var 2)))))
theorem ok__law_is_ring {P : Program} {w : World} {K : PySem.W.Frag} {mg : Str → Option Value} {base : Heap} {fld : Str → Str} (T : Txt K w mg) : DFn P w K mg base fld 27 T.f__law_is_ring T.fd__law_is_ring ["code", "circle"] m__law_is_ring :=
  DFn.of (k := 26) T.F__law_is_ring sc__law_is_ring fun cdv A outer s g0 H E hr hgd hx tk po =>
    (dss_cons (ds_par (i := 2) (j := 3) rfl sc__law_is_ring.nd rfl rfl (by decide) rfl rfl (da_cons (de_callD ((ok__law_lifts T).up (by omega)) hr hgd (by rfl) T.g__law_lifts T.F__law_lifts.kp (b__law_lifts_1 T) hx (da_cons (de_var 0) da_nil)) (da_cons (de_int (j := 0)) da_nil)) rfl)
    (dss_cons (ds_if (dt_w (dw_or (dt_not (dt_val (de_isi kit_tuple (by rfl) T.z_isinstance (by rfl) T.z_tuple (by decide +kernel) (de_var 1)))) (dw_or1 (dt_cmp (op_eqA (hu64 hr)) od_eq (de_var 1) (de_tup da_nil)))))
    (dss_one (ds_ret de_bl)) dss_nil)
    (dss_cons (ds_forEU po rfl (by rfl) T.z_enumerate (de_var 1) (dg_name sc__law_is_ring.nd) (dg_tup rfl (dgs_cons (dg_name sc__law_is_ring.nd) (dgs_cons (dg_name sc__law_is_ring.nd) dgs_nil)))
    (dss_cons (ds_set (i := 7) sc__law_is_ring.nd (de_ixU (hu1 hr) (de_callD ((ok__law_items T).up (by omega)) hr hgd (by rfl) T.g__law_items T.F__law_items.kp (b__law_items_1 T) hx (da_cons (de_ixU (hu1 hr) (de_var 0) (de_var 5)) da_nil)) (de_var 6)))
    (dss_cons (ds_set (i := 8) sc__law_is_ring.nd (de_if (dt_cmp op_lt od_cmpI (de_op op_addA od_add (de_var 4) (de_int (j := 0))) (de_cb call_len cd_lenA (by rfl) T.z_len (by decide +kernel) (da_cons (de_var 1) da_nil))) (de_ixU (hu1 hr) (de_var 1) (de_op op_addA od_add (de_var 4) (de_int (j := 0)))) (de_ixU (hu1 hr) (de_var 1) (de_int (j := 0)))))
    (dss_cons (ds_if (dt_w (dw_or (dt_cmp (op_neA (hu64 hr)) od_ne (de_ixU (hu1 hr) (de_var 7) (de_int (j := 0))) de_str) (dw_or (dt_cmpV (orOp (op_notInA (hu65 hr)) (op_notInK (hu1 hr))) ov_in (de_var 6) (de_ixU (hu1 hr) (de_var 2) (de_var 5))) (dw_or1 (dt_cmp (op_neA (hu64 hr)) od_ne (de_ixU (hu1 hr) (de_var 7) (de_int (j := 0))) (de_ixU (hu1 hr) (de_var 8) (de_int (j := 0))))))))
    (dss_one (ds_ret de_bl)) dss_nil)
    (dss_one (ds_set (i := 3) sc__law_is_ring.nd (de_op op_addA od_add (de_var 3) (de_ixU (hu1 hr) (de_ixU (hu1 hr) (de_var 2) (de_var 5)) (de_var 6)))))))))
    (dss_one (ds_ret (de_cmp op_lt od_cmpI (de_var 3) (de_int (j := 0))))))))
theorem ok__law_right {P : Program} {w : World} {K : PySem.W.Frag} {mg : Str → Option Value} {base : Heap} {fld : Str → Str} (T : Txt K w mg) : DFn P w K mg base fld 31 T.f__law_right T.fd__law_right ["pail"] m__law_right :=
  DFn.of (k := 30) T.F__law_right sc__law_right fun cdv A outer s g0 H E hr hgd hx tk po =>
    (dss_cons (ds_set (i := 1) sc__law_right.nd (de_callD ((ok__law_deal T).up (by omega)) hr hgd (by rfl) T.g__law_deal T.F__law_deal.kp (b__law_deal_2 T) hx (da_cons (de_var 0) (da_cons (de_int (j := 0)) da_nil))))
    (dss_cons (ds_set (i := 2) sc__law_right.nd (de_op (orOp op_mulA (orOp op_rep0 op_rep1)) od_mulB (de_tup (da_cons (de_tup (da_cons de_str (da_cons (de_int (j := 0)) da_nil))) da_nil)) (de_var 1)))
    (dss_cons (ds_set (i := 3) sc__law_right.nd (de_tup (da_cons (de_tup (da_cons (de_tup (da_cons de_str (da_cons (de_int (j := 0)) da_nil))) (da_cons (de_tup (da_cons de_str (da_cons (de_tup (da_cons (de_tup (da_cons de_str (da_cons (de_int (j := 0)) da_nil))) (da_cons (de_tup (da_cons de_str (da_cons (de_int (j := 0)) da_nil))) (da_cons (de_tup (da_cons de_str (da_cons (de_int (j := 0)) da_nil))) da_nil)))) (da_cons (de_tup da_nil) da_nil)))) da_nil))) (da_cons (de_tup (da_cons (de_tup (da_cons de_str (da_cons (de_int (j := 0)) da_nil))) (da_cons (de_tup (da_cons de_str (da_cons (de_int (j := 0)) da_nil))) da_nil))) da_nil))))
    (dss_cons (ds_set (i := 4) sc__law_right.nd (de_fz (do_lst (da_cons (de_callD ((ok_verdict T).frame.up (by omega)) hr hgd (by rfl) T.g_verdict T.F_verdict.kp (b_verdict_1 T) hx (da_cons (de_var 3) da_nil)) (da_cons (de_callD ((ok__law_is_ring T).frame.up (by omega)) hr hgd (by rfl) T.g__law_is_ring T.F__law_is_ring.kp (b__law_is_ring_2 T) hx (da_cons (de_var 3) (da_cons (de_callD ((ok_ring T).frame.up (by omega)) hr hgd (by rfl) T.g_ring T.F_ring.kp (b_ring_1 T) hx (da_cons (de_var 3) da_nil)) da_nil))) (da_cons (de_callD ((ok_nets T).frame.up (by omega)) hr hgd (by rfl) T.g_nets T.F_nets.kp (b_nets_1 T) hx (da_cons (de_var 3) da_nil)) (da_cons (de_callD ((ok_verdict T).frame.up (by omega)) hr hgd (by rfl) T.g_verdict T.F_verdict.kp (b_verdict_1 T) hx (da_cons (de_tup (da_cons (de_tup (da_cons (de_tup (da_cons de_str (da_cons (de_int (j := 0)) da_nil))) da_nil)) da_nil)) da_nil)) da_nil)))))))
    (dss_cons (ds_set (i := 4) sc__law_right.nd (de_op op_addA od_add (de_var 4) (de_fz (do_lst (da_cons (de_callD ((ok_nets T).frame.up (by omega)) hr hgd (by rfl) T.g_nets T.F_nets.kp (b_nets_1 T) hx (da_cons (de_tup (da_cons (de_tup (da_cons (de_tup (da_cons de_str (da_cons (de_int (j := 0)) da_nil))) da_nil)) da_nil)) da_nil)) da_nil)))))
    (dss_cons (ds_own (i := 5) sc__law_right.nd (do_lst (da_cons (de_tup (da_cons de_str da_nil)) (da_cons de_bl (da_cons (de_tup (da_cons (de_int (j := 0)) (da_cons (de_int (j := 0)) da_nil))) (da_cons (de_tup (da_cons de_str (da_cons (de_tup (da_cons (de_tup (da_cons (de_int (j := 0)) (da_cons de_non da_nil))) da_nil)) da_nil))) (da_cons (de_tup (da_cons de_non da_nil)) da_nil)))))))
    (dss_cons (ds_set (i := 4) sc__law_right.nd (de_op op_addA od_add (de_var 4) (de_fz (do_lst (da_cons (de_callD ((ok_verdict T).frame.up (by omega)) hr hgd (by rfl) T.g_verdict T.F_verdict.kp (b_verdict_1 T) hx (da_cons (de_tup (da_cons (de_op op_addA od_add (de_var 2) (de_tup (da_cons (de_tup (da_cons de_str (da_cons (de_tup (da_cons (de_tup (da_cons de_str (da_cons (de_int (j := 0)) da_nil))) da_nil)) (da_cons (de_tup da_nil) da_nil)))) da_nil))) da_nil)) da_nil)) (da_cons (de_callD ((ok_verdict T).frame.up (by omega)) hr hgd (by rfl) T.g_verdict T.F_verdict.kp (b_verdict_1 T) hx (da_cons (de_tup (da_cons (de_op op_addA od_add (de_var 2) (de_tup (da_cons (de_tup (da_cons de_str (da_cons (de_tup da_nil) da_nil))) da_nil))) da_nil)) da_nil)) da_nil))))))
    (dss_cons (ds_frz 5 (ds_own (i := 5) sc__law_right.nd (do_cat (de_var 5) (de_fz (do_lst (da_cons (de_tup (da_cons de_str (da_cons (de_int (j := 0)) (da_cons (de_var 1) da_nil)))) (da_cons (de_tup (da_cons de_str (da_cons (de_int (j := 0)) (da_cons (de_var 1) da_nil)))) da_nil)))))))
    (dss_cons (ds_set (i := 6) sc__law_right.nd (de_tup (da_cons (de_op op_addA od_add (de_var 2) (de_tup (da_cons (de_tup (da_cons de_str (da_cons (de_int (j := 0)) da_nil))) (da_cons (de_tup (da_cons de_str (da_cons (de_int (j := 0)) da_nil))) da_nil)))) (da_cons (de_var 2) da_nil))))
    (dss_cons (ds_set (i := 4) sc__law_right.nd (de_op op_addA od_add (de_var 4) (de_fz (do_lst (da_cons (de_callD ((ok_verdict T).frame.up (by omega)) hr hgd (by rfl) T.g_verdict T.F_verdict.kp (b_verdict_1 T) hx (da_cons (de_var 6) da_nil)) (da_cons (de_callKD0 ((ok_verdict T).frame.up (by omega)) hr hgd (by rfl) T.g_verdict T.F_verdict.kp (b_verdict_0_code T) hx (dk_cons (de_tup (da_cons (de_var 2) da_nil)) dk_nil)) (da_cons (de_callD ((ok_verdict T).frame.up (by omega)) hr hgd (by rfl) T.g_verdict T.F_verdict.kp (b_verdict_1 T) hx (da_cons (de_tup (da_cons (de_op op_addA od_add (de_var 2) (de_tup (da_cons (de_tup (da_cons de_str (da_cons (de_tup (da_cons (de_tup (da_cons de_str (da_cons (de_int (j := 0)) da_nil))) da_nil)) da_nil))) da_nil))) da_nil)) da_nil)) da_nil)))))))
    (dss_cons (ds_frz 5 (ds_own (i := 5) sc__law_right.nd (do_cat (de_var 5) (de_fz (do_lst (da_cons (de_tup (da_cons de_str (da_cons (de_tup (da_cons (de_tup (da_cons (de_cb (call_max2 rfl) cd_max2 (by rfl) T.z_max (by decide +kernel) (da_cons (de_int (j := 0)) (da_cons (de_op op_sub od_sub (de_int (j := 0)) (de_var 1)) da_nil))) (da_cons (de_op op_sub od_sub (de_op op_addA od_add (de_cb (call_max2 rfl) cd_max2 (by rfl) T.z_max (by decide +kernel) (da_cons (de_int (j := 0)) (da_cons (de_op op_sub od_sub (de_int (j := 0)) (de_var 1)) da_nil))) (de_var 1)) (de_int (j := 0))) da_nil))) (da_cons (de_tup (da_cons (de_int (j := 0)) (da_cons (de_var 1) da_nil))) da_nil))) da_nil))) (da_cons (de_tup (da_cons de_str (da_cons (de_tup (da_cons (de_tup (da_cons (de_int (j := 0)) (da_cons (de_var 1) da_nil))) da_nil)) da_nil))) da_nil)))))))
    (dss_cons (ds_append (i := 5) (de_tup (da_cons de_str (da_cons (de_tup (da_cons (de_tup (da_cons (de_cb (call_max2 rfl) cd_max2 (by rfl) T.z_max (by decide +kernel) (da_cons (de_int (j := 0)) (da_cons (de_op op_sub od_sub (de_int (j := 0)) (de_var 1)) da_nil))) (da_cons (de_op op_sub od_sub (de_op op_addA od_add (de_cb (call_max2 rfl) cd_max2 (by rfl) T.z_max (by decide +kernel) (da_cons (de_int (j := 0)) (da_cons (de_op op_sub od_sub (de_int (j := 0)) (de_var 1)) da_nil))) (de_var 1)) (de_int (j := 0))) da_nil))) da_nil)) da_nil))))
    (dss_cons (ds_set (i := 7) sc__law_right.nd (de_tup (da_cons (de_tup (da_cons (de_tup (da_cons de_str (da_cons (de_int (j := 0)) da_nil))) (da_cons (de_tup (da_cons de_str (da_cons (de_int (j := 0)) da_nil))) da_nil))) (da_cons (de_tup (da_cons (de_tup (da_cons de_str (da_cons (de_int (j := 0)) da_nil))) (da_cons (de_tup (da_cons de_str (da_cons (de_int (j := 0)) da_nil))) da_nil))) da_nil))))
    (dss_cons (ds_set (i := 4) sc__law_right.nd (de_op op_addA od_add (de_var 4) (de_fz (do_lst (da_cons (de_callD ((ok_verdict T).frame.up (by omega)) hr hgd (by rfl) T.g_verdict T.F_verdict.kp (b_verdict_1 T) hx (da_cons (de_var 7) da_nil)) (da_cons (de_callD ((ok_nets T).frame.up (by omega)) hr hgd (by rfl) T.g_nets T.F_nets.kp (b_nets_1 T) hx (da_cons (de_var 7) da_nil)) (da_cons (de_callD ((ok__law_is_ring T).frame.up (by omega)) hr hgd (by rfl) T.g__law_is_ring T.F__law_is_ring.kp (b__law_is_ring_2 T) hx (da_cons (de_var 7) (da_cons (de_callD ((ok_ring T).frame.up (by omega)) hr hgd (by rfl) T.g_ring T.F_ring.kp (b_ring_1 T) hx (da_cons (de_var 7) da_nil)) da_nil))) da_nil)))))))
    (dss_cons (ds_frz 5 (ds_own (i := 5) sc__law_right.nd (do_cat (de_var 5) (de_fz (do_lst (da_cons (de_tup (da_cons de_str da_nil)) (da_cons (de_tup (da_cons de_non (da_cons de_non da_nil))) (da_cons de_bl da_nil))))))))
    (dss_cons (ds_set (i := 8) sc__law_right.nd (de_tup (da_cons (de_tup (da_cons (de_tup (da_cons de_str (da_cons (de_int (j := 0)) da_nil))) (da_cons (de_tup (da_cons de_str (da_cons (de_int (j := 0)) da_nil))) da_nil))) (da_cons (de_tup (da_cons (de_tup (da_cons de_str (da_cons (de_int (j := 0)) da_nil))) (da_cons (de_tup (da_cons de_str (da_cons (de_tup (da_cons (de_tup (da_cons de_str (da_cons (de_int (j := 0)) da_nil))) (da_cons (de_tup (da_cons de_str (da_cons (de_int (j := 0)) da_nil))) da_nil))) (da_cons (de_tup da_nil) da_nil)))) (da_cons (de_tup (da_cons de_str (da_cons (de_int (j := 0)) da_nil))) da_nil)))) da_nil))))
    (dss_cons (ds_set (i := 8) sc__law_right.nd (de_op op_addA od_add (de_var 8) (de_tup (da_cons (de_tup (da_cons (de_tup (da_cons de_str (da_cons (de_int (j := 0)) da_nil))) (da_cons (de_tup (da_cons de_str (da_cons (de_int (j := 0)) da_nil))) da_nil))) da_nil))))
    (dss_cons (ds_set (i := 4) sc__law_right.nd (de_op op_addA od_add (de_var 4) (de_fz (do_lst (da_cons (de_callD ((ok_nets T).frame.up (by omega)) hr hgd (by rfl) T.g_nets T.F_nets.kp (b_nets_1 T) hx (da_cons (de_var 8) da_nil)) (da_cons (de_callD ((ok_verdict T).frame.up (by omega)) hr hgd (by rfl) T.g_verdict T.F_verdict.kp (b_verdict_1 T) hx (da_cons (de_var 8) da_nil)) da_nil))))))
    (dss_cons (ds_frz 5 (ds_own (i := 5) sc__law_right.nd (do_cat (de_var 5) (de_fz (do_lst (da_cons (de_tup (da_cons (de_un un_neg ud_neg (de_int (j := 0))) (da_cons (de_un un_neg ud_neg (de_int (j := 0))) (da_cons (de_int (j := 0)) da_nil)))) (da_cons (de_tup (da_cons de_str (da_cons (de_int (j := 0)) (da_cons (de_int (j := 0)) da_nil)))) da_nil)))))))
    (dss_cons (ds_set (i := 9) sc__law_right.nd (de_tup (da_cons (de_tup (da_cons (de_tup (da_cons de_str (da_cons (de_int (j := 0)) da_nil))) (da_cons (de_tup (da_cons de_str (da_cons (de_tup (da_cons (de_tup (da_cons de_str (da_cons (de_int (j := 0)) da_nil))) da_nil)) (da_cons (de_tup (da_cons (de_tup (da_cons de_str (da_cons (de_int (j := 0)) da_nil))) da_nil)) da_nil)))) (da_cons (de_tup (da_cons de_str (da_cons (de_int (j := 0)) da_nil))) da_nil)))) (da_cons (de_tup (da_cons (de_tup (da_cons de_str (da_cons (de_int (j := 0)) da_nil))) (da_cons (de_tup (da_cons de_str (da_cons (de_int (j := 0)) da_nil))) (da_cons (de_tup (da_cons de_str (da_cons (de_int (j := 0)) da_nil))) da_nil)))) da_nil))))
    (dss_cons (ds_set (i := 4) sc__law_right.nd (de_op op_addA od_add (de_var 4) (de_fz (do_lst (da_cons (de_callD ((ok_nets T).frame.up (by omega)) hr hgd (by rfl) T.g_nets T.F_nets.kp (b_nets_1 T) hx (da_cons (de_var 9) da_nil)) (da_cons (de_callD ((ok_verdict T).frame.up (by omega)) hr hgd (by rfl) T.g_verdict T.F_verdict.kp (b_verdict_1 T) hx (da_cons (de_var 9) da_nil)) da_nil))))))
    (dss_cons (ds_frz 5 (ds_own (i := 5) sc__law_right.nd (do_cat (de_var 5) (de_fz (do_lst (da_cons (de_tup (da_cons (de_un un_neg ud_neg (de_int (j := 0))) (da_cons (de_int (j := 0)) da_nil))) (da_cons (de_tup (da_cons de_str (da_cons (de_int (j := 0)) (da_cons (de_int (j := 0)) da_nil)))) da_nil)))))))
    (dss_cons (ds_set (i := 10) sc__law_right.nd (de_op op_addA od_add (de_op (orOp op_mulA (orOp op_rep0 op_rep1)) od_mulB (de_tup (da_cons (de_tup (da_cons de_str (da_cons (de_int (j := 0)) da_nil))) da_nil)) (de_int (j := 0))) (de_tup (da_cons (de_tup (da_cons de_str (da_cons (de_int (j := 0)) da_nil))) (da_cons (de_tup (da_cons de_str (da_cons (de_tup (da_cons (de_tup (da_cons de_str (da_cons (de_int (j := 0)) da_nil))) da_nil)) (da_cons (de_tup (da_cons (de_tup (da_cons de_str (da_cons (de_int (j := 0)) da_nil))) da_nil)) da_nil)))) (da_cons (de_tup (da_cons de_str (da_cons (de_tup (da_cons (de_tup (da_cons de_str (da_cons (de_int (j := 0)) da_nil))) da_nil)) da_nil))) da_nil))))))
    (dss_cons (ds_set (i := 10) sc__law_right.nd (de_op op_addA od_add (de_var 10) (de_tup (da_cons (de_tup (da_cons de_str (da_cons (de_int (j := 0)) da_nil))) (da_cons (de_tup (da_cons de_str (da_cons (de_int (j := 0)) da_nil))) da_nil)))))
    (dss_cons (ds_set (i := 4) sc__law_right.nd (de_op op_addA od_add (de_var 4) (de_fz (do_lst (da_cons (de_fz (do_lcX rfl sc__law_right.nd (own := [("place", 11)]) (di_range1 (by rfl) T.z_range (de_int (j := 0))) (blkOk_of (by kernel_rfl)) (by decide) (fun s1 H1 C1 cl1 fp1 hx => (dg_name sc__law_right.nd)) (fun s1 H1 C1 cl1 fp1 hx => dts_nil) (fun s1 H1 C1 cl1 fp1 hx => (de_callD ((ok_height_at T).frame.up (by omega)) hr hgd (by rfl) T.g_height_at T.F_height_at.kp (b_height_at_3 T) hx (da_cons (de_tup (da_cons (de_var 10) da_nil)) (da_cons (de_int (j := 0)) (da_cons (de_var 11) da_nil))))))) (da_cons (de_callKD0 ((ok_height_at T).frame.up (by omega)) hr hgd (by rfl) T.g_height_at T.F_height_at.kp (b_height_at_0_place_f_code T) hx (dk_cons (de_int (j := 0)) (dk_cons (de_int (j := 0)) (dk_cons (de_tup (da_cons (de_var 10) da_nil)) dk_nil)))) da_nil))))))
    (dss_cons (ds_frz 5 (ds_own (i := 5) sc__law_right.nd (do_cat (de_var 5) (de_fz (do_lst (da_cons (de_fz (do_lst (da_cons (de_int (j := 0)) (da_cons (de_int (j := 0)) (da_cons (de_int (j := 0)) (da_cons (de_int (j := 0)) (da_cons (de_int (j := 0)) (da_cons (de_int (j := 0)) (da_cons (de_int (j := 0)) (da_cons (de_int (j := 0)) (da_cons (de_int (j := 0)) (da_cons (de_int (j := 0)) (da_cons de_non da_nil))))))))))))) (da_cons (de_int (j := 0)) da_nil)))))))
    (dss_cons (ds_set (i := 4) sc__law_right.nd (de_op op_addA od_add (de_var 4) (de_fz (do_lst (da_cons (de_callD ((ok_verdict T).frame.up (by omega)) hr hgd (by rfl) T.g_verdict T.F_verdict.kp (b_verdict_1 T) hx (da_cons (de_tup (da_cons (de_var 10) da_nil)) da_nil)) (da_cons (de_callKD0 ((ok_effects T).frame.up (by omega)) hr hgd (by rfl) T.g_effects T.F_effects.kp (b_effects_0_code T) hx (dk_cons (de_tup (da_cons (de_var 2) (da_cons (de_tup (da_cons (de_tup (da_cons de_str (da_cons (de_int (j := 0)) da_nil))) da_nil)) da_nil))) dk_nil)) da_nil))))))
    (dss_one (ds_frz 5 (ds_ret (de_cmp (op_eqA (hu64 hr)) od_eq (de_cb (call_reprD hgd (hu66 hr)) cd_repr (by rfl) T.z_repr (by decide +kernel) (da_cons (de_var 4) da_nil)) (de_cb (call_reprD hgd (hu66 hr)) cd_repr (by rfl) T.z_repr (by decide +kernel) (da_cons (de_op op_addA od_add (de_var 5) (de_fz (do_lst (da_cons (de_tup (da_cons de_str (da_cons (de_tup (da_cons (de_tup (da_cons (de_int (j := 0)) (da_cons de_non da_nil))) da_nil)) da_nil))) (da_cons (de_tup (da_cons (de_tup (da_cons (de_int (j := 0)) (da_cons (de_var 1) da_nil))) (da_cons (de_tup (da_cons (de_int (j := 0)) (da_cons (de_var 1) da_nil))) da_nil))) da_nil))))) da_nil)))))))))))))))))))))))))))))))))
theorem ok_law {P : Program} {w : World} {K : PySem.W.Frag} {mg : Str → Option Value} {base : Heap} {fld : Str → Str} (T : Txt K w mg) : DFn P w K mg base fld 32 T.f_law T.fd_law ["script"] m_law :=
  DFn.of (k := 31) T.F_law sc_law fun cdv A outer s g0 H E hr hgd hx tk po =>
    (dss_one (ds_ret (de_cb (cr_all rfl) cd_all (by rfl) T.z_all (by decide +kernel) (da_cons (de_fz (do_lcX rfl sc_law.nd (own := [("turn", 1)]) (di_range1 (by rfl) T.z_range (de_cb (call_max2 rfl) cd_max2 (by rfl) T.z_max (by decide +kernel) (da_cons (de_int (j := 0)) (da_cons (de_cb (call_min2 rfl) cd_min2 (by rfl) T.z_min (by decide +kernel) (da_cons (de_cb call_len cd_len (by rfl) T.z_len (by decide +kernel) (da_cons (de_var 0) da_nil)) (da_cons (de_int (j := 0)) da_nil))) da_nil)))) (blkOk_of (by kernel_rfl)) (by decide) (fun s1 H1 C1 cl1 fp1 hx => (dg_name sc_law.nd)) (fun s1 H1 C1 cl1 fp1 hx => dts_nil) (fun s1 H1 C1 cl1 fp1 hx => (de_callD ((ok__law_right T).up (by omega)) hr hgd (by rfl) T.g__law_right T.F__law_right.kp (b__law_right_1 T) hx (da_cons (de_callD ((ok__law_pail T).up (by omega)) hr hgd (by rfl) T.g__law_pail T.F__law_pail.kp (b__law_pail_2 T) hx (da_cons (de_var 0) (da_cons (de_var 1) da_nil))) da_nil))))) da_nil))))
theorem all_mk {P : Program} {w : World} {K : PySem.W.Frag} {h : Heap} {mg : Str → Option Value} {fa : Addr} {fld : Str → Str} (KX : K.In h) (G : h.Ns mainGlobals mg) (hfa : mg "law" = some (.ref fa))
    {C_Place : Addr}
    {C_Effects : Addr}
    {f0 : Addr} {od0 an0 : Option Addr} {sl0 : Array (Option Value)} {oc0 kV0 dc0 pm0 cd0 ct0 : Value}
    {f1 : Addr} {od1 an1 : Option Addr} {sl1 : Array (Option Value)} {oc1 kV1 dc1 pm1 cd1 ct1 dV1 : Value}
    {f2 : Addr} {od2 an2 : Option Addr} {sl2 : Array (Option Value)} {oc2 kV2 dc2 pm2 cd2 ct2 : Value}
    {f3 : Addr} {od3 an3 : Option Addr} {sl3 : Array (Option Value)} {oc3 kV3 dc3 pm3 cd3 ct3 : Value}
    {f4 : Addr} {od4 an4 : Option Addr} {sl4 : Array (Option Value)} {oc4 kV4 dc4 pm4 cd4 ct4 : Value}
    {f5 : Addr} {od5 an5 : Option Addr} {sl5 : Array (Option Value)} {oc5 kV5 dc5 pm5 cd5 ct5 : Value}
    {f6 : Addr} {od6 an6 : Option Addr} {sl6 : Array (Option Value)} {oc6 kV6 dc6 pm6 cd6 ct6 : Value}
    {f7 : Addr} {od7 an7 : Option Addr} {sl7 : Array (Option Value)} {oc7 kV7 dc7 pm7 cd7 ct7 : Value}
    {f8 : Addr} {od8 an8 : Option Addr} {sl8 : Array (Option Value)} {oc8 kV8 dc8 pm8 cd8 ct8 : Value}
    {f9 : Addr} {od9 an9 : Option Addr} {sl9 : Array (Option Value)} {oc9 kV9 dc9 pm9 cd9 ct9 : Value}
    {f10 : Addr} {od10 an10 : Option Addr} {sl10 : Array (Option Value)} {oc10 kV10 dc10 pm10 cd10 ct10 : Value}
    {f11 : Addr} {od11 an11 : Option Addr} {sl11 : Array (Option Value)} {oc11 kV11 dc11 pm11 cd11 ct11 : Value}
    {f12 : Addr} {od12 an12 : Option Addr} {sl12 : Array (Option Value)} {oc12 kV12 dc12 pm12 cd12 ct12 : Value}
    {f13 : Addr} {od13 an13 : Option Addr} {sl13 : Array (Option Value)} {oc13 kV13 dc13 pm13 cd13 ct13 : Value}
    {f14 : Addr} {od14 an14 : Option Addr} {sl14 : Array (Option Value)} {oc14 kV14 dc14 pm14 cd14 ct14 : Value}
    {f15 : Addr} {od15 an15 : Option Addr} {sl15 : Array (Option Value)} {oc15 kV15 dc15 pm15 cd15 ct15 : Value}
    {f16 : Addr} {od16 an16 : Option Addr} {sl16 : Array (Option Value)} {oc16 kV16 dc16 pm16 cd16 ct16 dV16 : Value}
    {f17 : Addr} {od17 an17 : Option Addr} {sl17 : Array (Option Value)} {oc17 kV17 dc17 pm17 cd17 ct17 : Value}
    {f18 : Addr} {od18 an18 : Option Addr} {sl18 : Array (Option Value)} {oc18 kV18 dc18 pm18 cd18 ct18 : Value}
    {f19 : Addr} {od19 an19 : Option Addr} {sl19 : Array (Option Value)} {oc19 kV19 dc19 pm19 cd19 ct19 : Value}
    {f20 : Addr} {od20 an20 : Option Addr} {sl20 : Array (Option Value)} {oc20 kV20 dc20 pm20 cd20 ct20 : Value}
    {f21 : Addr} {od21 an21 : Option Addr} {sl21 : Array (Option Value)} {oc21 kV21 dc21 pm21 cd21 ct21 : Value}
    {f22 : Addr} {od22 an22 : Option Addr} {sl22 : Array (Option Value)} {oc22 kV22 dc22 pm22 cd22 ct22 : Value}
    {f23 : Addr} {od23 an23 : Option Addr} {sl23 : Array (Option Value)} {oc23 kV23 dc23 pm23 cd23 ct23 : Value}
    {f24 : Addr} {od24 an24 : Option Addr} {sl24 : Array (Option Value)} {oc24 kV24 dc24 pm24 cd24 ct24 : Value}
    {f25 : Addr} {od25 an25 : Option Addr} {sl25 : Array (Option Value)} {oc25 kV25 dc25 pm25 cd25 ct25 : Value}
    {f26 : Addr} {od26 an26 : Option Addr} {sl26 : Array (Option Value)} {oc26 kV26 dc26 pm26 cd26 ct26 : Value}
    {f27 : Addr} {od27 an27 : Option Addr} {sl27 : Array (Option Value)} {oc27 kV27 dc27 pm27 cd27 ct27 : Value}
    {f28 : Addr} {od28 an28 : Option Addr} {sl28 : Array (Option Value)} {oc28 kV28 dc28 pm28 cd28 ct28 : Value}
    {f29 : Addr} {od29 an29 : Option Addr} {sl29 : Array (Option Value)} {oc29 kV29 dc29 pm29 cd29 ct29 : Value}
    {f30 : Addr} {od30 an30 : Option Addr} {sl30 : Array (Option Value)} {oc30 kV30 dc30 pm30 cd30 ct30 : Value}
    {f31 : Addr} {od31 an31 : Option Addr} {sl31 : Array (Option Value)} {oc31 kV31 dc31 pm31 cd31 ct31 : Value}
    {f32 : Addr} {od32 an32 : Option Addr} {sl32 : Array (Option Value)} {oc32 kV32 dc32 pm32 cd32 ct32 : Value}
    {f33 : Addr} {od33 an33 : Option Addr} {sl33 : Array (Option Value)} {oc33 kV33 dc33 pm33 cd33 ct33 : Value}
    {f34 : Addr} {od34 an34 : Option Addr} {sl34 : Array (Option Value)} {oc34 kV34 dc34 pm34 cd34 ct34 : Value}
    {f35 : Addr} {od35 an35 : Option Addr} {sl35 : Array (Option Value)} {oc35 kV35 dc35 pm35 cd35 ct35 : Value}
    {f36 : Addr} {od36 an36 : Option Addr} {sl36 : Array (Option Value)} {oc36 kV36 dc36 pm36 cd36 ct36 : Value}
    {f37 : Addr} {od37 an37 : Option Addr} {sl37 : Array (Option Value)} {oc37 kV37 dc37 pm37 cd37 ct37 : Value}
    {f38 : Addr} {od38 an38 : Option Addr} {sl38 : Array (Option Value)} {oc38 kV38 dc38 pm38 cd38 ct38 : Value}
    {f39 : Addr} {od39 an39 : Option Addr} {sl39 : Array (Option Value)} {oc39 kV39 dc39 pm39 cd39 ct39 : Value}
    {f40 : Addr} {od40 an40 : Option Addr} {sl40 : Array (Option Value)} {oc40 kV40 dc40 pm40 cd40 ct40 : Value}
    {f41 : Addr} {od41 an41 : Option Addr} {sl41 : Array (Option Value)} {oc41 kV41 dc41 pm41 cd41 ct41 : Value}
    {f42 : Addr} {od42 an42 : Option Addr} {sl42 : Array (Option Value)} {oc42 kV42 dc42 pm42 cd42 ct42 : Value}
    {f43 : Addr} {od43 an43 : Option Addr} {sl43 : Array (Option Value)} {oc43 kV43 dc43 pm43 cd43 ct43 : Value}
    {f44 : Addr} {od44 an44 : Option Addr} {sl44 : Array (Option Value)} {oc44 kV44 dc44 pm44 cd44 ct44 : Value}
    {f45 : Addr} {od45 an45 : Option Addr} {sl45 : Array (Option Value)} {oc45 kV45 dc45 pm45 cd45 ct45 : Value}
    {f46 : Addr} {od46 an46 : Option Addr} {sl46 : Array (Option Value)} {oc46 kV46 dc46 pm46 cd46 ct46 : Value}
    {f47 : Addr} {od47 an47 : Option Addr} {sl47 : Array (Option Value)} {oc47 kV47 dc47 pm47 cd47 ct47 : Value}
    {f48 : Addr} {od48 an48 : Option Addr} {sl48 : Array (Option Value)} {oc48 kV48 dc48 pm48 cd48 ct48 : Value}
    {f49 : Addr} {od49 an49 : Option Addr} {sl49 : Array (Option Value)} {oc49 kV49 dc49 pm49 cd49 ct49 : Value}
    {f50 : Addr} {od50 an50 : Option Addr} {sl50 : Array (Option Value)} {oc50 kV50 dc50 pm50 cd50 ct50 : Value}
    {f51 : Addr} {od51 an51 : Option Addr} {sl51 : Array (Option Value)} {oc51 kV51 dc51 pm51 cd51 ct51 : Value}
    {f52 : Addr} {od52 an52 : Option Addr} {sl52 : Array (Option Value)} {oc52 kV52 dc52 pm52 cd52 ct52 : Value}
    {f53 : Addr} {od53 an53 : Option Addr} {sl53 : Array (Option Value)} {oc53 kV53 dc53 pm53 cd53 ct53 : Value}
    {qa_LEAVES : Addr} {es_LEAVES : Array DictEntry} {nn_LEAVES : Nat}
    {qa_TAKES : Addr} {es_TAKES : Array DictEntry} {nn_TAKES : Nat}
    (ca_Place : PySem.W.nsIn K mainGlobals "Place" = some (some (.ref C_Place))) (cc_Place : chkCls K C_Place ["item", "way", "index"] = true)
    (cm_Place : PySem.W.makesIn K C_Place = true) (ck_Place : PySem.W.keepIn K (.ref C_Place) = true)
    (ca_Effects : PySem.W.nsIn K mainGlobals "Effects" = some (some (.ref C_Effects))) (cc_Effects : chkCls K C_Effects ["own_bodies", "nets", "unlike", "heights", "calls", "depths"] = true)
    (cm_Effects : PySem.W.makesIn K C_Effects = true) (ck_Effects : PySem.W.keepIn K (.ref C_Effects) = true)
    (a0 : PySem.W.nsIn K mainGlobals "is_whole" = some (some (.ref f0)))
    (l0 : K.lookup f0 = some ⟨oc0, od0, .func (PySem.W.fnOf "is_whole" "is_whole" (defArgs s_is_whole) (defBody s_is_whole) (defScope s_is_whole) .none kV0 dc0 pm0 an0 cd0 ct0), sl0⟩) (c0 : PySem.W.codeIn K cd0 "is_whole" = true) (k0 : PySem.W.keepIn K (.ref f0) = true)
    (a1 : PySem.W.nsIn K mainGlobals "is_number" = some (some (.ref f1)))
    (l1 : K.lookup f1 = some ⟨oc1, od1, .func (PySem.W.fnOf "is_number" "is_number" (defArgs s_is_number) (defBody s_is_number) (defScope s_is_number) dV1 kV1 dc1 pm1 an1 cd1 ct1), sl1⟩) (c1 : PySem.W.codeIn K cd1 "is_number" = true) (k1 : PySem.W.keepIn K (.ref f1) = true)
    (d1 : chkTup K [.none] dV1 = true)
    (a2 : PySem.W.nsIn K mainGlobals "is_word" = some (some (.ref f2)))
    (l2 : K.lookup f2 = some ⟨oc2, od2, .func (PySem.W.fnOf "is_word" "is_word" (defArgs s_is_word) (defBody s_is_word) (defScope s_is_word) .none kV2 dc2 pm2 an2 cd2 ct2), sl2⟩) (c2 : PySem.W.codeIn K cd2 "is_word" = true) (k2 : PySem.W.keepIn K (.ref f2) = true)
    (a3 : PySem.W.nsIn K mainGlobals "is_tuple_of" = some (some (.ref f3)))
    (l3 : K.lookup f3 = some ⟨oc3, od3, .func (PySem.W.fnOf "is_tuple_of" "is_tuple_of" (defArgs s_is_tuple_of) (defBody s_is_tuple_of) (defScope s_is_tuple_of) .none kV3 dc3 pm3 an3 cd3 ct3), sl3⟩) (c3 : PySem.W.codeIn K cd3 "is_tuple_of" = true) (k3 : PySem.W.keepIn K (.ref f3) = true)
    (a4 : PySem.W.nsIn K mainGlobals "is_short_tuple" = some (some (.ref f4)))
    (l4 : K.lookup f4 = some ⟨oc4, od4, .func (PySem.W.fnOf "is_short_tuple" "is_short_tuple" (defArgs s_is_short_tuple) (defBody s_is_short_tuple) (defScope s_is_short_tuple) .none kV4 dc4 pm4 an4 cd4 ct4), sl4⟩) (c4 : PySem.W.codeIn K cd4 "is_short_tuple" = true) (k4 : PySem.W.keepIn K (.ref f4) = true)
    (a5 : PySem.W.nsIn K mainGlobals "is_shuffle" = some (some (.ref f5)))
    (l5 : K.lookup f5 = some ⟨oc5, od5, .func (PySem.W.fnOf "is_shuffle" "is_shuffle" (defArgs s_is_shuffle) (defBody s_is_shuffle) (defScope s_is_shuffle) .none kV5 dc5 pm5 an5 cd5 ct5), sl5⟩) (c5 : PySem.W.codeIn K cd5 "is_shuffle" = true) (k5 : PySem.W.keepIn K (.ref f5) = true)
    (a6 : PySem.W.nsIn K mainGlobals "looks_of" = some (some (.ref f6)))
    (l6 : K.lookup f6 = some ⟨oc6, od6, .func (PySem.W.fnOf "looks_of" "looks_of" (defArgs s_looks_of) (defBody s_looks_of) (defScope s_looks_of) .none kV6 dc6 pm6 an6 cd6 ct6), sl6⟩) (c6 : PySem.W.codeIn K cd6 "looks_of" = true) (k6 : PySem.W.keepIn K (.ref f6) = true)
    (a7 : PySem.W.nsIn K mainGlobals "is_headed" = some (some (.ref f7)))
    (l7 : K.lookup f7 = some ⟨oc7, od7, .func (PySem.W.fnOf "is_headed" "is_headed" (defArgs s_is_headed) (defBody s_is_headed) (defScope s_is_headed) .none kV7 dc7 pm7 an7 cd7 ct7), sl7⟩) (c7 : PySem.W.codeIn K cd7 "is_headed" = true) (k7 : PySem.W.keepIn K (.ref f7) = true)
    (a8 : PySem.W.nsIn K mainGlobals "is_plain_item" = some (some (.ref f8)))
    (l8 : K.lookup f8 = some ⟨oc8, od8, .func (PySem.W.fnOf "is_plain_item" "is_plain_item" (defArgs s_is_plain_item) (defBody s_is_plain_item) (defScope s_is_plain_item) .none kV8 dc8 pm8 an8 cd8 ct8), sl8⟩) (c8 : PySem.W.codeIn K cd8 "is_plain_item" = true) (k8 : PySem.W.keepIn K (.ref f8) = true)
    (a9 : PySem.W.nsIn K mainGlobals "bodies_in" = some (some (.ref f9)))
    (l9 : K.lookup f9 = some ⟨oc9, od9, .func (PySem.W.fnOf "bodies_in" "bodies_in" (defArgs s_bodies_in) (defBody s_bodies_in) (defScope s_bodies_in) .none kV9 dc9 pm9 an9 cd9 ct9), sl9⟩) (c9 : PySem.W.codeIn K cd9 "bodies_in" = true) (k9 : PySem.W.keepIn K (.ref f9) = true)
    (a10 : PySem.W.nsIn K mainGlobals "is_item" = some (some (.ref f10)))
    (l10 : K.lookup f10 = some ⟨oc10, od10, .func (PySem.W.fnOf "is_item" "is_item" (defArgs s_is_item) (defBody s_is_item) (defScope s_is_item) .none kV10 dc10 pm10 an10 cd10 ct10), sl10⟩) (c10 : PySem.W.codeIn K cd10 "is_item" = true) (k10 : PySem.W.keepIn K (.ref f10) = true)
    (a11 : PySem.W.nsIn K mainGlobals "is_body" = some (some (.ref f11)))
    (l11 : K.lookup f11 = some ⟨oc11, od11, .func (PySem.W.fnOf "is_body" "is_body" (defArgs s_is_body) (defBody s_is_body) (defScope s_is_body) .none kV11 dc11 pm11 an11 cd11 ct11), sl11⟩) (c11 : PySem.W.codeIn K cd11 "is_body" = true) (k11 : PySem.W.keepIn K (.ref f11) = true)
    (a12 : PySem.W.nsIn K mainGlobals "taken_by" = some (some (.ref f12)))
    (l12 : K.lookup f12 = some ⟨oc12, od12, .func (PySem.W.fnOf "taken_by" "taken_by" (defArgs s_taken_by) (defBody s_taken_by) (defScope s_taken_by) .none kV12 dc12 pm12 an12 cd12 ct12), sl12⟩) (c12 : PySem.W.codeIn K cd12 "taken_by" = true) (k12 : PySem.W.keepIn K (.ref f12) = true)
    (a13 : PySem.W.nsIn K mainGlobals "left_by" = some (some (.ref f13)))
    (l13 : K.lookup f13 = some ⟨oc13, od13, .func (PySem.W.fnOf "left_by" "left_by" (defArgs s_left_by) (defBody s_left_by) (defScope s_left_by) .none kV13 dc13 pm13 an13 cd13 ct13), sl13⟩) (c13 : PySem.W.codeIn K cd13 "left_by" = true) (k13 : PySem.W.keepIn K (.ref f13) = true)
    (a14 : PySem.W.nsIn K mainGlobals "size_of" = some (some (.ref f14)))
    (l14 : K.lookup f14 = some ⟨oc14, od14, .func (PySem.W.fnOf "size_of" "size_of" (defArgs s_size_of) (defBody s_size_of) (defScope s_size_of) .none kV14 dc14 pm14 an14 cd14 ct14), sl14⟩) (c14 : PySem.W.codeIn K cd14 "size_of" = true) (k14 : PySem.W.keepIn K (.ref f14) = true)
    (a15 : PySem.W.findIn K (.ref C_Place) "__init__" = some (some (.ref f15))) (fn15 : PySem.W.isFn K (.ref f15) = true)
    (l15 : K.lookup f15 = some ⟨oc15, od15, .func (PySem.W.fnOf "__init__" "Place.__init__" (defArgs s_Place___init__) (defBody s_Place___init__) (defScope s_Place___init__) .none kV15 dc15 pm15 an15 cd15 ct15), sl15⟩) (c15 : PySem.W.codeIn K cd15 "Place.__init__" = true) (k15 : PySem.W.keepIn K (.ref f15) = true)
    (a16 : PySem.W.nsIn K mainGlobals "places_of" = some (some (.ref f16)))
    (l16 : K.lookup f16 = some ⟨oc16, od16, .func (PySem.W.fnOf "places_of" "places_of" (defArgs s_places_of) (defBody s_places_of) (defScope s_places_of) dV16 kV16 dc16 pm16 an16 cd16 ct16), sl16⟩) (c16 : PySem.W.codeIn K cd16 "places_of" = true) (k16 : PySem.W.keepIn K (.ref f16) = true)
    (d16 : chkTup K [(.tuple [])] dV16 = true)
    (a17 : PySem.W.nsIn K mainGlobals "items_in_all" = some (some (.ref f17)))
    (l17 : K.lookup f17 = some ⟨oc17, od17, .func (PySem.W.fnOf "items_in_all" "items_in_all" (defArgs s_items_in_all) (defBody s_items_in_all) (defScope s_items_in_all) .none kV17 dc17 pm17 an17 cd17 ct17), sl17⟩) (c17 : PySem.W.codeIn K cd17 "items_in_all" = true) (k17 : PySem.W.keepIn K (.ref f17) = true)
    (a18 : PySem.W.nsIn K mainGlobals "is_code_form" = some (some (.ref f18)))
    (l18 : K.lookup f18 = some ⟨oc18, od18, .func (PySem.W.fnOf "is_code_form" "is_code_form" (defArgs s_is_code_form) (defBody s_is_code_form) (defScope s_is_code_form) .none kV18 dc18 pm18 an18 cd18 ct18), sl18⟩) (c18 : PySem.W.codeIn K cd18 "is_code_form" = true) (k18 : PySem.W.keepIn K (.ref f18) = true)
    (a19 : PySem.W.nsIn K mainGlobals "check_code" = some (some (.ref f19)))
    (l19 : K.lookup f19 = some ⟨oc19, od19, .func (PySem.W.fnOf "check_code" "check_code" (defArgs s_check_code) (defBody s_check_code) (defScope s_check_code) .none kV19 dc19 pm19 an19 cd19 ct19), sl19⟩) (c19 : PySem.W.codeIn K cd19 "check_code" = true) (k19 : PySem.W.keepIn K (.ref f19) = true)
    (a20 : PySem.W.nsIn K mainGlobals "check_f" = some (some (.ref f20)))
    (l20 : K.lookup f20 = some ⟨oc20, od20, .func (PySem.W.fnOf "check_f" "check_f" (defArgs s_check_f) (defBody s_check_f) (defScope s_check_f) .none kV20 dc20 pm20 an20 cd20 ct20), sl20⟩) (c20 : PySem.W.codeIn K cd20 "check_f" = true) (k20 : PySem.W.keepIn K (.ref f20) = true)
    (a21 : PySem.W.nsIn K mainGlobals "check_place" = some (some (.ref f21)))
    (l21 : K.lookup f21 = some ⟨oc21, od21, .func (PySem.W.fnOf "check_place" "check_place" (defArgs s_check_place) (defBody s_check_place) (defScope s_check_place) .none kV21 dc21 pm21 an21 cd21 ct21), sl21⟩) (c21 : PySem.W.codeIn K cd21 "check_place" = true) (k21 : PySem.W.keepIn K (.ref f21) = true)
    (a22 : PySem.W.nsIn K mainGlobals "net_of_item" = some (some (.ref f22)))
    (l22 : K.lookup f22 = some ⟨oc22, od22, .func (PySem.W.fnOf "net_of_item" "net_of_item" (defArgs s_net_of_item) (defBody s_net_of_item) (defScope s_net_of_item) .none kV22 dc22 pm22 an22 cd22 ct22), sl22⟩) (c22 : PySem.W.codeIn K cd22 "net_of_item" = true) (k22 : PySem.W.keepIn K (.ref f22) = true)
    (a23 : PySem.W.nsIn K mainGlobals "net_of_body" = some (some (.ref f23)))
    (l23 : K.lookup f23 = some ⟨oc23, od23, .func (PySem.W.fnOf "net_of_body" "net_of_body" (defArgs s_net_of_body) (defBody s_net_of_body) (defScope s_net_of_body) .none kV23 dc23 pm23 an23 cd23 ct23), sl23⟩) (c23 : PySem.W.codeIn K cd23 "net_of_body" = true) (k23 : PySem.W.keepIn K (.ref f23) = true)
    (a24 : PySem.W.nsIn K mainGlobals "nets_of" = some (some (.ref f24)))
    (l24 : K.lookup f24 = some ⟨oc24, od24, .func (PySem.W.fnOf "nets_of" "nets_of" (defArgs s_nets_of) (defBody s_nets_of) (defScope s_nets_of) .none kV24 dc24 pm24 an24 cd24 ct24), sl24⟩) (c24 : PySem.W.codeIn K cd24 "nets_of" = true) (k24 : PySem.W.keepIn K (.ref f24) = true)
    (a25 : PySem.W.nsIn K mainGlobals "is_unlike" = some (some (.ref f25)))
    (l25 : K.lookup f25 = some ⟨oc25, od25, .func (PySem.W.fnOf "is_unlike" "is_unlike" (defArgs s_is_unlike) (defBody s_is_unlike) (defScope s_is_unlike) .none kV25 dc25 pm25 an25 cd25 ct25), sl25⟩) (c25 : PySem.W.codeIn K cd25 "is_unlike" = true) (k25 : PySem.W.keepIn K (.ref f25) = true)
    (a26 : PySem.W.nsIn K mainGlobals "unlike_places" = some (some (.ref f26)))
    (l26 : K.lookup f26 = some ⟨oc26, od26, .func (PySem.W.fnOf "unlike_places" "unlike_places" (defArgs s_unlike_places) (defBody s_unlike_places) (defScope s_unlike_places) .none kV26 dc26 pm26 an26 cd26 ct26), sl26⟩) (c26 : PySem.W.codeIn K cd26 "unlike_places" = true) (k26 : PySem.W.keepIn K (.ref f26) = true)
    (a27 : PySem.W.nsIn K mainGlobals "heights_in" = some (some (.ref f27)))
    (l27 : K.lookup f27 = some ⟨oc27, od27, .func (PySem.W.fnOf "heights_in" "heights_in" (defArgs s_heights_in) (defBody s_heights_in) (defScope s_heights_in) .none kV27 dc27 pm27 an27 cd27 ct27), sl27⟩) (c27 : PySem.W.codeIn K cd27 "heights_in" = true) (k27 : PySem.W.keepIn K (.ref f27) = true)
    (a28 : PySem.W.findIn K (.ref C_Effects) "deeper" = some (some (.ref f28))) (fn28 : PySem.W.isFn K (.ref f28) = true)
    (l28 : K.lookup f28 = some ⟨oc28, od28, .func (PySem.W.fnOf "deeper" "Effects.deeper" (defArgs s_Effects_deeper) (defBody s_Effects_deeper) (defScope s_Effects_deeper) .none kV28 dc28 pm28 an28 cd28 ct28), sl28⟩) (c28 : PySem.W.codeIn K cd28 "Effects.deeper" = true) (k28 : PySem.W.keepIn K (.ref f28) = true)
    (a29 : PySem.W.findIn K (.ref C_Effects) "find_depths" = some (some (.ref f29))) (fn29 : PySem.W.isFn K (.ref f29) = true)
    (l29 : K.lookup f29 = some ⟨oc29, od29, .func (PySem.W.fnOf "find_depths" "Effects.find_depths" (defArgs s_Effects_find_depths) (defBody s_Effects_find_depths) (defScope s_Effects_find_depths) .none kV29 dc29 pm29 an29 cd29 ct29), sl29⟩) (c29 : PySem.W.codeIn K cd29 "Effects.find_depths" = true) (k29 : PySem.W.keepIn K (.ref f29) = true)
    (a30 : PySem.W.findIn K (.ref C_Effects) "__init__" = some (some (.ref f30))) (fn30 : PySem.W.isFn K (.ref f30) = true)
    (l30 : K.lookup f30 = some ⟨oc30, od30, .func (PySem.W.fnOf "__init__" "Effects.__init__" (defArgs s_Effects___init__) (defBody s_Effects___init__) (defScope s_Effects___init__) .none kV30 dc30 pm30 an30 cd30 ct30), sl30⟩) (c30 : PySem.W.codeIn K cd30 "Effects.__init__" = true) (k30 : PySem.W.keepIn K (.ref f30) = true)
    (a31 : PySem.W.findIn K (.ref C_Effects) "told" = some (some (.ref f31))) (fn31 : PySem.W.isFn K (.ref f31) = true)
    (l31 : K.lookup f31 = some ⟨oc31, od31, .func (PySem.W.fnOf "told" "Effects.told" (defArgs s_Effects_told) (defBody s_Effects_told) (defScope s_Effects_told) .none kV31 dc31 pm31 an31 cd31 ct31), sl31⟩) (c31 : PySem.W.codeIn K cd31 "Effects.told" = true) (k31 : PySem.W.keepIn K (.ref f31) = true)
    (a32 : PySem.W.findIn K (.ref C_Effects) "verdict" = some (some (.ref f32))) (fn32 : PySem.W.isFn K (.ref f32) = true)
    (l32 : K.lookup f32 = some ⟨oc32, od32, .func (PySem.W.fnOf "verdict" "Effects.verdict" (defArgs s_Effects_verdict) (defBody s_Effects_verdict) (defScope s_Effects_verdict) .none kV32 dc32 pm32 an32 cd32 ct32), sl32⟩) (c32 : PySem.W.codeIn K cd32 "Effects.verdict" = true) (k32 : PySem.W.keepIn K (.ref f32) = true)
    (a33 : PySem.W.nsIn K mainGlobals "check_even" = some (some (.ref f33)))
    (l33 : K.lookup f33 = some ⟨oc33, od33, .func (PySem.W.fnOf "check_even" "check_even" (defArgs s_check_even) (defBody s_check_even) (defScope s_check_even) .none kV33 dc33 pm33 an33 cd33 ct33), sl33⟩) (c33 : PySem.W.codeIn K cd33 "check_even" = true) (k33 : PySem.W.keepIn K (.ref f33) = true)
    (a34 : PySem.W.nsIn K mainGlobals "nets" = some (some (.ref f34)))
    (l34 : K.lookup f34 = some ⟨oc34, od34, .func (PySem.W.fnOf "nets" "nets" (defArgs s_nets) (defBody s_nets) (defScope s_nets) .none kV34 dc34 pm34 an34 cd34 ct34), sl34⟩) (c34 : PySem.W.codeIn K cd34 "nets" = true) (k34 : PySem.W.keepIn K (.ref f34) = true)
    (a35 : PySem.W.nsIn K mainGlobals "verdict" = some (some (.ref f35)))
    (l35 : K.lookup f35 = some ⟨oc35, od35, .func (PySem.W.fnOf "verdict" "verdict" (defArgs s_verdict) (defBody s_verdict) (defScope s_verdict) .none kV35 dc35 pm35 an35 cd35 ct35), sl35⟩) (c35 : PySem.W.codeIn K cd35 "verdict" = true) (k35 : PySem.W.keepIn K (.ref f35) = true)
    (a36 : PySem.W.findIn K (.ref C_Effects) "ring" = some (some (.ref f36))) (fn36 : PySem.W.isFn K (.ref f36) = true)
    (l36 : K.lookup f36 = some ⟨oc36, od36, .func (PySem.W.fnOf "ring" "Effects.ring" (defArgs s_Effects_ring) (defBody s_Effects_ring) (defScope s_Effects_ring) .none kV36 dc36 pm36 an36 cd36 ct36), sl36⟩) (c36 : PySem.W.codeIn K cd36 "Effects.ring" = true) (k36 : PySem.W.keepIn K (.ref f36) = true)
    (a37 : PySem.W.nsIn K mainGlobals "ring" = some (some (.ref f37)))
    (l37 : K.lookup f37 = some ⟨oc37, od37, .func (PySem.W.fnOf "ring" "ring" (defArgs s_ring) (defBody s_ring) (defScope s_ring) .none kV37 dc37 pm37 an37 cd37 ct37), sl37⟩) (c37 : PySem.W.codeIn K cd37 "ring" = true) (k37 : PySem.W.keepIn K (.ref f37) = true)
    (a38 : PySem.W.nsIn K mainGlobals "effects" = some (some (.ref f38)))
    (l38 : K.lookup f38 = some ⟨oc38, od38, .func (PySem.W.fnOf "effects" "effects" (defArgs s_effects) (defBody s_effects) (defScope s_effects) .none kV38 dc38 pm38 an38 cd38 ct38), sl38⟩) (c38 : PySem.W.codeIn K cd38 "effects" = true) (k38 : PySem.W.keepIn K (.ref f38) = true)
    (a39 : PySem.W.nsIn K mainGlobals "height_at" = some (some (.ref f39)))
    (l39 : K.lookup f39 = some ⟨oc39, od39, .func (PySem.W.fnOf "height_at" "height_at" (defArgs s_height_at) (defBody s_height_at) (defScope s_height_at) .none kV39 dc39 pm39 an39 cd39 ct39), sl39⟩) (c39 : PySem.W.codeIn K cd39 "height_at" = true) (k39 : PySem.W.keepIn K (.ref f39) = true)
    (a40 : PySem.W.nsIn K mainGlobals "_law_pail" = some (some (.ref f40)))
    (l40 : K.lookup f40 = some ⟨oc40, od40, .func (PySem.W.fnOf "_law_pail" "_law_pail" (defArgs s__law_pail) (defBody s__law_pail) (defScope s__law_pail) .none kV40 dc40 pm40 an40 cd40 ct40), sl40⟩) (c40 : PySem.W.codeIn K cd40 "_law_pail" = true) (k40 : PySem.W.keepIn K (.ref f40) = true)
    (a41 : PySem.W.nsIn K mainGlobals "_law_deal" = some (some (.ref f41)))
    (l41 : K.lookup f41 = some ⟨oc41, od41, .func (PySem.W.fnOf "_law_deal" "_law_deal" (defArgs s__law_deal) (defBody s__law_deal) (defScope s__law_deal) .none kV41 dc41 pm41 an41 cd41 ct41), sl41⟩) (c41 : PySem.W.codeIn K cd41 "_law_deal" = true) (k41 : PySem.W.keepIn K (.ref f41) = true)
    (a42 : PySem.W.nsIn K mainGlobals "_law_inner" = some (some (.ref f42)))
    (l42 : K.lookup f42 = some ⟨oc42, od42, .func (PySem.W.fnOf "_law_inner" "_law_inner" (defArgs s__law_inner) (defBody s__law_inner) (defScope s__law_inner) .none kV42 dc42 pm42 an42 cd42 ct42), sl42⟩) (c42 : PySem.W.codeIn K cd42 "_law_inner" = true) (k42 : PySem.W.keepIn K (.ref f42) = true)
    (a43 : PySem.W.nsIn K mainGlobals "_law_items" = some (some (.ref f43)))
    (l43 : K.lookup f43 = some ⟨oc43, od43, .func (PySem.W.fnOf "_law_items" "_law_items" (defArgs s__law_items) (defBody s__law_items) (defScope s__law_items) .none kV43 dc43 pm43 an43 cd43 ct43), sl43⟩) (c43 : PySem.W.codeIn K cd43 "_law_items" = true) (k43 : PySem.W.keepIn K (.ref f43) = true)
    (a44 : PySem.W.nsIn K mainGlobals "_law_many" = some (some (.ref f44)))
    (l44 : K.lookup f44 = some ⟨oc44, od44, .func (PySem.W.fnOf "_law_many" "_law_many" (defArgs s__law_many) (defBody s__law_many) (defScope s__law_many) .none kV44 dc44 pm44 an44 cd44 ct44), sl44⟩) (c44 : PySem.W.codeIn K cd44 "_law_many" = true) (k44 : PySem.W.keepIn K (.ref f44) = true)
    (a45 : PySem.W.nsIn K mainGlobals "_law_takes" = some (some (.ref f45)))
    (l45 : K.lookup f45 = some ⟨oc45, od45, .func (PySem.W.fnOf "_law_takes" "_law_takes" (defArgs s__law_takes) (defBody s__law_takes) (defScope s__law_takes) .none kV45 dc45 pm45 an45 cd45 ct45), sl45⟩) (c45 : PySem.W.codeIn K cd45 "_law_takes" = true) (k45 : PySem.W.keepIn K (.ref f45) = true)
    (a46 : PySem.W.nsIn K mainGlobals "_law_passes" = some (some (.ref f46)))
    (l46 : K.lookup f46 = some ⟨oc46, od46, .func (PySem.W.fnOf "_law_passes" "_law_passes" (defArgs s__law_passes) (defBody s__law_passes) (defScope s__law_passes) .none kV46 dc46 pm46 an46 cd46 ct46), sl46⟩) (c46 : PySem.W.codeIn K cd46 "_law_passes" = true) (k46 : PySem.W.keepIn K (.ref f46) = true)
    (a47 : PySem.W.nsIn K mainGlobals "_law_item_net" = some (some (.ref f47)))
    (l47 : K.lookup f47 = some ⟨oc47, od47, .func (PySem.W.fnOf "_law_item_net" "_law_item_net" (defArgs s__law_item_net) (defBody s__law_item_net) (defScope s__law_item_net) .none kV47 dc47 pm47 an47 cd47 ct47), sl47⟩) (c47 : PySem.W.codeIn K cd47 "_law_item_net" = true) (k47 : PySem.W.keepIn K (.ref f47) = true)
    (a48 : PySem.W.nsIn K mainGlobals "_law_nets" = some (some (.ref f48)))
    (l48 : K.lookup f48 = some ⟨oc48, od48, .func (PySem.W.fnOf "_law_nets" "_law_nets" (defArgs s__law_nets) (defBody s__law_nets) (defScope s__law_nets) .none kV48 dc48 pm48 an48 cd48 ct48), sl48⟩) (c48 : PySem.W.codeIn K cd48 "_law_nets" = true) (k48 : PySem.W.keepIn K (.ref f48) = true)
    (a49 : PySem.W.nsIn K mainGlobals "_law_lift" = some (some (.ref f49)))
    (l49 : K.lookup f49 = some ⟨oc49, od49, .func (PySem.W.fnOf "_law_lift" "_law_lift" (defArgs s__law_lift) (defBody s__law_lift) (defScope s__law_lift) .none kV49 dc49 pm49 an49 cd49 ct49), sl49⟩) (c49 : PySem.W.codeIn K cd49 "_law_lift" = true) (k49 : PySem.W.keepIn K (.ref f49) = true)
    (a50 : PySem.W.nsIn K mainGlobals "_law_lifts" = some (some (.ref f50)))
    (l50 : K.lookup f50 = some ⟨oc50, od50, .func (PySem.W.fnOf "_law_lifts" "_law_lifts" (defArgs s__law_lifts) (defBody s__law_lifts) (defScope s__law_lifts) .none kV50 dc50 pm50 an50 cd50 ct50), sl50⟩) (c50 : PySem.W.codeIn K cd50 "_law_lifts" = true) (k50 : PySem.W.keepIn K (.ref f50) = true)
    (a51 : PySem.W.nsIn K mainGlobals "_law_is_ring" = some (some (.ref f51)))
    (l51 : K.lookup f51 = some ⟨oc51, od51, .func (PySem.W.fnOf "_law_is_ring" "_law_is_ring" (defArgs s__law_is_ring) (defBody s__law_is_ring) (defScope s__law_is_ring) .none kV51 dc51 pm51 an51 cd51 ct51), sl51⟩) (c51 : PySem.W.codeIn K cd51 "_law_is_ring" = true) (k51 : PySem.W.keepIn K (.ref f51) = true)
    (a52 : PySem.W.nsIn K mainGlobals "_law_right" = some (some (.ref f52)))
    (l52 : K.lookup f52 = some ⟨oc52, od52, .func (PySem.W.fnOf "_law_right" "_law_right" (defArgs s__law_right) (defBody s__law_right) (defScope s__law_right) .none kV52 dc52 pm52 an52 cd52 ct52), sl52⟩) (c52 : PySem.W.codeIn K cd52 "_law_right" = true) (k52 : PySem.W.keepIn K (.ref f52) = true)
    (a53 : PySem.W.nsIn K mainGlobals "law" = some (some (.ref f53)))
    (l53 : K.lookup f53 = some ⟨oc53, od53, .func (PySem.W.fnOf "law" "law" (defArgs s_law) (defBody s_law) (defScope s_law) .none kV53 dc53 pm53 an53 cd53 ct53), sl53⟩) (c53 : PySem.W.codeIn K cd53 "law" = true) (k53 : PySem.W.keepIn K (.ref f53) = true)
    (kc_ADD : chkG K "ADD" c_ADD = true)
    (kc_BARE : chkG K "BARE" c_BARE = true)
    (kc_BOTTOMLESS : chkG K "BOTTOMLESS" c_BOTTOMLESS = true)
    (kc_CALL : chkG K "CALL" c_CALL = true)
    (kc_COPY : chkG K "COPY" c_COPY = true)
    (kc_DEEPEST : chkG K "DEEPEST" c_DEEPEST = true)
    (kc_DROP : chkG K "DROP" c_DROP = true)
    (kc_EVEN : chkG K "EVEN" c_EVEN = true)
    (kc_IF : chkG K "IF" c_IF = true)
    (kc_MOST_DEEP : chkG K "MOST_DEEP" c_MOST_DEEP = true)
    (kc_MOST_FUNCTIONS : chkG K "MOST_FUNCTIONS" c_MOST_FUNCTIONS = true)
    (kc_MOST_ITEMS : chkG K "MOST_ITEMS" c_MOST_ITEMS = true)
    (kc_ROLL : chkG K "ROLL" c_ROLL = true)
    (kc_ROUND : chkG K "ROUND" c_ROUND = true)
    (kc_ROUND_NET : chkG K "ROUND_NET" c_ROUND_NET = true)
    (kc_SUB : chkG K "SUB" c_SUB = true)
    (kc_UNLIKE : chkG K "UNLIKE" c_UNLIKE = true)
    (kc_WHILE : chkG K "WHILE" c_WHILE = true)
    (kc_WORD : chkG K "WORD" c_WORD = true)
    (qn_LEAVES : PySem.W.nsIn K mainGlobals "LEAVES" = some (some (.ref qa_LEAVES))) (ql_LEAVES : K.lookup qa_LEAVES = some ⟨.type "dict", none, .dict es_LEAVES nn_LEAVES, #[]⟩) (qk_LEAVES : PySem.W.KeysLit w.params es_LEAVES.toList) (qc_LEAVES : chkKeys K qa_LEAVES q_LEAVES = true)
    (qn_TAKES : PySem.W.nsIn K mainGlobals "TAKES" = some (some (.ref qa_TAKES))) (ql_TAKES : K.lookup qa_TAKES = some ⟨.type "dict", none, .dict es_TAKES nn_TAKES, #[]⟩) (qk_TAKES : PySem.W.KeysLit w.params es_TAKES.toList) (qc_TAKES : chkKeys K qa_TAKES q_TAKES = true)
    (z_abs : PySem.W.nsIn K mainGlobals "abs" = some none)
    (z_all : PySem.W.nsIn K mainGlobals "all" = some none)
    (z_bool : PySem.W.nsIn K mainGlobals "bool" = some none)
    (z_dict : PySem.W.nsIn K mainGlobals "dict" = some none)
    (z_divmod : PySem.W.nsIn K mainGlobals "divmod" = some none)
    (z_enumerate : PySem.W.nsIn K mainGlobals "enumerate" = some none)
    (z_int : PySem.W.nsIn K mainGlobals "int" = some none)
    (z_isinstance : PySem.W.nsIn K mainGlobals "isinstance" = some none)
    (z_len : PySem.W.nsIn K mainGlobals "len" = some none)
    (z_list : PySem.W.nsIn K mainGlobals "list" = some none)
    (z_max : PySem.W.nsIn K mainGlobals "max" = some none)
    (z_min : PySem.W.nsIn K mainGlobals "min" = some none)
    (z_range : PySem.W.nsIn K mainGlobals "range" = some none)
    (z_repr : PySem.W.nsIn K mainGlobals "repr" = some none)
    (z_str : PySem.W.nsIn K mainGlobals "str" = some none)
    (z_sum : PySem.W.nsIn K mainGlobals "sum" = some none)
    (z_tuple : PySem.W.nsIn K mainGlobals "tuple" = some none)
    (z_zip : PySem.W.nsIn K mainGlobals "zip" = some none) :
    ∃ fd : FuncData, (∀ (s : Shared) (u : Value), BindsTo s fd ⟨[u], []⟩ [("script", u)]) ∧ ∀ base : Heap, K.In base → base.Ns mainGlobals mg → DFn P w K mg base fld 32 fa fd ["script"] m_law := by
  have e := hfa.symm.trans (PySem.W.mg_of KX G a53)
  cases e
  have T : { T : Txt K w mg // T.f_law = fa ∧ T.fd_law = PySem.W.fnOf "law" "law" (defArgs s_law) (defBody s_law) (defScope s_law) .none kV53 dc53 pm53 an53 cd53 ct53 } := ⟨{ C_Place := C_Place, X_Place := clsX (PySem.W.mg_of KX G ca_Place) cc_Place, C_Effects := C_Effects, X_Effects := clsX (PySem.W.mg_of KX G ca_Effects) cc_Effects, f_is_whole := f0, fd_is_whole := _, F_is_whole := fx_mk (st := s_is_whole) l0 c0 k0, g_is_whole := PySem.W.mg_of KX G a0, f_is_number := f1, fd_is_number := _, dV_is_number := dV1, F_is_number := fx_mk (st := s_is_number) l1 c1 k1, g_is_number := PySem.W.mg_of KX G a1, d_is_number := d1, f_is_word := f2, fd_is_word := _, F_is_word := fx_mk (st := s_is_word) l2 c2 k2, g_is_word := PySem.W.mg_of KX G a2, f_is_tuple_of := f3, fd_is_tuple_of := _, F_is_tuple_of := fx_mk (st := s_is_tuple_of) l3 c3 k3, g_is_tuple_of := PySem.W.mg_of KX G a3, f_is_short_tuple := f4, fd_is_short_tuple := _, F_is_short_tuple := fx_mk (st := s_is_short_tuple) l4 c4 k4, g_is_short_tuple := PySem.W.mg_of KX G a4, f_is_shuffle := f5, fd_is_shuffle := _, F_is_shuffle := fx_mk (st := s_is_shuffle) l5 c5 k5, g_is_shuffle := PySem.W.mg_of KX G a5, f_looks_of := f6, fd_looks_of := _, F_looks_of := fx_mk (st := s_looks_of) l6 c6 k6, g_looks_of := PySem.W.mg_of KX G a6, f_is_headed := f7, fd_is_headed := _, F_is_headed := fx_mk (st := s_is_headed) l7 c7 k7, g_is_headed := PySem.W.mg_of KX G a7, f_is_plain_item := f8, fd_is_plain_item := _, F_is_plain_item := fx_mk (st := s_is_plain_item) l8 c8 k8, g_is_plain_item := PySem.W.mg_of KX G a8, f_bodies_in := f9, fd_bodies_in := _, F_bodies_in := fx_mk (st := s_bodies_in) l9 c9 k9, g_bodies_in := PySem.W.mg_of KX G a9, f_is_item := f10, fd_is_item := _, F_is_item := fx_mk (st := s_is_item) l10 c10 k10, g_is_item := PySem.W.mg_of KX G a10, f_is_body := f11, fd_is_body := _, F_is_body := fx_mk (st := s_is_body) l11 c11 k11, g_is_body := PySem.W.mg_of KX G a11, f_taken_by := f12, fd_taken_by := _, F_taken_by := fx_mk (st := s_taken_by) l12 c12 k12, g_taken_by := PySem.W.mg_of KX G a12, f_left_by := f13, fd_left_by := _, F_left_by := fx_mk (st := s_left_by) l13 c13 k13, g_left_by := PySem.W.mg_of KX G a13, f_size_of := f14, fd_size_of := _, F_size_of := fx_mk (st := s_size_of) l14 c14 k14, g_size_of := PySem.W.mg_of KX G a14, f_Place___init__ := f15, fd_Place___init__ := _, F_Place___init__ := fx_mk (st := s_Place___init__) l15 c15 k15, M_Place___init__ := ⟨a15, fn15, k15⟩, f_places_of := f16, fd_places_of := _, dV_places_of := dV16, F_places_of := fx_mk (st := s_places_of) l16 c16 k16, g_places_of := PySem.W.mg_of KX G a16, d_places_of := d16, f_items_in_all := f17, fd_items_in_all := _, F_items_in_all := fx_mk (st := s_items_in_all) l17 c17 k17, g_items_in_all := PySem.W.mg_of KX G a17, f_is_code_form := f18, fd_is_code_form := _, F_is_code_form := fx_mk (st := s_is_code_form) l18 c18 k18, g_is_code_form := PySem.W.mg_of KX G a18, f_check_code := f19, fd_check_code := _, F_check_code := fx_mk (st := s_check_code) l19 c19 k19, g_check_code := PySem.W.mg_of KX G a19, f_check_f := f20, fd_check_f := _, F_check_f := fx_mk (st := s_check_f) l20 c20 k20, g_check_f := PySem.W.mg_of KX G a20, f_check_place := f21, fd_check_place := _, F_check_place := fx_mk (st := s_check_place) l21 c21 k21, g_check_place := PySem.W.mg_of KX G a21, f_net_of_item := f22, fd_net_of_item := _, F_net_of_item := fx_mk (st := s_net_of_item) l22 c22 k22, g_net_of_item := PySem.W.mg_of KX G a22, f_net_of_body := f23, fd_net_of_body := _, F_net_of_body := fx_mk (st := s_net_of_body) l23 c23 k23, g_net_of_body := PySem.W.mg_of KX G a23, f_nets_of := f24, fd_nets_of := _, F_nets_of := fx_mk (st := s_nets_of) l24 c24 k24, g_nets_of := PySem.W.mg_of KX G a24, f_is_unlike := f25, fd_is_unlike := _, F_is_unlike := fx_mk (st := s_is_unlike) l25 c25 k25, g_is_unlike := PySem.W.mg_of KX G a25, f_unlike_places := f26, fd_unlike_places := _, F_unlike_places := fx_mk (st := s_unlike_places) l26 c26 k26, g_unlike_places := PySem.W.mg_of KX G a26, f_heights_in := f27, fd_heights_in := _, F_heights_in := fx_mk (st := s_heights_in) l27 c27 k27, g_heights_in := PySem.W.mg_of KX G a27, f_Effects_deeper := f28, fd_Effects_deeper := _, F_Effects_deeper := fx_mk (st := s_Effects_deeper) l28 c28 k28, M_Effects_deeper := ⟨a28, fn28, k28⟩, f_Effects_find_depths := f29, fd_Effects_find_depths := _, F_Effects_find_depths := fx_mk (st := s_Effects_find_depths) l29 c29 k29, M_Effects_find_depths := ⟨a29, fn29, k29⟩, f_Effects___init__ := f30, fd_Effects___init__ := _, F_Effects___init__ := fx_mk (st := s_Effects___init__) l30 c30 k30, M_Effects___init__ := ⟨a30, fn30, k30⟩, f_Effects_told := f31, fd_Effects_told := _, F_Effects_told := fx_mk (st := s_Effects_told) l31 c31 k31, M_Effects_told := ⟨a31, fn31, k31⟩, f_Effects_verdict := f32, fd_Effects_verdict := _, F_Effects_verdict := fx_mk (st := s_Effects_verdict) l32 c32 k32, M_Effects_verdict := ⟨a32, fn32, k32⟩, f_check_even := f33, fd_check_even := _, F_check_even := fx_mk (st := s_check_even) l33 c33 k33, g_check_even := PySem.W.mg_of KX G a33, f_nets := f34, fd_nets := _, F_nets := fx_mk (st := s_nets) l34 c34 k34, g_nets := PySem.W.mg_of KX G a34, f_verdict := f35, fd_verdict := _, F_verdict := fx_mk (st := s_verdict) l35 c35 k35, g_verdict := PySem.W.mg_of KX G a35, f_Effects_ring := f36, fd_Effects_ring := _, F_Effects_ring := fx_mk (st := s_Effects_ring) l36 c36 k36, M_Effects_ring := ⟨a36, fn36, k36⟩, f_ring := f37, fd_ring := _, F_ring := fx_mk (st := s_ring) l37 c37 k37, g_ring := PySem.W.mg_of KX G a37, f_effects := f38, fd_effects := _, F_effects := fx_mk (st := s_effects) l38 c38 k38, g_effects := PySem.W.mg_of KX G a38, f_height_at := f39, fd_height_at := _, F_height_at := fx_mk (st := s_height_at) l39 c39 k39, g_height_at := PySem.W.mg_of KX G a39, f__law_pail := f40, fd__law_pail := _, F__law_pail := fx_mk (st := s__law_pail) l40 c40 k40, g__law_pail := PySem.W.mg_of KX G a40, f__law_deal := f41, fd__law_deal := _, F__law_deal := fx_mk (st := s__law_deal) l41 c41 k41, g__law_deal := PySem.W.mg_of KX G a41, f__law_inner := f42, fd__law_inner := _, F__law_inner := fx_mk (st := s__law_inner) l42 c42 k42, g__law_inner := PySem.W.mg_of KX G a42, f__law_items := f43, fd__law_items := _, F__law_items := fx_mk (st := s__law_items) l43 c43 k43, g__law_items := PySem.W.mg_of KX G a43, f__law_many := f44, fd__law_many := _, F__law_many := fx_mk (st := s__law_many) l44 c44 k44, g__law_many := PySem.W.mg_of KX G a44, f__law_takes := f45, fd__law_takes := _, F__law_takes := fx_mk (st := s__law_takes) l45 c45 k45, g__law_takes := PySem.W.mg_of KX G a45, f__law_passes := f46, fd__law_passes := _, F__law_passes := fx_mk (st := s__law_passes) l46 c46 k46, g__law_passes := PySem.W.mg_of KX G a46, f__law_item_net := f47, fd__law_item_net := _, F__law_item_net := fx_mk (st := s__law_item_net) l47 c47 k47, g__law_item_net := PySem.W.mg_of KX G a47, f__law_nets := f48, fd__law_nets := _, F__law_nets := fx_mk (st := s__law_nets) l48 c48 k48, g__law_nets := PySem.W.mg_of KX G a48, f__law_lift := f49, fd__law_lift := _, F__law_lift := fx_mk (st := s__law_lift) l49 c49 k49, g__law_lift := PySem.W.mg_of KX G a49, f__law_lifts := f50, fd__law_lifts := _, F__law_lifts := fx_mk (st := s__law_lifts) l50 c50 k50, g__law_lifts := PySem.W.mg_of KX G a50, f__law_is_ring := f51, fd__law_is_ring := _, F__law_is_ring := fx_mk (st := s__law_is_ring) l51 c51 k51, g__law_is_ring := PySem.W.mg_of KX G a51, f__law_right := f52, fd__law_right := _, F__law_right := fx_mk (st := s__law_right) l52 c52 k52, g__law_right := PySem.W.mg_of KX G a52, f_law := fa, fd_law := _, F_law := fx_mk (st := s_law) l53 c53 k53, g_law := PySem.W.mg_of KX G a53, K_Place := ⟨cm_Place, a15, fn15, ck_Place⟩, K_Effects := ⟨cm_Effects, a30, fn30, ck_Effects⟩, k_ADD := globD KX G kc_ADD, k_BARE := globD KX G kc_BARE, k_BOTTOMLESS := globD KX G kc_BOTTOMLESS, k_CALL := globD KX G kc_CALL, k_COPY := globD KX G kc_COPY, k_DEEPEST := globD KX G kc_DEEPEST, k_DROP := globD KX G kc_DROP, k_EVEN := globD KX G kc_EVEN, k_IF := globD KX G kc_IF, k_MOST_DEEP := globD KX G kc_MOST_DEEP, k_MOST_FUNCTIONS := globD KX G kc_MOST_FUNCTIONS, k_MOST_ITEMS := globD KX G kc_MOST_ITEMS, k_ROLL := globD KX G kc_ROLL, k_ROUND := globD KX G kc_ROUND, k_ROUND_NET := globD KX G kc_ROUND_NET, k_SUB := globD KX G kc_SUB, k_UNLIKE := globD KX G kc_UNLIKE, k_WHILE := globD KX G kc_WHILE, k_WORD := globD KX G kc_WORD, q_LEAVES := kdctG KX G qn_LEAVES ql_LEAVES qk_LEAVES qc_LEAVES, q_TAKES := kdctG KX G qn_TAKES ql_TAKES qk_TAKES qc_TAKES, z_abs := PySem.W.mg_none_of KX G z_abs, z_all := PySem.W.mg_none_of KX G z_all, z_bool := PySem.W.mg_none_of KX G z_bool, z_dict := PySem.W.mg_none_of KX G z_dict, z_divmod := PySem.W.mg_none_of KX G z_divmod, z_enumerate := PySem.W.mg_none_of KX G z_enumerate, z_int := PySem.W.mg_none_of KX G z_int, z_isinstance := PySem.W.mg_none_of KX G z_isinstance, z_len := PySem.W.mg_none_of KX G z_len, z_list := PySem.W.mg_none_of KX G z_list, z_max := PySem.W.mg_none_of KX G z_max, z_min := PySem.W.mg_none_of KX G z_min, z_range := PySem.W.mg_none_of KX G z_range, z_repr := PySem.W.mg_none_of KX G z_repr, z_str := PySem.W.mg_none_of KX G z_str, z_sum := PySem.W.mg_none_of KX G z_sum, z_tuple := PySem.W.mg_none_of KX G z_tuple, z_zip := PySem.W.mg_none_of KX G z_zip }, rfl, rfl⟩
  obtain ⟨T, e1, e2⟩ := T
  refine ⟨PySem.W.fnOf "law" "law" (defArgs s_law) (defBody s_law) (defScope s_law) .none kV53 dc53 pm53 an53 cd53 ct53, fun s u => .of_eq rfl, fun base _ _ => ?_⟩
  have z := ok_law (P := P) (w := w) (base := base) (fld := fld) T
  rw [e1, e2] at z
  exact z
end L39
open PySem PySem.W PyProof.Rows
theorem PySem.Challenge.cw_barestack_k39_whole_known_nets_verdicts_holds : PySem.Challenge.rw_barestack_k39_whole_known_nets_verdicts.Holds := by
  w_on; o_law; k_head; (case hw => w_witness2)
  k_fill
  refine DL.walk_ofG (N := 0) (l := PySem.Challenge.rw_barestack_k39_whole_known_nets_verdicts) (n := 63) (k := 32) (x := "script") (m := L39.m_law) (fld := fun _ => "") rfl (by decide) rfl ⟨rfl, by decide, by decide⟩ (fun w h Y => PySem.W.kIn_of Y) (fun w a o e => DL.noList_ok (by kernel_rfl) e) ?F L39.law_true
  case F =>
    intro w mg fa h KX G hmg
    refine' L39.all_mk KX G hmg ?ca_Place ?cc_Place ?cm_Place ?ck_Place ?ca_Effects ?cc_Effects ?cm_Effects ?ck_Effects ?a0 ?l0 ?c0 ?k0 ?a1 ?l1 ?c1 ?k1 ?d1 ?a2 ?l2 ?c2 ?k2 ?a3 ?l3 ?c3 ?k3 ?a4 ?l4 ?c4 ?k4 ?a5 ?l5 ?c5 ?k5 ?a6 ?l6 ?c6 ?k6 ?a7 ?l7 ?c7 ?k7 ?a8 ?l8 ?c8 ?k8 ?a9 ?l9 ?c9 ?k9 ?a10 ?l10 ?c10 ?k10 ?a11 ?l11 ?c11 ?k11 ?a12 ?l12 ?c12 ?k12 ?a13 ?l13 ?c13 ?k13 ?a14 ?l14 ?c14 ?k14 ?a15 ?fn15 ?l15 ?c15 ?k15 ?a16 ?l16 ?c16 ?k16 ?d16 ?a17 ?l17 ?c17 ?k17 ?a18 ?l18 ?c18 ?k18 ?a19 ?l19 ?c19 ?k19 ?a20 ?l20 ?c20 ?k20 ?a21 ?l21 ?c21 ?k21 ?a22 ?l22 ?c22 ?k22 ?a23 ?l23 ?c23 ?k23 ?a24 ?l24 ?c24 ?k24 ?a25 ?l25 ?c25 ?k25 ?a26 ?l26 ?c26 ?k26 ?a27 ?l27 ?c27 ?k27 ?a28 ?fn28 ?l28 ?c28 ?k28 ?a29 ?fn29 ?l29 ?c29 ?k29 ?a30 ?fn30 ?l30 ?c30 ?k30 ?a31 ?fn31 ?l31 ?c31 ?k31 ?a32 ?fn32 ?l32 ?c32 ?k32 ?a33 ?l33 ?c33 ?k33 ?a34 ?l34 ?c34 ?k34 ?a35 ?l35 ?c35 ?k35 ?a36 ?fn36 ?l36 ?c36 ?k36 ?a37 ?l37 ?c37 ?k37 ?a38 ?l38 ?c38 ?k38 ?a39 ?l39 ?c39 ?k39 ?a40 ?l40 ?c40 ?k40 ?a41 ?l41 ?c41 ?k41 ?a42 ?l42 ?c42 ?k42 ?a43 ?l43 ?c43 ?k43 ?a44 ?l44 ?c44 ?k44 ?a45 ?l45 ?c45 ?k45 ?a46 ?l46 ?c46 ?k46 ?a47 ?l47 ?c47 ?k47 ?a48 ?l48 ?c48 ?k48 ?a49 ?l49 ?c49 ?k49 ?a50 ?l50 ?c50 ?k50 ?a51 ?l51 ?c51 ?k51 ?a52 ?l52 ?c52 ?k52 ?a53 ?l53 ?c53 ?k53 ?kc_ADD ?kc_BARE ?kc_BOTTOMLESS ?kc_CALL ?kc_COPY ?kc_DEEPEST ?kc_DROP ?kc_EVEN ?kc_IF ?kc_MOST_DEEP ?kc_MOST_FUNCTIONS ?kc_MOST_ITEMS ?kc_ROLL ?kc_ROUND ?kc_ROUND_NET ?kc_SUB ?kc_UNLIKE ?kc_WHILE ?kc_WORD ?qn_LEAVES ?ql_LEAVES ?qk_LEAVES ?qc_LEAVES ?qn_TAKES ?ql_TAKES ?qk_TAKES ?qc_TAKES ?z_abs ?z_all ?z_bool ?z_dict ?z_divmod ?z_enumerate ?z_int ?z_isinstance ?z_len ?z_list ?z_max ?z_min ?z_range ?z_repr ?z_str ?z_sum ?z_tuple ?z_zip
    (case ca_Place => k_is)
    (case cc_Place => kernel_rfl)
    (case cm_Place => kernel_rfl)
    (case ck_Place => k_is)
    (case ca_Effects => k_is)
    (case cc_Effects => kernel_rfl)
    (case cm_Effects => kernel_rfl)
    (case ck_Effects => k_is)
    (case a0 => k_is)
    (case l0 => k_is)
    (case c0 => k_is)
    (case k0 => k_is)
    (case a1 => k_is)
    (case l1 => k_is)
    (case c1 => k_is)
    (case k1 => k_is)
    (case d1 => kernel_rfl)
    (case a2 => k_is)
    (case l2 => k_is)
    (case c2 => k_is)
    (case k2 => k_is)
    (case a3 => k_is)
    (case l3 => k_is)
    (case c3 => k_is)
    (case k3 => k_is)
    (case a4 => k_is)
    (case l4 => k_is)
    (case c4 => k_is)
    (case k4 => k_is)
    (case a5 => k_is)
    (case l5 => k_is)
    (case c5 => k_is)
    (case k5 => k_is)
    (case a6 => k_is)
    (case l6 => k_is)
    (case c6 => k_is)
    (case k6 => k_is)
    (case a7 => k_is)
    (case l7 => k_is)
    (case c7 => k_is)
    (case k7 => k_is)
    (case a8 => k_is)
    (case l8 => k_is)
    (case c8 => k_is)
    (case k8 => k_is)
    (case a9 => k_is)
    (case l9 => k_is)
    (case c9 => k_is)
    (case k9 => k_is)
    (case a10 => k_is)
    (case l10 => k_is)
    (case c10 => k_is)
    (case k10 => k_is)
    (case a11 => k_is)
    (case l11 => k_is)
    (case c11 => k_is)
    (case k11 => k_is)
    (case a12 => k_is)
    (case l12 => k_is)
    (case c12 => k_is)
    (case k12 => k_is)
    (case a13 => k_is)
    (case l13 => k_is)
    (case c13 => k_is)
    (case k13 => k_is)
    (case a14 => k_is)
    (case l14 => k_is)
    (case c14 => k_is)
    (case k14 => k_is)
    (case a15 => k_is)
    (case fn15 => kernel_rfl)
    (case l15 => k_is)
    (case c15 => k_is)
    (case k15 => k_is)
    (case a16 => k_is)
    (case l16 => k_is)
    (case c16 => k_is)
    (case k16 => k_is)
    (case d16 => kernel_rfl)
    (case a17 => k_is)
    (case l17 => k_is)
    (case c17 => k_is)
    (case k17 => k_is)
    (case a18 => k_is)
    (case l18 => k_is)
    (case c18 => k_is)
    (case k18 => k_is)
    (case a19 => k_is)
    (case l19 => k_is)
    (case c19 => k_is)
    (case k19 => k_is)
    (case a20 => k_is)
    (case l20 => k_is)
    (case c20 => k_is)
    (case k20 => k_is)
    (case a21 => k_is)
    (case l21 => k_is)
    (case c21 => k_is)
    (case k21 => k_is)
    (case a22 => k_is)
    (case l22 => k_is)
    (case c22 => k_is)
    (case k22 => k_is)
    (case a23 => k_is)
    (case l23 => k_is)
    (case c23 => k_is)
    (case k23 => k_is)
    (case a24 => k_is)
    (case l24 => k_is)
    (case c24 => k_is)
    (case k24 => k_is)
    (case a25 => k_is)
    (case l25 => k_is)
    (case c25 => k_is)
    (case k25 => k_is)
    (case a26 => k_is)
    (case l26 => k_is)
    (case c26 => k_is)
    (case k26 => k_is)
    (case a27 => k_is)
    (case l27 => k_is)
    (case c27 => k_is)
    (case k27 => k_is)
    (case a28 => k_is)
    (case fn28 => kernel_rfl)
    (case l28 => k_is)
    (case c28 => k_is)
    (case k28 => k_is)
    (case a29 => k_is)
    (case fn29 => kernel_rfl)
    (case l29 => k_is)
    (case c29 => k_is)
    (case k29 => k_is)
    (case a30 => k_is)
    (case fn30 => kernel_rfl)
    (case l30 => k_is)
    (case c30 => k_is)
    (case k30 => k_is)
    (case a31 => k_is)
    (case fn31 => kernel_rfl)
    (case l31 => k_is)
    (case c31 => k_is)
    (case k31 => k_is)
    (case a32 => k_is)
    (case fn32 => kernel_rfl)
    (case l32 => k_is)
    (case c32 => k_is)
    (case k32 => k_is)
    (case a33 => k_is)
    (case l33 => k_is)
    (case c33 => k_is)
    (case k33 => k_is)
    (case a34 => k_is)
    (case l34 => k_is)
    (case c34 => k_is)
    (case k34 => k_is)
    (case a35 => k_is)
    (case l35 => k_is)
    (case c35 => k_is)
    (case k35 => k_is)
    (case a36 => k_is)
    (case fn36 => kernel_rfl)
    (case l36 => k_is)
    (case c36 => k_is)
    (case k36 => k_is)
    (case a37 => k_is)
    (case l37 => k_is)
    (case c37 => k_is)
    (case k37 => k_is)
    (case a38 => k_is)
    (case l38 => k_is)
    (case c38 => k_is)
    (case k38 => k_is)
    (case a39 => k_is)
    (case l39 => k_is)
    (case c39 => k_is)
    (case k39 => k_is)
    (case a40 => k_is)
    (case l40 => k_is)
    (case c40 => k_is)
    (case k40 => k_is)
    (case a41 => k_is)
    (case l41 => k_is)
    (case c41 => k_is)
    (case k41 => k_is)
    (case a42 => k_is)
    (case l42 => k_is)
    (case c42 => k_is)
    (case k42 => k_is)
    (case a43 => k_is)
    (case l43 => k_is)
    (case c43 => k_is)
    (case k43 => k_is)
    (case a44 => k_is)
    (case l44 => k_is)
    (case c44 => k_is)
    (case k44 => k_is)
    (case a45 => k_is)
    (case l45 => k_is)
    (case c45 => k_is)
    (case k45 => k_is)
    (case a46 => k_is)
    (case l46 => k_is)
    (case c46 => k_is)
    (case k46 => k_is)
    (case a47 => k_is)
    (case l47 => k_is)
    (case c47 => k_is)
    (case k47 => k_is)
    (case a48 => k_is)
    (case l48 => k_is)
    (case c48 => k_is)
    (case k48 => k_is)
    (case a49 => k_is)
    (case l49 => k_is)
    (case c49 => k_is)
    (case k49 => k_is)
    (case a50 => k_is)
    (case l50 => k_is)
    (case c50 => k_is)
    (case k50 => k_is)
    (case a51 => k_is)
    (case l51 => k_is)
    (case c51 => k_is)
    (case k51 => k_is)
    (case a52 => k_is)
    (case l52 => k_is)
    (case c52 => k_is)
    (case k52 => k_is)
    (case a53 => k_is)
    (case l53 => k_is)
    (case c53 => k_is)
    (case k53 => k_is)
    (case kc_ADD => kernel_rfl)
    (case kc_BARE => kernel_rfl)
    (case kc_BOTTOMLESS => kernel_rfl)
    (case kc_CALL => kernel_rfl)
    (case kc_COPY => kernel_rfl)
    (case kc_DEEPEST => kernel_rfl)
    (case kc_DROP => kernel_rfl)
    (case kc_EVEN => kernel_rfl)
    (case kc_IF => kernel_rfl)
    (case kc_MOST_DEEP => kernel_rfl)
    (case kc_MOST_FUNCTIONS => kernel_rfl)
    (case kc_MOST_ITEMS => kernel_rfl)
    (case kc_ROLL => kernel_rfl)
    (case kc_ROUND => kernel_rfl)
    (case kc_ROUND_NET => kernel_rfl)
    (case kc_SUB => kernel_rfl)
    (case kc_UNLIKE => kernel_rfl)
    (case kc_WHILE => kernel_rfl)
    (case kc_WORD => kernel_rfl)
    (case qn_LEAVES => k_is)
    (case ql_LEAVES => k_is)
    (case qk_LEAVES => exact ⟨⟨_, _, rfl, rfl⟩, ⟨⟨_, _, rfl, rfl⟩, ⟨⟨_, _, rfl, rfl⟩, ⟨⟨_, _, rfl, rfl⟩, ⟨⟨_, _, rfl, rfl⟩, ⟨⟨_, _, rfl, rfl⟩, ⟨⟨_, _, rfl, rfl⟩, ⟨⟨_, _, rfl, rfl⟩, trivial⟩⟩⟩⟩⟩⟩⟩⟩)
    (case qc_LEAVES => kernel_rfl)
    (case qn_TAKES => k_is)
    (case ql_TAKES => k_is)
    (case qk_TAKES => exact ⟨⟨_, _, rfl, rfl⟩, ⟨⟨_, _, rfl, rfl⟩, ⟨⟨_, _, rfl, rfl⟩, ⟨⟨_, _, rfl, rfl⟩, ⟨⟨_, _, rfl, rfl⟩, ⟨⟨_, _, rfl, rfl⟩, ⟨⟨_, _, rfl, rfl⟩, ⟨⟨_, _, rfl, rfl⟩, ⟨⟨_, _, rfl, rfl⟩, ⟨⟨_, _, rfl, rfl⟩, ⟨⟨_, _, rfl, rfl⟩, trivial⟩⟩⟩⟩⟩⟩⟩⟩⟩⟩⟩)
    (case qc_TAKES => kernel_rfl)
    (case z_abs => k_is)
    (case z_all => k_is)
    (case z_bool => k_is)
    (case z_dict => k_is)
    (case z_divmod => k_is)
    (case z_enumerate => k_is)
    (case z_int => k_is)
    (case z_isinstance => k_is)
    (case z_len => k_is)
    (case z_list => k_is)
    (case z_max => k_is)
    (case z_min => k_is)
    (case z_range => k_is)
    (case z_repr => k_is)
    (case z_str => k_is)
    (case z_sum => k_is)
    (case z_tuple => k_is)
    (case z_zip => k_is)
