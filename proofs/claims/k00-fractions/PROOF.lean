import PyProof.Rows.All
import Wide.All
import OpenK.AllK
import Wide.FinOn
import HandS.ForMost
import HandS.Exc
import HandS.ExcOwn
import HandS.WordsExc
import HandS.TryOnly
import HandS.ExcIs
import HandS.ExcCtx
import HandS.Hot
import HandS.EndTab
import KE.GoesComp
import KE.GoesMore
import HandS.IsInst
import HandS.Wide
import HandS.Gcd
import HandS.TupAny
import HandS.TupMul
import HandS.Conv
import HandS.Walk
import HandS.Zip
import HandS.Flow
import HandS.Lambda
import HandS.HeadWalk
import HandS.WideBits
import HandS.HeadHook4
import HandS.Text
import HandS.NestedK
import HandS.Head3
import PySem.Challenge.RW_formsfinite_k00_whole_fractions_and_rest
set_option Elab.async false
set_option linter.all false
set_option maxRecDepth 100000
set_option maxHeartbeats 4000000
namespace Mir
open PySem PySem.Spec PyProof.Rows L2
/-! ### plain data: what a Python value is, without a heap -/
inductive D where
  | non
  | bl (b : Bool)
  | int (i : Int)
  | str (x : Str)
  | ty (n : String)
  | glo (x : Str)
  | ref (i : Nat)
  | scr (ns : List Int)
  | raw (a : Addr)
  | tup (ds : List D)
  | lst (ds : List D)
instance : Inhabited D := ⟨.non⟩
def D.isNil : List D → Bool
  | [] => true
  | _ => false
/-- the store: lists that are still changed; none: given away -/
abbrev Sto := List (Option (List D))
structure Exn where
  cls : Str
inductive R (α : Type) where
  | ok (a : α) (S : Sto)
  | ex (e : Exn) (S : Sto)
  | no
def M (α : Type) : Type := Sto → R α
def ret {α : Type} (a : α) : M α := fun S => .ok a S
def bnd {α β : Type} (m : M α) (k : α → M β) : M β := fun S => match m S with
  | .ok a S' => k a S'
  | .ex e S' => .ex e S'
  | .no => .no
def noM {α : Type} : M α := fun _ => .no
abbrev Env := List (Option D)
/-! ### no handles within -/
mutual
def nr : D → Bool
  | .ref _ => false
  | .tup ds => nrs ds
  | .lst ds => nrs ds
  | _ => true
def nrs : List D → Bool
  | [] => true
  | d :: r => nr d && nrs r
end
/-! ### how data lies in the abstract heap -/
structure Gx where
  K : PySem.W.Frag
  mg : Str → Option Value
  T : List (Addr × Str)
def Live (ρ : List Addr) (S : Sto) (p : Addr) : Prop := ∃ (i : Nat) (ds : List D), ρ[i]? = some p ∧ S[i]? = some (some ds)
def Bar (F ρ : List Addr) (S : Sto) (p : Addr) : Prop := Live ρ S p ∨ p ∈ F
mutual
inductive Rep (g : Gx) (H : Hp) (B : Addr → Prop) (ρ : List Addr) : D → V → Prop
  | non : Rep g H B ρ .non .non
  | bl (b : Bool) : Rep g H B ρ (.bl b) (.bl b)
  | int (i : Int) : Rep g H B ρ (.int i) (.int i)
  | str (x : Str) : Rep g H B ρ (.str x) (.str x)
  | ty (n : String) : Rep g H B ρ (.ty n) (.ty n)
  | raw (a : Addr) : Rep g H B ρ (.raw a) (.ref a)
  | glo {x : Str} {a : Addr} : g.mg x = some (.ref a) → Rep g H B ρ (.glo x) (.ref a)
  | ref {i : Nat} {p : Addr} : ρ[i]? = some p → Rep g H B ρ (.ref i) (.ref p)
  | scr {ns : List Int} {p : Addr} : (H p = some (.lst (ns.map V.int)) ∧ ¬ B p) ∨ (∃ o, H p = some (.frz o (.lst (ns.map V.int)))) ∨
      (∃ (o : Obj) (its : Array Value) (n : Nat), g.K.lookup p = some o ∧ o.cls = .type "list" ∧ o.dict = none ∧ o.data = .seq its n ∧ its.size ≤ sizeLine ∧ Vals (ns.map V.int) its.toList) → Rep g H B ρ (.scr ns) (.ref p)
  | tup {ds : List D} {p : Addr} {vs : List V} : SqT g.K H p vs → Reps g H B ρ ds vs → Rep g H B ρ (.tup ds) (.ref p)
  | lst {ds : List D} {p : Addr} {vs : List V} : H p = some (.lst vs) → ¬ B p → Reps g H B ρ ds vs → Rep g H B ρ (.lst ds) (.ref p)
inductive Reps (g : Gx) (H : Hp) (B : Addr → Prop) (ρ : List Addr) : List D → List V → Prop
  | nil : Reps g H B ρ [] []
  | cons {d : D} {v : V} {ds : List D} {vs : List V} : Rep g H B ρ d v → Reps g H B ρ ds vs → Reps g H B ρ (d :: ds) (v :: vs)
end
section
variable {g : Gx} {H H' : Hp} {B B' : Addr → Prop} {ρ ρ' : List Addr}
theorem Reps.length : ∀ {ds : List D} {vs : List V}, Reps g H B ρ ds vs → ds.length = vs.length
  | _, _, .nil => rfl
  | _, _, .cons _ t => by simp [Reps.length t]
theorem Reps.get : ∀ {ds : List D} {vs : List V} {i : Nat} {d : D}, Reps g H B ρ ds vs → ds[i]? = some d → ∃ v, vs[i]? = some v ∧ Rep g H B ρ d v
  | _, _, _, _, .nil, e => by simp at e
  | _, _, 0, _, .cons r _, e => by simp at e; subst e; exact ⟨_, rfl, r⟩
  | _, _, i + 1, d, .cons _ t, e => by
    obtain ⟨v, h1, h2⟩ := Reps.get (i := i) (d := d) t (by simpa using e)
    exact ⟨v, by simpa using h1, h2⟩
theorem Reps.append : ∀ {ds es : List D} {vs us : List V}, Reps g H B ρ ds vs → Reps g H B ρ es us → Reps g H B ρ (ds ++ es) (vs ++ us)
  | _, _, _, _, .nil, s => s
  | _, _, _, _, .cons r t, s => .cons r (Reps.append t s)
theorem Reps.one {d : D} {v : V} (r : Rep g H B ρ d v) : Reps g H B ρ [d] [v] := .cons r .nil
theorem Reps.set {d : D} {v : V} (r : Rep g H B ρ d v) : ∀ {ds : List D} {vs : List V} (i : Nat), Reps g H B ρ ds vs → Reps g H B ρ (ds.set i d) (vs.set i v)
  | _, _, _, .nil => .nil
  | _, _, 0, .cons _ t => .cons r t
  | _, _, i + 1, .cons q t => .cons q (Reps.set r i t)
theorem Reps.take : ∀ {ds : List D} {vs : List V} (n : Nat), Reps g H B ρ ds vs → Reps g H B ρ (ds.take n) (vs.take n)
  | _, _, 0, _ => .nil
  | _, _, _ + 1, .nil => .nil
  | _, _, n + 1, .cons r t => .cons r (Reps.take n t)
theorem Reps.drop : ∀ {ds : List D} {vs : List V} (n : Nat), Reps g H B ρ ds vs → Reps g H B ρ (ds.drop n) (vs.drop n)
  | _, _, 0, r => r
  | _, _, _ + 1, .nil => .nil
  | _, _, n + 1, .cons _ t => Reps.drop n t
/-- nothing yet at p, or a table -/
def Nw (H : Hp) (p : Addr) : Prop := ∀ o, H p = some o → ∃ ps, o = .tbl ps
theorem Nw.of {H : Hp} {p : Addr} (h : H p = none) : Nw H p := fun o e => by
  rw [h] at e
  cases e
abbrev IsL (H : Hp) (p : Addr) : Prop := ∃ xs, H p = some (.lst xs)
/-- what carries every datum over -/
structure Car (g : Gx) (H H' : Hp) (B B' : Addr → Prop) (ρ ρ' : List Addr) : Prop where
  keep : ∀ (p : Addr) (o : HO), H p = some o → (∀ ps, o ≠ .tbl ps) → (B p → ∀ xs, o ≠ .lst xs) → H' p = some o
  bar : ∀ (p : Addr), B' p → B p ∨ Nw H p
  rho : ∀ (i : Nat) (p : Addr), ρ[i]? = some p → ρ'[i]? = some p
theorem Car.sqT (c : Car g H H' B B' ρ ρ') {p : Addr} {vs : List V} (h : SqT g.K H p vs) : SqT g.K H' p vs := by
  rcases h with (h | ⟨o, h⟩) | h
  · exact .inl (.inl (c.keep _ _ h (fun _ z => by cases z) (fun _ _ z => by cases z)))
  · exact .inl (.inr ⟨o, c.keep _ _ h (fun _ z => by cases z) (fun _ _ z => by cases z)⟩)
  · exact .inr h
mutual
theorem Rep.car (c : Car g H H' B B' ρ ρ') : ∀ {d : D} {v : V}, Rep g H B ρ d v → Rep g H' B' ρ' d v
  | _, _, .non => .non
  | _, _, .bl b => .bl b
  | _, _, .int i => .int i
  | _, _, .str x => .str x
  | _, _, .ty n => .ty n
  | _, _, .raw a => .raw a
  | _, _, .glo h => .glo h
  | _, _, .ref h => .ref (c.rho _ _ h)
  | _, _, .scr h => .scr (by
      rcases h with ⟨h, n⟩ | ⟨o, h⟩ | h
      · refine .inl ⟨c.keep _ _ h (fun _ z => by cases z) (fun b => absurd b n), fun b' => ?_⟩
        rcases c.bar _ b' with b | e
        · exact n b
        · obtain ⟨_, z⟩ := e _ h
          cases z
      · exact .inr (.inl ⟨o, c.keep _ _ h (fun _ z => by cases z) (fun _ _ z => by cases z)⟩)
      · exact .inr (.inr h))
  | _, _, .tup h t => .tup (c.sqT h) (Reps.car c t)
  | _, _, .lst h n t => .lst (c.keep _ _ h (fun _ z => by cases z) (fun b => absurd b n)) (fun b' => by
      rcases c.bar _ b' with b | e
      · exact n b
      · obtain ⟨_, z⟩ := e _ h
        cases z) (Reps.car c t)
theorem Reps.car (c : Car g H H' B B' ρ ρ') : ∀ {ds : List D} {vs : List V}, Reps g H B ρ ds vs → Reps g H' B' ρ' ds vs
  | _, _, .nil => .nil
  | _, _, .cons r t => .cons (Rep.car c r) (Reps.car c t)
end
end
/-! ### the state and how it grows -/
structure Ext (F ρ : List Addr) (H : Hp) (S : Sto) (ρ' : List Addr) (H' : Hp) (S' : Sto) : Prop where
  keep : ∀ (p : Addr) (o : HO), H p = some o → (∀ ps, o ≠ .tbl ps) → ¬ Live ρ S p → H' p = some o
  there : ∀ (p : Addr), IsL H p → IsL H' p
  live : ∀ (p : Addr), Live ρ' S' p → Live ρ S p ∨ Nw H p
  rho : ∃ more, ρ' = ρ ++ more
structure Ok (g : Gx) (F ρ : List Addr) (H : Hp) (S : Sto) : Prop where
  len : ρ.length = S.length
  nd : ρ.Nodup
  trk : ∀ (p : Addr), p ∈ ρ → IsL H p
  sto : ∀ (i : Nat) (ds : List D), S[i]? = some (some ds) → nrs ds = true ∧ ∃ p vs, ρ[i]? = some p ∧ H p = some (.lst vs) ∧ Reps g H (Bar F ρ S) ρ ds vs ∧ p ∉ F
  fr : ∀ (p : Addr), p ∈ F → ∃ xs, H p = some (.lst xs)
  tab : LamX.Tabs g.T H
section
variable {g : Gx} {F ρ ρ1 ρ2 : List Addr} {H H1 H2 : Hp} {S S1 S2 : Sto}
theorem Ext.refl : Ext F ρ H S ρ H S := ⟨fun _ _ h _ _ => h, fun _ h => h, fun _ h => .inl h, ⟨[], by simp⟩⟩
theorem Ok.lst (o : Ok g F ρ H S) {p : Addr} (h : Bar F ρ S p) : ∃ xs, H p = some (.lst xs) := by
  rcases h with ⟨i, ds, h1, h2⟩ | h
  · obtain ⟨_, q, vs, h3, h4, _⟩ := o.sto i ds h2
    rw [h1] at h3
    cases h3
    exact ⟨vs, h4⟩
  · exact o.fr p h
theorem Ext.trans (a : Ext F ρ H S ρ1 H1 S1) (b : Ext F ρ1 H1 S1 ρ2 H2 S2) : Ext F ρ H S ρ2 H2 S2 := by
  refine ⟨fun p o h n l => ?_, fun p h => b.there p (a.there p h), fun p h => ?_, ?_⟩
  · refine b.keep p o (a.keep p o h n l) n fun l1 => ?_
    rcases a.live p l1 with z | z
    · exact l z
    · obtain ⟨ps, e⟩ := z _ h
      exact n ps e
  · rcases b.live p h with z | z
    · exact a.live p z
    · by_cases l : Live ρ S p
      · exact .inl l
      · refine .inr fun o q => ?_
        by_cases ht : ∃ ps, o = .tbl ps
        · exact ht
        · exact z o (a.keep p o q (fun ps e => ht ⟨ps, e⟩) l)
  · obtain ⟨m, h1⟩ := a.rho
    obtain ⟨m', h2⟩ := b.rho
    exact ⟨m ++ m', by rw [h2, h1, List.append_assoc]⟩
theorem Ext.car (e : Ext F ρ H S ρ1 H1 S1) (o : Ok g F ρ H S) : Car g H H1 (Bar F ρ S) (Bar F ρ1 S1) ρ ρ1 := by
  refine ⟨fun p u h n nb => ?_, fun p b => ?_, fun i p h => ?_⟩
  · refine e.keep p u h n fun l => ?_
    obtain ⟨xs, hx⟩ := o.lst (.inl l : Bar F ρ S p)
    rw [h] at hx
    cases hx
    exact nb (.inl l) xs rfl
  · rcases b with l | f
    · rcases e.live p l with z | z
      · exact .inl (.inl z)
      · exact .inr z
    · exact .inl (.inr f)
  · obtain ⟨m, h1⟩ := e.rho
    rw [h1]
    have hi : i < ρ.length := (List.getElem?_eq_some_iff.mp h).1
    rw [List.getElem?_append_left hi]
    exact h
end
/-- the names' values -/
structure EnvOk (g : Gx) (H : Hp) (B : Addr → Prop) (ρ : List Addr) (nn : Nat) (env : Env) (σ : L2.St) : Prop where
  len : env.length = nn
  len2 : σ.length = nn
  loc : ∀ (i : Nat) (d : D), env[i]? = some (some d) → ∃ v, σ[i]? = some (some v) ∧ Rep g H B ρ d v
section
variable {g : Gx} {H H1 : Hp} {B B1 : Addr → Prop} {ρ ρ1 : List Addr} {nn : Nat} {env : Env} {σ : L2.St}
theorem EnvOk.car (n : EnvOk g H B ρ nn env σ) (c : Car g H H1 B B1 ρ ρ1) : EnvOk g H1 B1 ρ1 nn env σ :=
  ⟨n.len, n.len2, fun i d h => let ⟨v, h1, h2⟩ := n.loc i d h; ⟨v, h1, h2.car c⟩⟩
theorem EnvOk.set (n : EnvOk g H B ρ nn env σ) {d : D} {v : V} (r : Rep g H B ρ d v) (i : Nat) : EnvOk g H B ρ nn (env.set i (some d)) (σ.set i (some v)) := by
  refine ⟨by simp [n.len], by simp [n.len2], fun j d' h => ?_⟩
  by_cases hj : i = j
  · subst hj
    have hi : i < env.length := by
      have := (List.getElem?_eq_some_iff.mp h).1
      simpa using this
    rw [List.getElem?_set_self hi] at h
    cases h
    exact ⟨v, List.getElem?_set_self (by rw [n.len2, ← n.len]; exact hi), r⟩
  · rw [List.getElem?_set_ne hj] at h
    obtain ⟨v', h1, h2⟩ := n.loc j d' h
    exact ⟨v', by rw [List.getElem?_set_ne hj]; exact h1, h2⟩
end
/-- an exception as it lies: its class -/
def ExRep (g : Gx) (e : Exn) (cls : Value) (dd : Option Addr) : Prop := dd = none ∧ ∃ C, g.mg e.cls = some (.ref C) ∧ cls = .ref C
/-- how a result and what the reading hands on belong together -/
abbrev Rl (α β : Type) := Nat → Gx → Hp → (Addr → Prop) → List Addr → α → β → Prop
abbrev rD : Rl D V := fun _ g H B ρ d v => Rep g H B ρ d v
abbrev rLs : Rl (List D) (List V) := fun _ g H B ρ d v => Reps g H B ρ d v
abbrev rBo : Rl Bool Bool := fun _ _ _ _ _ a b => b = a
/-- what is wanted behind a piece of code that gives r -/
def Fin {α β : Type} (rl : Rl α β) (g : Gx) (F : List Addr) (W : WX) (nn : Nat) (ρ : List Addr) (H : Hp) (S : Sto) (Q : β → Hp → Prop) : R α → Prop
  | .ok d S' => ∀ ρ' H' v, Ext F ρ H S ρ' H' S' → Ok g F ρ' H' S' → rl nn g H' (Bar F ρ' S') ρ' d v → Q v H'
  | .ex e S' => ∀ ρ' H' σ' cls dd, σ'.length = nn → Ext F ρ H S ρ' H' S' → Ok g F ρ' H' S' → ExRep g e cls dd → W cls dd σ' H'
  | .no => False
section
variable {α β : Type} {rl : Rl α β} {g : Gx} {F ρ ρ1 : List Addr} {H H1 : Hp} {S S1 : Sto} {W : WX} {nn : Nat}
theorem Fin.ext {Q : β → Hp → Prop} (e : Ext F ρ H S ρ1 H1 S1) : ∀ {r : R α}, Fin rl g F W nn ρ H S Q r → Fin rl g F W nn ρ1 H1 S1 Q r
  | .ok _ _, h => fun ρ' H' v e' o r => h ρ' H' v (e.trans e') o r
  | .ex _ _, h => fun ρ' H' σ' c d l e' o x => h ρ' H' σ' c d l (e.trans e') o x
  | .no, h => h
theorem Fin.mono {Q Q' : β → Hp → Prop} (q : ∀ v H, Q v H → Q' v H) : ∀ {r : R α}, Fin rl g F W nn ρ H S Q r → Fin rl g F W nn ρ H S Q' r
  | .ok _ _, h => fun ρ' H' v e' o r => q _ _ (h ρ' H' v e' o r)
  | .ex _ _, h => h
  | .no, h => h
end
/-- the reading of a piece of code that goes on with the values vs (of the data ds) -/
def tH {α β : Type} (rl : Rl α β) (g : Gx) (W : WX) (k : List D → Env → M α) (vs : List V) : L2.St → Hp → (β → Hp → Prop) → Prop := fun σ H Q =>
  ∃ nn F ρ env S ds, EnvOk g H (Bar F ρ S) ρ nn env σ ∧ Ok g F ρ H S ∧ Reps g H (Bar F ρ S) ρ ds vs ∧ Fin rl g F W nn ρ H S Q (k ds env S)
abbrev tE (g : Gx) (W : WX) (m : Env → M D) : TE := tH rD g W (fun _ => m) []
abbrev tB (g : Gx) (W : WX) (m : Env → M Bool) : TT := tH rBo g W (fun _ => m) []
abbrev tL (g : Gx) (W : WX) (m : Env → M (List D)) : TA := tH rLs g W (fun _ => m) []
section
variable {α β γ δ : Type} {rl : Rl α β} {g : Gx} {W : WX} {σ : L2.St} {H : Hp} {vs : List V}
/-- the first part, then the rest with one value more -/
theorem push {Q : β → Hp → Prop} {m : Env → M D} {k : List D → Env → M α} (h : tH rl g W (fun ds env => bnd (m env) fun d => k (ds ++ [d]) env) vs σ H Q) :
    tE g W m σ H fun v H1 => tH rl g W k (vs ++ [v]) σ H1 Q := by
  obtain ⟨nn, F, ρ, env, S, ds, n, o, r, h⟩ := h
  refine ⟨nn, F, ρ, env, S, [], n, o, .nil, ?_⟩
  dsimp only [bnd] at h
  show Fin rD g F W nn ρ H S _ (m env S)
  cases e : m env S with
  | ok d S1 =>
    rw [e] at h
    exact fun ρ' H' v x o' r' => ⟨nn, F, ρ', env, S1, ds ++ [d], n.car (x.car o), o', (r.car (x.car o)).append (.one r'), Fin.ext x h⟩
  | ex e1 S1 =>
    rw [e] at h
    exact h
  | no =>
    rw [e] at h
    exact h
/-- the same where the first part gives a test's answer -/
theorem pushT {Q : β → Hp → Prop} {m : Env → M Bool} {k : Bool → List D → Env → M α} (h : tH rl g W (fun ds env => bnd (m env) fun b => k b ds env) vs σ H Q) :
    tB g W m σ H fun b H1 => tH rl g W (k b) vs σ H1 Q := by
  obtain ⟨nn, F, ρ, env, S, ds, n, o, r, h⟩ := h
  refine ⟨nn, F, ρ, env, S, [], n, o, .nil, ?_⟩
  dsimp only [bnd] at h
  show Fin rBo g F W nn ρ H S _ (m env S)
  cases e : m env S with
  | ok d S1 =>
    rw [e] at h
    refine fun ρ' H' v x o' r' => ?_
    subst r'
    exact ⟨nn, F, ρ', env, S1, ds, n.car (x.car o), o', r.car (x.car o), Fin.ext x h⟩
  | ex e1 S1 =>
    rw [e] at h
    exact h
  | no =>
    rw [e] at h
    exact h
/-- an argument list ahead -/
theorem pushL {Q : β → Hp → Prop} {m : Env → M (List D)} {k : List D → Env → M α} (h : tH rl g W (fun ds env => bnd (m env) fun es => k (ds ++ es) env) vs σ H Q) :
    tL g W m σ H fun us H1 => tH rl g W k (vs ++ us) σ H1 Q := by
  obtain ⟨nn, F, ρ, env, S, ds, n, o, r, h⟩ := h
  refine ⟨nn, F, ρ, env, S, [], n, o, .nil, ?_⟩
  dsimp only [bnd] at h
  show Fin rLs g F W nn ρ H S _ (m env S)
  cases e : m env S with
  | ok d S1 =>
    rw [e] at h
    exact fun ρ' H' v x o' r' => ⟨nn, F, ρ', env, S1, ds ++ d, n.car (x.car o), o', (r.car (x.car o)).append r', Fin.ext x h⟩
  | ex e1 S1 =>
    rw [e] at h
    exact h
  | no =>
    rw [e] at h
    exact h
theorem tH.mono {Q Q' : β → Hp → Prop} {k : List D → Env → M α} (q : ∀ v H, Q v H → Q' v H) (h : tH rl g W k vs σ H Q) : tH rl g W k vs σ H Q' := by
  obtain ⟨nn, F, ρ, env, S, ds, n, o, r, h⟩ := h
  exact ⟨nn, F, ρ, env, S, ds, n, o, r, h.mono q⟩
end
theorem tH.cg {α β : Type} {rl : Rl α β} {g : Gx} {W : WX} {σ : L2.St} {H : Hp} {vs : List V} {Q : β → Hp → Prop} {k k' : List D → Env → M α} (e : ∀ ds env, ds.length = vs.length → k ds env = k' ds env) (h : tH rl g W k vs σ H Q) : tH rl g W k' vs σ H Q := by
  obtain ⟨nn, F, ρ, env, S, ds, n, o, r, h⟩ := h
  rw [e ds env r.length] at h
  exact ⟨nn, F, ρ, env, S, ds, n, o, r, h⟩
theorem tH.cg0 {α β : Type} {rl : Rl α β} {g : Gx} {W : WX} {σ : L2.St} {H : Hp} {Q : β → Hp → Prop} {k k' : List D → Env → M α} (e : ∀ env, k [] env = k' [] env) (h : tH rl g W k [] σ H Q) : tH rl g W k' [] σ H Q := by
  refine h.cg fun ds env hl => ?_
  have z : ds = [] := List.eq_nil_of_length_eq_zero hl
  rw [z]
  exact e env
theorem tH.cg1 {α β : Type} {rl : Rl α β} {g : Gx} {W : WX} {σ : L2.St} {H : Hp} {v : V} {Q : β → Hp → Prop} {k k' : List D → Env → M α} (e : ∀ d env, k [d] env = k' [d] env) (h : tH rl g W k [v] σ H Q) : tH rl g W k' [v] σ H Q := by
  refine h.cg fun ds env hl => ?_
  obtain ⟨d, z⟩ : ∃ d, ds = [d] := List.length_eq_one_iff.mp hl
  rw [z]
  exact e d env
/-! ### weakening -/
section
variable {X : Cx}
theorem wkE {e : Expr} {t u : TE} (h : PE X e t) (q : ∀ σ H Q, u σ H Q → t σ H Q) : PE X e u := ⟨fun pins s σ H Q I hw => h.run pins s σ H Q I (q σ H Q hw)⟩
theorem wkT {e : Expr} {t u : TT} (h : PT X e t) (q : ∀ σ H Q, u σ H Q → t σ H Q) : PT X e u := ⟨fun pins s σ H Q I hw => h.run pins s σ H Q I (q σ H Q hw)⟩
theorem wkW {e : Expr} {t u : TT} (h : PW X e t) (q : ∀ σ H Q, u σ H Q → t σ H Q) : PW X e u := ⟨fun wh pins s σ H Q I hw => h.run wh pins s σ H Q I (q σ H Q hw)⟩
theorem wkA {e : List Expr} {t u : TA} (h : PA X e t) (q : ∀ σ H Q, u σ H Q → t σ H Q) : PA X e u := ⟨fun p pins s σ H Q I hw => h.run p pins s σ H Q I (q σ H Q hw)⟩
theorem wkS {e : Stmt} {t u : TS} (h : PS X e t) (q : ∀ D σ H, u D σ H → t D σ H) : PS X e u := ⟨fun pins s σ H D I hw => h.run pins s σ H D I (q D σ H hw)⟩
theorem wkSs {e : List Stmt} {t u : TS} (h : PSs X e t) (q : ∀ D σ H, u D σ H → t D σ H) : PSs X e u := ⟨fun pins s σ H D I hw => h.run pins s σ H D I (q D σ H hw)⟩
end
/-! ### names and constants -/
def mVar (i : Nat) (env : Env) : M D := match env[i]? with
  | some (some d) => ret d
  | _ => noM
def mC (d : D) (_ : Env) : M D := ret d
section
variable {X : Cx} {g : Gx} {W : WX}
theorem var_ok {i : Nat} {σ : L2.St} {H : Hp} {Q : VK} (h : tE g W (mVar i) σ H Q) : tVar i σ H Q := by
  obtain ⟨nn, F, ρ, env, S, ds, n, o, r, h⟩ := h
  dsimp only [mVar] at h
  cases e : env[i]? with
  | none =>
    rw [e] at h
    exact h.elim
  | some u =>
    rw [e] at h
    cases u with
    | none => exact h.elim
    | some d =>
      obtain ⟨v, h1, h2⟩ := n.loc i d e
      exact ⟨v, h1, h ρ H v .refl o h2⟩
theorem se_var (i : Nat) {x : Str} {pos : Pos} (h : PE X (.Name x pos) (tVar i)) : PE X (.Name x pos) (tE g W (mVar i)) := wkE h fun _ _ _ q => var_ok q
theorem const_ok {v : V} {d : D} (r : ∀ H B ρ, Rep g H B ρ d v) {σ : L2.St} {H : Hp} {Q : VK} (h : tE g W (mC d) σ H Q) : tC v σ H Q := by
  obtain ⟨nn, F, ρ, env, S, ds, n, o, _, h⟩ := h
  exact h ρ H v .refl o (r _ _ _)
theorem se_int {i j pos} : PE X (.Constant (.int i) j pos) (tE g W (mC (.int i))) := wkE pe_int fun _ _ _ q => const_ok (fun _ _ _ => .int i) q
theorem se_bl {b j pos} : PE X (.Constant (.bool b) j pos) (tE g W (mC (.bl b))) := wkE pe_bl fun _ _ _ q => const_ok (fun _ _ _ => .bl b) q
theorem se_non {j pos} : PE X (.Constant .none j pos) (tE g W (mC .non)) := wkE pe_non fun _ _ _ q => const_ok (fun _ _ _ => .non) q
theorem se_str {x j pos} : PE X (.Constant (.str x) j pos) (tE g W (mC (.str x))) := wkE pe_str fun _ _ _ q => const_ok (fun _ _ _ => .str x) q
end
/-! ### arguments, operators -/
def mNil (_ : Env) : M (List D) := ret []
def mCons (m : Env → M D) (r : Env → M (List D)) (env : Env) : M (List D) := bnd (m env) fun d => bnd (r env) fun ds => ret (d :: ds)
section
variable {X : Cx} {g : Gx} {W : WX}
theorem sa_nil : PA X [] (tL g W mNil) := wkA pa_nil fun σ H Q h => by
  obtain ⟨nn, F, ρ, env, S, ds, n, o, r, h⟩ := h
  exact h ρ H [] .refl o .nil
theorem bnd_ret {α β : Type} (a : α) (k : α → M β) : bnd (ret a) k = k a := rfl
theorem bnd_assoc {α β γ : Type} (m : M α) (k : α → M β) (l : β → M γ) : bnd (bnd m k) l = bnd m fun a => bnd (k a) l := by
  funext S
  dsimp only [bnd]
  cases m S <;> rfl
theorem cons_ok {m : Env → M D} {r : Env → M (List D)} {σ : L2.St} {H : Hp} {Q : List V → Hp → Prop} (h : tL g W (mCons m r) σ H Q) : tCons (tE g W m) (tL g W r) σ H Q := by
  refine tH.mono (fun v H1 q => ?_) (push (k := fun ds env => bnd (r env) fun es => ret (ds ++ es)) (vs := []) (h.cg0 fun env => rfl))
  refine tH.mono (fun us H2 q => ?_) (pushL (k := fun ds _ => ret ds) q)
  obtain ⟨nn, F, ρ, env, S, ds, n, o, r, h⟩ := q
  exact h ρ H2 _ .refl o r
theorem sa_cons {e : Expr} {es : List Expr} {m : Env → M D} {r : Env → M (List D)} (ha : PE X e (tE g W m)) (hr : PA X es (tL g W r)) (hs : starEach (e :: es) X.env = (false, eval e X.env) :: starEach es X.env := by rfl) : PA X (e :: es) (tL g W (mCons m r)) :=
  wkA (pa_cons ha hr hs) fun _ _ _ h => cons_ok h
/-- f of two values -/
def m2 (f : D → D → M D) (a b : Env → M D) (env : Env) : M D := bnd (a env) fun x => bnd (b env) fun y => f x y
def m1 (f : D → M D) (a : Env → M D) (env : Env) : M D := bnd (a env) fun x => f x
/-- the rule r reads f -/
def Op2 (g : Gx) (W : WX) (f : D → D → M D) (r : R2) : Prop := ∀ (d e : D) (x y : V) (F ρ : List Addr) (H : Hp) (S : Sto) (nn : Nat) (Q : VK), Ok g F ρ H S → Rep g H (Bar F ρ S) ρ d x → Rep g H (Bar F ρ S) ρ e y →
  Fin rD g F W nn ρ H S Q (f d e S) → r x y H Q
def Op1 (g : Gx) (W : WX) (f : D → M D) (r : V → Hp → VK → Prop) : Prop := ∀ (d : D) (x : V) (F ρ : List Addr) (H : Hp) (S : Sto) (nn : Nat) (Q : VK), Ok g F ρ H S → Rep g H (Bar F ρ S) ρ d x →
  Fin rD g F W nn ρ H S Q (f d S) → r x H Q
theorem op2_ok {f : D → D → M D} {r : R2} (o : Op2 g W f r) {a b : Env → M D} {σ : L2.St} {H : Hp} {Q : VK} (h : tE g W (m2 f a b) σ H Q) : tOp r (tE g W a) (tE g W b) σ H Q := by
  refine tH.mono (fun v H1 q => ?_) (push (k := fun ds env => match ds with | [x] => bnd (b env) fun y => f x y | _ => noM) (vs := []) (h.cg0 fun env => rfl))
  refine tH.mono (fun u H2 q => ?_) (push (k := fun ds _ => match ds with | [x, y] => f x y | _ => noM) (vs := [v]) (q.cg1 fun d env => rfl))
  obtain ⟨nn, F, ρ, env, S, ds, n, ok, r, h⟩ := q
  cases r with
  | cons r1 r2 =>
    cases r2 with
    | cons r2 r3 =>
      cases r3
      exact o _ _ _ _ F ρ H2 S nn Q ok r1 r2 h
theorem op1_ok {f : D → M D} {r : V → Hp → VK → Prop} (o : Op1 g W f r) {a : Env → M D} {σ : L2.St} {H : Hp} {Q : VK} (h : tE g W (m1 f a) σ H Q) : tUn r (tE g W a) σ H Q := by
  refine tH.mono (fun v H1 q => ?_) (push (k := fun ds env => match ds with | [x] => f x | _ => noM) (vs := []) (h.cg0 fun env => rfl))
  obtain ⟨nn, F, ρ, env, S, ds, n, ok, r, h⟩ := q
  cases r with
  | cons r1 r2 =>
    cases r2
    exact o _ _ F ρ H1 S nn Q ok r1 h
end
/-! ### new objects -/
section
variable {g : Gx} {W : WX} {F ρ : List Addr} {H : Hp} {S : Sto} {nn : Nat} {Q : VK}
/-- a new tuple or frozen list at p -/
theorem ext_new {p : Addr} {o : HO} (ok : Ok g F ρ H S) (hp : H p = none) : Ext F ρ H S ρ (upd H p o) S :=
  ⟨fun q u h _ _ => by rw [upd_ne (ne_of_none h hp)]; exact h, fun q ⟨xs, h⟩ => ⟨xs, by
    rw [upd_ne (ne_of_none h hp)]
    exact h⟩, fun q h => .inl h, ⟨[], by simp⟩⟩
theorem Tabs.upd {T : List (Addr × Str)} {p : Addr} {o : HO} (t : LamX.Tabs T H) (hp : H p = none) : LamX.Tabs T (upd H p o) := t.ext fun b u h => by
  rw [upd_ne (ne_of_none h hp)]
  exact h
theorem ok_new {p : Addr} {o : HO} (ok : Ok g F ρ H S) (hp : H p = none) : Ok g F ρ (upd H p o) S := by
  have x := ext_new (o := o) ok hp
  refine ⟨ok.len, ok.nd, fun q hq => x.there q (ok.trk q hq), fun i ds h => ?_, fun q hq => ?_, Tabs.upd ok.tab hp⟩
  · obtain ⟨h0, q, vs, h1, h2, h3, h4⟩ := ok.sto i ds h
    exact ⟨h0, q, vs, h1, by rw [upd_ne (ne_of_none h2 hp)]; exact h2, h3.car (x.car ok), h4⟩
  · obtain ⟨xs, h⟩ := ok.fr q hq
    exact ⟨xs, by rw [upd_ne (ne_of_none h hp)]; exact h⟩
theorem not_bar {p : Addr} (ok : Ok g F ρ H S) (hp : H p = none) : ¬ Bar F ρ S p := fun b => by
  obtain ⟨xs, h⟩ := ok.lst b
  rw [hp] at h
  cases h
theorem fin_tup {ds : List D} {vs : List V} {p : Addr} (ok : Ok g F ρ H S) (hp : H p = none) (r : Reps g H (Bar F ρ S) ρ ds vs) (h : Fin rD g F W nn ρ H S Q (.ok (.tup ds) S)) : Q (.ref p) (upd H p (.tup vs)) := by
  have x := ext_new (o := .tup vs) ok hp
  exact h ρ _ _ x (ok_new ok hp) (.tup (SqT.of upd_same) (r.car (x.car ok)))
theorem fin_lst {ds : List D} {vs : List V} {p : Addr} (ok : Ok g F ρ H S) (hp : H p = none) (r : Reps g H (Bar F ρ S) ρ ds vs) (h : Fin rD g F W nn ρ H S Q (.ok (.lst ds) S)) : Q (.ref p) (upd H p (.lst vs)) := by
  have x := ext_new (o := .lst vs) ok hp
  refine h ρ _ _ x (ok_new ok hp) (.lst upd_same (fun b => ?_) (r.car (x.car ok)))
  exact not_bar ok hp b
theorem fin_same {d : D} {v : V} (ok : Ok g F ρ H S) (r : Rep g H (Bar F ρ S) ρ d v) (h : Fin rD g F W nn ρ H S Q (.ok d S)) : Q v H := h ρ H v .refl ok r
end
/-! ### the operators -/
/-- how great an int may be where it is multiplied: its bits -/
def sml (i : Int) (n : Nat) : Bool := Nat.blt i.natAbs.log2 n
def fAdd : D → D → M D
  | .int i, .int j => ret (.int (i + j))
  | .str x, .str y => if x.length + y.length ≤ sizeLine then ret (.str (x ++ y)) else noM
  | .lst xs, .lst ys => if xs.length + ys.length ≤ sizeLine then ret (.lst (xs ++ ys)) else noM
  | .tup xs, .tup ys => if xs.length + ys.length ≤ sizeLine then ret (.tup (xs ++ ys)) else noM
  | _, _ => noM
def fSub : D → D → M D
  | .int i, .int j => ret (.int (i - j))
  | _, _ => noM
def fMul : D → D → M D
  | .int i, .int j => if i.natAbs.log2 + j.natAbs.log2 < 134217720 then ret (.int (i * j)) else noM
  | .lst xs, .int k => if -(2 ^ 63) ≤ k ∧ k < 2 ^ 63 ∧ xs.length * k.toNat ≤ sizeLine then ret (.lst (List.replicate k.toNat xs).flatten) else noM
  | .tup xs, .int k => if D.isNil xs = false ∧ 2 ≤ k ∧ k ≤ 1000 ∧ xs.length ≤ 1000 then ret (.tup (List.replicate k.toNat xs).flatten) else noM
  | _, _ => noM
def fDiv : D → D → M D
  | .int i, .int j => if 0 < j ∧ j.natAbs.log2 < 9000 then ret (.int (i / j)) else noM
  | _, _ => noM
def fMod : D → D → M D
  | .int i, .int j => if 0 < j then ret (.int (i % j)) else noM
  | _, _ => noM
def fPow : D → D → M D
  | .int i, .int j => if 0 ≤ j ∧ j ≤ 1000000 ∧ i.natAbs < 2 ^ 64 then ret (.int (i ^ j.toNat)) else noM
  | _, _ => noM
def fNeg : D → M D
  | .int i => ret (.int (-i))
  | _ => noM
end Mir
set_option Elab.async false
set_option linter.all false
set_option maxRecDepth 100000
set_option maxHeartbeats 4000000
namespace Mir
open PySem PySem.Spec PyProof.Rows L2
section
variable {g : Gx} {F ρ : List Addr} {H : Hp} {B : Addr → Prop}
theorem Rep.inv_int {i : Int} {v : V} (r : Rep g H B ρ (.int i) v) : v = .int i := by cases r; rfl
theorem Rep.inv_bl {i : Bool} {v : V} (r : Rep g H B ρ (.bl i) v) : v = .bl i := by cases r; rfl
theorem Rep.inv_str {i : Str} {v : V} (r : Rep g H B ρ (.str i) v) : v = .str i := by cases r; rfl
theorem Rep.inv_tup {ds : List D} {v : V} (r : Rep g H B ρ (.tup ds) v) : ∃ p vs, v = .ref p ∧ SqT g.K H p vs ∧ Reps g H B ρ ds vs := by
  cases r with
  | tup h t => exact ⟨_, _, rfl, h, t⟩
theorem Rep.inv_lst {ds : List D} {v : V} (r : Rep g H B ρ (.lst ds) v) : ∃ p vs, v = .ref p ∧ H p = some (.lst vs) ∧ ¬ B p ∧ Reps g H B ρ ds vs := by
  cases r with
  | lst h n t => exact ⟨_, _, rfl, h, n, t⟩
theorem Reps.rep {ds : List D} {vs : List V} (r : Reps g H B ρ ds vs) : ∀ k : Nat, Reps g H B ρ (List.replicate k ds).flatten (List.replicate k vs).flatten
  | 0 => by simpa using Reps.nil
  | k + 1 => by
    rw [List.replicate_succ, List.replicate_succ, List.flatten_cons, List.flatten_cons]
    exact r.append (Reps.rep r k)
end
section
variable {X : Cx} {g : Gx} {W : WX}
theorem fin_no {α β : Type} {rl : Rl α β} {F ρ : List Addr} {H : Hp} {S : Sto} {nn : Nat} {Q : β → Hp → Prop} {P : Prop} (h : Fin rl g F W nn ρ H S Q .no) : P := h.elim
theorem ite_ret {α : Type} {c : Prop} [Decidable c] {a : M α} {S T : Sto} {β : Type} {rl : Rl α β} {F ρ : List Addr} {H : Hp} {nn : Nat} {Q : β → Hp → Prop} (h : Fin rl g F W nn ρ H S Q ((if c then a else noM) T)) : c ∧ Fin rl g F W nn ρ H S Q (a T) := by
  by_cases hc : c
  · rw [if_pos hc] at h
    exact ⟨hc, h⟩
  · rw [if_neg hc] at h
    exact h.elim
/-! ### + - * // % ** -/
theorem o_add : Op2 g W fAdd (fun x y H Q => rI0 (fun i j => .int (i + j)) x y H Q ∨ (∃ i j, x = .str i ∧ y = .str j ∧ i.length + j.length ≤ sizeLine ∧ Q (.str (i ++ j)) H) ∨ rCat x y H Q ∨ rCatA g.K x y H Q) := by
  intro d e x y F ρ H S nn Q ok r1 r2 h
  unfold fAdd at h
  split at h
  · rw [r1.inv_int, r2.inv_int]
    exact .inl ⟨_, _, rfl, rfl, fin_same ok (.int _) h⟩
  · obtain ⟨hc, h⟩ := ite_ret h
    rw [r1.inv_str, r2.inv_str]
    exact .inr (.inl ⟨_, _, rfl, rfl, hc, fin_same ok (.str _) h⟩)
  · obtain ⟨hc, h⟩ := ite_ret h
    obtain ⟨p, vs, rfl, hp, _, t⟩ := r1.inv_lst
    obtain ⟨q, us, rfl, hq, _, t2⟩ := r2.inv_lst
    exact .inr (.inr (.inl ⟨p, q, vs, us, rfl, rfl, hp, hq, by rw [← t.length, ← t2.length]; exact hc, fun a ha => fin_lst ok ha (t.append t2) h⟩))
  · obtain ⟨hc, h⟩ := ite_ret h
    rename_i xs ys
    obtain ⟨p, vs, rfl, hp, t⟩ := r1.inv_tup
    obtain ⟨q, us, rfl, hq, t2⟩ := r2.inv_tup
    refine .inr (.inr (.inr ⟨p, q, vs, us, rfl, rfl, hp, hq, by rw [← t.length, ← t2.length]; exact hc, fun z => ?_, fun _ z => ?_, fun _ _ a ha => fin_tup ok ha (t.append t2) h⟩))
    · subst z
      cases t
      exact fin_same ok r2 h
    · subst z
      cases t2
      rw [List.append_nil] at h
      exact fin_same ok r1 h
  · exact h.elim
theorem opr_add : OpR X (binaryOp .Add) (fun x y H Q => rI0 (fun i j => .int (i + j)) x y H Q ∨ (∃ i j, x = .str i ∧ y = .str j ∧ i.length + j.length ≤ sizeLine ∧ Q (.str (i ++ j)) H) ∨ rCat x y H Q ∨ rCatA X.K x y H Q) :=
  op_add.or (op_add_str.or (op_cat.or op_catA))
theorem se_add {a b : Expr} {pos : Pos} {ma mb : Env → M D} (hk : X.K = g.K) (ha : PE X a (tE g W ma)) (hb : PE X b (tE g W mb)) : PE X (.BinOp a .Add b pos) (tE g W (m2 fAdd ma mb)) :=
  wkE (pe_op opr_add ha hb) fun σ H Q h => op2_ok (by rw [hk]; exact o_add) h
theorem o_sub : Op2 g W fSub (rI0 fun i j => .int (i - j)) := by
  intro d e x y F ρ H S nn Q ok r1 r2 h
  unfold fSub at h
  split at h
  · rw [r1.inv_int, r2.inv_int]
    exact ⟨_, _, rfl, rfl, fin_same ok (.int _) h⟩
  · exact h.elim
theorem se_sub {a b : Expr} {pos : Pos} {ma mb : Env → M D} (ha : PE X a (tE g W ma)) (hb : PE X b (tE g W mb)) : PE X (.BinOp a .Sub b pos) (tE g W (m2 fSub ma mb)) :=
  wkE (pe_op op_sub ha hb) fun σ H Q h => op2_ok o_sub h
theorem o_div : Op2 g W fDiv (rI CDivW fun i j => .int (i / j)) := by
  intro d e x y F ρ H S nn Q ok r1 r2 h
  unfold fDiv at h
  split at h
  · obtain ⟨hc, h⟩ := ite_ret h
    rw [r1.inv_int, r2.inv_int]
    exact ⟨_, _, rfl, rfl, hc, fin_same ok (.int _) h⟩
  · exact h.elim
theorem se_div {a b : Expr} {pos : Pos} {ma mb : Env → M D} (ha : PE X a (tE g W ma)) (hb : PE X b (tE g W mb)) : PE X (.BinOp a .FloorDiv b pos) (tE g W (m2 fDiv ma mb)) :=
  wkE (pe_op op_fdivW ha hb) fun σ H Q h => op2_ok o_div h
theorem o_mod : Op2 g W fMod (rI (fun _ j => 0 < j) fun i j => .int (i % j)) := by
  intro d e x y F ρ H S nn Q ok r1 r2 h
  unfold fMod at h
  split at h
  · obtain ⟨hc, h⟩ := ite_ret h
    rw [r1.inv_int, r2.inv_int]
    exact ⟨_, _, rfl, rfl, hc, fin_same ok (.int _) h⟩
  · exact h.elim
theorem se_mod {a b : Expr} {pos : Pos} {ma mb : Env → M D} (ha : PE X a (tE g W ma)) (hb : PE X b (tE g W mb)) : PE X (.BinOp a .Mod b pos) (tE g W (m2 fMod ma mb)) :=
  wkE (pe_op op_mod ha hb) fun σ H Q h => op2_ok o_mod h
theorem o_pow : Op2 g W fPow (rI CPow fun i j => .int (i ^ j.toNat)) := by
  intro d e x y F ρ H S nn Q ok r1 r2 h
  unfold fPow at h
  split at h
  · obtain ⟨hc, h⟩ := ite_ret h
    rw [r1.inv_int, r2.inv_int]
    exact ⟨_, _, rfl, rfl, hc, fin_same ok (.int _) h⟩
  · exact h.elim
theorem se_pow {a b : Expr} {pos : Pos} {ma mb : Env → M D} (ha : PE X a (tE g W ma)) (hb : PE X b (tE g W mb)) : PE X (.BinOp a .Pow b pos) (tE g W (m2 fPow ma mb)) :=
  wkE (pe_op op_pow ha hb) fun σ H Q h => op2_ok o_pow h
theorem o_neg : Op1 g W fNeg (rU fun i => .int (-i)) := by
  intro d x F ρ H S nn Q ok r1 h
  unfold fNeg at h
  split at h
  · rw [r1.inv_int]
    exact ⟨_, rfl, fin_same ok (.int _) h⟩
  · exact h.elim
theorem se_neg {a : Expr} {pos : Pos} {ma : Env → M D} (ha : PE X a (tE g W ma)) : PE X (.UnaryOp .USub a pos) (tE g W (m1 fNeg ma)) :=
  wkE (pe_un un_neg ha) fun σ H Q h => op1_ok o_neg h
theorem mulX_of {i j : Int} (h : i.natAbs.log2 + j.natAbs.log2 < 134217720) : CMulX i j := by
  have b : ∀ x : Int, Builtin.Int.intBits x ≤ x.natAbs.log2 + 1 := fun x => by
    unfold Builtin.Int.intBits
    split <;> omega
  have h1 := b i
  have h2 := b j
  unfold CMulX
  omega
theorem o_mul : Op2 g W fMul (fun x y H Q => rI CMulX (fun i j => .int (i * j)) x y H Q ∨ rRep x y H Q ∨ rRepT g.K x y H Q) := by
  intro d e x y F ρ H S nn Q ok r1 r2 h
  unfold fMul at h
  split at h
  · obtain ⟨hc, h⟩ := ite_ret h
    rw [r1.inv_int, r2.inv_int]
    exact .inl ⟨_, _, rfl, rfl, mulX_of hc, fin_same ok (.int _) h⟩
  · obtain ⟨hc, h⟩ := ite_ret h
    obtain ⟨p, vs, rfl, hp, _, t⟩ := r1.inv_lst
    rw [r2.inv_int]
    exact .inr (.inl ⟨p, _, vs, rfl, rfl, hp, hc.1, hc.2.1, by rw [← t.length]; exact hc.2.2, fun a ha => fin_lst ok ha (t.rep _) h⟩)
  · obtain ⟨hc, h⟩ := ite_ret h
    obtain ⟨p, vs, rfl, hp, t⟩ := r1.inv_tup
    rw [r2.inv_int]
    refine .inr (.inr ⟨p, _, vs, rfl, rfl, hp, fun z => ?_, hc.2.1, hc.2.2.1, by rw [← t.length]; exact hc.2.2.2, fun a ha => fin_tup ok ha (t.rep _) h⟩)
    subst z
    cases t
    cases hc.1
  · exact h.elim
theorem se_mul {a b : Expr} {pos : Pos} {ma mb : Env → M D} (hk : X.K = g.K) (ha : PE X a (tE g W ma)) (hb : PE X b (tE g W mb)) : PE X (.BinOp a .Mult b pos) (tE g W (m2 fMul ma mb)) :=
  wkE (pe_op (op_mulX.or (op_rep.or op_repT)) ha hb) fun σ H Q h => op2_ok (by rw [hk]; exact o_mul) h
/-! ### comparisons -/
def cI (f : Int → Int → Bool) : D → D → M D
  | .int i, .int j => ret (.bl (f i j))
  | _, _ => noM
theorem o_cI {f : Int → Int → Bool} : Op2 g W (cI f) (rI0 fun i j => .bl (f i j)) := by
  intro d e x y F ρ H S nn Q ok r1 r2 h
  unfold cI at h
  split at h
  · rw [r1.inv_int, r2.inv_int]
    exact ⟨_, _, rfl, rfl, fin_same ok (.bl _) h⟩
  · exact h.elim
abbrev cLt := cI fun i j => decide (i < j)
abbrev cLe := cI fun i j => decide (i ≤ j)
abbrev cGt := cI fun i j => decide (j < i)
abbrev cGe := cI fun i j => decide (j ≤ i)
/-- a comparison by a rule -/
structure Cmp (X : Cx) (g : Gx) (W : WX) (op : CmpOp) (f : D → D → M D) : Prop where
  ex : ∃ r, OpR X (compareOp op) r ∧ Op2 g W f r
theorem cmp_lt : Cmp X g W .Lt cLt := ⟨_, op_lt, o_cI⟩
theorem cmp_le : Cmp X g W .LtE cLe := ⟨_, op_le, o_cI⟩
theorem cmp_gt : Cmp X g W .Gt cGt := ⟨_, op_gt, o_cI⟩
theorem cmp_ge : Cmp X g W .GtE cGe := ⟨_, op_ge, o_cI⟩
def asB : D → M Bool
  | .bl b => ret b
  | _ => noM
def mB (m : Env → M D) (env : Env) : M Bool := bnd (m env) asB
theorem b_ok {m : Env → M D} {σ : L2.St} {H : Hp} {Q : Bool → Hp → Prop} (h : tB g W (mB m) σ H Q) : tE g W m σ H fun x H' => ∃ k, x = .bl k ∧ Q k H' := by
  refine tH.mono (fun v H1 q => ?_) (push (k := fun ds env => match ds with | [x] => asB x | _ => noM) (vs := []) (h.cg0 fun env => rfl))
  obtain ⟨nn, F, ρ, env, S, ds, n, ok, r, h⟩ := q
  cases r with
  | cons r1 r2 =>
    cases r2
    rename_i d
    dsimp only at h
    cases d with
    | bl b =>
      rw [r1.inv_bl]
      exact ⟨_, rfl, h ρ H1 b .refl ok rfl⟩
    | _ => exact h.elim
theorem se_cmp {op : CmpOp} {f : D → D → M D} {a b : Expr} {pos : Pos} {ma mb : Env → M D} (c : Cmp X g W op f) (ha : PE X a (tE g W ma)) (hb : PE X b (tE g W mb)) (hm : behindInMarks op b = false := by first | exact nomark _ | rfl) : PE X (.Compare a [op] [b] pos) (tE g W (m2 f ma mb)) := by
  obtain ⟨r, h1, h2⟩ := c.ex
  exact wkE (pe_cmpR h1 ha hb hm) fun σ H Q h => op2_ok h2 h
theorem st_cmp {op : CmpOp} {f : D → D → M D} {a b : Expr} {pos : Pos} {ma mb : Env → M D} (c : Cmp X g W op f) (ha : PE X a (tE g W ma)) (hb : PE X b (tE g W mb)) (hm : behindInMarks op b = false := by first | exact nomark _ | rfl) : PT X (.Compare a [op] [b] pos) (tB g W (mB (m2 f ma mb))) := by
  obtain ⟨r, h1, h2⟩ := c.ex
  exact wkT (pt_cmpR h1 ha hb hm) fun σ H Q h => op2_ok h2 (b_ok h)
/-- a < b < c -/
def m3c (f f' : D → D → M D) (a b c : Env → M D) (env : Env) : M D := bnd (a env) fun x => bnd (b env) fun y => bnd (f x y) fun z => bnd (asB z) fun k => if k = true then bnd (c env) fun w => f' y w else ret (.bl false)
theorem chain_ok {f f' : D → D → M D} {r r' : R2} (o : Op2 g W f r) (o' : Op2 g W f' r') {a b c : Env → M D} {σ : L2.St} {H : Hp} {Q : VK} (h : tE g W (m3c f f' a b c) σ H Q) : tChain r r' (tE g W a) (tE g W b) (tE g W c) σ H Q := by
  refine tH.mono (fun v H1 q => ?_) (push (k := fun ds env => match ds with | [x] => bnd (b env) fun y => bnd (f x y) fun z => bnd (asB z) fun k => if k = true then bnd (c env) fun w => f' y w else ret (.bl false) | _ => noM) (vs := []) (h.cg0 fun env => rfl))
  refine tH.mono (fun u H2 q => ?_) (push (k := fun ds env => match ds with | [x, y] => bnd (f x y) fun z => bnd (asB z) fun k => if k = true then bnd (c env) fun w => f' y w else ret (.bl false) | _ => noM) (vs := [v]) (q.cg1 fun d env => rfl))
  obtain ⟨nn, F, ρ, env, S, ds, n, ok, r, h⟩ := q
  cases r with
  | cons r1 r2 =>
    cases r2 with
    | cons r2 r3 =>
      cases r3
      rename_i d e
      refine o d e v u F ρ H2 S nn _ ok r1 r2 ?_
      dsimp only [bnd] at h
      cases hf : f d e S with
      | no =>
        rw [hf] at h
        exact h.elim
      | ex e1 S1 =>
        rw [hf] at h
        exact h
      | ok z S1 =>
        rw [hf] at h
        intro ρ' H3 zv x ok' rz
        cases z with
        | bl k =>
          refine ⟨k, rz.inv_bl, ?_⟩
          cases k with
          | false => exact h ρ' H3 _ x ok' (.bl false)
          | true =>
            have h2 : Fin rD g F W nn ρ H2 S Q (bnd (c env) (fun w => f' e w) S1) := h
            have t : tH rD g W (fun ds env => match ds with | [y] => bnd (c env) fun w => f' y w | _ => noM) [u] σ H3 Q := ⟨nn, F, ρ', env, S1, [e], n.car (x.car ok), ok', .one (r2.car (x.car ok)), Fin.ext x h2⟩
            refine tH.mono (fun w' H4 q => ?_) (push (k := fun ds env => match ds with | [y, w] => f' y w | _ => noM) (vs := [u]) (t.cg1 fun d env => rfl))
            obtain ⟨nn, F, ρ, env, S, ds, n, ok, r, h⟩ := q
            cases r with
            | cons r1 r2 =>
              cases r2 with
              | cons r2 r3 =>
                cases r3
                exact o' _ _ _ _ F ρ H4 S nn Q ok r1 r2 h
        | _ => exact h.elim
theorem se_chain {op op' : CmpOp} {f f' : D → D → M D} {a b c : Expr} {pos : Pos} {ma mb mc : Env → M D} (c1 : Cmp X g W op f) (c2 : Cmp X g W op' f') (ha : PE X a (tE g W ma)) (hb : PE X b (tE g W mb)) (hc : PE X c (tE g W mc)) (hm : lastMarks [op, op'] [b, c] = false := by with_unfolding_all rfl) : PE X (.Compare a [op, op'] [b, c] pos) (tE g W (m3c f f' ma mb mc)) := by
  obtain ⟨r, h1, h2⟩ := c1.ex
  obtain ⟨r', h1', h2'⟩ := c2.ex
  exact wkE (pe_chain h1 h1' ha hb hc (by assumption)) fun σ H Q h => chain_ok h2 h2' h
theorem st_chain {op op' : CmpOp} {f f' : D → D → M D} {a b c : Expr} {pos : Pos} {ma mb mc : Env → M D} (c1 : Cmp X g W op f) (c2 : Cmp X g W op' f') (ha : PE X a (tE g W ma)) (hb : PE X b (tE g W mb)) (hc : PE X c (tE g W mc)) (hm : lastMarks [op, op'] [b, c] = false := by with_unfolding_all rfl) : PT X (.Compare a [op, op'] [b, c] pos) (tB g W (mB (m3c f f' ma mb mc))) := by
  obtain ⟨r, h1, h2⟩ := c1.ex
  obtain ⟨r', h1', h2'⟩ := c2.ex
  exact wkT (pt_chain h1 h1' ha hb hc (by assumption)) fun σ H Q h => chain_ok h2 h2' (b_ok h)
/-! ### is None -/
def isNon : D → Bool
  | .non => true
  | _ => false
def fIsN (neg : Bool) : D → D → M D
  | x, .non => ret (.bl (if neg then !isNon x else isNon x))
  | _, _ => noM
theorem Rep.isNon {d : D} {v : V} {H : Hp} {B : Addr → Prop} {ρ : List Addr} (r : Rep g H B ρ d v) : decide (v = .non) = isNon d := by
  cases r <;> rfl
theorem o_isN : Op2 g W (fIsN false) (fun x y H Q => y = .non ∧ Q (.bl (decide (x = .non))) H) := by
  intro d e x y F ρ H S nn Q ok r1 r2 h
  cases e with
  | non =>
    cases r2
    refine ⟨rfl, ?_⟩
    rw [r1.isNon]
    have h2 : Fin rD g F W nn ρ H S Q (.ok (.bl (isNon d)) S) := by
      unfold fIsN at h
      exact h
    exact fin_same ok (.bl _) h2
  | _ =>
    unfold fIsN at h
    exact h.elim
theorem o_notN : Op2 g W (fIsN true) (fun x y H Q => y = .non ∧ Q (.bl (!decide (x = .non))) H) := by
  intro d e x y F ρ H S nn Q ok r1 r2 h
  cases e with
  | non =>
    cases r2
    refine ⟨rfl, ?_⟩
    rw [r1.isNon]
    have h2 : Fin rD g F W nn ρ H S Q (.ok (.bl (!isNon d)) S) := by
      unfold fIsN at h
      exact h
    exact fin_same ok (.bl _) h2
  | _ =>
    unfold fIsN at h
    exact h.elim
theorem cmp_is : Cmp X g W .Is (fIsN false) := ⟨_, op_isN, o_isN⟩
theorem cmp_isnot : Cmp X g W .IsNot (fIsN true) := ⟨_, op_notN, o_notN⟩
end
/-! ### == -/
mutual
def pur : D → Bool
  | .tup ds => purs ds
  | .lst ds => purs ds
  | .non => true
  | .bl _ => true
  | .int _ => true
  | .str _ => true
  | _ => false
def purs : List D → Bool
  | [] => true
  | d :: r => pur d && purs r
end
mutual
def toP : D → PyData
  | .tup ds => .tuple (toPs ds)
  | .lst ds => .list (toPs ds)
  | .non => .none
  | .bl b => .bool b
  | .int i => .int i
  | .str x => .str x
  | _ => .none
def toPs : List D → List PyData
  | [] => []
  | d :: r => toP d :: toPs r
end
def eqs (d : D) : Bool := pur d && SeqAt.shaped (toP d)
section
variable {g : Gx} {H : Hp} {B : Addr → Prop} {ρ : List Addr}
mutual
theorem Rep.dp : ∀ {d : D} {v : V}, Rep g H B ρ d v → pur d = true → Dp g.K H v (toP d)
  | _, _, .non, _ => .non
  | _, _, .bl b, _ => .bl b
  | _, _, .int i, _ => .int i
  | _, _, .str x, _ => .str x
  | _, _, .tup h t, p => .tup h (Reps.dp t (by simpa only [pur] using p))
  | _, _, .lst h n t, p => .lst (SqL.of h) (Reps.dp t (by simpa only [pur] using p))
  | .ty _, _, _, p => by simp [pur] at p
  | .glo _, _, _, p => by simp [pur] at p
  | .ref _, _, _, p => by simp [pur] at p
  | .scr _, _, _, p => by simp [pur] at p
theorem Reps.dp : ∀ {ds : List D} {vs : List V}, Reps g H B ρ ds vs → purs ds = true → DpAll g.K H vs (toPs ds)
  | _, _, .nil, _ => .nil
  | _, _, .cons r t, p => by
    simp only [purs, Bool.and_eq_true] at p
    exact .cons (Rep.dp r p.1) (Reps.dp t p.2)
end
end
def fEq (neg : Bool) (d e : D) : M D := if eqs d = true ∧ eqs e = true then ret (.bl (if neg then !PyData.eqv (toP d) (toP e) else PyData.eqv (toP d) (toP e))) else noM
section
variable {X : Cx} {g : Gx} {W : WX}
theorem o_eq : Op2 g W (fEq false) (rEqD g.K) := by
  intro d e x y F ρ H S nn Q ok r1 r2 h
  obtain ⟨⟨h1, h2⟩, h⟩ := ite_ret h
  obtain ⟨p1, s1⟩ := Bool.and_eq_true_iff.mp h1
  obtain ⟨p2, s2⟩ := Bool.and_eq_true_iff.mp h2
  exact ⟨_, _, r1.dp p1, r2.dp p2, s1, s2, fin_same ok (.bl _) h⟩
theorem o_ne : Op2 g W (fEq true) (rNeD g.K) := by
  intro d e x y F ρ H S nn Q ok r1 r2 h
  obtain ⟨⟨h1, h2⟩, h⟩ := ite_ret h
  obtain ⟨p1, s1⟩ := Bool.and_eq_true_iff.mp h1
  obtain ⟨p2, s2⟩ := Bool.and_eq_true_iff.mp h2
  exact ⟨_, _, r1.dp p1, r2.dp p2, s1, s2, fin_same ok (.bl _) h⟩
theorem cmp_eq (hk : X.K = g.K) (hu : X.A.units + 64 < cLine) : Cmp X g W .Eq (fEq false) := ⟨_, op_eqD hu, by rw [hk]; exact o_eq⟩
theorem cmp_ne (hk : X.K = g.K) (hu : X.A.units + 64 < cLine) : Cmp X g W .NotEq (fEq true) := ⟨_, op_neD hu, by rw [hk]; exact o_ne⟩
/-! ### in -/
def flatD : D → Bool
  | .non => true
  | .bl _ => true
  | .int _ => true
  | .str _ => true
  | _ => false
def vD : D → V
  | .bl b => .bl b
  | .int i => .int i
  | .str x => .str x
  | _ => .non
theorem Rep.flat {d : D} {v : V} {H : Hp} {B : Addr → Prop} {ρ : List Addr} (r : Rep g H B ρ d v) (f : flatD d = true) : v = vD d ∧ flatV v = true := by
  cases r <;> first | exact ⟨rfl, rfl⟩ | cases f
theorem Reps.flat {H : Hp} {B : Addr → Prop} {ρ : List Addr} : ∀ {ds : List D} {vs : List V}, Reps g H B ρ ds vs → ds.all flatD = true → vs = ds.map vD ∧ vs.all flatV = true
  | _, _, .nil, _ => ⟨rfl, rfl⟩
  | _, _, .cons r t, f => by
    simp only [List.all_cons, Bool.and_eq_true] at f
    obtain ⟨e1, f1⟩ := Rep.flat r f.1
    obtain ⟨e2, f2⟩ := Reps.flat t f.2
    exact ⟨by rw [List.map_cons, ← e1, ← e2], by rw [List.all_cons, f1, f2]; rfl⟩
def fIn (neg : Bool) : D → D → M D
  | x, .tup ds => if flatD x = true ∧ ds.all flatD = true then ret (.bl (if neg then !inV (vD x) (ds.map vD) else inV (vD x) (ds.map vD))) else noM
  | x, .lst ds => if flatD x = true ∧ ds.all flatD = true then ret (.bl (if neg then !inV (vD x) (ds.map vD) else inV (vD x) (ds.map vD))) else noM
  | _, _ => noM
theorem o_in (neg : Bool) : Op2 g W (fIn neg) (rIn g.K neg) := by
  intro d e x y F ρ H S nn Q ok r1 r2 h
  cases e with
  | tup ds =>
    obtain ⟨⟨h1, h2⟩, h⟩ := ite_ret (c := flatD d = true ∧ ds.all flatD = true) h
    obtain ⟨p, vs, rfl, hp, t⟩ := r2.inv_tup
    obtain ⟨e1, f1⟩ := r1.flat h1
    obtain ⟨e2, f2⟩ := t.flat h2
    refine ⟨p, vs, rfl, .inr hp, f1, f2, ?_⟩
    rw [e1, e2]
    exact fin_same ok (.bl _) h
  | lst ds =>
    obtain ⟨⟨h1, h2⟩, h⟩ := ite_ret (c := flatD d = true ∧ ds.all flatD = true) h
    obtain ⟨p, vs, rfl, hp, _, t⟩ := r2.inv_lst
    obtain ⟨e1, f1⟩ := r1.flat h1
    obtain ⟨e2, f2⟩ := t.flat h2
    refine ⟨p, vs, rfl, .inl (SqL.of hp), f1, f2, ?_⟩
    rw [e1, e2]
    exact fin_same ok (.bl _) h
  | _ => exact h.elim
theorem cmp_in (hk : X.K = g.K) : Cmp X g W .In (fIn false) := ⟨_, op_in_seq, by rw [hk]; exact o_in false⟩
theorem cmp_notin (hk : X.K = g.K) : Cmp X g W .NotIn (fIn true) := ⟨_, op_notIn_seq, by rw [hk]; exact o_in true⟩
/-! ### and, or, not -/
def mAnd (a b : Env → M Bool) (env : Env) : M Bool := bnd (a env) fun k => if k = true then b env else ret false
def mOr (a b : Env → M Bool) (env : Env) : M Bool := bnd (a env) fun k => if k = true then ret true else b env
def mNot (a : Env → M Bool) (env : Env) : M Bool := bnd (a env) fun k => ret (!k)
theorem tB_ret {b : Bool} {σ : L2.St} {H : Hp} {Q : Bool → Hp → Prop} (h : tB g W (fun _ => ret b) σ H Q) : Q b H := by
  obtain ⟨nn, F, ρ, env, S, ds, n, ok, r, h⟩ := h
  exact h ρ H b .refl ok rfl
theorem and_ok {a b : Env → M Bool} {σ : L2.St} {H : Hp} {Q : Bool → Hp → Prop} (h : tB g W (mAnd a b) σ H Q) : tAnd (tB g W a) (tB g W b) σ H Q := by
  refine tH.mono (fun k H1 q => ?_) (pushT (k := fun k _ env => if k = true then b env else ret false) (vs := []) (h.cg0 fun env => rfl))
  cases k with
  | true => exact q
  | false => exact tB_ret q
theorem or_ok {a b : Env → M Bool} {σ : L2.St} {H : Hp} {Q : Bool → Hp → Prop} (h : tB g W (mOr a b) σ H Q) : tOr (tB g W a) (tB g W b) σ H Q := by
  refine tH.mono (fun k H1 q => ?_) (pushT (k := fun k _ env => if k = true then ret true else b env) (vs := []) (h.cg0 fun env => rfl))
  cases k with
  | true => exact tB_ret q
  | false => exact q
theorem not_ok {a : Env → M Bool} {σ : L2.St} {H : Hp} {Q : Bool → Hp → Prop} (h : tB g W (mNot a) σ H Q) : tNot (tB g W a) σ H Q := by
  refine tH.mono (fun k H1 q => ?_) (pushT (k := fun k _ _ => ret (!k)) (vs := []) (h.cg0 fun env => rfl))
  exact tB_ret q
section
variable {a b : Expr} {rest : List Expr} {pos : Pos} {ma mb : Env → M Bool}
theorem sw_and1 (ha : PT X a (tB g W ma)) : PW X (.BoolOp .And [a] pos) (tB g W ma) := pw_and1 ha
theorem sw_or1 (ha : PT X a (tB g W ma)) : PW X (.BoolOp .Or [a] pos) (tB g W ma) := pw_or1 ha
theorem sw_and (ha : PT X a (tB g W ma)) (hb : PW X (.BoolOp .And (b :: rest) pos) (tB g W mb)) : PW X (.BoolOp .And (a :: b :: rest) pos) (tB g W (mAnd ma mb)) := wkW (pw_and ha hb) fun _ _ _ h => and_ok h
theorem sw_or (ha : PT X a (tB g W ma)) (hb : PW X (.BoolOp .Or (b :: rest) pos) (tB g W mb)) : PW X (.BoolOp .Or (a :: b :: rest) pos) (tB g W (mOr ma mb)) := wkW (pw_or ha hb) fun _ _ _ h => or_ok h
theorem st_not (ha : PT X a (tB g W ma)) : PT X (.UnaryOp .Not a pos) (tB g W (mNot ma)) := wkT (pt_not ha) fun _ _ _ h => not_ok h
end
/-- as values: all but the last are True or False -/
def mAndV (a b : Env → M D) (env : Env) : M D := bnd (a env) fun x => bnd (asB x) fun k => if k = true then b env else ret (.bl false)
def mOrV (a b : Env → M D) (env : Env) : M D := bnd (a env) fun x => bnd (asB x) fun k => if k = true then ret (.bl true) else b env
def fNot : D → M D
  | .bl b => ret (.bl (!b))
  | _ => noM
theorem tE_ret {d : D} {v : V} {σ : L2.St} {H : Hp} {Q : VK} (r : ∀ H B ρ, Rep g H B ρ d v) (h : tE g W (fun _ => ret d) σ H Q) : Q v H := by
  obtain ⟨nn, F, ρ, env, S, ds, n, ok, _, h⟩ := h
  exact h ρ H v .refl ok (r _ _ _)
theorem andV_ok {a b : Env → M D} {σ : L2.St} {H : Hp} {Q : VK} (h : tE g W (mAndV a b) σ H Q) : tAndV (tE g W a) (tE g W b) σ H Q := by
  refine tH.mono (fun v H1 q => ?_) (push (k := fun ds env => match ds with | [x] => bnd (asB x) fun k => if k = true then b env else ret (.bl false) | _ => noM) (vs := []) (h.cg0 fun env => rfl))
  obtain ⟨nn, F, ρ, env, S, ds, n, ok, r, h⟩ := q
  cases r with
  | cons r1 r2 =>
    cases r2
    rename_i d
    dsimp only [bnd] at h
    cases d with
    | bl k =>
      refine ⟨k, r1.inv_bl, ?_⟩
      cases k with
      | true => exact ⟨nn, F, ρ, env, S, [], n, ok, .nil, h⟩
      | false => exact fin_same ok (.bl false) h
    | _ => exact h.elim
theorem orV_ok {a b : Env → M D} {σ : L2.St} {H : Hp} {Q : VK} (h : tE g W (mOrV a b) σ H Q) : tOrV (tE g W a) (tE g W b) σ H Q := by
  refine tH.mono (fun v H1 q => ?_) (push (k := fun ds env => match ds with | [x] => bnd (asB x) fun k => if k = true then ret (.bl true) else b env | _ => noM) (vs := []) (h.cg0 fun env => rfl))
  obtain ⟨nn, F, ρ, env, S, ds, n, ok, r, h⟩ := q
  cases r with
  | cons r1 r2 =>
    cases r2
    rename_i d
    dsimp only [bnd] at h
    cases d with
    | bl k =>
      refine ⟨k, r1.inv_bl, ?_⟩
      cases k with
      | true => exact fin_same ok (.bl true) h
      | false => exact ⟨nn, F, ρ, env, S, [], n, ok, .nil, h⟩
    | _ => exact h.elim
section
variable {a b : Expr} {rest : List Expr} {pos : Pos} {ma mb : Env → M D} {op : BoolOp}
theorem se_one (ha : PE X a (tE g W ma)) : PE X (.BoolOp op [a] pos) (tE g W ma) := pe_one ha
theorem se_and (ha : PE X a (tE g W ma)) (hb : PE X (.BoolOp .And (b :: rest) pos) (tE g W mb)) : PE X (.BoolOp .And (a :: b :: rest) pos) (tE g W (mAndV ma mb)) := wkE (pe_and ha hb) fun _ _ _ h => andV_ok h
theorem se_or (ha : PE X a (tE g W ma)) (hb : PE X (.BoolOp .Or (b :: rest) pos) (tE g W mb)) : PE X (.BoolOp .Or (a :: b :: rest) pos) (tE g W (mOrV ma mb)) := wkE (pe_or ha hb) fun _ _ _ h => orV_ok h
theorem se_not (ha : PE X a (tE g W ma)) : PE X (.UnaryOp .Not a pos) (tE g W (m1 fNot ma)) := wkE (pe_not ha) fun σ H Q h => by
  refine op1_ok (r := fun x H1 Q => ∃ c, x = .bl c ∧ Q (.bl (!c)) H1) (fun d x F ρ H S nn Q ok r1 h => ?_) h
  cases d with
  | bl k => exact ⟨k, r1.inv_bl, fin_same ok (.bl _) h⟩
  | _ => exact h.elim
end
/-- a if t else b -/
def mIf (c : Env → M Bool) (a b : Env → M D) (env : Env) : M D := bnd (c env) fun k => if k = true then a env else b env
theorem se_if {c a b : Expr} {pos : Pos} {mc : Env → M Bool} {ma mb : Env → M D} (hc : PT X c (tB g W mc)) (ha : PE X a (tE g W ma)) (hb : PE X b (tE g W mb)) : PE X (.IfExp c a b pos) (tE g W (mIf mc ma mb)) := wkE (pe_ifExp hc ha hb) fun σ H Q h => by
  refine tH.mono (fun k H1 q => ?_) (pushT (k := fun k _ env => if k = true then ma env else mb env) (vs := []) (h.cg0 fun env => rfl))
  cases k with
  | true => exact q
  | false => exact q
/-- any other expression as a test -/
def trD : D → M Bool
  | .non => ret false
  | .bl b => ret b
  | .int i => ret (i != 0)
  | .str x => if x.length ≤ sizeLine then ret ((x.length : Int) != 0) else noM
  | .tup ds => ret (!ds.isEmpty)
  | .lst ds => ret (!ds.isEmpty)
  | _ => noM
def mTru (m : Env → M D) (env : Env) : M Bool := bnd (m env) trD
theorem Reps.isEmpty {H : Hp} {B : Addr → Prop} {ρ : List Addr} {ds : List D} {vs : List V} (r : Reps g H B ρ ds vs) : vs.isEmpty = ds.isEmpty := by cases r <;> rfl
theorem tru_rep {d : D} {v : V} {F ρ : List Addr} {H : Hp} {S : Sto} {nn : Nat} {Q : Bool → Hp → Prop} (ok : Ok g F ρ H S) (r : Rep g H (Bar F ρ S) ρ d v) (h : Fin rBo g F W nn ρ H S Q (trD d S)) : ∃ k, TruV g.K v H k ∧ Q k H := by
  have fin : ∀ k, Fin rBo g F W nn ρ H S Q (.ok k S) → Q k H := fun k h => h ρ H k .refl ok rfl
  cases r with
  | non => exact ⟨_, rfl, fin _ h⟩
  | bl b => exact ⟨_, rfl, fin _ h⟩
  | int i => exact ⟨_, rfl, fin _ h⟩
  | str x =>
    obtain ⟨hc, h⟩ := ite_ret (c := x.length ≤ sizeLine) h
    exact ⟨_, ⟨hc, rfl⟩, fin _ h⟩
  | tup hp t => exact ⟨_, .inr (.inl ⟨_, hp, by rw [t.isEmpty]⟩), fin _ h⟩
  | lst hp n t => exact ⟨_, .inl ⟨_, SqL.of hp, by rw [t.isEmpty]⟩, fin _ h⟩
  | _ => exact h.elim
theorem st_tru {a : Expr} {ma : Env → M D} (hk : X.K = g.K) (ha : PE X a (tE g W ma)) (he : ∀ whole, isTrue a X.env whole = (do let v ← whole; standAt a.pos; holding [v] (truthy v)) := by intro _; rfl) : PT X a (tB g W (mTru ma)) := wkT (pt_truth ha he) fun σ H Q h => by
  refine tH.mono (fun v H1 q => ?_) (push (k := fun ds env => match ds with | [x] => trD x | _ => noM) (vs := []) (h.cg0 fun env => rfl))
  obtain ⟨nn, F, ρ, env, S, ds, n, ok, r, h⟩ := q
  cases r with
  | cons r1 r2 =>
    cases r2
    rw [hk]
    exact tru_rep ok r1 h
end
end Mir
set_option Elab.async false
set_option linter.all false
set_option maxRecDepth 100000
set_option maxHeartbeats 4000000
namespace Mir
open PySem PySem.Spec PyProof.Rows L2
/-! ### an item, a slice -/
def getO {α : Type} : Option α → M α
  | some a => ret a
  | none => noM
/-- what a handle's list holds now -/
def rdS (k : Nat) : M (List D) := fun S => match S[k]? with
  | some (some ds) => .ok ds S
  | _ => .no
def fIx : D → D → M D
  | .tup ds, .int i => getO (atI ds i)
  | .lst ds, .int i => getO (atI ds i)
  | .ref k, .int i => bnd (rdS k) fun ds => getO (atI ds i)
  | .str z, .int i => if z.length ≤ sizeLine then bnd (getO (atI z.cps.toList i)) fun c => ret (.str ⟨#[c]⟩) else noM
  | _, _ => noM
section
variable {g : Gx} {F ρ : List Addr} {H : Hp} {B : Addr → Prop} {S : Sto}
theorem Reps.atI {ds : List D} {vs : List V} {i : Int} {d : D} (r : Reps g H B ρ ds vs) (h : atI ds i = some d) : ∃ v, L2.atI vs i = some v ∧ Rep g H B ρ d v := by
  unfold L2.atI at h ⊢
  rw [r.length] at h
  cases e : ixN vs.length i with
  | none =>
    rw [e] at h
    cases h
  | some j =>
    rw [e] at h
    exact r.get (show ds[j]? = some d from h)
/-- a handle's list -/
theorem Ok.rd (ok : Ok g F ρ H S) {k : Nat} {p : Addr} {ds : List D} (hk : ρ[k]? = some p) (hs : S[k]? = some (some ds)) : ∃ vs, H p = some (.lst vs) ∧ Reps g H (Bar F ρ S) ρ ds vs ∧ nrs ds = true := by
  obtain ⟨n, q, vs, h1, h2, h3, _⟩ := ok.sto k ds hs
  rw [hk] at h1
  cases h1
  exact ⟨vs, h2, h3, n⟩
theorem Rep.inv_ref {k : Nat} {v : V} (r : Rep g H B ρ (.ref k) v) : ∃ p, v = .ref p ∧ ρ[k]? = some p := by
  cases r with
  | ref h => exact ⟨_, rfl, h⟩
theorem rdS_ok {W : WX} {nn : Nat} {α β : Type} {rl : Rl α β} {Q : β → Hp → Prop} {k : Nat} {f : List D → M α} (h : Fin rl g F W nn ρ H S Q (bnd (rdS k) f S)) : ∃ ds, S[k]? = some (some ds) ∧ Fin rl g F W nn ρ H S Q (f ds S) := by
  unfold bnd rdS at h
  cases e : S[k]? with
  | none =>
    rw [e] at h
    exact h.elim
  | some u =>
    rw [e] at h
    cases u with
    | none => exact h.elim
    | some ds => exact ⟨ds, rfl, h⟩
theorem getO_ok {W : WX} {nn : Nat} {α α' β : Type} {rl : Rl α β} {Q : β → Hp → Prop} {o : Option α'} {f : α' → M α} (h : Fin rl g F W nn ρ H S Q (bnd (getO o) f S)) : ∃ a, o = some a ∧ Fin rl g F W nn ρ H S Q (f a S) := by
  cases o with
  | none => exact h.elim
  | some a => exact ⟨a, rfl, h⟩
end
theorem getO_one {g : Gx} {F ρ : List Addr} {H : Hp} {S : Sto} {W : WX} {nn : Nat} {α' β : Type} {rl : Rl α' β} {Q : β → Hp → Prop} {o : Option α'} (h : Fin rl g F W nn ρ H S Q (getO o S)) : ∃ a, o = some a ∧ Fin rl g F W nn ρ H S Q (.ok a S) := by
  cases o with
  | none => exact h.elim
  | some a => exact ⟨a, rfl, h⟩
section
variable {X : Cx} {g : Gx} {W : WX}
theorem o_ix : Op2 g W fIx (rIx g.K) := by
  intro d e x y F ρ H S nn Q ok r1 r2 h
  unfold fIx at h
  split at h
  · obtain ⟨a, e1, h⟩ := getO_one h
    obtain ⟨p, vs, rfl, hp, t⟩ := r1.inv_tup
    obtain ⟨v, h1, r⟩ := t.atI e1
    rw [r2.inv_int]
    exact .inr (.inl ⟨p, vs, _, v, rfl, rfl, hp, h1, fin_same ok r h⟩)
  · obtain ⟨a, e1, h⟩ := getO_one h
    obtain ⟨p, vs, rfl, hp, _, t⟩ := r1.inv_lst
    obtain ⟨v, h1, r⟩ := t.atI e1
    rw [r2.inv_int]
    exact .inl ⟨p, vs, _, v, rfl, rfl, SqL.of hp, h1, fin_same ok r h⟩
  · obtain ⟨ds, e0, h⟩ := rdS_ok h
    obtain ⟨a, e1, h⟩ := getO_one h
    obtain ⟨p, rfl, hk⟩ := r1.inv_ref
    obtain ⟨vs, hp, t, _⟩ := ok.rd hk e0
    obtain ⟨v, h1, r⟩ := t.atI e1
    rw [r2.inv_int]
    exact .inl ⟨p, vs, _, v, rfl, rfl, SqL.of hp, h1, fin_same ok r h⟩
  · obtain ⟨hc, h⟩ := ite_ret h
    obtain ⟨c, e1, h⟩ := getO_ok h
    rw [r1.inv_str, r2.inv_int]
    exact .inr (.inr ⟨_, _, c, rfl, rfl, hc, e1, fin_same ok (.str _) h⟩)
  · exact h.elim
theorem se_ix {a b : Expr} {pos : Pos} {ma mb : Env → M D} (hk : X.K = g.K) (ha : PE X a (tE g W ma)) (hb : PE X b (tE g W mb)) (hs : PlainIx b := by intro _ _; rfl) : PE X (.Subscript a b pos) (tE g W (m2 fIx ma mb)) :=
  wkE (pe_ix ix_seq ha hb hs) fun σ H Q h => op2_ok (by rw [hk]; exact o_ix) h
/-- a slice's part -/
abbrev rO : Rl (Option Int) (Option Int) := fun _ _ _ _ _ a b => b = a
def mNone (_ : Env) : M (Option Int) := ret none
def asI : D → M Int
  | .int i => ret i
  | _ => noM
def mSome (m : Env → M D) (env : Env) : M (Option Int) := bnd (m env) fun d => bnd (asI d) fun i => ret (some i)
abbrev tO (g : Gx) (W : WX) (m : Env → M (Option Int)) : TO := tH rO g W (fun _ => m) []
theorem wkO {e : Option Expr} {t u : TO} (h : PO X e t) (q : ∀ σ H Q, u σ H Q → t σ H Q) : PO X e u := ⟨fun pins s σ H Q I hw => h.run pins s σ H Q I (q σ H Q hw)⟩
theorem so_none : PO X none (tO g W mNone) := wkO po_none fun σ H Q h => by
  obtain ⟨nn, F, ρ, env, S, ds, n, ok, r, h⟩ := h
  exact h ρ H _ .refl ok rfl
theorem so_some {e : Expr} {m : Env → M D} (he : PE X e (tE g W m)) : PO X (some e) (tO g W (mSome m)) := wkO (po_some he) fun σ H Q h => by
  refine tH.mono (fun v H1 q => ?_) (push (k := fun ds env => match ds with | [d] => bnd (asI d) fun i => ret (some i) | _ => noM) (vs := []) (h.cg0 fun env => rfl))
  obtain ⟨nn, F, ρ, env, S, ds, n, ok, r, h⟩ := q
  cases r with
  | cons r1 r2 =>
    cases r2
    rename_i d
    cases d with
    | int i => exact ⟨i, r1.inv_int, h ρ H1 _ .refl ok rfl⟩
    | _ => exact h.elim
/-- where a part that gives no datum comes in between -/
theorem pushO {α β : Type} {rl : Rl α β} {σ : L2.St} {H : Hp} {vs : List V} {Q : β → Hp → Prop} {m : Env → M (Option Int)} {k : Option Int → List D → Env → M α} (h : tH rl g W (fun ds env => bnd (m env) fun o => k o ds env) vs σ H Q) :
    tO g W m σ H fun o H1 => tH rl g W (k o) vs σ H1 Q := by
  obtain ⟨nn, F, ρ, env, S, ds, n, o, r, h⟩ := h
  refine ⟨nn, F, ρ, env, S, [], n, o, .nil, ?_⟩
  dsimp only [bnd] at h
  show Fin rO g F W nn ρ H S _ (m env S)
  cases e : m env S with
  | ok d S1 =>
    rw [e] at h
    refine fun ρ' H' v x o' r' => ?_
    subst r'
    exact ⟨nn, F, ρ', env, S1, ds, n.car (x.car o), o', r.car (x.car o), Fin.ext x h⟩
  | ex e1 S1 =>
    rw [e] at h
    exact h
  | no =>
    rw [e] at h
    exact h
def cutD (xs : List D) (lo hi : Option Int) : List D := (xs.drop (HT.sIx xs.length 0 lo)).take (HT.sIx xs.length xs.length hi - HT.sIx xs.length 0 lo)
def fSl : D → Option Int → Option Int → M D
  | .tup ds, lo, hi => ret (.tup (cutD ds lo hi))
  | .lst ds, lo, hi => ret (.lst (cutD ds lo hi))
  | .ref k, lo, hi => bnd (rdS k) fun ds => ret (.lst (cutD ds lo hi))
  | .str z, lo, hi => if z.length ≤ sizeLine then ret (.str (cutS z lo hi)) else noM
  | _, _, _ => noM
def mSl (m : Env → M D) (lo hi : Env → M (Option Int)) (env : Env) : M D := bnd (m env) fun d => bnd (lo env) fun l => bnd (hi env) fun u => fSl d l u
theorem Reps.cut {H : Hp} {B : Addr → Prop} {ρ : List Addr} {ds : List D} {vs : List V} (r : Reps g H B ρ ds vs) (lo hi : Option Int) : Reps g H B ρ (cutD ds lo hi) (cutV vs lo hi) := by
  unfold cutD cutV
  rw [r.length]
  exact (r.drop _).take _
theorem cut_whole {xs : List D} {lo hi : Option Int} (h : HT.sIx xs.length 0 lo = 0 ∧ HT.sIx xs.length xs.length hi = xs.length) : cutD xs lo hi = xs := by
  unfold cutD
  rw [h.1, h.2]
  simp
def rSlX (K : PySem.W.Frag) : V → Option Int → Option Int → Hp → VK → Prop := fun x lo hi H Q => rSlA K x lo hi H Q ∨ rSlL K x lo hi H Q ∨ rSlS x lo hi H Q
theorem slX : SlR X (rSlX X.K) := sl_tupA.or (sl_list.or sl_str)
theorem o_sl {d : D} {x : V} {lo hi : Option Int} {F ρ : List Addr} {H : Hp} {S : Sto} {nn : Nat} {Q : VK} (ok : Ok g F ρ H S) (r : Rep g H (Bar F ρ S) ρ d x) (h : Fin rD g F W nn ρ H S Q (fSl d lo hi S)) : rSlX g.K x lo hi H Q := by
  unfold fSl at h
  split at h
  · obtain ⟨p, vs, rfl, hp, t⟩ := r.inv_tup
    refine .inl ⟨p, vs, rfl, hp, fun z => ?_, fun _ a ha => fin_tup ok ha (t.cut lo hi) h⟩
    rw [← t.length] at z
    rw [cut_whole z] at h
    exact fin_same ok r h
  · obtain ⟨p, vs, rfl, hp, _, t⟩ := r.inv_lst
    exact .inr (.inl ⟨p, vs, rfl, SqL.of hp, fun a ha => fin_lst ok ha (t.cut lo hi) h⟩)
  · obtain ⟨ds, e0, h⟩ := rdS_ok h
    obtain ⟨p, rfl, hk⟩ := r.inv_ref
    obtain ⟨vs, hp, t, _⟩ := ok.rd hk e0
    exact .inr (.inl ⟨p, vs, rfl, SqL.of hp, fun a ha => fin_lst ok ha (t.cut lo hi) h⟩)
  · obtain ⟨hc, h⟩ := ite_ret h
    rw [r.inv_str]
    exact .inr (.inr ⟨_, rfl, hc, fin_same ok (.str _) h⟩)
  · exact h.elim
theorem se_slice {e : Expr} {lo hi : Option Expr} {pos p2 : Pos} {m : Env → M D} {ml mh : Env → M (Option Int)} (hk : X.K = g.K) (he : PE X e (tE g W m)) (hl : PO X lo (tO g W ml)) (hu : PO X hi (tO g W mh)) : PE X (.Subscript e (.Slice lo hi none p2) pos) (tE g W (mSl m ml mh)) :=
  wkE (pe_slice slX he hl hu) fun σ H Q h => by
    refine tH.mono (fun v H1 q => ?_) (push (k := fun ds env => match ds with | [d] => bnd (ml env) fun l => bnd (mh env) fun u => fSl d l u | _ => noM) (vs := []) (h.cg0 fun env => rfl))
    refine tH.mono (fun l H2 q => ?_) (pushO (k := fun l ds env => match ds with | [d] => bnd (mh env) fun u => fSl d l u | _ => noM) (vs := [v]) (q.cg1 fun d env => rfl))
    refine tH.mono (fun u H3 q => ?_) (pushO (k := fun u ds env => match ds with | [d] => fSl d l u | _ => noM) (vs := [v]) (q.cg1 fun d env => rfl))
    obtain ⟨nn, F, ρ, env, S, ds, n, ok, r, h⟩ := q
    cases r with
    | cons r1 r2 =>
      cases r2
      rw [hk]
      exact o_sl ok r1 h
/-! ### displays -/
def fTup (ds : List D) : M D := if ds.length ≤ sizeLine then ret (.tup ds) else noM
def fLst (ds : List D) : M D := if ds.length ≤ sizeLine then ret (.lst ds) else noM
/-- a list that will be changed: it goes to the store -/
def fNew (ds : List D) : M D := if ds.length ≤ sizeLine ∧ nrs ds = true then (fun S => .ok (.ref S.length) (S ++ [some ds])) else noM
def mCall (f : List D → M D) (m : Env → M (List D)) (env : Env) : M D := bnd (m env) f
/-- the rule r of a call reads f -/
def OpN (g : Gx) (W : WX) (f : List D → M D) (r : List V → Hp → VK → Prop) : Prop := ∀ (ds : List D) (vs : List V) (F ρ : List Addr) (H : Hp) (S : Sto) (nn : Nat) (Q : VK), Ok g F ρ H S → Reps g H (Bar F ρ S) ρ ds vs →
  Fin rD g F W nn ρ H S Q (f ds S) → r vs H Q
theorem opn_ok {f : List D → M D} {r : List V → Hp → VK → Prop} (o : OpN g W f r) {m : Env → M (List D)} {σ : L2.St} {H : Hp} {Q : VK} (h : tE g W (mCall f m) σ H Q) : tL g W m σ H fun vs H1 => r vs H1 Q := by
  refine tH.mono (fun vs H1 q => ?_) (pushL (k := fun ds _ => f ds) (vs := []) (h.cg0 fun env => rfl))
  obtain ⟨nn, F, ρ, env, S, ds, n, ok, r, h⟩ := q
  exact o ds vs F ρ H1 S nn Q ok r h
theorem o_tup : OpN g W fTup (fun xs H1 Q => xs.length ≤ sizeLine ∧ ∀ p, H1 p = none → Q (.ref p) (upd H1 p (.tup xs))) := by
  intro ds vs F ρ H S nn Q ok r h
  obtain ⟨hc, h⟩ := ite_ret h
  exact ⟨by rw [← r.length]; exact hc, fun p hp => fin_tup ok hp r h⟩
theorem o_lst : OpN g W fLst (fun xs H1 Q => xs.length ≤ sizeLine ∧ ∀ p, H1 p = none → Q (.ref p) (upd H1 p (.lst xs))) := by
  intro ds vs F ρ H S nn Q ok r h
  obtain ⟨hc, h⟩ := ite_ret h
  exact ⟨by rw [← r.length]; exact hc, fun p hp => fin_lst ok hp r h⟩
/-- a new handle -/
theorem ext_handle {F ρ : List Addr} {H : Hp} {S : Sto} {p : Addr} {ds : List D} {vs : List V} (ok : Ok g F ρ H S) (hp : H p = none) : Ext F ρ H S (ρ ++ [p]) (upd H p (.lst vs)) (S ++ [some ds]) := by
  have x := ext_new (o := .lst vs) ok hp
  refine ⟨x.keep, x.there, fun q ⟨i, es, h1, h2⟩ => ?_, ⟨[p], rfl⟩⟩
  by_cases hi : i < ρ.length
  · rw [List.getElem?_append_left hi] at h1
    rw [List.getElem?_append_left (by rw [← ok.len]; exact hi)] at h2
    exact .inl ⟨i, es, h1, h2⟩
  · rw [List.getElem?_append_right (by omega)] at h1
    have e : i - ρ.length = 0 := by
      have := (List.getElem?_eq_some_iff.mp h1).1
      simpa using this
    rw [e] at h1
    cases h1
    exact .inr (.of hp)
theorem ok_handle {F ρ : List Addr} {H : Hp} {S : Sto} {p : Addr} {ds : List D} {vs : List V} (ok : Ok g F ρ H S) (hp : H p = none) (r : Reps g H (Bar F ρ S) ρ ds vs) (hn : nrs ds = true) : Ok g F (ρ ++ [p]) (upd H p (.lst vs)) (S ++ [some ds]) := by
  have x := ext_handle (ds := ds) (vs := vs) ok hp
  have np : p ∉ ρ := fun h => by
    obtain ⟨xs, z⟩ := ok.trk p h
    rw [hp] at z
    cases z
  refine ⟨by simp [ok.len], ?_, fun q hq => ?_, fun i es h => ?_, fun q hq => ?_, Tabs.upd ok.tab hp⟩
  · rw [List.nodup_append]
    exact ⟨ok.nd, by simp, fun a ha b hb e => np (by
      have e2 : b = p := by simpa using hb
      rw [← e2, ← e]
      exact ha)⟩
  · rcases List.mem_append.mp hq with z | z
    · exact x.there q (ok.trk q z)
    · have e : q = p := by simpa using z
      exact ⟨vs, by rw [e, upd_same]⟩
  · by_cases hi : i < S.length
    · rw [List.getElem?_append_left hi] at h
      obtain ⟨h0, q, us, h1, h2, h3, h4⟩ := ok.sto i es h
      exact ⟨h0, q, us, by rw [List.getElem?_append_left (by rw [ok.len]; exact hi)]; exact h1, by rw [upd_ne (ne_of_none h2 hp)]; exact h2, h3.car (x.car ok), h4⟩
    · rw [List.getElem?_append_right (by omega)] at h
      have e : i - S.length = 0 := by
        have := (List.getElem?_eq_some_iff.mp h).1
        simpa using this
      rw [e] at h
      cases h
      refine ⟨hn, p, vs, ?_, upd_same, r.car (x.car ok), fun hf => ?_⟩
      · rw [List.getElem?_append_right (by rw [ok.len]; omega), ok.len, e]
        rfl
      · obtain ⟨xs, z⟩ := ok.fr p hf
        rw [hp] at z
        cases z
  · obtain ⟨xs, h⟩ := ok.fr q hq
    exact ⟨xs, by rw [upd_ne (ne_of_none h hp)]; exact h⟩
theorem o_new : OpN g W fNew (fun xs H1 Q => xs.length ≤ sizeLine ∧ ∀ p, H1 p = none → Q (.ref p) (upd H1 p (.lst xs))) := by
  intro ds vs F ρ H S nn Q ok r h
  obtain ⟨hc, h⟩ := ite_ret h
  refine ⟨by rw [← r.length]; exact hc.1, fun p hp => ?_⟩
  refine h (ρ ++ [p]) _ _ (ext_handle (vs := vs) ok hp) (ok_handle ok hp r hc.2) (.ref ?_)
  rw [List.getElem?_append_right (by rw [ok.len]; omega), ok.len]
  simp
theorem se_tup {es : List Expr} {k : Nat} {pos : Pos} {m : Env → M (List D)} (ha : PA X es (tL g W m)) : PE X (.Tuple es k pos) (tE g W (mCall fTup m)) := wkE (pe_tup ha) fun _ _ _ h => opn_ok o_tup h
theorem se_lst {es : List Expr} {pos : Pos} {m : Env → M (List D)} (ha : PA X es (tL g W m)) : PE X (.List es pos) (tE g W (mCall fLst m)) := wkE (pe_lst ha) fun _ _ _ h => opn_ok o_lst h
theorem se_new {es : List Expr} {pos : Pos} {m : Env → M (List D)} (ha : PA X es (tL g W m)) : PE X (.List es pos) (tE g W (mCall fNew m)) := wkE (pe_lst ha) fun _ _ _ h => opn_ok o_new h
/-! ### built-in functions -/
structure BuiltF (X : Cx) (g : Gx) (W : WX) (v : Value) (f : List D → M D) : Prop where
  ex : ∃ r, CallR X v r ∧ OpN g W f r
theorem se_callB {x : Str} {p pos : Pos} {e : Expr} {es : List Expr} {id : String} {f : List D → M D} {m : Env → M (List D)} (b : BuiltF X g W (.builtin id) f) (hg : Gl X x) (hm : X.mg x = none) (hv : bootBuiltins x = some (.builtin id)) (ha : PA X (e :: es) (tL g W m)) (hn : x ≠ "__name__" := by decide) (hdb : (x == ("__debug__" : Str)) = false := by decide)
    (he : starEach (e :: es) X.env = (false, eval e X.env) :: starEach es X.env := by rfl) (hpl : (backTo pos (starEach es X.env)).any (·.1) = false := by rfl) : PE X (.Call (.Name x p) (e :: es) [] pos) (tE g W (mCall f m)) := by
  obtain ⟨r, h1, h2⟩ := b.ex
  exact wkE (pe_callB h1 hg hm hv ha hn hdb he hpl) fun _ _ _ h => opn_ok h2 h
theorem se_callTy {x : Str} {p pos : Pos} {e : Expr} {es : List Expr} {T : String} {f : List D → M D} {m : Env → M (List D)} (b : BuiltF X g W (.type T) f) (hg : Gl X x) (hm : X.mg x = none) (hv : bootBuiltins x = some (.type T)) (ha : PA X (e :: es) (tL g W m)) (hn : x ≠ "__name__" := by decide) (hdb : (x == ("__debug__" : Str)) = false := by decide)
    (he : starEach (e :: es) X.env = (false, eval e X.env) :: starEach es X.env := by rfl) (hpl : (backTo pos (starEach es X.env)).any (·.1) = false := by rfl) : PE X (.Call (.Name x p) (e :: es) [] pos) (tE g W (mCall f m)) := by
  obtain ⟨r, h1, h2⟩ := b.ex
  exact wkE (pe_callTy h1 hg hm hv ha hn hdb he hpl) fun _ _ _ h => opn_ok h2 h
/-- a name that a module was asked for: gcd, isqrt -/
theorem se_callM {x : Str} {p pos : Pos} {e : Expr} {es : List Expr} {id : String} {f : List D → M D} {m : Env → M (List D)} (b : BuiltF X g W (.builtin id) f) (hg : Gl X x) (hm : X.mg x = some (.builtin id)) (ha : PA X (e :: es) (tL g W m)) (hdb : (x == ("__debug__" : Str)) = false := by decide)
    (he : starEach (e :: es) X.env = (false, eval e X.env) :: starEach es X.env := by rfl) (hpl : (backTo pos (starEach es X.env)).any (·.1) = false := by rfl) : PE X (.Call (.Name x p) (e :: es) [] pos) (tE g W (mCall f m)) := by
  obtain ⟨r, h1, h2⟩ := b.ex
  exact wkE (pe_callBfun h1 hg hm ha hdb he hpl) fun _ _ _ h => opn_ok h2 h
def fAbs : List D → M D
  | [.int i] => ret (.int (if i < 0 then -i else i))
  | _ => noM
theorem bf_abs : BuiltF X g W (.builtin "abs") fAbs := ⟨_, call_abs, fun ds vs F ρ H S nn Q ok r h => by
  unfold fAbs at h
  split at h
  · cases r with
    | cons r1 r2 =>
      cases r2
      rw [r1.inv_int]
      exact ⟨_, rfl, fin_same ok (.int _) h⟩
  · exact h.elim⟩
def fInt : List D → M D
  | [.int i] => ret (.int i)
  | [.bl b] => ret (.int (if b then 1 else 0))
  | _ => noM
theorem bf_int : BuiltF X g W (.type "int") fInt := ⟨_, call_int1, fun ds vs F ρ H S nn Q ok r h => by
  unfold fInt at h
  split at h
  · cases r with
    | cons r1 r2 =>
      cases r2
      rw [r1.inv_int]
      exact .inl ⟨_, rfl, fin_same ok (.int _) h⟩
  · cases r with
    | cons r1 r2 =>
      cases r2
      rw [r1.inv_bl]
      exact .inr ⟨_, rfl, fin_same ok (.int _) h⟩
  · exact h.elim⟩
def fMax : List D → M D
  | [.int i, .int j] => ret (.int (if j > i then j else i))
  | _ => noM
def fMin : List D → M D
  | [.int i, .int j] => ret (.int (if j < i then j else i))
  | _ => noM
theorem bf_max (hc : X.calm = true) : BuiltF X g W (.builtin "max") fMax := ⟨_, call_max2 hc, fun ds vs F ρ H S nn Q ok r h => by
  unfold fMax at h
  split at h
  · cases r with
    | cons r1 r2 =>
      cases r2 with
      | cons r2 r3 =>
        cases r3
        rw [r1.inv_int, r2.inv_int]
        exact ⟨_, _, rfl, fin_same ok (.int _) h⟩
  · exact h.elim⟩
theorem bf_min (hc : X.calm = true) : BuiltF X g W (.builtin "min") fMin := ⟨_, call_min2 hc, fun ds vs F ρ H S nn Q ok r h => by
  unfold fMin at h
  split at h
  · cases r with
    | cons r1 r2 =>
      cases r2 with
      | cons r2 r3 =>
        cases r3
        rw [r1.inv_int, r2.inv_int]
        exact ⟨_, _, rfl, fin_same ok (.int _) h⟩
  · exact h.elim⟩
def fGcd : List D → M D
  | [.int i, .int j] => ret (.int (Nat.gcd i.natAbs j.natAbs : Nat))
  | _ => noM
theorem bf_gcd : BuiltF X g W (.builtin "math.gcd") fGcd := ⟨_, cr_gcd, fun ds vs F ρ H S nn Q ok r h => by
  unfold fGcd at h
  split at h
  · cases r with
    | cons r1 r2 =>
      cases r2 with
      | cons r2 r3 =>
        cases r3
        rw [r1.inv_int, r2.inv_int]
        exact ⟨_, _, rfl, fin_same ok (.int _) h⟩
  · exact h.elim⟩
def fLen : List D → M D
  | [.tup ds] => ret (.int ds.length)
  | [.lst ds] => ret (.int ds.length)
  | [.str z] => if z.length ≤ sizeLine then ret (.int z.length) else noM
  | [.ref k] => bnd (rdS k) fun ds => ret (.int ds.length)
  | _ => noM
theorem bf_len (hk : X.K = g.K) : BuiltF X g W (.builtin "len") fLen := ⟨_, call_len, fun ds vs F ρ H S nn Q ok r h => by
  rw [hk]
  unfold fLen at h
  split at h
  · cases r with
    | cons r1 r2 =>
      cases r2
      obtain ⟨p, vs, rfl, hp, t⟩ := r1.inv_tup
      exact ⟨_, _, rfl, .inr ⟨vs, hp, t.length⟩, fin_same ok (.int _) h⟩
  · cases r with
    | cons r1 r2 =>
      cases r2
      obtain ⟨p, vs, rfl, hp, _, t⟩ := r1.inv_lst
      exact ⟨_, _, rfl, .inl ⟨vs, SqL.of hp, t.length⟩, fin_same ok (.int _) h⟩
  · cases r with
    | cons r1 r2 =>
      cases r2
      obtain ⟨hc, h⟩ := ite_ret h
      rw [r1.inv_str]
      exact ⟨_, _, rfl, ⟨hc, rfl⟩, fin_same ok (.int _) h⟩
  · cases r with
    | cons r1 r2 =>
      cases r2
      obtain ⟨ds, e0, h⟩ := rdS_ok h
      obtain ⟨p, rfl, hk⟩ := r1.inv_ref
      obtain ⟨vs, hp, t, _⟩ := ok.rd hk e0
      exact ⟨_, _, rfl, .inl ⟨vs, SqL.of hp, t.length⟩, fin_same ok (.int _) h⟩
  · exact h.elim⟩
/-- list(x), tuple(x) -/
def fList : List D → M D
  | [.tup ds] => ret (.lst ds)
  | [.lst ds] => ret (.lst ds)
  | [.scr ns] => ret (.lst (ns.map .int))
  | [.ref k] => bnd (rdS k) fun ds => ret (.lst ds)
  | _ => noM
theorem Reps.ints {H : Hp} {B : Addr → Prop} {ρ : List Addr} : ∀ ns : List Int, Reps g H B ρ (ns.map .int) (ns.map V.int)
  | [] => .nil
  | n :: r => .cons (.int n) (Reps.ints r)
theorem bf_list (hk : X.K = g.K) : BuiltF X g W (.type "list") fList := ⟨_, call_list_of, fun ds vs F ρ H S nn Q ok r h => by
  rw [hk]
  unfold fList at h
  split at h
  · cases r with
    | cons r1 r2 =>
      cases r2
      obtain ⟨p, vs, rfl, hp, t⟩ := r1.inv_tup
      exact ⟨_, _, rfl, .inr hp, fun a ha => fin_lst ok ha t h⟩
  · cases r with
    | cons r1 r2 =>
      cases r2
      obtain ⟨p, vs, rfl, hp, _, t⟩ := r1.inv_lst
      exact ⟨_, _, rfl, .inl (SqL.of hp), fun a ha => fin_lst ok ha t h⟩
  · cases r with
    | cons r1 r2 =>
      cases r2
      cases r1 with
      | scr hs =>
        refine ⟨_, _, rfl, .inl ?_, fun a ha => fin_lst ok ha (Reps.ints _) h⟩
        rcases hs with ⟨hs, _⟩ | ⟨o, hs⟩ | hs
        · exact SqL.of hs
        · exact .inl (.inr ⟨o, hs⟩)
        · exact .inr hs
  · cases r with
    | cons r1 r2 =>
      cases r2
      obtain ⟨ds, e0, h⟩ := rdS_ok h
      obtain ⟨p, rfl, hk⟩ := r1.inv_ref
      obtain ⟨vs, hp, t, _⟩ := ok.rd hk e0
      exact ⟨_, _, rfl, .inl (SqL.of hp), fun a ha => fin_lst ok ha t h⟩
  · exact h.elim⟩
def fTuple : List D → M D
  | [.tup ds] => ret (.tup ds)
  | [.lst ds] => ret (.tup ds)
  | [.ref k] => bnd (rdS k) fun ds => ret (.tup ds)
  | _ => noM
theorem bf_tuple (hk : X.K = g.K) : BuiltF X g W (.type "tuple") fTuple := ⟨_, call_tuple_of, fun ds vs F ρ H S nn Q ok r h => by
  rw [hk]
  unfold fTuple at h
  split at h
  · cases r with
    | cons r1 r2 =>
      cases r2
      obtain ⟨p, vs, rfl, hp, t⟩ := id r1.inv_tup
      exact ⟨_, _, rfl, .inr ⟨hp, fin_same ok r1 h⟩⟩
  · cases r with
    | cons r1 r2 =>
      cases r2
      obtain ⟨p, vs, rfl, hp, _, t⟩ := r1.inv_lst
      exact ⟨_, _, rfl, .inl ⟨SqL.of hp, fun a ha => fin_tup ok ha t h⟩⟩
  · cases r with
    | cons r1 r2 =>
      cases r2
      obtain ⟨ds, e0, h⟩ := rdS_ok h
      obtain ⟨p, rfl, hk⟩ := r1.inv_ref
      obtain ⟨vs, hp, t, _⟩ := ok.rd hk e0
      exact ⟨_, _, rfl, .inl ⟨SqL.of hp, fun a ha => fin_tup ok ha t h⟩⟩
  · exact h.elim⟩
/-- all, any of truth values; sum of ints -/
def asBs : List D → Option (List Bool)
  | [] => some []
  | .bl b :: r => (asBs r).map (b :: ·)
  | _ => none
def asIs : List D → Option (List Int)
  | [] => some []
  | .int b :: r => (asIs r).map (b :: ·)
  | _ => none
theorem asBs_ok {H : Hp} {B : Addr → Prop} {ρ : List Addr} : ∀ {ds : List D} {vs : List V} {bs : List Bool}, Reps g H B ρ ds vs → asBs ds = some bs → vs = bs.map V.bl
  | _, _, bs, .nil, h => by
    cases h
    rfl
  | d :: ds, _, bs, .cons r t, h => by
    cases d with
    | bl b =>
      cases e : asBs ds with
      | none =>
        simp [asBs, e] at h
      | some cs =>
        have h2 : bs = b :: cs := by
          simp only [asBs, e, Option.map_some, Option.some.injEq] at h
          exact h.symm
        rw [h2, r.inv_bl, asBs_ok t e]
        rfl
    | _ => cases h
theorem asIs_ok {H : Hp} {B : Addr → Prop} {ρ : List Addr} : ∀ {ds : List D} {vs : List V} {bs : List Int}, Reps g H B ρ ds vs → asIs ds = some bs → vs = bs.map V.int
  | _, _, bs, .nil, h => by
    cases h
    rfl
  | d :: ds, _, bs, .cons r t, h => by
    cases d with
    | int b =>
      cases e : asIs ds with
      | none =>
        simp [asIs, e] at h
      | some cs =>
        have h2 : bs = b :: cs := by
          simp only [asIs, e, Option.map_some, Option.some.injEq] at h
          exact h.symm
        rw [h2, r.inv_int, asIs_ok t e]
        rfl
    | _ => cases h
/-- a made list's items -/
def items : D → M (List D)
  | .lst ds => ret ds
  | .ref k => rdS k
  | _ => noM
def fAll : List D → M D
  | [d] => bnd (items d) fun ds => bnd (getO (asBs ds)) fun bs => ret (.bl (bs.all id))
  | _ => noM
def fAny : List D → M D
  | [d] => bnd (items d) fun ds => bnd (getO (asBs ds)) fun bs => ret (.bl (bs.any id))
  | _ => noM
def fSum : List D → M D
  | [d] => bnd (items d) fun ds => bnd (getO (asIs ds)) fun bs => ret (.int bs.sum)
  | _ => noM
theorem items_ok {α β : Type} {rl : Rl α β} {d : D} {v : V} {F ρ : List Addr} {H : Hp} {S : Sto} {nn : Nat} {Q : β → Hp → Prop} {f : List D → M α} (ok : Ok g F ρ H S) (r : Rep g H (Bar F ρ S) ρ d v) (h : Fin rl g F W nn ρ H S Q (bnd (items d) f S)) :
    ∃ p ds vs, v = .ref p ∧ H p = some (.lst vs) ∧ Reps g H (Bar F ρ S) ρ ds vs ∧ Fin rl g F W nn ρ H S Q (f ds S) := by
  cases d with
  | lst ds =>
    obtain ⟨p, vs, rfl, hp, _, t⟩ := r.inv_lst
    exact ⟨p, ds, vs, rfl, hp, t, h⟩
  | ref k =>
    obtain ⟨ds, e0, h⟩ := rdS_ok (k := k) h
    obtain ⟨p, rfl, hk⟩ := r.inv_ref
    obtain ⟨vs, hp, t, _⟩ := ok.rd hk e0
    exact ⟨p, ds, vs, rfl, hp, t, h⟩
  | _ => exact h.elim
theorem bf_all (hk : X.K = g.K) (hc : X.calm = true) : BuiltF X g W (.builtin "all") fAll := ⟨_, cr_all hc, fun ds vs F ρ H S nn Q ok r h => by
  rw [hk]
  unfold fAll at h
  split at h
  · cases r with
    | cons r1 r2 =>
      cases r2
      obtain ⟨p, ds, vs, rfl, hp, t, h⟩ := items_ok ok r1 h
      obtain ⟨bs, e, h⟩ := getO_ok h
      have ev := asBs_ok t e
      subst ev
      exact ⟨p, bs, rfl, SqL.of hp, fin_same ok (.bl _) h⟩
  · exact h.elim⟩
theorem bf_any (hk : X.K = g.K) (hc : X.calm = true) : BuiltF X g W (.builtin "any") fAny := ⟨_, cr_any hc, fun ds vs F ρ H S nn Q ok r h => by
  rw [hk]
  unfold fAny at h
  split at h
  · cases r with
    | cons r1 r2 =>
      cases r2
      obtain ⟨p, ds, vs, rfl, hp, t, h⟩ := items_ok ok r1 h
      obtain ⟨bs, e, h⟩ := getO_ok h
      have ev := asBs_ok t e
      subst ev
      exact ⟨p, bs, rfl, SqL.of hp, fin_same ok (.bl _) h⟩
  · exact h.elim⟩
theorem bf_sum (hk : X.K = g.K) (hc : X.calm = true) : BuiltF X g W (.builtin "sum") fSum := ⟨_, cr_sum hc, fun ds vs F ρ H S nn Q ok r h => by
  rw [hk]
  unfold fSum at h
  split at h
  · cases r with
    | cons r1 r2 =>
      cases r2
      obtain ⟨p, ds, vs, rfl, hp, t, h⟩ := items_ok ok r1 h
      obtain ⟨bs, e, h⟩ := getO_ok h
      have ev := asIs_ok t e
      subst ev
      exact ⟨p, bs, rfl, SqL.of hp, fin_same ok (.int _) h⟩
  · exact h.elim⟩
/-- isinstance(x, T), T a built-in class by its name -/
def tyName : D → Option String
  | .non => some "NoneType"
  | .bl _ => some "bool"
  | .int _ => some "int"
  | .str _ => some "str"
  | .tup _ => some "tuple"
  | .lst _ => some "list"
  | _ => none
def fIsi : List D → M D
  | [.ref k, .ty n] => bnd (rdS k) fun _ => bnd (getO (kitB "list" n)) fun b => ret (.bl b)
  | [d, .ty n] => bnd (getO (tyName d)) fun a => bnd (getO (kitB a n)) fun b => ret (.bl b)
  | _ => noM
theorem tyName_ok {d : D} {v : V} {a : String} {H : Hp} {B : Addr → Prop} {ρ : List Addr} (r : Rep g H B ρ d v) (h : tyName d = some a) : TyX g.K H v (.type a) := by
  cases r with
  | non => cases h; exact .base .non
  | bl b => cases h; exact .base (.bl b)
  | int i => cases h; exact .base (.int i)
  | str x => cases h; exact .base (.str x)
  | tup hp t =>
    cases h
    rcases hp with (hp | ⟨o, hp⟩) | ⟨o, its, n, h1, h2, _⟩
    · exact .base (.tup hp)
    · exact .fTuple hp
    · exact .kTuple h1 h2
  | lst hp n t => cases h; exact .base (.lst hp)
  | _ => cases h
theorem bf_isi (hk : X.K = g.K) : BuiltF X g W (.builtin "isinstance") fIsi := ⟨_, call_isi, fun ds vs F ρ H S nn Q ok r h => by
  rw [hk]
  unfold fIsi at h
  split at h
  · cases r with
    | cons r1 r2 =>
      cases r2 with
      | cons r2 r3 =>
        cases r3
        obtain ⟨es, e0, h⟩ := rdS_ok h
        obtain ⟨b, e2, h⟩ := getO_ok h
        obtain ⟨p, rfl, hk⟩ := r1.inv_ref
        obtain ⟨vs, hp, t, _⟩ := ok.rd hk e0
        cases r2
        exact ⟨_, _, _, _, b, rfl, .ty _, .base (.lst hp), kit_ty e2, fin_same ok (.bl _) h⟩
  · cases r with
    | cons r1 r2 =>
      cases r2 with
      | cons r2 r3 =>
        cases r3
        obtain ⟨a, e1, h⟩ := getO_ok h
        obtain ⟨b, e2, h⟩ := getO_ok h
        cases r2
        exact ⟨_, _, _, _, b, rfl, .ty _, tyName_ok r1 e1, kit_ty e2, fin_same ok (.bl _) h⟩
  · exact h.elim⟩
/-- a built-in class as a value -/
theorem se_bty {x : Str} {n : String} {pos : Pos} (hg : Gl X x) (hm : X.mg x = none) (hv : bootBuiltins x = some (.type n)) (hn : x ≠ "__name__" := by decide) (hd : (x == ("__debug__" : Str)) = false := by decide) : PE X (.Name x pos) (tE g W (mC (.ty n))) :=
  wkE (pe_bltn (v := .ty n) hg hm hv rfl hn hd) fun _ _ _ q => const_ok (fun _ _ _ => .ty n) q
/-- a def of the module as a value -/
theorem se_glo {x : Str} {a : Addr} {pos : Pos} (hg : Gl X x) (hm : X.mg x = some (.ref a)) (hmg : X.mg = g.mg) (hd : (x == ("__debug__" : Str)) = false := by decide) : PE X (.Name x pos) (tE g W (mC (.glo x))) :=
  wkE (pe_glob (v := .ref a) hg hm rfl hd) fun _ _ _ q => const_ok (fun _ _ _ => .glo (by rw [← hmg]; exact hm)) q
end
end Mir
set_option Elab.async false
set_option linter.all false
set_option maxRecDepth 100000
set_option maxHeartbeats 4000000
namespace Mir
open PySem PySem.Spec PyProof.Rows L2
/-! ### statements -/
inductive Fl where
  | nx
  | rt (d : D)
  | bk
  | ct
abbrev MS := Env → M (Fl × Env)
inductive BF where
  | nx (σ : L2.St)
  | rt (v : V)
  | bk (σ : L2.St)
  | ct (σ : L2.St)
def rFl : Rl (Fl × Env) BF := fun nn g H B ρ a b => match a.1, b with
  | .nx, .nx σ => EnvOk g H B ρ nn a.2 σ
  | .rt d, .rt v => Rep g H B ρ d v
  | .bk, .bk σ => EnvOk g H B ρ nn a.2 σ
  | .ct, .ct σ => EnvOk g H B ρ nn a.2 σ
  | _, _ => False
def endsQ (D : Ends) : BF → Hp → Prop
  | .nx σ, H => D.nx σ H
  | .rt v, H => D.rt v H
  | .bk σ, H => D.bk σ H
  | .ct σ, H => D.ct σ H
def tS (g : Gx) (W : WX) (m : MS) : TS := fun D σ H => tH rFl g W (fun _ => m) [] σ H (endsQ D)
def mSkip : MS := fun env => ret (.nx, env)
def mSeq (a b : MS) : MS := fun env => bnd (a env) fun r => match r with
  | (.nx, env') => b env'
  | r => ret r
def mExpr (m : Env → M D) : MS := fun env => bnd (m env) fun _ => ret (.nx, env)
def mRet (m : Env → M D) : MS := fun env => bnd (m env) fun d => ret (.rt d, [])
def mRetN : MS := fun env => ret (.rt .non, [])
def mIfS (c : Env → M Bool) (a b : MS) : MS := fun env => bnd (c env) fun k => if k = true then a env else b env
def mBrk : MS := fun env => ret (.bk, env)
def mCnt : MS := fun env => ret (.ct, env)
section
variable {X : Cx} {g : Gx} {W : WX}
theorem seq_ok {a b : MS} {D : Ends} {σ : L2.St} {H : Hp} (h : tS g W (mSeq a b) D σ H) : tSeq (tS g W a) (tS g W b) D σ H := by
  obtain ⟨nn, F, ρ, env, S, ds, n, o, r, h⟩ := h
  refine ⟨nn, F, ρ, env, S, [], n, o, .nil, ?_⟩
  have h : Fin rFl g F W nn ρ H S (endsQ D) (mSeq a b env S) := h
  show Fin rFl g F W nn ρ H S _ (a env S)
  dsimp only [mSeq, bnd] at h
  cases e : a env S with
  | no =>
    rw [e] at h
    exact h
  | ex e1 S1 =>
    rw [e] at h
    exact h
  | ok r S1 =>
    rw [e] at h
    obtain ⟨f, env'⟩ := r
    cases f with
    | nx =>
      intro ρ' H' b' x o' r'
      cases b' with
      | nx σ' => exact ⟨nn, F, ρ', env', S1, [], r', o', .nil, Fin.ext x h⟩
      | _ => exact r'.elim
    | rt d =>
      intro ρ' H' b' x o' r'
      cases b' with
      | rt v => exact h ρ' H' (.rt v) x o' r'
      | _ => exact r'.elim
    | bk =>
      intro ρ' H' b' x o' r'
      cases b' with
      | bk σ' => exact h ρ' H' (.bk σ') x o' r'
      | _ => exact r'.elim
    | ct =>
      intro ρ' H' b' x o' r'
      cases b' with
      | ct σ' => exact h ρ' H' (.ct σ') x o' r'
      | _ => exact r'.elim
theorem skip_ok {D : Ends} {σ : L2.St} {H : Hp} (h : tS g W mSkip D σ H) : tNext D σ H := by
  obtain ⟨nn, F, ρ, env, S, ds, n, o, r, h⟩ := h
  exact h ρ H (.nx σ) .refl o n
section
variable {st : Stmt} {rest : List Stmt} {e : Expr} {pos : Pos} {a b : MS} {m : Env → M D}
theorem ss_nil : PSs X [] (tS g W mSkip) := wkSs pss_nil fun _ _ _ h => skip_ok h
theorem ss_cons (h1 : PS X st (tS g W a)) (h2 : PSs X rest (tS g W b)) : PSs X (st :: rest) (tS g W (mSeq a b)) := wkSs (pss_cons h1 h2) fun _ _ _ h => seq_ok h
theorem ss_one (h1 : PS X st (tS g W a)) : PSs X [st] (tS g W a) := pss_one h1
theorem ss_pass : PS X (.Pass pos) (tS g W mSkip) := wkS ps_pass fun _ _ _ h => skip_ok h
theorem ss_break : PS X (.Break pos) (tS g W mBrk) := wkS ps_break fun D σ H h => by
  obtain ⟨nn, F, ρ, env, S, ds, n, o, r, h⟩ := h
  exact h ρ H (.bk σ) .refl o n
theorem ss_continue : PS X (.Continue pos) (tS g W mCnt) := wkS ps_continue fun D σ H h => by
  obtain ⟨nn, F, ρ, env, S, ds, n, o, r, h⟩ := h
  exact h ρ H (.ct σ) .refl o n
theorem ss_doc {x j pos'} : PS X (.Expr (.Constant (.str x) j pos) pos') (tS g W mSkip) := wkS ps_doc fun _ _ _ h => skip_ok h
theorem ss_expr (he : PE X e (tE g W m)) (hs : swapsWith e none pos.line X.env = pure false := by rfl) : PS X (.Expr e pos) (tS g W (mExpr m)) := wkS (ps_expr he hs) fun D σ H h => by
  refine tH.mono (fun v H1 q => ?_) (push (k := fun _ env => ret (.nx, env)) (vs := []) (h.cg0 fun env => rfl))
  obtain ⟨nn, F, ρ, env, S, ds, n, o, r, h⟩ := q
  exact h ρ H1 (.nx σ) .refl o n
theorem ss_ret (he : PE X e (tE g W m)) : PS X (.Return (some e) pos) (tS g W (mRet m)) := wkS (ps_ret he) fun D σ H h => by
  refine tH.mono (fun v H1 q => ?_) (push (k := fun ds env => match ds with | [d] => ret (.rt d, []) | _ => noM) (vs := []) (h.cg0 fun env => rfl))
  obtain ⟨nn, F, ρ, env, S, ds, n, o, r, h⟩ := q
  cases r with
  | cons r1 r2 =>
    cases r2
    exact h ρ H1 (.rt v) .refl o r1
theorem ss_retN : PS X (.Return none pos) (tS g W mRetN) := wkS ps_retN fun D σ H h => by
  obtain ⟨nn, F, ρ, env, S, ds, n, o, r, h⟩ := h
  exact h ρ H (.rt .non) .refl o .non
theorem ss_if {c : Expr} {ta tb : List Stmt} {mc : Env → M Bool} (hc : PT X c (tB g W mc)) (ha : PSs X ta (tS g W a)) (hb : PSs X tb (tS g W b)) : PS X (.If c ta tb pos) (tS g W (mIfS mc a b)) := wkS (ps_if hc ha hb) fun D σ H h => by
  refine tH.mono (fun k H1 q => ?_) (pushT (k := fun k _ env => if k = true then a env else b env) (vs := []) (h.cg0 fun env => rfl))
  cases k with
  | true => exact q
  | false => exact q
end
/-! ### targets -/
abbrev rEnv : Rl Env L2.St := fun nn g H B ρ env σ => EnvOk g H B ρ nn env σ
abbrev MG := D → Env → M Env
def tG (g : Gx) (W : WX) (m : MG) : TG := fun v σ H Q => tH rEnv g W (fun ds env => match ds with | [d] => m d env | _ => noM) [v] σ H Q
def tGs (g : Gx) (W : WX) (m : List D → Env → M Env) : TGs := fun vs σ H Q => tH rEnv g W m vs σ H Q
theorem wkG {e : Expr} {t u : TG} (h : PG X e t) (q : ∀ v σ H Q, u v σ H Q → t v σ H Q) : PG X e u := ⟨fun pins s σ H v w Q I r hw => h.run pins s σ H v w Q I r (q v σ H Q hw)⟩
theorem wkGs {e : List Expr} {t u : TGs} (h : PGs X e t) (q : ∀ v σ H Q, u v σ H Q → t v σ H Q) : PGs X e u := ⟨fun pins s σ H v w Q I r hw => h.run pins s σ H v w Q I r (q v σ H Q hw)⟩
def gN (i : Nat) : MG := fun d env => ret (env.set i (some d))
theorem sg_name {i : Nat} {x : Str} {pos : Pos} (h : PG X (.Name x pos) (gName i)) : PG X (.Name x pos) (tG g W (gN i)) := wkG h fun v σ H Q h => by
  obtain ⟨nn, F, ρ, env, S, ds, n, o, r, h⟩ := h
  cases r with
  | cons r1 r2 =>
    cases r2
    exact h ρ H _ .refl o (n.set r1 i)
def gsNil : List D → Env → M Env
  | [], env => ret env
  | _, _ => noM
def gsCons (t : MG) (u : List D → Env → M Env) : List D → Env → M Env
  | d :: r, env => bnd (t d env) fun env' => u r env'
  | _, _ => noM
theorem sgs_nil : PGs X [] (tGs g W gsNil) := wkGs pgs_nil fun vs σ H Q h => by
  obtain ⟨nn, F, ρ, env, S, ds, n, o, r, h⟩ := h
  cases r with
  | nil => exact ⟨rfl, h ρ H _ .refl o n⟩
  | cons _ _ => exact h.elim
theorem sgs_cons {e : Expr} {es : List Expr} {t : MG} {u : List D → Env → M Env} (h1 : PG X e (tG g W t)) (h2 : PGs X es (tGs g W u))
    (hs : (assignEach (e :: es) X.env).map (·.2) = assign e X.env :: (assignEach es X.env).map (·.2) := by rfl) : PGs X (e :: es) (tGs g W (gsCons t u)) := wkGs (pgs_cons h1 h2 hs) fun vs σ H Q h => by
  obtain ⟨nn, F, ρ, env, S, ds, n, o, r, h⟩ := h
  cases r with
  | nil => exact h.elim
  | cons r1 r2 =>
    rename_i d v ds vs
    refine ⟨v, vs, rfl, nn, F, ρ, env, S, [d], n, o, .one r1, ?_⟩
    have h : Fin rEnv g F W nn ρ H S Q (bnd (t d env) (fun env' => u ds env') S) := h
    show Fin rEnv g F W nn ρ H S _ (t d env S)
    dsimp only [bnd] at h
    cases e : t d env S with
    | no =>
      rw [e] at h
      exact h
    | ex e1 S1 =>
      rw [e] at h
      exact h
    | ok env' S1 =>
      rw [e] at h
      exact fun ρ' H' σ' x o' r' => ⟨nn, F, ρ', env', S1, ds, r', o', r2.car (x.car o), Fin.ext x h⟩
/-- (a, b, ..) = a tuple of that length -/
def gTupD (k : Nat) (t : List D → Env → M Env) : MG
  | .tup ds, env => if ds.length = k then t ds env else noM
  | _, _ => noM
theorem sg_tup {es : List Expr} {kk : Nat} {pos : Pos} {t : List D → Env → M Env} {n : Nat} (hk : X.K = g.K) (hc : X.calm = true) (h : PGs X es (tGs g W t))
    (hn : (assignEach es X.env).length = n := by rfl) (hst : (assignEach es X.env).findIdx? (·.1) = none := by rfl) : PG X (.Tuple es kk pos) (tG g W (gTupD n t)) := wkG (pg_tup hc h hn hst) fun v σ H Q h => by
  obtain ⟨nn, F, ρ, env, S, ds, n, o, r, h⟩ := h
  cases r with
  | cons r1 r2 =>
    cases r2
    rename_i d
    cases d with
    | tup ds =>
      obtain ⟨p, vs, rfl, hp, t2⟩ := r1.inv_tup
      obtain ⟨hl, h⟩ := ite_ret (c := ds.length = _) h
      exact ⟨p, vs, rfl, by rw [hk]; exact hp, by rw [← t2.length]; exact hl, nn, F, ρ, env, S, ds, n, o, t2, h⟩
    | _ => exact h.elim
/-- o[i] = d, o a handle -/
def wrS (k : Nat) (ds : List D) : M Unit := fun S => .ok () (S.set k (some ds))
def fSet : D → D → D → M Unit
  | .ref k, .int i, d => bnd (rdS k) fun ds => bnd (getO (ixN ds.length i)) fun j => if nr d = true then wrS k (ds.set j d) else noM
  | _, _, _ => noM
theorem nrs_set {d : D} (hd : nr d = true) : ∀ {ds : List D} (j : Nat), nrs ds = true → nrs (ds.set j d) = true
  | [], _, _ => rfl
  | _ :: _, 0, h => by
    simp only [nrs, Bool.and_eq_true] at h
    simp [nrs, hd, h.2]
  | _ :: _, j + 1, h => by
    simp only [nrs, Bool.and_eq_true] at h
    simp only [List.set_cons_succ, nrs, Bool.and_eq_true]
    exact ⟨h.1, nrs_set hd j h.2⟩
theorem nrs_append : ∀ {ds es : List D}, nrs ds = true → nrs es = true → nrs (ds ++ es) = true
  | [], _, _, h => h
  | _ :: _, _, h, h2 => by
    simp only [nrs, Bool.and_eq_true] at h
    simp only [List.cons_append, nrs, Bool.and_eq_true]
    exact ⟨h.1, nrs_append h.2 h2⟩
section
variable {F ρ : List Addr} {H : Hp} {S : Sto}
theorem ok_ne (ok : Ok g F ρ H S) {i k : Nat} {p q : Addr} (h1 : ρ[i]? = some p) (h2 : ρ[k]? = some q) (h : i ≠ k) : p ≠ q := fun e => by
  subst e
  obtain ⟨l1, e1⟩ := List.getElem?_eq_some_iff.mp h1
  obtain ⟨l2, e2⟩ := List.getElem?_eq_some_iff.mp h2
  exact h ((List.getElem_inj ok.nd).mp (e1.trans e2.symm))
theorem ext_wr {k : Nat} {p : Addr} {ds es : List D} {us : List V} (ok : Ok g F ρ H S) (hk : ρ[k]? = some p) (hs : S[k]? = some (some ds)) : Ext F ρ H S ρ (upd H p (.lst us)) (S.set k (some es)) := by
  refine ⟨fun q o h _ l => ?_, fun q h => ?_, fun q ⟨i, fs, h1, h2⟩ => .inl ?_, ⟨[], by simp⟩⟩
  · have ne : q ≠ p := fun e => l ⟨k, ds, by rw [e]; exact hk, hs⟩
    rw [upd_ne ne]
    exact h
  · by_cases e : q = p
    · exact ⟨us, by rw [e, upd_same]⟩
    · rw [IsL, upd_ne e]
      exact h
  · by_cases e : k = i
    · subst e
      exact ⟨k, ds, h1, hs⟩
    · rw [List.getElem?_set_ne e] at h2
      exact ⟨i, fs, h1, h2⟩
theorem ok_wr {k : Nat} {p : Addr} {ds es : List D} {us : List V} (ok : Ok g F ρ H S) (hk : ρ[k]? = some p) (hs : S[k]? = some (some ds)) (r : Reps g H (Bar F ρ S) ρ es us) (hn : nrs es = true) : Ok g F ρ (upd H p (.lst us)) (S.set k (some es)) := by
  have x := ext_wr (es := es) (us := us) ok hk hs
  obtain ⟨_, q0, vs0, h10, h20, _, nf⟩ := ok.sto k ds hs
  rw [hk] at h10
  cases h10
  refine ⟨by simp [ok.len], ok.nd, fun q hq => x.there q (ok.trk q hq), fun i fs h => ?_, fun q hq => ?_, ?_⟩
  · by_cases e : k = i
    · subst e
      have hl : k < S.length := (List.getElem?_eq_some_iff.mp hs).1
      rw [List.getElem?_set_self hl] at h
      cases h
      exact ⟨hn, p, us, hk, upd_same, r.car (x.car ok), nf⟩
    · rw [List.getElem?_set_ne e] at h
      obtain ⟨h0, q, vs, h1, h2, h3, h4⟩ := ok.sto i fs h
      exact ⟨h0, q, vs, h1, by rw [upd_ne (ok_ne ok h1 hk (Ne.symm e))]; exact h2, h3.car (x.car ok), h4⟩
  · obtain ⟨xs, h⟩ := ok.fr q hq
    refine ⟨xs, ?_⟩
    rw [upd_ne fun e => nf (by rw [← e]; exact hq)]
    exact h
  · intro pr hp
    obtain ⟨ps, h1, h2, h3⟩ := ok.tab pr hp
    have ne : pr.1 ≠ p := fun e => by
      rw [e, h20] at h1
      cases h1
    refine ⟨ps, by rw [upd_ne ne]; exact h1, h2, fun pos cv hc => ?_⟩
    obtain ⟨c, e1, e2⟩ := h3 pos cv hc
    refine ⟨c, e1, ?_⟩
    have ne2 : c ≠ p := fun e => by
      rw [e, h20] at e2
      cases e2
    rw [upd_ne ne2]
    exact e2
end
def gSubD (mo mi : Env → M D) : MG := fun d env => bnd (mo env) fun o => bnd (mi env) fun i => bnd (fSet o i d) fun _ => ret env
theorem sg_sub {o i : Expr} {pos : Pos} {mo mi : Env → M D} (ho : PE X o (tE g W mo)) (hi : PE X i (tE g W mi))
    (ha : ∀ v, assign (.Subscript o i pos) X.env v = (do
      let ov ← holding [v] (eval o X.env)
      let iv ← holding [v, ov] (eval i X.env)
      standAt pos
      holding [v, ov, iv] (setItem ov iv v)
      release [v, ov, iv] []) := by intro _; rfl) : PG X (.Subscript o i pos) (tG g W (gSubD mo mi)) := wkG (pg_sub ho hi set_list ha) fun v σ H Q h => by
  refine tH.mono (fun ov H1 q => ?_) (push (k := fun ds env => match ds with | [d, o] => bnd (mi env) fun i => bnd (fSet o i d) fun _ => ret env | _ => noM) (vs := [v]) (h.cg1 fun d env => rfl))
  refine tH.mono (fun iv H2 q => ?_) (push (k := fun ds env => match ds with | [d, o, i] => bnd (fSet o i d) fun _ => ret env | _ => noM) (vs := [v, ov]) (q.cg fun ds env hl => ?_))
  · obtain ⟨nn, F, ρ, env, S, ds, n, ok, r, h⟩ := q
    cases r with
    | cons r1 r2 =>
      cases r2 with
      | cons r2 r3 =>
        cases r3 with
        | cons r3 r4 =>
          cases r4
          rename_i d o i
          cases o with
          | ref k =>
            cases i with
            | int i =>
              have h : Fin rEnv g F W nn ρ H2 S Q (bnd (bnd (rdS k) fun ds => bnd (getO (ixN ds.length i)) fun j => if nr d = true then wrS k (ds.set j d) else noM) (fun _ => ret env) S) := h
              rw [bnd_assoc] at h
              obtain ⟨ds, e0, h⟩ := rdS_ok h
              rw [bnd_assoc] at h
              obtain ⟨j, e1, h⟩ := getO_ok h
              by_cases hd : nr d = true
              · rw [if_pos hd] at h
                obtain ⟨p, rfl, hk⟩ := r2.inv_ref
                obtain ⟨vs, hp, t, hn⟩ := ok.rd hk e0
                rw [r3.inv_int]
                refine ⟨p, vs, i, j, rfl, rfl, hp, by rw [← t.length]; exact e1, ?_⟩
                have x := ext_wr (es := ds.set j d) (us := vs.set j v) ok hk e0
                exact h ρ _ σ x (ok_wr ok hk e0 (Reps.set r1 j t) (nrs_set hd j hn)) (n.car (x.car ok))
              · rw [if_neg hd] at h
                exact h.elim
            | _ => exact h.elim
          | _ => exact h.elim
  · obtain ⟨a, b, z⟩ : ∃ a b, ds = [a, b] := by
      match ds, hl with
      | [a, b], _ => exact ⟨a, b, rfl⟩
    rw [z]
    rfl
/-! ### assignment -/
def mAsg (m : Env → M D) (t : MG) : MS := fun env => bnd (m env) fun d => bnd (t d env) fun env' => ret (.nx, env')
theorem pushG {v : V} {t : MG} {D : Ends} {σ : L2.St} {H : Hp} (h : tH rFl g W (fun ds env => match ds with | [d] => bnd (t d env) fun env' => ret (.nx, env') | _ => noM) [v] σ H (endsQ D)) : tG g W t v σ H D.nx := by
  obtain ⟨nn, F, ρ, env, S, ds, n, o, r, h⟩ := h
  cases r with
  | cons r1 r2 =>
    cases r2
    rename_i d
    refine ⟨nn, F, ρ, env, S, [d], n, o, .one r1, ?_⟩
    have h : Fin rFl g F W nn ρ H S (endsQ D) (bnd (t d env) (fun env' => ret (.nx, env')) S) := h
    show Fin rEnv g F W nn ρ H S _ (t d env S)
    dsimp only [bnd] at h
    cases e : t d env S with
    | no =>
      rw [e] at h
      exact h
    | ex e1 S1 =>
      rw [e] at h
      exact h
    | ok env' S1 =>
      rw [e] at h
      exact fun ρ' H' σ' x o' r' => h ρ' H' (.nx σ') x o' r'
theorem ss_asg {tg e : Expr} {pos : Pos} {m : Env → M D} {t : MG} (he : PE X e (tE g W m)) (hg : PG X tg (tG g W t)) (hs : swapsWithSole [tg] e pos.line X.env = pure false := by rfl) (hw : swappedStores [tg] e X.env = pure none := by rfl)
    (h1 : (assignEach [tg] X.env).map (·.2) = [assign tg X.env] := by rfl) : PS X (.Assign [tg] e pos) (tS g W (mAsg m t)) := wkS (ps_asg he hg hs hw h1) fun D σ H h => by
  refine tH.mono (fun v H1 q => ?_) (push (k := fun ds env => match ds with | [d] => bnd (t d env) fun env' => ret (.nx, env') | _ => noM) (vs := []) (h.cg0 fun env => rfl))
  exact pushG q
theorem ss_set {i : Nat} {x : Str} {e : Expr} {pos pos' : Pos} {m : Env → M D} (he : PE X e (tE g W m)) (h : ∀ te, PE X e te → PS X (.Assign [.Name x pos'] e pos) (tAsg te (gName i))) : PS X (.Assign [.Name x pos'] e pos) (tS g W (mAsg m (gN i))) := wkS (h _ he) fun D σ H h => by
  refine tH.mono (fun v H1 q => ?_) (push (k := fun ds env => match ds with | [d] => bnd (gN i d env) fun env' => ret (.nx, env') | _ => noM) (vs := []) (h.cg0 fun env => rfl))
  obtain ⟨nn, F, ρ, env, S, ds, n, o, r, h⟩ := q
  cases r with
  | cons r1 r2 =>
    cases r2
    exact h ρ H1 (.nx _) .refl o (n.set r1 i)
/-- a, b = x, y with two local names -/
def mPar (i j : Nat) (m : Env → M (List D)) : MS := fun env => bnd (m env) fun ds => match ds with
  | [d, e] => ret (.nx, (env.set i (some d)).set j (some e))
  | _ => noM
theorem ss_par {i j : Nat} {x y : Str} {a b : Expr} {m : Env → M (List D)} {px py pt : Pos} {kt k2 pt2 pos} (hc : X.calm = true) (hN : X.N.Nodup) (hi : X.N[i]? = some x) (hj : X.N[j]? = some y) (hij : i ≠ j)
    (hx : X.env.scope.names.lookup x = some .local) (hy : X.env.scope.names.lookup y = some .local) (ha : PA X [a, b] (tL g W m))
    (hw : swappedStores [.Tuple [.Name x px, .Name y py] kt pt] (.Tuple [a, b] k2 pt2) X.env = pure (some [x, y]) := by rfl)
    (hs : swapsWithSole [.Tuple [.Name x px, .Name y py] kt pt] (.Tuple [a, b] k2 pt2) pos.line X.env = pure false := by rfl) :
    PS X (.Assign [.Tuple [.Name x px, .Name y py] kt pt] (.Tuple [a, b] k2 pt2) pos) (tS g W (mPar i j m)) := wkS (ps_par hc hN hi hj hij hx hy ha hw hs) fun D σ H h => by
  refine tH.mono (fun vs H1 q => ?_) (pushL (k := fun ds env => match ds with | [d, e] => ret (.nx, (env.set i (some d)).set j (some e)) | _ => noM) (vs := []) (h.cg0 fun env => rfl))
  obtain ⟨nn, F, ρ, env, S, ds, n, o, r, h⟩ := q
  cases r with
  | nil => exact h.elim
  | cons r1 r2 =>
    cases r2 with
    | nil => exact h.elim
    | cons r2 r3 =>
      cases r3 with
      | nil => exact ⟨_, _, rfl, h ρ H1 (.nx _) .refl o ((n.set r1 i).set r2 j)⟩
      | cons _ _ => exact h.elim
end
end Mir
set_option Elab.async false
set_option linter.all false
set_option maxRecDepth 100000
set_option maxHeartbeats 4000000
namespace Mir
open PySem PySem.Spec PyProof.Rows L2 RZ
/-! ### what a loop walks -/
/-- a turn leaves the heap, or lays one new tuple -/
def Grow (H H' : Hp) : Prop := H' = H ∨ ∃ (T : Addr) (xs : List V), H T = none ∧ H' = upd H T (.tup xs)
def rIt : Rl (List D) It := fun _ g H B ρ ds J => ∃ G Y, Walk J ds.length G Y ∧ (∀ H' B' ρ', Car g H H' B B' ρ ρ' → G H') ∧
  ∀ (i : Nat) (H1 : Hp) (x : V) (H2 : Hp) (B1 : Addr → Prop) (ρ1 : List Addr), Car g H H1 B B1 ρ ρ1 → i < ds.length → Y i H1 x H2 → Grow H1 H2 ∧ ∃ d, ds[i]? = some d ∧ (∀ B2 ρ2, Car g H H2 B B2 ρ ρ2 → Rep g H2 B2 ρ2 d x)
def tI (g : Gx) (W : WX) (m : Env → M (List D)) : TI := fun σ H R => tH rIt g W (fun _ => m) [] σ H R
theorem wkI {X : Cx} {tg e : Expr} {t u : TI} (h : PI X tg e t) (q : ∀ σ H Q, u σ H Q → t σ H Q) : PI X tg e u := ⟨fun pins s σ H R I hw => h.run pins s σ H R I (q σ H R hw)⟩
/-- a tuple or a list, whichever comes -/
def itS : D → M (List D)
  | .tup ds => ret ds
  | .lst ds => ret ds
  | _ => noM
def mIt (f : D → M (List D)) (m : Env → M D) (env : Env) : M (List D) := bnd (m env) f
def mItN (f : List D → M (List D)) (m : Env → M (List D)) (env : Env) : M (List D) := bnd (m env) f
section
variable {X : Cx} {g : Gx} {W : WX}
theorem it_tup {nn : Nat} {H : Hp} {B : Addr → Prop} {ρ : List Addr} {ds : List D} {vs : List V} {p : Addr} (hp : SqT g.K H p vs) (t : Reps g H B ρ ds vs) : rIt nn g H B ρ ds (Itt g.K p) := by
  refine ⟨_, _, by rw [t.length]; exact walk_tup (K := g.K) (a := p) (xs := vs), fun H' B' ρ' c => c.sqT hp, fun i H1 x H2 B1 ρ1 c hi y => ?_⟩
  obtain ⟨rfl, hx⟩ := y
  refine ⟨.inl rfl, ?_⟩
  obtain ⟨d, hd⟩ : ∃ d, ds[i]? = some d := ⟨ds[i], by simp [hi]⟩
  obtain ⟨v, h1, h2⟩ := t.get hd
  rw [hx] at h1
  cases h1
  exact ⟨d, hd, fun B2 ρ2 c2 => h2.car c2⟩
theorem it_lst {nn : Nat} {H : Hp} {B : Addr → Prop} {ρ : List Addr} {ds : List D} {vs : List V} {p : Addr} (hp : H p = some (.lst vs)) (nb : ¬ B p) (t : Reps g H B ρ ds vs) : rIt nn g H B ρ ds (Itl g.K p) := by
  refine ⟨_, _, by rw [t.length]; exact walk_list (K := g.K) (a := p) (xs := vs), fun H' B' ρ' c => SqL.of (c.keep _ _ hp (fun _ z => by cases z) (fun b => absurd b nb)), fun i H1 x H2 B1 ρ1 c hi y => ?_⟩
  obtain ⟨rfl, hx⟩ := y
  refine ⟨.inl rfl, ?_⟩
  obtain ⟨d, hd⟩ : ∃ d, ds[i]? = some d := ⟨ds[i], by simp [hi]⟩
  obtain ⟨v, h1, h2⟩ := t.get hd
  rw [hx] at h1
  cases h1
  exact ⟨d, hd, fun B2 ρ2 c2 => h2.car c2⟩
theorem si_or {X : Cx} {tg e : Expr} {t u : TI} (h1 : PI X tg e t) (h2 : PI X tg e u) : PI X tg e (fun σ H R => t σ H R ∨ u σ H R) := ⟨fun pins s σ H R I hw => hw.elim (h1.run pins s σ H R I) (h2.run pins s σ H R I)⟩
theorem pe_or2 {e : Expr} {ta tb : TE} (ha : PE X e ta) (hb : PE X e tb) : PE X e (fun σ H Q => ta σ H Q ∨ tb σ H Q) := ⟨fun pins s σ H Q I hw => hw.elim (ha.run pins s σ H Q I) (hb.run pins s σ H Q I)⟩
/-- which of the two it is, is known by the datum: m is run once more for it -/
theorem si_seq {tg e : Expr} {m : Env → M D} (hk : X.K = g.K) (he : PE X e (tE g W m)) : PI X tg e (tI g W (mIt itS m)) := by
  have h1 := pi_tup (tg := tg) he
  have h2 := pi_list (tg := tg) he
  refine ⟨fun pins s σ H R I h => ?_⟩
  obtain ⟨nn, F, ρ, env, S, ds, n, o, r, h⟩ := h
  have h : Fin rIt g F W nn ρ H S R (bnd (m env) itS S) := h
  dsimp only [bnd] at h
  cases e : m env S with
  | no =>
    rw [e] at h
    exact h.elim
  | ex e1 S1 =>
    rw [e] at h
    refine h1.run pins s σ H R I ⟨nn, F, ρ, env, S, [], n, o, .nil, ?_⟩
    show Fin rD g F W nn ρ H S _ (m env S)
    rw [e]
    exact h
  | ok d S1 =>
    rw [e] at h
    cases d with
    | tup ds =>
      refine h1.run pins s σ H R I ⟨nn, F, ρ, env, S, [], n, o, .nil, ?_⟩
      show Fin rD g F W nn ρ H S _ (m env S)
      rw [e]
      intro ρ' H' v x o' r'
      obtain ⟨p, vs, rfl, hp, t⟩ := r'.inv_tup
      rw [hk]
      exact ⟨p, rfl, ⟨vs, hp⟩, h ρ' H' _ x o' (it_tup hp t)⟩
    | lst ds =>
      refine h2.run pins s σ H R I ⟨nn, F, ρ, env, S, [], n, o, .nil, ?_⟩
      show Fin rD g F W nn ρ H S _ (m env S)
      rw [e]
      intro ρ' H' v x o' r'
      obtain ⟨p, vs, rfl, hp, nb, t⟩ := r'.inv_lst
      rw [hk]
      exact ⟨p, rfl, ⟨vs, SqL.of hp⟩, h ρ' H' _ x o' (it_lst hp nb t)⟩
    | _ => exact h.elim
/-- range -/
def rgD (a : Int) (k : Nat) : List D := (List.range k).map fun i => .int (a + (i : Nat))
def okI (i : Int) : Bool := decide (-(2 ^ 62) ≤ i) && decide (i < 2 ^ 62)
def fRg1 : List D → M (List D)
  | [.int j] => if okI j = true then ret (rgD 0 j.toNat) else noM
  | _ => noM
def fRg2 : List D → M (List D)
  | [.int i, .int j] => if okI i = true ∧ okI j = true then ret (rgD i (j - i).toNat) else noM
  | _ => noM
theorem it_rng {nn : Nat} {H : Hp} {B : Addr → Prop} {ρ : List Addr} (a : Int) (k : Nat) : rIt nn g H B ρ (rgD a k) (Itr a k) := by
  have hl : (rgD a k).length = k := by simp [rgD]
  refine ⟨_, _, by rw [hl]; exact walk_range (lo := a) (n := k), fun H' B' ρ' c => trivial, fun i H1 x H2 B1 ρ1 c hi y => ?_⟩
  obtain ⟨rfl, rfl⟩ := y
  rw [hl] at hi
  refine ⟨.inl rfl, .int (a + (i : Nat)), by simp [rgD, hi], fun _ _ _ => .int _⟩
theorem okI_iff {i : Int} (h : okI i = true) : -(2 ^ 62) ≤ i ∧ i < 2 ^ 62 := by
  simpa only [okI, Bool.and_eq_true, decide_eq_true_eq] using h
theorem si_rg1 {tg a : Expr} {p pos : Pos} {m : Env → M (List D)} (hg : Gl X "range") (hm : X.mg "range" = none) (ha : PA X [a] (tL g W m)) (hs : starEach [a] X.env = [(false, eval a X.env)] := by rfl) : PI X tg (.Call (.Name "range" p) [a] [] pos) (tI g W (mItN fRg1 m)) :=
  wkI (pi_range1 hg hm ha hs) fun σ H R h => by
    refine tH.mono (fun vs H1 q => ?_) (pushL (k := fun ds _ => fRg1 ds) (vs := []) (h.cg0 fun env => rfl))
    obtain ⟨nn, F, ρ, env, S, ds, n, o, r, h⟩ := q
    have r : Reps g H1 (Bar F ρ S) ρ ds vs := r
    have h : Fin rIt g F W nn ρ H1 S R (fRg1 ds S) := h
    unfold fRg1 at h
    split at h
    · cases r with
      | cons r1 r2 =>
        cases r2
        obtain ⟨hc, h⟩ := ite_ret h
        obtain ⟨c1, c2⟩ := okI_iff hc
        rw [r1.inv_int]
        exact ⟨_, rfl, c1, c2, h ρ H1 _ .refl o (it_rng 0 _)⟩
    · exact h.elim
theorem si_rg2 {tg a b : Expr} {p pos : Pos} {m : Env → M (List D)} (hg : Gl X "range") (hm : X.mg "range" = none) (ha : PA X [a, b] (tL g W m)) (hs : starEach [a, b] X.env = [(false, eval a X.env), (false, eval b X.env)] := by rfl) (hs2 : starEach [b] X.env = [(false, eval b X.env)] := by rfl) : PI X tg (.Call (.Name "range" p) [a, b] [] pos) (tI g W (mItN fRg2 m)) :=
  wkI (pi_range2 hg hm ha hs hs2) fun σ H R h => by
    refine tH.mono (fun vs H1 q => ?_) (pushL (k := fun ds _ => fRg2 ds) (vs := []) (h.cg0 fun env => rfl))
    obtain ⟨nn, F, ρ, env, S, ds, n, o, r, h⟩ := q
    have r : Reps g H1 (Bar F ρ S) ρ ds vs := r
    have h : Fin rIt g F W nn ρ H1 S R (fRg2 ds S) := h
    unfold fRg2 at h
    split at h
    · cases r with
      | cons r1 r2 =>
        cases r2 with
        | cons r2 r3 =>
          cases r3
          obtain ⟨hc, h⟩ := ite_ret h
          obtain ⟨c1, c2⟩ := okI_iff hc.1
          obtain ⟨c3, c4⟩ := okI_iff hc.2
          rw [r1.inv_int, r2.inv_int]
          exact ⟨_, _, rfl, ⟨c1, c2, c3, c4⟩, h ρ H1 _ .refl o (it_rng _ _)⟩
    · exact h.elim
/-- zip of two lists, of two tuples -/
def zpD : List D → List D → List D
  | a :: as, b :: bs => .tup [a, b] :: zpD as bs
  | _, _ => []
theorem zpD_length : ∀ as bs : List D, (zpD as bs).length = min as.length bs.length
  | [], _ => by simp [zpD]
  | _ :: _, [] => by simp [zpD]
  | a :: as, b :: bs => by simp [zpD, zpD_length as bs]
theorem zpD_get : ∀ {as bs : List D} {i : Nat} {a b : D}, as[i]? = some a → bs[i]? = some b → (zpD as bs)[i]? = some (.tup [a, b])
  | [], _, _, _, _, h, _ => by simp at h
  | _ :: _, [], _, _, _, _, h => by simp at h
  | _ :: _, _ :: _, 0, _, _, h1, h2 => by
    simp at h1 h2
    simp [zpD, h1, h2]
  | _ :: as, _ :: bs, i + 1, a, b, h1, h2 => by
    simp only [List.getElem?_cons_succ] at h1 h2
    simp only [zpD, List.getElem?_cons_succ]
    exact zpD_get h1 h2
def fZip : List D → M (List D)
  | [.tup as, .tup bs] => ret (zpD as bs)
  | [.lst as, .lst bs] => ret (zpD as bs)
  | _ => noM
theorem walk_zipT {K : PySem.W.Frag} {a b : Addr} {xs ys : List V} {n : Nat} (hn : n = min xs.length ys.length) : Walk (ItzT K a b) n (fun H => SqT K H a xs ∧ SqT K H b ys) (YPair (fun i => xs[i]?) (fun i => ys[i]?)) := by
  subst hn
  refine ⟨fun i _ hi q => ?_, fun _ q => ⟨xs, ys, q.1, q.2, by omega⟩, fun i H v H' _ q y => ?_⟩
  · have h1 : i < xs.length := by omega
    have h2 : i < ys.length := by omega
    exact ⟨xs, ys, xs[i], ys[i], q.1, q.2, by simp [h1], by simp [h2]⟩
  · obtain ⟨T, x, z, h1, h2, h3, h4, h5⟩ := y
    exact ⟨T, x, z, h1, h2, h3, h4 xs q.1, h5 ys q.2⟩
theorem zip_pair {H H1 H2 : Hp} {B B1 : Addr → Prop} {ρ ρ1 : List Addr} {as bs : List D} {vs us : List V} {i : Nat} {x : V} (t1 : Reps g H B ρ as vs) (t2 : Reps g H B ρ bs us) (hi : i < (zpD as bs).length)
    (y : YPair (fun i => vs[i]?) (fun i => us[i]?) i H1 x H2) : Grow H1 H2 ∧ ∃ d, (zpD as bs)[i]? = some d ∧ (∀ B2 ρ2, Car g H H2 B B2 ρ ρ2 → Rep g H2 B2 ρ2 d x) := by
  obtain ⟨T, x, z, rfl, hT, rfl, h1, h2⟩ := y
  rw [zpD_length] at hi
  obtain ⟨a, ha⟩ : ∃ d, as[i]? = some d := ⟨as[i]'(by omega), List.getElem?_eq_getElem (by omega)⟩
  obtain ⟨b, hb⟩ : ∃ d, bs[i]? = some d := ⟨bs[i]'(by omega), List.getElem?_eq_getElem (by omega)⟩
  obtain ⟨va, e1, ra⟩ := t1.get ha
  obtain ⟨vb, e2, rb⟩ := t2.get hb
  have h1 : vs[i]? = some x := h1
  have h2 : us[i]? = some z := h2
  rw [e1] at h1
  rw [e2] at h2
  cases h1
  cases h2
  exact ⟨.inr ⟨T, _, hT, rfl⟩, .tup [a, b], zpD_get ha hb, fun B2 ρ2 c2 => .tup (SqT.of upd_same) (.cons (ra.car c2) (.one (rb.car c2)))⟩
theorem si_zip {elts : List Expr} {kk : Nat} {tpos : Pos} {e e2 : Expr} {p pos : Pos} {m : Env → M (List D)} (hk : X.K = g.K) (hg : Gl X "zip") (hm : X.mg "zip" = none) (ha : PA X [e, e2] (tL g W m))
    (hs : starEach [e, e2] X.env = (false, eval e X.env) :: starEach [e2] X.env := by rfl) (hpl : (backTo pos (starEach [e2] X.env)).any (·.1) = false := by rfl) :
    PI X (.Tuple elts kk tpos) (.Call (.Name "zip" p) [e, e2] [] pos) (tI g W (mItN fZip m)) :=
  wkI (pi_zipA hg hm ha hs hpl) fun σ H R h => by
    refine tH.mono (fun vs H1 q => ?_) (pushL (k := fun ds _ => fZip ds) (vs := []) (h.cg0 fun env => rfl))
    obtain ⟨nn, F, ρ, env, S, ds, n, o, r, h⟩ := q
    have r : Reps g H1 (Bar F ρ S) ρ ds vs := r
    rw [hk]
    have h : Fin rIt g F W nn ρ H1 S R (fZip ds S) := h
    unfold fZip at h
    split at h
    · cases r with
      | cons r1 r2 =>
        cases r2 with
        | cons r2 r3 =>
          cases r3
          obtain ⟨a, vs, rfl, hp, t1⟩ := r1.inv_tup
          obtain ⟨b, us, rfl, hq, t2⟩ := r2.inv_tup
          refine ⟨a, b, vs, us, rfl, .inr ⟨hp, hq, h ρ H1 _ .refl o ⟨_, _, walk_zipT (xs := vs) (ys := us) (by rw [zpD_length, t1.length, t2.length]), fun H' B' ρ' c => ⟨c.sqT hp, c.sqT hq⟩, fun i H1 x H2 B1 ρ1 c hi y => zip_pair (B1 := B1) (ρ1 := ρ1) t1 t2 hi y⟩⟩⟩
    · cases r with
      | cons r1 r2 =>
        cases r2 with
        | cons r2 r3 =>
          cases r3
          obtain ⟨a, vs, rfl, hp, nb, t1⟩ := r1.inv_lst
          obtain ⟨b, us, rfl, hq, nb2, t2⟩ := r2.inv_lst
          refine ⟨a, b, vs, us, rfl, .inl ⟨SqL.of hp, SqL.of hq, h ρ H1 _ .refl o ⟨_, _, walk_zip (xs := vs) (ys := us) (by rw [zpD_length, t1.length, t2.length]), fun H' B' ρ' c => ⟨SqL.of (c.keep _ _ hp (fun _ z => by cases z) (fun b => absurd b nb)), SqL.of (c.keep _ _ hq (fun _ z => by cases z) (fun b => absurd b nb2))⟩, fun i H1 x H2 B1 ρ1 c hi y => zip_pair (B1 := B1) (ρ1 := ρ1) t1 t2 hi y⟩⟩⟩
    · exact h.elim
end
/-! ### for -/
def forGo (tg : MG) (b : MS) : List D → MS
  | [], env => ret (.nx, env)
  | d :: r, env => bnd (tg d env) fun env1 => bnd (b env1) fun z => match z with
    | (.nx, env2) => forGo tg b r env2
    | (.ct, env2) => forGo tg b r env2
    | (.bk, env2) => ret (.nx, env2)
    | (.rt d, env2) => ret (.rt d, env2)
def mFor (mi : Env → M (List D)) (tg : MG) (b : MS) : MS := fun env => bnd (mi env) fun ds => forGo tg b ds env
theorem ext_grow {g : Gx} {F ρ : List Addr} {H H' : Hp} {S : Sto} (ok : Ok g F ρ H S) (gr : Grow H H') : Ext F ρ H S ρ H' S ∧ Ok g F ρ H' S := by
  rcases gr with rfl | ⟨T, xs, hT, rfl⟩
  · exact ⟨.refl, ok⟩
  · exact ⟨ext_new ok hT, ok_new ok hT⟩
section
variable {X : Cx} {g : Gx} {W : WX}
theorem for_ok {mi : Env → M (List D)} {tg : MG} {b : MS} {D : Ends} {σ : L2.St} {H : Hp} (h : tS g W (mFor mi tg b) D σ H) : tFor (tI g W mi) (tG g W tg) (tS g W b) D σ H := by
  obtain ⟨nn, F, ρ, env, S, ds, n, o, r, h⟩ := h
  refine ⟨nn, F, ρ, env, S, [], n, o, .nil, ?_⟩
  have h : Fin rFl g F W nn ρ H S (endsQ D) (mFor mi tg b env S) := h
  show Fin rIt g F W nn ρ H S _ (mi env S)
  dsimp only [mFor, bnd] at h
  cases e : mi env S with
  | no =>
    rw [e] at h
    exact h
  | ex e1 S1 =>
    rw [e] at h
    exact h
  | ok es S1 =>
    rw [e] at h
    intro ρ1 H1 J x1 o1 rit
    obtain ⟨G, Y, wk, hG, hY⟩ := rit
    refine for_it wk (fun i σ' H' => ∃ ρ' env' S', EnvOk g H' (Bar F ρ' S') ρ' nn env' σ' ∧ Ok g F ρ' H' S' ∧ Ext F ρ1 H1 S1 ρ' H' S' ∧ Fin rFl g F W nn ρ' H' S' (endsQ D) (forGo tg b (es.drop i) env' S'))
      ⟨ρ1, env, S1, n.car (x1.car o), o1, .refl, ?_⟩ ?_ ?_ ?_
    · rw [List.drop_zero]
      exact Fin.ext x1 h
    · rintro i σ' H' _ ⟨ρ', env', S', n', o', x', _⟩
      exact hG H' _ _ (x'.car o1)
    · rintro i x σ' H' H2 hlt ⟨ρ', env', S', n', o', x', h'⟩ y
      obtain ⟨gr, d, hd, rp⟩ := hY i H' x H2 _ _ (x'.car o1) hlt y
      obtain ⟨xg, og⟩ := ext_grow o' gr
      have hdrop : es.drop i = d :: es.drop (i + 1) := by
        obtain ⟨hi, e⟩ := List.getElem?_eq_some_iff.mp hd
        rw [List.drop_eq_getElem_cons hi, e]
      rw [hdrop] at h'
      have h' := Fin.ext xg h'
      refine ⟨nn, F, ρ', env', S', [d], n'.car (xg.car o'), og, .one (rp _ _ ((x'.trans xg).car o1)), ?_⟩
      show Fin rEnv g F W nn ρ' H2 S' _ (tg d env' S')
      dsimp only [forGo, bnd] at h'
      cases et : tg d env' S' with
      | no =>
        rw [et] at h'
        exact h'
      | ex e1 S2 =>
        rw [et] at h'
        exact h'
      | ok env1 S2 =>
        rw [et] at h'
        intro ρ2 H3 σ2 x2 o2 n2
        refine ⟨nn, F, ρ2, env1, S2, [], n2, o2, .nil, ?_⟩
        show Fin rFl g F W nn ρ2 H3 S2 _ (b env1 S2)
        have h' := Fin.ext x2 h'
        have xx : Ext F ρ1 H1 S1 ρ2 H3 S2 := (x'.trans xg).trans x2
        dsimp only at h'
        cases eb : b env1 S2 with
        | no =>
          rw [eb] at h'
          exact h'
        | ex e1 S3 =>
          rw [eb] at h'
          exact h'
        | ok z S3 =>
          rw [eb] at h'
          obtain ⟨f, env2⟩ := z
          cases f with
          | nx =>
            intro ρ3 H4 q x3 o3 r3
            cases q with
            | nx σ3 => exact ⟨ρ3, env2, S3, r3, o3, xx.trans x3, Fin.ext x3 h'⟩
            | _ => exact r3.elim
          | ct =>
            intro ρ3 H4 q x3 o3 r3
            cases q with
            | ct σ3 => exact ⟨ρ3, env2, S3, r3, o3, xx.trans x3, Fin.ext x3 h'⟩
            | _ => exact r3.elim
          | bk =>
            intro ρ3 H4 q x3 o3 r3
            cases q with
            | bk σ3 => exact h' ρ3 H4 (.nx σ3) x3 o3 r3
            | _ => exact r3.elim
          | rt d =>
            intro ρ3 H4 q x3 o3 r3
            cases q with
            | rt v => exact h' ρ3 H4 (.rt v) x3 o3 r3
            | _ => exact r3.elim
    · rintro σ' H' ⟨ρ', env', S', n', o', x', h'⟩
      rw [List.drop_length] at h'
      exact h' ρ' H' (.nx σ') .refl o' n'
theorem ss_for {tg iter : Expr} {body : List Stmt} {pos : Pos} {mi : Env → M (List D)} {t : MG} {b : MS} (hp : PassesOwn (model X.prog X.w) X.A X.env X.xe) (hc : X.calm = true) (hi : PI X tg iter (tI g W mi)) (hg : PG X tg (tG g W t)) (hb : PSs X body (tS g W b))
    (hs : ∀ x, foldedSetIterable iter X.env x = pure x := by intro _; rfl) : PS X (.For tg iter body [] pos) (tS g W (mFor mi t b)) := wkS (ps_for hp hc hi hg hb hs) fun _ _ _ h => for_ok h
/-! ### while -/
def whGo (c : Env → M Bool) (b : MS) : Nat → MS
  | 0, _ => noM
  | k + 1, env => bnd (c env) fun t => if t = true then bnd (b env) fun z => match z with
    | (.nx, env2) => whGo c b k env2
    | (.ct, env2) => whGo c b k env2
    | (.bk, env2) => ret (.nx, env2)
    | (.rt d, env2) => ret (.rt d, env2) else ret (.nx, env)
theorem while_ok {c : Env → M Bool} {b : MS} {k : Nat} {D : Ends} {σ : L2.St} {H : Hp} (h : tS g W (whGo c b k) D σ H) : tWhile (tB g W c) (tS g W b) D σ H := by
  refine ⟨fun k σ H => tS g W (whGo c b k) D σ H, ⟨k, h⟩, fun k σ H h => ?_⟩
  cases k with
  | zero =>
    obtain ⟨nn, F, ρ, env, S, ds, n, o, r, h⟩ := h
    exact h.elim
  | succ k =>
    refine tH.mono (fun t H1 q => ?_) (pushT (k := fun t _ env => if t = true then bnd (b env) fun z => match z with
      | (.nx, env2) => whGo c b k env2
      | (.ct, env2) => whGo c b k env2
      | (.bk, env2) => ret (.nx, env2)
      | (.rt d, env2) => ret (.rt d, env2) else ret (.nx, env)) (vs := []) (h.cg0 fun env => rfl))
    cases t with
    | false =>
      obtain ⟨nn, F, ρ, env, S, ds, n, o, r, h⟩ := q
      exact h ρ H1 (.nx σ) .refl o n
    | true =>
      refine ⟨fun σ H => tS g W (whGo c b k) D σ H, fun σ' H' q => ⟨k, Nat.lt_succ_self k, q⟩, ?_⟩
      obtain ⟨nn, F, ρ, env, S, ds, n, o, r, h⟩ := q
      refine ⟨nn, F, ρ, env, S, [], n, o, .nil, ?_⟩
      show Fin rFl g F W nn ρ H1 S _ (b env S)
      have h : Fin rFl g F W nn ρ H1 S (endsQ D) (bnd (b env) (fun z => match z with
        | (.nx, env2) => whGo c b k env2
        | (.ct, env2) => whGo c b k env2
        | (.bk, env2) => ret (.nx, env2)
        | (.rt d, env2) => ret (.rt d, env2)) S) := h
      dsimp only [bnd] at h
      cases eb : b env S with
      | no =>
        rw [eb] at h
        exact h
      | ex e1 S3 =>
        rw [eb] at h
        exact h
      | ok z S3 =>
        rw [eb] at h
        obtain ⟨f, env2⟩ := z
        cases f with
        | nx =>
          intro ρ3 H4 q x3 o3 r3
          cases q with
          | nx σ3 => exact ⟨nn, F, ρ3, env2, S3, [], r3, o3, .nil, Fin.ext x3 h⟩
          | _ => exact r3.elim
        | ct =>
          intro ρ3 H4 q x3 o3 r3
          cases q with
          | ct σ3 => exact ⟨nn, F, ρ3, env2, S3, [], r3, o3, .nil, Fin.ext x3 h⟩
          | _ => exact r3.elim
        | bk =>
          intro ρ3 H4 q x3 o3 r3
          cases q with
          | bk σ3 => exact h ρ3 H4 (.nx σ3) x3 o3 r3
          | _ => exact r3.elim
        | rt d =>
          intro ρ3 H4 q x3 o3 r3
          cases q with
          | rt v => exact h ρ3 H4 (.rt v) x3 o3 r3
          | _ => exact r3.elim
theorem ss_while {c : Expr} {body : List Stmt} {pos : Pos} {mc : Env → M Bool} {b : MS} (k : Nat) (hp : PassesOwn (model X.prog X.w) X.A X.env X.xe) (hc : PT X c (tB g W mc)) (hb : PSs X body (tS g W b)) : PS X (.While c body [] pos) (tS g W (whGo mc b k)) := wkS (ps_while hp hc hb) fun _ _ _ h => while_ok h
end
end Mir
set_option Elab.async false
set_option linter.all false
set_option maxRecDepth 100000
set_option maxHeartbeats 4000000
namespace Mir
open PySem PySem.Spec PyProof.Rows L2 RZ
/-! ### comprehensions -/
/-- within a comprehension nothing may be raised -/
def nox {α : Type} (m : M α) : M α := fun S => match m S with
  | .ex _ _ => .no
  | r => r
def W0 : WX := fun _ _ _ _ => False
def wipeD (env : Env) : List Nat → Env
  | [] => env
  | v :: vs => (wipeD env vs).set v none
def lcGo (tg : MG) (t : Env → M Bool) (m : Env → M D) (env0 : Env) : List D → List D → M D
  | [], acc => ret (.lst acc)
  | d :: r, acc => bnd (nox (tg d env0)) fun env1 => bnd (nox (t env1)) fun k => if k = true then bnd (nox (m env1)) fun y => if acc.length < sizeLine then lcGo tg t m env0 r (acc ++ [y]) else noM else lcGo tg t m env0 r acc
def mLc (mi : Env → M (List D)) (tg : MG) (t : Env → M Bool) (m : Env → M D) (vs : List Nat) (env : Env) : M D := bnd (mi env) fun ds => lcGo tg t m (wipeD env vs) ds []
section
variable {g : Gx} {H H' : Hp} {B : Addr → Prop} {ρ : List Addr} {nn : Nat}
theorem EnvOk.gone {env : Env} {σ : L2.St} (n : EnvOk g H B ρ nn env σ) (i : Nat) : EnvOk g H B ρ nn (env.set i none) (σ.set i none) := by
  refine ⟨by simp [n.len], by simp [n.len2], fun j d' h => ?_⟩
  by_cases hj : i = j
  · subst hj
    have hi : i < env.length := by
      have := (List.getElem?_eq_some_iff.mp h).1
      simpa using this
    rw [List.getElem?_set_self hi] at h
    cases h
  · rw [List.getElem?_set_ne hj] at h
    obtain ⟨v', h1, h2⟩ := n.loc j d' h
    exact ⟨v', by rw [List.getElem?_set_ne hj]; exact h1, h2⟩
theorem EnvOk.wipe {env : Env} {σ : L2.St} (n : EnvOk g H B ρ nn env σ) : ∀ vs : List Nat, EnvOk g H B ρ nn (wipeD env vs) (L2.wipe σ vs)
  | [] => n
  | v :: vs => (EnvOk.wipe n vs).gone v
end
/-- a comprehension's target: all slots but vs stay -/
abbrev rEnvW (vs : List Nat) (σ0 : L2.St) : Rl Env L2.St := fun nn g H B ρ env σ => EnvOk g H B ρ nn env σ ∧ wipe σ vs = wipe σ0 vs
def tGw (ws : List Nat) (g : Gx) (m : MG) : TG := fun v σ H Q => tH (rEnvW ws σ) g W0 (fun ds env => match ds with | [d] => m d env | _ => noM) [v] σ H Q
def tGws (ws : List Nat) (g : Gx) (m : List D → Env → M Env) : TGs := fun vs σ H Q => tH (rEnvW ws σ) g W0 m vs σ H Q
theorem wipe_set {σ : L2.St} {i : Nat} {o : Option V} : ∀ {vs : List Nat}, i ∈ vs → wipe (σ.set i o) vs = wipe σ vs
  | [], h => by cases h
  | w :: ws, h => by
    unfold wipe
    by_cases hw : i ∈ ws
    · rw [wipe_set hw]
    · have e : i = w := by
        rcases List.mem_cons.mp h with z | z
        · exact z
        · exact absurd z hw
      subst e
      have key : ∀ us : List Nat, i ∉ us → wipe (σ.set i o) us = (wipe σ us).set i o := fun us => by
        induction us with
        | nil => intro _; rfl
        | cons u us ih =>
          intro hu
          have h1 : i ≠ u := fun e => hu (by rw [e]; exact List.mem_cons_self)
          show (wipe (σ.set i o) us).set u none = ((wipe σ us).set u none).set i o
          rw [ih (fun z => hu (List.mem_cons_of_mem _ z)), List.set_comm _ _ h1]
      rw [key ws hw, List.set_set]
theorem wipe_wipe {σ : L2.St} {vs : List Nat} : ∀ us : List Nat, (∀ u ∈ us, u ∈ vs) → wipe (wipe σ us) vs = wipe σ vs
  | [], _ => rfl
  | u :: us, h => by
    show wipe ((wipe σ us).set u none) vs = wipe σ vs
    rw [wipe_set (h u List.mem_cons_self), wipe_wipe us fun z hz => h z (List.mem_cons_of_mem _ hz)]
section
variable {X : Cx} {g : Gx} {ws : List Nat}
theorem sc_name {i : Nat} {x : Str} {pos : Pos} (hi : i ∈ ws) (h : PG X (.Name x pos) (gName i)) : PG X (.Name x pos) (tGw ws g (gN i)) := wkG h fun v σ H Q h => by
  obtain ⟨nn, F, ρ, env, S, ds, n, o, r, h⟩ := h
  cases r with
  | cons r1 r2 =>
    cases r2
    exact h ρ H _ .refl o ⟨n.set r1 i, wipe_set hi⟩
theorem scs_nil : PGs X [] (tGws ws g gsNil) := wkGs pgs_nil fun vs σ H Q h => by
  obtain ⟨nn, F, ρ, env, S, ds, n, o, r, h⟩ := h
  cases r with
  | nil => exact ⟨rfl, h ρ H _ .refl o ⟨n, rfl⟩⟩
  | cons _ _ => exact h.elim
theorem scs_cons {e : Expr} {es : List Expr} {t : MG} {u : List D → Env → M Env} (h1 : PG X e (tGw ws g t)) (h2 : PGs X es (tGws ws g u))
    (hs : (assignEach (e :: es) X.env).map (·.2) = assign e X.env :: (assignEach es X.env).map (·.2) := by rfl) : PGs X (e :: es) (tGws ws g (gsCons t u)) := wkGs (pgs_cons h1 h2 hs) fun vs σ H Q h => by
  obtain ⟨nn, F, ρ, env, S, ds, n, o, r, h⟩ := h
  cases r with
  | nil => exact h.elim
  | cons r1 r2 =>
    rename_i d v ds vs
    refine ⟨v, vs, rfl, nn, F, ρ, env, S, [d], n, o, .one r1, ?_⟩
    have h : Fin (rEnvW ws σ) g F W0 nn ρ H S Q (bnd (t d env) (fun env' => u ds env') S) := h
    show Fin (rEnvW ws σ) g F W0 nn ρ H S _ (t d env S)
    dsimp only [bnd] at h
    cases e : t d env S with
    | no =>
      rw [e] at h
      exact h
    | ex e1 S1 =>
      rw [e] at h
      exact h
    | ok env' S1 =>
      rw [e] at h
      intro ρ' H' σ' x o' r'
      refine ⟨nn, F, ρ', env', S1, ds, r'.1, o', r2.car (x.car o), ?_⟩
      have h := Fin.ext x h
      have e2 : rEnvW ws σ' = rEnvW ws σ := by
        unfold rEnvW
        rw [r'.2]
      rw [e2]
      exact h
theorem sc_tup {es : List Expr} {kk : Nat} {pos : Pos} {t : List D → Env → M Env} {n : Nat} (hk : X.K = g.K) (hc : X.calm = true) (h : PGs X es (tGws ws g t))
    (hn : (assignEach es X.env).length = n := by rfl) (hst : (assignEach es X.env).findIdx? (·.1) = none := by rfl) : PG X (.Tuple es kk pos) (tGw ws g (gTupD n t)) := wkG (pg_tup hc h hn hst) fun v σ H Q h => by
  obtain ⟨nn, F, ρ, env, S, ds, n, o, r, h⟩ := h
  cases r with
  | cons r1 r2 =>
    cases r2
    rename_i d
    cases d with
    | tup ds =>
      obtain ⟨p, vs, rfl, hp, t2⟩ := r1.inv_tup
      obtain ⟨hl, h⟩ := ite_ret (c := ds.length = _) h
      exact ⟨p, vs, rfl, by rw [hk]; exact hp, by rw [← t2.length]; exact hl, nn, F, ρ, env, S, ds, n, o, t2, h⟩
    | _ => exact h.elim
def mYes (_ : Env) : M Bool := ret true
theorem sts_nil {W : WX} : PTs X [] (tB g W mYes) := ⟨fun pins s σ H Q I hw => pts_nil.run pins s σ H Q I (by
  obtain ⟨nn, F, ρ, env, S, ds, n, o, r, h⟩ := hw
  exact h ρ H true .refl o rfl)⟩
theorem sts_one {W : WX} {c : Expr} {m : Env → M Bool} (h : PT X c (tB g W m)) : PTs X [c] (tB g W m) := pts_one h
end
section
variable {g : Gx} {F ρ ρ1 : List Addr} {H H1 : Hp} {S S1 : Sto} {Dd : Addr}
/-- a hidden list is laid -/
theorem ok_hid (ok : Ok g F ρ H S) (hD : H Dd = none) : Ok g (Dd :: F) ρ (upd H Dd (.lst [])) S ∧ Car g H (upd H Dd (.lst [])) (Bar F ρ S) (Bar (Dd :: F) ρ S) ρ ρ := by
  have c : Car g H (upd H Dd (.lst [])) (Bar F ρ S) (Bar (Dd :: F) ρ S) ρ ρ := by
    refine ⟨fun p o h _ _ => by rw [upd_ne (ne_of_none h hD)]; exact h, fun p b => ?_, fun _ _ h => h⟩
    rcases b with l | f
    · exact .inl (.inl l)
    · rcases List.mem_cons.mp f with e | f
      · rw [e]
        exact .inr (.of hD)
      · exact .inl (.inr f)
  refine ⟨⟨ok.len, ok.nd, fun p hp => ?_, fun i ds h => ?_, fun p hp => ?_, Tabs.upd ok.tab hD⟩, c⟩
  · obtain ⟨xs, h⟩ := ok.trk p hp
    exact ⟨xs, by rw [upd_ne (ne_of_none h hD)]; exact h⟩
  · obtain ⟨h0, q, vs, h1, h2, h3, h4⟩ := ok.sto i ds h
    refine ⟨h0, q, vs, h1, by rw [upd_ne (ne_of_none h2 hD)]; exact h2, h3.car c, fun z => ?_⟩
    rcases List.mem_cons.mp z with e | z
    · rw [e, hD] at h2
      cases h2
    · exact h4 z
  · rcases List.mem_cons.mp hp with e | hp
    · exact ⟨[], by rw [e, upd_same]⟩
    · obtain ⟨xs, h⟩ := ok.fr p hp
      exact ⟨xs, by rw [upd_ne (ne_of_none h hD)]; exact h⟩
/-- a hidden list is written -/
theorem ok_hidw {acc us : List V} (ok : Ok g (Dd :: F) ρ H S) (hD : H Dd = some (.lst acc)) : Ok g (Dd :: F) ρ (upd H Dd (.lst us)) S ∧ Car g H (upd H Dd (.lst us)) (Bar (Dd :: F) ρ S) (Bar (Dd :: F) ρ S) ρ ρ := by
  have c : Car g H (upd H Dd (.lst us)) (Bar (Dd :: F) ρ S) (Bar (Dd :: F) ρ S) ρ ρ := by
    refine ⟨fun p o h _ nb => ?_, fun p b => .inl b, fun _ _ h => h⟩
    have ne : p ≠ Dd := fun e => by
      rw [e, hD] at h
      cases h
      exact nb (.inr (by rw [e]; exact List.mem_cons_self)) _ rfl
    rw [upd_ne ne]
    exact h
  refine ⟨⟨ok.len, ok.nd, fun p hp => ?_, fun i ds h => ?_, fun p hp => ?_, fun pr hp => ?_⟩, c⟩
  · by_cases e : p = Dd
    · exact ⟨us, by rw [e, upd_same]⟩
    · rw [IsL, upd_ne e]
      exact ok.trk p hp
  · obtain ⟨h0, q, vs, h1, h2, h3, h4⟩ := ok.sto i ds h
    exact ⟨h0, q, vs, h1, by rw [upd_ne fun e => h4 (by rw [e]; exact List.mem_cons_self)]; exact h2, h3.car c, h4⟩
  · by_cases e : p = Dd
    · exact ⟨us, by rw [e, upd_same]⟩
    · obtain ⟨xs, h⟩ := ok.fr p hp
      exact ⟨xs, by rw [upd_ne e]; exact h⟩
  · obtain ⟨ps, h1, h2, h3⟩ := ok.tab pr hp
    have ne : pr.1 ≠ Dd := fun e => by
      rw [e, hD] at h1
      cases h1
    refine ⟨ps, by rw [upd_ne ne]; exact h1, h2, fun pos cv hc => ?_⟩
    obtain ⟨c, e1, e2⟩ := h3 pos cv hc
    refine ⟨c, e1, ?_⟩
    have ne2 : c ≠ Dd := fun e => by
      rw [e, hD] at e2
      cases e2
    rw [upd_ne ne2]
    exact e2
/-- .. is shown -/
theorem ok_show (ok : Ok g (Dd :: F) ρ H S) (nF : Dd ∉ F) : Ok g F ρ H S ∧ ¬ Bar F ρ S Dd ∧ Car g H H (Bar (Dd :: F) ρ S) (Bar F ρ S) ρ ρ := by
  have c : Car g H H (Bar (Dd :: F) ρ S) (Bar F ρ S) ρ ρ := ⟨fun p o h _ _ => h, fun p b => by
    rcases b with l | f
    · exact .inl (.inl l)
    · exact .inl (.inr (List.mem_cons_of_mem _ f)), fun _ _ h => h⟩
  refine ⟨⟨ok.len, ok.nd, ok.trk, fun i ds h => ?_, fun p hp => ok.fr p (List.mem_cons_of_mem _ hp), ok.tab⟩, fun b => ?_, c⟩
  · obtain ⟨h0, q, vs, h1, h2, h3, h4⟩ := ok.sto i ds h
    exact ⟨h0, q, vs, h1, h2, h3.car c, fun z => h4 (List.mem_cons_of_mem _ z)⟩
  · rcases b with ⟨i, ds, h1, h2⟩ | f
    · obtain ⟨_, q, vs, e1, _, _, h4⟩ := ok.sto i ds h2
      rw [h1] at e1
      cases e1
      exact h4 List.mem_cons_self
    · exact nF f
theorem Ext.updD {H0 : Hp} {ρ0 : List Addr} {S0 : Sto} {o : HO} (x : Ext F ρ0 H0 S0 ρ H S) (hD : H0 Dd = none) : Ext F ρ0 H0 S0 ρ (upd H Dd o) S :=
  ⟨fun p u h n l => by rw [upd_ne (ne_of_none h hD)]; exact x.keep p u h n l, fun p ⟨xs, h⟩ => by
    rw [IsL, upd_ne (ne_of_none h hD)]
    exact x.there p ⟨xs, h⟩, x.live, x.rho⟩
theorem Ext.anyF {F F' ρ0 ρ : List Addr} {H0 H : Hp} {S0 S : Sto} (x : Ext F ρ0 H0 S0 ρ H S) : Ext F' ρ0 H0 S0 ρ H S := ⟨x.keep, x.there, x.live, x.rho⟩
end
theorem nox_ok {α : Type} {m : M α} {S S' : Sto} {a : α} (h : nox m S = .ok a S') : m S = .ok a S' := by
  unfold nox at h
  cases e : m S with
  | ok b T =>
    rw [e] at h
    exact h
  | ex _ _ =>
    rw [e] at h
    cases h
  | no =>
    rw [e] at h
    cases h
section
variable {X : Cx} {g : Gx} {W : WX}
theorem bnd_nox {α β γ : Type} {rl : Rl γ β} {m : M α} {f : α → M γ} {F ρ : List Addr} {H : Hp} {S S0 : Sto} {nn : Nat} {Q : β → Hp → Prop} (h : Fin rl g F W nn ρ H S0 Q (bnd (nox m) f S)) : ∃ a S1, m S = .ok a S1 ∧ Fin rl g F W nn ρ H S0 Q (f a S1) := by
  unfold bnd at h
  cases e : nox m S with
  | ok a S1 =>
    rw [e] at h
    exact ⟨a, S1, nox_ok e, h⟩
  | ex e1 S1 =>
    exfalso
    unfold nox at e
    cases e2 : m S with
    | ok b T => rw [e2] at e; cases e
    | ex _ _ => rw [e2] at e; cases e
    | no => rw [e2] at e; cases e
  | no =>
    rw [e] at h
    exact h.elim
theorem lc_ok {mi : Env → M (List D)} {tg : MG} {t : Env → M Bool} {m : Env → M D} {vs : List Nat} {σ : L2.St} {H : Hp} {Q : VK} (h : tE g W (mLc mi tg t m vs) σ H Q) : tLc (tI g W mi) (tGw vs g tg) (tB g W0 t) (tE g W0 m) vs σ H Q := by
  obtain ⟨nn, F, ρ, env, S, ds, n, o, r, h⟩ := h
  refine ⟨nn, F, ρ, env, S, [], n, o, .nil, ?_⟩
  have h : Fin rD g F W nn ρ H S Q (mLc mi tg t m vs env S) := h
  show Fin rIt g F W nn ρ H S _ (mi env S)
  dsimp only [mLc] at h
  unfold bnd at h
  cases e : mi env S with
  | no =>
    rw [e] at h
    exact h
  | ex e1 S1 =>
    rw [e] at h
    exact h
  | ok es S1 =>
    rw [e] at h
    intro ρ1 H1 J x1 o1 rit
    obtain ⟨G, Y, wk, hG, hY⟩ := rit
    intro Dd hD
    have h := Fin.ext x1 h
    have n1 := n.car (x1.car o)
    obtain ⟨oD, cD⟩ := ok_hid o1 hD
    have nF : Dd ∉ F := fun z => by
      obtain ⟨xs, q⟩ := o1.fr Dd z
      rw [hD] at q
      cases q
    have wEnv : ∀ {H' : Hp} {B' : Addr → Prop} {ρ' : List Addr}, EnvOk g H' B' ρ' nn env σ → EnvOk g H' B' ρ' nn (wipeD env vs) (wipe σ vs) := fun q => q.wipe vs
    refine lc_it wk (fun i H' => ∃ ρ' S' acc vacc, EnvOk g H' (Bar (Dd :: F) ρ' S') ρ' nn env σ ∧ Ok g (Dd :: F) ρ' H' S' ∧ Ext F ρ1 H1 S1 ρ' H' S' ∧ Car g H1 H' (Bar F ρ1 S1) (Bar (Dd :: F) ρ' S') ρ1 ρ' ∧
        H' Dd = some (.lst vacc) ∧ Reps g H' (Bar (Dd :: F) ρ' S') ρ' acc vacc ∧ Fin rD g F W nn ρ1 H1 S1 Q (lcGo tg t m (wipeD env vs) (es.drop i) acc S'))
      ⟨ρ1, S1, [], [], n1.car cD, oD, (Ext.refl (F := F)).updD hD, cD, upd_same, .nil, ?_⟩ ?_ ?_ ?_
    · rw [List.drop_zero]
      exact h
    · rintro i H' _ ⟨ρ', S', acc, vacc, n', o', x', c', hv, ra, _⟩
      exact hG H' _ _ c'
    · rintro i x H' H2 hlt ⟨ρ', S', acc, vacc, n', o', x', c', hv, ra, h'⟩ y
      obtain ⟨gr, d, hd, rp⟩ := hY i H' x H2 _ _ c' hlt y
      obtain ⟨xg, og⟩ := ext_grow o' gr
      have hdrop : es.drop i = d :: es.drop (i + 1) := by
        obtain ⟨hi, e⟩ := List.getElem?_eq_some_iff.mp hd
        rw [List.drop_eq_getElem_cons hi, e]
      rw [hdrop] at h'
      have carT : ∀ {H3 : Hp} {ρ3 : List Addr} {S3 : Sto}, Ext (Dd :: F) ρ' H' S' ρ3 H3 S3 → Car g H1 H3 (Bar F ρ1 S1) (Bar (Dd :: F) ρ3 S3) ρ1 ρ3 := fun {H3 ρ3 S3} xx => by
        have c2 := xx.car o'
        refine ⟨fun p u h nt nb => c2.keep p u (c'.keep p u h nt nb) nt fun b => ?_, fun p b => ?_, fun i p h => c2.rho i p (c'.rho i p h)⟩
        · rcases c'.bar p b with z | z
          · exact nb z
          · obtain ⟨ps, e⟩ := z _ h
            exact absurd e (nt ps)
        · rcases c2.bar p b with z | z
          · exact c'.bar p z
          · by_cases l : Live ρ1 S1 p
            · exact .inl (.inl l)
            · refine .inr fun o q => ?_
              by_cases ht : ∃ ps, o = .tbl ps
              · exact ht
              · exact z o (x'.keep p o q (fun ps e => ht ⟨ps, e⟩) l)
      refine ⟨nn, Dd :: F, ρ', wipeD env vs, S', [d], wEnv (n'.car (xg.car o')), og, .one (rp _ _ (carT xg)), ?_⟩
      show Fin (rEnvW vs (wipe σ vs)) g (Dd :: F) W0 nn ρ' H2 S' _ (tg d (wipeD env vs) S')
      obtain ⟨env1, S2, et, h'⟩ := bnd_nox (f := fun env1 => bnd (nox (t env1)) fun k => if k = true then bnd (nox (m env1)) fun y => if acc.length < sizeLine then lcGo tg t m (wipeD env vs) (es.drop (i + 1)) (acc ++ [y]) else noM else lcGo tg t m (wipeD env vs) (es.drop (i + 1)) acc) h'
      rw [et]
      intro ρ2 H3 σ2 x2 o2 n2
      refine ⟨n2.2.trans (wipe_wipe vs fun _ h => h), nn, Dd :: F, ρ2, env1, S2, [], n2.1, o2, .nil, ?_⟩
      show Fin rBo g (Dd :: F) W0 nn ρ2 H3 S2 _ (t env1 S2)
      obtain ⟨k, S3, ek, h'⟩ := bnd_nox h'
      rw [ek]
      intro ρ3 H4 b x3 o3 eb
      rw [eb]
      have xx : Ext (Dd :: F) ρ' H' S' ρ3 H4 S3 := (xg.trans x2).trans x3
      have xF : Ext F ρ1 H1 S1 ρ3 H4 S3 := x'.trans xx.anyF
      cases k with
      | false =>
        exact ⟨ρ3, S3, acc, vacc, n'.car (xx.car o'), o3, xF, carT xx, xx.keep _ _ hv (fun _ z => by cases z) (fun l => by
          obtain ⟨i, fs, h1, h2⟩ := l
          obtain ⟨_, q, us, e1, _, _, h4⟩ := o'.sto i fs h2
          rw [h1] at e1
          cases e1
          exact h4 List.mem_cons_self), ra.car (xx.car o'), h'⟩
      | true =>
        refine ⟨nn, Dd :: F, ρ3, env1, S3, [], n2.1.car (x3.car o2), o3, .nil, ?_⟩
        show Fin rD g (Dd :: F) W0 nn ρ3 H4 S3 _ (m env1 S3)
        obtain ⟨y, S4, ey, h'⟩ := bnd_nox (by simpa only [if_true] using h')
        rw [ey]
        intro ρ4 H5 yv x4 o4 ry
        have xx : Ext (Dd :: F) ρ' H' S' ρ4 H5 S4 := xx.trans x4
        have xF : Ext F ρ1 H1 S1 ρ4 H5 S4 := x'.trans xx.anyF
        have hv5 : H5 Dd = some (.lst vacc) := xx.keep _ _ hv (fun _ z => by cases z) (fun l => by
          obtain ⟨i, fs, h1, h2⟩ := l
          obtain ⟨_, q, us, e1, _, _, h4⟩ := o'.sto i fs h2
          rw [h1] at e1
          cases e1
          exact h4 List.mem_cons_self)
        obtain ⟨hl, h'⟩ := ite_ret (c := acc.length < sizeLine) h'
        have ra5 := ra.car (xx.car o')
        obtain ⟨o6, c6⟩ := ok_hidw (us := vacc ++ [yv]) o4 hv5
        refine ⟨vacc, hv5, by rw [← ra.length]; exact hl, ρ4, S4, acc ++ [y], vacc ++ [yv], (n'.car (xx.car o')).car c6, o6, xF.updD hD, ?_, upd_same, (ra5.append (.one ry)).car c6, h'⟩
        have cT := carT xx
        refine ⟨fun p u h nt nb => ?_, cT.bar, cT.rho⟩
        rw [upd_ne (ne_of_none h hD)]
        exact cT.keep p u h nt nb
    · rintro H' ⟨ρ', S', acc, vacc, n', o', x', c', hv, ra, h'⟩
      rw [List.drop_length] at h'
      obtain ⟨oS, nb, cS⟩ := ok_show o' nF
      exact h' ρ' H' (.ref Dd) x' oS (.lst hv nb (ra.car cS))
theorem se_lc {elt tg iter : Expr} {ifs : List Expr} {scope : Scope} {own : List (Str × Nat)} {pos : Pos} {mi : Env → M (List D)} {mg : MG} {mt : Env → M Bool} {me : Env → M D} (hc : X.calm = true) (hN : X.N.Nodup) (hi : PI X tg iter (tI g W mi)) (ok : BlkOk X.N X.env.scope scope own)
    (hg : ∀ (s : Shared) (H : Hp) (C : Addr) (cl : List (Str × Addr)) (fp : List Addr), PG (X.blk s H scope (compEnvC scope cl C X.env) fp) tg (tGw (own.map (·.2)) g mg)) (ht : ∀ (s : Shared) (H : Hp) (C : Addr) (cl : List (Str × Addr)) (fp : List Addr), PTs (X.blk s H scope (compEnvC scope cl C X.env) fp) ifs (tB g W0 mt))
    (he : ∀ (s : Shared) (H : Hp) (C : Addr) (cl : List (Str × Addr)) (fp : List Addr), PE (X.blk s H scope (compEnvC scope cl C X.env) fp) elt (tE g W0 me)) (hs : ∀ x, foldedSetIterable iter X.env x = pure x := by intro _; rfl) :
    PE X (.ListComp elt [⟨tg, iter, ifs, 0⟩] scope pos) (tE g W (mLc mi mg mt me (own.map (·.2)))) := wkE (pe_lc hc hN hi ok hg ht he hs) fun _ _ _ h => lc_ok h
/-- name = [..] on one line -/
theorem ss_setLc {i : Nat} {y : Str} {py : Pos} {elt tg iter : Expr} {ifs : List Expr} {scope : Scope} {own : List (Str × Nat)} {pos spos : Pos} {mi : Env → M (List D)} {mg : MG} {mt : Env → M Bool} {me : Env → M D}
    (h : ∀ (wi : TI) (gg : TG) (tt : TT) (te : TE), PI X tg iter wi → (∀ (s : Shared) (H : Hp) (C : Addr) (cl : List (Str × Addr)) (fp : List Addr), PG (X.blk s H scope (compEnvC scope cl C X.env) fp) tg gg) → (∀ (s : Shared) (H : Hp) (C : Addr) (cl : List (Str × Addr)) (fp : List Addr), PTs (X.blk s H scope (compEnvC scope cl C X.env) fp) ifs tt) →
      (∀ (s : Shared) (H : Hp) (C : Addr) (cl : List (Str × Addr)) (fp : List Addr), PE (X.blk s H scope (compEnvC scope cl C X.env) fp) elt te) → PS X (.Assign [.Name y py] (.ListComp elt [⟨tg, iter, ifs, 0⟩] scope pos) spos) (tAsg (tLc wi gg tt te (own.map (·.2))) (gName i)))
    (hi : PI X tg iter (tI g W mi))
    (hg : ∀ (s : Shared) (H : Hp) (C : Addr) (cl : List (Str × Addr)) (fp : List Addr), PG (X.blk s H scope (compEnvC scope cl C X.env) fp) tg (tGw (own.map (·.2)) g mg)) (ht : ∀ (s : Shared) (H : Hp) (C : Addr) (cl : List (Str × Addr)) (fp : List Addr), PTs (X.blk s H scope (compEnvC scope cl C X.env) fp) ifs (tB g W0 mt))
    (he : ∀ (s : Shared) (H : Hp) (C : Addr) (cl : List (Str × Addr)) (fp : List Addr), PE (X.blk s H scope (compEnvC scope cl C X.env) fp) elt (tE g W0 me)) :
    PS X (.Assign [.Name y py] (.ListComp elt [⟨tg, iter, ifs, 0⟩] scope pos) spos) (tS g W (mAsg (mLc mi mg mt me (own.map (·.2))) (gN i))) := wkS (h _ _ _ _ hi hg ht he) fun D σ H q => by
  refine lc_ok (Q := fun x H1 => gName i x σ H1 D.nx) ?_
  have q2 := push (k := fun ds env => match ds with | [d] => bnd (gN i d env) fun env' => ret (.nx, env') | _ => noM) (vs := []) (q.cg0 fun env => rfl)
  refine tH.mono (fun v H1 q => ?_) q2
  obtain ⟨nn, F, ρ, env, S, ds, n, o, r, h⟩ := q
  cases r with
  | cons r1 r2 =>
    cases r2
    exact h ρ H1 (.nx _) .refl o (n.set r1 i)
end
/-! ### defs -/
def gcM (m : M D) : M D := fun S => match m S with
  | .ok d S' => if nr d = true then .ok d (S'.take S.length) else .ok d S'
  | r => r
def flD : Fl × Env → M D
  | (.rt d, _) => ret d
  | (.nx, _) => ret .non
  | _ => noM
/-- a def of np parameters and nl names: the mirror of its body -/
def mDef (np nl : Nat) (b : MS) (ds : List D) : M D := if ds.length = np then gcM (bnd (b (ds.map some ++ List.replicate (nl - np) none)) flD) else noM
def spM (g : Gx) (f : List D → M D) (np : Nat) : Sp := fun vs H Q E => vs.length = np ∧ ∃ nn F ρ S ds, Ok g F ρ H S ∧ Reps g H (Bar F ρ S) ρ ds vs ∧ Fin rD g F (fun cls d _ H' => E cls d H') nn ρ H S Q (f ds S)
section
variable {g : Gx}
mutual
theorem Rep.shr {H : Hp} {B B' : Addr → Prop} {ρ ρ' : List Addr} (h : ∀ p, B' p → B p) : ∀ {d : D} {v : V}, Rep g H B ρ d v → nr d = true → Rep g H B' ρ' d v
  | _, _, .non, _ => .non
  | _, _, .bl b, _ => .bl b
  | _, _, .int i, _ => .int i
  | _, _, .str x, _ => .str x
  | _, _, .ty n, _ => .ty n
  | _, _, .raw a, _ => .raw a
  | _, _, .glo q, _ => .glo q
  | _, _, .ref _, z => by simp [nr] at z
  | _, _, .scr q, _ => .scr (by
      rcases q with ⟨q, n⟩ | q
      · exact .inl ⟨q, fun b => n (h _ b)⟩
      · exact .inr q)
  | _, _, .tup q t, z => .tup q (Reps.shr h t (by simpa only [nr] using z))
  | _, _, .lst q n t, z => .lst q (fun b => n (h _ b)) (Reps.shr h t (by simpa only [nr] using z))
theorem Reps.shr {H : Hp} {B B' : Addr → Prop} {ρ ρ' : List Addr} (h : ∀ p, B' p → B p) : ∀ {ds : List D} {vs : List V}, Reps g H B ρ ds vs → nrs ds = true → Reps g H B' ρ' ds vs
  | _, _, .nil, _ => .nil
  | _, _, .cons r t, z => by
    simp only [nrs, Bool.and_eq_true] at z
    exact .cons (Rep.shr h r z.1) (Reps.shr h t z.2)
end
theorem ok_take {F ρ ρ' : List Addr} {H H' : Hp} {S S' : Sto} (o : Ok g F ρ H S) (x : Ext F ρ H S ρ' H' S') (o' : Ok g F ρ' H' S') : Ext F ρ H S ρ H' (S'.take S.length) ∧ Ok g F ρ H' (S'.take S.length) ∧ ∀ p, Bar F ρ (S'.take S.length) p → Bar F ρ' S' p := by
  obtain ⟨more, er⟩ := x.rho
  have lv : ∀ p, Live ρ (S'.take S.length) p → Live ρ' S' p := fun p ⟨i, ds, h1, h2⟩ => by
    have hi : i < ρ.length := (List.getElem?_eq_some_iff.mp h1).1
    refine ⟨i, ds, by rw [er, List.getElem?_append_left hi]; exact h1, ?_⟩
    rw [List.getElem?_take] at h2
    split at h2
    · exact h2
    · cases h2
  have br : ∀ p, Bar F ρ (S'.take S.length) p → Bar F ρ' S' p := fun p b => b.elim (fun l => .inl (lv p l)) .inr
  refine ⟨⟨x.keep, x.there, fun p l => x.live p (lv p l), ⟨[], by simp⟩⟩, ⟨?_, o.nd, fun p hp => o'.trk p (by rw [er]; exact List.mem_append_left _ hp), fun i ds h => ?_, o'.fr, o'.tab⟩, br⟩
  · rw [List.length_take, ← o'.len, er, List.length_append, o.len]
    omega
  · have hl : i < S.length := by
      have := (List.getElem?_eq_some_iff.mp h).1
      rw [List.length_take] at this
      omega
    rw [List.getElem?_take, if_pos hl] at h
    obtain ⟨h0, q, vs, h1, h2, h3, h4⟩ := o'.sto i ds h
    rw [er, List.getElem?_append_left (by rw [o.len]; exact hl)] at h1
    exact ⟨h0, q, vs, h1, h2, h3.shr br h0, h4⟩
theorem fin_gc {W : WX} {F ρ : List Addr} {H : Hp} {S : Sto} {nn : Nat} {Q : VK} {m : M D} (o : Ok g F ρ H S) (h : Fin rD g F W nn ρ H S Q (gcM m S)) : Fin rD g F W nn ρ H S Q (m S) := by
  unfold gcM at h
  cases e : m S with
  | no =>
    rw [e] at h
    exact h
  | ex e1 S1 =>
    rw [e] at h
    exact h
  | ok d S1 =>
    rw [e] at h
    dsimp only at h
    by_cases hd : nr d = true
    · rw [if_pos hd] at h
      intro ρ' H' v x o' r
      obtain ⟨x2, o2, br⟩ := ok_take o x o'
      exact h ρ H' v x2 o2 (r.shr br hd)
    · rw [if_neg hd] at h
      exact h
end
section
variable {P : Program} {w : World} {K : PySem.W.Frag} {mg : Str → Option Value} {base : Heap} {g : Gx}
theorem start_len {N : List Str} {vs : List V} (h : vs.length ≤ N.length) : (L2.start N vs).length = N.length := by
  unfold L2.start
  rw [List.length_append, List.length_map, List.length_replicate]
  omega
theorem env_start {H : Hp} {B : Addr → Prop} {ρ : List Addr} {ds : List D} {vs : List V} {N : List Str} (r : Reps g H B ρ ds vs) (h : ds.length ≤ N.length) : EnvOk g H B ρ N.length (ds.map some ++ List.replicate (N.length - ds.length) none) (L2.start N vs) := by
  refine ⟨?_, start_len (by rw [← r.length]; exact h), fun i d e => ?_⟩
  · rw [List.length_append, List.length_map, List.length_replicate]
    omega
  · by_cases hi : i < ds.length
    · rw [List.getElem?_append_left (by simpa using hi), List.getElem?_map] at e
      cases q : ds[i]? with
      | none =>
        rw [q] at e
        cases e
      | some d' =>
        rw [q] at e
        have e2 : d' = d := by
          have := Option.some.inj e
          exact Option.some.inj this
        subst e2
        obtain ⟨v, h1, h2⟩ := r.get q
        refine ⟨v, ?_, h2⟩
        unfold L2.start
        rw [List.getElem?_append_left (by rw [List.length_map, ← r.length]; exact hi), List.getElem?_map, h1]
        rfl
    · rw [List.getElem?_append_right (by simpa using hi), List.getElem?_replicate] at e
      split at e <;> cases e
/-- what a def keeps -/
structure DefOk (P : Program) (w : World) (K : PySem.W.Frag) (mg : Str → Option Value) (base : Heap) (g : Gx) (k : Nat) (x : Str) (f : List D → M D) (np : Nat) : Prop where
  ex : ∃ fa fd ps, mg x = some (.ref fa) ∧ PySem.W.keepIn K (.ref fa) = true ∧ Binds K fd ps [] ∧ ps.length = np ∧ FnOk P w K mg base (L2N.CX P w) k fa fd ps (spM g f np)
theorem def_core {scope : Scope} {N ps : List Str} {b : MS} {vs : List V} {H : Hp} {Q : VK} {E : XK} (Sc : FnScope N ps scope) (h : spM g (mDef ps.length N.length b) ps.length vs H Q E) : tS g (fun cls d _ H => E cls d H) b { nx := fun _ H' => Q .non H', rt := Q } (L2.start N vs) H := by
  obtain ⟨hl, nn, F, ρ, S, ds, o, r, h⟩ := h
  have hds : ds.length = ps.length := r.length.trans hl
  have hpl : ps.length ≤ N.length := by
    have := congrArg List.length Sc.pre
    rw [List.length_take] at this
    omega
  unfold mDef at h
  rw [if_pos hds] at h
  have h := fin_gc o h
  have e0 := env_start (N := N) r (by rw [hds]; exact hpl)
  rw [hds] at e0
  refine ⟨N.length, F, ρ, _, S, [], e0, o, .nil, ?_⟩
  show Fin rFl g F _ N.length ρ H S _ (b (ds.map some ++ List.replicate (N.length - ps.length) none) S)
  unfold bnd at h
  cases e : b (ds.map some ++ List.replicate (N.length - ps.length) none) S with
  | no =>
    rw [e] at h
    exact h
  | ex e1 S1 =>
    rw [e] at h
    exact fun ρ' H' σ' c d hl' x o' z => h ρ' H' (List.replicate nn none) c d (by simp) x o' z
  | ok z S1 =>
    rw [e] at h
    obtain ⟨fl, env'⟩ := z
    cases fl with
    | nx =>
      intro ρ' H' q x o' r'
      cases q with
      | nx σ' => exact h ρ' H' .non x o' .non
      | _ => exact r'.elim
    | rt d =>
      intro ρ' H' q x o' r'
      cases q with
      | rt v => exact h ρ' H' v x o' r'
      | _ => exact r'.elim
    | _ => exact h.elim
theorem fn_ok {x : Str} {params : Arguments} {body : List Stmt} {scope : Scope} {f : Addr} {fd : FuncData} {N ps : List Str} {k : Nat} {b : MS} (Fd : FunD K x x params body scope [] [] f fd) (Sc : FnScope N ps scope)
    (hb : ∀ (cdv : Value) (A : Around) (outer : List PySem.Env) (s : Shared) (H : Hp) (E : XK), Room k (A.deeper (envOfC x scope s.heap.objs.size f cdv)) → PSs (cxOf (L2N.CX P w) P w K mg base N x scope f cdv A outer s H E) body (tS g (fun cls d _ H => E cls d H) b)) :
    FnOk P w K mg base (L2N.CX P w) (k + 1) f fd ps (spM g (mDef ps.length N.length b) ps.length) := by
  refine Fd.ok Sc (fun vs H Q E h => h.1) fun cdv A outer s H vs Q E hr h => ⟨_, hb cdv A outer s H E hr, def_core Sc h⟩
end
section
variable {X : Cx} {g : Gx} {W : WX}
/-- a call of a def -/
theorem se_call {x : Str} {p pos : Pos} {e : Expr} {es : List Expr} {j k np : Nat} {f : List D → M D} {m : Env → M (List D)} (Df : DefOk X.prog X.w X.K X.mg X.base g k x f np) (hr : Room j X.A) (hj : k ≤ j) (tk : L2N.Takes X W) (hg : Gl X x) (ha : PA X (e :: es) (tL g W m)) (hn : (e :: es).length = np) (hm : ∀ env S ds S', m env S = .ok ds S' → ds.length = (e :: es).length)
    (hdb : (x == ("__debug__" : Str)) = false := by decide) (he : starEach (e :: es) X.env = (false, eval e X.env) :: starEach es X.env := by rfl) (hpl : (backTo pos (starEach es X.env)).any (·.1) = false := by rfl) : PE X (.Call (.Name x p) (e :: es) [] pos) (tE g W (mCall f m)) := by
  obtain ⟨fa, fd, ps, gm, kp, bi, hps, FO⟩ := Df.ex
  refine wkE (pe_callS FO (hr.mono hj) hg gm kp bi (fun σ => L2N.passAt tk σ) ha hdb he hpl) fun σ H Q h => ?_
  obtain ⟨nn, F, ρ, env, S, ds, n, o, r, h⟩ := h
  refine ⟨nn, F, ρ, env, S, [], n, o, .nil, ?_⟩
  have h : Fin rD g F W nn ρ H S Q (mCall f m env S) := h
  show Fin rLs g F W nn ρ H S _ (m env S)
  unfold mCall bnd at h
  cases em : m env S with
  | no =>
    rw [em] at h
    exact h
  | ex e1 S1 =>
    rw [em] at h
    exact h
  | ok ds S1 =>
    rw [em] at h
    intro ρ' H' vs x' o' r'
    have hl := hm env S ds S1 em
    refine ⟨by rw [← r'.length, hl, hn], nn, F, ρ', S1, ds, o', r', ?_⟩
    have h : Fin rD g F W nn ρ' H' S1 Q (f ds S1) := Fin.ext x' h
    cases ef : f ds S1 with
    | ok d S2 =>
      rw [ef] at h
      exact h
    | no =>
      rw [ef] at h
      exact h
    | ex e1 S2 =>
      rw [ef] at h
      have l2 : σ.length = nn := n.len2
      exact fun ρ2 H2 σ2 c d hl2 x2 o2 z => h ρ2 H2 σ c d l2 x2 o2 z
theorem len_nil : ∀ env S ds S', mNil env S = .ok ds S' → ds.length = 0 := fun env S ds S' h => by
  cases h
  rfl
theorem len_cons {m : Env → M D} {r : Env → M (List D)} {k : Nat} (h : ∀ env S ds S', r env S = .ok ds S' → ds.length = k) : ∀ env S ds S', mCons m r env S = .ok ds S' → ds.length = k + 1 := fun env S ds S' e => by
  unfold mCons bnd at e
  cases e1 : m env S with
  | no =>
    rw [e1] at e
    cases e
  | ex _ _ =>
    rw [e1] at e
    cases e
  | ok d S1 =>
    rw [e1] at e
    dsimp only at e
    cases e2 : r env S1 with
    | no =>
      rw [e2] at e
      cases e
    | ex _ _ =>
      rw [e2] at e
      cases e
    | ok es S2 =>
      rw [e2] at e
      cases e
      simp [h _ _ _ _ e2]
theorem se_call0 {x : Str} {p pos : Pos} {j k : Nat} {f : List D → M D} (Df : DefOk X.prog X.w X.K X.mg X.base g k x f 0) (hr : Room j X.A) (hj : k ≤ j) (tk : L2N.Takes X W) (hW : ∃ E : XK, W = fun c d _ H => E c d H) (hg : Gl X x)
    (hdb : (x == ("__debug__" : Str)) = false := by decide) : PE X (.Call (.Name x p) [] [] pos) (tE g W (mCall f mNil)) := by
  obtain ⟨fa, fd, ps, gm, kp, bi, hps, FO⟩ := Df.ex
  obtain ⟨E, rfl⟩ := hW
  refine wkE (pe_call0 FO (hr.mono hj) hg gm kp bi .nil (L2N.passes_call tk fun _ _ _ _ h => h) hdb) fun σ H Q h => ?_
  obtain ⟨nn, F, ρ, env, S, ds, n, o, r, h⟩ := h
  exact ⟨rfl, nn, F, ρ, S, [], o, .nil, h⟩
/-! ### raise -/
/-- a class of errors of the text, without fields -/
structure ExcOk (K : PySem.W.Frag) (mg : Str → Option Value) (x : Str) : Prop where
  ex : ∃ C, mg x = some (.ref C) ∧ PySem.W.excIn K C He.veBase "ValueError.__new__" = true ∧ PySem.W.keepIn K (.ref C) = true ∧ PySem.W.subIn K (.ref C) (.type "BaseException") = some true ∧ PySem.W.typeIn K (.ref C) = some (.type "type")
def mRaise (x : Str) : MS := fun _ S => .ex ⟨x⟩ S
theorem ss_raise {x m : Str} {j : Nat} {p p2 pos pos' : Pos} (hc : X.calm = true) (tk : L2N.Takes X W) (T : ExcOk X.K X.mg x) (hmg : X.mg = g.mg) (hg : Gl X x) (hdb : (x == ("__debug__" : Str)) = false := by decide) : PS X (.Raise (some (.Call (.Name x p) [.Constant (.str m) j p2] [] pos)) none pos') (tS g W (mRaise x)) := by
  obtain ⟨C, g1, g2, g3, g4, g5⟩ := T.ex
  refine wkS (L2N.ps_raise hc tk (L2N.pmk_own PySem.F.excBase_ValueError g2 g1 g3 (raises_own g4 g5) hg hdb)) fun D σ H h => ?_
  obtain ⟨nn, F, ρ, env, S, ds, n, o, r, h⟩ := h
  exact h ρ H σ _ _ n.len2 .refl o ⟨rfl, C, by rw [← hmg]; exact g1, rfl⟩
end
end Mir
namespace Mir
open PySem PySem.Spec PyProof.Rows L2 RZ
/-! ### short words for printed derivations -/
section
variable {P : Program} {w : World} {K : PySem.W.Frag} {mg : Str → Option Value} {base : Heap} {g : Gx}
/-- where a def of the text stands -/
def DefAt (K : PySem.W.Frag) (mg : Str → Option Value) (x : Str) (st : Stmt) : Prop := ∃ fa fd, mg x = some (.ref fa) ∧ FunD K x x (defArgs st) (defBody st) (defScope st) [] [] fa fd
theorem def_ok {x : Str} {st : Stmt} {N ps : List Str} {k np : Nat} {b : MS} (h : DefAt K mg x st) (Sc : FnScope N ps (defScope st)) (hnp : ps.length = np)
    (hbind : ∀ (kV doc pm : Value) (an : Option Addr) (cdv ct : Value) (us : List Value), us.length = ps.length → bindArgs (PySem.W.fnOf x x (defArgs st) (defBody st) (defScope st) .none kV doc pm an cdv ct) ⟨us, []⟩ = pure (ps.zip us))
    (hb : ∀ (f : Addr) (cdv : Value) (A : Around) (outer : List PySem.Env) (s : Shared) (H : Hp) (E : XK), Room k (A.deeper (envOfC x (defScope st) s.heap.objs.size f cdv)) → PSs (cxOf (L2N.CX P w) P w K mg base N x (defScope st) f cdv A outer s H E) (defBody st) (tS g (fun cls d _ H => E cls d H) b)) :
    DefOk P w K mg base g (k + 1) x (mDef np N.length b) np := by
  obtain ⟨fa, fd, gm, Fd⟩ := h
  subst hnp
  exact ⟨fa, fd, ps, gm, Fd.kp, Fd.bindsN hbind, rfl, fn_ok Fd Sc fun cdv A outer s H E hr => hb fa cdv A outer s H E hr⟩
/-- no turn is left -/
theorem def_zero {x : Str} {st : Stmt} {ps : List Str} {k np : Nat} (h : DefAt K mg x st) (hnp : ps.length = np)
    (hbind : ∀ (kV doc pm : Value) (an : Option Addr) (cdv ct : Value) (us : List Value), us.length = ps.length → bindArgs (PySem.W.fnOf x x (defArgs st) (defBody st) (defScope st) .none kV doc pm an cdv ct) ⟨us, []⟩ = pure (ps.zip us)) :
    DefOk P w K mg base g k x (fun _ => noM) np := by
  obtain ⟨fa, fd, gm, Fd⟩ := h
  subst hnp
  refine ⟨fa, fd, ps, gm, Fd.kp, Fd.bindsN hbind, rfl, fun vs H Q E h => h.1, fun A outer s H args us vs Q E hr e0 hb hv h => ?_⟩
  obtain ⟨_, nn, F, ρ, S, ds, o, r, h⟩ := h
  exact h.elim
theorem DefOk.mono {x : Str} {k j np : Nat} {f : List D → M D} (d : DefOk P w K mg base g k x f np) (h : k ≤ j) : DefOk P w K mg base g j x f np := by
  obtain ⟨fa, fd, ps, h1, h2, h3, h4, h5⟩ := d.ex
  exact ⟨fa, fd, ps, h1, h2, h3, h4, h5.mono h⟩
end
section
variable {X : Cx} {g : Gx} {W : WX}
theorem ss_setN (i : Nat) {x : Str} {e : Expr} {pos pos' : Pos} {m : Env → M D} (hN : X.N.Nodup) (he : PE X e (tE g W m)) (hi : X.N[i]? = some x := by rfl) (hx : Loc X.env.scope x := by first | exact Or.inl rfl | exact Or.inr rfl)
    (hs : swapsWith e (some (.Name x pos')) pos.line X.env = pure false := by rfl) (hf : X.fn x = true ∨ X.env.scope.names.lookup x = some .local := by first | exact .inl rfl | exact .inr rfl) : PS X (.Assign [.Name x pos'] e pos) (tS g W (mAsg m (gN i))) :=
  ss_set he fun te h => ps_set hN hi hx h hs hf
theorem sg_n (i : Nat) {x : Str} {pos : Pos} (hN : X.N.Nodup) (hi : X.N[i]? = some x := by rfl) (hx : Loc X.env.scope x := by first | exact Or.inl rfl | exact Or.inr rfl) (hf : X.fn x = true ∨ X.env.scope.names.lookup x = some .local := by first | exact .inl rfl | exact .inr rfl) : PG X (.Name x pos) (tG g W (gN i)) :=
  sg_name (pg_name hN hi hx hf)
theorem sc_n {ws : List Nat} (i : Nat) {x : Str} {pos : Pos} (hN : X.N.Nodup) (hw : i ∈ ws := by decide) (hi : X.N[i]? = some x := by rfl) (hx : Loc X.env.scope x := by first | exact Or.inl rfl | exact Or.inr rfl) (hf : X.fn x = true ∨ X.env.scope.names.lookup x = some .local := by first | exact .inl rfl | exact .inr rfl) : PG X (.Name x pos) (tGw ws g (gN i)) :=
  sc_name hw (pg_name hN hi hx hf)
theorem tk0 : L2N.Takes X W0 := fun _ _ ⟨_, _, _, _, _, _, _, _, _, _, _, _, _, _, _, _, z⟩ => z.elim
/-- name = [..] on one line, the name a local -/
theorem ss_setLcN (i : Nat) {y : Str} {py : Pos} {elt tg iter : Expr} {ifs : List Expr} {scope : Scope} {own : List (Str × Nat)} {pos spos : Pos} {mi : Env → M (List D)} {mg : MG} {mt : Env → M Bool} {me : Env → M D} (hc : X.calm = true) (hN : X.N.Nodup)
    (hi : PI X tg iter (tI g W mi)) (ok : BlkOk X.N X.env.scope scope own)
    (hg : ∀ (s : Shared) (H : Hp) (C : Addr) (cl : List (Str × Addr)) (fp : List Addr), PG (X.blk s H scope (compEnvC scope cl C X.env) fp) tg (tGw (own.map (·.2)) g mg)) (ht : ∀ (s : Shared) (H : Hp) (C : Addr) (cl : List (Str × Addr)) (fp : List Addr), PTs (X.blk s H scope (compEnvC scope cl C X.env) fp) ifs (tB g W0 mt))
    (he : ∀ (s : Shared) (H : Hp) (C : Addr) (cl : List (Str × Addr)) (fp : List Addr), PE (X.blk s H scope (compEnvC scope cl C X.env) fp) elt (tE g W0 me))
    (hsw : swapsWith (.ListComp elt [⟨tg, iter, ifs, 0⟩] scope pos) (some (.Name y py)) spos.line X.env = pure true) (hy : X.N[i]? = some y := by rfl) (hyl : X.env.scope.names.lookup y = some .local := by rfl) (hs : ∀ x, foldedSetIterable iter X.env x = pure x := by intro _; rfl) :
    PS X (.Assign [.Name y py] (.ListComp elt [⟨tg, iter, ifs, 0⟩] scope pos) spos) (tS g W (mAsg (mLc mi mg mt me (own.map (·.2))) (gN i))) :=
  ss_setLc (fun wi gg tt te h1 h2 h3 h4 => ps_setLc hc hN hy hyl hsw h1 ok h2 h3 h4 (by assumption)) hi hg ht he
end
end Mir
namespace Mir
open PySem PySem.Spec PyProof.Rows L2 RZ
section
variable {P : Program} {w : World} {K : PySem.W.Frag} {mg : Str → Option Value} {base : Heap} {N : List Str} {x : Str} {sc : Scope} {f : Addr} {cdv : Value} {A : Around} {outer : List PySem.Env} {s : Shared} {H : Hp} {E : XK}
theorem tkE : L2N.Takes (cxOf (L2N.CX P w) P w K mg base N x sc f cdv A outer s H E) (fun cls d _ H => E cls d H) := L2N.takes_of rfl rfl rfl rfl
theorem psE : PassesOwn (model (cxOf (L2N.CX P w) P w K mg base N x sc f cdv A outer s H E).prog (cxOf (L2N.CX P w) P w K mg base N x sc f cdv A outer s H E).w) (cxOf (L2N.CX P w) P w K mg base N x sc f cdv A outer s H E).A (cxOf (L2N.CX P w) P w K mg base N x sc f cdv A outer s H E).env (cxOf (L2N.CX P w) P w K mg base N x sc f cdv A outer s H E).xe := passes_of rfl
end
section
variable {X : Cx} {g : Gx} {W : WX}
theorem se_glo2 {x : Str} {st : Stmt} {pos : Pos} (hg : Gl X x) (h : DefAt X.K X.mg x st) (hmg : X.mg = g.mg := by rfl) (hd : (x == ("__debug__" : Str)) = false := by decide) : PE X (.Name x pos) (tE g W (mC (.glo x))) := by
  obtain ⟨fa, _, gm, _⟩ := h
  exact se_glo hg gm hmg hd
theorem se_gint {x : Str} {i : Int} {pos : Pos} (hg : Gl X x) (h : ∃ t, X.mg x = some (.int i t)) (hd : (x == ("__debug__" : Str)) = false := by decide) : PE X (.Name x pos) (tE g W (mC (.int i))) := by
  obtain ⟨t, hm⟩ := h
  exact wkE (pe_glob (v := .int i) hg hm ⟨t, rfl⟩ hd) fun _ _ _ q => const_ok (fun _ _ _ => .int i) q
end
end Mir
set_option Elab.async false
set_option linter.all false
set_option maxRecDepth 100000
set_option maxHeartbeats 4000000
namespace Mir
open PySem PySem.Spec PyProof.Rows
/-! ### iterators that end while an exception is handled -/
section
variable {prog : Program} {w : World} {A : Around} {E : Value → Shared → Prop} {s : Shared}
theorem list_stops_hot {it l x1 : Addr} {i : Nat} {xs : Array Value} {Q : Option Value → Shared → Prop} (hot : HotX.HotAt A x1 s.heap) (hne : it ≠ x1) (hit : s.heap.IsListIter it l i) (hl : s.heap.IsList l xs) (hx : xs[i]? = none)
    (hQ : ∀ h', Heap.ExtBut it s.heap h' → Q none { s with heap := h' }) : wpAny (model prog w) A (pyNext (.ref it)) Q E s := by
  obtain ⟨hh, o1, vs1, h1, d1, c1⟩ := hot
  obtain ⟨o, ho, hc, hd⟩ := id hit
  obtain ⟨ol, hol, _, nl, hdl⟩ := hl
  unfold pyNext
  refine wpAny_bind (wpAny_attempt (wpAny_callSpecial?_slot (name := Str.ofString "__next__") hit.typeIs slot_listiter_next (wpAny_call_entry slot_listiter_next hit.typeIs entry_listiter_next ?_ (args_listiter_next _))))
  show wpAny (model prog w) _ (field (.ref it) 0 >>= _) _ _ s
  refine wpAny_bind (wpAny_field ho hd (x := .ref l) rfl ?_)
  show wpAny (model prog w) _ (if (Value.ref l == Value.none) = true then _ else _) _ _ s
  rw [if_neg (show (Value.ref l == Value.none) ≠ true from Bool.false_ne_true)]
  show wpAny (model prog w) _ (field (.ref it) 1 >>= _) _ _ s
  refine wpAny_bind (wpAny_field ho hd (x := .int i 0) rfl ?_)
  show wpAny (model prog w) _ (seqItems? (.ref l) >>= _) _ _ s
  refine wpAny_bind (wpAny_seqItems hol hdl ?_)
  simp only [Int.toNat_natCast, hx]
  refine wpAny_bind (wpAny_rule (wpAny_bind (wpAny_setField ho hd (by simp) ?_)))
  have e1 : ∀ (f : Obj → Obj) b u, b ≠ it → s.heap.get? b = some u → (s.heap.update it f).get? b = some u := fun f b u hb e => by
    rw [Heap.get?_update_other _ _ (Ne.symm hb)]
    exact e
  show wpAny (model prog w) _ (newExc (.type "StopIteration") [] >>= _) _ _ _
  simp only [newExc, newTuple]
  refine wpAny_bind (wpAny_bind (wpAny_newObj_type (wpAny_bind (m := firstArgMember _ _) (wpAny_of_eq (a := Value.none) (by first | rfl | (simp only [firstArgMember]; rfl)) (wpAny_newObj_type ?_ (by size_fits)))) (by size_fits)))
  refine HotX.raiseNew_hot (x1 := x1) ⟨hh, o1, vs1, Heap.get?_push_of_some _ (Heap.get?_push_of_some _ (e1 _ _ _ (Ne.symm hne) h1)), d1, c1⟩ (Nat.ne_of_lt (Heap.lt_size (Heap.get?_push_of_some _ (e1 _ _ _ (Ne.symm hne) h1)))) (Heap.get?_push_size _ rfl) rfl (by simp; omega) ?_
  refine wpAny_bind (wpAny_isInstance (T := "StopIteration") (b := true) ⟨_, Heap.get?_update_self _ (Heap.get?_push_size _ rfl) rfl, rfl⟩ isSubtype_stop (wpAny_pure (hQ _ fun b u hb e => ?_)))
  rw [Heap.get?_update_other _ _ (Nat.ne_of_gt (Heap.lt_size (Heap.get?_push_of_some _ (e1 _ _ _ hb e))))]
  exact Heap.get?_push_of_some _ (Heap.get?_push_of_some _ (e1 _ _ _ hb e))
theorem tup_stops_hot {it l x1 : Addr} {i : Nat} {xs : Array Value} {Q : Option Value → Shared → Prop} (hot : HotX.HotAt A x1 s.heap) (hne : it ≠ x1) (hit : IsTupIter s.heap it l i) (hl : IsTup s.heap l xs) (hx : xs[i]? = none)
    (hQ : ∀ h', Heap.ExtBut it s.heap h' → Q none { s with heap := h' }) : wpAny (model prog w) A (pyNext (.ref it)) Q E s := by
  obtain ⟨hh, o1, vs1, h1, d1, c1⟩ := hot
  obtain ⟨o, ho, hc, hd⟩ := id hit
  obtain ⟨ol, hol, _, nl, hdl⟩ := hl
  unfold pyNext
  refine wpAny_bind (wpAny_attempt (wpAny_callSpecial?_slot (name := Str.ofString "__next__") hit.typeIs slot_tupleiter_next (wpAny_call_entry slot_tupleiter_next hit.typeIs entry_tupleiter_next ?_ (args_tupleiter_next _))))
  show wpAny (model prog w) _ (field (.ref it) 0 >>= _) _ _ s
  refine wpAny_bind (wpAny_field ho hd (x := .ref l) rfl ?_)
  show wpAny (model prog w) _ (if (Value.ref l == Value.none) = true then _ else _) _ _ s
  rw [if_neg (show (Value.ref l == Value.none) ≠ true from Bool.false_ne_true)]
  show wpAny (model prog w) _ (field (.ref it) 1 >>= _) _ _ s
  refine wpAny_bind (wpAny_field ho hd (x := .int i 0) rfl ?_)
  show wpAny (model prog w) _ (seqItems? (.ref l) >>= _) _ _ s
  refine wpAny_bind (wpAny_seqItems hol hdl ?_)
  simp only [Int.toNat_natCast, hx]
  refine wpAny_bind (wpAny_rule (wpAny_bind (wpAny_setField ho hd (by simp) ?_)))
  have e1 : ∀ (f : Obj → Obj) b u, b ≠ it → s.heap.get? b = some u → (s.heap.update it f).get? b = some u := fun f b u hb e => by
    rw [Heap.get?_update_other _ _ (Ne.symm hb)]
    exact e
  show wpAny (model prog w) _ (newExc (.type "StopIteration") [] >>= _) _ _ _
  simp only [newExc, newTuple]
  refine wpAny_bind (wpAny_bind (wpAny_newObj_type (wpAny_bind (m := firstArgMember _ _) (wpAny_of_eq (a := Value.none) (by first | rfl | (simp only [firstArgMember]; rfl)) (wpAny_newObj_type ?_ (by size_fits)))) (by size_fits)))
  refine HotX.raiseNew_hot (x1 := x1) ⟨hh, o1, vs1, Heap.get?_push_of_some _ (Heap.get?_push_of_some _ (e1 _ _ _ (Ne.symm hne) h1)), d1, c1⟩ (Nat.ne_of_lt (Heap.lt_size (Heap.get?_push_of_some _ (e1 _ _ _ (Ne.symm hne) h1)))) (Heap.get?_push_size _ rfl) rfl (by simp; omega) ?_
  refine wpAny_bind (wpAny_isInstance (T := "StopIteration") (b := true) ⟨_, Heap.get?_update_self _ (Heap.get?_push_size _ rfl) rfl, rfl⟩ isSubtype_stop (wpAny_pure (hQ _ fun b u hb e => ?_)))
  rw [Heap.get?_update_other _ _ (Nat.ne_of_gt (Heap.lt_size (Heap.get?_push_of_some _ (e1 _ _ _ hb e))))]
  exact Heap.get?_push_of_some _ (Heap.get?_push_of_some _ (e1 _ _ _ hb e))
/-- a, b = a pair -/
theorem pair_hot {env : PySem.Env} {elts : List Expr} {k : Nat} {pos : Pos} {t x1 : Addr} {xs : Array Value} {Q : Unit → Shared → Prop} (hot : HotX.HotAt A x1 s.heap) (ht : IsTup s.heap t xs) (hn : (assignEach elts env).length = xs.size) (hst : (assignEach elts env).findIdx? (·.1) = none)
    (h : ∀ h', Heap.ExtBut s.heap.objs.size s.heap h' → wpAny (model prog w) A (assignInOrder ((assignEach elts env).map (·.2)) xs.toList) Q E { s with heap := h' }) : wpAny (model prog w) A (assign (.Tuple elts k pos) env (.ref t)) Q E s := by
  obtain ⟨hh, o1, vs1, h1, d1, c1⟩ := id hot
  have hlt : t ≠ s.heap.objs.size := by
    obtain ⟨o, ho, _⟩ := ht
    exact Nat.ne_of_lt (Heap.lt_size ho)
  have hl1 : x1 ≠ s.heap.objs.size := Nat.ne_of_lt (Heap.lt_size h1)
  rw [assign_Tuple]
  refine wpAny_bind (wpAny_standAt ?_)
  unfold unpack
  rw [hn, hst]
  refine wpAny_bind (wpAny_holding ?_)
  unfold unpackItems
  refine wpAny_bind ?_
  unfold notIterableAtAll
  refine wpAny_bind (wpAny_specialOf ht.typeIs slot_tuple_iter.lookup (wpAny_pure ?_))
  simp only [Bool.false_eq_true, if_false]
  refine wpAny_bind (wpAny_holding (iter_tuple ht (wpAny_bind (wpAny_holding (draw_tuple hlt xs.size 0 _ _ ⟨_, Heap.get?_push_size _ rfl, rfl, rfl⟩ (ht.push _) (by omega) fun h₁ hit₁ hs₁ => ?_)))))
  have hall : List.take xs.size (List.drop 0 xs.toList) = xs.toList := by
    rw [List.drop_zero]
    exact List.take_of_length_le (by simp)
  rw [hall, if_neg (by simp)]
  have ht₁ : IsTup h₁ t xs := (ht.push _).extBut hs₁.extBut hlt
  have hot₁ : HotX.HotAt A x1 h₁ := ⟨hh, o1, vs1, hs₁.extBut _ _ hl1 (Heap.get?_push_of_some _ h1), d1, c1⟩
  refine wpAny_bind (wpAny_holding (tup_stops_hot hot₁ (Ne.symm hl1) hit₁ ht₁ (by simp) fun h₂ he₂ => ?_))
  simp only [Option.isSome_none, Bool.false_eq_true, if_false]
  exact wpAny_pure (h h₂ fun b o hb e => he₂ b o hb (hs₁.extBut b o hb (Heap.get?_push_of_some _ e)))
/-- a list walked there -/
theorem goes_list_hot {target : Expr} {x1 : Addr} (I l : Addr) (hne : l ≠ I) (hx : I ≠ x1) (xs : Array Value) (o1 : Obj) (vs1 : Array Value) (hh : A.handled = some (.ref x1)) (d1 : o1.data = .fields vs1) (c1 : vs1[2]? = some .none) :
    Goes prog w A target I [I, l, x1] [I] xs.size (fun i v _ => xs[i]? = some v) (fun i h => h.IsListIter I l i ∧ h.IsList l xs ∧ h.get? x1 = some o1) where
  sub := fun b hb => by
    rw [List.mem_singleton.mp hb]
    exact List.mem_cons_self
  frame := fun i h h' ⟨a, b, c⟩ k => ⟨a.at fun o e => k I (by simp) o e, b.at fun o e => k l (by simp) o e, k x1 (by simp) _ c⟩
  goes := fun i s Q E hi ⟨a, b, c⟩ hQ => by
    obtain ⟨oI, hoI, hcI, hdI⟩ := id a
    have hv : xs[i]? = some xs[i] := by simp [hi]
    refine wpAny_pyNext_list_item a b hv fun h' st' sb => ⟨_, rfl, ?_⟩
    obtain ⟨o', ho', hc', hd'⟩ := id st'
    refine L2.go_of (s := { s with heap := h' }) ho' hc' hd' (by decide) ?_
    exact hQ _ h' s.toks hv ⟨st', b.extBut sb.extBut hne, (sb.2 x1 (Ne.symm hx)).trans c⟩ (fun b' o hb e => (sb.2 b' (fun z => hb (by simp [z]))).trans e) (Nat.le_refl _)
  stops := fun s Q E ⟨a, b, c⟩ hQ => by
    refine list_stops_hot ⟨hh, o1, vs1, c, d1, c1⟩ hx a b (by simp) fun h' eb => ⟨rfl, ?_⟩
    exact hQ h' s.toks (fun b' o hb e => eb b' o (fun z => hb (by simp [z])) e) (Nat.le_refl _)
  self := fun i s Q E ⟨a, _, _⟩ h => wpAny_pyIter_listiter a h
end
end Mir
set_option Elab.async false
set_option linter.all false
set_option maxRecDepth 100000
set_option maxHeartbeats 4000000
namespace Mir
open PySem PySem.Spec PyProof.Rows
/-! ### [x for x, y in pairs if y] while an exception is handled -/
def pkV (c : Nat → Bool) (u : Nat → Value) : Nat → List Value
  | 0 => []
  | i + 1 => if c i = true then pkV c u i ++ [u i] else pkV c u i
theorem pkV_length (c : Nat → Bool) (u : Nat → Value) : ∀ i, (pkV c u i).length ≤ i
  | 0 => Nat.le_refl _
  | i + 1 => by
    unfold pkV
    have := pkV_length c u i
    split
    · rw [List.length_append]
      exact Nat.succ_le_succ this
    · exact Nat.le_succ_of_le this
section
variable {prog : Program} {w : World} {A : Around} {E : Value → Shared → Prop} {s : Shared} {env : PySem.Env}
theorem pick_goes {x0 x1 y z : Str} {p0 p1 p2 p3 pt : Pos} {kk : Nat} {scope : Scope} {cl : List (Str × Addr)} {l x : Addr} {its : Array Value} {c : Nat → Bool} {u : Nat → Value} {sel tst : Bool} {Q : Value → Shared → Prop}
    (hkind : scope.kind = .function)
    (h0 : scope.names.lookup x0 = some .local) (h1 : scope.names.lookup x1 = some .local) (hne : x0 ≠ x1) (hy : y = if sel then x1 else x0) (hz : z = if tst then x1 else x0)
    (hdy : (y == ("__debug__" : Str)) = false) (hdz : (z == ("__debug__" : Str)) = false)
    (hot : HotX.HotAt A x s.heap) (hl : s.heap.IsList l its) (hsz : its.size ≤ sizeLine)
    (hits : ∀ i, i < its.size → ∃ p u0 u1, its[i]? = some (.ref p) ∧ IsTup s.heap p #[u0, u1] ∧ (if tst then u1 else u0) = .bool (c i) ∧ (if sel then u1 else u0) = u i)
    (h : ∀ D h' tk, s.heap.objs.size ≤ D → h'.PlainList D (pkV c u its.size).toArray → (∀ b o, s.heap.get? b = some o → h'.get? b = some o) → Q (.ref D) { s with heap := h', toks := tk }) :
    wpAny (model prog w) A (pyIter (.ref l)) (LcGoes prog w A E env scope cl (.Tuple [.Name x0 p0, .Name x1 p1] kk pt) [.Name z p3] (.Name y p2) none Q) E s := by
  obtain ⟨hh, o1, vs1, hx, d1, c1⟩ := hot
  have hlt : l < s.heap.objs.size := by obtain ⟨o, ho, _⟩ := hl; exact Heap.lt_size ho
  have hxlt : x < s.heap.objs.size := Heap.lt_size hx
  refine wpAny_pyIter_list hl ?_
  have up0 : ∀ b o, s.heap.get? b = some o → (s.heap.push { cls := .type "list_iterator", data := .fields #[.ref l, .int 0 0] }).get? b = some o := fun b o e => Heap.get?_push_of_some _ e
  refine ⟨_, _, _, _, _, _, rfl, goes_list_hot s.heap.objs.size l (Nat.ne_of_lt hlt) (Nat.ne_of_gt hxlt) its o1 vs1 hh d1 c1, hsz, ⟨⟨_, Heap.get?_push_size _ rfl, rfl, rfl⟩, hl.at fun o e => up0 _ o e, up0 _ _ hx⟩, ?_, fun D C s₃ hB => ?_⟩
  · intro b hb
    rw [Heap.size_push]
    simp only [List.mem_cons, List.not_mem_nil, or_false] at hb
    rcases hb with rfl | rfl | rfl
    · exact Nat.lt_succ_self _
    · exact Nat.lt_succ_of_lt hlt
    · exact Nat.lt_succ_of_lt hxlt
  · obtain ⟨⟨h₃, tk₃, rfl⟩, old, nD, nC, hDC, hnm⟩ := hB
    have nC' : s.heap.objs.size + 1 ≤ C := by rw [← Heap.size_push]; exact nC
    have nD' : s.heap.objs.size + 1 ≤ D := by rw [← Heap.size_push]; exact nD
    have kinds : ∀ y, scope.names.lookup y = some .local → (compEnvC scope cl C env).kindOf y = some .local := fun y hy => lookup_relabel_local hy
    have hp : ((compEnvC scope cl C env).scope.kind == .class || ((compEnvC scope cl C env).scope.kind == .module && (compEnvC scope cl C env).locals != (compEnvC scope cl C env).globals)) = false := by
      show (scope.kind == .class || (scope.kind == .module && _)) = false
      rw [hkind]; rfl
    refine ⟨fun i vs s₁ => ∃ h' tk m, s₁ = { s with heap := h', toks := tk } ∧ h'.Ns C m ∧ vs = pkV c u i ∧ ∀ b o, s.heap.get? b = some o → h'.get? b = some o, ⟨h₃, tk₃, _, rfl, hnm, rfl, fun b o e => old b o (up0 b o e)⟩, ?_, ?_, ?_⟩
    · rintro i vs s₁ h' tk ⟨h₄, tk₄, m, rfl, n₄, e₄, k₄⟩ hk' _
      have off : ∀ b : Addr, (b < s.heap.objs.size ∨ b = C) → b ∉ D :: [s.heap.objs.size] := fun b hb hm => by
        rcases List.mem_cons.mp hm with e | e
        · rcases hb with q | q
          · rw [e] at q; exact absurd (Nat.lt_of_lt_of_le (Nat.lt_succ_of_lt q) nD') (Nat.lt_irrefl _)
          · exact hDC (e.symm.trans q)
        · have e := List.mem_singleton.mp e
          rcases hb with q | q
          · rw [e] at q; exact absurd q (Nat.lt_irrefl _)
          · rw [q] at e; rw [e] at nC'; exact absurd nC' (Nat.not_succ_le_self _)
      exact ⟨h', tk, m, rfl, n₄.at' fun o e => hk' _ o (off _ (.inr rfl)) e, e₄, fun b o e => hk' b o (off _ (.inl (Heap.lt_size e))) (k₄ b o e)⟩
    · rintro i v vs s₁ hi hv st ⟨h₄, tk₄, m, rfl, n₄, e₄, k₄⟩ hpl
      have hv : its[i]? = some v := hv
      obtain ⟨p, u0, u1, hp0, hT, hc, hu⟩ := hits i hi
      have ev : v = .ref p := Option.some.inj (hv.symm.trans hp0)
      subst ev
      have hT₄ : IsTup h₄ p #[u0, u1] := by
        obtain ⟨oT, hoT, r⟩ := hT
        exact ⟨oT, k₄ _ _ hoT, r⟩
      refine pair_hot (x1 := x) ⟨hh, o1, vs1, k₄ _ _ hx, d1, c1⟩ hT₄ rfl rfl fun h₅ hs₅ => ?_
      have up₅ : ∀ b o, h₄.get? b = some o → h₅.get? b = some o := fun b o e => hs₅ b o (Nat.ne_of_lt (Heap.lt_size e)) e
      show wpAny _ _ (assignInOrder [assign (.Name x0 p0) _, assign (.Name x1 p1) _] [u0, u1]) _ _ _
      refine wpAny_assignInOrder_more (wpAny_assign_Name (wpAny_storeName_local (kinds _ h0) (n₄.at' fun o e => up₅ _ o e) (fun h₆ n₆ s₆ => ?_) hp))
      refine wpAny_assignInOrder_more (wpAny_assign_Name (wpAny_storeName_local (kinds _ h1) n₆ (fun h₇ n₇ s₇ => wpAny_assignInOrder_none ?_) hp))
      have name : ∀ (b : Bool) (q : Str), q = (if b then x1 else x0) → (kindq : (compEnvC scope cl C env).kindOf q = some .local) → (fun a => if a = x1 then some u1 else if a = x0 then some u0 else m a) q = some (if b then u1 else u0) := fun b q hq _ => by
        subst hq
        cases b with
        | true => simp
        | false => simp [hne]
      have kz : (compEnvC scope cl C env).kindOf z = some .local := by
        rw [hz]
        cases tst
        · exact kinds _ h0
        · exact kinds _ h1
      have ky : (compEnvC scope cl C env).kindOf y = some .local := by
        rw [hy]
        cases sel
        · exact kinds _ h0
        · exact kinds _ h1
      refine wpAny_tests_one (wpAny_isTrue_value ?_)
      rw [eval_Name _ _ _ hdz]
      refine wpAny_bind (wpAny_standAt (wpAny_loadName_local hkind kz n₇ (name tst z hz kz) ?_))
      rw [hc]
      refine wpAny_truthy_bool ?_
      have up₇ : ∀ b o, b ≠ C → h₄.get? b = some o → h₇.get? b = some o := fun b o hb e => s₇.extBut _ _ hb (s₆.extBut _ _ hb (up₅ b o e))
      have offC : ∀ b : Addr, b < s.heap.objs.size + 1 → b ≠ C := fun b hb e => by
        rw [e] at hb
        exact absurd (Nat.lt_of_lt_of_le hb nC') (Nat.lt_irrefl _)
      have st' : h₇.IsListIter s.heap.objs.size l (i + 1) ∧ h₇.IsList l its ∧ h₇.get? x = some o1 := by
        obtain ⟨a, b, d⟩ := st
        exact ⟨a.at fun o e => up₇ _ o (offC _ (Nat.lt_succ_self _)) e, b.at fun o e => up₇ _ o (offC _ (Nat.lt_succ_of_lt hlt)) e, up₇ _ _ (offC _ (Nat.lt_succ_of_lt hxlt)) d⟩
      have keep : ∀ b o, s.heap.get? b = some o → h₇.get? b = some o := fun b o e => up₇ b o (offC b (Nat.lt_succ_of_lt (Heap.lt_size e))) (k₄ b o e)
      have hpl' : h₇.PlainList D vs.toArray := hpl.at fun o e => up₇ _ o hDC e
      cases hci : c i with
      | true =>
        rw [if_pos rfl, eval_Name _ _ _ hdy]
        refine wpAny_bind (wpAny_standAt (wpAny_loadName_local hkind ky n₇ (name sel y hy ky) ?_))
        refine ⟨⟨h₇, _, _, rfl, n₇, ?_, keep⟩, st', hpl'⟩
        rw [e₄, hu]
        show pkV c u i ++ [u i] = if c i = true then _ else _
        rw [hci, if_pos rfl]
      | false =>
        rw [if_neg Bool.false_ne_true]
        refine ⟨⟨h₇, _, _, rfl, n₇, ?_, keep⟩, st', hpl'⟩
        rw [e₄]
        show pkV c u i = if c i = true then _ else _
        rw [hci, if_neg Bool.false_ne_true]
    · rintro vs s₁ ⟨h₄, tk₄, m, rfl, n₄, e₄, k₄⟩ hpl
      refine ⟨m, n₄, fun h' hs' => h D h' tk₄ (Nat.le_trans (Nat.le_succ _) nD') (e₄ ▸ hpl.extBut hs'.extBut hDC) fun b o e => hs'.extBut b o ?_ (k₄ b o e)⟩
      intro q
      rw [q] at e
      exact absurd (Nat.lt_of_lt_of_le (Nat.lt_succ_of_lt (Heap.lt_size e)) nC') (Nat.lt_irrefl _)
end
open L2
def pickD (sel tst : Bool) : List D → Option (List D)
  | [] => some []
  | .tup [a, b] :: r => match (if tst then b else a), pickD sel tst r with
    | .bl c, some rs => some (if c = true then (if sel then b else a) :: rs else rs)
    | _, _ => none
  | _ => none
def fPick (sel tst : Bool) : D → M D
  | .lst ds => match pickD sel tst ds with
    | some rs => ret (.lst rs)
    | none => noM
  | .ref i => fun S => match S[i]? with
    | some (some ds) => match pickD sel tst ds with
      | some rs => .ok (.lst rs) S
      | none => .no
    | _ => .no
  | _ => noM
def mPick (sel tst : Bool) (m : Env → M D) (env : Env) : M D := bnd (m env) (fPick sel tst)
theorem pickD_cons {sel tst : Bool} {d : D} {r rs : List D} (h : pickD sel tst (d :: r) = some rs) : ∃ a b c rs', d = .tup [a, b] ∧ (if tst then b else a) = .bl c ∧ pickD sel tst r = some rs' ∧ rs = if c = true then (if sel then b else a) :: rs' else rs' := by
  unfold pickD at h
  split at h
  · rename_i e
    cases e
  · rename_i a b r' e
    cases e
    split at h
    · rename_i c rs' e1 e2
      cases h
      exact ⟨a, b, c, rs', rfl, e1, e2, rfl⟩
    · cases h
  · cases h
theorem pickD_get {sel tst : Bool} : ∀ {ds rs : List D} {i : Nat} {d : D}, pickD sel tst ds = some rs → ds[i]? = some d → ∃ a b c, d = .tup [a, b] ∧ (if tst then b else a) = .bl c
  | [], _, _, _, _, e => by simp at e
  | d :: r, rs, 0, d', h, e => by
    obtain ⟨a, b, c, rs', h1, h2, _, _⟩ := pickD_cons h
    simp at e
    subst e
    exact ⟨a, b, c, h1, h2⟩
  | d :: r, rs, i + 1, d', h, e => by
    obtain ⟨_, _, _, rs', _, _, h3, _⟩ := pickD_cons h
    exact pickD_get (i := i) h3 (by simpa using e)
theorem pickD_snoc {sel tst : Bool} {a b : D} {c : Bool} (hc : (if tst then b else a) = .bl c) : ∀ {ds rs : List D}, pickD sel tst ds = some rs → pickD sel tst (ds ++ [.tup [a, b]]) = some (if c = true then rs ++ [if sel then b else a] else rs)
  | [], rs, h => by
    have h : some ([] : List D) = some rs := h
    cases h
    show (match (if tst then b else a), pickD sel tst [] with
    | .bl c, some rs => some (if c = true then (if sel then b else a) :: rs else rs)
    | _, _ => none) = _
    rw [hc]
    rfl
  | d :: r, rs, h => by
    obtain ⟨a', b', c', rs', rfl, h2, h3, rfl⟩ := pickD_cons h
    have ih := pickD_snoc (sel := sel) hc h3
    show (match (if tst then b' else a'), pickD sel tst (r ++ [.tup [a, b]]) with
    | .bl c, some rs => some (if c = true then (if sel then b' else a') :: rs else rs)
    | _, _ => none) = _
    rw [h2, ih]
    cases c <;> cases c' <;> rfl
/-- the context stands within an except suite, and what is handled has no context of its own -/
def HotC (X : Cx) : Prop := ∃ a oe vs, X.A.handled = some (.ref a) ∧ (a, oe) ∈ X.pn ∧ oe.data = .fields vs ∧ vs[2]? = some .none
theorem HotC.at {X : Cx} (h : HotC X) : ∃ a, ∀ {pins : List (Addr × Obj)} {σ : L2.St} {H : Hp} {s : Shared}, Inv X pins σ H s → HotX.HotAt X.A a s.heap := by
  obtain ⟨a, oe, vs, h1, h2, h3, h4⟩ := h
  exact ⟨a, fun I => ⟨h1, oe, vs, (I.pin _ (List.mem_append_left _ h2)).1, h3, h4⟩⟩
section
variable {X : Cx} {g : Gx} {W : WX}
theorem pick_vals {pins : List (Addr × Obj)} {σ : L2.St} {H : Hp} {s : Shared} {B : Addr → Prop} {ρ : List Addr} {ds rs : List D} {vs : List V} {its : List Value} {sel tst : Bool} (hk : X.K = g.K) (I : Inv X pins σ H s) (t : Reps g H B ρ ds vs) (v : Vals vs its) (h : pickD sel tst ds = some rs) :
    ∃ (c : Nat → Bool) (u : Nat → Value) (vs' : List V), (∀ i, i < its.toArray.size → ∃ p u0 u1, its.toArray[i]? = some (.ref p) ∧ IsTup s.heap p #[u0, u1] ∧ (if tst then u1 else u0) = .bool (c i) ∧ (if sel then u1 else u0) = u i) ∧
      Reps g H B ρ rs vs' ∧ Vals vs' (pkV c u its.toArray.size) := by
  have hl : ds.length = its.length := by rw [t.length, v.length]
  have key : ∀ i, ∃ (cu : Bool × Value), i < its.length → ∃ a b, ds[i]? = some (.tup [a, b]) ∧ (if tst then b else a) = .bl cu.1 ∧ (∃ p u0 u1, its[i]? = some (.ref p) ∧ IsTup s.heap p #[u0, u1] ∧ (if tst then u1 else u0) = .bool cu.1 ∧ (if sel then u1 else u0) = cu.2) ∧ ∃ x, Rep g H B ρ (if sel then b else a) x ∧ RelV x cu.2 := by
    intro i
    by_cases hi : i < its.length
    · obtain ⟨d, hd⟩ : ∃ d, ds[i]? = some d := ⟨ds[i], by simp [hl, hi]⟩
      obtain ⟨a, b, c, rfl, hc⟩ := pickD_get h hd
      obtain ⟨x, hx, rx⟩ := t.get hd
      obtain ⟨u, hu, ru⟩ := v.get hx
      obtain ⟨p, ws, rfl, hp, tt⟩ := rx.inv_tup
      cases ru
      obtain ⟨us, vu, ht, _⟩ := I.tuple (by rw [hk]; exact hp)
      cases tt with
      | cons r0 tt =>
        rename_i x0 _
        cases tt with
        | cons r1 tt =>
          rename_i x1 _
          cases tt
          cases vu with
          | cons q0 vu =>
            rename_i u0 _
            cases vu with
            | cons q1 vu =>
              rename_i u1 _
              cases vu
              refine ⟨(c, if sel then u1 else u0), fun _ => ⟨a, b, hd, hc, ⟨p, u0, u1, hu, ht, ?_, rfl⟩, ?_⟩⟩
              · cases tst with
                | true =>
                  have hc : b = .bl c := hc
                  subst hc
                  cases r1
                  exact q1
                | false =>
                  have hc : a = .bl c := hc
                  subst hc
                  cases r0
                  exact q0
              · cases sel with
                | true => exact ⟨_, r1, q1⟩
                | false => exact ⟨_, r0, q0⟩
    · exact ⟨(false, .none), fun z => absurd z hi⟩
  obtain ⟨f, hf⟩ : ∃ f : Nat → Bool × Value, ∀ i, i < its.length → ∃ a b, ds[i]? = some (.tup [a, b]) ∧ (if tst then b else a) = .bl (f i).1 ∧ (∃ p u0 u1, its[i]? = some (.ref p) ∧ IsTup s.heap p #[u0, u1] ∧ (if tst then u1 else u0) = .bool (f i).1 ∧ (if sel then u1 else u0) = (f i).2) ∧ ∃ x, Rep g H B ρ (if sel then b else a) x ∧ RelV x (f i).2 :=
    ⟨fun i => Classical.choose (key i), fun i => Classical.choose_spec (key i)⟩
  have go : ∀ i, i ≤ its.length → ∃ rs' vs', pickD sel tst (ds.take i) = some rs' ∧ Reps g H B ρ rs' vs' ∧ Vals vs' (pkV (fun i => (f i).1) (fun i => (f i).2) i) := by
    intro i
    induction i with
    | zero => exact fun _ => ⟨[], [], rfl, .nil, .nil⟩
    | succ i ih =>
      intro hi
      obtain ⟨rs', vs', h1, h2, h3⟩ := ih (Nat.le_of_succ_le hi)
      obtain ⟨a, b, hd, hc, _, x, rx, qx⟩ := hf i hi
      have e : ds.take (i + 1) = ds.take i ++ [.tup [a, b]] := by rw [List.take_add_one, hd]; rfl
      rw [e]
      have q := pickD_snoc (sel := sel) hc h1
      cases hci : (f i).1 with
      | true =>
        rw [hci, if_pos rfl] at q
        refine ⟨_, _, q, h2.append (.one rx), ?_⟩
        show Vals _ (if (f i).1 = true then _ else _)
        rw [if_pos hci]
        exact h3.append (.cons qx .nil)
      | false =>
        rw [hci, if_neg Bool.false_ne_true] at q
        refine ⟨_, _, q, h2, ?_⟩
        show Vals _ (if (f i).1 = true then _ else _)
        rw [hci, if_neg Bool.false_ne_true]
        exact h3
  obtain ⟨rs', vs', h1, h2, h3⟩ := go its.length (Nat.le_refl _)
  rw [List.take_of_length_le (by rw [hl]; exact Nat.le_refl _), h] at h1
  cases h1
  refine ⟨_, _, vs', fun i hi => ?_, h2, by simpa using h3⟩
  obtain ⟨_, _, _, _, ⟨p, u0, u1, e1, e2, e3, e4⟩, _⟩ := hf i (by simpa using hi)
  exact ⟨p, u0, u1, by simpa using e1, e2, e3, e4⟩
theorem se_pick {x0 x1 y z : Str} {iter : Expr} {p0 p1 p2 p3 pt pos : Pos} {kk : Nat} {scope : Scope} (sel tst : Bool) {m : Env → M D} (hk : X.K = g.K) (hot : HotC X) (he : PE X iter (tE g W m))
    (hfree : ∀ y ∈ scope.names, y.2 ≠ .free) (hcell : ∀ y ∈ scope.names, y.2 ≠ .cell) (hkind : scope.kind = .function) (hnames : ∀ y ∈ scope.names, y.2 = .local → scope.names.lookup y.1 = some .local)
    (h0 : scope.names.lookup x0 = some .local) (h1 : scope.names.lookup x1 = some .local) (hne : x0 ≠ x1) (hy : y = if sel then x1 else x0) (hz : z = if tst then x1 else x0)
    (hdy : (y == ("__debug__" : Str)) = false) (hdz : (z == ("__debug__" : Str)) = false) (hs : ∀ x, foldedSetIterable iter X.env x = pure x) :
    PE X (.ListComp (.Name y p2) [⟨.Tuple [.Name x0 p0, .Name x1 p1] kk pt, iter, [.Name z p3], 0⟩] scope pos) (tE g W (mPick sel tst m)) := by
  refine ⟨fun pins s σ H Q I h => ?_⟩
  obtain ⟨x, hx⟩ := hot.at
  have h := push (k := fun ds _ => match ds with
    | [d] => fPick sel tst d
    | _ => noM) (vs := []) (h.cg0 fun env => rfl)
  refine ListComp_goes (closureFor_none hfree) hcell hkind hnames (thn (he.run pins s σ H _ I h) fun u s1 ⟨v, H1, I1, r1, q⟩ => ?_) hs
  obtain ⟨nn, F, ρ, env, S, ds, n, o, r, q⟩ := q
  have r : Reps g H1 (Bar F ρ S) ρ ds [v] := r
  cases r with
  | cons rd rr =>
    cases rr
    rename_i d
    have q : Fin rD g F W nn ρ H1 S Q (fPick sel tst d S) := q
    have fin : ∀ (p : Addr) (vs : List V) (ds rs : List D), v = .ref p → H1 p = some (.lst vs) → Reps g H1 (Bar F ρ S) ρ ds vs → pickD sel tst ds = some rs → Fin rD g F W nn ρ H1 S Q (.ok (.lst rs) S) →
        wpAny (model X.prog X.w) X.A (pyIter u) (LcGoes X.prog X.w X.A X.xe X.env scope [] (.Tuple [.Name x0 p0, .Name x1 p1] kk pt) [.Name z p3] (.Name y p2) none (EP X pins σ Q)) X.xe s1 := by
      intro p vs ds rs ev hp t hr q
      subst ev
      cases r1
      obtain ⟨its, vi, ⟨ol, nl, e1, e2, e3, e4⟩, hz'⟩ := I1.list (SqL.of hp)
      obtain ⟨c, u, vs', k1, k2, k3⟩ := pick_vals hk I1 t vi hr
      have hlen : its.length ≤ sizeLine := by rw [← vi.length]; exact hz'
      refine pick_goes (c := c) (u := u) (sel := sel) (tst := tst) hkind h0 h1 hne hy hz hdy hdz (hx I1) ⟨ol, e1, e2, nl, e4⟩ (by simpa using hlen) k1 fun D h' tk hD ⟨nq, hpl⟩ hkeep => ?_
      have nD : H1 D = none := I1.hok.fresh hD
      have I2 := I1.laid (a := D) (o := .lst vs') (t' := tk) hkeep hD ⟨?_, _, nq, k3, hpl⟩
      · exact ⟨.ref D, _, I2, rfl, fin_lst o nD k2 q⟩
      · rw [k3.length]
        exact Nat.le_trans (pkV_length _ _ _) (by simpa using hlen)
    cases d with
    | lst ds =>
      obtain ⟨p, vs, rfl, hp, nb, t⟩ := rd.inv_lst
      dsimp only [fPick] at q
      cases e : pickD sel tst ds with
      | none =>
        rw [e] at q
        exact q.elim
      | some rs =>
        rw [e] at q
        exact fin p vs _ rs rfl hp t e q
    | ref i =>
      dsimp only [fPick] at q
      cases e : S[i]? with
      | none =>
        rw [e] at q
        exact q.elim
      | some od =>
        rw [e] at q
        cases od with
        | none => exact q.elim
        | some ds' =>
          obtain ⟨_, p, vs, h1', h2', h3', _⟩ := o.sto i ds' e
          cases rd with
          | ref hr =>
            rw [h1'] at hr
            cases hr
            dsimp only at q
            cases e2 : pickD sel tst ds' with
            | none =>
              rw [e2] at q
              exact q.elim
            | some rs =>
              rw [e2] at q
              exact fin p vs _ rs rfl h2' h3' e2 q
    | _ => exact q.elim
end
end Mir
set_option Elab.async false
set_option linter.all false
set_option maxRecDepth 100000
set_option maxHeartbeats 4000000
namespace Mir
open PySem PySem.Spec PyProof.Rows L2 RZ
/-! ### what class an error is of -/
structure SubOk (K : PySem.W.Frag) (mg : Str → Option Value) (sub : Str → Str → Option Bool) : Prop where
  ex : ∀ x y b, sub x y = some b → ∃ C D, mg x = some (.ref C) ∧ mg y = some (.ref D) ∧ PySem.W.kitOne K (.ref C) (.ref D) = some b ∧ PySem.W.exmOne K (.ref C) (.ref D) = some b ∧ ExcC K C
def fIsE (a : Addr) (sub : Str → Str → Option Bool) (ec : Str) : List D → M D
  | [.raw p, .glo c] => if p = a then match sub ec c with
    | some b => ret (.bl b)
    | none => noM
    else noM
  | _ => noM
section
variable {X : Cx} {g : Gx} {W : WX}
theorem bf_isE {a C : Addr} {ec : Str} {oe : Obj} {pn : List (Addr × Obj)} {sub : Str → Str → Option Bool} (hk : X.K = g.K) (hmg : X.mg = g.mg) (T : SubOk X.K X.mg sub) (hc : X.mg ec = some (.ref C)) (hz : L2N.Zn (.ref C) none oe) (hf : ∃ vs, oe.data = .fields vs) :
    BuiltF (X.suite a ((a, oe) :: pn)) g W (.builtin "isinstance") (fIsE a sub ec) := by
  by_cases he : ExcC X.K C
  · refine ⟨_, call_isE (X := X) (pn := pn) (a := a) he ⟨hz.1, hz.2.1⟩ hf, fun ds vs F ρ H S nn Q ok r h => ?_⟩
    unfold fIsE at h
    split at h
    · rename_i p c
      cases r with
      | cons r1 r2 =>
        cases r2 with
        | cons r2 r3 =>
          cases r3
          obtain ⟨hp, h⟩ := ite_ret (c := p = a) h
          cases hb : sub ec c with
          | none =>
            rw [hb] at h
            exact h.elim
          | some b =>
            rw [hb] at h
            obtain ⟨C1, D1, e1, e2, e3, _, _⟩ := T.ex _ _ _ hb
            have e1 : X.mg ec = some (.ref C1) := e1
            rw [hc] at e1
            cases e1
            cases r1
            cases r2 with
            | glo q =>
              rw [hmg] at e2
              rw [e2] at q
              cases q
              rw [hp]
              exact ⟨_, _, b, rfl, fun u z => z, e3, fin_same ok (.bl b) h⟩
    · exact h.elim
  · refine ⟨fun _ _ _ => False, fun pins s σ H xs us Q I r h => h.elim, fun ds vs F ρ H S nn Q ok r h => ?_⟩
    unfold fIsE at h
    split at h
    · rename_i p c
      obtain ⟨hp, h⟩ := ite_ret (c := p = a) h
      cases hb : sub ec c with
      | none =>
        rw [hb] at h
        exact h.elim
      | some b =>
        obtain ⟨C1, D1, e1, _, _, _, e5⟩ := T.ex _ _ _ hb
        have e1 : X.mg ec = some (.ref C1) := e1
        rw [hc] at e1
        cases e1
        exact he e5
    · exact h.elim
/-! ### methods of a text -/
def chkS : D → M D
  | .str x => ret (.str x)
  | _ => noM
def mMeth (f : List D → M D) (mo : Env → M D) (ma : Env → M (List D)) (env : Env) : M D := bnd (mo env) fun d => bnd (chkS d) fun _ => bnd (ma env) fun ds => f (d :: ds)
structure StrM (X : Cx) (g : Gx) (W : WX) (id : String) (f : List D → M D) : Prop where
  ex : ∃ r, MtR X id r ∧ ∀ (d : D) (v : V) (ds : List D) (vs : List V) (F ρ : List Addr) (H : Hp) (S : Sto) (nn : Nat) (Q : VK), Ok g F ρ H S → Rep g H (Bar F ρ S) ρ d v → Reps g H (Bar F ρ S) ρ ds vs → Fin rD g F W nn ρ H S Q (f (d :: ds) S) → r v vs H Q
theorem se_meth {name : Str} {o e : Expr} {es : List Expr} {apos cpos : Pos} {id : String} {f : List D → M D} {mo : Env → M D} {ma : Env → M (List D)} (pa : PlainAttrs "str") (slot : Slot "str" name id) (hty : typeOf (.builtin id) = pure (.type "method_descriptor")) (hm : StrM X g W id f) (ho : PE X o (tE g W mo)) (ha : PA X (e :: es) (tL g W ma))
    (hbase : attributeBase o name X.env (eval o X.env) = eval o X.env := by rfl)
    (hfew : ((backTo cpos (starEach (e :: es) X.env)).all (fun x => !x.1) && (backToKw cpos (keywordEach [] X.env)).all (fun x => x.1.isSome) && decide ((e :: es).length + ([] : List Keyword).length + (if ([] : List Keyword).isEmpty then 0 else 1) < 30)) = true := by rfl)
    (hline : (apos.endLine == cpos.line) = true := by rfl) (hs : starEach (e :: es) X.env = (false, eval e X.env) :: starEach es X.env := by rfl) (hplain : (backTo cpos (starEach es X.env)).any (·.1) = false := by rfl) :
    PE X (.Call (.Attribute o name apos) (e :: es) [] cpos) (tE g W (mMeth f mo ma)) := by
  obtain ⟨r, h1, h2⟩ := hm.ex
  refine wkE (pe_bm pa slot hty h1 ho ha hbase hfew hline hs hplain) fun σ H Q h => ?_
  have h := push (k := fun ds env => match ds with
    | [d] => bnd (chkS d) fun _ => bnd (ma env) fun es => f (d :: es)
    | _ => noM) (vs := []) (h.cg0 fun env => rfl)
  refine tH.mono (fun v H1 q => ?_) h
  obtain ⟨nn, F, ρ, env, S, ds, n, ok, rr, q⟩ := q
  have rr : Reps g H1 (Bar F ρ S) ρ ds [v] := rr
  cases rr with
  | cons r1 r2 =>
    cases r2
    rename_i d
    have q : Fin rD g F W nn ρ H1 S Q (bnd (chkS d) (fun _ => bnd (ma env) fun es => f (d :: es)) S) := q
    cases d with
    | str x =>
      cases r1
      refine ⟨rfl, ?_⟩
      have q2 : tL g W ma σ H1 fun us H2 => tH rD g W (fun ds _ => f ds) ([.str x] ++ us) σ H2 Q := pushL (k := fun ds _ => f ds) (vs := [.str x]) ⟨nn, F, ρ, env, S, [.str x], n, ok, .one (.str x), q⟩
      refine tH.mono (fun us H2 q => ?_) q2
      obtain ⟨nn, F, ρ, env, S, ds, n, ok, rr, q⟩ := q
      have rr : Reps g H2 (Bar F ρ S) ρ ds (.str x :: us) := rr
      cases rr with
      | cons r1 r2 => exact h2 _ _ _ _ _ _ _ _ _ _ ok r1 r2 q
    | _ => exact q.elim
def strsD : List D → Option (List Str)
  | [] => some []
  | .str x :: r => match strsD r with
    | some xs => some (x :: xs)
    | none => none
  | _ => none
def okJ (a : Str) (ys : List Str) : Bool := Nat.ble ((ys.map (·.length)).sum + ys.length * a.length) 16777216
def joinD (a : Str) (ds : List D) : M D := match strsD ds with
  | some ys => if okJ a ys = true then ret (.str (Txt.join a ys)) else noM
  | none => noM
def fJoin : List D → M D
  | [.str a, .lst ds] => joinD a ds
  | [.str a, .tup ds] => joinD a ds
  | _ => noM
theorem strs_vals {H : Hp} {B : Addr → Prop} {ρ : List Addr} : ∀ {ds : List D} {vs : List V} {ys : List Str}, Reps g H B ρ ds vs → strsD ds = some ys → vs = ys.map V.str
  | _, _, ys, .nil, h => by
    cases h
    rfl
  | d :: ds, v :: vs, ys, .cons r t, h => by
    cases d with
    | str x =>
      unfold strsD at h
      split at h
      · rename_i xs e
        cases h
        cases r
        rw [strs_vals t e]
        rfl
      · cases h
    | _ => cases h
theorem sm_join (hk : X.K = g.K) : StrM X g W "str.join" fJoin := ⟨_, mt_join, fun d v ds vs F ρ H S nn Q ok r t h => by
  have fin : ∀ (a : Str) (p : Addr) (ds : List D) (vs : List V), Reps g H (Bar F ρ S) ρ ds vs → (SqL X.K H p vs ∨ SqT X.K H p vs) → Fin rD g F W nn ρ H S Q (joinD a ds S) → ∃ a' p', ∃ ys : List Str, V.str a = .str a' ∧ [V.ref p] = [.ref p'] ∧ (SqL X.K H p' (ys.map V.str) ∨ SqT X.K H p' (ys.map V.str)) ∧
      (ys.map (·.length)).sum + ys.length * a'.length ≤ 16777216 ∧ Q (.str (Txt.join a' ys)) H := fun a p ds vs t hp h => by
    unfold joinD at h
    cases e : strsD ds with
    | none =>
      rw [e] at h
      exact h.elim
    | some ys =>
      rw [e] at h
      obtain ⟨hz, h⟩ := ite_ret (c := okJ a ys = true) h
      have ev := strs_vals t e
      subst ev
      exact ⟨a, p, ys, rfl, rfl, hp, Nat.le_of_ble_eq_true hz, fin_same ok (.str _) h⟩
  cases d with
  | str a =>
    cases r
    cases t with
    | nil => exact h.elim
    | cons r1 t =>
      rename_i d1 v1 ds1 vs1
      cases t with
      | cons _ _ => cases d1 <;> exact h.elim
      | nil =>
        cases d1 with
        | lst es =>
          obtain ⟨p, vs, rfl, hp, nb, t⟩ := r1.inv_lst
          exact fin a p _ _ t (.inl (SqL.of hp)) h
        | tup es =>
          obtain ⟨p, vs, rfl, hp, t⟩ := r1.inv_tup
          exact fin a p _ _ t (.inr (by rw [hk]; exact hp)) h
        | _ => exact h.elim
  | _ => exact h.elim⟩
end
end Mir
set_option Elab.async false
set_option linter.all false
set_option maxRecDepth 100000
set_option maxHeartbeats 4000000
namespace Mir
open PySem PySem.Spec PyProof.Rows L2 RZ LamX
/-! ### a lambda without parameters, handed to a def that calls it at once -/
/-- the lambda's body, its errors told with their context -/
abbrev lamN (X : Cx) (A : Around) (outer : List PySem.Env) (s : Shared) (H : Hp) (E : XK) (scope : Scope) (f c' : Addr) : Cx := (lamCx X A outer s H E scope f c').wish fun e s' =>
  wpAny (model X.prog X.w) (A.deeper (lamEnv X scope s.heap.objs.size f c')) (leaving (lamEnv X scope s.heap.objs.size f c') e) (fun _ s2 => L2N.CX X.prog X.w outer H s E e s2) (fun e2 s2 => L2N.CX X.prog X.w outer H s E e2 s2) s'
theorem tkL {X : Cx} {A : Around} {outer : List PySem.Env} {s : Shared} {H : Hp} {E : XK} {scope : Scope} {f c' : Addr} : L2N.Takes (lamN X A outer s H E scope f c') (fun cls d _ H => E cls d H) := L2N.takes_of rfl rfl rfl rfl
/-- the context of the def that got it -/
abbrev getC (X : Cx) (Ng : List Str) (qg : Str) (sg : Scope) (gA : Addr) (cdg : Value) (s : Shared) (H : Hp) (Eg : XK) : Cx := cxOf (L2N.CX X.prog X.w) X.prog X.w X.K X.mg X.base Ng qg sg gA cdg X.A X.stack s H Eg
section
variable {X : Cx} {pins : List (Addr × Obj)} {σ : L2.St} {H : Hp} {s : Shared}
theorem pe_thunk {Eg : XK} {Ng : List Str} {qg : Str} {sg : Scope} {gA f c' : Addr} {cdg pm ctv : Value} {params : Arguments} {body : Expr} {scope : Scope} {k i : Nat} {a : Str} {pn : List (Addr × Obj)} {xe : Value → Shared → Prop} {W : WX} {t : XK → TE} {p1 p2 : Pos}
    (I : Inv X pins σ H s) (L : LamS X.env.scope scope)
    (hf : s.heap.get? f = some (PySem.W.kla_obj "<lambda>" (X.env.qual ++ "<lambda>") params body scope (cloFrom X.env.cells scope.names []) pm c' ctv)) (hfn : H f = none) (hfr : f ∉ frs X.stack)
    (hbind : bindArgs (PySem.W.kla_fn "<lambda>" (X.env.qual ++ "<lambda>") params body scope (cloFrom X.env.cells scope.names []) pm (.ref c') ctv) ⟨[], []⟩ = pure [])
    (tk : L2N.Takes ((getC X Ng qg sg gA cdg s H Eg).tr pn xe) W) (hr : Room (k + 1) (X.A.deeper (envOfC qg sg s.heap.objs.size gA cdg)))
    (hbody : ∀ (A : Around) (outer : List PySem.Env) (s : Shared) (H : Hp) (E : XK), Room k (A.deeper (lamEnv X scope s.heap.objs.size f c')) → PE (lamN X A outer s H E scope f c') body (t E))
    (hN : Ng[i]? = some a) (hv : Vis sg a) (hd : (a == ("__debug__" : Str)) = false) (hcd : (a == ("__classdict__" : Str)) = false) :
    PE ((getC X Ng qg sg gA cdg s H Eg).tr pn xe) (.Call (.Name a p1) [] [] p2) fun σZ HZ Q => σZ[i]? = some (some (.ref f)) ∧ HZ c' = some (CodeO c' (X.env.qual ++ "<lambda>")) ∧ t (fun cls d H' => W cls d σZ H') σ HZ Q := by
  constructor
  rintro pinsZ sZ σZ HZ Q IZ ⟨z1, z2, z3⟩
  refine wpAny_Call_Name_kw (thn ((pe_var (pos := p1) (i := i) hN hv hd hcd).run pinsZ sZ σZ HZ (fun v H1 => v = .ref f ∧ H1 = HZ) IZ ⟨.ref f, z1, rfl, rfl⟩) fun u s1 h1 => ?_)
  obtain ⟨v, H1, J1, r1, ev, eH⟩ := h1
  subst ev
  subst eH
  cases (show u = Value.ref f from r1)
  have there := J1.base.keep f _ hf hfn hfr fun z => nomatch (show f ∈ ([] : List Addr) from z)
  refine PySem.W.callWith_F0 ⟨_, _, _, _, there⟩ ?_
  obtain ⟨⟨oc, vs, tt, y1, y2, y3⟩, _⟩ := J1.hok c' _ z2
  have run : codeAny (model X.prog X.w) (X.A.deeper (envOfC qg sg s.heap.objs.size gA cdg)) (.call (.ref f) ⟨[], []⟩)
      (CR (L2N.CX X.prog X.w) (envOfC qg sg s.heap.objs.size gA cdg :: X.stack) X.prog X.w H1 s1 Q fun cls d H' => W cls d σZ H') s1 := by
    refine PySem.W.kla_callFunE hr.depth there rfl L.co L.gen rfl ⟨c', oc, vs, tt, rfl, y1, y2, y3⟩ ?_
    rw [hbind]
    refine wpAny_pure (wpAny_newFunctionEnv (fun y hy => (L.own y hy).2) (fun y hy => absurd hy (by simp)) (fun h2 hns hsb => ?_) L.kind)
    refine ⟨J1.nolimit.fresh _ hsb, ?_⟩
    have kp : ∀ b o, s1.heap.get? b = some o → h2.get? b = some o := fun b o e =>
      hsb.extBut b o (Nat.ne_of_lt (Heap.lt_size e)) (Heap.get?_push_of_some _ e)
    have J2 := lam_start2 (E := fun cls d H' => W cls d σZ H') (f := f) (c' := c') (tk := s1.toks + ([] : List (Str × Value)).length) I L J1.env0 hr.hd J1.base hns kp
    refine PySem.W.kla_codeExpr (wpAny_mono ((hbody _ _ s1 H1 _ (hr.deeper _)).run [] _ _ H1 Q (J2.wish _) z3) (fun v s' hq => ?_) fun e s' hq => hq)
    obtain ⟨x, H', J', rv, q⟩ := hq
    exact ⟨x, H', J'.os, J'.bare, J'.base, J'.hok, rv, q⟩
  refine wpAny_call (codeAny_mono run fun r s' hq => ?_)
  match r, hq with
  | .error e, hq => exact tk e s' (L2N.XE.of_call J1 (fun cls d H' h => h) hq)
  | .ok (.ret u), hq => exact J1.after hq
  | .ok .next, hq => exact hq.elim
  | .ok .brk, hq => exact hq.elim
  | .ok .cont, hq => exact hq.elim
end
/-- a def x(a) that is handed a lambda: its mirror makes F of the lambda's -/
structure ThkOk (P : Program) (w : World) (K : PySem.W.Frag) (mg : Str → Option Value) (base : Heap) (g : Gx) (x : Str) (F : M D → M D) : Prop where
  ex : ∃ (Ng : List Str) (a : Str) (st : Stmt) (fa : Addr) (fd : FuncData), mg x = some (.ref fa) ∧ FunD K x x (defArgs st) (defBody st) (defScope st) [] [] fa fd ∧ FnScope Ng [a] (defScope st) ∧ Ng[0]? = some a ∧ Vis (defScope st) a ∧ (a == ("__debug__" : Str)) = false ∧ (a == ("__classdict__" : Str)) = false ∧
    L2.Binds K fd [a] [] ∧
    ∀ (cdv : Value) (A : Around) (outer : List PySem.Env) (s : Shared) (H : Hp) (Q : VK) (E : XK) (f c' : Addr) (q : Str) (th : M D) (tl : XK → Hp → VK → Prop),
      (∀ (W : WX) (pn : List (Addr × Obj)) (xe : Value → Shared → Prop) (p1 p2 : Pos), L2N.Takes ((cxOf (L2N.CX P w) P w K mg base Ng x (defScope st) fa cdv A outer s H E).tr pn xe) W →
        PE ((cxOf (L2N.CX P w) P w K mg base Ng x (defScope st) fa cdv A outer s H E).tr pn xe) (.Call (.Name a p1) [] [] p2) fun σZ HZ Q => σZ[0]? = some (some (.ref f)) ∧ HZ c' = some (CodeO c' q) ∧ tl (fun cls d H' => W cls d σZ H') HZ Q) →
      H c' = some (CodeO c' q) →
      (∃ (nn : Nat) (Fr ρ : List Addr) (S : Sto), Fin rD g Fr (fun cls d _ H' => E cls d H') nn ρ H S Q (F th S) ∧
        (∀ (Ex : XK) (Q' : VK), Fin rD g Fr (fun c d _ H' => Ex c d H') nn ρ H S Q' (th S) → tl Ex H Q')) →
      ∃ t, PSs (cxOf (L2N.CX P w) P w K mg base Ng x (defScope st) fa cdv A outer s H E) (defBody st) t ∧ t { nx := fun _ H' => Q .non H', rt := Q } (L2.start Ng [.ref f]) H
def mThk (F : M D → M D) (m : Env → M D) (env : Env) : M D := F (m env)
/-- where the code object of a def that makes lambdas keeps its table -/
def LamDef (X : Cx) (T : List (Addr × Str)) : Prop := ∃ c P, X.env.code = .ref c ∧ TabB X.base X.mg c P ∧ (P, X.env.qual ++ "<lambda>") ∈ T ∧ ∀ p ∈ T, p.1 = P → p.2 = X.env.qual ++ "<lambda>"
section
variable {X : Cx} {g : Gx} {W : WX}
theorem ext_extN {F ρ : List Addr} {H H' : Hp} {S : Sto} (o : Ok g F ρ H S) (e : ExtN H H') (t : Tabs g.T H') : Ext F ρ H S ρ H' S ∧ Ok g F ρ H' S := by
  have x : Ext F ρ H S ρ H' S := ⟨fun p u h n _ => e p u h n, fun p ⟨xs, h⟩ => ⟨xs, e p _ h fun _ z => nomatch z⟩, fun p l => .inl l, ⟨[], by simp⟩⟩
  refine ⟨x, o.len, o.nd, fun p hp => x.there p (o.trk p hp), fun i ds h => ?_, fun p hp => ?_, t⟩
  · obtain ⟨h0, q, vs, h1, h2, h3, h4⟩ := o.sto i ds h
    exact ⟨h0, q, vs, h1, e q _ h2 (fun _ z => nomatch z), h3.car (x.car o), h4⟩
  · exact x.there p (o.fr p hp)
theorem se_thk {x : Str} {F : M D → M D} {k : Nat} {params : Arguments} {body : Expr} {scope : Scope} {p lpos pos : Pos} {m : Env → M D} (TH : ThkOk X.prog X.w X.K X.mg X.base g x F) (hg : Gl X x) (LD : LamDef X g.T) (tk : L2N.Takes X W) (hr : Room (k + 2) X.A) (L : LamS X.env.scope scope) (hdef : defaultsOf params X.env = ([], []))
    (hbind : ∀ (q : Str) (cl : List (Str × Addr)) (pm cv ctv : Value), bindArgs (PySem.W.kla_fn "<lambda>" q params body scope cl pm cv ctv) ⟨[], []⟩ = pure [])
    (hbody : ∀ (A : Around) (outer : List PySem.Env) (s : Shared) (H : Hp) (E : XK) (f c' : Addr), Room k (A.deeper (lamEnv X scope s.heap.objs.size f c')) → PE (lamN X A outer s H E scope f c') body (tE g (fun cls d _ H => E cls d H) m))
    (hdb : (x == ("__debug__" : Str)) = false := by decide) : PE X (.Call (.Name x p) [.Lambda params body scope lpos] [] pos) (tE g W (mThk F m)) := by
  obtain ⟨Ng, a, st, fa, fd, gm, Fd, Sc, hN0, hva, hd1, hd2, hb, hG⟩ := TH.ex
  obtain ⟨c, P, hcode, TB, hmT, hu⟩ := LD
  obtain ⟨oc, od, dV, kV, doc, pm, an, cdv, ct, osl, rfl, lk, hcd, _, _⟩ := Fd.ex
  constructor
  rintro pins s σ H Q I ⟨nn, Fr, ρ, env, S, ds, n, o, r, h⟩
  cases r
  have h : Fin rD g Fr W nn ρ H S Q (F (m env) S) := h
  refine wpAny_Call_Name_kw (ld_glob I hg gm ?_ hdb)
  refine PySem.W.callWith_K (h₀ := X.base) I.ok.mod.kin Fd.kp ?_ (by rfl) (by rfl)
  show wpAny _ _ (spliced ((false, eval (.Lambda params body scope lpos) X.env) :: backTo pos (starEach [] X.env))) _ _ s
  refine Calls.spliced_cons (lam_make2 I TB hcode hmT hu o.tab hdef (L.has I.ok) fun f c' pm' ctv H1 s' I1 eN T1 hf hfn hfr hco => ?_)
  refine Calls.spliced_nil ⟨I1.kIn, ?_⟩
  obtain ⟨x1, o1⟩ := ext_extN o eN T1
  have n1 := n.car (x1.car o)
  have h := Fin.ext x1 h
  have hlen : σ.length = nn := n.len2
  have run : codeAny (model X.prog X.w) X.A (.call (.ref fa) ⟨[.ref f], []⟩) (CR (L2N.CX X.prog X.w) X.stack X.prog X.w H1 s' Q fun cls d H' => W cls d σ H') s' := by
    refine run_ofS (N := Ng) (ps := [a]) (us := [.ref f]) (vs := [.ref f]) lk hcd Sc hr I1.env0 (hb s' [.ref f] I1.kIn rfl) (.cons rfl .nil) rfl fun hr' => ?_
    refine hG cdv X.A X.stack s' H1 Q (fun cls d H' => W cls d σ H') f c' (X.env.qual ++ "<lambda>") (m env) (fun E H' Q' => tE g (fun cls d _ H => E cls d H) m σ H' Q') (fun W' pn xe p1 p2 tk' => ?_) hco ⟨nn, Fr, ρ, S, ?_, fun W' Q' h' => ?_⟩
    · exact pe_thunk (i := 0) (t := fun E => tE g (fun cls d _ H => E cls d H) m) I1 L hf hfn hfr (hbind _ _ _ _ _) tk' hr' (fun A outer s H E hr2 => hbody A outer s H E f c' hr2) hN0 hva hd1 hd2
    · cases e : F (m env) S with
      | no =>
        rw [e] at h
        exact h
      | ok d S1 =>
        rw [e] at h
        exact h
      | ex e1 S1 =>
        rw [e] at h
        exact fun ρ' H' σ' c d hl x' o' z => h ρ' H' σ c d hlen x' o' z
    · exact ⟨nn, Fr, ρ, env, S, [], n1, o1, .nil, h'⟩
  refine wpAny_call (codeAny_mono run fun r s2 hq => ?_)
  match r, hq with
  | .error e, hq => exact tk e s2 (L2N.XE.of_call I1 (fun cls d H' h => h) hq)
  | .ok (.ret u), hq => exact I1.after hq
  | .ok .next, hq => exact hq.elim
  | .ok .brk, hq => exact hq.elim
  | .ok .cont, hq => exact hq.elim
end
/-! ### try: a() except C as e: suite -/
/-- what the suite makes of an error, e at slot i -/
def suiM (nl i : Nat) (ms : Addr → Str → MS) (a : Addr) (ec : Str) : M D := fun S => match ms a ec ((List.replicate nl none).set i (some (.raw a))) S with
  | .ok (.rt d, _) S' => .ok d S'
  | _ => .no
def rstM (nl : Nat) (m : MS) : M D := fun S => match m (List.replicate nl none) S with
  | .ok (.rt d, _) S' => .ok d S'
  | _ => .no
def tryM (catch_ : Str → Option Bool) (word : Str → M D) (rest : M D) (th : M D) : M D := fun S => match th S with
  | .ok _ S1 => rest S1
  | .ex e S1 => match catch_ e.cls with
    | some true => word e.cls S1
    | _ => .no
  | .no => .no
section
variable {P : Program} {w : World} {K : PySem.W.Frag} {mg : Str → Option Value} {base : Heap} {g : Gx}
theorem env_none {H : Hp} {B : Addr → Prop} {ρ : List Addr} (σ : L2.St) : EnvOk g H B ρ σ.length (List.replicate σ.length none) σ := ⟨by simp, rfl, fun i d h => by
  rw [List.getElem?_replicate] at h
  split at h <;> cases h⟩
theorem thk_ok {x a cn en : Str} {st : Stmt} {Ng : List Str} {i : Nat} {sub : Str → Str → Option Bool} {b0 : Stmt} {suite rest : List Stmt} {p1 p2 p3 np pos pos' : Pos} {ms : Addr → Str → MS} {mr : MS} {word : Str → M D} {ca : Addr}
    (D0 : DefAt K mg x st) (Sc : FnScope Ng [a] (defScope st)) (hN0 : Ng[0]? = some a) (hva : Vis (defScope st) a) (hd1 : (a == ("__debug__" : Str)) = false) (hd2 : (a == ("__classdict__" : Str)) = false)
    (hbind : ∀ (kV doc pm : Value) (an : Option Addr) (cdv ct : Value) (us : List Value), us.length = [a].length → bindArgs (PySem.W.fnOf x x (defArgs st) (defBody st) (defScope st) .none kV doc pm an cdv ct) ⟨us, []⟩ = pure ([a].zip us))
    (hbody : defBody st = .Try [.Expr (.Call (.Name a p1) [] [] p2) p3] [.ExceptHandler (some (.Name cn np)) (some en) (b0 :: suite) pos'] [] [] pos :: rest)
    (hg : mg = g.mg) (hN : Ng.Nodup) (hi : Ng[i]? = some en) (hln : (defScope st).names.lookup en = some .local) (hi0 : 0 ≠ i)
    (hcn : (defScope st).names.lookup cn = some .globalImplicit) (hdc : (cn == ("__debug__" : Str)) = false) (hmc : mg cn = some (.ref ca)) (T : SubOk K mg sub)
    (hsu : ∀ (cdv : Value) (fa : Addr) (A : Around) (outer : List PySem.Env) (s : Shared) (H : Hp) (E : XK) (ec : Str) (C : Addr) (av : Addr) (oe : Obj) (pn : List (Addr × Obj)), mg ec = some (.ref C) → L2N.Zn (.ref C) none oe → (∃ vs, oe.data = .fields vs) →
      PSs ((cxOf (L2N.CX P w) P w K mg base Ng x (defScope st) fa cdv A outer s H E).suite av ((av, oe) :: pn)) (b0 :: suite) (tS g W0 (ms av ec)))
    (hw : ∀ av ec S, suiM Ng.length i ms av ec S = word ec S)
    (hre : ∀ (cdv : Value) (fa : Addr) (A : Around) (outer : List PySem.Env) (s : Shared) (H : Hp) (E : XK), PSs (cxOf (L2N.CX P w) P w K mg base Ng x (defScope st) fa cdv A outer s H E) rest (tS g (fun c d _ H => E c d H) mr)) :
    ThkOk P w K mg base g x (tryM (fun c => sub c cn) word (rstM Ng.length mr)) := by
  obtain ⟨fa, fd, gm, Fd⟩ := D0
  refine ⟨Ng, a, st, fa, fd, gm, Fd, Sc, hN0, hva, hd1, hd2, Fd.bindsN hbind, fun cdv A outer s H Q E f c' q th tl hact hco ⟨nn, Fr, ρ, S, hf, htl⟩ => ?_⟩
  generalize hZ : cxOf (L2N.CX P w) P w K mg base Ng x (defScope st) fa cdv A outer s H E = Z at hact ⊢
  have tryS : PS Z (.Try [.Expr (.Call (.Name a p1) [] [] p2) p3] [.ExceptHandler (some (.Name cn np)) (some en) (b0 :: suite) pos'] [] [] pos)
      (fun D σ H => (fun W => fun D σ H => σ[0]? = some (some (.ref f)) ∧ H c' = some (CodeO c' q) ∧ tl (fun cls d H' => W cls d σ H') H fun _ H' => D.nx σ H') (wAs Z.K (.ref ca) i (fun av cls d D σ H => ∃ ec C, mg ec = some (.ref C) ∧ cls = .ref C ∧ d = none ∧ tS g W0 (ms av ec) D σ H) W0 D) D σ H) := by
    have hact' := hact
    subst hZ
    refine L2N.ps_try_as (X := cxOf (L2N.CX P w) P w K mg base Ng x (defScope st) fa cdv A outer s H E) (Wout := W0) (tb := fun W => fun D σ H => σ[0]? = some (some (.ref f)) ∧ H c' = some (CodeO c' q) ∧ tl (fun cls d H' => W cls d σ H') H fun _ H' => D.nx σ H') (ts := fun av cls d D σ H => ∃ ec C, mg ec = some (.ref C) ∧ cls = .ref C ∧ d = none ∧ tS g W0 (ms av ec) D σ H) rfl rfl hN hi hln ⟨hcn, hdc, .inl hmc⟩ tk0 (fun W pn xe tk _ => ?_) (fun av oe cls d pn hz hf => ?_)
    · exact pss_one (ps_expr (hact' W pn xe p1 p2 tk))
    · constructor
      rintro pins s σ H D I ⟨ec, C, h1, rfl, rfl, h4⟩
      exact (hsu cdv fa A outer _ _ E ec C av oe pn h1 hz hf).run pins s σ H D I h4
  rw [hbody]
  have eK : Z.K = K := by
    subst hZ
    rfl
  have hrZ : PSs Z rest (tS g (fun c d _ H => E c d H) mr) := by
    subst hZ
    exact hre cdv fa A outer s H E
  refine ⟨_, pss_cons tryS hrZ, ?_⟩
  have l0 : (L2.start Ng [.ref f]).length = Ng.length := start_len (by
    have := congrArg List.length Sc.pre
    rw [List.length_take] at this
    simp at this
    show 1 ≤ _
    omega)
  refine ⟨rfl, hco, htl _ _ ?_⟩
  rw [eK]
  unfold tryM at hf
  cases e : th S with
  | no =>
    rw [e] at hf
    exact hf.elim
  | ok d S1 =>
    rw [e] at hf
    intro ρ' H' v x' o' r'
    have hf := Fin.ext x' hf
    dsimp only at hf
    unfold rstM at hf
    refine ⟨_, Fr, ρ', _, S1, [], env_none _, o', .nil, ?_⟩
    show Fin rFl g Fr _ _ ρ' H' S1 _ (mr (List.replicate _ none) S1)
    rw [l0]
    cases em : mr (List.replicate Ng.length none) S1 with
    | no =>
      rw [em] at hf
      exact hf.elim
    | ex e1 S2 =>
      rw [em] at hf
      exact hf.elim
    | ok z S2 =>
      rw [em] at hf
      obtain ⟨fl, env'⟩ := z
      cases fl with
      | rt d =>
        intro ρ2 H2 q2 x2 o2 r2
        cases q2 with
        | rt v => exact hf ρ2 H2 v x2 o2 r2
        | _ => exact r2.elim
      | _ => exact hf.elim
  | ex e1 S1 =>
    rw [e] at hf
    intro ρ' H' σ' cls d hl x' o' z
    obtain ⟨rfl, C, hC, rfl⟩ := z
    have hf := Fin.ext x' hf
    dsimp only at hf
    cases ec : sub e1.cls cn with
    | none =>
      rw [ec] at hf
      exact hf.elim
    | some b =>
      cases b with
      | false =>
        rw [ec] at hf
        exact hf.elim
      | true =>
        rw [ec] at hf
        have hf : Fin rD g Fr _ nn ρ' H' S1 Q (word e1.cls S1) := hf
        obtain ⟨C1, D1, f1, f2, _, f4, _⟩ := T.ex _ _ _ ec
        rw [hg] at f1
        rw [hC] at f1
        cases f1
        rw [hmc] at f2
        cases f2
        refine ⟨true, f4, fun _ av hav => ⟨e1.cls, C, by rw [hg]; exact hC, rfl, rfl, ?_⟩, fun z => by cases z⟩
        rw [← hw av] at hf
        unfold suiM at hf
        refine ⟨Ng.length, Fr, ρ', (List.replicate Ng.length none).set i (some (.raw av)), S1, [], ?_, o', .nil, ?_⟩
        · have e0 := env_none (g := g) (H := H') (B := Bar Fr ρ' S1) (ρ := ρ') (L2.start Ng [.ref f])
          rw [l0] at e0
          exact e0.set (.raw av) i
        · show Fin rFl g Fr _ _ ρ' H' S1 _ (ms av e1.cls _ S1)
          cases em : ms av e1.cls ((List.replicate Ng.length none).set i (some (.raw av))) S1 with
          | no =>
            rw [em] at hf
            exact hf.elim
          | ex e2 S2 =>
            rw [em] at hf
            exact hf.elim
          | ok z S2 =>
            rw [em] at hf
            obtain ⟨fl, env'⟩ := z
            cases fl with
            | rt d =>
              intro ρ2 H2 q2 x2 o2 r2
              cases q2 with
              | rt v => exact hf ρ2 H2 v x2 o2 r2
              | _ => exact r2.elim
            | _ => exact hf.elim
end
end Mir
set_option Elab.async false
set_option linter.all false
set_option maxRecDepth 100000
set_option maxHeartbeats 4000000
namespace Mir
open PySem PySem.Spec PyProof.Rows L2 RZ LamX
/-! ### a call of a name that holds a def -/
def tblOf : List (Str × (List D → M D)) → Str → Option (List D → M D)
  | [], _ => none
  | (y, f) :: r, x => if x = y then some f else tblOf r x
def mCallV (tbl : List (Str × (List D → M D))) (i : Nat) (ma : Env → M (List D)) (env : Env) : M D := match env[i]? with
  | some (some (.glo x)) => match tblOf tbl x with
    | some f => bnd (ma env) f
    | none => noM
  | _ => noM
inductive TblOk (P : Program) (w : World) (K : PySem.W.Frag) (mg : Str → Option Value) (base : Heap) (g : Gx) (k np : Nat) : List (Str × (List D → M D)) → Prop
  | nil : TblOk P w K mg base g k np []
  | cons {x : Str} {f : List D → M D} {r : List (Str × (List D → M D))} : DefOk P w K mg base g k x f np → TblOk P w K mg base g k np r → TblOk P w K mg base g k np ((x, f) :: r)
section
variable {P : Program} {w : World} {K : PySem.W.Frag} {mg : Str → Option Value} {base : Heap} {g : Gx} {k np : Nat}
theorem TblOk.get : ∀ {l : List (Str × (List D → M D))} {x : Str} {f : List D → M D}, TblOk P w K mg base g k np l → tblOf l x = some f → DefOk P w K mg base g k x f np
  | _, _, _, .nil, h => by cases h
  | _, x, f, .cons (x := y) d r, h => by
    unfold tblOf at h
    by_cases e : x = y
    · rw [if_pos e] at h
      cases h
      rw [e]
      exact d
    · rw [if_neg e] at h
      exact r.get h
end
section
variable {X : Cx} {g : Gx} {W : WX}
theorem se_callV (i : Nat) {x : Str} {p pos : Pos} {e : Expr} {es : List Expr} {j k np : Nat} {tbl : List (Str × (List D → M D))} {m : Env → M (List D)} (T : TblOk X.prog X.w X.K X.mg X.base g k np tbl) (hmg : X.mg = g.mg) (hr : Room j X.A) (hj : k ≤ j) (tk : L2N.Takes X W) (ha : PA X (e :: es) (tL g W m)) (hn : (e :: es).length = np) (hm : ∀ env S ds S', m env S = .ok ds S' → ds.length = (e :: es).length)
    (hN : X.N[i]? = some x := by rfl) (hv : Vis X.env.scope x := by first | exact Or.inl rfl | exact Or.inr (Or.inl rfl) | exact Or.inr (Or.inr rfl)) (hdb : (x == ("__debug__" : Str)) = false := by decide) (hcd : (x == ("__classdict__" : Str)) = false := by decide)
    (he : starEach (e :: es) X.env = (false, eval e X.env) :: starEach es X.env := by rfl) (hpl : (backTo pos (starEach es X.env)).any (·.1) = false := by rfl) : PE X (.Call (.Name x p) (e :: es) [] pos) (tE g W (mCallV tbl i m)) := by
  constructor
  rintro pins s σ H Q I ⟨nn, F, ρ, env, S, ds, n, o, r, h⟩
  cases r
  have h : Fin rD g F W nn ρ H S Q (mCallV tbl i m env S) := h
  unfold mCallV at h
  cases e1 : env[i]? with
  | none =>
    rw [e1] at h
    exact h.elim
  | some od =>
    rw [e1] at h
    cases od with
    | none => exact h.elim
    | some d =>
      cases d with
      | glo y =>
        obtain ⟨v, hσ, rv⟩ := n.loc i _ e1
        dsimp only at h
        cases et : tblOf tbl y with
        | none =>
          rw [et] at h
          exact h.elim
        | some f =>
          rw [et] at h
          have h : Fin rD g F W nn ρ H S Q (bnd (m env) f S) := h
          obtain ⟨fa, fd, ps, gm, kp, bi, hps, FO⟩ := (T.get et).ex
          cases rv with
          | glo q =>
            rw [← hmg, gm] at q
            cases q
            refine wpAny_Call_Name_kw (thn ((pe_var (pos := p) hN hv hdb hcd).run pins s σ H (fun v H1 => v = .ref fa ∧ H1 = H) I ⟨.ref fa, hσ, rfl, rfl⟩) fun u s1 h1 => ?_)
            obtain ⟨v, H1, I1, r1, ev, eH⟩ := h1
            subst ev
            subst eH
            cases r1
            refine PySem.W.callWith_K (h₀ := X.base) I.ok.mod.kin kp (thn (ha.run pos pins s1 σ _ (fun vs H2 => spM g f np vs H2 Q (WE W σ)) I1 ?_) fun us s2 ⟨vs, H2, I2, r, q⟩ => ⟨I2.kIn, ?_⟩) he hpl
            · refine ⟨nn, F, ρ, env, S, [], n, o, .nil, ?_⟩
              show Fin rLs g F W nn ρ H1 S _ (m env S)
              unfold bnd at h
              cases em : m env S with
              | no =>
                rw [em] at h
                exact h
              | ex e1 S1 =>
                rw [em] at h
                exact h
              | ok ds S1 =>
                rw [em] at h
                intro ρ' H' vs x' o' r'
                have hl := hm env S ds S1 em
                refine ⟨by rw [← r'.length, hl, hn], nn, F, ρ', S1, ds, o', r', ?_⟩
                have h : Fin rD g F W nn ρ' H' S1 Q (f ds S1) := Fin.ext x' h
                cases ef : f ds S1 with
                | ok d S2 =>
                  rw [ef] at h
                  exact h
                | no =>
                  rw [ef] at h
                  exact h
                | ex e1 S2 =>
                  rw [ef] at h
                  have l2 : σ.length = nn := n.len2
                  exact fun ρ2 H2 σ2 c d hl2 x2 o2 z => h ρ2 H2 σ c d l2 x2 o2 z
            · exact run_fnS (E := WE W) FO (hr.mono hj) bi (L2N.passAt tk σ) I2 r q
      | _ => exact h.elim
end
/-! ### a def that makes lambdas -/
structure DefTab (K : PySem.W.Frag) (mg : Str → Option Value) (base : Heap) (T : List (Addr × Str)) (x : Str) (st : Stmt) : Prop where
  ex : ∃ (fa : Addr) (fd : FuncData) (c P : Addr), mg x = some (.ref fa) ∧ FunD K x x (defArgs st) (defBody st) (defScope st) [] [] fa fd ∧ fd.code = .ref c ∧ TabB base mg c P ∧ (P, x ++ ".<locals>." ++ "<lambda>") ∈ T ∧ ∀ p ∈ T, p.1 = P → p.2 = x ++ ".<locals>." ++ "<lambda>"
section
variable {P : Program} {w : World} {K : PySem.W.Frag} {mg : Str → Option Value} {base : Heap} {g : Gx}
theorem def_okL {x : Str} {st : Stmt} {N ps : List Str} {k np : Nat} {b : MS} (h : DefTab K mg base g.T x st) (Sc : FnScope N ps (defScope st)) (hnp : ps.length = np)
    (hbind : ∀ (kV doc pm : Value) (an : Option Addr) (cdv ct : Value) (us : List Value), us.length = ps.length → bindArgs (PySem.W.fnOf x x (defArgs st) (defBody st) (defScope st) .none kV doc pm an cdv ct) ⟨us, []⟩ = pure (ps.zip us))
    (hb : ∀ (f : Addr) (cdv : Value) (A : Around) (outer : List PySem.Env) (s : Shared) (H : Hp) (E : XK), LamDef (cxOf (L2N.CX P w) P w K mg base N x (defScope st) f cdv A outer s H E) g.T → Room k (A.deeper (envOfC x (defScope st) s.heap.objs.size f cdv)) → PSs (cxOf (L2N.CX P w) P w K mg base N x (defScope st) f cdv A outer s H E) (defBody st) (tS g (fun cls d _ H => E cls d H) b)) :
    DefOk P w K mg base g (k + 1) x (mDef np N.length b) np := by
  obtain ⟨fa, fd, c, Pt, gm, Fd, hc, TB, hm, hu⟩ := h.ex
  subst hnp
  refine ⟨fa, fd, ps, gm, Fd.kp, Fd.bindsN hbind, rfl, ?_⟩
  obtain ⟨oc, od, dV, kV, doc, pm, an, cdv, ct, osl, rfl, lk, hcd, _, _⟩ := Fd.ex
  have hc : cdv = .ref c := hc
  refine fn_of lk hcd Sc (fun vs H Q E h => h.1) fun A outer s H vs Q E hr h => ⟨_, hb fa cdv A outer s H E ⟨c, Pt, hc, TB, hm, hu⟩ hr, ?_⟩
  exact def_core Sc h
end
/-! ### short words for printed derivations -/
/-- which class stands under which: each with all that it stands under -/
def subOf (l : List (Str × List Str)) (x y : Str) : Option Bool := match l.lookup x with
  | some ys => match l.lookup y with
    | some _ => some (decide (y ∈ ys))
    | none => none
  | none => none
section
variable {X : Cx} {g : Gx} {W : WX}
theorem hot_suite {a C : Addr} {oe : Obj} {pn : List (Addr × Obj)} (hz : L2N.Zn (.ref C) none oe) (hf : ∃ vs, oe.data = .fields vs) : HotC (X.suite a ((a, oe) :: pn)) := by
  obtain ⟨vs, hf⟩ := hf
  exact ⟨a, oe, vs, rfl, List.mem_cons_self, hf, hz.2.2 vs hf⟩
theorem se_cls {x : Str} {pos : Pos} (hg : Gl X x) (h : ExcOk X.K X.mg x) (hmg : X.mg = g.mg := by rfl) (hd : (x == ("__debug__" : Str)) = false := by decide) : PE X (.Name x pos) (tE g W (mC (.glo x))) := by
  obtain ⟨C, gm, _⟩ := h.ex
  exact se_glo hg gm hmg hd
end
end Mir
set_option Elab.async false
set_option linter.all false
set_option maxRecDepth 100000
set_option maxHeartbeats 4000000
namespace Mir
open PySem PySem.Spec PyProof.Rows L2 RZ LamX
/-! ### what the head tells -/
def excCB (K : PySem.W.Frag) (D : Addr) : Bool :=
  He.eqO (PySem.W.findIn K (.ref D) "__getattribute__") (some (some (.builtin "BaseException.__getattribute__"))) && (He.eqO (PySem.W.findIn K (.ref D) "__getattr__") (some none) && (decide (PySem.W.subIn K (.ref D) (.type "BaseException") = some true) && (PySem.W.hasDictIn K D &&
  (He.eqO (PySem.W.findIn K (.ref D) "__class__") (some (some (.builtin "object.__class__"))) && (He.eqO (PySem.W.specialIn K (.builtin "object.__class__") "__get__") (some (some (.builtin "getset_descriptor.__get__"))) &&
  (decide (PySem.W.takesIn K (.builtin "object.__class__") = some true) && decide (PySem.W.mroIn K D (.type "object") = some true)))))))
theorem excC_ok {K : PySem.W.Frag} {D : Addr} (h : excCB K D = true) : ExcC K D := by
  obtain ⟨h1, h⟩ := He.ba h
  obtain ⟨h2, h⟩ := He.ba h
  obtain ⟨h3, h⟩ := He.ba h
  obtain ⟨h4, h⟩ := He.ba h
  obtain ⟨h5, h⟩ := He.ba h
  obtain ⟨h6, h⟩ := He.ba h
  obtain ⟨h7, h8⟩ := He.ba h
  exact ⟨He.eqO_ok h1, He.eqO_ok h2, of_decide_eq_true h3, h4, He.eqO_ok h5, He.eqO_ok h6, of_decide_eq_true h7, of_decide_eq_true h8⟩
def subB (K : PySem.W.Frag) (l : List (Str × List Str)) : Bool := l.all fun p => (He.Fa.glo p.1).ok K && (excCB K (He.ga K p.1) && l.all fun q =>
  decide (PySem.W.kitOne K (.ref (He.ga K p.1)) (.ref (He.ga K q.1)) = some (decide (q.1 ∈ p.2))) && decide (PySem.W.exmOne K (.ref (He.ga K p.1)) (.ref (He.ga K q.1)) = some (decide (q.1 ∈ p.2))))
theorem sub_ok {K : PySem.W.Frag} {h : Heap} {mg : Str → Option Value} {l : List (Str × List Str)} (X : K.In h) (G : h.Ns mainGlobals mg) (c : subB K l = true) : SubOk K mg (subOf l) := by
  refine ⟨fun x y b e => ?_⟩
  unfold subOf at e
  cases ex : l.lookup x with
  | none =>
    rw [ex] at e
    cases e
  | some ys =>
    rw [ex] at e
    dsimp only at e
    cases ey : l.lookup y with
    | none =>
      rw [ey] at e
      cases e
    | some zs =>
      rw [ey] at e
      cases e
      have mx := PySem.mem_of_lookup ex
      have my := PySem.mem_of_lookup ey
      obtain ⟨g1, c1⟩ := He.ba (List.all_eq_true.mp c _ mx)
      obtain ⟨g2, _⟩ := He.ba (List.all_eq_true.mp c _ my)
      obtain ⟨c2, c3⟩ := He.ba c1
      obtain ⟨c4, c5⟩ := He.ba (List.all_eq_true.mp c3 _ my)
      exact ⟨_, _, He.glo_ok X G g1, He.glo_ok X G g2, of_decide_eq_true c4, of_decide_eq_true c5, excC_ok c2⟩
theorem exc_at {K : PySem.W.Frag} {h : Heap} {mg : Str → Option Value} {x : Str} (X : K.In h) (G : h.Ns mainGlobals mg) (c1 : (He.Fa.glo x).ok K = true) (c2 : (He.Fa.exc x).ok K = true) : ExcOk K mg x := by
  obtain ⟨h1, h2, h3, h4⟩ := He.exc_ok c2
  exact ⟨_, He.glo_ok X G c1, h1, h2, h3, h4⟩
def lamName (x : Str) : Str := x ++ ".<locals>." ++ "<lambda>"
def tabsK (K : PySem.W.Frag) (tf : List He.Defn) : List (Addr × Str) := tf.map fun p => ((He.cT K p).2, lamName p.1)
def tabsNd (K : PySem.W.Frag) (tf : List He.Defn) : Bool := decide ((tf.map fun p => (He.cT K p).2).Nodup)
theorem nodup_fst {α β γ : Type} {f : α → β} {g : α → γ} : ∀ {l : List α}, (l.map f).Nodup → ∀ {a b : α}, a ∈ l → b ∈ l → f a = f b → g a = g b
  | [], _, a, _, h, _, _ => by cases h
  | x :: r, n, a, b, ha, hb, e => by
    rw [List.map_cons, List.nodup_cons] at n
    rcases List.mem_cons.mp ha with ea | ha
    · rcases List.mem_cons.mp hb with eb | hb
      · rw [ea, eb]
      · exact absurd (List.mem_map.mpr ⟨b, hb, by rw [← e, ea]⟩) n.1
    · rcases List.mem_cons.mp hb with eb | hb
      · exact absurd (List.mem_map.mpr ⟨a, ha, by rw [e, eb]⟩) n.1
      · exact nodup_fst n.2 ha hb e
theorem cT_fst {K : PySem.W.Frag} {p : He.Defn} {c : Addr} (h : He.codeOf K p = c) : (He.cT K p).1 = c := h
theorem tab_at {K : PySem.W.Frag} {mg : Str → Option Value} {base : Heap} {tf : List He.Defn} {x : Str} {st : Stmt} {fa c P : Addr} {fd : FuncData} (hx : (P, lamName x) ∈ tabsK K tf) (gx : mg x = some (.ref fa)) (F : FunD K x x (defArgs st) (defBody st) (defScope st) [] [] fa fd)
    (hc : fd.code = .ref c) (TB : TabB base mg c P) (hu : ∀ p ∈ tabsK K tf, p.1 = P → p.2 = lamName x) : DefTab K mg base (tabsK K tf) x st := ⟨fa, fd, c, P, gx, F, hc, TB, hx, hu⟩
theorem code_at {K : PySem.W.Frag} {x : Str} {st : Stmt} {p : He.Defn} {fd : FuncData} (F : FunD K x x (defArgs st) (defBody st) (defScope st) [] [] (He.fAd K p) fd) : fd.code = .ref (He.cT K p).1 := by
  obtain ⟨oc, od, dV, kV, doc, pm, an, cdv, ct, osl, rfl, lk, hcd, _, _⟩ := F.ex
  obtain ⟨c, hc⟩ := He.codeIn_ref hcd
  rw [cT_fst (He.codeOf_eq lk hc)]
  exact hc
theorem uniq_at {K : PySem.W.Frag} {tf : List He.Defn} {d : He.Defn} (nd : tabsNd K tf = true) (hd : d ∈ tf) : ∀ p ∈ tabsK K tf, p.1 = (He.cT K d).2 → p.2 = lamName d.1 := fun p hp e => by
  obtain ⟨q, hq, rfl⟩ := List.mem_map.mp hp
  exact nodup_fst (f := fun p => (He.cT K p).2) (g := fun p : He.Defn => lamName p.1) (of_decide_eq_true nd) hq hd e
theorem tab_def {K : PySem.W.Frag} {mg : Str → Option Value} {base : Heap} {tf : List He.Defn} {x : Str} {st : Stmt} {fd : FuncData} (hx : ((x, none) : He.Defn) ∈ tf) (gx : mg x = some (.ref (He.fAd K (x, none)))) (F : FunD K x x (defArgs st) (defBody st) (defScope st) [] [] (He.fAd K (x, none)) fd)
    (TB : TabB base mg (He.cT K (x, none)).1 (He.cT K (x, none)).2) (nd : tabsNd K tf = true) : DefTab K mg base (tabsK K tf) x st :=
  tab_at (List.mem_map.mpr ⟨(x, none), hx, rfl⟩) gx F (code_at F) TB (uniq_at nd hx)
/-- the law's call -/
theorem law_at {l : PySem.W.OpenLaw} {w : World} {K : PySem.W.Frag} {mg : Str → Option Value} {fa : List He.Fa} {fn : List He.DefD} {tf : List He.Defn} {ex : PySem.W.Frag → Bool} {h : Heap} {f : Addr} {fd : FuncData} {k : Nat} {m : List D → M D} {x : Str} (X : K.In h) (c : He.SaysX fa fn [] tf ex w h K)
    (hb : ∀ (s : Shared) (u : Value), BindsTo s fd ⟨[u], []⟩ [(x, u)])
    (hm : ∀ ns : List Int, ns.length ≤ 63 → (∀ z ∈ ns, Builtin.Int.intBits z ≤ 1048576) → ∃ S, m [.scr ns] [] = .ok (.bl true) S)
    (F : ∀ base : Heap, K.In base → base.Ns mainGlobals mg → (∀ p ∈ tf, TabB base mg (He.cT K p).1 (He.cT K p).2) → FnOk l.prog w K mg base (L2N.CX l.prog w) k f fd [x] (spM ⟨K, mg, tabsK K tf⟩ m 1)) : LawAtS l w K (L2N.CX l.prog w) k 63 x mg f h := by
  refine ⟨fd, tf.map (He.cT K), _, fun p hp => ?_, fun p hp => ?_, fun p hp => ?_, hb, fun H a ns hl hz hT hS => ?_, fun base hK hG hTB => F base hK hG fun p hp => hTB _ (List.mem_map.mpr ⟨p, hp, rfl⟩)⟩
  · obtain ⟨q, hq, rfl⟩ := List.mem_map.mp hp
    exact c.empty q hq
  · obtain ⟨q, hq, rfl⟩ := List.mem_map.mp hp
    exact c.out q hq
  · obtain ⟨q, hq, rfl⟩ := List.mem_map.mp hp
    exact PySem.W.codeHd_of_K X (c.hd q hq)
  · obtain ⟨S, e⟩ := hm ns hl hz
    refine ⟨rfl, 0, [], [], [], [.scr ns], ⟨rfl, List.nodup_nil, fun p hp => (nomatch hp), fun i ds hh => by simp at hh, fun p hp => (nomatch hp), fun p hp => ?_⟩, .one (.scr ?_), ?_⟩
    · obtain ⟨q, hq, rfl⟩ := List.mem_map.mp hp
      exact TabS.nil (hT _ (List.mem_map.mpr ⟨q, hq, rfl⟩))
    · rcases hS with (hS | hS) | hS
      · refine .inl ⟨hS, fun b => ?_⟩
        rcases b with ⟨i, ds, h1, _⟩ | b
        · simp at h1
        · cases b
      · exact .inr (.inl hS)
      · exact .inr (.inr hS)
    · rw [e]
      intro ρ' H' v x' o' r
      cases r
      rfl
theorem cxN_none {P : Program} {w : World} (H : Hp) (s : Shared) (e : Value) (s' : Shared) : L2N.CX P w [] H s (fun _ _ _ => False) e s' → False := fun ⟨_, _, _, _, _, _, _, _, _, _, _, _, z⟩ => z
/-- a def as the head tells it -/
abbrev dd (x : Str) (st : Stmt) : He.DefD := ⟨(x, none), x, x, defArgs st, defBody st, defScope st, [], []⟩
section
variable {K : PySem.W.Frag} {h : Heap} {mg : Str → Option Value} {fa : List He.Fa} {fn : List He.DefD}
theorem lam_at {base : Heap} {tf : List He.Defn} (X : K.In h) (G : h.Ns mainGlobals mg) (c : He.SaysD fa fn K) (TB : ∀ p ∈ tf, TabB base mg (He.cT K p).1 (He.cT K p).2) (nd : tabsNd K tf = true) (i : Nat) {x : Str} {st : Stmt} (j k : Nat) (hd : fn[i]? = some (dd x st)) (hf : fa[j]? = some (.glo x)) (hk : tf[k]? = some (x, none)) : DefTab K mg base (tabsK K tf) x st := by
  obtain ⟨fd, F⟩ := c.def_ i hd
  exact tab_def (List.mem_of_getElem? hk) (He.glo_ok X G (c.fact j hf)) F (TB _ (List.mem_of_getElem? hk)) nd
theorem free_at (X : K.In h) (G : h.Ns mainGlobals mg) (c : He.SaysD fa fn K) (j : Nat) {x : Str} (hf : fa[j]? = some (.free x)) : mg x = none := He.free_ok X G (c.fact j hf)
theorem err_at (X : K.In h) (G : h.Ns mainGlobals mg) (c : He.SaysD fa fn K) (i j : Nat) {x : Str} (hi : fa[i]? = some (.glo x)) (hj : fa[j]? = some (.exc x)) : ExcOk K mg x := exc_at X G (c.fact i hi) (c.fact j hj)
theorem mth_at (X : K.In h) (G : h.Ns mainGlobals mg) {x : Str} {v : Value} (c : He.eqO (PySem.W.nsIn K mainGlobals x) (some (some v)) = true) : mg x = some v := PySem.W.mg_of X G (He.eqO_ok c)
theorem def_at (X : K.In h) (G : h.Ns mainGlobals mg) (c : He.SaysD fa fn K) (i : Nat) {x : Str} {st : Stmt} (j : Nat) (hd : fn[i]? = some (dd x st)) (hf : fa[j]? = some (.glo x)) : DefAt K mg x st := by
  obtain ⟨fd, F⟩ := c.def_ i hd
  exact ⟨_, fd, He.glo_ok X G (c.fact j hf), F⟩
end
end Mir
set_option Elab.async false
set_option linter.all false
set_option maxRecDepth 100000
set_option maxHeartbeats 4000000
namespace Mir
open PySem
/-! ### evaluating mirrors -/
def exM {α : Type} (e : Exn) : M α := fun S => .ex e S
section
variable {α β γ : Type}
theorem ev_ret (a : α) (k : α → M β) : bnd (ret a) k = k a := rfl
theorem bnd_noM (k : α → M β) : bnd noM k = noM := rfl
theorem bnd_exM (e : Exn) (k : α → M β) : bnd (exM e) k = exM e := rfl
theorem bnd_bnd (m : M α) (f : α → M β) (k : β → M γ) : bnd (bnd m f) k = bnd m fun x => bnd (f x) k := by
  funext S
  unfold bnd
  cases m S <;> rfl
theorem bnd_ite (c : Prop) [Decidable c] (a b : M α) (k : α → M β) : bnd (if c then a else b) k = if c then bnd a k else bnd b k := by
  split <;> rfl
theorem bnd_at {m : M α} {k : α → M β} {S S1 : Sto} {a : α} (h : m S = .ok a S1) : bnd m k S = k a S1 := by
  unfold bnd
  rw [h]
theorem ite_at (c : Prop) [Decidable c] (a b : M α) (S : Sto) : (if c then a else b) S = if c then a S else b S := by
  split <;> rfl
theorem ret_at (a : α) (S : Sto) : ret a S = .ok a S := rfl
theorem nox_ret (a : α) : nox (ret a) = ret a := rfl
theorem getO_some (a : α) : getO (some a) = ret a := rfl
end
theorem gcM_ret (d : D) : gcM (ret d) = ret d := by
  funext S
  show (if nr d = true then R.ok d (S.take S.length) else .ok d S) = .ok d S
  rw [List.take_length]
  split <;> rfl
theorem gcM_exM (e : Exn) : gcM (exM e) = exM e := rfl
theorem gcM_noM : gcM noM = noM := rfl
theorem gcM_ite (c : Prop) [Decidable c] (a b : M D) : gcM (if c then a else b) = if c then gcM a else gcM b := by
  split <;> rfl
theorem gcM_at {m : M D} {S S1 : Sto} {d : D} (h : m S = .ok d S1) (hl : S1.length = S.length) : gcM m S = .ok d S1 := by
  unfold gcM
  rw [h]
  dsimp only
  rw [← hl, List.take_length]
  split <;> rfl
theorem seq_at {a b : MS} {env env' : Env} {S S' : Sto} (h : a env S = .ok (.nx, env') S') : mSeq a b env S = b env' S' := by
  unfold mSeq bnd
  dsimp only
  rw [h]
theorem seq_rt {a b : MS} {env env' : Env} {S S' : Sto} {d : D} (h : a env S = .ok (.rt d, env') S') : mSeq a b env S = .ok (.rt d, env') S' := by
  unfold mSeq bnd
  dsimp only
  rw [h]
  rfl
theorem asg_at {m : Env → M D} {i : Nat} {env : Env} {S S' : Sto} {d : D} (h : m env S = .ok d S') : mAsg m (gN i) env S = .ok (.nx, env.set i (some d)) S' := by
  unfold mAsg bnd
  rw [h]
  rfl
theorem ret_st {m : Env → M D} {env : Env} {S S' : Sto} {d : D} (h : m env S = .ok d S') : mRet m env S = .ok (.rt d, []) S' := by
  unfold mRet bnd
  rw [h]
  rfl
theorem run_def {np nl : Nat} {b : MS} {ds : List D} {S S' : Sto} {d : D} {env : Env} (hn : ds.length = np) (h : b (ds.map some ++ List.replicate (nl - np) none) S = .ok (.rt d, env) S') (hl : S'.length = S.length) : mDef np nl b ds S = .ok d S' := by
  unfold mDef
  rw [if_pos hn]
  refine gcM_at ?_ hl
  rw [bnd_at h]
  rfl
theorem mRaise_eq (x : Str) (env : Env) : mRaise x env = exM ⟨x⟩ := rfl
theorem eqv_int (i j : Int) : PyData.eqv (.int i) (.int j) = decide (i = j) := by
  unfold PyData.eqv
  by_cases h : i = j <;> simp [h]
theorem fEq_int (b : Bool) (i j : Int) : fEq b (.int i) (.int j) = ret (D.bl (if b then !decide (i = j) else decide (i = j))) := by
  show (if eqs (.int i) = true ∧ eqs (.int j) = true then ret (D.bl (if b then !PyData.eqv (.int i) (.int j) else PyData.eqv (.int i) (.int j))) else noM) = _
  rw [if_pos ⟨rfl, rfl⟩, eqv_int]
theorem atI_zero {α : Type} (a : α) (r : List α) : L2.atI (a :: r) 0 = some a := by
  simp [L2.atI, L2.ixN]
theorem atI_one {α : Type} (a b : α) (r : List α) : L2.atI (a :: b :: r) 1 = some b := by
  have h : (1 : Int) < ((a :: b :: r).length : Nat) := by
    simp only [List.length_cons]
    omega
  unfold L2.atI L2.ixN
  rw [if_pos (by decide), if_pos h]
  rfl
theorem lt_size {n : Nat} (h : n < 16777216) : n < sizeLine := h
theorem le_size {n : Nat} (h : n ≤ 16777216) : n ≤ sizeLine := h
theorem fMul_int {i j : Int} (a b : Nat) (hi : i.natAbs < 2 ^ a) (hj : j.natAbs < 2 ^ b) (h : a + b ≤ 134217720) : fMul (.int i) (.int j) = ret (.int (i * j)) := by
  show (if i.natAbs.log2 + j.natAbs.log2 < 134217720 then _ else _) = _
  refine if_pos ?_
  have l : ∀ (n c : Nat), n < 2 ^ c → n.log2 ≤ c ∧ (n.log2 < c ∨ n.log2 = 0) := fun n c hn => by
    by_cases h0 : n = 0
    · subst h0
      simp
    · have := (Nat.log2_lt h0).mpr hn
      exact ⟨Nat.le_of_lt this, .inl this⟩
  have h1 := l _ _ hi
  have h2 := l _ _ hj
  omega
theorem fDiv_int {i j : Int} (b : Nat) (h0 : 0 < j) (hj : j.natAbs < 2 ^ b) (h : b ≤ 9000) : fDiv (.int i) (.int j) = ret (.int (i / j)) := by
  show (if 0 < j ∧ j.natAbs.log2 < 9000 then _ else _) = _
  refine if_pos ⟨h0, ?_⟩
  have hn : j.natAbs ≠ 0 := by omega
  exact Nat.lt_of_lt_of_le ((Nat.log2_lt hn).mpr hj) h
theorem fMod_int {i j : Int} (h0 : 0 < j) : fMod (.int i) (.int j) = ret (.int (i % j)) := if_pos h0
theorem kb_NoneType_int : L2.kitB "NoneType" "int" = some false := by decide +kernel
theorem kb_NoneType_bool : L2.kitB "NoneType" "bool" = some false := by decide +kernel
theorem kb_NoneType_str : L2.kitB "NoneType" "str" = some false := by decide +kernel
theorem kb_NoneType_tuple : L2.kitB "NoneType" "tuple" = some false := by decide +kernel
theorem kb_NoneType_list : L2.kitB "NoneType" "list" = some false := by decide +kernel
theorem kb_bool_int : L2.kitB "bool" "int" = some true := by decide +kernel
theorem kb_bool_bool : L2.kitB "bool" "bool" = some true := by decide +kernel
theorem kb_bool_str : L2.kitB "bool" "str" = some false := by decide +kernel
theorem kb_bool_tuple : L2.kitB "bool" "tuple" = some false := by decide +kernel
theorem kb_bool_list : L2.kitB "bool" "list" = some false := by decide +kernel
theorem kb_int_int : L2.kitB "int" "int" = some true := by decide +kernel
theorem kb_int_bool : L2.kitB "int" "bool" = some false := by decide +kernel
theorem kb_int_str : L2.kitB "int" "str" = some false := by decide +kernel
theorem kb_int_tuple : L2.kitB "int" "tuple" = some false := by decide +kernel
theorem kb_int_list : L2.kitB "int" "list" = some false := by decide +kernel
theorem kb_str_int : L2.kitB "str" "int" = some false := by decide +kernel
theorem kb_str_bool : L2.kitB "str" "bool" = some false := by decide +kernel
theorem kb_str_str : L2.kitB "str" "str" = some true := by decide +kernel
theorem kb_str_tuple : L2.kitB "str" "tuple" = some false := by decide +kernel
theorem kb_str_list : L2.kitB "str" "list" = some false := by decide +kernel
theorem kb_tuple_int : L2.kitB "tuple" "int" = some false := by decide +kernel
theorem kb_tuple_bool : L2.kitB "tuple" "bool" = some false := by decide +kernel
theorem kb_tuple_str : L2.kitB "tuple" "str" = some false := by decide +kernel
theorem kb_tuple_tuple : L2.kitB "tuple" "tuple" = some true := by decide +kernel
theorem kb_tuple_list : L2.kitB "tuple" "list" = some false := by decide +kernel
theorem kb_list_int : L2.kitB "list" "int" = some false := by decide +kernel
theorem kb_list_bool : L2.kitB "list" "bool" = some false := by decide +kernel
theorem kb_list_str : L2.kitB "list" "str" = some false := by decide +kernel
theorem kb_list_tuple : L2.kitB "list" "tuple" = some false := by decide +kernel
theorem kb_list_list : L2.kitB "list" "list" = some true := by decide +kernel
end Mir
set_option Elab.async false
set_option linter.all false
set_option maxRecDepth 100000
set_option maxHeartbeats 4000000
namespace Mir
open PySem
/-! ### fractions in lowest terms -/
abbrev fr (a b : Int) : D := .tup [.int a, .int b]
def gc (a b : Int) : Nat := Nat.gcd a.natAbs b.natAbs
def lowN (a b : Int) : Int := if 0 < b / (gc a b : Int) then a / (gc a b : Int) else -(a / (gc a b : Int))
def lowD (a b : Int) : Int := if 0 < b / (gc a b : Int) then b / (gc a b : Int) else -(b / (gc a b : Int))
theorem gc_pos {a b : Int} (h : b ≠ 0) : 0 < gc a b := Nat.gcd_pos_of_pos_right _ (by omega)
theorem gc_dvd_l (a b : Int) : ((gc a b : Nat) : Int) ∣ a := Int.gcd_dvd_left a b
theorem gc_dvd_r (a b : Int) : ((gc a b : Nat) : Int) ∣ b := Int.gcd_dvd_right a b
theorem abs_div (a : Int) {g : Nat} (hg : 0 < g) (h : (g : Int) ∣ a) : (a / (g : Int)).natAbs = a.natAbs / g := by
  obtain ⟨k, rfl⟩ := h
  have e : (g : Int) * k / (g : Int) = k := Int.mul_ediv_cancel_left k (by omega)
  rw [e, Int.natAbs_mul, Int.natAbs_natCast, Nat.mul_div_cancel_left _ hg]
theorem low_spec {a b : Int} (h : b ≠ 0) : 1 ≤ lowD a b ∧ gc (lowN a b) (lowD a b) = 1 ∧ lowN a b * b = a * lowD a b := by
  have hg := gc_pos (a := a) h
  obtain ⟨x, hx⟩ := gc_dvd_l a b
  obtain ⟨y, hy⟩ := gc_dvd_r a b
  have ex : a / (gc a b : Int) = x := by
    have : (gc a b : Int) * x / (gc a b : Int) = x := Int.mul_ediv_cancel_left x (by omega)
    rw [← hx] at this
    exact this
  have ey : b / (gc a b : Int) = y := by
    have : (gc a b : Int) * y / (gc a b : Int) = y := Int.mul_ediv_cancel_left y (by omega)
    rw [← hy] at this
    exact this
  have hyn : y ≠ 0 := fun z => h (by rw [hy, z, Int.mul_zero])
  have co : Nat.gcd x.natAbs y.natAbs = 1 := by
    have := Nat.coprime_div_gcd_div_gcd (m := a.natAbs) (n := b.natAbs) hg
    have e1 := abs_div a hg (gc_dvd_l a b)
    have e2 := abs_div b hg (gc_dvd_r a b)
    rw [ex] at e1
    rw [ey] at e2
    rw [e1, e2]
    exact this
  have cr : x * b = a * y := by
    generalize (gc a b : Int) = g at hx hy
    subst hx hy
    rw [← Int.mul_assoc, Int.mul_comm x]
  unfold lowN lowD
  rw [ex, ey]
  by_cases hp : 0 < y
  · rw [if_pos hp, if_pos hp]
    exact ⟨hp, co, cr⟩
  · rw [if_neg hp, if_neg hp]
    refine ⟨by omega, ?_, ?_⟩
    · unfold gc
      rw [Int.natAbs_neg, Int.natAbs_neg]
      exact co
    · rw [Int.neg_mul, Int.mul_neg, cr]
theorem cross_eq {a b c d : Int} (hb : 1 ≤ b) (hd : 1 ≤ d) (h1 : gc a b = 1) (h2 : gc c d = 1) (h : a * d = c * b) : a = c ∧ b = d := by
  have e : a.natAbs * d.natAbs = c.natAbs * b.natAbs := by rw [← Int.natAbs_mul, ← Int.natAbs_mul, h]
  have d1 : b.natAbs ∣ d.natAbs := by
    refine Nat.Coprime.dvd_of_dvd_mul_left (Nat.Coprime.symm h1) (?_ : b.natAbs ∣ a.natAbs * d.natAbs)
    rw [e]
    exact Nat.dvd_mul_left _ _
  have d2 : d.natAbs ∣ b.natAbs := by
    refine Nat.Coprime.dvd_of_dvd_mul_left (Nat.Coprime.symm h2) (?_ : d.natAbs ∣ c.natAbs * b.natAbs)
    rw [← e]
    exact Nat.dvd_mul_left _ _
  have e2 := Nat.dvd_antisymm d1 d2
  have e3 : b = d := by omega
  subst e3
  exact ⟨Int.eq_of_mul_eq_mul_right (by omega) h, rfl⟩
theorem low_unique {x y a b : Int} (hy : y ≠ 0) (hb : 1 ≤ b) (h : gc a b = 1) (e : a * y = x * b) : lowN x y = a ∧ lowD x y = b := by
  obtain ⟨h1, h2, h3⟩ := low_spec (a := x) hy
  refine cross_eq h1 hb h2 h ?_
  have k : (lowN x y * b) * y = (a * lowD x y) * y := by
    calc (lowN x y * b) * y = (lowN x y * y) * b := by rw [Int.mul_assoc, Int.mul_assoc, Int.mul_comm b]
      _ = (x * lowD x y) * b := by rw [h3]
      _ = (x * b) * lowD x y := by rw [Int.mul_assoc, Int.mul_assoc, Int.mul_comm b]
      _ = (a * y) * lowD x y := by rw [e]
      _ = (a * lowD x y) * y := by rw [Int.mul_assoc, Int.mul_assoc, Int.mul_comm y]
  exact Int.eq_of_mul_eq_mul_right hy k
theorem low_self {a b : Int} (hb : 1 ≤ b) (h : gc a b = 1) : lowN a b = a ∧ lowD a b = b := low_unique (by omega) hb h rfl
/-- the terms are no greater than what was given -/
theorem low_le {a b : Int} (h : b ≠ 0) : (lowN a b).natAbs ≤ a.natAbs ∧ (lowD a b).natAbs ≤ b.natAbs := by
  have hg := gc_pos (a := a) h
  have e1 := abs_div a hg (gc_dvd_l a b)
  have e2 := abs_div b hg (gc_dvd_r a b)
  have l1 : a.natAbs / gc a b ≤ a.natAbs := Nat.div_le_self _ _
  have l2 : b.natAbs / gc a b ≤ b.natAbs := Nat.div_le_self _ _
  unfold lowN lowD
  split <;> constructor <;> omega
/-- one over another, times the other -/
theorem over_times {a b c d : Int} (hb : 1 ≤ b) (hd : 1 ≤ d) (hc : c ≠ 0) (h : gc a b = 1) : let p := lowN (a * d) (b * c); let q := lowD (a * d) (b * c); lowN (p * c) (q * d) = a ∧ lowD (p * c) (q * d) = b := by
  intro p q
  have hbc : b * c ≠ 0 := Int.mul_ne_zero (by omega) hc
  obtain ⟨h1, h2, h3⟩ := low_spec (a := a * d) hbc
  have h3 : p * (b * c) = a * d * q := h3
  have h1 : 1 ≤ q := h1
  refine low_unique (Int.mul_ne_zero (by omega) (by omega)) hb h ?_
  calc a * (q * d) = a * d * q := by rw [Int.mul_comm q, Int.mul_assoc]
    _ = p * (b * c) := h3.symm
    _ = p * c * b := by rw [Int.mul_comm b, Int.mul_assoc]
/-- the rest of a fraction modulo w -/
theorem rest_facts {a b w : Int} (hb : 1 ≤ b) (hw : 1 ≤ w) : let p := lowN (a % (w * b)) b; let q := lowD (a % (w * b)) b;
    1 ≤ q ∧ gc p q = 1 ∧ 0 ≤ p ∧ p < w * q ∧ p % (w * q) = p ∧ lowN (a * q + -p * b) (b * q) = w * (a / (w * b)) ∧ lowD (a * q + -p * b) (b * q) = 1 := by
  intro p q
  have hwb : 0 < w * b := Int.mul_pos (by omega) (by omega)
  obtain ⟨h1, h2, h3⟩ := low_spec (a := a % (w * b)) (show b ≠ 0 by omega)
  have h1 : 1 ≤ q := h1
  have h2 : gc p q = 1 := h2
  have h3 : p * b = a % (w * b) * q := h3
  have m0 := Int.emod_nonneg a (show w * b ≠ 0 by omega)
  have m1 := Int.emod_lt_of_pos a hwb
  have hp0 : 0 ≤ p := by
    have : 0 ≤ p * b := by
      rw [h3]
      exact Int.mul_nonneg m0 (by omega)
    exact Int.nonneg_of_mul_nonneg_left this (by omega)
  have hp1 : p < w * q := by
    have k : p * b < w * q * b := by
      rw [h3, show w * q * b = w * b * q by rw [Int.mul_assoc, Int.mul_comm q, Int.mul_assoc]]
      exact Int.mul_lt_mul_of_pos_right m1 (by omega)
    exact Int.lt_of_mul_lt_mul_right k (by omega)
  refine ⟨h1, h2, hp0, hp1, Int.emod_eq_of_lt hp0 hp1, ?_⟩
  refine low_unique (Int.mul_ne_zero (by omega) (by omega)) (Int.le_refl 1) (by unfold gc; simp) ?_
  have ea := Int.emod_add_mul_ediv a (w * b)
  calc w * (a / (w * b)) * (b * q) = w * b * (a / (w * b)) * q := by
        rw [Int.mul_assoc w, Int.mul_assoc w b, Int.mul_comm b (a / (w * b)), Int.mul_assoc, Int.mul_assoc]
    _ = (a - a % (w * b)) * q := by rw [show w * b * (a / (w * b)) = a - a % (w * b) by omega]
    _ = (a * q + -p * b) * 1 := by rw [Int.sub_mul, Int.mul_one, ← h3, Int.neg_mul, Int.sub_eq_add_neg]
/-- a whole multiple of w more -/
theorem more_facts {a b w k : Int} (hb : 1 ≤ b) (h : gc a b = 1) : lowN (a * 1 + w * k * b) (b * 1) = a + w * k * b ∧ lowD (a * 1 + w * k * b) (b * 1) = b ∧ gc (a + w * k * b) b = 1 ∧ (a + w * k * b) % (w * b) = a % (w * b) := by
  have hg : gc (a + w * k * b) b = 1 := by
    have := Int.gcd_add_mul_right_left b a (w * k)
    unfold gc
    show Int.gcd (a + w * k * b) b = 1
    rw [this]
    exact h
  obtain ⟨e1, e2⟩ := low_unique (x := a * 1 + w * k * b) (y := b * 1) (by omega) hb hg (by rw [Int.mul_one, Int.mul_one])
  refine ⟨e1, e2, hg, ?_⟩
  rw [show w * k * b = w * b * k by rw [Int.mul_assoc, Int.mul_comm k, Int.mul_assoc]]
  exact Int.add_mul_emod_self_left a (w * b) k
/-! ### Euclid's steps -/
theorem mod_half {x y : Nat} (h0 : 0 < y) (h : y ≤ x) : 2 * (x % y) < x := by
  have h1 := Nat.mod_lt x h0
  have h2 := Nat.div_add_mod x y
  have h3 : 1 ≤ x / y := (Nat.one_le_div_iff h0).mpr h
  have h4 : y * 1 ≤ y * (x / y) := Nat.mul_le_mul_left y h3
  omega
end Mir
set_option Elab.async false
set_option linter.all false
set_option maxRecDepth 100000
set_option maxHeartbeats 4000000
namespace Mir
open PySem PySem.Spec PyProof.Rows L2 RZ LamX
def tp (i : Nat) : Stmt := PySem.Challenge.pw_formsfinite_k00_whole_fractions_and_rest.main.body.getD i (.Pass ⟨0, 0, 0, 0⟩)
abbrev gx (K : PySem.W.Frag) (mg : Str → Option Value) (tb : List (Addr × Str)) : Gx := ⟨K, mg, tb⟩
abbrev s_is_whole : Stmt := tp 7
abbrev s_is_tuple_of : Stmt := tp 8
abbrev s_is_fraction : Stmt := tp 10
abbrev s_need_fraction : Stmt := tp 11
abbrev s_lowest : Stmt := tp 12
abbrev s_plus : Stmt := tp 13
abbrev s_times : Stmt := tp 14
abbrev s_over : Stmt := tp 15
abbrev s_fraction_sum : Stmt := tp 16
abbrev s_fraction_product : Stmt := tp 17
abbrev s_fraction_by : Stmt := tp 18
abbrev s_is_most : Stmt := tp 19
abbrev s_at_most : Stmt := tp 20
abbrev s_rest_of : Stmt := tp 21
abbrev s_fraction_rest : Stmt := tp 22
abbrev s__law_cup : Stmt := tp 24
abbrev s__law_roll : Stmt := tp 25
abbrev s__law_some : Stmt := tp 26
abbrev s__law_sort : Stmt := tp 27
abbrev s__law_like : Stmt := tp 28
abbrev s__law_lowest : Stmt := tp 29
abbrev s__law_plus : Stmt := tp 30
abbrev s__law_times : Stmt := tp 31
abbrev s__law_fraction : Stmt := tp 32
abbrev s__law_error : Stmt := tp 33
abbrev s__law_fractions_right : Stmt := tp 34
abbrev s__law_rests_right : Stmt := tp 35
abbrev s__law_limits_right : Stmt := tp 36
abbrev s_law : Stmt := tp 37
theorem bo_abs : bootBuiltins "abs" = some (.builtin "abs") := by decide +kernel
theorem bo_all : bootBuiltins "all" = some (.builtin "all") := by decide +kernel
theorem bo_bool : bootBuiltins "bool" = some (.type "bool") := by decide +kernel
theorem bo_int : bootBuiltins "int" = some (.type "int") := by decide +kernel
theorem bo_isinstance : bootBuiltins "isinstance" = some (.builtin "isinstance") := by decide +kernel
theorem bo_len : bootBuiltins "len" = some (.builtin "len") := by decide +kernel
theorem bo_list : bootBuiltins "list" = some (.type "list") := by decide +kernel
theorem bo_range : bootBuiltins "range" = some (.type "range") := by decide +kernel
theorem bo_str : bootBuiltins "str" = some (.type "str") := by decide +kernel
theorem bo_tuple : bootBuiltins "tuple" = some (.type "tuple") := by decide +kernel
theorem bo_zip : bootBuiltins "zip" = some (.type "zip") := by decide +kernel
def subL : List (Str × List Str) := [("FormError", ["FormError"]), ("InvalidNumber", ["InvalidNumber", "FormError"]), ("InvalidFraction", ["InvalidFraction", "FormError"]), ("NotFound", ["NotFound", "FormError"])]
def subT : Str → Str → Option Bool := subOf subL
structure Tx (K : PySem.W.Frag) (mg : Str → Option Value) (base : Heap) (tb : List (Addr × Str)) : Prop where
  n_abs : mg "abs" = none
  n_all : mg "all" = none
  n_bool : mg "bool" = none
  n_int : mg "int" = none
  n_isinstance : mg "isinstance" = none
  n_len : mg "len" = none
  n_list : mg "list" = none
  n_range : mg "range" = none
  n_str : mg "str" = none
  n_tuple : mg "tuple" = none
  n_zip : mg "zip" = none
  g_gcd : mg "gcd" = some (.builtin "math.gcd")
  e_FormError : ExcOk K mg "FormError"
  e_InvalidFraction : ExcOk K mg "InvalidFraction"
  e_InvalidNumber : ExcOk K mg "InvalidNumber"
  e_NotFound : ExcOk K mg "NotFound"
  f_is_whole : DefAt K mg "is_whole" s_is_whole
  f_is_tuple_of : DefAt K mg "is_tuple_of" s_is_tuple_of
  f_is_fraction : DefAt K mg "is_fraction" s_is_fraction
  f_need_fraction : DefAt K mg "need_fraction" s_need_fraction
  f_lowest : DefAt K mg "lowest" s_lowest
  f_plus : DefAt K mg "plus" s_plus
  f_times : DefAt K mg "times" s_times
  f_over : DefAt K mg "over" s_over
  f_fraction_sum : DefAt K mg "fraction_sum" s_fraction_sum
  f_fraction_product : DefAt K mg "fraction_product" s_fraction_product
  f_fraction_by : DefAt K mg "fraction_by" s_fraction_by
  f_is_most : DefAt K mg "is_most" s_is_most
  f_at_most : DefAt K mg "at_most" s_at_most
  f_rest_of : DefAt K mg "rest_of" s_rest_of
  f_fraction_rest : DefAt K mg "fraction_rest" s_fraction_rest
  f__law_cup : DefAt K mg "_law_cup" s__law_cup
  f__law_roll : DefAt K mg "_law_roll" s__law_roll
  f__law_some : DefAt K mg "_law_some" s__law_some
  f__law_sort : DefAt K mg "_law_sort" s__law_sort
  f__law_like : DefAt K mg "_law_like" s__law_like
  f__law_lowest : DefAt K mg "_law_lowest" s__law_lowest
  f__law_plus : DefAt K mg "_law_plus" s__law_plus
  f__law_times : DefAt K mg "_law_times" s__law_times
  f__law_fraction : DefAt K mg "_law_fraction" s__law_fraction
  f__law_error : DefAt K mg "_law_error" s__law_error
  l__law_fractions_right : DefTab K mg base tb "_law_fractions_right" s__law_fractions_right
  f__law_fractions_right : DefAt K mg "_law_fractions_right" s__law_fractions_right
  f__law_rests_right : DefAt K mg "_law_rests_right" s__law_rests_right
  l__law_limits_right : DefTab K mg base tb "_law_limits_right" s__law_limits_right
  f__law_limits_right : DefAt K mg "_law_limits_right" s__law_limits_right
  f_law : DefAt K mg "law" s_law
  sub : SubOk K mg subT
section
variable {P : Program} {w : World} {K : PySem.W.Frag} {mg : Str → Option Value} {base : Heap} {tb : List (Addr × Str)}
theorem sc_is_whole : FnScope ["value", "low", "high"] ["value", "low", "high"] (defScope s_is_whole) := ⟨rfl, rfl, rfl, by decide +kernel, rfl, by decide +kernel, by decide +kernel⟩
def bd_is_whole : MS :=
    (mRet (mAndV (mCall fIsi (mCons (mVar 0) (mCons (mC (.ty "int")) mNil))) (mAndV (m1 fNot (mCall fIsi (mCons (mVar 0) (mCons (mC (.ty "bool")) mNil)))) (m3c cLe cLe (mVar 1) (mVar 0) (mVar 2)))))
def m_is_whole : List D → M D := mDef 3 3 bd_is_whole
theorem d_is_whole (T : Tx K mg base tb) : DefOk P w K mg base (gx K mg tb) 1 "is_whole" m_is_whole 3 :=
  have sc := sc_is_whole
  def_ok (N := ["value", "low", "high"]) (ps := ["value", "low", "high"]) (k := 0) (np := 3) (st := s_is_whole) (b := bd_is_whole) T.f_is_whole sc rfl (fun _ _ _ _ _ _ us hl => match us, hl with | [_, _, _], _ => rfl) fun f cdv A outer s H E hr =>
    (ss_one (ss_ret (se_and (se_callB (bf_isi rfl) rfl T.n_isinstance bo_isinstance (sa_cons (se_var 0 (pv 0)) (sa_cons (se_bty rfl T.n_int bo_int) sa_nil))) (se_and (se_not (se_callB (bf_isi rfl) rfl T.n_isinstance bo_isinstance (sa_cons (se_var 0 (pv 0)) (sa_cons (se_bty rfl T.n_bool bo_bool) sa_nil)))) (se_one (se_chain cmp_le cmp_le (se_var 1 (pv 1)) (se_var 0 (pv 0)) (se_var 2 (pv 2))))))))
theorem sc_is_tuple_of : FnScope ["value", "low", "high"] ["value", "low", "high"] (defScope s_is_tuple_of) := ⟨rfl, rfl, rfl, by decide +kernel, rfl, by decide +kernel, by decide +kernel⟩
def bd_is_tuple_of : MS :=
    (mRet (mAndV (mCall fIsi (mCons (mVar 0) (mCons (mC (.ty "tuple")) mNil))) (m3c cLe cLe (mVar 1) (mCall fLen (mCons (mVar 0) mNil)) (mVar 2))))
def m_is_tuple_of : List D → M D := mDef 3 3 bd_is_tuple_of
theorem d_is_tuple_of (T : Tx K mg base tb) : DefOk P w K mg base (gx K mg tb) 1 "is_tuple_of" m_is_tuple_of 3 :=
  have sc := sc_is_tuple_of
  def_ok (N := ["value", "low", "high"]) (ps := ["value", "low", "high"]) (k := 0) (np := 3) (st := s_is_tuple_of) (b := bd_is_tuple_of) T.f_is_tuple_of sc rfl (fun _ _ _ _ _ _ us hl => match us, hl with | [_, _, _], _ => rfl) fun f cdv A outer s H E hr =>
    (ss_one (ss_ret (se_and (se_callB (bf_isi rfl) rfl T.n_isinstance bo_isinstance (sa_cons (se_var 0 (pv 0)) (sa_cons (se_bty rfl T.n_tuple bo_tuple) sa_nil))) (se_one (se_chain cmp_le cmp_le (se_var 1 (pv 1)) (se_callB (bf_len rfl) rfl T.n_len bo_len (sa_cons (se_var 0 (pv 0)) sa_nil)) (se_var 2 (pv 2)))))))
theorem sc_is_fraction : FnScope ["value", "part"] ["value"] (defScope s_is_fraction) := ⟨rfl, rfl, rfl, by decide +kernel, rfl, by decide +kernel, by decide +kernel⟩
def bd_is_fraction : MS :=
    (mSeq (mIfS (mNot (mTru (mCall m_is_tuple_of (mCons (mVar 0) (mCons (mC (.int 2)) (mCons (mC (.int 2)) mNil)))))) (mRet (mC (.bl false))) mSkip)
    (mSeq (mIfS (mNot (mTru (mCall fAll (mCons (mLc (mIt itS (mVar 0)) (gN 1) mYes (mAndV (mCall fIsi (mCons (mVar 1) (mCons (mC (.ty "int")) mNil))) (m1 fNot (mCall fIsi (mCons (mVar 1) (mCons (mC (.ty "bool")) mNil))))) [1]) mNil)))) (mRet (mC (.bl false))) mSkip)
    (mRet (mAndV (m2 cGe (m2 fIx (mVar 0) (mC (.int 1))) (mC (.int 1))) (m2 (fEq false) (mCall fGcd (mCons (m2 fIx (mVar 0) (mC (.int 0))) (mCons (m2 fIx (mVar 0) (mC (.int 1))) mNil))) (mC (.int 1)))))))
def m_is_fraction : List D → M D := mDef 1 2 bd_is_fraction
theorem d_is_fraction (T : Tx K mg base tb) : DefOk P w K mg base (gx K mg tb) 2 "is_fraction" m_is_fraction 1 :=
  have sc := sc_is_fraction
  def_ok (N := ["value", "part"]) (ps := ["value"]) (k := 1) (np := 1) (st := s_is_fraction) (b := bd_is_fraction) T.f_is_fraction sc rfl (fun _ _ _ _ _ _ us hl => match us, hl with | [_], _ => rfl) fun f cdv A outer s H E hr =>
    (ss_cons (ss_if (st_not (st_tru rfl (se_call (d_is_tuple_of T) hr (by omega) tkE rfl (sa_cons (se_var 0 (pv 0)) (sa_cons se_int (sa_cons se_int sa_nil))) rfl (len_cons (len_cons (len_cons len_nil)))))) (ss_one (ss_ret se_bl)) ss_nil)
    (ss_cons (ss_if (st_not (st_tru rfl (se_callB (bf_all rfl rfl) rfl T.n_all bo_all (sa_cons (se_lc (own := [("part", 1)]) rfl sc.nd (si_seq rfl (se_var 0 (pv 0))) (blkOk_by (N := ["value", "part"]) (sc := defScope s_is_fraction) (by decide +kernel)) (fun _ _ _ _ _ => (sc_n 1 sc.nd)) (fun _ _ _ _ _ => sts_nil) (fun _ _ _ _ _ => (se_and (se_callB (bf_isi rfl) rfl T.n_isinstance bo_isinstance (sa_cons (se_var 1 (pv 1)) (sa_cons (se_bty rfl T.n_int bo_int) sa_nil))) (se_one (se_not (se_callB (bf_isi rfl) rfl T.n_isinstance bo_isinstance (sa_cons (se_var 1 (pv 1)) (sa_cons (se_bty rfl T.n_bool bo_bool) sa_nil)))))))) sa_nil)))) (ss_one (ss_ret se_bl)) ss_nil)
    (ss_one (ss_ret (se_and (se_cmp cmp_ge (se_ix rfl (se_var 0 (pv 0)) se_int) se_int) (se_one (se_cmp (cmp_eq rfl hr.units) (se_callM bf_gcd rfl T.g_gcd (sa_cons (se_ix rfl (se_var 0 (pv 0)) se_int) (sa_cons (se_ix rfl (se_var 0 (pv 0)) se_int) sa_nil))) se_int)))))))
theorem sc_need_fraction : FnScope ["value"] ["value"] (defScope s_need_fraction) := ⟨rfl, rfl, rfl, by decide +kernel, rfl, by decide +kernel, by decide +kernel⟩
def bd_need_fraction : MS :=
    (mIfS (mNot (mTru (mCall m_is_fraction (mCons (mVar 0) mNil)))) (mRaise "InvalidFraction") mSkip)
def m_need_fraction : List D → M D := mDef 1 1 bd_need_fraction
theorem d_need_fraction (T : Tx K mg base tb) : DefOk P w K mg base (gx K mg tb) 3 "need_fraction" m_need_fraction 1 :=
  have sc := sc_need_fraction
  def_ok (N := ["value"]) (ps := ["value"]) (k := 2) (np := 1) (st := s_need_fraction) (b := bd_need_fraction) T.f_need_fraction sc rfl (fun _ _ _ _ _ _ us hl => match us, hl with | [_], _ => rfl) fun f cdv A outer s H E hr =>
    (ss_one (ss_if (st_not (st_tru rfl (se_call (d_is_fraction T) hr (by omega) tkE rfl (sa_cons (se_var 0 (pv 0)) sa_nil) rfl (len_cons len_nil)))) (ss_one (ss_raise rfl tkE T.e_InvalidFraction rfl rfl)) ss_nil))
theorem sc_lowest : FnScope ["top", "bottom", "shared"] ["top", "bottom"] (defScope s_lowest) := ⟨rfl, rfl, rfl, by decide +kernel, rfl, by decide +kernel, by decide +kernel⟩
def bd_lowest : MS :=
    (mSeq (mAsg (mCall fGcd (mCons (mVar 0) (mCons (mVar 1) mNil))) (gN 2))
    (mSeq (mPar 0 1 (mCons (m2 fDiv (mVar 0) (mVar 2)) (mCons (m2 fDiv (mVar 1) (mVar 2)) mNil)))
    (mRet (mIf (mB (m2 cGt (mVar 1) (mC (.int 0)))) (mCall fTup (mCons (mVar 0) (mCons (mVar 1) mNil))) (mCall fTup (mCons (m1 fNeg (mVar 0)) (mCons (m1 fNeg (mVar 1)) mNil)))))))
def m_lowest : List D → M D := mDef 2 3 bd_lowest
theorem d_lowest (T : Tx K mg base tb) : DefOk P w K mg base (gx K mg tb) 1 "lowest" m_lowest 2 :=
  have sc := sc_lowest
  def_ok (N := ["top", "bottom", "shared"]) (ps := ["top", "bottom"]) (k := 0) (np := 2) (st := s_lowest) (b := bd_lowest) T.f_lowest sc rfl (fun _ _ _ _ _ _ us hl => match us, hl with | [_, _], _ => rfl) fun f cdv A outer s H E hr =>
    (ss_cons (ss_setN 2 sc.nd (se_callM bf_gcd rfl T.g_gcd (sa_cons (se_var 0 (pv 0)) (sa_cons (se_var 1 (pv 1)) sa_nil))))
    (ss_cons (ss_par rfl sc.nd rfl rfl (by decide) rfl rfl (sa_cons (se_div (se_var 0 (pv 0)) (se_var 2 (pv 2))) (sa_cons (se_div (se_var 1 (pv 1)) (se_var 2 (pv 2))) sa_nil)))
    (ss_one (ss_ret (se_if (st_cmp cmp_gt (se_var 1 (pv 1)) se_int) (se_tup (sa_cons (se_var 0 (pv 0)) (sa_cons (se_var 1 (pv 1)) sa_nil))) (se_tup (sa_cons (se_neg (se_var 0 (pv 0))) (sa_cons (se_neg (se_var 1 (pv 1))) sa_nil))))))))
theorem sc_plus : FnScope ["one", "other"] ["one", "other"] (defScope s_plus) := ⟨rfl, rfl, rfl, by decide +kernel, rfl, by decide +kernel, by decide +kernel⟩
def bd_plus : MS :=
    (mRet (mCall m_lowest (mCons (m2 fAdd (m2 fMul (m2 fIx (mVar 0) (mC (.int 0))) (m2 fIx (mVar 1) (mC (.int 1)))) (m2 fMul (m2 fIx (mVar 1) (mC (.int 0))) (m2 fIx (mVar 0) (mC (.int 1))))) (mCons (m2 fMul (m2 fIx (mVar 0) (mC (.int 1))) (m2 fIx (mVar 1) (mC (.int 1)))) mNil))))
def m_plus : List D → M D := mDef 2 2 bd_plus
theorem d_plus (T : Tx K mg base tb) : DefOk P w K mg base (gx K mg tb) 2 "plus" m_plus 2 :=
  have sc := sc_plus
  def_ok (N := ["one", "other"]) (ps := ["one", "other"]) (k := 1) (np := 2) (st := s_plus) (b := bd_plus) T.f_plus sc rfl (fun _ _ _ _ _ _ us hl => match us, hl with | [_, _], _ => rfl) fun f cdv A outer s H E hr =>
    (ss_one (ss_ret (se_call (d_lowest T) hr (by omega) tkE rfl (sa_cons (se_add rfl (se_mul rfl (se_ix rfl (se_var 0 (pv 0)) se_int) (se_ix rfl (se_var 1 (pv 1)) se_int)) (se_mul rfl (se_ix rfl (se_var 1 (pv 1)) se_int) (se_ix rfl (se_var 0 (pv 0)) se_int))) (sa_cons (se_mul rfl (se_ix rfl (se_var 0 (pv 0)) se_int) (se_ix rfl (se_var 1 (pv 1)) se_int)) sa_nil)) rfl (len_cons (len_cons len_nil)))))
theorem sc_times : FnScope ["one", "other"] ["one", "other"] (defScope s_times) := ⟨rfl, rfl, rfl, by decide +kernel, rfl, by decide +kernel, by decide +kernel⟩
def bd_times : MS :=
    (mRet (mCall m_lowest (mCons (m2 fMul (m2 fIx (mVar 0) (mC (.int 0))) (m2 fIx (mVar 1) (mC (.int 0)))) (mCons (m2 fMul (m2 fIx (mVar 0) (mC (.int 1))) (m2 fIx (mVar 1) (mC (.int 1)))) mNil))))
def m_times : List D → M D := mDef 2 2 bd_times
theorem d_times (T : Tx K mg base tb) : DefOk P w K mg base (gx K mg tb) 2 "times" m_times 2 :=
  have sc := sc_times
  def_ok (N := ["one", "other"]) (ps := ["one", "other"]) (k := 1) (np := 2) (st := s_times) (b := bd_times) T.f_times sc rfl (fun _ _ _ _ _ _ us hl => match us, hl with | [_, _], _ => rfl) fun f cdv A outer s H E hr =>
    (ss_one (ss_ret (se_call (d_lowest T) hr (by omega) tkE rfl (sa_cons (se_mul rfl (se_ix rfl (se_var 0 (pv 0)) se_int) (se_ix rfl (se_var 1 (pv 1)) se_int)) (sa_cons (se_mul rfl (se_ix rfl (se_var 0 (pv 0)) se_int) (se_ix rfl (se_var 1 (pv 1)) se_int)) sa_nil)) rfl (len_cons (len_cons len_nil)))))
theorem sc_over : FnScope ["one", "other"] ["one", "other"] (defScope s_over) := ⟨rfl, rfl, rfl, by decide +kernel, rfl, by decide +kernel, by decide +kernel⟩
def bd_over : MS :=
    (mRet (mCall m_lowest (mCons (m2 fMul (m2 fIx (mVar 0) (mC (.int 0))) (m2 fIx (mVar 1) (mC (.int 1)))) (mCons (m2 fMul (m2 fIx (mVar 0) (mC (.int 1))) (m2 fIx (mVar 1) (mC (.int 0)))) mNil))))
def m_over : List D → M D := mDef 2 2 bd_over
theorem d_over (T : Tx K mg base tb) : DefOk P w K mg base (gx K mg tb) 2 "over" m_over 2 :=
  have sc := sc_over
  def_ok (N := ["one", "other"]) (ps := ["one", "other"]) (k := 1) (np := 2) (st := s_over) (b := bd_over) T.f_over sc rfl (fun _ _ _ _ _ _ us hl => match us, hl with | [_, _], _ => rfl) fun f cdv A outer s H E hr =>
    (ss_one (ss_ret (se_call (d_lowest T) hr (by omega) tkE rfl (sa_cons (se_mul rfl (se_ix rfl (se_var 0 (pv 0)) se_int) (se_ix rfl (se_var 1 (pv 1)) se_int)) (sa_cons (se_mul rfl (se_ix rfl (se_var 0 (pv 0)) se_int) (se_ix rfl (se_var 1 (pv 1)) se_int)) sa_nil)) rfl (len_cons (len_cons len_nil)))))
theorem sc_fraction_sum : FnScope ["one", "other"] ["one", "other"] (defScope s_fraction_sum) := ⟨rfl, rfl, rfl, by decide +kernel, rfl, by decide +kernel, by decide +kernel⟩
def bd_fraction_sum : MS :=
    (mSeq (mExpr (mCall m_need_fraction (mCons (mVar 0) mNil)))
    (mSeq (mExpr (mCall m_need_fraction (mCons (mVar 1) mNil)))
    (mRet (mCall m_plus (mCons (mVar 0) (mCons (mVar 1) mNil))))))
def m_fraction_sum : List D → M D := mDef 2 2 bd_fraction_sum
theorem d_fraction_sum (T : Tx K mg base tb) : DefOk P w K mg base (gx K mg tb) 4 "fraction_sum" m_fraction_sum 2 :=
  have sc := sc_fraction_sum
  def_ok (N := ["one", "other"]) (ps := ["one", "other"]) (k := 3) (np := 2) (st := s_fraction_sum) (b := bd_fraction_sum) T.f_fraction_sum sc rfl (fun _ _ _ _ _ _ us hl => match us, hl with | [_, _], _ => rfl) fun f cdv A outer s H E hr =>
    (ss_cons (ss_expr (se_call (d_need_fraction T) hr (by omega) tkE rfl (sa_cons (se_var 0 (pv 0)) sa_nil) rfl (len_cons len_nil)))
    (ss_cons (ss_expr (se_call (d_need_fraction T) hr (by omega) tkE rfl (sa_cons (se_var 1 (pv 1)) sa_nil) rfl (len_cons len_nil)))
    (ss_one (ss_ret (se_call (d_plus T) hr (by omega) tkE rfl (sa_cons (se_var 0 (pv 0)) (sa_cons (se_var 1 (pv 1)) sa_nil)) rfl (len_cons (len_cons len_nil)))))))
theorem sc_fraction_product : FnScope ["one", "other"] ["one", "other"] (defScope s_fraction_product) := ⟨rfl, rfl, rfl, by decide +kernel, rfl, by decide +kernel, by decide +kernel⟩
def bd_fraction_product : MS :=
    (mSeq (mExpr (mCall m_need_fraction (mCons (mVar 0) mNil)))
    (mSeq (mExpr (mCall m_need_fraction (mCons (mVar 1) mNil)))
    (mRet (mCall m_times (mCons (mVar 0) (mCons (mVar 1) mNil))))))
def m_fraction_product : List D → M D := mDef 2 2 bd_fraction_product
theorem d_fraction_product (T : Tx K mg base tb) : DefOk P w K mg base (gx K mg tb) 4 "fraction_product" m_fraction_product 2 :=
  have sc := sc_fraction_product
  def_ok (N := ["one", "other"]) (ps := ["one", "other"]) (k := 3) (np := 2) (st := s_fraction_product) (b := bd_fraction_product) T.f_fraction_product sc rfl (fun _ _ _ _ _ _ us hl => match us, hl with | [_, _], _ => rfl) fun f cdv A outer s H E hr =>
    (ss_cons (ss_expr (se_call (d_need_fraction T) hr (by omega) tkE rfl (sa_cons (se_var 0 (pv 0)) sa_nil) rfl (len_cons len_nil)))
    (ss_cons (ss_expr (se_call (d_need_fraction T) hr (by omega) tkE rfl (sa_cons (se_var 1 (pv 1)) sa_nil) rfl (len_cons len_nil)))
    (ss_one (ss_ret (se_call (d_times T) hr (by omega) tkE rfl (sa_cons (se_var 0 (pv 0)) (sa_cons (se_var 1 (pv 1)) sa_nil)) rfl (len_cons (len_cons len_nil)))))))
theorem sc_fraction_by : FnScope ["one", "other"] ["one", "other"] (defScope s_fraction_by) := ⟨rfl, rfl, rfl, by decide +kernel, rfl, by decide +kernel, by decide +kernel⟩
def bd_fraction_by : MS :=
    (mSeq (mExpr (mCall m_need_fraction (mCons (mVar 0) mNil)))
    (mSeq (mExpr (mCall m_need_fraction (mCons (mVar 1) mNil)))
    (mSeq (mIfS (mB (m2 (fEq false) (m2 fIx (mVar 1) (mC (.int 0))) (mC (.int 0)))) (mRaise "NotFound") mSkip)
    (mRet (mCall m_over (mCons (mVar 0) (mCons (mVar 1) mNil)))))))
def m_fraction_by : List D → M D := mDef 2 2 bd_fraction_by
theorem d_fraction_by (T : Tx K mg base tb) : DefOk P w K mg base (gx K mg tb) 4 "fraction_by" m_fraction_by 2 :=
  have sc := sc_fraction_by
  def_ok (N := ["one", "other"]) (ps := ["one", "other"]) (k := 3) (np := 2) (st := s_fraction_by) (b := bd_fraction_by) T.f_fraction_by sc rfl (fun _ _ _ _ _ _ us hl => match us, hl with | [_, _], _ => rfl) fun f cdv A outer s H E hr =>
    (ss_cons (ss_expr (se_call (d_need_fraction T) hr (by omega) tkE rfl (sa_cons (se_var 0 (pv 0)) sa_nil) rfl (len_cons len_nil)))
    (ss_cons (ss_expr (se_call (d_need_fraction T) hr (by omega) tkE rfl (sa_cons (se_var 1 (pv 1)) sa_nil) rfl (len_cons len_nil)))
    (ss_cons (ss_if (st_cmp (cmp_eq rfl hr.units) (se_ix rfl (se_var 1 (pv 1)) se_int) se_int) (ss_one (ss_raise rfl tkE T.e_NotFound rfl rfl)) ss_nil)
    (ss_one (ss_ret (se_call (d_over T) hr (by omega) tkE rfl (sa_cons (se_var 0 (pv 0)) (sa_cons (se_var 1 (pv 1)) sa_nil)) rfl (len_cons (len_cons len_nil))))))))
theorem sc_is_most : FnScope ["one", "other"] ["one", "other"] (defScope s_is_most) := ⟨rfl, rfl, rfl, by decide +kernel, rfl, by decide +kernel, by decide +kernel⟩
def bd_is_most : MS :=
    (mRet (m2 cLe (m2 fMul (m2 fIx (mVar 0) (mC (.int 0))) (m2 fIx (mVar 1) (mC (.int 1)))) (m2 fMul (m2 fIx (mVar 1) (mC (.int 0))) (m2 fIx (mVar 0) (mC (.int 1))))))
def m_is_most : List D → M D := mDef 2 2 bd_is_most
theorem d_is_most (T : Tx K mg base tb) : DefOk P w K mg base (gx K mg tb) 1 "is_most" m_is_most 2 :=
  have sc := sc_is_most
  def_ok (N := ["one", "other"]) (ps := ["one", "other"]) (k := 0) (np := 2) (st := s_is_most) (b := bd_is_most) T.f_is_most sc rfl (fun _ _ _ _ _ _ us hl => match us, hl with | [_, _], _ => rfl) fun f cdv A outer s H E hr =>
    (ss_one (ss_ret (se_cmp cmp_le (se_mul rfl (se_ix rfl (se_var 0 (pv 0)) se_int) (se_ix rfl (se_var 1 (pv 1)) se_int)) (se_mul rfl (se_ix rfl (se_var 1 (pv 1)) se_int) (se_ix rfl (se_var 0 (pv 0)) se_int)))))
theorem sc_at_most : FnScope ["one", "other"] ["one", "other"] (defScope s_at_most) := ⟨rfl, rfl, rfl, by decide +kernel, rfl, by decide +kernel, by decide +kernel⟩
def bd_at_most : MS :=
    (mSeq (mExpr (mCall m_need_fraction (mCons (mVar 0) mNil)))
    (mSeq (mExpr (mCall m_need_fraction (mCons (mVar 1) mNil)))
    (mRet (mCall m_is_most (mCons (mVar 0) (mCons (mVar 1) mNil))))))
def m_at_most : List D → M D := mDef 2 2 bd_at_most
theorem d_at_most (T : Tx K mg base tb) : DefOk P w K mg base (gx K mg tb) 4 "at_most" m_at_most 2 :=
  have sc := sc_at_most
  def_ok (N := ["one", "other"]) (ps := ["one", "other"]) (k := 3) (np := 2) (st := s_at_most) (b := bd_at_most) T.f_at_most sc rfl (fun _ _ _ _ _ _ us hl => match us, hl with | [_, _], _ => rfl) fun f cdv A outer s H E hr =>
    (ss_cons (ss_expr (se_call (d_need_fraction T) hr (by omega) tkE rfl (sa_cons (se_var 0 (pv 0)) sa_nil) rfl (len_cons len_nil)))
    (ss_cons (ss_expr (se_call (d_need_fraction T) hr (by omega) tkE rfl (sa_cons (se_var 1 (pv 1)) sa_nil) rfl (len_cons len_nil)))
    (ss_one (ss_ret (se_call (d_is_most T) hr (by omega) tkE rfl (sa_cons (se_var 0 (pv 0)) (sa_cons (se_var 1 (pv 1)) sa_nil)) rfl (len_cons (len_cons len_nil)))))))
theorem sc_rest_of : FnScope ["one", "whole"] ["one", "whole"] (defScope s_rest_of) := ⟨rfl, rfl, rfl, by decide +kernel, rfl, by decide +kernel, by decide +kernel⟩
def bd_rest_of : MS :=
    (mRet (mCall m_lowest (mCons (m2 fMod (mCall fInt (mCons (m2 fIx (mVar 0) (mC (.int 0))) mNil)) (m2 fMul (mVar 1) (m2 fIx (mVar 0) (mC (.int 1))))) (mCons (m2 fIx (mVar 0) (mC (.int 1))) mNil))))
def m_rest_of : List D → M D := mDef 2 2 bd_rest_of
theorem d_rest_of (T : Tx K mg base tb) : DefOk P w K mg base (gx K mg tb) 2 "rest_of" m_rest_of 2 :=
  have sc := sc_rest_of
  def_ok (N := ["one", "whole"]) (ps := ["one", "whole"]) (k := 1) (np := 2) (st := s_rest_of) (b := bd_rest_of) T.f_rest_of sc rfl (fun _ _ _ _ _ _ us hl => match us, hl with | [_, _], _ => rfl) fun f cdv A outer s H E hr =>
    (ss_one (ss_ret (se_call (d_lowest T) hr (by omega) tkE rfl (sa_cons (se_mod (se_callTy (bf_int) rfl T.n_int bo_int (sa_cons (se_ix rfl (se_var 0 (pv 0)) se_int) sa_nil)) (se_mul rfl (se_var 1 (pv 1)) (se_ix rfl (se_var 0 (pv 0)) se_int))) (sa_cons (se_ix rfl (se_var 0 (pv 0)) se_int) sa_nil)) rfl (len_cons (len_cons len_nil)))))
theorem sc_fraction_rest : FnScope ["one", "whole"] ["one", "whole"] (defScope s_fraction_rest) := ⟨rfl, rfl, rfl, by decide +kernel, rfl, by decide +kernel, by decide +kernel⟩
def bd_fraction_rest : MS :=
    (mSeq (mExpr (mCall m_need_fraction (mCons (mVar 0) mNil)))
    (mSeq (mIfS (mNot (mTru (mCall m_is_whole (mCons (mVar 1) (mCons (mC (.int 1)) (mCons (mC (.int 2)) mNil)))))) (mRaise "InvalidNumber") mSkip)
    (mRet (mCall m_rest_of (mCons (mVar 0) (mCons (mVar 1) mNil))))))
def m_fraction_rest : List D → M D := mDef 2 2 bd_fraction_rest
theorem d_fraction_rest (T : Tx K mg base tb) : DefOk P w K mg base (gx K mg tb) 4 "fraction_rest" m_fraction_rest 2 :=
  have sc := sc_fraction_rest
  def_ok (N := ["one", "whole"]) (ps := ["one", "whole"]) (k := 3) (np := 2) (st := s_fraction_rest) (b := bd_fraction_rest) T.f_fraction_rest sc rfl (fun _ _ _ _ _ _ us hl => match us, hl with | [_, _], _ => rfl) fun f cdv A outer s H E hr =>
    (ss_cons (ss_expr (se_call (d_need_fraction T) hr (by omega) tkE rfl (sa_cons (se_var 0 (pv 0)) sa_nil) rfl (len_cons len_nil)))
    (ss_cons (ss_if (st_not (st_tru rfl (se_call (d_is_whole T) hr (by omega) tkE rfl (sa_cons (se_var 1 (pv 1)) (sa_cons se_int (sa_cons se_int sa_nil))) rfl (len_cons (len_cons (len_cons len_nil)))))) (ss_one (ss_raise rfl tkE T.e_InvalidNumber rfl rfl)) ss_nil)
    (ss_one (ss_ret (se_call (d_rest_of T) hr (by omega) tkE rfl (sa_cons (se_var 0 (pv 0)) (sa_cons (se_var 1 (pv 1)) sa_nil)) rfl (len_cons (len_cons len_nil)))))))
theorem sc__law_cup : FnScope ["script", "cell"] ["script"] (defScope s__law_cup) := ⟨rfl, rfl, rfl, by decide +kernel, rfl, by decide +kernel, by decide +kernel⟩
def bd__law_cup : MS :=
    (mSeq (mAsg (mCall fAbs (mCons (m2 fIx (m2 fAdd (mCall fList (mCons (mVar 0) mNil)) (mCall fLst (mCons (mC (.int 0)) mNil))) (mC (.int 0))) mNil)) (gN 1))
    (mRet (mCall fNew (mCons (mIf (mB (m2 cGe (mVar 1) (m2 fPow (mC (.int 10)) (mC (.int 18))))) (m2 fDiv (mVar 1) (mC (.int 313))) (mC (.int 0))) (mCons (m2 fMod (mCall fInt (mCons (m2 fAdd (m2 fMul (mVar 1) (mC (.int 1093))) (mC (.int 97687))) mNil)) (mC (.int 1048576))) mNil)))))
def m__law_cup : List D → M D := mDef 1 2 bd__law_cup
theorem d__law_cup (T : Tx K mg base tb) : DefOk P w K mg base (gx K mg tb) 1 "_law_cup" m__law_cup 1 :=
  have sc := sc__law_cup
  def_ok (N := ["script", "cell"]) (ps := ["script"]) (k := 0) (np := 1) (st := s__law_cup) (b := bd__law_cup) T.f__law_cup sc rfl (fun _ _ _ _ _ _ us hl => match us, hl with | [_], _ => rfl) fun f cdv A outer s H E hr =>
    (ss_cons (ss_setN 1 sc.nd (se_callB (bf_abs) rfl T.n_abs bo_abs (sa_cons (se_ix rfl (se_add rfl (se_callTy (bf_list rfl) rfl T.n_list bo_list (sa_cons (se_var 0 (pv 0)) sa_nil)) (se_lst (sa_cons se_int sa_nil))) se_int) sa_nil)))
    (ss_one (ss_ret (se_new (sa_cons (se_if (st_cmp cmp_ge (se_var 1 (pv 1)) (se_pow se_int se_int)) (se_div (se_var 1 (pv 1)) se_int) se_int) (sa_cons (se_mod (se_callTy (bf_int) rfl T.n_int bo_int (sa_cons (se_add rfl (se_mul rfl (se_var 1 (pv 1)) se_int) se_int) sa_nil)) se_int) sa_nil))))))
theorem sc__law_roll : FnScope ["cup", "many", "found"] ["cup", "many"] (defScope s__law_roll) := ⟨rfl, rfl, rfl, by decide +kernel, rfl, by decide +kernel, by decide +kernel⟩
def bd__law_roll : MS :=
    (mSeq (mIfS (mB (m2 cGt (m2 fIx (mVar 0) (mC (.int 0))) (mC (.int 0)))) (mSeq (mAsg (m2 fMod (mCall fInt (mCons (m2 fIx (mVar 0) (mC (.int 0))) mNil)) (mVar 1)) (gN 2))
    (mSeq (mAsg (m2 fDiv (m2 fIx (mVar 0) (mC (.int 0))) (mVar 1)) (gSubD (mVar 0) (mC (.int 0))))
    (mRet (mVar 2)))) mSkip)
    (mSeq (mAsg (m2 fMod (mCall fInt (mCons (m2 fAdd (m2 fMul (m2 fIx (mVar 0) (mC (.int 1))) (mC (.int 23269))) (mC (.int 48437))) mNil)) (mC (.int 1048576))) (gSubD (mVar 0) (mC (.int 1))))
    (mRet (m2 fMod (mCall fInt (mCons (m2 fDiv (m2 fIx (mVar 0) (mC (.int 1))) (mC (.int 139))) mNil)) (mVar 1)))))
def m__law_roll : List D → M D := mDef 2 3 bd__law_roll
theorem d__law_roll (T : Tx K mg base tb) : DefOk P w K mg base (gx K mg tb) 1 "_law_roll" m__law_roll 2 :=
  have sc := sc__law_roll
  def_ok (N := ["cup", "many", "found"]) (ps := ["cup", "many"]) (k := 0) (np := 2) (st := s__law_roll) (b := bd__law_roll) T.f__law_roll sc rfl (fun _ _ _ _ _ _ us hl => match us, hl with | [_, _], _ => rfl) fun f cdv A outer s H E hr =>
    (ss_cons (ss_if (st_cmp cmp_gt (se_ix rfl (se_var 0 (pv 0)) se_int) se_int) (ss_cons (ss_setN 2 sc.nd (se_mod (se_callTy (bf_int) rfl T.n_int bo_int (sa_cons (se_ix rfl (se_var 0 (pv 0)) se_int) sa_nil)) (se_var 1 (pv 1))))
    (ss_cons (ss_asg (se_div (se_ix rfl (se_var 0 (pv 0)) se_int) (se_var 1 (pv 1))) (sg_sub (se_var 0 (pv 0)) se_int))
    (ss_one (ss_ret (se_var 2 (pv 2)))))) ss_nil)
    (ss_cons (ss_asg (se_mod (se_callTy (bf_int) rfl T.n_int bo_int (sa_cons (se_add rfl (se_mul rfl (se_ix rfl (se_var 0 (pv 0)) se_int) se_int) se_int) sa_nil)) se_int) (sg_sub (se_var 0 (pv 0)) se_int))
    (ss_one (ss_ret (se_mod (se_callTy (bf_int) rfl T.n_int bo_int (sa_cons (se_div (se_ix rfl (se_var 0 (pv 0)) se_int) se_int) sa_nil)) (se_var 1 (pv 1)))))))
theorem sc__law_some : FnScope ["cup", "things"] ["cup", "things"] (defScope s__law_some) := ⟨rfl, rfl, rfl, by decide +kernel, rfl, by decide +kernel, by decide +kernel⟩
def bd__law_some : MS :=
    (mRet (m2 fIx (mVar 1) (mCall m__law_roll (mCons (mVar 0) (mCons (mCall fLen (mCons (mVar 1) mNil)) mNil)))))
def m__law_some : List D → M D := mDef 2 2 bd__law_some
theorem d__law_some (T : Tx K mg base tb) : DefOk P w K mg base (gx K mg tb) 2 "_law_some" m__law_some 2 :=
  have sc := sc__law_some
  def_ok (N := ["cup", "things"]) (ps := ["cup", "things"]) (k := 1) (np := 2) (st := s__law_some) (b := bd__law_some) T.f__law_some sc rfl (fun _ _ _ _ _ _ us hl => match us, hl with | [_, _], _ => rfl) fun f cdv A outer s H E hr =>
    (ss_one (ss_ret (se_ix rfl (se_var 1 (pv 1)) (se_call (d__law_roll T) hr (by omega) tkE rfl (sa_cons (se_var 0 (pv 0)) (sa_cons (se_callB (bf_len rfl) rfl T.n_len bo_len (sa_cons (se_var 1 (pv 1)) sa_nil)) sa_nil)) rfl (len_cons (len_cons len_nil))))))
theorem sc__law_sort : FnScope ["value"] ["value"] (defScope s__law_sort) := ⟨rfl, rfl, rfl, by decide +kernel, rfl, by decide +kernel, by decide +kernel⟩
def bd__law_sort : MS :=
    (mSeq (mIfS (mOr (mB (m2 (fIsN false) (mVar 0) (mC .non))) (mTru (mCall fIsi (mCons (mVar 0) (mCons (mC (.ty "bool")) mNil))))) (mRet (mIf (mB (m2 (fIsN false) (mVar 0) (mC .non))) (mC (.int 0)) (mC (.int 1)))) mSkip)
    (mSeq (mIfS (mOr (mTru (mCall fIsi (mCons (mVar 0) (mCons (mC (.ty "int")) mNil)))) (mTru (mCall fIsi (mCons (mVar 0) (mCons (mC (.ty "str")) mNil))))) (mRet (mIf (mTru (mCall fIsi (mCons (mVar 0) (mCons (mC (.ty "int")) mNil)))) (mC (.int 2)) (mC (.int 3)))) mSkip)
    (mRet (mIf (mTru (mCall fIsi (mCons (mVar 0) (mCons (mC (.ty "tuple")) mNil)))) (mC (.int 4)) (mIf (mTru (mCall fIsi (mCons (mVar 0) (mCons (mC (.ty "list")) mNil)))) (mC (.int 5)) (mC (.int 6)))))))
def m__law_sort : List D → M D := mDef 1 1 bd__law_sort
theorem d__law_sort (T : Tx K mg base tb) : DefOk P w K mg base (gx K mg tb) 1 "_law_sort" m__law_sort 1 :=
  have sc := sc__law_sort
  def_ok (N := ["value"]) (ps := ["value"]) (k := 0) (np := 1) (st := s__law_sort) (b := bd__law_sort) T.f__law_sort sc rfl (fun _ _ _ _ _ _ us hl => match us, hl with | [_], _ => rfl) fun f cdv A outer s H E hr =>
    (ss_cons (ss_if (PW.pt (sw_or (st_cmp cmp_is (se_var 0 (pv 0)) se_non) (sw_or1 (st_tru rfl (se_callB (bf_isi rfl) rfl T.n_isinstance bo_isinstance (sa_cons (se_var 0 (pv 0)) (sa_cons (se_bty rfl T.n_bool bo_bool) sa_nil))))))) (ss_one (ss_ret (se_if (st_cmp cmp_is (se_var 0 (pv 0)) se_non) se_int se_int))) ss_nil)
    (ss_cons (ss_if (PW.pt (sw_or (st_tru rfl (se_callB (bf_isi rfl) rfl T.n_isinstance bo_isinstance (sa_cons (se_var 0 (pv 0)) (sa_cons (se_bty rfl T.n_int bo_int) sa_nil)))) (sw_or1 (st_tru rfl (se_callB (bf_isi rfl) rfl T.n_isinstance bo_isinstance (sa_cons (se_var 0 (pv 0)) (sa_cons (se_bty rfl T.n_str bo_str) sa_nil))))))) (ss_one (ss_ret (se_if (st_tru rfl (se_callB (bf_isi rfl) rfl T.n_isinstance bo_isinstance (sa_cons (se_var 0 (pv 0)) (sa_cons (se_bty rfl T.n_int bo_int) sa_nil)))) se_int se_int))) ss_nil)
    (ss_one (ss_ret (se_if (st_tru rfl (se_callB (bf_isi rfl) rfl T.n_isinstance bo_isinstance (sa_cons (se_var 0 (pv 0)) (sa_cons (se_bty rfl T.n_tuple bo_tuple) sa_nil)))) se_int (se_if (st_tru rfl (se_callB (bf_isi rfl) rfl T.n_isinstance bo_isinstance (sa_cons (se_var 0 (pv 0)) (sa_cons (se_bty rfl T.n_list bo_list) sa_nil)))) se_int se_int))))))
theorem sc__law_like : FnScope ["one", "other", "sort", "first", "second"] ["one", "other"] (defScope s__law_like) := ⟨rfl, rfl, rfl, by decide +kernel, rfl, by decide +kernel, by decide +kernel⟩
def bd__law_like (rc : List D → M D) : MS :=
    (mSeq (mAsg (mCall m__law_sort (mCons (mVar 1) mNil)) (gN 2))
    (mSeq (mIfS (mOr (mB (m2 (fEq true) (mCall m__law_sort (mCons (mVar 0) mNil)) (mVar 2))) (mB (m2 (fEq false) (mVar 2) (mC (.int 6))))) (mRet (mC (.bl false))) mSkip)
    (mSeq (mIfS (mB (m2 (fIn false) (mVar 2) (mCall fTup (mCons (mC (.int 4)) (mCons (mC (.int 5)) mNil))))) (mRet (mAndV (m2 (fEq false) (mCall fLen (mCons (mVar 0) mNil)) (mCall fLen (mCons (mVar 1) mNil))) (m2 (fEq false) (mLc (mItN fZip (mCons (mVar 0) (mCons (mVar 1) mNil))) (gTupD 2 (gsCons (gN 3) (gsCons (gN 4) gsNil))) (mNot (mTru (mCall rc (mCons (mVar 3) (mCons (mVar 4) mNil))))) (mC (.int 1)) [3, 4]) (mCall fLst mNil)))) mSkip)
    (mRet (m2 (fEq false) (mVar 0) (mVar 1))))))
def m__law_like : Nat → List D → M D
  | 0 => fun _ => noM
  | n + 1 => mDef 2 5 (bd__law_like (m__law_like n))
theorem d__law_like (T : Tx K mg base tb) : ∀ n, DefOk P w K mg base (gx K mg tb) (2 + n) "_law_like" (m__law_like n) 2
  | 0 => def_zero T.f__law_like (ps := ["one", "other"]) rfl (fun _ _ _ _ _ _ us hl => match us, hl with | [_, _], _ => rfl)
  | n + 1 =>
  have ih := d__law_like T n
  have sc := sc__law_like
  def_ok (N := ["one", "other", "sort", "first", "second"]) (ps := ["one", "other"]) (k := 2 + n) (np := 2) (st := s__law_like) (b := bd__law_like (m__law_like n)) T.f__law_like sc rfl (fun _ _ _ _ _ _ us hl => match us, hl with | [_, _], _ => rfl) fun f cdv A outer s H E hr =>
    (ss_cons (ss_setN 2 sc.nd (se_call (d__law_sort T) hr (by omega) tkE rfl (sa_cons (se_var 1 (pv 1)) sa_nil) rfl (len_cons len_nil)))
    (ss_cons (ss_if (PW.pt (sw_or (st_cmp (cmp_ne rfl hr.units) (se_call (d__law_sort T) hr (by omega) tkE rfl (sa_cons (se_var 0 (pv 0)) sa_nil) rfl (len_cons len_nil)) (se_var 2 (pv 2))) (sw_or1 (st_cmp (cmp_eq rfl hr.units) (se_var 2 (pv 2)) se_int)))) (ss_one (ss_ret se_bl)) ss_nil)
    (ss_cons (ss_if (st_cmp (cmp_in rfl) (se_var 2 (pv 2)) (se_tup (sa_cons se_int (sa_cons se_int sa_nil)))) (ss_one (ss_ret (se_and (se_cmp (cmp_eq rfl hr.units) (se_callB (bf_len rfl) rfl T.n_len bo_len (sa_cons (se_var 0 (pv 0)) sa_nil)) (se_callB (bf_len rfl) rfl T.n_len bo_len (sa_cons (se_var 1 (pv 1)) sa_nil))) (se_one (se_cmp (cmp_eq rfl hr.units) (se_lc (own := [("first", 3), ("second", 4)]) rfl sc.nd (si_zip rfl rfl T.n_zip (sa_cons (se_var 0 (pv 0)) (sa_cons (se_var 1 (pv 1)) sa_nil))) (blkOk_by (N := ["one", "other", "sort", "first", "second"]) (sc := defScope s__law_like) (by decide +kernel)) (fun _ _ _ _ _ => (sc_tup rfl rfl (scs_cons (sc_n 3 sc.nd) (scs_cons (sc_n 4 sc.nd) scs_nil)))) (fun _ _ _ _ _ => (sts_one (st_not (st_tru rfl (se_call ih hr (by omega) tk0 rfl (sa_cons (se_var 3 (pv 3)) (sa_cons (se_var 4 (pv 4)) sa_nil)) rfl (len_cons (len_cons len_nil))))))) (fun _ _ _ _ _ => se_int)) (se_lst sa_nil)))))) ss_nil)
    (ss_one (ss_ret (se_cmp (cmp_eq rfl hr.units) (se_var 0 (pv 0)) (se_var 1 (pv 1))))))))
theorem sc__law_lowest : FnScope ["top", "bottom", "one", "other", "step"] ["top", "bottom"] (defScope s__law_lowest) := ⟨rfl, rfl, rfl, by decide +kernel, rfl, by decide +kernel, by decide +kernel⟩
def bd__law_lowest : MS :=
    (mSeq (mPar 2 3 (mCons (mCall fAbs (mCons (mVar 0) mNil)) (mCons (mCall fAbs (mCons (mVar 1) mNil)) mNil)))
    (mSeq (mFor (mItN fRg1 (mCons (mC (.int 6000)) mNil)) (gN 4) (mSeq (mIfS (mB (m2 (fEq false) (mVar 3) (mC (.int 0)))) mBrk mSkip)
    (mPar 2 3 (mCons (mVar 3) (mCons (m2 fMod (mCall fInt (mCons (mVar 2) mNil)) (mVar 3)) mNil)))))
    (mSeq (mPar 0 1 (mCons (m2 fDiv (mVar 0) (mVar 2)) (mCons (m2 fDiv (mVar 1) (mVar 2)) mNil)))
    (mRet (mIf (mB (m2 cGt (mVar 1) (mC (.int 0)))) (mCall fTup (mCons (mVar 0) (mCons (mVar 1) mNil))) (mCall fTup (mCons (m1 fNeg (mVar 0)) (mCons (m1 fNeg (mVar 1)) mNil))))))))
def m__law_lowest : List D → M D := mDef 2 5 bd__law_lowest
theorem d__law_lowest (T : Tx K mg base tb) : DefOk P w K mg base (gx K mg tb) 1 "_law_lowest" m__law_lowest 2 :=
  have sc := sc__law_lowest
  def_ok (N := ["top", "bottom", "one", "other", "step"]) (ps := ["top", "bottom"]) (k := 0) (np := 2) (st := s__law_lowest) (b := bd__law_lowest) T.f__law_lowest sc rfl (fun _ _ _ _ _ _ us hl => match us, hl with | [_, _], _ => rfl) fun f cdv A outer s H E hr =>
    (ss_cons (ss_par rfl sc.nd rfl rfl (by decide) rfl rfl (sa_cons (se_callB (bf_abs) rfl T.n_abs bo_abs (sa_cons (se_var 0 (pv 0)) sa_nil)) (sa_cons (se_callB (bf_abs) rfl T.n_abs bo_abs (sa_cons (se_var 1 (pv 1)) sa_nil)) sa_nil)))
    (ss_cons (ss_for psE rfl (si_rg1 rfl T.n_range (sa_cons se_int sa_nil)) (sg_n 4 sc.nd) (ss_cons (ss_if (st_cmp (cmp_eq rfl hr.units) (se_var 3 (pv 3)) se_int) (ss_one ss_break) ss_nil)
    (ss_one (ss_par rfl sc.nd rfl rfl (by decide) rfl rfl (sa_cons (se_var 3 (pv 3)) (sa_cons (se_mod (se_callTy (bf_int) rfl T.n_int bo_int (sa_cons (se_var 2 (pv 2)) sa_nil)) (se_var 3 (pv 3))) sa_nil))))))
    (ss_cons (ss_par rfl sc.nd rfl rfl (by decide) rfl rfl (sa_cons (se_div (se_var 0 (pv 0)) (se_var 2 (pv 2))) (sa_cons (se_div (se_var 1 (pv 1)) (se_var 2 (pv 2))) sa_nil)))
    (ss_one (ss_ret (se_if (st_cmp cmp_gt (se_var 1 (pv 1)) se_int) (se_tup (sa_cons (se_var 0 (pv 0)) (sa_cons (se_var 1 (pv 1)) sa_nil))) (se_tup (sa_cons (se_neg (se_var 0 (pv 0))) (sa_cons (se_neg (se_var 1 (pv 1))) sa_nil)))))))))
theorem sc__law_plus : FnScope ["one", "other"] ["one", "other"] (defScope s__law_plus) := ⟨rfl, rfl, rfl, by decide +kernel, rfl, by decide +kernel, by decide +kernel⟩
def bd__law_plus : MS :=
    (mRet (mCall m__law_lowest (mCons (m2 fAdd (m2 fMul (m2 fIx (mVar 0) (mC (.int 0))) (m2 fIx (mVar 1) (mC (.int 1)))) (m2 fMul (m2 fIx (mVar 1) (mC (.int 0))) (m2 fIx (mVar 0) (mC (.int 1))))) (mCons (m2 fMul (m2 fIx (mVar 0) (mC (.int 1))) (m2 fIx (mVar 1) (mC (.int 1)))) mNil))))
def m__law_plus : List D → M D := mDef 2 2 bd__law_plus
theorem d__law_plus (T : Tx K mg base tb) : DefOk P w K mg base (gx K mg tb) 2 "_law_plus" m__law_plus 2 :=
  have sc := sc__law_plus
  def_ok (N := ["one", "other"]) (ps := ["one", "other"]) (k := 1) (np := 2) (st := s__law_plus) (b := bd__law_plus) T.f__law_plus sc rfl (fun _ _ _ _ _ _ us hl => match us, hl with | [_, _], _ => rfl) fun f cdv A outer s H E hr =>
    (ss_one (ss_ret (se_call (d__law_lowest T) hr (by omega) tkE rfl (sa_cons (se_add rfl (se_mul rfl (se_ix rfl (se_var 0 (pv 0)) se_int) (se_ix rfl (se_var 1 (pv 1)) se_int)) (se_mul rfl (se_ix rfl (se_var 1 (pv 1)) se_int) (se_ix rfl (se_var 0 (pv 0)) se_int))) (sa_cons (se_mul rfl (se_ix rfl (se_var 0 (pv 0)) se_int) (se_ix rfl (se_var 1 (pv 1)) se_int)) sa_nil)) rfl (len_cons (len_cons len_nil)))))
theorem sc__law_times : FnScope ["one", "other"] ["one", "other"] (defScope s__law_times) := ⟨rfl, rfl, rfl, by decide +kernel, rfl, by decide +kernel, by decide +kernel⟩
def bd__law_times : MS :=
    (mRet (mCall m__law_lowest (mCons (m2 fMul (m2 fIx (mVar 0) (mC (.int 0))) (m2 fIx (mVar 1) (mC (.int 0)))) (mCons (m2 fMul (m2 fIx (mVar 0) (mC (.int 1))) (m2 fIx (mVar 1) (mC (.int 1)))) mNil))))
def m__law_times : List D → M D := mDef 2 2 bd__law_times
theorem d__law_times (T : Tx K mg base tb) : DefOk P w K mg base (gx K mg tb) 2 "_law_times" m__law_times 2 :=
  have sc := sc__law_times
  def_ok (N := ["one", "other"]) (ps := ["one", "other"]) (k := 1) (np := 2) (st := s__law_times) (b := bd__law_times) T.f__law_times sc rfl (fun _ _ _ _ _ _ us hl => match us, hl with | [_, _], _ => rfl) fun f cdv A outer s H E hr =>
    (ss_one (ss_ret (se_call (d__law_lowest T) hr (by omega) tkE rfl (sa_cons (se_mul rfl (se_ix rfl (se_var 0 (pv 0)) se_int) (se_ix rfl (se_var 1 (pv 1)) se_int)) (sa_cons (se_mul rfl (se_ix rfl (se_var 0 (pv 0)) se_int) (se_ix rfl (se_var 1 (pv 1)) se_int)) sa_nil)) rfl (len_cons (len_cons len_nil)))))
theorem sc__law_fraction : FnScope ["cup", "far", "top"] ["cup"] (defScope s__law_fraction) := ⟨rfl, rfl, rfl, by decide +kernel, rfl, by decide +kernel, by decide +kernel⟩
def bd__law_fraction : MS :=
    (mSeq (mAsg (mCall m__law_some (mCons (mVar 0) (mCons (mCall fLst (mCons (mC (.int 4)) (mCons (mC (.int 12)) (mCons (m2 fPow (mC (.int 10)) (mC (.int 6))) (mCons (m2 fPow (mC (.int 10)) (mC (.int 20))) mNil))))) mNil))) (gN 1))
    (mSeq (mAsg (mIf (mB (m2 cGt (mCall m__law_roll (mCons (mVar 0) (mCons (mC (.int 3)) mNil))) (mC (.int 0)))) (m2 fSub (mCall m__law_roll (mCons (mVar 0) (mCons (mC (.int 9)) mNil))) (mC (.int 4))) (m2 fMul (m2 fSub (mC (.int 1)) (m2 fMul (mC (.int 2)) (mCall m__law_roll (mCons (mVar 0) (mCons (mC (.int 2)) mNil))))) (m2 fAdd (mVar 1) (mCall m__law_roll (mCons (mVar 0) (mCons (mC (.int 30)) mNil)))))) (gN 2))
    (mRet (mCall m__law_lowest (mCons (mVar 2) (mCons (mCall m__law_some (mCons (mVar 0) (mCons (mCall fLst (mCons (mC (.int 1)) (mCons (mC (.int 2)) (mCons (mC (.int 3)) (mCons (mC (.int 6)) (mCons (m2 fAdd (mVar 1) (mCall m__law_roll (mCons (mVar 0) (mCons (mC (.int 7)) mNil)))) mNil)))))) mNil))) mNil))))))
def m__law_fraction : List D → M D := mDef 1 3 bd__law_fraction
theorem d__law_fraction (T : Tx K mg base tb) : DefOk P w K mg base (gx K mg tb) 3 "_law_fraction" m__law_fraction 1 :=
  have sc := sc__law_fraction
  def_ok (N := ["cup", "far", "top"]) (ps := ["cup"]) (k := 2) (np := 1) (st := s__law_fraction) (b := bd__law_fraction) T.f__law_fraction sc rfl (fun _ _ _ _ _ _ us hl => match us, hl with | [_], _ => rfl) fun f cdv A outer s H E hr =>
    (ss_cons (ss_setN 1 sc.nd (se_call (d__law_some T) hr (by omega) tkE rfl (sa_cons (se_var 0 (pv 0)) (sa_cons (se_lst (sa_cons se_int (sa_cons se_int (sa_cons (se_pow se_int se_int) (sa_cons (se_pow se_int se_int) sa_nil))))) sa_nil)) rfl (len_cons (len_cons len_nil))))
    (ss_cons (ss_setN 2 sc.nd (se_if (st_cmp cmp_gt (se_call (d__law_roll T) hr (by omega) tkE rfl (sa_cons (se_var 0 (pv 0)) (sa_cons se_int sa_nil)) rfl (len_cons (len_cons len_nil))) se_int) (se_sub (se_call (d__law_roll T) hr (by omega) tkE rfl (sa_cons (se_var 0 (pv 0)) (sa_cons se_int sa_nil)) rfl (len_cons (len_cons len_nil))) se_int) (se_mul rfl (se_sub se_int (se_mul rfl se_int (se_call (d__law_roll T) hr (by omega) tkE rfl (sa_cons (se_var 0 (pv 0)) (sa_cons se_int sa_nil)) rfl (len_cons (len_cons len_nil))))) (se_add rfl (se_var 1 (pv 1)) (se_call (d__law_roll T) hr (by omega) tkE rfl (sa_cons (se_var 0 (pv 0)) (sa_cons se_int sa_nil)) rfl (len_cons (len_cons len_nil)))))))
    (ss_one (ss_ret (se_call (d__law_lowest T) hr (by omega) tkE rfl (sa_cons (se_var 2 (pv 2)) (sa_cons (se_call (d__law_some T) hr (by omega) tkE rfl (sa_cons (se_var 0 (pv 0)) (sa_cons (se_lst (sa_cons se_int (sa_cons se_int (sa_cons se_int (sa_cons se_int (sa_cons (se_add rfl (se_var 1 (pv 1)) (se_call (d__law_roll T) hr (by omega) tkE rfl (sa_cons (se_var 0 (pv 0)) (sa_cons se_int sa_nil)) rfl (len_cons (len_cons len_nil)))) sa_nil)))))) sa_nil)) rfl (len_cons (len_cons len_nil))) sa_nil)) rfl (len_cons (len_cons len_nil)))))))
theorem sc__law_error : FnScope ["call", "e", "pairs", "word", "is_so"] ["call"] (defScope s__law_error) := ⟨rfl, rfl, rfl, by decide +kernel, rfl, by decide +kernel, by decide +kernel⟩
def ms__law_error (av : Addr) (ec : Str) : MS :=
    (mSeq (mAsg (mCall fLst (mCons (mCall fTup (mCons (mC (.str "fraction")) (mCons (mCall (fIsE av subT ec) (mCons (mVar 1) (mCons (mC (.glo "InvalidFraction")) mNil))) mNil))) (mCons (mCall fTup (mCons (mC (.str "number")) (mCons (mCall (fIsE av subT ec) (mCons (mVar 1) (mCons (mC (.glo "InvalidNumber")) mNil))) mNil))) (mCons (mCall fTup (mCons (mC (.str "no")) (mCons (mCall (fIsE av subT ec) (mCons (mVar 1) (mCons (mC (.glo "NotFound")) mNil))) mNil))) mNil)))) (gN 2))
    (mRet (mMeth fJoin (mC (.str "")) (mCons (mPick false true (mVar 2)) mNil))))
def mr__law_error : MS :=
    (mRet (mC (.str "none")))
def wd__law_error (ec : Str) : M D := suiM 5 1 ms__law_error 0 ec
def m__law_error : M D → M D := tryM (fun c => subT c "FormError") wd__law_error (rstM 5 mr__law_error)
theorem t__law_error (T : Tx K mg base tb) : ThkOk P w K mg base (gx K mg tb) "_law_error" m__law_error := by
  have sc := sc__law_error
  obtain ⟨ca, gca, _⟩ := T.e_FormError.ex
  refine thk_ok (Ng := ["call", "e", "pairs", "word", "is_so"]) (i := 1) (sub := subT) (ms := ms__law_error) (mr := mr__law_error) T.f__law_error sc rfl (.inl rfl) (by decide) (by decide) (fun _ _ _ _ _ _ us hl => match us, hl with | [_], _ => rfl) rfl rfl sc.nd rfl rfl (by decide) rfl (by decide) gca T.sub (fun cdv fa A outer s H E ec C av oe pn hC hz hf => ?_) (fun av ec S => ?_) (fun cdv fa A outer s H E => ?_)
  · exact (ss_cons (ss_setN 2 sc.nd (se_lst (sa_cons (se_tup (sa_cons se_str (sa_cons (se_callB (bf_isE rfl rfl T.sub hC hz hf) rfl T.n_isinstance bo_isinstance (sa_cons (se_var 1 (pv 1)) (sa_cons (se_cls rfl T.e_InvalidFraction) sa_nil))) sa_nil))) (sa_cons (se_tup (sa_cons se_str (sa_cons (se_callB (bf_isE rfl rfl T.sub hC hz hf) rfl T.n_isinstance bo_isinstance (sa_cons (se_var 1 (pv 1)) (sa_cons (se_cls rfl T.e_InvalidNumber) sa_nil))) sa_nil))) (sa_cons (se_tup (sa_cons se_str (sa_cons (se_callB (bf_isE rfl rfl T.sub hC hz hf) rfl T.n_isinstance bo_isinstance (sa_cons (se_var 1 (pv 1)) (sa_cons (se_cls rfl T.e_NotFound) sa_nil))) sa_nil))) sa_nil)))))
    (ss_one (ss_ret (se_meth F.plainAttrs_str F.slot_str_join F.type_str_join (sm_join rfl) se_str (sa_cons (se_pick false true rfl (hot_suite hz hf) (se_var 2 (pv 2)) (by decide) (by decide) rfl (by decide) rfl rfl (by decide) rfl rfl rfl rfl (fun _ => rfl)) sa_nil)))))
  · simp [wd__law_error, ms__law_error, suiM, mSeq, mAsg, mRet, mIfS, mIf, mPick, mMeth, mCall, mCons, mNil, mVar, mC, m2, mTru, gN, bnd, ret, fIsE, fTup, fLst]
    cases subT ec "InvalidFraction" with
    | none => rfl
    | some b =>
      cases subT ec "InvalidNumber" with
      | none => rfl
      | some b =>
        cases subT ec "NotFound" with
        | none => rfl
        | some b =>
          rfl
  · exact (ss_one (ss_ret se_str))
theorem sc__law_fractions_right : FnScope ["cup", "one", "other", "told", "back"] ["cup"] (defScope s__law_fractions_right) := ⟨rfl, rfl, rfl, by decide +kernel, rfl, by decide +kernel, by decide +kernel⟩
def bd__law_fractions_right : MS :=
    (mSeq (mAsg (mCall fTup (mCons (mCall m__law_fraction (mCons (mVar 0) mNil)) (mCons (mCall m__law_fraction (mCons (mVar 0) mNil)) mNil))) (gTupD 2 (gsCons (gN 1) (gsCons (gN 2) gsNil))))
    (mSeq (mAsg (mCall fLst (mCons (mCall m_fraction_sum (mCons (mVar 1) (mCons (mVar 2) mNil))) (mCons (mCall m_fraction_product (mCons (mVar 1) (mCons (mVar 2) mNil))) (mCons (mCall m_at_most (mCons (mVar 1) (mCons (mVar 2) mNil))) (mCons (mCall m_is_fraction (mCons (mVar 1) mNil)) mNil))))) (gN 3))
    (mSeq (mIfS (mNot (mTru (mCall (m__law_like 12) (mCons (mVar 3) (mCons (mCall fLst (mCons (mCall m__law_plus (mCons (mVar 1) (mCons (mVar 2) mNil))) (mCons (mCall m__law_times (mCons (mVar 1) (mCons (mVar 2) mNil))) (mCons (m2 cLe (m2 fMul (m2 fIx (mVar 1) (mC (.int 0))) (m2 fIx (mVar 2) (mC (.int 1)))) (m2 fMul (m2 fIx (mVar 2) (mC (.int 0))) (m2 fIx (mVar 1) (mC (.int 1))))) (mCons (mC (.bl true)) mNil))))) mNil))))) (mRet (mC (.bl false))) mSkip)
    (mSeq (mIfS (mB (m2 (fEq false) (m2 fIx (mVar 2) (mC (.int 0))) (mC (.int 0)))) (mRet (m2 (fEq false) (mThk m__law_error (mCall m_fraction_by (mCons (mVar 1) (mCons (mVar 2) mNil)))) (mC (.str "no")))) mSkip)
    (mSeq (mAsg (mCall m_fraction_by (mCons (mVar 1) (mCons (mVar 2) mNil))) (gN 4))
    (mRet (mCall (m__law_like 12) (mCons (mCall fLst (mCons (mCall m_is_fraction (mCons (mVar 4) mNil)) (mCons (mCall m__law_times (mCons (mVar 4) (mCons (mVar 2) mNil))) mNil))) (mCons (mCall fLst (mCons (mC (.bl true)) (mCons (mVar 1) mNil))) mNil)))))))))
def m__law_fractions_right : List D → M D := mDef 1 5 bd__law_fractions_right
theorem d__law_fractions_right (T : Tx K mg base tb) : DefOk P w K mg base (gx K mg tb) 17 "_law_fractions_right" m__law_fractions_right 1 :=
  have sc := sc__law_fractions_right
  def_okL (N := ["cup", "one", "other", "told", "back"]) (ps := ["cup"]) (k := 16) (np := 1) (st := s__law_fractions_right) (b := bd__law_fractions_right) T.l__law_fractions_right sc rfl (fun _ _ _ _ _ _ us hl => match us, hl with | [_], _ => rfl) fun f cdv A outer s H E LD hr =>
    (ss_cons (ss_asg (se_tup (sa_cons (se_call (d__law_fraction T) hr (by omega) tkE rfl (sa_cons (se_var 0 (pv 0)) sa_nil) rfl (len_cons len_nil)) (sa_cons (se_call (d__law_fraction T) hr (by omega) tkE rfl (sa_cons (se_var 0 (pv 0)) sa_nil) rfl (len_cons len_nil)) sa_nil))) (sg_tup rfl rfl (sgs_cons (sg_n 1 sc.nd) (sgs_cons (sg_n 2 sc.nd) sgs_nil))))
    (ss_cons (ss_setN 3 sc.nd (se_lst (sa_cons (se_call (d_fraction_sum T) hr (by omega) tkE rfl (sa_cons (se_var 1 (pv 1)) (sa_cons (se_var 2 (pv 2)) sa_nil)) rfl (len_cons (len_cons len_nil))) (sa_cons (se_call (d_fraction_product T) hr (by omega) tkE rfl (sa_cons (se_var 1 (pv 1)) (sa_cons (se_var 2 (pv 2)) sa_nil)) rfl (len_cons (len_cons len_nil))) (sa_cons (se_call (d_at_most T) hr (by omega) tkE rfl (sa_cons (se_var 1 (pv 1)) (sa_cons (se_var 2 (pv 2)) sa_nil)) rfl (len_cons (len_cons len_nil))) (sa_cons (se_call (d_is_fraction T) hr (by omega) tkE rfl (sa_cons (se_var 1 (pv 1)) sa_nil) rfl (len_cons len_nil)) sa_nil))))))
    (ss_cons (ss_if (st_not (st_tru rfl (se_call (d__law_like T 12) hr (by omega) tkE rfl (sa_cons (se_var 3 (pv 3)) (sa_cons (se_lst (sa_cons (se_call (d__law_plus T) hr (by omega) tkE rfl (sa_cons (se_var 1 (pv 1)) (sa_cons (se_var 2 (pv 2)) sa_nil)) rfl (len_cons (len_cons len_nil))) (sa_cons (se_call (d__law_times T) hr (by omega) tkE rfl (sa_cons (se_var 1 (pv 1)) (sa_cons (se_var 2 (pv 2)) sa_nil)) rfl (len_cons (len_cons len_nil))) (sa_cons (se_cmp cmp_le (se_mul rfl (se_ix rfl (se_var 1 (pv 1)) se_int) (se_ix rfl (se_var 2 (pv 2)) se_int)) (se_mul rfl (se_ix rfl (se_var 2 (pv 2)) se_int) (se_ix rfl (se_var 1 (pv 1)) se_int))) (sa_cons se_bl sa_nil))))) sa_nil)) rfl (len_cons (len_cons len_nil))))) (ss_one (ss_ret se_bl)) ss_nil)
    (ss_cons (ss_if (st_cmp (cmp_eq rfl hr.units) (se_ix rfl (se_var 2 (pv 2)) se_int) se_int) (ss_one (ss_ret (se_cmp (cmp_eq rfl hr.units) (se_thk (t__law_error T) rfl LD tkE hr (lamS_by (sc := defScope s__law_fractions_right) (by decide +kernel)) rfl (fun _ _ _ _ _ => rfl) (fun A outer s H E f c hr => (se_call (d_fraction_by T) hr (by omega) tkL rfl (sa_cons (se_var 1 (pv 1)) (sa_cons (se_var 2 (pv 2)) sa_nil)) rfl (len_cons (len_cons len_nil))))) se_str))) ss_nil)
    (ss_cons (ss_setN 4 sc.nd (se_call (d_fraction_by T) hr (by omega) tkE rfl (sa_cons (se_var 1 (pv 1)) (sa_cons (se_var 2 (pv 2)) sa_nil)) rfl (len_cons (len_cons len_nil))))
    (ss_one (ss_ret (se_call (d__law_like T 12) hr (by omega) tkE rfl (sa_cons (se_lst (sa_cons (se_call (d_is_fraction T) hr (by omega) tkE rfl (sa_cons (se_var 4 (pv 4)) sa_nil) rfl (len_cons len_nil)) (sa_cons (se_call (d__law_times T) hr (by omega) tkE rfl (sa_cons (se_var 4 (pv 4)) (sa_cons (se_var 2 (pv 2)) sa_nil)) rfl (len_cons (len_cons len_nil))) sa_nil))) (sa_cons (se_lst (sa_cons se_bl (sa_cons (se_var 1 (pv 1)) sa_nil))) sa_nil)) rfl (len_cons (len_cons len_nil))))))))))
theorem sc__law_rests_right : FnScope ["cup", "one", "whole", "told", "gap", "more"] ["cup"] (defScope s__law_rests_right) := ⟨rfl, rfl, rfl, by decide +kernel, rfl, by decide +kernel, by decide +kernel⟩
def bd__law_rests_right : MS :=
    (mSeq (mPar 1 2 (mCons (mCall m__law_fraction (mCons (mVar 0) mNil)) (mCons (m2 fAdd (mC (.int 1)) (mCall m__law_roll (mCons (mVar 0) (mCons (mC (.int 2)) mNil)))) mNil)))
    (mSeq (mAsg (mCall m_fraction_rest (mCons (mVar 1) (mCons (mVar 2) mNil))) (gN 3))
    (mSeq (mIfS (mNot (mTru (mCall (m__law_like 12) (mCons (mCall fLst (mCons (mCall m_is_fraction (mCons (mVar 3) mNil)) (mCons (m3c cLe cLt (mC (.int 0)) (m2 fIx (mVar 3) (mC (.int 0))) (m2 fMul (mVar 2) (m2 fIx (mVar 3) (mC (.int 1))))) mNil))) (mCons (mCall fLst (mCons (mC (.bl true)) (mCons (mC (.bl true)) mNil))) mNil))))) (mRet (mC (.bl false))) mSkip)
    (mSeq (mAsg (mCall m__law_plus (mCons (mVar 1) (mCons (mCall fTup (mCons (m1 fNeg (m2 fIx (mVar 3) (mC (.int 0)))) (mCons (m2 fIx (mVar 3) (mC (.int 1))) mNil))) mNil))) (gN 4))
    (mSeq (mAsg (mCall m__law_plus (mCons (mVar 1) (mCons (mCall fTup (mCons (m2 fMul (mVar 2) (m2 fSub (mCall m__law_roll (mCons (mVar 0) (mCons (mC (.int 9)) mNil))) (mC (.int 4)))) (mCons (mC (.int 1)) mNil))) mNil))) (gN 5))
    (mRet (mCall (m__law_like 12) (mCons (mCall fLst (mCons (m2 fIx (mVar 4) (mC (.int 1))) (mCons (m2 fMod (mCall fInt (mCons (m2 fIx (mVar 4) (mC (.int 0))) mNil)) (mVar 2)) (mCons (mCall m_fraction_rest (mCons (mVar 5) (mCons (mVar 2) mNil))) (mCons (mCall m_fraction_rest (mCons (mVar 3) (mCons (mVar 2) mNil))) mNil))))) (mCons (mCall fLst (mCons (mC (.int 1)) (mCons (mC (.int 0)) (mCons (mVar 3) (mCons (mVar 3) mNil))))) mNil)))))))))
def m__law_rests_right : List D → M D := mDef 1 6 bd__law_rests_right
theorem d__law_rests_right (T : Tx K mg base tb) : DefOk P w K mg base (gx K mg tb) 15 "_law_rests_right" m__law_rests_right 1 :=
  have sc := sc__law_rests_right
  def_ok (N := ["cup", "one", "whole", "told", "gap", "more"]) (ps := ["cup"]) (k := 14) (np := 1) (st := s__law_rests_right) (b := bd__law_rests_right) T.f__law_rests_right sc rfl (fun _ _ _ _ _ _ us hl => match us, hl with | [_], _ => rfl) fun f cdv A outer s H E hr =>
    (ss_cons (ss_par rfl sc.nd rfl rfl (by decide) rfl rfl (sa_cons (se_call (d__law_fraction T) hr (by omega) tkE rfl (sa_cons (se_var 0 (pv 0)) sa_nil) rfl (len_cons len_nil)) (sa_cons (se_add rfl se_int (se_call (d__law_roll T) hr (by omega) tkE rfl (sa_cons (se_var 0 (pv 0)) (sa_cons se_int sa_nil)) rfl (len_cons (len_cons len_nil)))) sa_nil)))
    (ss_cons (ss_setN 3 sc.nd (se_call (d_fraction_rest T) hr (by omega) tkE rfl (sa_cons (se_var 1 (pv 1)) (sa_cons (se_var 2 (pv 2)) sa_nil)) rfl (len_cons (len_cons len_nil))))
    (ss_cons (ss_if (st_not (st_tru rfl (se_call (d__law_like T 12) hr (by omega) tkE rfl (sa_cons (se_lst (sa_cons (se_call (d_is_fraction T) hr (by omega) tkE rfl (sa_cons (se_var 3 (pv 3)) sa_nil) rfl (len_cons len_nil)) (sa_cons (se_chain cmp_le cmp_lt se_int (se_ix rfl (se_var 3 (pv 3)) se_int) (se_mul rfl (se_var 2 (pv 2)) (se_ix rfl (se_var 3 (pv 3)) se_int))) sa_nil))) (sa_cons (se_lst (sa_cons se_bl (sa_cons se_bl sa_nil))) sa_nil)) rfl (len_cons (len_cons len_nil))))) (ss_one (ss_ret se_bl)) ss_nil)
    (ss_cons (ss_setN 4 sc.nd (se_call (d__law_plus T) hr (by omega) tkE rfl (sa_cons (se_var 1 (pv 1)) (sa_cons (se_tup (sa_cons (se_neg (se_ix rfl (se_var 3 (pv 3)) se_int)) (sa_cons (se_ix rfl (se_var 3 (pv 3)) se_int) sa_nil))) sa_nil)) rfl (len_cons (len_cons len_nil))))
    (ss_cons (ss_setN 5 sc.nd (se_call (d__law_plus T) hr (by omega) tkE rfl (sa_cons (se_var 1 (pv 1)) (sa_cons (se_tup (sa_cons (se_mul rfl (se_var 2 (pv 2)) (se_sub (se_call (d__law_roll T) hr (by omega) tkE rfl (sa_cons (se_var 0 (pv 0)) (sa_cons se_int sa_nil)) rfl (len_cons (len_cons len_nil))) se_int)) (sa_cons se_int sa_nil))) sa_nil)) rfl (len_cons (len_cons len_nil))))
    (ss_one (ss_ret (se_call (d__law_like T 12) hr (by omega) tkE rfl (sa_cons (se_lst (sa_cons (se_ix rfl (se_var 4 (pv 4)) se_int) (sa_cons (se_mod (se_callTy (bf_int) rfl T.n_int bo_int (sa_cons (se_ix rfl (se_var 4 (pv 4)) se_int) sa_nil)) (se_var 2 (pv 2))) (sa_cons (se_call (d_fraction_rest T) hr (by omega) tkE rfl (sa_cons (se_var 5 (pv 5)) (sa_cons (se_var 2 (pv 2)) sa_nil)) rfl (len_cons (len_cons len_nil))) (sa_cons (se_call (d_fraction_rest T) hr (by omega) tkE rfl (sa_cons (se_var 3 (pv 3)) (sa_cons (se_var 2 (pv 2)) sa_nil)) rfl (len_cons (len_cons len_nil))) sa_nil))))) (sa_cons (se_lst (sa_cons se_int (sa_cons se_int (sa_cons (se_var 3 (pv 3)) (sa_cons (se_var 3 (pv 3)) sa_nil))))) sa_nil)) rfl (len_cons (len_cons len_nil))))))))))
theorem sc__law_limits_right : FnScope ["told", "due", "odds", "words", "odd", "name", "whole"] [] (defScope s__law_limits_right) := ⟨rfl, rfl, rfl, by decide +kernel, rfl, by decide +kernel, by decide +kernel⟩
def bd__law_limits_right : MS :=
    (mSeq (mAsg (mCall fLst (mCons (mCall m_fraction_sum (mCons (mCall fTup (mCons (mC (.int 1)) (mCons (mC (.int 2)) mNil))) (mCons (mCall fTup (mCons (mC (.int 1)) (mCons (mC (.int 3)) mNil))) mNil))) (mCons (mCall m_fraction_product (mCons (mCall fTup (mCons (mC (.int 2)) (mCons (mC (.int 3)) mNil))) (mCons (mCall fTup (mCons (m1 fNeg (mC (.int 3))) (mCons (mC (.int 4)) mNil))) mNil))) (mCons (mCall m_fraction_by (mCons (mCall fTup (mCons (mC (.int 1)) (mCons (mC (.int 2)) mNil))) (mCons (mCall fTup (mCons (m1 fNeg (mC (.int 3))) (mCons (mC (.int 1)) mNil))) mNil))) (mCons (mCall m_at_most (mCons (mCall fTup (mCons (mC (.int 2)) (mCons (mC (.int 3)) mNil))) (mCons (mCall fTup (mCons (mC (.int 3)) (mCons (mC (.int 4)) mNil))) mNil))) (mCons (mCall m_at_most (mCons (mCall fTup (mCons (mC (.int 3)) (mCons (mC (.int 4)) mNil))) (mCons (mCall fTup (mCons (mC (.int 2)) (mCons (mC (.int 3)) mNil))) mNil))) mNil)))))) (gN 0))
    (mSeq (mAsg (mCall fLst (mCons (mCall fTup (mCons (mC (.int 5)) (mCons (mC (.int 6)) mNil))) (mCons (mCall fTup (mCons (m1 fNeg (mC (.int 1))) (mCons (mC (.int 2)) mNil))) (mCons (mCall fTup (mCons (m1 fNeg (mC (.int 1))) (mCons (mC (.int 6)) mNil))) (mCons (mC (.bl true)) (mCons (mC (.bl false)) mNil)))))) (gN 1))
    (mSeq (mAsg (m2 fAdd (mVar 0) (mCall fLst (mCons (mCall m_fraction_rest (mCons (mCall fTup (mCons (m1 fNeg (mC (.int 1))) (mCons (mC (.int 4)) mNil))) (mCons (mC (.int 2)) mNil))) (mCons (mCall m_fraction_rest (mCons (mCall fTup (mCons (mC (.int 9)) (mCons (mC (.int 4)) mNil))) (mCons (mC (.int 1)) mNil))) (mCons (mCall m_fraction_rest (mCons (mCall fTup (mCons (mC (.int 9)) (mCons (mC (.int 4)) mNil))) (mCons (mC (.int 2)) mNil))) (mCons (mCall m_fraction_rest (mCons (mCall fTup (mCons (mC (.int 2)) (mCons (mC (.int 1)) mNil))) (mCons (mC (.int 2)) mNil))) mNil)))))) (gN 0))
    (mSeq (mAsg (m2 fAdd (mVar 0) (mCall fLst (mCons (mCall m_fraction_rest (mCons (mCall fTup (mCons (mC (.int 3)) (mCons (mC (.int 1)) mNil))) (mCons (mC (.int 2)) mNil))) (mCons (mCall m_fraction_rest (mCons (mCall fTup (mCons (m1 fNeg (mC (.int 7))) (mCons (mC (.int 3)) mNil))) (mCons (mC (.int 1)) mNil))) (mCons (mCall m_fraction_rest (mCons (mCall fTup (mCons (m1 fNeg (m2 fPow (mC (.int 10)) (mC (.int 40)))) (mCons (mC (.int 3)) mNil))) (mCons (mC (.int 2)) mNil))) mNil))))) (gN 0))
    (mSeq (mAsg (m2 fAdd (mVar 1) (mCall fLst (mCons (mCall fTup (mCons (mC (.int 7)) (mCons (mC (.int 4)) mNil))) (mCons (mCall fTup (mCons (mC (.int 1)) (mCons (mC (.int 4)) mNil))) (mCons (mCall fTup (mCons (mC (.int 1)) (mCons (mC (.int 4)) mNil))) (mCons (mCall fTup (mCons (mC (.int 0)) (mCons (mC (.int 1)) mNil))) (mCons (mCall fTup (mCons (mC (.int 1)) (mCons (mC (.int 1)) mNil))) (mCons (mCall fTup (mCons (mC (.int 2)) (mCons (mC (.int 3)) mNil))) (mCons (mCall fTup (mCons (mC (.int 2)) (mCons (mC (.int 3)) mNil))) mNil))))))))) (gN 1))
    (mSeq (mIfS (mNot (mTru (mCall (m__law_like 12) (mCons (mVar 0) (mCons (mVar 1) mNil))))) (mRet (mC (.bl false))) mSkip)
    (mSeq (mAsg (mCall fLst (mCons (mC .non) (mCons (mCall fTup mNil) (mCons (mCall fTup (mCons (mC (.int 1)) mNil)) (mCons (mCall fTup (mCons (mC (.int 1)) (mCons (mC (.int 2)) (mCons (mC (.int 3)) mNil)))) (mCons (mCall fTup (mCons (mC (.int 2)) (mCons (mC (.int 4)) mNil))) (mCons (mCall fTup (mCons (mC (.int 1)) (mCons (mC (.int 0)) mNil))) (mCons (mCall fTup (mCons (mC (.int 1)) (mCons (m1 fNeg (mC (.int 2))) mNil))) (mCons (mCall fLst (mCons (mC (.int 1)) (mCons (mC (.int 2)) mNil))) (mCons (mCall fTup (mCons (mC (.bl true)) (mCons (mC (.int 2)) mNil))) (mCons (mCall fTup (mCons (mC (.int 1)) (mCons (mC (.bl true)) mNil))) (mCons (mC (.int 1)) (mCons (mCall fTup (mCons (mC (.int 0)) (mCons (mC (.int 2)) mNil))) (mCons (mCall fTup (mCons (mC (.int 1)) (mCons (mC (.str "2")) mNil))) mNil)))))))))))))) (gN 2))
    (mSeq (mIfS (mNot (mTru (mCall (m__law_like 12) (mCons (mLc (mIt itS (m2 fAdd (mVar 2) (mCall fLst (mCons (mCall fTup (mCons (mC (.int 0)) (mCons (mC (.int 1)) mNil))) (mCons (mCall fTup (mCons (m1 fNeg (mC (.int 3))) (mCons (mC (.int 7)) mNil))) mNil))))) (gN 4) mYes (mCall m_is_fraction (mCons (mVar 4) mNil)) [4]) (mCons (m2 fAdd (m2 fMul (mCall fLst (mCons (mC (.bl false)) mNil)) (mC (.int 13))) (m2 fMul (mCall fLst (mCons (mC (.bl true)) mNil)) (mC (.int 2)))) mNil))))) (mRet (mC (.bl false))) mSkip)
    (mSeq (mAsg (mCall fLst mNil) (gN 3))
    (mSeq (mFor (mIt itS (mVar 2)) (gN 4) (mSeq (mFor (mIt itS (mCall fTup (mCons (mC (.glo "fraction_sum")) (mCons (mC (.glo "fraction_product")) (mCons (mC (.glo "fraction_by")) (mCons (mC (.glo "at_most")) mNil)))))) (gN 5) (mSeq (mAsg (m2 fAdd (mVar 3) (mCall fLst (mCons (mThk m__law_error (mCallV [("fraction_sum", m_fraction_sum), ("fraction_product", m_fraction_product), ("fraction_by", m_fraction_by), ("at_most", m_at_most)] 5 (mCons (mVar 4) (mCons (mC .non) mNil)))) mNil))) (gN 3))
    (mAsg (m2 fAdd (mVar 3) (mCall fLst (mCons (mThk m__law_error (mCallV [("fraction_sum", m_fraction_sum), ("fraction_product", m_fraction_product), ("fraction_by", m_fraction_by), ("at_most", m_at_most)] 5 (mCons (mCall fTup (mCons (mC (.int 1)) (mCons (mC (.int 2)) mNil))) (mCons (mVar 4) mNil)))) mNil))) (gN 3))))
    (mAsg (m2 fAdd (mVar 3) (mCall fLst (mCons (mThk m__law_error (mCall m_fraction_rest (mCons (mVar 4) (mCons (mC .non) mNil)))) mNil))) (gN 3))))
    (mSeq (mFor (mIt itS (mCall fTup (mCons (mC .non) (mCons (mC (.int 0)) (mCons (mC (.int 3)) (mCons (mC (.bl true)) (mCons (mC (.str "1")) (mCons (m1 fNeg (mC (.int 1))) mNil)))))))) (gN 6) (mAsg (m2 fAdd (mVar 3) (mCall fLst (mCons (mThk m__law_error (mCall m_fraction_rest (mCons (mCall fTup (mCons (mC (.int 1)) (mCons (mC (.int 2)) mNil))) (mCons (mVar 6) mNil)))) mNil))) (gN 3)))
    (mRet (m2 (fEq false) (mVar 3) (m2 fAdd (m2 fMul (mCall fLst (mCons (mC (.str "fraction")) mNil)) (mC (.int 117))) (m2 fMul (mCall fLst (mCons (mC (.str "number")) mNil)) (mC (.int 6)))))))))))))))))
def m__law_limits_right : List D → M D := mDef 0 7 bd__law_limits_right
theorem d__law_limits_right (T : Tx K mg base tb) : DefOk P w K mg base (gx K mg tb) 17 "_law_limits_right" m__law_limits_right 0 :=
  have sc := sc__law_limits_right
  def_okL (N := ["told", "due", "odds", "words", "odd", "name", "whole"]) (ps := []) (k := 16) (np := 0) (st := s__law_limits_right) (b := bd__law_limits_right) T.l__law_limits_right sc rfl (fun _ _ _ _ _ _ us hl => match us, hl with | [], _ => rfl) fun f cdv A outer s H E LD hr =>
    (ss_cons (ss_setN 0 sc.nd (se_lst (sa_cons (se_call (d_fraction_sum T) hr (by omega) tkE rfl (sa_cons (se_tup (sa_cons se_int (sa_cons se_int sa_nil))) (sa_cons (se_tup (sa_cons se_int (sa_cons se_int sa_nil))) sa_nil)) rfl (len_cons (len_cons len_nil))) (sa_cons (se_call (d_fraction_product T) hr (by omega) tkE rfl (sa_cons (se_tup (sa_cons se_int (sa_cons se_int sa_nil))) (sa_cons (se_tup (sa_cons (se_neg se_int) (sa_cons se_int sa_nil))) sa_nil)) rfl (len_cons (len_cons len_nil))) (sa_cons (se_call (d_fraction_by T) hr (by omega) tkE rfl (sa_cons (se_tup (sa_cons se_int (sa_cons se_int sa_nil))) (sa_cons (se_tup (sa_cons (se_neg se_int) (sa_cons se_int sa_nil))) sa_nil)) rfl (len_cons (len_cons len_nil))) (sa_cons (se_call (d_at_most T) hr (by omega) tkE rfl (sa_cons (se_tup (sa_cons se_int (sa_cons se_int sa_nil))) (sa_cons (se_tup (sa_cons se_int (sa_cons se_int sa_nil))) sa_nil)) rfl (len_cons (len_cons len_nil))) (sa_cons (se_call (d_at_most T) hr (by omega) tkE rfl (sa_cons (se_tup (sa_cons se_int (sa_cons se_int sa_nil))) (sa_cons (se_tup (sa_cons se_int (sa_cons se_int sa_nil))) sa_nil)) rfl (len_cons (len_cons len_nil))) sa_nil)))))))
    (ss_cons (ss_setN 1 sc.nd (se_lst (sa_cons (se_tup (sa_cons se_int (sa_cons se_int sa_nil))) (sa_cons (se_tup (sa_cons (se_neg se_int) (sa_cons se_int sa_nil))) (sa_cons (se_tup (sa_cons (se_neg se_int) (sa_cons se_int sa_nil))) (sa_cons se_bl (sa_cons se_bl sa_nil)))))))
    (ss_cons (ss_setN 0 sc.nd (se_add rfl (se_var 0 (pv 0)) (se_lst (sa_cons (se_call (d_fraction_rest T) hr (by omega) tkE rfl (sa_cons (se_tup (sa_cons (se_neg se_int) (sa_cons se_int sa_nil))) (sa_cons se_int sa_nil)) rfl (len_cons (len_cons len_nil))) (sa_cons (se_call (d_fraction_rest T) hr (by omega) tkE rfl (sa_cons (se_tup (sa_cons se_int (sa_cons se_int sa_nil))) (sa_cons se_int sa_nil)) rfl (len_cons (len_cons len_nil))) (sa_cons (se_call (d_fraction_rest T) hr (by omega) tkE rfl (sa_cons (se_tup (sa_cons se_int (sa_cons se_int sa_nil))) (sa_cons se_int sa_nil)) rfl (len_cons (len_cons len_nil))) (sa_cons (se_call (d_fraction_rest T) hr (by omega) tkE rfl (sa_cons (se_tup (sa_cons se_int (sa_cons se_int sa_nil))) (sa_cons se_int sa_nil)) rfl (len_cons (len_cons len_nil))) sa_nil)))))))
    (ss_cons (ss_setN 0 sc.nd (se_add rfl (se_var 0 (pv 0)) (se_lst (sa_cons (se_call (d_fraction_rest T) hr (by omega) tkE rfl (sa_cons (se_tup (sa_cons se_int (sa_cons se_int sa_nil))) (sa_cons se_int sa_nil)) rfl (len_cons (len_cons len_nil))) (sa_cons (se_call (d_fraction_rest T) hr (by omega) tkE rfl (sa_cons (se_tup (sa_cons (se_neg se_int) (sa_cons se_int sa_nil))) (sa_cons se_int sa_nil)) rfl (len_cons (len_cons len_nil))) (sa_cons (se_call (d_fraction_rest T) hr (by omega) tkE rfl (sa_cons (se_tup (sa_cons (se_neg (se_pow se_int se_int)) (sa_cons se_int sa_nil))) (sa_cons se_int sa_nil)) rfl (len_cons (len_cons len_nil))) sa_nil))))))
    (ss_cons (ss_setN 1 sc.nd (se_add rfl (se_var 1 (pv 1)) (se_lst (sa_cons (se_tup (sa_cons se_int (sa_cons se_int sa_nil))) (sa_cons (se_tup (sa_cons se_int (sa_cons se_int sa_nil))) (sa_cons (se_tup (sa_cons se_int (sa_cons se_int sa_nil))) (sa_cons (se_tup (sa_cons se_int (sa_cons se_int sa_nil))) (sa_cons (se_tup (sa_cons se_int (sa_cons se_int sa_nil))) (sa_cons (se_tup (sa_cons se_int (sa_cons se_int sa_nil))) (sa_cons (se_tup (sa_cons se_int (sa_cons se_int sa_nil))) sa_nil))))))))))
    (ss_cons (ss_if (st_not (st_tru rfl (se_call (d__law_like T 12) hr (by omega) tkE rfl (sa_cons (se_var 0 (pv 0)) (sa_cons (se_var 1 (pv 1)) sa_nil)) rfl (len_cons (len_cons len_nil))))) (ss_one (ss_ret se_bl)) ss_nil)
    (ss_cons (ss_setN 2 sc.nd (se_lst (sa_cons se_non (sa_cons (se_tup sa_nil) (sa_cons (se_tup (sa_cons se_int sa_nil)) (sa_cons (se_tup (sa_cons se_int (sa_cons se_int (sa_cons se_int sa_nil)))) (sa_cons (se_tup (sa_cons se_int (sa_cons se_int sa_nil))) (sa_cons (se_tup (sa_cons se_int (sa_cons se_int sa_nil))) (sa_cons (se_tup (sa_cons se_int (sa_cons (se_neg se_int) sa_nil))) (sa_cons (se_lst (sa_cons se_int (sa_cons se_int sa_nil))) (sa_cons (se_tup (sa_cons se_bl (sa_cons se_int sa_nil))) (sa_cons (se_tup (sa_cons se_int (sa_cons se_bl sa_nil))) (sa_cons se_int (sa_cons (se_tup (sa_cons se_int (sa_cons se_int sa_nil))) (sa_cons (se_tup (sa_cons se_int (sa_cons se_str sa_nil))) sa_nil)))))))))))))))
    (ss_cons (ss_if (st_not (st_tru rfl (se_call (d__law_like T 12) hr (by omega) tkE rfl (sa_cons (se_lc (own := [("odd", 4)]) rfl sc.nd (si_seq rfl (se_add rfl (se_var 2 (pv 2)) (se_lst (sa_cons (se_tup (sa_cons se_int (sa_cons se_int sa_nil))) (sa_cons (se_tup (sa_cons (se_neg se_int) (sa_cons se_int sa_nil))) sa_nil))))) (blkOk_by (N := ["told", "due", "odds", "words", "odd", "name", "whole"]) (sc := defScope s__law_limits_right) (by decide +kernel)) (fun _ _ _ _ _ => (sc_n 4 sc.nd)) (fun _ _ _ _ _ => sts_nil) (fun _ _ _ _ _ => (se_call (d_is_fraction T) hr (by omega) tk0 rfl (sa_cons (se_var 4 (pv 4)) sa_nil) rfl (len_cons len_nil)))) (sa_cons (se_add rfl (se_mul rfl (se_lst (sa_cons se_bl sa_nil)) se_int) (se_mul rfl (se_lst (sa_cons se_bl sa_nil)) se_int)) sa_nil)) rfl (len_cons (len_cons len_nil))))) (ss_one (ss_ret se_bl)) ss_nil)
    (ss_cons (ss_setN 3 sc.nd (se_lst sa_nil))
    (ss_cons (ss_for psE rfl (si_seq rfl (se_var 2 (pv 2))) (sg_n 4 sc.nd) (ss_cons (ss_for psE rfl (si_seq rfl (se_tup (sa_cons (se_glo2 rfl T.f_fraction_sum) (sa_cons (se_glo2 rfl T.f_fraction_product) (sa_cons (se_glo2 rfl T.f_fraction_by) (sa_cons (se_glo2 rfl T.f_at_most) sa_nil)))))) (sg_n 5 sc.nd) (ss_cons (ss_setN 3 sc.nd (se_add rfl (se_var 3 (pv 3)) (se_lst (sa_cons (se_thk (t__law_error T) rfl LD tkE hr (lamS_by (sc := defScope s__law_limits_right) (by decide +kernel)) rfl (fun _ _ _ _ _ => rfl) (fun A outer s H E f c hr => (se_callV 5 (np := 2) (k := 4) (.cons ((d_fraction_sum T).mono (by omega)) (.cons ((d_fraction_product T).mono (by omega)) (.cons ((d_fraction_by T).mono (by omega)) (.cons ((d_at_most T).mono (by omega)) .nil)))) rfl hr (by omega) tkL (sa_cons (se_var 4 (pv 4)) (sa_cons se_non sa_nil)) rfl (len_cons (len_cons len_nil))))) sa_nil))))
    (ss_one (ss_setN 3 sc.nd (se_add rfl (se_var 3 (pv 3)) (se_lst (sa_cons (se_thk (t__law_error T) rfl LD tkE hr (lamS_by (sc := defScope s__law_limits_right) (by decide +kernel)) rfl (fun _ _ _ _ _ => rfl) (fun A outer s H E f c hr => (se_callV 5 (np := 2) (k := 4) (.cons ((d_fraction_sum T).mono (by omega)) (.cons ((d_fraction_product T).mono (by omega)) (.cons ((d_fraction_by T).mono (by omega)) (.cons ((d_at_most T).mono (by omega)) .nil)))) rfl hr (by omega) tkL (sa_cons (se_tup (sa_cons se_int (sa_cons se_int sa_nil))) (sa_cons (se_var 4 (pv 4)) sa_nil)) rfl (len_cons (len_cons len_nil))))) sa_nil)))))))
    (ss_one (ss_setN 3 sc.nd (se_add rfl (se_var 3 (pv 3)) (se_lst (sa_cons (se_thk (t__law_error T) rfl LD tkE hr (lamS_by (sc := defScope s__law_limits_right) (by decide +kernel)) rfl (fun _ _ _ _ _ => rfl) (fun A outer s H E f c hr => (se_call (d_fraction_rest T) hr (by omega) tkL rfl (sa_cons (se_var 4 (pv 4)) (sa_cons se_non sa_nil)) rfl (len_cons (len_cons len_nil))))) sa_nil)))))))
    (ss_cons (ss_for psE rfl (si_seq rfl (se_tup (sa_cons se_non (sa_cons se_int (sa_cons se_int (sa_cons se_bl (sa_cons se_str (sa_cons (se_neg se_int) sa_nil)))))))) (sg_n 6 sc.nd) (ss_one (ss_setN 3 sc.nd (se_add rfl (se_var 3 (pv 3)) (se_lst (sa_cons (se_thk (t__law_error T) rfl LD tkE hr (lamS_by (sc := defScope s__law_limits_right) (by decide +kernel)) rfl (fun _ _ _ _ _ => rfl) (fun A outer s H E f c hr => (se_call (d_fraction_rest T) hr (by omega) tkL rfl (sa_cons (se_tup (sa_cons se_int (sa_cons se_int sa_nil))) (sa_cons (se_var 6 (pv 6)) sa_nil)) rfl (len_cons (len_cons len_nil))))) sa_nil))))))
    (ss_one (ss_ret (se_cmp (cmp_eq rfl hr.units) (se_var 3 (pv 3)) (se_add rfl (se_mul rfl (se_lst (sa_cons se_str sa_nil)) se_int) (se_mul rfl (se_lst (sa_cons se_str sa_nil)) se_int))))))))))))))))
theorem sc_law : FnScope ["script", "cup", "turn"] ["script"] (defScope s_law) := ⟨rfl, rfl, rfl, by decide +kernel, rfl, by decide +kernel, by decide +kernel⟩
def bd_law : MS :=
    (mSeq (mAsg (mCall m__law_cup (mCons (mVar 0) mNil)) (gN 1))
    (mSeq (mIfS (mNot (mTru (mCall m__law_limits_right mNil))) (mRet (mC (.bl false))) mSkip)
    (mSeq (mFor (mItN fRg1 (mCons (mC (.int 12)) mNil)) (gN 2) (mIfS (mOr (mNot (mTru (mCall m__law_fractions_right (mCons (mVar 1) mNil)))) (mNot (mTru (mCall m__law_rests_right (mCons (mVar 1) mNil))))) (mRet (mC (.bl false))) mSkip))
    (mRet (mC (.bl true))))))
def m_law : List D → M D := mDef 1 3 bd_law
theorem d_law (T : Tx K mg base tb) {fa : Addr} {fd : FuncData} (Fd : FunD K "law" "law" (defArgs s_law) (defBody s_law) (defScope s_law) [] [] fa fd) : FnOk P w K mg base (L2N.CX P w) 18 fa fd ["script"] (spM (gx K mg tb) m_law 1) :=
  have sc := sc_law
  fn_ok (N := ["script", "cup", "turn"]) (ps := ["script"]) (k := 17) (b := bd_law) Fd sc fun cdv A outer s H E hr =>
    (ss_cons (ss_setN 1 sc.nd (se_call (d__law_cup T) hr (by omega) tkE rfl (sa_cons (se_var 0 (pv 0)) sa_nil) rfl (len_cons len_nil)))
    (ss_cons (ss_if (st_not (st_tru rfl (se_call0 (d__law_limits_right T) hr (by omega) tkE ⟨_, rfl⟩ rfl))) (ss_one (ss_ret se_bl)) ss_nil)
    (ss_cons (ss_for psE rfl (si_rg1 rfl T.n_range (sa_cons se_int sa_nil)) (sg_n 2 sc.nd) (ss_one (ss_if (PW.pt (sw_or (st_not (st_tru rfl (se_call (d__law_fractions_right T) hr (by omega) tkE rfl (sa_cons (se_var 1 (pv 1)) sa_nil) rfl (len_cons len_nil)))) (sw_or1 (st_not (st_tru rfl (se_call (d__law_rests_right T) hr (by omega) tkE rfl (sa_cons (se_var 1 (pv 1)) sa_nil) rfl (len_cons len_nil))))))) (ss_one (ss_ret se_bl)) ss_nil)))
    (ss_one (ss_ret se_bl)))))
end
end Mir
set_option Elab.async false
set_option linter.all false
set_option maxRecDepth 100000
set_option maxHeartbeats 4000000
namespace Mir
open PySem
theorem ev_and (c : Prop) [Decidable c] (x : Bool) : (if c then ret (D.bl x) else ret (D.bl false)) = ret (D.bl (decide c && x)) := by
  by_cases h : c <;> simp [h]
theorem e_is_tuple_of (ds : List D) (a b : Int) : m_is_tuple_of [.tup ds, .int a, .int b] = ret (.bl (decide (a ≤ ds.length) && decide ((ds.length : Int) ≤ b))) := by
  simp [mSeq, mAsg, mRet, mRetN, mIfS, mIf, mSkip, mExpr, mCall, mCons, mNil, mVar, mC, m1, m2, m3c, mB, mTru, mNot, mOr, mAnd, mAndV, mOrV, asB, trD, gN, gTupD, gsCons, gsNil, mPar, mRaise_eq, mFor, mItN, mIt, itS, forGo, mLc, lcGo, wipeD, mYes, flD, mDef, fAdd, fSub, fNeg, fIx, fLen, fIsi, fNot, fInt, fList, fAbs, fTup, fLst, fGcd, cI, tyName, fIsN, items, asBs, fAll, mBrk, mCnt, mThk, ev_ret, bnd_noM, bnd_exM, bnd_bnd, bnd_ite, nox_ret, getO_some, gcM_ret, gcM_exM, gcM_noM, gcM_ite, fEq_int, atI_zero, atI_one, kb_NoneType_int, kb_NoneType_bool, kb_NoneType_str, kb_NoneType_tuple, kb_NoneType_list, kb_bool_int, kb_bool_bool, kb_bool_str, kb_bool_tuple, kb_bool_list, kb_int_int, kb_int_bool, kb_int_str, kb_int_tuple, kb_int_list, kb_str_int, kb_str_bool, kb_str_str, kb_str_tuple, kb_str_list, kb_tuple_int, kb_tuple_bool, kb_tuple_str, kb_tuple_tuple, kb_tuple_list, kb_list_int, kb_list_bool, kb_list_str, kb_list_tuple, kb_list_list, ev_and, m_is_tuple_of, bd_is_tuple_of]
theorem e_is_fraction (a b : Int) : m_is_fraction [fr a b] = ret (.bl (decide (1 ≤ b) && decide (gc a b = 1))) := by
  have e : decide (((a.natAbs.gcd b.natAbs : Nat) : Int) = 1) = decide (gc a b = 1) := decide_eq_decide.mpr (by unfold gc; omega)
  simp [mSeq, mAsg, mRet, mRetN, mIfS, mIf, mSkip, mExpr, mCall, mCons, mNil, mVar, mC, m1, m2, m3c, mB, mTru, mNot, mOr, mAnd, mAndV, mOrV, asB, trD, gN, gTupD, gsCons, gsNil, mPar, mRaise_eq, mFor, mItN, mIt, itS, forGo, mLc, lcGo, wipeD, mYes, flD, mDef, fAdd, fSub, fNeg, fIx, fLen, fIsi, fNot, fInt, fList, fAbs, fTup, fLst, fGcd, cI, tyName, fIsN, items, asBs, fAll, mBrk, mCnt, mThk, ev_ret, bnd_noM, bnd_exM, bnd_bnd, bnd_ite, nox_ret, getO_some, gcM_ret, gcM_exM, gcM_noM, gcM_ite, fEq_int, atI_zero, atI_one, kb_NoneType_int, kb_NoneType_bool, kb_NoneType_str, kb_NoneType_tuple, kb_NoneType_list, kb_bool_int, kb_bool_bool, kb_bool_str, kb_bool_tuple, kb_bool_list, kb_int_int, kb_int_bool, kb_int_str, kb_int_tuple, kb_int_list, kb_str_int, kb_str_bool, kb_str_str, kb_str_tuple, kb_str_list, kb_tuple_int, kb_tuple_bool, kb_tuple_str, kb_tuple_tuple, kb_tuple_list, kb_list_int, kb_list_bool, kb_list_str, kb_list_tuple, kb_list_list, ev_and, m_is_fraction, bd_is_fraction, e_is_tuple_of, sizeLine]
  rw [← e]
theorem e_need {a b : Int} (hb : 1 ≤ b) (h : gc a b = 1) : m_need_fraction [fr a b] = ret .non := by
  simp [mSeq, mAsg, mRet, mRetN, mIfS, mIf, mSkip, mExpr, mCall, mCons, mNil, mVar, mC, m1, m2, m3c, mB, mTru, mNot, mOr, mAnd, mAndV, mOrV, asB, trD, gN, gTupD, gsCons, gsNil, mPar, mRaise_eq, mFor, mItN, mIt, itS, forGo, mLc, lcGo, wipeD, mYes, flD, mDef, fAdd, fSub, fNeg, fIx, fLen, fIsi, fNot, fInt, fList, fAbs, fTup, fLst, fGcd, cI, tyName, fIsN, items, asBs, fAll, mBrk, mCnt, mThk, ev_ret, bnd_noM, bnd_exM, bnd_bnd, bnd_ite, nox_ret, getO_some, gcM_ret, gcM_exM, gcM_noM, gcM_ite, fEq_int, atI_zero, atI_one, kb_NoneType_int, kb_NoneType_bool, kb_NoneType_str, kb_NoneType_tuple, kb_NoneType_list, kb_bool_int, kb_bool_bool, kb_bool_str, kb_bool_tuple, kb_bool_list, kb_int_int, kb_int_bool, kb_int_str, kb_int_tuple, kb_int_list, kb_str_int, kb_str_bool, kb_str_str, kb_str_tuple, kb_str_list, kb_tuple_int, kb_tuple_bool, kb_tuple_str, kb_tuple_tuple, kb_tuple_list, kb_list_int, kb_list_bool, kb_list_str, kb_list_tuple, kb_list_list, m_need_fraction, bd_need_fraction, e_is_fraction, hb, h]
theorem e_lowest {a b : Int} (h : b ≠ 0) (hb : b.natAbs < 2 ^ 9000) : m_lowest [.int a, .int b] = ret (fr (lowN a b) (lowD a b)) := by
  have hg := gc_pos (a := a) h
  have hl : gc a b ≤ b.natAbs := Nat.gcd_le_right _ (by omega)
  have h1 : (0 : Int) < (gc a b : Int) := by omega
  have h2 : ((gc a b : Nat) : Int).natAbs < 2 ^ 9000 := by
    rw [Int.natAbs_natCast]
    exact Nat.lt_of_le_of_lt hl hb
  have e1 : ∀ i, fDiv (.int i) (.int (Nat.gcd a.natAbs b.natAbs : Nat)) = ret (.int (i / (Nat.gcd a.natAbs b.natAbs : Nat))) := fun i => fDiv_int 9000 h1 h2 (Nat.le_refl _)
  simp [mSeq, mAsg, mRet, mRetN, mIfS, mIf, mSkip, mExpr, mCall, mCons, mNil, mVar, mC, m1, m2, m3c, mB, mTru, mNot, mOr, mAnd, mAndV, mOrV, asB, trD, gN, gTupD, gsCons, gsNil, mPar, mRaise_eq, mFor, mItN, mIt, itS, forGo, mLc, lcGo, wipeD, mYes, flD, mDef, fAdd, fSub, fNeg, fIx, fLen, fIsi, fNot, fInt, fList, fAbs, fTup, fLst, fGcd, cI, tyName, fIsN, items, asBs, fAll, mBrk, mCnt, mThk, ev_ret, bnd_noM, bnd_exM, bnd_bnd, bnd_ite, nox_ret, getO_some, gcM_ret, gcM_exM, gcM_noM, gcM_ite, fEq_int, atI_zero, atI_one, kb_NoneType_int, kb_NoneType_bool, kb_NoneType_str, kb_NoneType_tuple, kb_NoneType_list, kb_bool_int, kb_bool_bool, kb_bool_str, kb_bool_tuple, kb_bool_list, kb_int_int, kb_int_bool, kb_int_str, kb_int_tuple, kb_int_list, kb_str_int, kb_str_bool, kb_str_str, kb_str_tuple, kb_str_list, kb_tuple_int, kb_tuple_bool, kb_tuple_str, kb_tuple_tuple, kb_tuple_list, kb_list_int, kb_list_bool, kb_list_str, kb_list_tuple, kb_list_list, m_lowest, bd_lowest, e1, sizeLine]
  unfold lowN lowD gc
  split <;> simp [mSeq, mAsg, mRet, mRetN, mIfS, mIf, mSkip, mExpr, mCall, mCons, mNil, mVar, mC, m1, m2, m3c, mB, mTru, mNot, mOr, mAnd, mAndV, mOrV, asB, trD, gN, gTupD, gsCons, gsNil, mPar, mRaise_eq, mFor, mItN, mIt, itS, forGo, mLc, lcGo, wipeD, mYes, flD, mDef, fAdd, fSub, fNeg, fIx, fLen, fIsi, fNot, fInt, fList, fAbs, fTup, fLst, fGcd, cI, tyName, fIsN, items, asBs, fAll, mBrk, mCnt, mThk, ev_ret, bnd_noM, bnd_exM, bnd_bnd, bnd_ite, nox_ret, getO_some, gcM_ret, gcM_exM, gcM_noM, gcM_ite, fEq_int, atI_zero, atI_one, kb_NoneType_int, kb_NoneType_bool, kb_NoneType_str, kb_NoneType_tuple, kb_NoneType_list, kb_bool_int, kb_bool_bool, kb_bool_str, kb_bool_tuple, kb_bool_list, kb_int_int, kb_int_bool, kb_int_str, kb_int_tuple, kb_int_list, kb_str_int, kb_str_bool, kb_str_str, kb_str_tuple, kb_str_list, kb_tuple_int, kb_tuple_bool, kb_tuple_str, kb_tuple_tuple, kb_tuple_list, kb_list_int, kb_list_bool, kb_list_str, kb_list_tuple, kb_list_list]
/-- numbers that stay small -/
def sm (k : Nat) (i : Int) : Prop := i.natAbs < 2 ^ k
theorem sm_mul {k l : Nat} {i j : Int} (a : sm k i) (b : sm l j) : sm (k + l) (i * j) := by
  unfold sm
  rw [Int.natAbs_mul, Nat.pow_add]
  exact Nat.mul_lt_mul'' a b
theorem sm_add {k : Nat} {i j : Int} (a : sm k i) (b : sm k j) : sm (k + 1) (i + j) := by
  unfold sm at *
  rw [Nat.pow_succ]
  omega
theorem sm_mono {k l : Nat} {i : Int} (a : sm k i) (h : k ≤ l) : sm l i := Nat.lt_of_lt_of_le a (Nat.pow_le_pow_right (by omega) h)
theorem sm_low {k l : Nat} {a b : Int} (h : b ≠ 0) (ha : sm k a) (hb : sm l b) : sm k (lowN a b) ∧ sm l (lowD a b) := ⟨Nat.lt_of_le_of_lt (low_le h).1 ha, Nat.lt_of_le_of_lt (low_le h).2 hb⟩
/-- a fraction in lowest terms of at most k bits -/
structure Fr (k : Nat) (a b : Int) : Prop where
  pos : 1 ≤ b
  low : gc a b = 1
  sa : sm k a
  sb : sm k b
theorem Fr.ne {k : Nat} {a b : Int} (f : Fr k a b) : b ≠ 0 := by have := f.pos; omega
theorem fr_low {k : Nat} {x y : Int} (hy : y ≠ 0) (hx : sm k x) (h : sm k y) : Fr k (lowN x y) (lowD x y) := by
  obtain ⟨h1, h2, _⟩ := low_spec (a := x) hy
  obtain ⟨h3, h4⟩ := sm_low hy hx h
  exact ⟨h1, h2, h3, h4⟩
section
variable {k l : Nat} {a b c d : Int}
theorem mul_ev {i j : Int} {k l : Nat} (hi : sm k i) (hj : sm l j) (h : k + l ≤ 134217720) : fMul (.int i) (.int j) = ret (.int (i * j)) := fMul_int k l hi hj h
theorem e_plus (f : Fr k a b) (g : Fr k c d) (hk : k ≤ 2000) : m_plus [fr a b, fr c d] = ret (fr (lowN (a * d + c * b) (b * d)) (lowD (a * d + c * b) (b * d))) := by
  have hn : b * d ≠ 0 := Int.mul_ne_zero f.ne g.ne
  have e := e_lowest (a := a * d + c * b) hn (sm_mono (sm_mul f.sb g.sb) (by omega))
  simp [mSeq, mAsg, mRet, mRetN, mIfS, mIf, mSkip, mExpr, mCall, mCons, mNil, mVar, mC, m1, m2, m3c, mB, mTru, mNot, mOr, mAnd, mAndV, mOrV, asB, trD, gN, gTupD, gsCons, gsNil, mPar, mRaise_eq, mFor, mItN, mIt, itS, forGo, mLc, lcGo, wipeD, mYes, flD, mDef, fAdd, fSub, fNeg, fIx, fLen, fIsi, fNot, fInt, fList, fAbs, fTup, fLst, fGcd, cI, tyName, fIsN, items, asBs, fAll, mBrk, mCnt, mThk, ev_ret, bnd_noM, bnd_exM, bnd_bnd, bnd_ite, nox_ret, getO_some, gcM_ret, gcM_exM, gcM_noM, gcM_ite, fEq_int, atI_zero, atI_one, kb_NoneType_int, kb_NoneType_bool, kb_NoneType_str, kb_NoneType_tuple, kb_NoneType_list, kb_bool_int, kb_bool_bool, kb_bool_str, kb_bool_tuple, kb_bool_list, kb_int_int, kb_int_bool, kb_int_str, kb_int_tuple, kb_int_list, kb_str_int, kb_str_bool, kb_str_str, kb_str_tuple, kb_str_list, kb_tuple_int, kb_tuple_bool, kb_tuple_str, kb_tuple_tuple, kb_tuple_list, kb_list_int, kb_list_bool, kb_list_str, kb_list_tuple, kb_list_list, m_plus, bd_plus, mul_ev f.sa g.sb (by omega), mul_ev g.sa f.sb (by omega), mul_ev f.sb g.sb (by omega), e]
theorem e_times (f : Fr k a b) (g : Fr k c d) (hk : k ≤ 2000) : m_times [fr a b, fr c d] = ret (fr (lowN (a * c) (b * d)) (lowD (a * c) (b * d))) := by
  have hn : b * d ≠ 0 := Int.mul_ne_zero f.ne g.ne
  have e := e_lowest (a := a * c) hn (sm_mono (sm_mul f.sb g.sb) (by omega))
  simp [mSeq, mAsg, mRet, mRetN, mIfS, mIf, mSkip, mExpr, mCall, mCons, mNil, mVar, mC, m1, m2, m3c, mB, mTru, mNot, mOr, mAnd, mAndV, mOrV, asB, trD, gN, gTupD, gsCons, gsNil, mPar, mRaise_eq, mFor, mItN, mIt, itS, forGo, mLc, lcGo, wipeD, mYes, flD, mDef, fAdd, fSub, fNeg, fIx, fLen, fIsi, fNot, fInt, fList, fAbs, fTup, fLst, fGcd, cI, tyName, fIsN, items, asBs, fAll, mBrk, mCnt, mThk, ev_ret, bnd_noM, bnd_exM, bnd_bnd, bnd_ite, nox_ret, getO_some, gcM_ret, gcM_exM, gcM_noM, gcM_ite, fEq_int, atI_zero, atI_one, kb_NoneType_int, kb_NoneType_bool, kb_NoneType_str, kb_NoneType_tuple, kb_NoneType_list, kb_bool_int, kb_bool_bool, kb_bool_str, kb_bool_tuple, kb_bool_list, kb_int_int, kb_int_bool, kb_int_str, kb_int_tuple, kb_int_list, kb_str_int, kb_str_bool, kb_str_str, kb_str_tuple, kb_str_list, kb_tuple_int, kb_tuple_bool, kb_tuple_str, kb_tuple_tuple, kb_tuple_list, kb_list_int, kb_list_bool, kb_list_str, kb_list_tuple, kb_list_list, m_times, bd_times, mul_ev f.sa g.sa (by omega), mul_ev f.sb g.sb (by omega), e]
theorem e_over (f : Fr k a b) (g : Fr k c d) (hc : c ≠ 0) (hk : k ≤ 2000) : m_over [fr a b, fr c d] = ret (fr (lowN (a * d) (b * c)) (lowD (a * d) (b * c))) := by
  have hn : b * c ≠ 0 := Int.mul_ne_zero f.ne hc
  have e := e_lowest (a := a * d) hn (sm_mono (sm_mul f.sb g.sa) (by omega))
  simp [mSeq, mAsg, mRet, mRetN, mIfS, mIf, mSkip, mExpr, mCall, mCons, mNil, mVar, mC, m1, m2, m3c, mB, mTru, mNot, mOr, mAnd, mAndV, mOrV, asB, trD, gN, gTupD, gsCons, gsNil, mPar, mRaise_eq, mFor, mItN, mIt, itS, forGo, mLc, lcGo, wipeD, mYes, flD, mDef, fAdd, fSub, fNeg, fIx, fLen, fIsi, fNot, fInt, fList, fAbs, fTup, fLst, fGcd, cI, tyName, fIsN, items, asBs, fAll, mBrk, mCnt, mThk, ev_ret, bnd_noM, bnd_exM, bnd_bnd, bnd_ite, nox_ret, getO_some, gcM_ret, gcM_exM, gcM_noM, gcM_ite, fEq_int, atI_zero, atI_one, kb_NoneType_int, kb_NoneType_bool, kb_NoneType_str, kb_NoneType_tuple, kb_NoneType_list, kb_bool_int, kb_bool_bool, kb_bool_str, kb_bool_tuple, kb_bool_list, kb_int_int, kb_int_bool, kb_int_str, kb_int_tuple, kb_int_list, kb_str_int, kb_str_bool, kb_str_str, kb_str_tuple, kb_str_list, kb_tuple_int, kb_tuple_bool, kb_tuple_str, kb_tuple_tuple, kb_tuple_list, kb_list_int, kb_list_bool, kb_list_str, kb_list_tuple, kb_list_list, m_over, bd_over, mul_ev f.sa g.sb (by omega), mul_ev f.sb g.sa (by omega), e]
theorem e_sum (f : Fr k a b) (g : Fr k c d) (hk : k ≤ 2000) : m_fraction_sum [fr a b, fr c d] = ret (fr (lowN (a * d + c * b) (b * d)) (lowD (a * d + c * b) (b * d))) := by
  simp [mSeq, mAsg, mRet, mRetN, mIfS, mIf, mSkip, mExpr, mCall, mCons, mNil, mVar, mC, m1, m2, m3c, mB, mTru, mNot, mOr, mAnd, mAndV, mOrV, asB, trD, gN, gTupD, gsCons, gsNil, mPar, mRaise_eq, mFor, mItN, mIt, itS, forGo, mLc, lcGo, wipeD, mYes, flD, mDef, fAdd, fSub, fNeg, fIx, fLen, fIsi, fNot, fInt, fList, fAbs, fTup, fLst, fGcd, cI, tyName, fIsN, items, asBs, fAll, mBrk, mCnt, mThk, ev_ret, bnd_noM, bnd_exM, bnd_bnd, bnd_ite, nox_ret, getO_some, gcM_ret, gcM_exM, gcM_noM, gcM_ite, fEq_int, atI_zero, atI_one, kb_NoneType_int, kb_NoneType_bool, kb_NoneType_str, kb_NoneType_tuple, kb_NoneType_list, kb_bool_int, kb_bool_bool, kb_bool_str, kb_bool_tuple, kb_bool_list, kb_int_int, kb_int_bool, kb_int_str, kb_int_tuple, kb_int_list, kb_str_int, kb_str_bool, kb_str_str, kb_str_tuple, kb_str_list, kb_tuple_int, kb_tuple_bool, kb_tuple_str, kb_tuple_tuple, kb_tuple_list, kb_list_int, kb_list_bool, kb_list_str, kb_list_tuple, kb_list_list, m_fraction_sum, bd_fraction_sum, e_need f.pos f.low, e_need g.pos g.low, e_plus f g hk]
theorem e_product (f : Fr k a b) (g : Fr k c d) (hk : k ≤ 2000) : m_fraction_product [fr a b, fr c d] = ret (fr (lowN (a * c) (b * d)) (lowD (a * c) (b * d))) := by
  simp [mSeq, mAsg, mRet, mRetN, mIfS, mIf, mSkip, mExpr, mCall, mCons, mNil, mVar, mC, m1, m2, m3c, mB, mTru, mNot, mOr, mAnd, mAndV, mOrV, asB, trD, gN, gTupD, gsCons, gsNil, mPar, mRaise_eq, mFor, mItN, mIt, itS, forGo, mLc, lcGo, wipeD, mYes, flD, mDef, fAdd, fSub, fNeg, fIx, fLen, fIsi, fNot, fInt, fList, fAbs, fTup, fLst, fGcd, cI, tyName, fIsN, items, asBs, fAll, mBrk, mCnt, mThk, ev_ret, bnd_noM, bnd_exM, bnd_bnd, bnd_ite, nox_ret, getO_some, gcM_ret, gcM_exM, gcM_noM, gcM_ite, fEq_int, atI_zero, atI_one, kb_NoneType_int, kb_NoneType_bool, kb_NoneType_str, kb_NoneType_tuple, kb_NoneType_list, kb_bool_int, kb_bool_bool, kb_bool_str, kb_bool_tuple, kb_bool_list, kb_int_int, kb_int_bool, kb_int_str, kb_int_tuple, kb_int_list, kb_str_int, kb_str_bool, kb_str_str, kb_str_tuple, kb_str_list, kb_tuple_int, kb_tuple_bool, kb_tuple_str, kb_tuple_tuple, kb_tuple_list, kb_list_int, kb_list_bool, kb_list_str, kb_list_tuple, kb_list_list, m_fraction_product, bd_fraction_product, e_need f.pos f.low, e_need g.pos g.low, e_times f g hk]
theorem e_by (f : Fr k a b) (g : Fr k c d) (hc : c ≠ 0) (hk : k ≤ 2000) : m_fraction_by [fr a b, fr c d] = ret (fr (lowN (a * d) (b * c)) (lowD (a * d) (b * c))) := by
  simp [mSeq, mAsg, mRet, mRetN, mIfS, mIf, mSkip, mExpr, mCall, mCons, mNil, mVar, mC, m1, m2, m3c, mB, mTru, mNot, mOr, mAnd, mAndV, mOrV, asB, trD, gN, gTupD, gsCons, gsNil, mPar, mRaise_eq, mFor, mItN, mIt, itS, forGo, mLc, lcGo, wipeD, mYes, flD, mDef, fAdd, fSub, fNeg, fIx, fLen, fIsi, fNot, fInt, fList, fAbs, fTup, fLst, fGcd, cI, tyName, fIsN, items, asBs, fAll, mBrk, mCnt, mThk, ev_ret, bnd_noM, bnd_exM, bnd_bnd, bnd_ite, nox_ret, getO_some, gcM_ret, gcM_exM, gcM_noM, gcM_ite, fEq_int, atI_zero, atI_one, kb_NoneType_int, kb_NoneType_bool, kb_NoneType_str, kb_NoneType_tuple, kb_NoneType_list, kb_bool_int, kb_bool_bool, kb_bool_str, kb_bool_tuple, kb_bool_list, kb_int_int, kb_int_bool, kb_int_str, kb_int_tuple, kb_int_list, kb_str_int, kb_str_bool, kb_str_str, kb_str_tuple, kb_str_list, kb_tuple_int, kb_tuple_bool, kb_tuple_str, kb_tuple_tuple, kb_tuple_list, kb_list_int, kb_list_bool, kb_list_str, kb_list_tuple, kb_list_list, m_fraction_by, bd_fraction_by, e_need f.pos f.low, e_need g.pos g.low, e_over f g hc hk, hc]
theorem e_by0 (f : Fr k a b) (g : Fr k 0 d) : m_fraction_by [fr a b, fr 0 d] = exM ⟨"NotFound"⟩ := by
  simp [mSeq, mAsg, mRet, mRetN, mIfS, mIf, mSkip, mExpr, mCall, mCons, mNil, mVar, mC, m1, m2, m3c, mB, mTru, mNot, mOr, mAnd, mAndV, mOrV, asB, trD, gN, gTupD, gsCons, gsNil, mPar, mRaise_eq, mFor, mItN, mIt, itS, forGo, mLc, lcGo, wipeD, mYes, flD, mDef, fAdd, fSub, fNeg, fIx, fLen, fIsi, fNot, fInt, fList, fAbs, fTup, fLst, fGcd, cI, tyName, fIsN, items, asBs, fAll, mBrk, mCnt, mThk, ev_ret, bnd_noM, bnd_exM, bnd_bnd, bnd_ite, nox_ret, getO_some, gcM_ret, gcM_exM, gcM_noM, gcM_ite, fEq_int, atI_zero, atI_one, kb_NoneType_int, kb_NoneType_bool, kb_NoneType_str, kb_NoneType_tuple, kb_NoneType_list, kb_bool_int, kb_bool_bool, kb_bool_str, kb_bool_tuple, kb_bool_list, kb_int_int, kb_int_bool, kb_int_str, kb_int_tuple, kb_int_list, kb_str_int, kb_str_bool, kb_str_str, kb_str_tuple, kb_str_list, kb_tuple_int, kb_tuple_bool, kb_tuple_str, kb_tuple_tuple, kb_tuple_list, kb_list_int, kb_list_bool, kb_list_str, kb_list_tuple, kb_list_list, m_fraction_by, bd_fraction_by, e_need f.pos f.low, e_need g.pos g.low]
theorem e_at_most (f : Fr k a b) (g : Fr k c d) (hk : k ≤ 2000) : m_at_most [fr a b, fr c d] = ret (.bl (decide (a * d ≤ c * b))) := by
  simp [mSeq, mAsg, mRet, mRetN, mIfS, mIf, mSkip, mExpr, mCall, mCons, mNil, mVar, mC, m1, m2, m3c, mB, mTru, mNot, mOr, mAnd, mAndV, mOrV, asB, trD, gN, gTupD, gsCons, gsNil, mPar, mRaise_eq, mFor, mItN, mIt, itS, forGo, mLc, lcGo, wipeD, mYes, flD, mDef, fAdd, fSub, fNeg, fIx, fLen, fIsi, fNot, fInt, fList, fAbs, fTup, fLst, fGcd, cI, tyName, fIsN, items, asBs, fAll, mBrk, mCnt, mThk, ev_ret, bnd_noM, bnd_exM, bnd_bnd, bnd_ite, nox_ret, getO_some, gcM_ret, gcM_exM, gcM_noM, gcM_ite, fEq_int, atI_zero, atI_one, kb_NoneType_int, kb_NoneType_bool, kb_NoneType_str, kb_NoneType_tuple, kb_NoneType_list, kb_bool_int, kb_bool_bool, kb_bool_str, kb_bool_tuple, kb_bool_list, kb_int_int, kb_int_bool, kb_int_str, kb_int_tuple, kb_int_list, kb_str_int, kb_str_bool, kb_str_str, kb_str_tuple, kb_str_list, kb_tuple_int, kb_tuple_bool, kb_tuple_str, kb_tuple_tuple, kb_tuple_list, kb_list_int, kb_list_bool, kb_list_str, kb_list_tuple, kb_list_list, m_at_most, bd_at_most, m_is_most, bd_is_most, e_need f.pos f.low, e_need g.pos g.low, mul_ev f.sa g.sb (by omega), mul_ev g.sa f.sb (by omega)]
theorem e_isf (f : Fr k a b) : m_is_fraction [fr a b] = ret (.bl true) := by
  rw [e_is_fraction]
  simp [f.pos, f.low]
theorem e_rest (f : Fr k a b) (w : Int) (hw : w = 1 ∨ w = 2) (hk : k ≤ 2000) : m_fraction_rest [fr a b, .int w] = ret (fr (lowN (a % (w * b)) b) (lowD (a % (w * b)) b)) := by
  have hw1 : 0 < w * b := Int.mul_pos (by omega) (by have := f.pos; omega)
  have sw : sm 2 w := by rcases hw with rfl | rfl <;> (show Int.natAbs _ < 2 ^ 2; decide)
  have e := e_lowest (a := a % (w * b)) f.ne (sm_mono f.sb (by omega))
  have e2 : m_is_whole [.int w, .int 1, .int 2] = ret (.bl true) := by
    rcases hw with rfl | rfl <;> simp [mSeq, mAsg, mRet, mRetN, mIfS, mIf, mSkip, mExpr, mCall, mCons, mNil, mVar, mC, m1, m2, m3c, mB, mTru, mNot, mOr, mAnd, mAndV, mOrV, asB, trD, gN, gTupD, gsCons, gsNil, mPar, mRaise_eq, mFor, mItN, mIt, itS, forGo, mLc, lcGo, wipeD, mYes, flD, mDef, fAdd, fSub, fNeg, fIx, fLen, fIsi, fNot, fInt, fList, fAbs, fTup, fLst, fGcd, cI, tyName, fIsN, items, asBs, fAll, mBrk, mCnt, mThk, ev_ret, bnd_noM, bnd_exM, bnd_bnd, bnd_ite, nox_ret, getO_some, gcM_ret, gcM_exM, gcM_noM, gcM_ite, fEq_int, atI_zero, atI_one, kb_NoneType_int, kb_NoneType_bool, kb_NoneType_str, kb_NoneType_tuple, kb_NoneType_list, kb_bool_int, kb_bool_bool, kb_bool_str, kb_bool_tuple, kb_bool_list, kb_int_int, kb_int_bool, kb_int_str, kb_int_tuple, kb_int_list, kb_str_int, kb_str_bool, kb_str_str, kb_str_tuple, kb_str_list, kb_tuple_int, kb_tuple_bool, kb_tuple_str, kb_tuple_tuple, kb_tuple_list, kb_list_int, kb_list_bool, kb_list_str, kb_list_tuple, kb_list_list, ev_and, m_is_whole, bd_is_whole]
  simp [mSeq, mAsg, mRet, mRetN, mIfS, mIf, mSkip, mExpr, mCall, mCons, mNil, mVar, mC, m1, m2, m3c, mB, mTru, mNot, mOr, mAnd, mAndV, mOrV, asB, trD, gN, gTupD, gsCons, gsNil, mPar, mRaise_eq, mFor, mItN, mIt, itS, forGo, mLc, lcGo, wipeD, mYes, flD, mDef, fAdd, fSub, fNeg, fIx, fLen, fIsi, fNot, fInt, fList, fAbs, fTup, fLst, fGcd, cI, tyName, fIsN, items, asBs, fAll, mBrk, mCnt, mThk, ev_ret, bnd_noM, bnd_exM, bnd_bnd, bnd_ite, nox_ret, getO_some, gcM_ret, gcM_exM, gcM_noM, gcM_ite, fEq_int, atI_zero, atI_one, kb_NoneType_int, kb_NoneType_bool, kb_NoneType_str, kb_NoneType_tuple, kb_NoneType_list, kb_bool_int, kb_bool_bool, kb_bool_str, kb_bool_tuple, kb_bool_list, kb_int_int, kb_int_bool, kb_int_str, kb_int_tuple, kb_int_list, kb_str_int, kb_str_bool, kb_str_str, kb_str_tuple, kb_str_list, kb_tuple_int, kb_tuple_bool, kb_tuple_str, kb_tuple_tuple, kb_tuple_list, kb_list_int, kb_list_bool, kb_list_str, kb_list_tuple, kb_list_list, m_fraction_rest, bd_fraction_rest, m_rest_of, bd_rest_of, e_need f.pos f.low, e2, mul_ev sw f.sb (by omega), fMod_int hw1, e]
end
/-! ### the law's own lowest terms: Euclid -/
abbrev lowB : MS := (mSeq (mIfS (mB (m2 (fEq false) (mVar 3) (mC (.int 0)))) mBrk mSkip)
    (mPar 2 3 (mCons (mVar 3) (mCons (m2 fMod (mCall fInt (mCons (mVar 2) mNil)) (mVar 3)) mNil))))
theorem go_zero (d : D) (ds : List D) (A B : Option D) (x : Nat) (z : Option D) : forGo (gN 4) lowB (d :: ds) [A, B, some (.int x), some (.int 0), z] = ret (.nx, [A, B, some (.int x), some (.int 0), some d]) := by
  simp [mSeq, mAsg, mRet, mRetN, mIfS, mIf, mSkip, mExpr, mCall, mCons, mNil, mVar, mC, m1, m2, m3c, mB, mTru, mNot, mOr, mAnd, mAndV, mOrV, asB, trD, gN, gTupD, gsCons, gsNil, mPar, mRaise_eq, mFor, mItN, mIt, itS, forGo, mLc, lcGo, wipeD, mYes, flD, mDef, fAdd, fSub, fNeg, fIx, fLen, fIsi, fNot, fInt, fList, fAbs, fTup, fLst, fGcd, cI, tyName, fIsN, items, asBs, fAll, mBrk, mCnt, mThk, ev_ret, bnd_noM, bnd_exM, bnd_bnd, bnd_ite, nox_ret, getO_some, gcM_ret, gcM_exM, gcM_noM, gcM_ite, fEq_int, atI_zero, atI_one, kb_NoneType_int, kb_NoneType_bool, kb_NoneType_str, kb_NoneType_tuple, kb_NoneType_list, kb_bool_int, kb_bool_bool, kb_bool_str, kb_bool_tuple, kb_bool_list, kb_int_int, kb_int_bool, kb_int_str, kb_int_tuple, kb_int_list, kb_str_int, kb_str_bool, kb_str_str, kb_str_tuple, kb_str_list, kb_tuple_int, kb_tuple_bool, kb_tuple_str, kb_tuple_tuple, kb_tuple_list, kb_list_int, kb_list_bool, kb_list_str, kb_list_tuple, kb_list_list, lowB]
theorem go_step (d : D) (ds : List D) (A B : Option D) (x y : Nat) (hy : y ≠ 0) (z : Option D) :
    forGo (gN 4) lowB (d :: ds) [A, B, some (.int x), some (.int y), z] = forGo (gN 4) lowB ds [A, B, some (.int y), some (.int (x % y : Nat)), some d] := by
  have h0 : (0 : Int) < (y : Int) := by omega
  have h1 : ¬ ((y : Int) = 0) := by omega
  have e : (x : Int) % (y : Int) = ((x % y : Nat) : Int) := rfl
  simp [mSeq, mAsg, mRet, mRetN, mIfS, mIf, mSkip, mExpr, mCall, mCons, mNil, mVar, mC, m1, m2, m3c, mB, mTru, mNot, mOr, mAnd, mAndV, mOrV, asB, trD, gN, gTupD, gsCons, gsNil, mPar, mRaise_eq, mFor, mItN, mIt, itS, forGo, mLc, lcGo, wipeD, mYes, flD, mDef, fAdd, fSub, fNeg, fIx, fLen, fIsi, fNot, fInt, fList, fAbs, fTup, fLst, fGcd, cI, tyName, fIsN, items, asBs, fAll, mBrk, mCnt, mThk, ev_ret, bnd_noM, bnd_exM, bnd_bnd, bnd_ite, nox_ret, getO_some, gcM_ret, gcM_exM, gcM_noM, gcM_ite, fEq_int, atI_zero, atI_one, kb_NoneType_int, kb_NoneType_bool, kb_NoneType_str, kb_NoneType_tuple, kb_NoneType_list, kb_bool_int, kb_bool_bool, kb_bool_str, kb_bool_tuple, kb_bool_list, kb_int_int, kb_int_bool, kb_int_str, kb_int_tuple, kb_int_list, kb_str_int, kb_str_bool, kb_str_str, kb_str_tuple, kb_str_list, kb_tuple_int, kb_tuple_bool, kb_tuple_str, kb_tuple_tuple, kb_tuple_list, kb_list_int, kb_list_bool, kb_list_str, kb_list_tuple, kb_list_list, lowB, h1, hy, fMod_int h0]
theorem go_all : ∀ (k : Nat) (ds : List D) (A B : Option D) (x y : Nat) (z : Option D), 2 * k + 1 ≤ ds.length → y < 2 ^ k → ∃ z', forGo (gN 4) lowB ds [A, B, some (.int x), some (.int y), z] = ret (.nx, [A, B, some (.int (Nat.gcd x y : Nat)), some (.int 0), z'])
  | k, [], _, _, _, _, _, h, _ => by simp at h
  | 0, d :: ds, A, B, x, y, z, h, hy => by
    have e : y = 0 := by simpa using hy
    subst e
    exact ⟨_, by rw [show ((0 : Nat) : Int) = 0 from rfl, go_zero, Nat.gcd_zero_right]⟩
  | k + 1, [d], A, B, x, y, z, h, hy => by simp at h
  | k + 1, d :: d2 :: ds, A, B, x, y, z, h, hy => by
    by_cases y0 : y = 0
    · subst y0
      exact ⟨_, by rw [show ((0 : Nat) : Int) = 0 from rfl, go_zero, Nat.gcd_zero_right]⟩
    · have hg : Nat.gcd x y = Nat.gcd y (x % y) := by rw [Nat.gcd_comm x y, Nat.gcd_rec, Nat.gcd_comm]
      rw [go_step d _ A B x y y0]
      by_cases r0 : x % y = 0
      · refine ⟨some d2, ?_⟩
        rw [r0, show ((0 : Nat) : Int) = 0 from rfl, go_zero, hg, r0, Nat.gcd_zero_right]
      · rw [go_step d2 _ A B y (x % y) r0]
        have hlt := Nat.mod_lt x (Nat.pos_of_ne_zero y0)
        have hh := mod_half (x := y) (y := x % y) (Nat.pos_of_ne_zero r0) (Nat.le_of_lt hlt)
        have hp : 2 ^ (k + 1) = 2 * 2 ^ k := by rw [Nat.pow_succ, Nat.mul_comm]
        obtain ⟨z', e⟩ := go_all k ds A B (x % y) (y % (x % y)) (some d2) (by simp at h; omega) (by omega)
        refine ⟨z', ?_⟩
        rw [e, hg, show Nat.gcd y (x % y) = Nat.gcd (x % y) (y % (x % y)) by rw [Nat.gcd_comm y, Nat.gcd_rec, Nat.gcd_comm]]
theorem rg_length (a : Int) (k : Nat) : (rgD a k).length = k := by simp [rgD]
theorem e_llowest {a b : Int} (h : b ≠ 0) (hb : b.natAbs < 2 ^ 2900) : m__law_lowest [.int a, .int b] = ret (fr (lowN a b) (lowD a b)) := by
  have hg := gc_pos (a := a) h
  have hl : gc a b ≤ b.natAbs := Nat.gcd_le_right _ (by omega)
  have h1 : (0 : Int) < (gc a b : Int) := by omega
  have h2 : ((gc a b : Nat) : Int).natAbs < 2 ^ 9000 := by
    rw [Int.natAbs_natCast]
    exact Nat.lt_of_le_of_lt hl (Nat.lt_of_lt_of_le hb (Nat.pow_le_pow_right (by omega) (by omega)))
  have e1 : ∀ i, fDiv (.int i) (.int (Nat.gcd a.natAbs b.natAbs : Nat)) = ret (.int (i / (Nat.gcd a.natAbs b.natAbs : Nat))) := fun i => fDiv_int 9000 h1 h2 (Nat.le_refl _)
  have ab : ∀ i : Int, (if i < 0 then -i else i) = ((i.natAbs : Nat) : Int) := fun i => by split <;> omega
  obtain ⟨z, e2⟩ := go_all 2900 (rgD 0 6000) (some (.int a)) (some (.int b)) a.natAbs b.natAbs none (by rw [rg_length]; omega) hb
  have hr : fRg1 [.int 6000] = ret (rgD 0 6000) := rfl
  have e3 : mFor (mItN fRg1 (mCons (mC (.int 6000)) mNil)) (gN 4) lowB [some (.int a), some (.int b), some (.int (a.natAbs : Nat)), some (.int (b.natAbs : Nat)), none] = forGo (gN 4) lowB (rgD 0 6000) [some (.int a), some (.int b), some (.int (a.natAbs : Nat)), some (.int (b.natAbs : Nat)), none] := by
    simp only [mFor, mItN, mCons, mC, mNil, ev_ret, hr]
  rw [e2] at e3
  show mDef 2 5 (mSeq (mPar 2 3 (mCons (mCall fAbs (mCons (mVar 0) mNil)) (mCons (mCall fAbs (mCons (mVar 1) mNil)) mNil))) (mSeq (mFor (mItN fRg1 (mCons (mC (.int 6000)) mNil)) (gN 4) lowB) (mSeq (mPar 0 1 (mCons (m2 fDiv (mVar 0) (mVar 2)) (mCons (m2 fDiv (mVar 1) (mVar 2)) mNil)))
    (mRet (mIf (mB (m2 cGt (mVar 1) (mC (.int 0)))) (mCall fTup (mCons (mVar 0) (mCons (mVar 1) mNil))) (mCall fTup (mCons (m1 fNeg (mVar 0)) (mCons (m1 fNeg (mVar 1)) mNil)))))))) [.int a, .int b] = _
  generalize mFor (mItN fRg1 (mCons (mC (.int 6000)) mNil)) (gN 4) lowB = F at e3 ⊢
  simp [mSeq, mAsg, mRet, mRetN, mIfS, mIf, mSkip, mExpr, mCall, mCons, mNil, mVar, mC, m1, m2, m3c, mB, mTru, mNot, mOr, mAnd, mAndV, mOrV, asB, trD, gN, gTupD, gsCons, gsNil, mPar, mRaise_eq, mFor, mItN, mIt, itS, forGo, mLc, lcGo, wipeD, mYes, flD, mDef, fAdd, fSub, fNeg, fIx, fLen, fIsi, fNot, fInt, fList, fAbs, fTup, fLst, fGcd, cI, tyName, fIsN, items, asBs, fAll, mBrk, mCnt, mThk, ev_ret, bnd_noM, bnd_exM, bnd_bnd, bnd_ite, nox_ret, getO_some, gcM_ret, gcM_exM, gcM_noM, gcM_ite, fEq_int, atI_zero, atI_one, kb_NoneType_int, kb_NoneType_bool, kb_NoneType_str, kb_NoneType_tuple, kb_NoneType_list, kb_bool_int, kb_bool_bool, kb_bool_str, kb_bool_tuple, kb_bool_list, kb_int_int, kb_int_bool, kb_int_str, kb_int_tuple, kb_int_list, kb_str_int, kb_str_bool, kb_str_str, kb_str_tuple, kb_str_list, kb_tuple_int, kb_tuple_bool, kb_tuple_str, kb_tuple_tuple, kb_tuple_list, kb_list_int, kb_list_bool, kb_list_str, kb_list_tuple, kb_list_list, ab, e3, e1, sizeLine]
  unfold lowN lowD gc
  split <;> simp [mSeq, mAsg, mRet, mRetN, mIfS, mIf, mSkip, mExpr, mCall, mCons, mNil, mVar, mC, m1, m2, m3c, mB, mTru, mNot, mOr, mAnd, mAndV, mOrV, asB, trD, gN, gTupD, gsCons, gsNil, mPar, mRaise_eq, mFor, mItN, mIt, itS, forGo, mLc, lcGo, wipeD, mYes, flD, mDef, fAdd, fSub, fNeg, fIx, fLen, fIsi, fNot, fInt, fList, fAbs, fTup, fLst, fGcd, cI, tyName, fIsN, items, asBs, fAll, mBrk, mCnt, mThk, ev_ret, bnd_noM, bnd_exM, bnd_bnd, bnd_ite, nox_ret, getO_some, gcM_ret, gcM_exM, gcM_noM, gcM_ite, fEq_int, atI_zero, atI_one, kb_NoneType_int, kb_NoneType_bool, kb_NoneType_str, kb_NoneType_tuple, kb_NoneType_list, kb_bool_int, kb_bool_bool, kb_bool_str, kb_bool_tuple, kb_bool_list, kb_int_int, kb_int_bool, kb_int_str, kb_int_tuple, kb_int_list, kb_str_int, kb_str_bool, kb_str_str, kb_str_tuple, kb_str_list, kb_tuple_int, kb_tuple_bool, kb_tuple_str, kb_tuple_tuple, kb_tuple_list, kb_list_int, kb_list_bool, kb_list_str, kb_list_tuple, kb_list_list]
end Mir
set_option Elab.async false
set_option linter.all false
set_option maxRecDepth 100000
set_option maxHeartbeats 4000000
namespace Mir
open PySem
/-! ### the law's draws -/
theorem fMul_i {i j : Int} (k l : Nat) (hi : sm k i) (hj : sm l j) (h : k + l ≤ 134217720) : fMul (.int i) (.int j) = ret (.int (i * j)) := fMul_int k l hi hj h
abbrev cupS (c0 c1 : Int) : Sto := [some [.int c0, .int c1]]
def Cup (S : Sto) : Prop := ∃ c0 c1 : Int, S = cupS c0 c1 ∧ 0 ≤ c0 ∧ 0 ≤ c1 ∧ c1 < 1048576
theorem rd0 (c0 c1 : Int) : rdS 0 (cupS c0 c1) = .ok [.int c0, .int c1] (cupS c0 c1) := rfl
theorem ix_c0 (c0 c1 : Int) : fIx (.ref 0) (.int 0) (cupS c0 c1) = .ok (.int c0) (cupS c0 c1) := rfl
theorem ix_c1 (c0 c1 : Int) : fIx (.ref 0) (.int 1) (cupS c0 c1) = .ok (.int c1) (cupS c0 c1) := rfl
theorem set_c0 (c0 c1 v : Int) : fSet (.ref 0) (.int 0) (.int v) (cupS c0 c1) = .ok () (cupS v c1) := rfl
theorem set_c1 (c0 c1 v : Int) : fSet (.ref 0) (.int 1) (.int v) (cupS c0 c1) = .ok () (cupS c0 v) := rfl
theorem bnd_s {α β : Type} {m : M α} {S S1 : Sto} {a : α} (k : α → M β) (h : m S = .ok a S1) : bnd m k S = k a S1 := bnd_at h
theorem e_roll {S : Sto} (hS : Cup S) {n : Int} (h1 : 1 ≤ n) (h2 : sm 9000 n) : ∃ r S', m__law_roll [.ref 0, .int n] S = .ok (.int r) S' ∧ 0 ≤ r ∧ r < n ∧ Cup S' := by
  obtain ⟨c0, c1, rfl, hc0, hc1, hc2⟩ := hS
  have hn : 0 < n := by omega
  by_cases h0 : 0 < c0
  · refine ⟨c0 % n, cupS (c0 / n) c1, ?_, Int.emod_nonneg _ (by omega), Int.emod_lt_of_pos _ hn, c0 / n, c1, rfl, Int.ediv_nonneg hc0 (by omega), hc1, hc2⟩
    have e1 : fDiv (.int c0) (.int n) = ret (.int (c0 / n)) := fDiv_int 9000 hn h2 (Nat.le_refl _)
    show mDef 2 3 bd__law_roll _ _ = _
    refine gcM_at ?_ rfl
    simp [mSeq, mAsg, mRet, mRetN, mIfS, mIf, mSkip, mExpr, mCall, mCons, mNil, mVar, mC, m1, m2, m3c, mB, mTru, mNot, mOr, mAnd, mAndV, mOrV, asB, trD, gN, gTupD, gsCons, gsNil, mPar, mRaise_eq, mFor, mItN, mIt, itS, forGo, mLc, lcGo, wipeD, mYes, flD, mDef, fAdd, fSub, fNeg, fIx, fLen, fIsi, fNot, fInt, fList, fAbs, fTup, fLst, fGcd, cI, tyName, fIsN, items, asBs, fAll, mBrk, mCnt, mThk, ev_ret, bnd_noM, bnd_exM, bnd_bnd, bnd_ite, nox_ret, getO_some, gcM_ret, gcM_exM, gcM_noM, gcM_ite, fEq_int, atI_zero, atI_one, kb_NoneType_int, kb_NoneType_bool, kb_NoneType_str, kb_NoneType_tuple, kb_NoneType_list, kb_bool_int, kb_bool_bool, kb_bool_str, kb_bool_tuple, kb_bool_list, kb_int_int, kb_int_bool, kb_int_str, kb_int_tuple, kb_int_list, kb_str_int, kb_str_bool, kb_str_str, kb_str_tuple, kb_str_list, kb_tuple_int, kb_tuple_bool, kb_tuple_str, kb_tuple_tuple, kb_tuple_list, kb_list_int, kb_list_bool, kb_list_str, kb_list_tuple, kb_list_list, bd__law_roll, bnd_s _ (rd0 c0 c1), ite_at, bnd_s _ (set_c0 c0 c1 (c0 / n)), gSubD, fMod_int hn, e1, h0, ret_at]
  · have z0 : c0 = 0 := by omega
    subst z0
    have hm : (0 : Int) < 1048576 := by omega
    have b0 := Int.emod_nonneg (c1 * 23269 + 48437) (show (1048576 : Int) ≠ 0 by omega)
    have b1 := Int.emod_lt_of_pos (c1 * 23269 + 48437) hm
    have e1 : fMul (.int c1) (.int 23269) = ret (.int (c1 * 23269)) := fMul_i 20 15 (show c1.natAbs < 2 ^ 20 by omega) (show (23269 : Int).natAbs < 2 ^ 15 by decide) (by omega)
    have e2 : ∀ i, fDiv (.int i) (.int 139) = ret (.int (i / 139)) := fun i => fDiv_int 8 (by omega) (by decide) (by omega)
    refine ⟨((c1 * 23269 + 48437) % 1048576) / 139 % n, cupS 0 ((c1 * 23269 + 48437) % 1048576), ?_, Int.emod_nonneg _ (by omega), Int.emod_lt_of_pos _ hn, _, _, rfl, by omega, b0, b1⟩
    show mDef 2 3 bd__law_roll _ _ = _
    refine gcM_at ?_ rfl
    simp [mSeq, mAsg, mRet, mRetN, mIfS, mIf, mSkip, mExpr, mCall, mCons, mNil, mVar, mC, m1, m2, m3c, mB, mTru, mNot, mOr, mAnd, mAndV, mOrV, asB, trD, gN, gTupD, gsCons, gsNil, mPar, mRaise_eq, mFor, mItN, mIt, itS, forGo, mLc, lcGo, wipeD, mYes, flD, mDef, fAdd, fSub, fNeg, fIx, fLen, fIsi, fNot, fInt, fList, fAbs, fTup, fLst, fGcd, cI, tyName, fIsN, items, asBs, fAll, mBrk, mCnt, mThk, ev_ret, bnd_noM, bnd_exM, bnd_bnd, bnd_ite, nox_ret, getO_some, gcM_ret, gcM_exM, gcM_noM, gcM_ite, fEq_int, atI_zero, atI_one, kb_NoneType_int, kb_NoneType_bool, kb_NoneType_str, kb_NoneType_tuple, kb_NoneType_list, kb_bool_int, kb_bool_bool, kb_bool_str, kb_bool_tuple, kb_bool_list, kb_int_int, kb_int_bool, kb_int_str, kb_int_tuple, kb_int_list, kb_str_int, kb_str_bool, kb_str_str, kb_str_tuple, kb_str_list, kb_tuple_int, kb_tuple_bool, kb_tuple_str, kb_tuple_tuple, kb_tuple_list, kb_list_int, kb_list_bool, kb_list_str, kb_list_tuple, kb_list_list, bd__law_roll, bnd_s _ (rd0 0 c1), ite_at, bnd_s _ (rd0 0 ((c1 * 23269 + 48437) % 1048576)), bnd_s _ (set_c1 0 c1 ((c1 * 23269 + 48437) % 1048576)), gSubD, fMod_int hn, fMod_int hm, e1, e2, ret_at]
theorem e_some {S : Sto} (hS : Cup S) {ds : List D} (h1 : 1 ≤ ds.length) (h2 : ds.length < 1000) : ∃ d S', m__law_some [.ref 0, .lst ds] S = .ok d S' ∧ d ∈ ds ∧ Cup S' := by
  obtain ⟨r, S', e, r0, r1, hS'⟩ := e_roll hS (n := ds.length) (by omega) (show Int.natAbs _ < 2 ^ 9000 from Nat.lt_of_lt_of_le (show Int.natAbs _ < 1000 by omega) (Nat.le_trans (show 1000 ≤ 2 ^ 10 by decide) (Nat.pow_le_pow_right (by omega) (by omega))))
  have hr : r.toNat < ds.length := by omega
  refine ⟨ds[r.toNat], S', ?_, List.getElem_mem hr, hS'⟩
  have ea : L2.atI ds r = some ds[r.toNat] := by
    unfold L2.atI L2.ixN
    rw [if_pos r0, if_pos r1, Option.bind_some, List.getElem?_eq_getElem hr]
  show mDef 2 2 bd__law_some _ _ = _
  have hl : S'.length = S.length := by
    obtain ⟨_, _, rfl, _⟩ := hS
    obtain ⟨_, _, rfl, _⟩ := hS'
    rfl
  refine gcM_at ?_ hl
  simp [mSeq, mAsg, mRet, mRetN, mIfS, mIf, mSkip, mExpr, mCall, mCons, mNil, mVar, mC, m1, m2, m3c, mB, mTru, mNot, mOr, mAnd, mAndV, mOrV, asB, trD, gN, gTupD, gsCons, gsNil, mPar, mRaise_eq, mFor, mItN, mIt, itS, forGo, mLc, lcGo, wipeD, mYes, flD, mDef, fAdd, fSub, fNeg, fIx, fLen, fIsi, fNot, fInt, fList, fAbs, fTup, fLst, fGcd, cI, tyName, fIsN, items, asBs, fAll, mBrk, mCnt, mThk, ev_ret, bnd_noM, bnd_exM, bnd_bnd, bnd_ite, nox_ret, getO_some, gcM_ret, gcM_exM, gcM_noM, gcM_ite, fEq_int, atI_zero, atI_one, kb_NoneType_int, kb_NoneType_bool, kb_NoneType_str, kb_NoneType_tuple, kb_NoneType_list, kb_bool_int, kb_bool_bool, kb_bool_str, kb_bool_tuple, kb_bool_list, kb_int_int, kb_int_bool, kb_int_str, kb_int_tuple, kb_int_list, kb_str_int, kb_str_bool, kb_str_str, kb_str_tuple, kb_str_list, kb_tuple_int, kb_tuple_bool, kb_tuple_str, kb_tuple_tuple, kb_tuple_list, kb_list_int, kb_list_bool, kb_list_str, kb_list_tuple, kb_list_list, bd__law_some, bnd_s _ e, ea, ret_at]
theorem Cup.len {S S' : Sto} (a : Cup S) (b : Cup S') : S'.length = S.length := by
  obtain ⟨_, _, rfl, _⟩ := a
  obtain ⟨_, _, rfl, _⟩ := b
  rfl
theorem e_fraction {S : Sto} (hS : Cup S) : ∃ a b S', m__law_fraction [.ref 0] S = .ok (fr a b) S' ∧ Fr 80 a b ∧ Cup S' := by
  have p6 : fPow (.int 10) (.int 6) = ret (.int 1000000) := rfl
  have p20 : fPow (.int 10) (.int 20) = ret (.int 100000000000000000000) := rfl
  obtain ⟨d, S1, e1, m1, c1⟩ := e_some hS (ds := [.int 4, .int 12, .int 1000000, .int 100000000000000000000]) (by decide) (by decide)
  obtain ⟨far, rfl, f0, f1⟩ : ∃ far : Int, d = .int far ∧ 4 ≤ far ∧ far ≤ 100000000000000000000 := by
    simp only [List.mem_cons, List.not_mem_nil, or_false] at m1
    rcases m1 with rfl | rfl | rfl | rfl <;> exact ⟨_, rfl, by decide, by decide⟩
  have s9 : ∀ n : Int, 0 ≤ n → n < 1000 → sm 9000 n := fun n h0 h => Nat.lt_of_lt_of_le (show Int.natAbs _ < 1000 by omega) (Nat.le_trans (show 1000 ≤ 2 ^ 10 by decide) (Nat.pow_le_pow_right (by omega) (by omega)))
  obtain ⟨r, S2, e2, r0, r1, c2⟩ := e_roll c1 (n := 3) (by decide) (s9 3 (by decide) (by decide))
  have rest : ∀ (t : Int) (S3 : Sto), sm 70 t → Cup S3 → ∃ q bot S4 S5, m__law_roll [.ref 0, .int 7] S3 = .ok (.int q) S4 ∧ m__law_some [.ref 0, .lst [.int 1, .int 2, .int 3, .int 6, .int (far + q)]] S4 = .ok (.int bot) S5 ∧
      m__law_lowest [.int t, .int bot] = ret (fr (lowN t bot) (lowD t bot)) ∧ Fr 80 (lowN t bot) (lowD t bot) ∧ Cup S5 := by
    intro t S3 st c3
    obtain ⟨q, S4, e4, q0, q1, c4⟩ := e_roll c3 (n := 7) (by decide) (s9 7 (by decide) (by decide))
    obtain ⟨d, S5, e5, m5, c5⟩ := e_some c4 (ds := [.int 1, .int 2, .int 3, .int 6, .int (far + q)]) (by simp) (by simp)
    obtain ⟨bot, rfl, b0, b1⟩ : ∃ bot : Int, d = .int bot ∧ 1 ≤ bot ∧ bot < 2 ^ 70 := by
      simp only [List.mem_cons, List.not_mem_nil, or_false] at m5
      rcases m5 with rfl | rfl | rfl | rfl | rfl
      · exact ⟨_, rfl, by decide, by decide⟩
      · exact ⟨_, rfl, by decide, by decide⟩
      · exact ⟨_, rfl, by decide, by decide⟩
      · exact ⟨_, rfl, by decide, by decide⟩
      · exact ⟨_, rfl, by omega, by omega⟩
    have sb : sm 70 bot := show Int.natAbs _ < 2 ^ 70 by omega
    have hb : bot ≠ 0 := by omega
    exact ⟨q, bot, S4, S5, e4, e5, e_llowest hb (sm_mono sb (by omega)), fr_low hb (sm_mono st (by omega)) (sm_mono sb (by omega)), c5⟩
  by_cases hr : 0 < r
  · obtain ⟨z, S3, e3, z0, z1, c3⟩ := e_roll c2 (n := 9) (by decide) (s9 9 (by decide) (by decide))
    obtain ⟨q, bot, S4, S5, e4, e5, e6, hf, c5⟩ := rest (z - 4) S3 (show Int.natAbs _ < 2 ^ 70 by omega) c3
    refine ⟨_, _, S5, ?_, hf, c5⟩
    show mDef 1 3 bd__law_fraction _ _ = _
    refine gcM_at ?_ (hS.len c5)
    simp [mSeq, mAsg, mRet, mRetN, mIfS, mIf, mSkip, mExpr, mCall, mCons, mNil, mVar, mC, m1, m2, m3c, mB, mTru, mNot, mOr, mAnd, mAndV, mOrV, asB, trD, gN, gTupD, gsCons, gsNil, mPar, mRaise_eq, mFor, mItN, mIt, itS, forGo, mLc, lcGo, wipeD, mYes, flD, mDef, fAdd, fSub, fNeg, fIx, fLen, fIsi, fNot, fInt, fList, fAbs, fTup, fLst, fGcd, cI, tyName, fIsN, items, asBs, fAll, mBrk, mCnt, mThk, ev_ret, bnd_noM, bnd_exM, bnd_bnd, bnd_ite, nox_ret, getO_some, gcM_ret, gcM_exM, gcM_noM, gcM_ite, fEq_int, atI_zero, atI_one, kb_NoneType_int, kb_NoneType_bool, kb_NoneType_str, kb_NoneType_tuple, kb_NoneType_list, kb_bool_int, kb_bool_bool, kb_bool_str, kb_bool_tuple, kb_bool_list, kb_int_int, kb_int_bool, kb_int_str, kb_int_tuple, kb_int_list, kb_str_int, kb_str_bool, kb_str_str, kb_str_tuple, kb_str_list, kb_tuple_int, kb_tuple_bool, kb_tuple_str, kb_tuple_tuple, kb_tuple_list, kb_list_int, kb_list_bool, kb_list_str, kb_list_tuple, kb_list_list, bd__law_fraction, p6, p20, sizeLine, bnd_s _ e1, bnd_s _ e2, bnd_s _ e3, bnd_s _ e4, bnd_s _ e5, e6, hr, ret_at]
  · obtain ⟨y, S3, e3, y0, y1, c3⟩ := e_roll c2 (n := 2) (by decide) (s9 2 (by decide) (by decide))
    obtain ⟨z, S3', e3', z0, z1, c3'⟩ := e_roll c3 (n := 30) (by decide) (s9 30 (by decide) (by decide))
    have x1 : fMul (.int 2) (.int y) = ret (.int (2 * y)) := fMul_i 2 2 (by show Int.natAbs _ < 2 ^ 2; decide) (show Int.natAbs _ < 2 ^ 2 by omega) (by omega)
    have s1 : sm 2 (1 - 2 * y) := show Int.natAbs _ < 2 ^ 2 by omega
    have s2 : sm 68 (far + z) := show Int.natAbs _ < 2 ^ 68 by omega
    have x2 : fMul (.int (1 - 2 * y)) (.int (far + z)) = ret (.int ((1 - 2 * y) * (far + z))) := fMul_i 2 68 s1 s2 (by omega)
    obtain ⟨q, bot, S4, S5, e4, e5, e6, hf, c5⟩ := rest ((1 - 2 * y) * (far + z)) S3' (sm_mul s1 s2) c3'
    refine ⟨_, _, S5, ?_, hf, c5⟩
    show mDef 1 3 bd__law_fraction _ _ = _
    refine gcM_at ?_ (hS.len c5)
    simp [mSeq, mAsg, mRet, mRetN, mIfS, mIf, mSkip, mExpr, mCall, mCons, mNil, mVar, mC, m1, m2, m3c, mB, mTru, mNot, mOr, mAnd, mAndV, mOrV, asB, trD, gN, gTupD, gsCons, gsNil, mPar, mRaise_eq, mFor, mItN, mIt, itS, forGo, mLc, lcGo, wipeD, mYes, flD, mDef, fAdd, fSub, fNeg, fIx, fLen, fIsi, fNot, fInt, fList, fAbs, fTup, fLst, fGcd, cI, tyName, fIsN, items, asBs, fAll, mBrk, mCnt, mThk, ev_ret, bnd_noM, bnd_exM, bnd_bnd, bnd_ite, nox_ret, getO_some, gcM_ret, gcM_exM, gcM_noM, gcM_ite, fEq_int, atI_zero, atI_one, kb_NoneType_int, kb_NoneType_bool, kb_NoneType_str, kb_NoneType_tuple, kb_NoneType_list, kb_bool_int, kb_bool_bool, kb_bool_str, kb_bool_tuple, kb_bool_list, kb_int_int, kb_int_bool, kb_int_str, kb_int_tuple, kb_int_list, kb_str_int, kb_str_bool, kb_str_str, kb_str_tuple, kb_str_list, kb_tuple_int, kb_tuple_bool, kb_tuple_str, kb_tuple_tuple, kb_tuple_list, kb_list_int, kb_list_bool, kb_list_str, kb_list_tuple, kb_list_list, bd__law_fraction, p6, p20, sizeLine, bnd_s _ e1, bnd_s _ e2, bnd_s _ e3, bnd_s _ e3', bnd_s _ e4, bnd_s _ e5, e6, x1, x2, hr, ret_at]
end Mir
set_option Elab.async false
set_option linter.all false
set_option maxRecDepth 100000
set_option maxHeartbeats 4000000
namespace Mir
open PySem
/-! ### likeness -/
theorem fIn45 (k : Int) (b : Bool) (h : fIn false (.int k) (.tup [.int 4, .int 5]) = ret (.bl b)) : fIn false (.int k) (.tup [.int 4, .int 5]) = ret (.bl b) := h
theorem in2 : fIn false (.int 2) (.tup [.int 4, .int 5]) = ret (.bl false) := by rfl
theorem in1 : fIn false (.int 1) (.tup [.int 4, .int 5]) = ret (.bl false) := by rfl
theorem in4 : fIn false (.int 4) (.tup [.int 4, .int 5]) = ret (.bl true) := by rfl
theorem in5 : fIn false (.int 5) (.tup [.int 4, .int 5]) = ret (.bl true) := by rfl
theorem eqNil : fEq false (.lst []) (.lst []) = ret (.bl true) := by rfl
theorem so_int (i : Int) : m__law_sort [.int i] = ret (.int 2) := by simp [mSeq, mAsg, mRet, mRetN, mIfS, mIf, mSkip, mExpr, mCall, mCons, mNil, mVar, mC, m1, m2, m3c, mB, mTru, mNot, mOr, mAnd, mAndV, mOrV, asB, trD, gN, gTupD, gsCons, gsNil, mPar, mRaise_eq, mFor, mItN, mIt, itS, forGo, mLc, lcGo, wipeD, mYes, flD, mDef, fAdd, fSub, fNeg, fIx, fLen, fIsi, fNot, fInt, fList, fAbs, fTup, fLst, fGcd, cI, tyName, fIsN, items, asBs, fAll, mBrk, mCnt, mThk, ev_ret, bnd_noM, bnd_exM, bnd_bnd, bnd_ite, nox_ret, getO_some, gcM_ret, gcM_exM, gcM_noM, gcM_ite, fEq_int, atI_zero, atI_one, kb_NoneType_int, kb_NoneType_bool, kb_NoneType_str, kb_NoneType_tuple, kb_NoneType_list, kb_bool_int, kb_bool_bool, kb_bool_str, kb_bool_tuple, kb_bool_list, kb_int_int, kb_int_bool, kb_int_str, kb_int_tuple, kb_int_list, kb_str_int, kb_str_bool, kb_str_str, kb_str_tuple, kb_str_list, kb_tuple_int, kb_tuple_bool, kb_tuple_str, kb_tuple_tuple, kb_tuple_list, kb_list_int, kb_list_bool, kb_list_str, kb_list_tuple, kb_list_list, m__law_sort, bd__law_sort, isNon]
theorem so_bl (b : Bool) : m__law_sort [.bl b] = ret (.int 1) := by simp [mSeq, mAsg, mRet, mRetN, mIfS, mIf, mSkip, mExpr, mCall, mCons, mNil, mVar, mC, m1, m2, m3c, mB, mTru, mNot, mOr, mAnd, mAndV, mOrV, asB, trD, gN, gTupD, gsCons, gsNil, mPar, mRaise_eq, mFor, mItN, mIt, itS, forGo, mLc, lcGo, wipeD, mYes, flD, mDef, fAdd, fSub, fNeg, fIx, fLen, fIsi, fNot, fInt, fList, fAbs, fTup, fLst, fGcd, cI, tyName, fIsN, items, asBs, fAll, mBrk, mCnt, mThk, ev_ret, bnd_noM, bnd_exM, bnd_bnd, bnd_ite, nox_ret, getO_some, gcM_ret, gcM_exM, gcM_noM, gcM_ite, fEq_int, atI_zero, atI_one, kb_NoneType_int, kb_NoneType_bool, kb_NoneType_str, kb_NoneType_tuple, kb_NoneType_list, kb_bool_int, kb_bool_bool, kb_bool_str, kb_bool_tuple, kb_bool_list, kb_int_int, kb_int_bool, kb_int_str, kb_int_tuple, kb_int_list, kb_str_int, kb_str_bool, kb_str_str, kb_str_tuple, kb_str_list, kb_tuple_int, kb_tuple_bool, kb_tuple_str, kb_tuple_tuple, kb_tuple_list, kb_list_int, kb_list_bool, kb_list_str, kb_list_tuple, kb_list_list, m__law_sort, bd__law_sort, isNon]
theorem so_tup (ds : List D) : m__law_sort [.tup ds] = ret (.int 4) := by simp [mSeq, mAsg, mRet, mRetN, mIfS, mIf, mSkip, mExpr, mCall, mCons, mNil, mVar, mC, m1, m2, m3c, mB, mTru, mNot, mOr, mAnd, mAndV, mOrV, asB, trD, gN, gTupD, gsCons, gsNil, mPar, mRaise_eq, mFor, mItN, mIt, itS, forGo, mLc, lcGo, wipeD, mYes, flD, mDef, fAdd, fSub, fNeg, fIx, fLen, fIsi, fNot, fInt, fList, fAbs, fTup, fLst, fGcd, cI, tyName, fIsN, items, asBs, fAll, mBrk, mCnt, mThk, ev_ret, bnd_noM, bnd_exM, bnd_bnd, bnd_ite, nox_ret, getO_some, gcM_ret, gcM_exM, gcM_noM, gcM_ite, fEq_int, atI_zero, atI_one, kb_NoneType_int, kb_NoneType_bool, kb_NoneType_str, kb_NoneType_tuple, kb_NoneType_list, kb_bool_int, kb_bool_bool, kb_bool_str, kb_bool_tuple, kb_bool_list, kb_int_int, kb_int_bool, kb_int_str, kb_int_tuple, kb_int_list, kb_str_int, kb_str_bool, kb_str_str, kb_str_tuple, kb_str_list, kb_tuple_int, kb_tuple_bool, kb_tuple_str, kb_tuple_tuple, kb_tuple_list, kb_list_int, kb_list_bool, kb_list_str, kb_list_tuple, kb_list_list, m__law_sort, bd__law_sort, isNon]
theorem so_lst (ds : List D) : m__law_sort [.lst ds] = ret (.int 5) := by simp [mSeq, mAsg, mRet, mRetN, mIfS, mIf, mSkip, mExpr, mCall, mCons, mNil, mVar, mC, m1, m2, m3c, mB, mTru, mNot, mOr, mAnd, mAndV, mOrV, asB, trD, gN, gTupD, gsCons, gsNil, mPar, mRaise_eq, mFor, mItN, mIt, itS, forGo, mLc, lcGo, wipeD, mYes, flD, mDef, fAdd, fSub, fNeg, fIx, fLen, fIsi, fNot, fInt, fList, fAbs, fTup, fLst, fGcd, cI, tyName, fIsN, items, asBs, fAll, mBrk, mCnt, mThk, ev_ret, bnd_noM, bnd_exM, bnd_bnd, bnd_ite, nox_ret, getO_some, gcM_ret, gcM_exM, gcM_noM, gcM_ite, fEq_int, atI_zero, atI_one, kb_NoneType_int, kb_NoneType_bool, kb_NoneType_str, kb_NoneType_tuple, kb_NoneType_list, kb_bool_int, kb_bool_bool, kb_bool_str, kb_bool_tuple, kb_bool_list, kb_int_int, kb_int_bool, kb_int_str, kb_int_tuple, kb_int_list, kb_str_int, kb_str_bool, kb_str_str, kb_str_tuple, kb_str_list, kb_tuple_int, kb_tuple_bool, kb_tuple_str, kb_tuple_tuple, kb_tuple_list, kb_list_int, kb_list_bool, kb_list_str, kb_list_tuple, kb_list_list, m__law_sort, bd__law_sort, isNon]
theorem eq_bl (b : Bool) : fEq false (.bl b) (.bl b) = ret (.bl true) := by cases b <;> rfl
theorem li_int (n : Nat) (i : Int) : m__law_like (n + 1) [.int i, .int i] = ret (.bl true) := by
  simp [mSeq, mAsg, mRet, mRetN, mIfS, mIf, mSkip, mExpr, mCall, mCons, mNil, mVar, mC, m1, m2, m3c, mB, mTru, mNot, mOr, mAnd, mAndV, mOrV, asB, trD, gN, gTupD, gsCons, gsNil, mPar, mRaise_eq, mFor, mItN, mIt, itS, forGo, mLc, lcGo, wipeD, mYes, flD, mDef, fAdd, fSub, fNeg, fIx, fLen, fIsi, fNot, fInt, fList, fAbs, fTup, fLst, fGcd, cI, tyName, fIsN, items, asBs, fAll, mBrk, mCnt, mThk, ev_ret, bnd_noM, bnd_exM, bnd_bnd, bnd_ite, nox_ret, getO_some, gcM_ret, gcM_exM, gcM_noM, gcM_ite, fEq_int, atI_zero, atI_one, kb_NoneType_int, kb_NoneType_bool, kb_NoneType_str, kb_NoneType_tuple, kb_NoneType_list, kb_bool_int, kb_bool_bool, kb_bool_str, kb_bool_tuple, kb_bool_list, kb_int_int, kb_int_bool, kb_int_str, kb_int_tuple, kb_int_list, kb_str_int, kb_str_bool, kb_str_str, kb_str_tuple, kb_str_list, kb_tuple_int, kb_tuple_bool, kb_tuple_str, kb_tuple_tuple, kb_tuple_list, kb_list_int, kb_list_bool, kb_list_str, kb_list_tuple, kb_list_list, m__law_like, bd__law_like, so_int, in2, sizeLine]
theorem li_bl (n : Nat) (b : Bool) : m__law_like (n + 1) [.bl b, .bl b] = ret (.bl true) := by
  simp [mSeq, mAsg, mRet, mRetN, mIfS, mIf, mSkip, mExpr, mCall, mCons, mNil, mVar, mC, m1, m2, m3c, mB, mTru, mNot, mOr, mAnd, mAndV, mOrV, asB, trD, gN, gTupD, gsCons, gsNil, mPar, mRaise_eq, mFor, mItN, mIt, itS, forGo, mLc, lcGo, wipeD, mYes, flD, mDef, fAdd, fSub, fNeg, fIx, fLen, fIsi, fNot, fInt, fList, fAbs, fTup, fLst, fGcd, cI, tyName, fIsN, items, asBs, fAll, mBrk, mCnt, mThk, ev_ret, bnd_noM, bnd_exM, bnd_bnd, bnd_ite, nox_ret, getO_some, gcM_ret, gcM_exM, gcM_noM, gcM_ite, fEq_int, atI_zero, atI_one, kb_NoneType_int, kb_NoneType_bool, kb_NoneType_str, kb_NoneType_tuple, kb_NoneType_list, kb_bool_int, kb_bool_bool, kb_bool_str, kb_bool_tuple, kb_bool_list, kb_int_int, kb_int_bool, kb_int_str, kb_int_tuple, kb_int_list, kb_str_int, kb_str_bool, kb_str_str, kb_str_tuple, kb_str_list, kb_tuple_int, kb_tuple_bool, kb_tuple_str, kb_tuple_tuple, kb_tuple_list, kb_list_int, kb_list_bool, kb_list_str, kb_list_tuple, kb_list_list, m__law_like, bd__law_like, so_bl, in1, sizeLine, eq_bl]
theorem li_fr (n : Nat) (a b : Int) : m__law_like (n + 2) [fr a b, fr a b] = ret (.bl true) := by
  simp [mSeq, mAsg, mRet, mRetN, mIfS, mIf, mSkip, mExpr, mCall, mCons, mNil, mVar, mC, m1, m2, m3c, mB, mTru, mNot, mOr, mAnd, mAndV, mOrV, asB, trD, gN, gTupD, gsCons, gsNil, mPar, mRaise_eq, mFor, mItN, mIt, itS, forGo, mLc, lcGo, wipeD, mYes, flD, mDef, fAdd, fSub, fNeg, fIx, fLen, fIsi, fNot, fInt, fList, fAbs, fTup, fLst, fGcd, cI, tyName, fIsN, items, asBs, fAll, mBrk, mCnt, mThk, ev_ret, bnd_noM, bnd_exM, bnd_bnd, bnd_ite, nox_ret, getO_some, gcM_ret, gcM_exM, gcM_noM, gcM_ite, fEq_int, atI_zero, atI_one, kb_NoneType_int, kb_NoneType_bool, kb_NoneType_str, kb_NoneType_tuple, kb_NoneType_list, kb_bool_int, kb_bool_bool, kb_bool_str, kb_bool_tuple, kb_bool_list, kb_int_int, kb_int_bool, kb_int_str, kb_int_tuple, kb_int_list, kb_str_int, kb_str_bool, kb_str_str, kb_str_tuple, kb_str_list, kb_tuple_int, kb_tuple_bool, kb_tuple_str, kb_tuple_tuple, kb_tuple_list, kb_list_int, kb_list_bool, kb_list_str, kb_list_tuple, kb_list_list, m__law_like.eq_2 (n + 1), bd__law_like, so_tup, in4, sizeLine, li_int, fZip, zpD, eqNil]
theorem li_2 {x y : D} (n : Nat) (hx : m__law_like (n + 1) [x, x] = ret (.bl true)) (hy : m__law_like (n + 1) [y, y] = ret (.bl true)) : m__law_like (n + 2) [.lst [x, y], .lst [x, y]] = ret (.bl true) := by
  simp [mSeq, mAsg, mRet, mRetN, mIfS, mIf, mSkip, mExpr, mCall, mCons, mNil, mVar, mC, m1, m2, m3c, mB, mTru, mNot, mOr, mAnd, mAndV, mOrV, asB, trD, gN, gTupD, gsCons, gsNil, mPar, mRaise_eq, mFor, mItN, mIt, itS, forGo, mLc, lcGo, wipeD, mYes, flD, mDef, fAdd, fSub, fNeg, fIx, fLen, fIsi, fNot, fInt, fList, fAbs, fTup, fLst, fGcd, cI, tyName, fIsN, items, asBs, fAll, mBrk, mCnt, mThk, ev_ret, bnd_noM, bnd_exM, bnd_bnd, bnd_ite, nox_ret, getO_some, gcM_ret, gcM_exM, gcM_noM, gcM_ite, fEq_int, atI_zero, atI_one, kb_NoneType_int, kb_NoneType_bool, kb_NoneType_str, kb_NoneType_tuple, kb_NoneType_list, kb_bool_int, kb_bool_bool, kb_bool_str, kb_bool_tuple, kb_bool_list, kb_int_int, kb_int_bool, kb_int_str, kb_int_tuple, kb_int_list, kb_str_int, kb_str_bool, kb_str_str, kb_str_tuple, kb_str_list, kb_tuple_int, kb_tuple_bool, kb_tuple_str, kb_tuple_tuple, kb_tuple_list, kb_list_int, kb_list_bool, kb_list_str, kb_list_tuple, kb_list_list, m__law_like.eq_2 (n + 1), bd__law_like, so_lst, in5, sizeLine, hx, hy, fZip, zpD, eqNil]
theorem li_4 {x y z w : D} (n : Nat) (hx : m__law_like (n + 1) [x, x] = ret (.bl true)) (hy : m__law_like (n + 1) [y, y] = ret (.bl true)) (hz : m__law_like (n + 1) [z, z] = ret (.bl true)) (hw : m__law_like (n + 1) [w, w] = ret (.bl true)) :
    m__law_like (n + 2) [.lst [x, y, z, w], .lst [x, y, z, w]] = ret (.bl true) := by
  simp [mSeq, mAsg, mRet, mRetN, mIfS, mIf, mSkip, mExpr, mCall, mCons, mNil, mVar, mC, m1, m2, m3c, mB, mTru, mNot, mOr, mAnd, mAndV, mOrV, asB, trD, gN, gTupD, gsCons, gsNil, mPar, mRaise_eq, mFor, mItN, mIt, itS, forGo, mLc, lcGo, wipeD, mYes, flD, mDef, fAdd, fSub, fNeg, fIx, fLen, fIsi, fNot, fInt, fList, fAbs, fTup, fLst, fGcd, cI, tyName, fIsN, items, asBs, fAll, mBrk, mCnt, mThk, ev_ret, bnd_noM, bnd_exM, bnd_bnd, bnd_ite, nox_ret, getO_some, gcM_ret, gcM_exM, gcM_noM, gcM_ite, fEq_int, atI_zero, atI_one, kb_NoneType_int, kb_NoneType_bool, kb_NoneType_str, kb_NoneType_tuple, kb_NoneType_list, kb_bool_int, kb_bool_bool, kb_bool_str, kb_bool_tuple, kb_bool_list, kb_int_int, kb_int_bool, kb_int_str, kb_int_tuple, kb_int_list, kb_str_int, kb_str_bool, kb_str_str, kb_str_tuple, kb_str_list, kb_tuple_int, kb_tuple_bool, kb_tuple_str, kb_tuple_tuple, kb_tuple_list, kb_list_int, kb_list_bool, kb_list_str, kb_list_tuple, kb_list_list, m__law_like.eq_2 (n + 1), bd__law_like, so_lst, in5, sizeLine, hx, hy, hz, hw, fZip, zpD, eqNil]
theorem err_no : m__law_error (exM ⟨"NotFound"⟩) = ret (.str "no") := by
  funext S
  rfl
theorem eq_str (x : Str) (hx : PyData.strOk x = true) : fEq false (.str x) (.str x) = ret (.bl true) := by
  show (if eqs (.str x) = true ∧ eqs (.str x) = true then ret (D.bl (PyData.eqv (toP (.str x)) (toP (.str x)))) else noM) = _
  have p : eqs (.str x) = true := by simp [eqs, pur, toP, SeqAt.shaped, PyData.canLay0, PyData.depth, hx]
  rw [if_pos ⟨p, p⟩]
  have e : PyData.eqv (toP (.str x)) (toP (.str x)) = true := by simp [toP, PyData.eqv]
  rw [e]
/-! ### the two checks of a turn -/
theorem e_lplus {k : Nat} {a b c d : Int} (f : Fr k a b) (hd : 1 ≤ d) (sc : sm k c) (sd : sm k d) (hk : k ≤ 1000) : m__law_plus [fr a b, fr c d] = ret (fr (lowN (a * d + c * b) (b * d)) (lowD (a * d + c * b) (b * d))) := by
  have hn : b * d ≠ 0 := Int.mul_ne_zero f.ne (by omega)
  have e := e_llowest (a := a * d + c * b) hn (sm_mono (sm_mul f.sb sd) (by omega))
  simp [mSeq, mAsg, mRet, mRetN, mIfS, mIf, mSkip, mExpr, mCall, mCons, mNil, mVar, mC, m1, m2, m3c, mB, mTru, mNot, mOr, mAnd, mAndV, mOrV, asB, trD, gN, gTupD, gsCons, gsNil, mPar, mRaise_eq, mFor, mItN, mIt, itS, forGo, mLc, lcGo, wipeD, mYes, flD, mDef, fAdd, fSub, fNeg, fIx, fLen, fIsi, fNot, fInt, fList, fAbs, fTup, fLst, fGcd, cI, tyName, fIsN, items, asBs, fAll, mBrk, mCnt, mThk, ev_ret, bnd_noM, bnd_exM, bnd_bnd, bnd_ite, nox_ret, getO_some, gcM_ret, gcM_exM, gcM_noM, gcM_ite, fEq_int, atI_zero, atI_one, kb_NoneType_int, kb_NoneType_bool, kb_NoneType_str, kb_NoneType_tuple, kb_NoneType_list, kb_bool_int, kb_bool_bool, kb_bool_str, kb_bool_tuple, kb_bool_list, kb_int_int, kb_int_bool, kb_int_str, kb_int_tuple, kb_int_list, kb_str_int, kb_str_bool, kb_str_str, kb_str_tuple, kb_str_list, kb_tuple_int, kb_tuple_bool, kb_tuple_str, kb_tuple_tuple, kb_tuple_list, kb_list_int, kb_list_bool, kb_list_str, kb_list_tuple, kb_list_list, m__law_plus, bd__law_plus, mul_ev f.sa sd (by omega), mul_ev sc f.sb (by omega), mul_ev f.sb sd (by omega), e]
theorem e_ltimes {k : Nat} {a b c d : Int} (f : Fr k a b) (g : Fr k c d) (hk : k ≤ 1000) : m__law_times [fr a b, fr c d] = ret (fr (lowN (a * c) (b * d)) (lowD (a * c) (b * d))) := by
  have hn : b * d ≠ 0 := Int.mul_ne_zero f.ne g.ne
  have e := e_llowest (a := a * c) hn (sm_mono (sm_mul f.sb g.sb) (by omega))
  simp [mSeq, mAsg, mRet, mRetN, mIfS, mIf, mSkip, mExpr, mCall, mCons, mNil, mVar, mC, m1, m2, m3c, mB, mTru, mNot, mOr, mAnd, mAndV, mOrV, asB, trD, gN, gTupD, gsCons, gsNil, mPar, mRaise_eq, mFor, mItN, mIt, itS, forGo, mLc, lcGo, wipeD, mYes, flD, mDef, fAdd, fSub, fNeg, fIx, fLen, fIsi, fNot, fInt, fList, fAbs, fTup, fLst, fGcd, cI, tyName, fIsN, items, asBs, fAll, mBrk, mCnt, mThk, ev_ret, bnd_noM, bnd_exM, bnd_bnd, bnd_ite, nox_ret, getO_some, gcM_ret, gcM_exM, gcM_noM, gcM_ite, fEq_int, atI_zero, atI_one, kb_NoneType_int, kb_NoneType_bool, kb_NoneType_str, kb_NoneType_tuple, kb_NoneType_list, kb_bool_int, kb_bool_bool, kb_bool_str, kb_bool_tuple, kb_bool_list, kb_int_int, kb_int_bool, kb_int_str, kb_int_tuple, kb_int_list, kb_str_int, kb_str_bool, kb_str_str, kb_str_tuple, kb_str_list, kb_tuple_int, kb_tuple_bool, kb_tuple_str, kb_tuple_tuple, kb_tuple_list, kb_list_int, kb_list_bool, kb_list_str, kb_list_tuple, kb_list_list, m__law_times, bd__law_times, mul_ev f.sa g.sa (by omega), mul_ev f.sb g.sb (by omega), e]
theorem Fr.mono {k l : Nat} {a b : Int} (f : Fr k a b) (h : k ≤ l) : Fr l a b := ⟨f.pos, f.low, sm_mono f.sa h, sm_mono f.sb h⟩
theorem e_fractions {S : Sto} (hS : Cup S) : ∃ S', m__law_fractions_right [.ref 0] S = .ok (.bl true) S' ∧ Cup S' := by
  obtain ⟨a, b, S1, e1, f, c1⟩ := e_fraction hS
  obtain ⟨c, d, S2, e2, g, c2⟩ := e_fraction c1
  refine ⟨S2, run_def rfl ?_ (hS.len c2) (env := []), c2⟩
  have mc := mul_ev g.sa f.sb (by omega)
  have ma := mul_ev f.sa g.sb (by omega)
  have L4 : m__law_like 12 _ = _ := li_4 (x := fr (lowN (a * d + c * b) (b * d)) (lowD (a * d + c * b) (b * d))) (y := fr (lowN (a * c) (b * d)) (lowD (a * c) (b * d))) (z := .bl (decide (a * d ≤ c * b))) (w := .bl true) 10 (li_fr 9 _ _) (li_fr 9 _ _) (li_bl 10 _) (li_bl 10 _)
  have sum_ := e_sum f g (by omega)
  have pro := e_product f g (by omega)
  have atm := e_at_most f g (by omega)
  have pl := e_lplus f g.pos g.sa g.sb (by omega)
  have ti := e_ltimes f g (by omega)
  have isf := e_isf f
  generalize lowN (a * d + c * b) (b * d) = u0, lowD (a * d + c * b) (b * d) = u1, lowN (a * c) (b * d) = v0, lowD (a * c) (b * d) = v1 at L4 sum_ pro pl ti
  unfold bd__law_fractions_right
  refine (seq_at (env' := [some (.ref 0), some (fr a b), some (fr c d), none, none]) (S' := S2) ?_).trans ?_
  · simp [mSeq, mAsg, mRet, mRetN, mIfS, mIf, mSkip, mExpr, mCall, mCons, mNil, mVar, mC, m1, m2, m3c, mB, mTru, mNot, mOr, mAnd, mAndV, mOrV, asB, trD, gN, gTupD, gsCons, gsNil, mPar, mRaise_eq, mFor, mItN, mIt, itS, forGo, mLc, lcGo, wipeD, mYes, flD, mDef, fAdd, fSub, fNeg, fIx, fLen, fIsi, fNot, fInt, fList, fAbs, fTup, fLst, fGcd, cI, tyName, fIsN, items, asBs, fAll, mBrk, mCnt, mThk, ev_ret, bnd_noM, bnd_exM, bnd_bnd, bnd_ite, nox_ret, getO_some, gcM_ret, gcM_exM, gcM_noM, gcM_ite, fEq_int, atI_zero, atI_one, kb_NoneType_int, kb_NoneType_bool, kb_NoneType_str, kb_NoneType_tuple, kb_NoneType_list, kb_bool_int, kb_bool_bool, kb_bool_str, kb_bool_tuple, kb_bool_list, kb_int_int, kb_int_bool, kb_int_str, kb_int_tuple, kb_int_list, kb_str_int, kb_str_bool, kb_str_str, kb_str_tuple, kb_str_list, kb_tuple_int, kb_tuple_bool, kb_tuple_str, kb_tuple_tuple, kb_tuple_list, kb_list_int, kb_list_bool, kb_list_str, kb_list_tuple, kb_list_list, sizeLine, bnd_s _ e1, bnd_s _ e2, ret_at]
  refine (seq_at (env' := [some (.ref 0), some (fr a b), some (fr c d), some (.lst [fr u0 u1, fr v0 v1, .bl (decide (a * d ≤ c * b)), .bl true]), none]) (S' := S2) ?_).trans ?_
  · simp [mSeq, mAsg, mRet, mRetN, mIfS, mIf, mSkip, mExpr, mCall, mCons, mNil, mVar, mC, m1, m2, m3c, mB, mTru, mNot, mOr, mAnd, mAndV, mOrV, asB, trD, gN, gTupD, gsCons, gsNil, mPar, mRaise_eq, mFor, mItN, mIt, itS, forGo, mLc, lcGo, wipeD, mYes, flD, mDef, fAdd, fSub, fNeg, fIx, fLen, fIsi, fNot, fInt, fList, fAbs, fTup, fLst, fGcd, cI, tyName, fIsN, items, asBs, fAll, mBrk, mCnt, mThk, ev_ret, bnd_noM, bnd_exM, bnd_bnd, bnd_ite, nox_ret, getO_some, gcM_ret, gcM_exM, gcM_noM, gcM_ite, fEq_int, atI_zero, atI_one, kb_NoneType_int, kb_NoneType_bool, kb_NoneType_str, kb_NoneType_tuple, kb_NoneType_list, kb_bool_int, kb_bool_bool, kb_bool_str, kb_bool_tuple, kb_bool_list, kb_int_int, kb_int_bool, kb_int_str, kb_int_tuple, kb_int_list, kb_str_int, kb_str_bool, kb_str_str, kb_str_tuple, kb_str_list, kb_tuple_int, kb_tuple_bool, kb_tuple_str, kb_tuple_tuple, kb_tuple_list, kb_list_int, kb_list_bool, kb_list_str, kb_list_tuple, kb_list_list, sizeLine, sum_, pro, atm, isf, ret_at]
  refine (seq_at (env' := [some (.ref 0), some (fr a b), some (fr c d), some (.lst [fr u0 u1, fr v0 v1, .bl (decide (a * d ≤ c * b)), .bl true]), none]) (S' := S2) ?_).trans ?_
  · simp [mSeq, mAsg, mRet, mRetN, mIfS, mIf, mSkip, mExpr, mCall, mCons, mNil, mVar, mC, m1, m2, m3c, mB, mTru, mNot, mOr, mAnd, mAndV, mOrV, asB, trD, gN, gTupD, gsCons, gsNil, mPar, mRaise_eq, mFor, mItN, mIt, itS, forGo, mLc, lcGo, wipeD, mYes, flD, mDef, fAdd, fSub, fNeg, fIx, fLen, fIsi, fNot, fInt, fList, fAbs, fTup, fLst, fGcd, cI, tyName, fIsN, items, asBs, fAll, mBrk, mCnt, mThk, ev_ret, bnd_noM, bnd_exM, bnd_bnd, bnd_ite, nox_ret, getO_some, gcM_ret, gcM_exM, gcM_noM, gcM_ite, fEq_int, atI_zero, atI_one, kb_NoneType_int, kb_NoneType_bool, kb_NoneType_str, kb_NoneType_tuple, kb_NoneType_list, kb_bool_int, kb_bool_bool, kb_bool_str, kb_bool_tuple, kb_bool_list, kb_int_int, kb_int_bool, kb_int_str, kb_int_tuple, kb_int_list, kb_str_int, kb_str_bool, kb_str_str, kb_str_tuple, kb_str_list, kb_tuple_int, kb_tuple_bool, kb_tuple_str, kb_tuple_tuple, kb_tuple_list, kb_list_int, kb_list_bool, kb_list_str, kb_list_tuple, kb_list_list, sizeLine, pl, ti, ma, mc, L4, ret_at]
  by_cases hc : c = 0
  · subst hc
    refine seq_rt ?_
    simp [mSeq, mAsg, mRet, mRetN, mIfS, mIf, mSkip, mExpr, mCall, mCons, mNil, mVar, mC, m1, m2, m3c, mB, mTru, mNot, mOr, mAnd, mAndV, mOrV, asB, trD, gN, gTupD, gsCons, gsNil, mPar, mRaise_eq, mFor, mItN, mIt, itS, forGo, mLc, lcGo, wipeD, mYes, flD, mDef, fAdd, fSub, fNeg, fIx, fLen, fIsi, fNot, fInt, fList, fAbs, fTup, fLst, fGcd, cI, tyName, fIsN, items, asBs, fAll, mBrk, mCnt, mThk, ev_ret, bnd_noM, bnd_exM, bnd_bnd, bnd_ite, nox_ret, getO_some, gcM_ret, gcM_exM, gcM_noM, gcM_ite, fEq_int, atI_zero, atI_one, kb_NoneType_int, kb_NoneType_bool, kb_NoneType_str, kb_NoneType_tuple, kb_NoneType_list, kb_bool_int, kb_bool_bool, kb_bool_str, kb_bool_tuple, kb_bool_list, kb_int_int, kb_int_bool, kb_int_str, kb_int_tuple, kb_int_list, kb_str_int, kb_str_bool, kb_str_str, kb_str_tuple, kb_str_list, kb_tuple_int, kb_tuple_bool, kb_tuple_str, kb_tuple_tuple, kb_tuple_list, kb_list_int, kb_list_bool, kb_list_str, kb_list_tuple, kb_list_list, e_by0 f g, err_no, eq_str _ (show PyData.strOk ("no" : Str) = true by decide +kernel), ret_at]
  · have hn : b * c ≠ 0 := Int.mul_ne_zero f.ne hc
    have hb : Fr 160 (lowN (a * d) (b * c)) (lowD (a * d) (b * c)) := fr_low hn (sm_mul f.sa g.sb) (sm_mul f.sb g.sa)
    obtain ⟨o1, o2⟩ := over_times f.pos g.pos hc f.low
    have by_ := e_by f g hc (by omega)
    have ti2 := e_ltimes hb (g.mono (show 80 ≤ 160 by omega)) (by omega)
    have isb := e_isf hb
    rw [o1, o2] at ti2
    have L2 : m__law_like 12 _ = _ := li_2 (x := .bl true) (y := fr a b) 10 (li_bl 10 _) (li_fr 9 _ _)
    generalize lowN (a * d) (b * c) = w0, lowD (a * d) (b * c) = w1 at by_ ti2 isb
    refine (seq_at (env' := [some (.ref 0), some (fr a b), some (fr c d), some (.lst [fr u0 u1, fr v0 v1, .bl (decide (a * d ≤ c * b)), .bl true]), none]) (S' := S2) ?_).trans ?_
    · simp [mSeq, mAsg, mRet, mRetN, mIfS, mIf, mSkip, mExpr, mCall, mCons, mNil, mVar, mC, m1, m2, m3c, mB, mTru, mNot, mOr, mAnd, mAndV, mOrV, asB, trD, gN, gTupD, gsCons, gsNil, mPar, mRaise_eq, mFor, mItN, mIt, itS, forGo, mLc, lcGo, wipeD, mYes, flD, mDef, fAdd, fSub, fNeg, fIx, fLen, fIsi, fNot, fInt, fList, fAbs, fTup, fLst, fGcd, cI, tyName, fIsN, items, asBs, fAll, mBrk, mCnt, mThk, ev_ret, bnd_noM, bnd_exM, bnd_bnd, bnd_ite, nox_ret, getO_some, gcM_ret, gcM_exM, gcM_noM, gcM_ite, fEq_int, atI_zero, atI_one, kb_NoneType_int, kb_NoneType_bool, kb_NoneType_str, kb_NoneType_tuple, kb_NoneType_list, kb_bool_int, kb_bool_bool, kb_bool_str, kb_bool_tuple, kb_bool_list, kb_int_int, kb_int_bool, kb_int_str, kb_int_tuple, kb_int_list, kb_str_int, kb_str_bool, kb_str_str, kb_str_tuple, kb_str_list, kb_tuple_int, kb_tuple_bool, kb_tuple_str, kb_tuple_tuple, kb_tuple_list, kb_list_int, kb_list_bool, kb_list_str, kb_list_tuple, kb_list_list, hc, ret_at]
    refine (seq_at (env' := [some (.ref 0), some (fr a b), some (fr c d), some (.lst [fr u0 u1, fr v0 v1, .bl (decide (a * d ≤ c * b)), .bl true]), some (fr w0 w1)]) (S' := S2) ?_).trans ?_
    · simp [mSeq, mAsg, mRet, mRetN, mIfS, mIf, mSkip, mExpr, mCall, mCons, mNil, mVar, mC, m1, m2, m3c, mB, mTru, mNot, mOr, mAnd, mAndV, mOrV, asB, trD, gN, gTupD, gsCons, gsNil, mPar, mRaise_eq, mFor, mItN, mIt, itS, forGo, mLc, lcGo, wipeD, mYes, flD, mDef, fAdd, fSub, fNeg, fIx, fLen, fIsi, fNot, fInt, fList, fAbs, fTup, fLst, fGcd, cI, tyName, fIsN, items, asBs, fAll, mBrk, mCnt, mThk, ev_ret, bnd_noM, bnd_exM, bnd_bnd, bnd_ite, nox_ret, getO_some, gcM_ret, gcM_exM, gcM_noM, gcM_ite, fEq_int, atI_zero, atI_one, kb_NoneType_int, kb_NoneType_bool, kb_NoneType_str, kb_NoneType_tuple, kb_NoneType_list, kb_bool_int, kb_bool_bool, kb_bool_str, kb_bool_tuple, kb_bool_list, kb_int_int, kb_int_bool, kb_int_str, kb_int_tuple, kb_int_list, kb_str_int, kb_str_bool, kb_str_str, kb_str_tuple, kb_str_list, kb_tuple_int, kb_tuple_bool, kb_tuple_str, kb_tuple_tuple, kb_tuple_list, kb_list_int, kb_list_bool, kb_list_str, kb_list_tuple, kb_list_list, by_, ret_at]
    · simp [mSeq, mAsg, mRet, mRetN, mIfS, mIf, mSkip, mExpr, mCall, mCons, mNil, mVar, mC, m1, m2, m3c, mB, mTru, mNot, mOr, mAnd, mAndV, mOrV, asB, trD, gN, gTupD, gsCons, gsNil, mPar, mRaise_eq, mFor, mItN, mIt, itS, forGo, mLc, lcGo, wipeD, mYes, flD, mDef, fAdd, fSub, fNeg, fIx, fLen, fIsi, fNot, fInt, fList, fAbs, fTup, fLst, fGcd, cI, tyName, fIsN, items, asBs, fAll, mBrk, mCnt, mThk, ev_ret, bnd_noM, bnd_exM, bnd_bnd, bnd_ite, nox_ret, getO_some, gcM_ret, gcM_exM, gcM_noM, gcM_ite, fEq_int, atI_zero, atI_one, kb_NoneType_int, kb_NoneType_bool, kb_NoneType_str, kb_NoneType_tuple, kb_NoneType_list, kb_bool_int, kb_bool_bool, kb_bool_str, kb_bool_tuple, kb_bool_list, kb_int_int, kb_int_bool, kb_int_str, kb_int_tuple, kb_int_list, kb_str_int, kb_str_bool, kb_str_str, kb_str_tuple, kb_str_list, kb_tuple_int, kb_tuple_bool, kb_tuple_str, kb_tuple_tuple, kb_tuple_list, kb_list_int, kb_list_bool, kb_list_str, kb_list_tuple, kb_list_list, sizeLine, isb, ti2, L2, ret_at]
end Mir
set_option Elab.async false
set_option linter.all false
set_option maxRecDepth 100000
set_option maxHeartbeats 4000000
namespace Mir
open PySem
theorem sm_ediv {k : Nat} {i j : Int} (hi : sm k i) : sm k (i / j) := Nat.lt_of_le_of_lt (Int.natAbs_ediv_le_natAbs i j) hi
theorem e_rests {S : Sto} (hS : Cup S) : ∃ S', m__law_rests_right [.ref 0] S = .ok (.bl true) S' ∧ Cup S' := by
  obtain ⟨a, b, S1, e1, f, c1⟩ := e_fraction hS
  have s9 : ∀ n : Int, 0 ≤ n → n < 1000 → sm 9000 n := fun n h0 h => Nat.lt_of_lt_of_le (show Int.natAbs _ < 1000 by omega) (Nat.le_trans (show 1000 ≤ 2 ^ 10 by decide) (Nat.pow_le_pow_right (by omega) (by omega)))
  obtain ⟨r, S2, e2, r0, r1, c2⟩ := e_roll c1 (n := 2) (by decide) (s9 2 (by decide) (by decide))
  obtain ⟨w, ew, hw⟩ : ∃ w : Int, 1 + r = w ∧ (w = 1 ∨ w = 2) := ⟨_, rfl, by omega⟩
  obtain ⟨k, S3, e3, k0, k1, c3⟩ := e_roll c2 (n := 9) (by decide) (s9 9 (by decide) (by decide))
  have hw1 : 1 ≤ w := by omega
  have sw : sm 2 w := by rcases hw with rfl | rfl <;> (show Int.natAbs _ < 2 ^ 2; decide)
  obtain ⟨q1, q2, p0, p1, pm, g1, g2⟩ := rest_facts (a := a) f.pos hw1
  have told := e_rest f w hw (by omega)
  have hr : sm 82 (a % (w * b)) := by
    have hwb : 0 < w * b := Int.mul_pos (by omega) (by have := f.pos; omega)
    have x0 := Int.emod_nonneg a (show w * b ≠ 0 by omega)
    have x1 := Int.emod_lt_of_pos a hwb
    have x2 : sm 82 (w * b) := sm_mono (sm_mul sw f.sb) (by omega)
    exact Nat.lt_of_le_of_lt (show (a % (w * b)).natAbs ≤ (w * b).natAbs by omega) x2
  have fp : Fr 82 (lowN (a % (w * b)) b) (lowD (a % (w * b)) b) := fr_low f.ne hr (sm_mono f.sb (by omega))
  have gap := e_lplus (c := -lowN (a % (w * b)) b) (f.mono (show 80 ≤ 82 by omega)) fp.pos (show Int.natAbs _ < _ by rw [Int.natAbs_neg]; exact fp.sa) fp.sb (by omega)
  have told2 := e_rest fp w hw (by omega)
  rw [g1, g2] at gap
  rw [pm, (low_self fp.pos fp.low).1, (low_self fp.pos fp.low).2] at told2
  obtain ⟨t1, t2, t3, t4⟩ := more_facts (w := w) (k := k - 4) f.pos f.low
  have sk : sm 3 (k - 4) := show Int.natAbs _ < 2 ^ 3 by omega
  have sm1 := sm_mul sw sk
  have more := e_lplus (c := w * (k - 4)) (d := 1) f (by omega) (sm_mono sm1 (by omega)) (show Int.natAbs _ < 2 ^ 80 by decide) (by omega)
  rw [t1, t2] at more
  have fm : Fr 86 (a + w * (k - 4) * b) b := ⟨f.pos, t3, sm_add (sm_mono f.sa (by omega)) (sm_mono (sm_mul sm1 f.sb) (by omega)), sm_mono f.sb (by omega)⟩
  have told3 := e_rest fm w hw (by omega)
  rw [t4] at told3
  have isf := e_isf fp
  have wq := mul_ev sw fp.sb (by omega)
  have wk := mul_ev sw sk (by omega)
  have zero : w * (a / (w * b)) % w = 0 := Int.mul_emod_right _ _
  have md : ∀ i, fMod (.int i) (.int w) = ret (.int (i % w)) := fun i => fMod_int (by omega)
  generalize lowN (a % (w * b)) b = p, lowD (a % (w * b)) b = q at q1 q2 p0 p1 pm told fp gap told2 told3 isf wq g1 g2
  have L2 : m__law_like 12 _ = _ := li_2 (x := .bl true) (y := .bl true) 10 (li_bl 10 _) (li_bl 10 _)
  have L4 : m__law_like 12 _ = _ := li_4 (x := .int 1) (y := .int 0) (z := fr p q) (w := fr p q) 10 (li_int 10 _) (li_int 10 _) (li_fr 9 _ _) (li_fr 9 _ _)
  refine ⟨S3, run_def rfl ?_ (hS.len c3) (env := []), c3⟩
  unfold bd__law_rests_right
  refine (seq_at (env' := [some (.ref 0), some (fr a b), some (.int w), none, none, none]) (S' := S2) ?_).trans ?_
  · simp [mSeq, mAsg, mRet, mRetN, mIfS, mIf, mSkip, mExpr, mCall, mCons, mNil, mVar, mC, m1, m2, m3c, mB, mTru, mNot, mOr, mAnd, mAndV, mOrV, asB, trD, gN, gTupD, gsCons, gsNil, mPar, mRaise_eq, mFor, mItN, mIt, itS, forGo, mLc, lcGo, wipeD, mYes, flD, mDef, fAdd, fSub, fNeg, fIx, fLen, fIsi, fNot, fInt, fList, fAbs, fTup, fLst, fGcd, cI, tyName, fIsN, items, asBs, fAll, mBrk, mCnt, mThk, ev_ret, bnd_noM, bnd_exM, bnd_bnd, bnd_ite, nox_ret, getO_some, gcM_ret, gcM_exM, gcM_noM, gcM_ite, fEq_int, atI_zero, atI_one, kb_NoneType_int, kb_NoneType_bool, kb_NoneType_str, kb_NoneType_tuple, kb_NoneType_list, kb_bool_int, kb_bool_bool, kb_bool_str, kb_bool_tuple, kb_bool_list, kb_int_int, kb_int_bool, kb_int_str, kb_int_tuple, kb_int_list, kb_str_int, kb_str_bool, kb_str_str, kb_str_tuple, kb_str_list, kb_tuple_int, kb_tuple_bool, kb_tuple_str, kb_tuple_tuple, kb_tuple_list, kb_list_int, kb_list_bool, kb_list_str, kb_list_tuple, kb_list_list, sizeLine, bnd_s _ e1, bnd_s _ e2, ew, ret_at]
  refine (seq_at (env' := [some (.ref 0), some (fr a b), some (.int w), some (fr p q), none, none]) (S' := S2) ?_).trans ?_
  · simp [mSeq, mAsg, mRet, mRetN, mIfS, mIf, mSkip, mExpr, mCall, mCons, mNil, mVar, mC, m1, m2, m3c, mB, mTru, mNot, mOr, mAnd, mAndV, mOrV, asB, trD, gN, gTupD, gsCons, gsNil, mPar, mRaise_eq, mFor, mItN, mIt, itS, forGo, mLc, lcGo, wipeD, mYes, flD, mDef, fAdd, fSub, fNeg, fIx, fLen, fIsi, fNot, fInt, fList, fAbs, fTup, fLst, fGcd, cI, tyName, fIsN, items, asBs, fAll, mBrk, mCnt, mThk, ev_ret, bnd_noM, bnd_exM, bnd_bnd, bnd_ite, nox_ret, getO_some, gcM_ret, gcM_exM, gcM_noM, gcM_ite, fEq_int, atI_zero, atI_one, kb_NoneType_int, kb_NoneType_bool, kb_NoneType_str, kb_NoneType_tuple, kb_NoneType_list, kb_bool_int, kb_bool_bool, kb_bool_str, kb_bool_tuple, kb_bool_list, kb_int_int, kb_int_bool, kb_int_str, kb_int_tuple, kb_int_list, kb_str_int, kb_str_bool, kb_str_str, kb_str_tuple, kb_str_list, kb_tuple_int, kb_tuple_bool, kb_tuple_str, kb_tuple_tuple, kb_tuple_list, kb_list_int, kb_list_bool, kb_list_str, kb_list_tuple, kb_list_list, told, ret_at]
  refine (seq_at (env' := [some (.ref 0), some (fr a b), some (.int w), some (fr p q), none, none]) (S' := S2) ?_).trans ?_
  · simp [mSeq, mAsg, mRet, mRetN, mIfS, mIf, mSkip, mExpr, mCall, mCons, mNil, mVar, mC, m1, m2, m3c, mB, mTru, mNot, mOr, mAnd, mAndV, mOrV, asB, trD, gN, gTupD, gsCons, gsNil, mPar, mRaise_eq, mFor, mItN, mIt, itS, forGo, mLc, lcGo, wipeD, mYes, flD, mDef, fAdd, fSub, fNeg, fIx, fLen, fIsi, fNot, fInt, fList, fAbs, fTup, fLst, fGcd, cI, tyName, fIsN, items, asBs, fAll, mBrk, mCnt, mThk, ev_ret, bnd_noM, bnd_exM, bnd_bnd, bnd_ite, nox_ret, getO_some, gcM_ret, gcM_exM, gcM_noM, gcM_ite, fEq_int, atI_zero, atI_one, kb_NoneType_int, kb_NoneType_bool, kb_NoneType_str, kb_NoneType_tuple, kb_NoneType_list, kb_bool_int, kb_bool_bool, kb_bool_str, kb_bool_tuple, kb_bool_list, kb_int_int, kb_int_bool, kb_int_str, kb_int_tuple, kb_int_list, kb_str_int, kb_str_bool, kb_str_str, kb_str_tuple, kb_str_list, kb_tuple_int, kb_tuple_bool, kb_tuple_str, kb_tuple_tuple, kb_tuple_list, kb_list_int, kb_list_bool, kb_list_str, kb_list_tuple, kb_list_list, sizeLine, isf, wq, p0, p1, L2, ret_at]
  refine (seq_at (env' := [some (.ref 0), some (fr a b), some (.int w), some (fr p q), some (fr (w * (a / (w * b))) 1), none]) (S' := S2) ?_).trans ?_
  · simp [mSeq, mAsg, mRet, mRetN, mIfS, mIf, mSkip, mExpr, mCall, mCons, mNil, mVar, mC, m1, m2, m3c, mB, mTru, mNot, mOr, mAnd, mAndV, mOrV, asB, trD, gN, gTupD, gsCons, gsNil, mPar, mRaise_eq, mFor, mItN, mIt, itS, forGo, mLc, lcGo, wipeD, mYes, flD, mDef, fAdd, fSub, fNeg, fIx, fLen, fIsi, fNot, fInt, fList, fAbs, fTup, fLst, fGcd, cI, tyName, fIsN, items, asBs, fAll, mBrk, mCnt, mThk, ev_ret, bnd_noM, bnd_exM, bnd_bnd, bnd_ite, nox_ret, getO_some, gcM_ret, gcM_exM, gcM_noM, gcM_ite, fEq_int, atI_zero, atI_one, kb_NoneType_int, kb_NoneType_bool, kb_NoneType_str, kb_NoneType_tuple, kb_NoneType_list, kb_bool_int, kb_bool_bool, kb_bool_str, kb_bool_tuple, kb_bool_list, kb_int_int, kb_int_bool, kb_int_str, kb_int_tuple, kb_int_list, kb_str_int, kb_str_bool, kb_str_str, kb_str_tuple, kb_str_list, kb_tuple_int, kb_tuple_bool, kb_tuple_str, kb_tuple_tuple, kb_tuple_list, kb_list_int, kb_list_bool, kb_list_str, kb_list_tuple, kb_list_list, sizeLine, gap, ret_at]
  refine (seq_at (env' := [some (.ref 0), some (fr a b), some (.int w), some (fr p q), some (fr (w * (a / (w * b))) 1), some (fr (a + w * (k - 4) * b) b)]) (S' := S3) ?_).trans ?_
  · simp [mSeq, mAsg, mRet, mRetN, mIfS, mIf, mSkip, mExpr, mCall, mCons, mNil, mVar, mC, m1, m2, m3c, mB, mTru, mNot, mOr, mAnd, mAndV, mOrV, asB, trD, gN, gTupD, gsCons, gsNil, mPar, mRaise_eq, mFor, mItN, mIt, itS, forGo, mLc, lcGo, wipeD, mYes, flD, mDef, fAdd, fSub, fNeg, fIx, fLen, fIsi, fNot, fInt, fList, fAbs, fTup, fLst, fGcd, cI, tyName, fIsN, items, asBs, fAll, mBrk, mCnt, mThk, ev_ret, bnd_noM, bnd_exM, bnd_bnd, bnd_ite, nox_ret, getO_some, gcM_ret, gcM_exM, gcM_noM, gcM_ite, fEq_int, atI_zero, atI_one, kb_NoneType_int, kb_NoneType_bool, kb_NoneType_str, kb_NoneType_tuple, kb_NoneType_list, kb_bool_int, kb_bool_bool, kb_bool_str, kb_bool_tuple, kb_bool_list, kb_int_int, kb_int_bool, kb_int_str, kb_int_tuple, kb_int_list, kb_str_int, kb_str_bool, kb_str_str, kb_str_tuple, kb_str_list, kb_tuple_int, kb_tuple_bool, kb_tuple_str, kb_tuple_tuple, kb_tuple_list, kb_list_int, kb_list_bool, kb_list_str, kb_list_tuple, kb_list_list, sizeLine, bnd_s _ e3, wk, more, ret_at]
  · simp [mSeq, mAsg, mRet, mRetN, mIfS, mIf, mSkip, mExpr, mCall, mCons, mNil, mVar, mC, m1, m2, m3c, mB, mTru, mNot, mOr, mAnd, mAndV, mOrV, asB, trD, gN, gTupD, gsCons, gsNil, mPar, mRaise_eq, mFor, mItN, mIt, itS, forGo, mLc, lcGo, wipeD, mYes, flD, mDef, fAdd, fSub, fNeg, fIx, fLen, fIsi, fNot, fInt, fList, fAbs, fTup, fLst, fGcd, cI, tyName, fIsN, items, asBs, fAll, mBrk, mCnt, mThk, ev_ret, bnd_noM, bnd_exM, bnd_bnd, bnd_ite, nox_ret, getO_some, gcM_ret, gcM_exM, gcM_noM, gcM_ite, fEq_int, atI_zero, atI_one, kb_NoneType_int, kb_NoneType_bool, kb_NoneType_str, kb_NoneType_tuple, kb_NoneType_list, kb_bool_int, kb_bool_bool, kb_bool_str, kb_bool_tuple, kb_bool_list, kb_int_int, kb_int_bool, kb_int_str, kb_int_tuple, kb_int_list, kb_str_int, kb_str_bool, kb_str_str, kb_str_tuple, kb_str_list, kb_tuple_int, kb_tuple_bool, kb_tuple_str, kb_tuple_tuple, kb_tuple_list, kb_list_int, kb_list_bool, kb_list_str, kb_list_tuple, kb_list_list, sizeLine, md, zero, told3, told2, L4, ret_at]
/-! ### the law -/
theorem bits_log {z : Int} (h : Builtin.Int.intBits z ≤ 1048576) : sm 1048577 z := by
  by_cases h0 : z.natAbs = 0
  · show z.natAbs < _
    rw [h0]
    exact Nat.two_pow_pos _
  · have hb : z.natAbs.log2 ≤ 1048576 := by
      have hz : z ≠ 0 := by omega
      have e : Builtin.Int.intBits z = z.natAbs.log2 + 1 := by
        unfold Builtin.Int.intBits
        simp [hz]
      omega
    exact (Nat.log2_lt h0).mp (by omega)
theorem e_cup {ns : List Int} (hl : ns.length ≤ 63) (hz : ∀ z ∈ ns, Builtin.Int.intBits z ≤ 1048576) : ∃ c0 c1, m__law_cup [.scr ns] [] = .ok (.ref 0) (cupS c0 c1) ∧ 0 ≤ c0 ∧ 0 ≤ c1 ∧ c1 < 1048576 := by
  obtain ⟨z, ez, sz⟩ : ∃ z : Int, L2.atI (ns.map D.int ++ [.int 0]) 0 = some (.int z) ∧ sm 1048577 z := by
    cases ns with
    | nil => exact ⟨0, rfl, Nat.two_pow_pos _⟩
    | cons x r => exact ⟨x, atI_zero _ _, bits_log (hz x (List.mem_cons_self))⟩
  obtain ⟨c, ec, sc, c0⟩ : ∃ c : Int, (if z < 0 then -z else z) = c ∧ sm 1048577 c ∧ 0 ≤ c := by
    refine ⟨_, rfl, ?_, ?_⟩
    · unfold sm at *
      split <;> omega
    · split <;> omega
  have e1 : fMul (.int c) (.int 1093) = ret (.int (c * 1093)) := fMul_i 1048577 11 sc (show (1093 : Int).natAbs < 2 ^ 11 by decide) (by omega)
  have e2 : fPow (.int 10) (.int 18) = ret (.int 1000000000000000000) := rfl
  have e3 : fDiv (.int c) (.int 313) = ret (.int (c / 313)) := fDiv_int 9 (by omega) (by decide) (by omega)
  have hm : (0 : Int) < 1048576 := by omega
  have hs : ns.length + 1 ≤ 16777216 := by omega
  have b0 := Int.emod_nonneg (c * 1093 + 97687) (show (1048576 : Int) ≠ 0 by omega)
  have b1 := Int.emod_lt_of_pos (c * 1093 + 97687) hm
  refine ⟨if 1000000000000000000 ≤ c then c / 313 else 0, (c * 1093 + 97687) % 1048576, ?_, ?_, b0, b1⟩
  · by_cases h : 1000000000000000000 ≤ c
    · simp [mSeq, mAsg, mRet, mRetN, mIfS, mIf, mSkip, mExpr, mCall, mCons, mNil, mVar, mC, m1, m2, m3c, mB, mTru, mNot, mOr, mAnd, mAndV, mOrV, asB, trD, gN, gTupD, gsCons, gsNil, mPar, mRaise_eq, mFor, mItN, mIt, itS, forGo, mLc, lcGo, wipeD, mYes, flD, mDef, fAdd, fSub, fNeg, fIx, fLen, fIsi, fNot, fInt, fList, fAbs, fTup, fLst, fGcd, cI, tyName, fIsN, items, asBs, fAll, mBrk, mCnt, mThk, ev_ret, bnd_noM, bnd_exM, bnd_bnd, bnd_ite, nox_ret, getO_some, gcM_ret, gcM_exM, gcM_noM, gcM_ite, fEq_int, atI_zero, atI_one, kb_NoneType_int, kb_NoneType_bool, kb_NoneType_str, kb_NoneType_tuple, kb_NoneType_list, kb_bool_int, kb_bool_bool, kb_bool_str, kb_bool_tuple, kb_bool_list, kb_int_int, kb_int_bool, kb_int_str, kb_int_tuple, kb_int_list, kb_str_int, kb_str_bool, kb_str_str, kb_str_tuple, kb_str_list, kb_tuple_int, kb_tuple_bool, kb_tuple_str, kb_tuple_tuple, kb_tuple_list, kb_list_int, kb_list_bool, kb_list_str, kb_list_tuple, kb_list_list, m__law_cup, bd__law_cup, sizeLine, hs, ez, ec, e1, e2, e3, fMod_int hm, h, fNew, nrs, nr, gcM]
      rfl
    · simp [mSeq, mAsg, mRet, mRetN, mIfS, mIf, mSkip, mExpr, mCall, mCons, mNil, mVar, mC, m1, m2, m3c, mB, mTru, mNot, mOr, mAnd, mAndV, mOrV, asB, trD, gN, gTupD, gsCons, gsNil, mPar, mRaise_eq, mFor, mItN, mIt, itS, forGo, mLc, lcGo, wipeD, mYes, flD, mDef, fAdd, fSub, fNeg, fIx, fLen, fIsi, fNot, fInt, fList, fAbs, fTup, fLst, fGcd, cI, tyName, fIsN, items, asBs, fAll, mBrk, mCnt, mThk, ev_ret, bnd_noM, bnd_exM, bnd_bnd, bnd_ite, nox_ret, getO_some, gcM_ret, gcM_exM, gcM_noM, gcM_ite, fEq_int, atI_zero, atI_one, kb_NoneType_int, kb_NoneType_bool, kb_NoneType_str, kb_NoneType_tuple, kb_NoneType_list, kb_bool_int, kb_bool_bool, kb_bool_str, kb_bool_tuple, kb_bool_list, kb_int_int, kb_int_bool, kb_int_str, kb_int_tuple, kb_int_list, kb_str_int, kb_str_bool, kb_str_str, kb_str_tuple, kb_str_list, kb_tuple_int, kb_tuple_bool, kb_tuple_str, kb_tuple_tuple, kb_tuple_list, kb_list_int, kb_list_bool, kb_list_str, kb_list_tuple, kb_list_list, m__law_cup, bd__law_cup, sizeLine, hs, ez, ec, e1, e2, e3, fMod_int hm, h, fNew, nrs, nr, gcM]
      rfl
  · split
    · exact Int.ediv_nonneg c0 (by omega)
    · omega
theorem e_limits (c0 c1 : Int) : m__law_limits_right [] (cupS c0 c1) = .ok (.bl true) (cupS c0 c1) := by kernel_rfl
theorem turns_go : ∀ (ds : List D) (d0 d2 : Option D) (S : Sto), Cup S → ∃ d2' S', forGo (gN 2) (mIfS (mOr (mNot (mTru (mCall m__law_fractions_right (mCons (mVar 1) mNil)))) (mNot (mTru (mCall m__law_rests_right (mCons (mVar 1) mNil))))) (mRet (mC (.bl false))) mSkip) ds [d0, some (.ref 0), d2] S = .ok (.nx, [d0, some (.ref 0), d2']) S' ∧ Cup S'
  | [], d0, d2, S, h => ⟨d2, S, rfl, h⟩
  | d :: ds, d0, d2, S, h => by
    obtain ⟨S1, e1, c1⟩ := e_fractions h
    obtain ⟨S2, e2, c2⟩ := e_rests c1
    obtain ⟨d2', S', e3, c3⟩ := turns_go ds d0 (some d) S2 c2
    refine ⟨d2', S', ?_, c3⟩
    rw [← e3]
    have st : (mIfS (mOr (mNot (mTru (mCall m__law_fractions_right (mCons (mVar 1) mNil)))) (mNot (mTru (mCall m__law_rests_right (mCons (mVar 1) mNil))))) (mRet (mC (.bl false))) mSkip) [d0, some (.ref 0), some d] S = .ok (.nx, [d0, some (.ref 0), some d]) S2 := by
      simp [mSeq, mAsg, mRet, mRetN, mIfS, mIf, mSkip, mExpr, mCall, mCons, mNil, mVar, mC, m1, m2, m3c, mB, mTru, mNot, mOr, mAnd, mAndV, mOrV, asB, trD, gN, gTupD, gsCons, gsNil, mPar, mRaise_eq, mFor, mItN, mIt, itS, forGo, mLc, lcGo, wipeD, mYes, flD, mDef, fAdd, fSub, fNeg, fIx, fLen, fIsi, fNot, fInt, fList, fAbs, fTup, fLst, fGcd, cI, tyName, fIsN, items, asBs, fAll, mBrk, mCnt, mThk, ev_ret, bnd_noM, bnd_exM, bnd_bnd, bnd_ite, nox_ret, getO_some, gcM_ret, gcM_exM, gcM_noM, gcM_ite, fEq_int, atI_zero, atI_one, kb_NoneType_int, kb_NoneType_bool, kb_NoneType_str, kb_NoneType_tuple, kb_NoneType_list, kb_bool_int, kb_bool_bool, kb_bool_str, kb_bool_tuple, kb_bool_list, kb_int_int, kb_int_bool, kb_int_str, kb_int_tuple, kb_int_list, kb_str_int, kb_str_bool, kb_str_str, kb_str_tuple, kb_str_list, kb_tuple_int, kb_tuple_bool, kb_tuple_str, kb_tuple_tuple, kb_tuple_list, kb_list_int, kb_list_bool, kb_list_str, kb_list_tuple, kb_list_list, bnd_s _ e1, bnd_s _ e2, ret_at]
    generalize mIfS (mOr (mNot (mTru (mCall m__law_fractions_right (mCons (mVar 1) mNil)))) (mNot (mTru (mCall m__law_rests_right (mCons (mVar 1) mNil))))) (mRet (mC (.bl false))) mSkip = F at st ⊢
    show bnd (gN 2 d [d0, some (.ref 0), d2]) _ S = _
    show bnd (F [d0, some (.ref 0), some d]) _ S = _
    rw [bnd_s _ st]
theorem plain (ns : List Int) (hl : ns.length ≤ 63) (hz : ∀ z ∈ ns, Builtin.Int.intBits z ≤ 1048576) : ∃ S, m_law [.scr ns] [] = .ok (.bl true) S := by
  obtain ⟨c0, c1, e1, h0, h1, h2⟩ := e_cup hl hz
  obtain ⟨d2, S, e2, _⟩ := turns_go (rgD 0 12) (some (.scr ns)) none (cupS c0 c1) ⟨c0, c1, rfl, h0, h1, h2⟩
  have hr : fRg1 [.int 12] = ret (rgD 0 12) := rfl
  have b : bd_law [some (.scr ns), none, none] [] = .ok (.rt (.bl true), []) S := by
    unfold bd_law
    refine (seq_at (env' := [some (.scr ns), some (.ref 0), none]) (S' := cupS c0 c1) ?_).trans ?_
    · simp [mSeq, mAsg, mRet, mRetN, mIfS, mIf, mSkip, mExpr, mCall, mCons, mNil, mVar, mC, m1, m2, m3c, mB, mTru, mNot, mOr, mAnd, mAndV, mOrV, asB, trD, gN, gTupD, gsCons, gsNil, mPar, mRaise_eq, mFor, mItN, mIt, itS, forGo, mLc, lcGo, wipeD, mYes, flD, mDef, fAdd, fSub, fNeg, fIx, fLen, fIsi, fNot, fInt, fList, fAbs, fTup, fLst, fGcd, cI, tyName, fIsN, items, asBs, fAll, mBrk, mCnt, mThk, ev_ret, bnd_noM, bnd_exM, bnd_bnd, bnd_ite, nox_ret, getO_some, gcM_ret, gcM_exM, gcM_noM, gcM_ite, fEq_int, atI_zero, atI_one, kb_NoneType_int, kb_NoneType_bool, kb_NoneType_str, kb_NoneType_tuple, kb_NoneType_list, kb_bool_int, kb_bool_bool, kb_bool_str, kb_bool_tuple, kb_bool_list, kb_int_int, kb_int_bool, kb_int_str, kb_int_tuple, kb_int_list, kb_str_int, kb_str_bool, kb_str_str, kb_str_tuple, kb_str_list, kb_tuple_int, kb_tuple_bool, kb_tuple_str, kb_tuple_tuple, kb_tuple_list, kb_list_int, kb_list_bool, kb_list_str, kb_list_tuple, kb_list_list, bnd_s _ e1, ret_at]
    refine (seq_at (env' := [some (.scr ns), some (.ref 0), none]) (S' := cupS c0 c1) ?_).trans ?_
    · simp [mSeq, mAsg, mRet, mRetN, mIfS, mIf, mSkip, mExpr, mCall, mCons, mNil, mVar, mC, m1, m2, m3c, mB, mTru, mNot, mOr, mAnd, mAndV, mOrV, asB, trD, gN, gTupD, gsCons, gsNil, mPar, mRaise_eq, mFor, mItN, mIt, itS, forGo, mLc, lcGo, wipeD, mYes, flD, mDef, fAdd, fSub, fNeg, fIx, fLen, fIsi, fNot, fInt, fList, fAbs, fTup, fLst, fGcd, cI, tyName, fIsN, items, asBs, fAll, mBrk, mCnt, mThk, ev_ret, bnd_noM, bnd_exM, bnd_bnd, bnd_ite, nox_ret, getO_some, gcM_ret, gcM_exM, gcM_noM, gcM_ite, fEq_int, atI_zero, atI_one, kb_NoneType_int, kb_NoneType_bool, kb_NoneType_str, kb_NoneType_tuple, kb_NoneType_list, kb_bool_int, kb_bool_bool, kb_bool_str, kb_bool_tuple, kb_bool_list, kb_int_int, kb_int_bool, kb_int_str, kb_int_tuple, kb_int_list, kb_str_int, kb_str_bool, kb_str_str, kb_str_tuple, kb_str_list, kb_tuple_int, kb_tuple_bool, kb_tuple_str, kb_tuple_tuple, kb_tuple_list, kb_list_int, kb_list_bool, kb_list_str, kb_list_tuple, kb_list_list, bnd_s _ (e_limits c0 c1), ret_at]
    refine (seq_at (env' := [some (.scr ns), some (.ref 0), d2]) (S' := S) ?_).trans rfl
    rw [← e2]
    simp only [mFor, mItN, mCons, mC, mNil, ev_ret, hr]
  refine ⟨S.take 0, ?_⟩
  show gcM (bnd (bd_law [some (.scr ns), none, none]) flD) [] = _
  unfold gcM
  rw [bnd_s _ b]
  rfl
end Mir
namespace Mir
section
open PySem PySem.Spec PyProof.Rows L2 RZ LamX
def fnL : List He.DefD := [dd "is_whole" s_is_whole, dd "is_tuple_of" s_is_tuple_of, dd "is_fraction" s_is_fraction, dd "need_fraction" s_need_fraction, dd "lowest" s_lowest, dd "plus" s_plus, dd "times" s_times, dd "over" s_over, dd "fraction_sum" s_fraction_sum, dd "fraction_product" s_fraction_product, dd "fraction_by" s_fraction_by, dd "is_most" s_is_most, dd "at_most" s_at_most, dd "rest_of" s_rest_of, dd "fraction_rest" s_fraction_rest, dd "_law_cup" s__law_cup, dd "_law_roll" s__law_roll, dd "_law_some" s__law_some, dd "_law_sort" s__law_sort, dd "_law_like" s__law_like, dd "_law_lowest" s__law_lowest, dd "_law_plus" s__law_plus, dd "_law_times" s__law_times, dd "_law_fraction" s__law_fraction, dd "_law_error" s__law_error, dd "_law_fractions_right" s__law_fractions_right, dd "_law_rests_right" s__law_rests_right, dd "_law_limits_right" s__law_limits_right, dd "law" s_law]
def faL : List He.Fa := [.glo "is_whole", .glo "is_tuple_of", .glo "is_fraction", .glo "need_fraction", .glo "lowest", .glo "plus", .glo "times", .glo "over", .glo "fraction_sum", .glo "fraction_product", .glo "fraction_by", .glo "is_most", .glo "at_most", .glo "rest_of", .glo "fraction_rest", .glo "_law_cup", .glo "_law_roll", .glo "_law_some", .glo "_law_sort", .glo "_law_like", .glo "_law_lowest", .glo "_law_plus", .glo "_law_times", .glo "_law_fraction", .glo "_law_error", .glo "_law_fractions_right", .glo "_law_rests_right", .glo "_law_limits_right", .glo "law", .glo "FormError", .glo "InvalidFraction", .glo "InvalidNumber", .glo "NotFound", .exc "FormError", .exc "InvalidFraction", .exc "InvalidNumber", .exc "NotFound", .free "abs", .free "all", .free "bool", .free "int", .free "isinstance", .free "len", .free "list", .free "range", .free "str", .free "tuple", .free "zip"]
def tfL : List He.Defn := [("_law_fractions_right", none), ("_law_limits_right", none)]
def exB (K : PySem.W.Frag) : Bool := (subB K subL && (He.eqO (PySem.W.nsIn K mainGlobals "gcd") (some (some (.builtin "math.gcd"))) && tabsNd K tfL))
theorem tx_of {K : PySem.W.Frag} {mg : Str → Option Value} {base h : Heap} {w : World} (X : K.In h) (G : h.Ns mainGlobals mg) (c : He.SaysX faL fnL [] tfL exB w h K) (TB : ∀ p ∈ tfL, TabB base mg (He.cT K p).1 (He.cT K p).2) : Tx K mg base (tabsK K tfL) := by
  have e0 := c.more
  obtain ⟨eS, e0⟩ := He.ba e0
  obtain ⟨m_gcd, e0⟩ := He.ba e0
  exact {
    n_abs := free_at X G c.t.d 37 rfl
    n_all := free_at X G c.t.d 38 rfl
    n_bool := free_at X G c.t.d 39 rfl
    n_int := free_at X G c.t.d 40 rfl
    n_isinstance := free_at X G c.t.d 41 rfl
    n_len := free_at X G c.t.d 42 rfl
    n_list := free_at X G c.t.d 43 rfl
    n_range := free_at X G c.t.d 44 rfl
    n_str := free_at X G c.t.d 45 rfl
    n_tuple := free_at X G c.t.d 46 rfl
    n_zip := free_at X G c.t.d 47 rfl
    g_gcd := mth_at X G m_gcd
    e_FormError := err_at X G c.t.d 29 33 rfl rfl
    e_InvalidFraction := err_at X G c.t.d 30 34 rfl rfl
    e_InvalidNumber := err_at X G c.t.d 31 35 rfl rfl
    e_NotFound := err_at X G c.t.d 32 36 rfl rfl
    f_is_whole := def_at X G c.t.d 0 0 rfl rfl
    f_is_tuple_of := def_at X G c.t.d 1 1 rfl rfl
    f_is_fraction := def_at X G c.t.d 2 2 rfl rfl
    f_need_fraction := def_at X G c.t.d 3 3 rfl rfl
    f_lowest := def_at X G c.t.d 4 4 rfl rfl
    f_plus := def_at X G c.t.d 5 5 rfl rfl
    f_times := def_at X G c.t.d 6 6 rfl rfl
    f_over := def_at X G c.t.d 7 7 rfl rfl
    f_fraction_sum := def_at X G c.t.d 8 8 rfl rfl
    f_fraction_product := def_at X G c.t.d 9 9 rfl rfl
    f_fraction_by := def_at X G c.t.d 10 10 rfl rfl
    f_is_most := def_at X G c.t.d 11 11 rfl rfl
    f_at_most := def_at X G c.t.d 12 12 rfl rfl
    f_rest_of := def_at X G c.t.d 13 13 rfl rfl
    f_fraction_rest := def_at X G c.t.d 14 14 rfl rfl
    f__law_cup := def_at X G c.t.d 15 15 rfl rfl
    f__law_roll := def_at X G c.t.d 16 16 rfl rfl
    f__law_some := def_at X G c.t.d 17 17 rfl rfl
    f__law_sort := def_at X G c.t.d 18 18 rfl rfl
    f__law_like := def_at X G c.t.d 19 19 rfl rfl
    f__law_lowest := def_at X G c.t.d 20 20 rfl rfl
    f__law_plus := def_at X G c.t.d 21 21 rfl rfl
    f__law_times := def_at X G c.t.d 22 22 rfl rfl
    f__law_fraction := def_at X G c.t.d 23 23 rfl rfl
    f__law_error := def_at X G c.t.d 24 24 rfl rfl
    l__law_fractions_right := lam_at X G c.t.d TB e0 25 25 0 rfl rfl rfl
    f__law_fractions_right := def_at X G c.t.d 25 25 rfl rfl
    f__law_rests_right := def_at X G c.t.d 26 26 rfl rfl
    l__law_limits_right := lam_at X G c.t.d TB e0 27 27 1 rfl rfl rfl
    f__law_limits_right := def_at X G c.t.d 27 27 rfl rfl
    f_law := def_at X G c.t.d 28 28 rfl rfl
    sub := sub_ok X G eS }
def loose0 : List PySem.Str := ["FormError", "InvalidNumber", "InvalidFraction", "NotFound", "is_whole", "is_tuple_of", "is_fraction", "need_fraction", "lowest", "plus", "times", "over", "fraction_sum", "fraction_product", "fraction_by", "is_most", "at_most", "rest_of", "fraction_rest", "_law_cup", "_law_roll", "_law_some", "_law_sort", "_law_like", "_law_lowest", "_law_plus", "_law_times", "_law_fraction", "_law_error", "_law_fractions_right", "_law_rests_right", "_law_limits_right"]
abbrev looseL : List PySem.Str := loose0
abbrev rowR : PySem.W.OpenRow := PySem.W.OpenLaw.row PySem.Challenge.rw_formsfinite_k00_whole_fractions_and_rest
abbrev hkL : PySem.W.Hook := He.hookX 4 faL fnL [] tfL exB
def obL (s : PySem.W.SharedT) : He.AlX := He.obsX 4 faL fnL [] tfL exB (HandSHeadRun.getT s)
theorem obL_eq (s : PySem.W.SharedT) : obL s = hkL.obs s.abs := He.obsX_eq (HandSHeadRun.getT_eq s)
theorem runL (w : World) : HandSHeadRun.RunEqI rowR (PySem.W.view rowR.prog [0, 37]) hkL obL 4000 looseL w := by
  unfold HandSHeadRun.RunEqI
  kernel_rfl
end
end Mir
open PySem PySem.W PySem.Calls PyProof.Rows
theorem PySem.Challenge.cw_formsfinite_k00_whole_fractions_and_rest_holds : PySem.Challenge.rw_formsfinite_k00_whole_fractions_and_rest.Holds := by
  w_on; o_law
  refine HandSHeadRun.head_imp (r := OpenLaw.row PySem.Challenge.rw_formsfinite_k00_whole_fractions_and_rest) (q := view (OpenLaw.row PySem.Challenge.rw_formsfinite_k00_whole_fractions_and_rest).prog [0, 37]) (H := Mir.hkL) (ob := Mir.obL) (M := 4000) (loose := Mir.looseL) (d := HandSHeadRun.topDef (OpenLaw.row PySem.Challenge.rw_formsfinite_k00_whole_fractions_and_rest).prog 37) (kwd := []) Mir.obL_eq Mir.runL
    (by kernel_rfl) (by kernel_rfl) (by kernel_rfl) (by rfl) (by first | assumption | decide +kernel) (by decide +kernel) ⟨rfl, rfl, rfl, rfl, rfl, by decide +kernel⟩ ?hw ?hc
  case hw => w_witness2
  case hc =>
    refine LamX.walk_ofTsE (l := PySem.Challenge.rw_formsfinite_k00_whole_fractions_and_rest) (n := 63) (k := 18) (x := "script") (CX := fun w => L2N.CX (PySem.Challenge.rw_formsfinite_k00_whole_fractions_and_rest).prog w) rfl (by decide) (by kernel_rfl) ⟨rfl, by decide, by decide⟩ ?F fun w H s e s' z => Mir.cxN_none H s e s' z
    intro w mg fa h Y G hmg0
    obtain ⟨K, KX, c⟩ := Y
    have hmg : mg ("law" : PySem.Str) = some (.ref fa) := by
      have e : (HandSHeadRun.topDef (OpenLaw.row PySem.Challenge.rw_formsfinite_k00_whole_fractions_and_rest).prog 37).name = ("law" : PySem.Str) := by kernel_rfl
      rw [← e]
      exact hmg0
    obtain ⟨fd, F⟩ := c.t.d.def_ 28 (d := Mir.dd "law" Mir.s_law) rfl
    have e := hmg.symm.trans (He.glo_ok KX G (c.t.d.fact 28 (f := .glo "law") rfl))
    cases e
    have b := L2.FunD.bindsA (ps := ["script"]) F fun _ _ _ _ _ _ us hl => match us, hl with | [_], _ => rfl
    exact ⟨K, KX, Mir.law_at KX c (fun s v => b s [v] rfl) Mir.plain fun base hK hG TB => Mir.d_law (Mir.tx_of KX G c TB) F⟩
