import PyProof.Rows.All
import Wide.All
import OpenK.AllK
import Wide.FinOn
import HandS.ForMost
import HandS.Exc
import HandS.ExcOwn
import HandS.WordsExc
import HandS.TryOnly
import HandS.ExcIs
import HandS.ExcCtx
import HandS.Hot
import HandS.EndTab
import KE.GoesComp
import KE.GoesMore
import HandS.IsInst
import HandS.Wide
import HandS.Gcd
import HandS.TupAny
import HandS.TupMul
import HandS.Conv
import HandS.Walk
import HandS.Zip
import HandS.Flow
import HandS.Lambda
import HandS.HeadWalk
import HandS.WideBits
import HandS.HeadHook4
import HandS.Text
import HandS.NestedK
import HandS.Head3
import KE.GoesEnum
import KE.GoesZip
import HandS.Style
import KE.KIntText
import PyProof.Rows.StrMul
import PyProof.Rows.Digits
import KE.IntTextLaws
import PySem.Challenge.RW_formsfinite_k33_whole_wave_numbers
set_option Elab.async false
set_option linter.all false
set_option maxRecDepth 100000
set_option maxHeartbeats 4000000
namespace Mir
open PySem PySem.Spec PyProof.Rows L2
/-! ### plain data: what a Python value is, without a heap -/
inductive D where
  | non
  | bl (b : Bool)
  | int (i : Int)
  | str (x : Str)
  | ty (n : String)
  | glo (x : Str)
  | ref (i : Nat)
  | scr (ns : List Int)
  | raw (a : Addr)
  | tup (ds : List D)
  | lst (ds : List D)
instance : Inhabited D := ⟨.non⟩
def D.isNil : List D → Bool
  | [] => true
  | _ => false
/-- the store: lists that are still changed; none: given away -/
abbrev Sto := List (Option (List D))
structure Exn where
  cls : Str
inductive R (α : Type) where
  | ok (a : α) (S : Sto)
  | ex (e : Exn) (S : Sto)
  | no
def M (α : Type) : Type := Sto → R α
def ret {α : Type} (a : α) : M α := fun S => .ok a S
def bnd {α β : Type} (m : M α) (k : α → M β) : M β := fun S => match m S with
  | .ok a S' => k a S'
  | .ex e S' => .ex e S'
  | .no => .no
def noM {α : Type} : M α := fun _ => .no
abbrev Env := List (Option D)
/-! ### no handles within -/
mutual
def nr : D → Bool
  | .ref _ => false
  | .tup ds => nrs ds
  | .lst ds => nrs ds
  | _ => true
def nrs : List D → Bool
  | [] => true
  | d :: r => nr d && nrs r
end
/-! ### how data lies in the abstract heap -/
structure Gx where
  K : PySem.W.Frag
  mg : Str → Option Value
  T : List (Addr × Str)
def Live (ρ : List Addr) (S : Sto) (p : Addr) : Prop := ∃ (i : Nat) (ds : List D), ρ[i]? = some p ∧ S[i]? = some (some ds)
def Bar (F ρ : List Addr) (S : Sto) (p : Addr) : Prop := Live ρ S p ∨ p ∈ F
mutual
inductive Rep (g : Gx) (H : Hp) (B : Addr → Prop) (ρ : List Addr) : D → V → Prop
  | non : Rep g H B ρ .non .non
  | bl (b : Bool) : Rep g H B ρ (.bl b) (.bl b)
  | int (i : Int) : Rep g H B ρ (.int i) (.int i)
  | str (x : Str) : Rep g H B ρ (.str x) (.str x)
  | ty (n : String) : Rep g H B ρ (.ty n) (.ty n)
  | raw (a : Addr) : Rep g H B ρ (.raw a) (.ref a)
  | glo {x : Str} {a : Addr} : g.mg x = some (.ref a) → Rep g H B ρ (.glo x) (.ref a)
  | ref {i : Nat} {p : Addr} : ρ[i]? = some p → Rep g H B ρ (.ref i) (.ref p)
  | scr {ns : List Int} {p : Addr} : (H p = some (.lst (ns.map V.int)) ∧ ¬ B p) ∨ (∃ o, H p = some (.frz o (.lst (ns.map V.int)))) ∨
      (∃ (o : Obj) (its : Array Value) (n : Nat), g.K.lookup p = some o ∧ o.cls = .type "list" ∧ o.dict = none ∧ o.data = .seq its n ∧ its.size ≤ sizeLine ∧ Vals (ns.map V.int) its.toList) → Rep g H B ρ (.scr ns) (.ref p)
  | tup {ds : List D} {p : Addr} {vs : List V} : SqT g.K H p vs → Reps g H B ρ ds vs → Rep g H B ρ (.tup ds) (.ref p)
  | lst {ds : List D} {p : Addr} {vs : List V} : H p = some (.lst vs) → ¬ B p → Reps g H B ρ ds vs → Rep g H B ρ (.lst ds) (.ref p)
inductive Reps (g : Gx) (H : Hp) (B : Addr → Prop) (ρ : List Addr) : List D → List V → Prop
  | nil : Reps g H B ρ [] []
  | cons {d : D} {v : V} {ds : List D} {vs : List V} : Rep g H B ρ d v → Reps g H B ρ ds vs → Reps g H B ρ (d :: ds) (v :: vs)
end
section
variable {g : Gx} {H H' : Hp} {B B' : Addr → Prop} {ρ ρ' : List Addr}
theorem Reps.length : ∀ {ds : List D} {vs : List V}, Reps g H B ρ ds vs → ds.length = vs.length
  | _, _, .nil => rfl
  | _, _, .cons _ t => by simp [Reps.length t]
theorem Reps.get : ∀ {ds : List D} {vs : List V} {i : Nat} {d : D}, Reps g H B ρ ds vs → ds[i]? = some d → ∃ v, vs[i]? = some v ∧ Rep g H B ρ d v
  | _, _, _, _, .nil, e => by simp at e
  | _, _, 0, _, .cons r _, e => by simp at e; subst e; exact ⟨_, rfl, r⟩
  | _, _, i + 1, d, .cons _ t, e => by
    obtain ⟨v, h1, h2⟩ := Reps.get (i := i) (d := d) t (by simpa using e)
    exact ⟨v, by simpa using h1, h2⟩
theorem Reps.append : ∀ {ds es : List D} {vs us : List V}, Reps g H B ρ ds vs → Reps g H B ρ es us → Reps g H B ρ (ds ++ es) (vs ++ us)
  | _, _, _, _, .nil, s => s
  | _, _, _, _, .cons r t, s => .cons r (Reps.append t s)
theorem Reps.one {d : D} {v : V} (r : Rep g H B ρ d v) : Reps g H B ρ [d] [v] := .cons r .nil
theorem Reps.set {d : D} {v : V} (r : Rep g H B ρ d v) : ∀ {ds : List D} {vs : List V} (i : Nat), Reps g H B ρ ds vs → Reps g H B ρ (ds.set i d) (vs.set i v)
  | _, _, _, .nil => .nil
  | _, _, 0, .cons _ t => .cons r t
  | _, _, i + 1, .cons q t => .cons q (Reps.set r i t)
theorem Reps.take : ∀ {ds : List D} {vs : List V} (n : Nat), Reps g H B ρ ds vs → Reps g H B ρ (ds.take n) (vs.take n)
  | _, _, 0, _ => .nil
  | _, _, _ + 1, .nil => .nil
  | _, _, n + 1, .cons r t => .cons r (Reps.take n t)
theorem Reps.drop : ∀ {ds : List D} {vs : List V} (n : Nat), Reps g H B ρ ds vs → Reps g H B ρ (ds.drop n) (vs.drop n)
  | _, _, 0, r => r
  | _, _, _ + 1, .nil => .nil
  | _, _, n + 1, .cons _ t => Reps.drop n t
/-- nothing yet at p, or a table -/
def Nw (H : Hp) (p : Addr) : Prop := ∀ o, H p = some o → ∃ ps, o = .tbl ps
theorem Nw.of {H : Hp} {p : Addr} (h : H p = none) : Nw H p := fun o e => by
  rw [h] at e
  cases e
abbrev IsL (H : Hp) (p : Addr) : Prop := ∃ xs, H p = some (.lst xs)
/-- what carries every datum over -/
structure Car (g : Gx) (H H' : Hp) (B B' : Addr → Prop) (ρ ρ' : List Addr) : Prop where
  keep : ∀ (p : Addr) (o : HO), H p = some o → (∀ ps, o ≠ .tbl ps) → (B p → ∀ xs, o ≠ .lst xs) → H' p = some o
  bar : ∀ (p : Addr), B' p → B p ∨ Nw H p
  rho : ∀ (i : Nat) (p : Addr), ρ[i]? = some p → ρ'[i]? = some p
theorem Car.sqT (c : Car g H H' B B' ρ ρ') {p : Addr} {vs : List V} (h : SqT g.K H p vs) : SqT g.K H' p vs := by
  rcases h with (h | ⟨o, h⟩) | h
  · exact .inl (.inl (c.keep _ _ h (fun _ z => by cases z) (fun _ _ z => by cases z)))
  · exact .inl (.inr ⟨o, c.keep _ _ h (fun _ z => by cases z) (fun _ _ z => by cases z)⟩)
  · exact .inr h
mutual
theorem Rep.car (c : Car g H H' B B' ρ ρ') : ∀ {d : D} {v : V}, Rep g H B ρ d v → Rep g H' B' ρ' d v
  | _, _, .non => .non
  | _, _, .bl b => .bl b
  | _, _, .int i => .int i
  | _, _, .str x => .str x
  | _, _, .ty n => .ty n
  | _, _, .raw a => .raw a
  | _, _, .glo h => .glo h
  | _, _, .ref h => .ref (c.rho _ _ h)
  | _, _, .scr h => .scr (by
      rcases h with ⟨h, n⟩ | ⟨o, h⟩ | h
      · refine .inl ⟨c.keep _ _ h (fun _ z => by cases z) (fun b => absurd b n), fun b' => ?_⟩
        rcases c.bar _ b' with b | e
        · exact n b
        · obtain ⟨_, z⟩ := e _ h
          cases z
      · exact .inr (.inl ⟨o, c.keep _ _ h (fun _ z => by cases z) (fun _ _ z => by cases z)⟩)
      · exact .inr (.inr h))
  | _, _, .tup h t => .tup (c.sqT h) (Reps.car c t)
  | _, _, .lst h n t => .lst (c.keep _ _ h (fun _ z => by cases z) (fun b => absurd b n)) (fun b' => by
      rcases c.bar _ b' with b | e
      · exact n b
      · obtain ⟨_, z⟩ := e _ h
        cases z) (Reps.car c t)
theorem Reps.car (c : Car g H H' B B' ρ ρ') : ∀ {ds : List D} {vs : List V}, Reps g H B ρ ds vs → Reps g H' B' ρ' ds vs
  | _, _, .nil => .nil
  | _, _, .cons r t => .cons (Rep.car c r) (Reps.car c t)
end
end
/-! ### the state and how it grows -/
structure Ext (F ρ : List Addr) (H : Hp) (S : Sto) (ρ' : List Addr) (H' : Hp) (S' : Sto) : Prop where
  keep : ∀ (p : Addr) (o : HO), H p = some o → (∀ ps, o ≠ .tbl ps) → ¬ Live ρ S p → H' p = some o
  there : ∀ (p : Addr), IsL H p → IsL H' p
  live : ∀ (p : Addr), Live ρ' S' p → Live ρ S p ∨ Nw H p
  rho : ∃ more, ρ' = ρ ++ more
structure Ok (g : Gx) (F ρ : List Addr) (H : Hp) (S : Sto) : Prop where
  len : ρ.length = S.length
  nd : ρ.Nodup
  trk : ∀ (p : Addr), p ∈ ρ → IsL H p
  sto : ∀ (i : Nat) (ds : List D), S[i]? = some (some ds) → nrs ds = true ∧ ∃ p vs, ρ[i]? = some p ∧ H p = some (.lst vs) ∧ Reps g H (Bar F ρ S) ρ ds vs ∧ p ∉ F
  fr : ∀ (p : Addr), p ∈ F → ∃ xs, H p = some (.lst xs)
  tab : LamX.Tabs g.T H
section
variable {g : Gx} {F ρ ρ1 ρ2 : List Addr} {H H1 H2 : Hp} {S S1 S2 : Sto}
theorem Ext.refl : Ext F ρ H S ρ H S := ⟨fun _ _ h _ _ => h, fun _ h => h, fun _ h => .inl h, ⟨[], by simp⟩⟩
theorem Ok.lst (o : Ok g F ρ H S) {p : Addr} (h : Bar F ρ S p) : ∃ xs, H p = some (.lst xs) := by
  rcases h with ⟨i, ds, h1, h2⟩ | h
  · obtain ⟨_, q, vs, h3, h4, _⟩ := o.sto i ds h2
    rw [h1] at h3
    cases h3
    exact ⟨vs, h4⟩
  · exact o.fr p h
theorem Ext.trans (a : Ext F ρ H S ρ1 H1 S1) (b : Ext F ρ1 H1 S1 ρ2 H2 S2) : Ext F ρ H S ρ2 H2 S2 := by
  refine ⟨fun p o h n l => ?_, fun p h => b.there p (a.there p h), fun p h => ?_, ?_⟩
  · refine b.keep p o (a.keep p o h n l) n fun l1 => ?_
    rcases a.live p l1 with z | z
    · exact l z
    · obtain ⟨ps, e⟩ := z _ h
      exact n ps e
  · rcases b.live p h with z | z
    · exact a.live p z
    · by_cases l : Live ρ S p
      · exact .inl l
      · refine .inr fun o q => ?_
        by_cases ht : ∃ ps, o = .tbl ps
        · exact ht
        · exact z o (a.keep p o q (fun ps e => ht ⟨ps, e⟩) l)
  · obtain ⟨m, h1⟩ := a.rho
    obtain ⟨m', h2⟩ := b.rho
    exact ⟨m ++ m', by rw [h2, h1, List.append_assoc]⟩
theorem Ext.car (e : Ext F ρ H S ρ1 H1 S1) (o : Ok g F ρ H S) : Car g H H1 (Bar F ρ S) (Bar F ρ1 S1) ρ ρ1 := by
  refine ⟨fun p u h n nb => ?_, fun p b => ?_, fun i p h => ?_⟩
  · refine e.keep p u h n fun l => ?_
    obtain ⟨xs, hx⟩ := o.lst (.inl l : Bar F ρ S p)
    rw [h] at hx
    cases hx
    exact nb (.inl l) xs rfl
  · rcases b with l | f
    · rcases e.live p l with z | z
      · exact .inl (.inl z)
      · exact .inr z
    · exact .inl (.inr f)
  · obtain ⟨m, h1⟩ := e.rho
    rw [h1]
    have hi : i < ρ.length := (List.getElem?_eq_some_iff.mp h).1
    rw [List.getElem?_append_left hi]
    exact h
end
/-- the names' values -/
structure EnvOk (g : Gx) (H : Hp) (B : Addr → Prop) (ρ : List Addr) (nn : Nat) (env : Env) (σ : L2.St) : Prop where
  len : env.length = nn
  len2 : σ.length = nn
  loc : ∀ (i : Nat) (d : D), env[i]? = some (some d) → ∃ v, σ[i]? = some (some v) ∧ Rep g H B ρ d v
section
variable {g : Gx} {H H1 : Hp} {B B1 : Addr → Prop} {ρ ρ1 : List Addr} {nn : Nat} {env : Env} {σ : L2.St}
theorem EnvOk.car (n : EnvOk g H B ρ nn env σ) (c : Car g H H1 B B1 ρ ρ1) : EnvOk g H1 B1 ρ1 nn env σ :=
  ⟨n.len, n.len2, fun i d h => let ⟨v, h1, h2⟩ := n.loc i d h; ⟨v, h1, h2.car c⟩⟩
theorem EnvOk.set (n : EnvOk g H B ρ nn env σ) {d : D} {v : V} (r : Rep g H B ρ d v) (i : Nat) : EnvOk g H B ρ nn (env.set i (some d)) (σ.set i (some v)) := by
  refine ⟨by simp [n.len], by simp [n.len2], fun j d' h => ?_⟩
  by_cases hj : i = j
  · subst hj
    have hi : i < env.length := by
      have := (List.getElem?_eq_some_iff.mp h).1
      simpa using this
    rw [List.getElem?_set_self hi] at h
    cases h
    exact ⟨v, List.getElem?_set_self (by rw [n.len2, ← n.len]; exact hi), r⟩
  · rw [List.getElem?_set_ne hj] at h
    obtain ⟨v', h1, h2⟩ := n.loc j d' h
    exact ⟨v', by rw [List.getElem?_set_ne hj]; exact h1, h2⟩
end
/-- an exception as it lies: its class -/
def ExRep (g : Gx) (e : Exn) (cls : Value) (dd : Option Addr) : Prop := dd = none ∧ ∃ C, g.mg e.cls = some (.ref C) ∧ cls = .ref C
/-- how a result and what the reading hands on belong together -/
abbrev Rl (α β : Type) := Nat → Gx → Hp → (Addr → Prop) → List Addr → α → β → Prop
abbrev rD : Rl D V := fun _ g H B ρ d v => Rep g H B ρ d v
abbrev rLs : Rl (List D) (List V) := fun _ g H B ρ d v => Reps g H B ρ d v
abbrev rBo : Rl Bool Bool := fun _ _ _ _ _ a b => b = a
/-- what is wanted behind a piece of code that gives r -/
def Fin {α β : Type} (rl : Rl α β) (g : Gx) (F : List Addr) (W : WX) (nn : Nat) (ρ : List Addr) (H : Hp) (S : Sto) (Q : β → Hp → Prop) : R α → Prop
  | .ok d S' => ∀ ρ' H' v, Ext F ρ H S ρ' H' S' → Ok g F ρ' H' S' → rl nn g H' (Bar F ρ' S') ρ' d v → Q v H'
  | .ex e S' => ∀ ρ' H' σ' cls dd, σ'.length = nn → Ext F ρ H S ρ' H' S' → Ok g F ρ' H' S' → ExRep g e cls dd → W cls dd σ' H'
  | .no => False
section
variable {α β : Type} {rl : Rl α β} {g : Gx} {F ρ ρ1 : List Addr} {H H1 : Hp} {S S1 : Sto} {W : WX} {nn : Nat}
theorem Fin.ext {Q : β → Hp → Prop} (e : Ext F ρ H S ρ1 H1 S1) : ∀ {r : R α}, Fin rl g F W nn ρ H S Q r → Fin rl g F W nn ρ1 H1 S1 Q r
  | .ok _ _, h => fun ρ' H' v e' o r => h ρ' H' v (e.trans e') o r
  | .ex _ _, h => fun ρ' H' σ' c d l e' o x => h ρ' H' σ' c d l (e.trans e') o x
  | .no, h => h
theorem Fin.mono {Q Q' : β → Hp → Prop} (q : ∀ v H, Q v H → Q' v H) : ∀ {r : R α}, Fin rl g F W nn ρ H S Q r → Fin rl g F W nn ρ H S Q' r
  | .ok _ _, h => fun ρ' H' v e' o r => q _ _ (h ρ' H' v e' o r)
  | .ex _ _, h => h
  | .no, h => h
end
/-- the reading of a piece of code that goes on with the values vs (of the data ds) -/
def tH {α β : Type} (rl : Rl α β) (g : Gx) (W : WX) (k : List D → Env → M α) (vs : List V) : L2.St → Hp → (β → Hp → Prop) → Prop := fun σ H Q =>
  ∃ nn F ρ env S ds, EnvOk g H (Bar F ρ S) ρ nn env σ ∧ Ok g F ρ H S ∧ Reps g H (Bar F ρ S) ρ ds vs ∧ Fin rl g F W nn ρ H S Q (k ds env S)
abbrev tE (g : Gx) (W : WX) (m : Env → M D) : TE := tH rD g W (fun _ => m) []
abbrev tB (g : Gx) (W : WX) (m : Env → M Bool) : TT := tH rBo g W (fun _ => m) []
abbrev tL (g : Gx) (W : WX) (m : Env → M (List D)) : TA := tH rLs g W (fun _ => m) []
section
variable {α β γ δ : Type} {rl : Rl α β} {g : Gx} {W : WX} {σ : L2.St} {H : Hp} {vs : List V}
/-- the first part, then the rest with one value more -/
theorem push {Q : β → Hp → Prop} {m : Env → M D} {k : List D → Env → M α} (h : tH rl g W (fun ds env => bnd (m env) fun d => k (ds ++ [d]) env) vs σ H Q) :
    tE g W m σ H fun v H1 => tH rl g W k (vs ++ [v]) σ H1 Q := by
  obtain ⟨nn, F, ρ, env, S, ds, n, o, r, h⟩ := h
  refine ⟨nn, F, ρ, env, S, [], n, o, .nil, ?_⟩
  dsimp only [bnd] at h
  show Fin rD g F W nn ρ H S _ (m env S)
  cases e : m env S with
  | ok d S1 =>
    rw [e] at h
    exact fun ρ' H' v x o' r' => ⟨nn, F, ρ', env, S1, ds ++ [d], n.car (x.car o), o', (r.car (x.car o)).append (.one r'), Fin.ext x h⟩
  | ex e1 S1 =>
    rw [e] at h
    exact h
  | no =>
    rw [e] at h
    exact h
/-- the same where the first part gives a test's answer -/
theorem pushT {Q : β → Hp → Prop} {m : Env → M Bool} {k : Bool → List D → Env → M α} (h : tH rl g W (fun ds env => bnd (m env) fun b => k b ds env) vs σ H Q) :
    tB g W m σ H fun b H1 => tH rl g W (k b) vs σ H1 Q := by
  obtain ⟨nn, F, ρ, env, S, ds, n, o, r, h⟩ := h
  refine ⟨nn, F, ρ, env, S, [], n, o, .nil, ?_⟩
  dsimp only [bnd] at h
  show Fin rBo g F W nn ρ H S _ (m env S)
  cases e : m env S with
  | ok d S1 =>
    rw [e] at h
    refine fun ρ' H' v x o' r' => ?_
    subst r'
    exact ⟨nn, F, ρ', env, S1, ds, n.car (x.car o), o', r.car (x.car o), Fin.ext x h⟩
  | ex e1 S1 =>
    rw [e] at h
    exact h
  | no =>
    rw [e] at h
    exact h
/-- an argument list ahead -/
theorem pushL {Q : β → Hp → Prop} {m : Env → M (List D)} {k : List D → Env → M α} (h : tH rl g W (fun ds env => bnd (m env) fun es => k (ds ++ es) env) vs σ H Q) :
    tL g W m σ H fun us H1 => tH rl g W k (vs ++ us) σ H1 Q := by
  obtain ⟨nn, F, ρ, env, S, ds, n, o, r, h⟩ := h
  refine ⟨nn, F, ρ, env, S, [], n, o, .nil, ?_⟩
  dsimp only [bnd] at h
  show Fin rLs g F W nn ρ H S _ (m env S)
  cases e : m env S with
  | ok d S1 =>
    rw [e] at h
    exact fun ρ' H' v x o' r' => ⟨nn, F, ρ', env, S1, ds ++ d, n.car (x.car o), o', (r.car (x.car o)).append r', Fin.ext x h⟩
  | ex e1 S1 =>
    rw [e] at h
    exact h
  | no =>
    rw [e] at h
    exact h
theorem tH.mono {Q Q' : β → Hp → Prop} {k : List D → Env → M α} (q : ∀ v H, Q v H → Q' v H) (h : tH rl g W k vs σ H Q) : tH rl g W k vs σ H Q' := by
  obtain ⟨nn, F, ρ, env, S, ds, n, o, r, h⟩ := h
  exact ⟨nn, F, ρ, env, S, ds, n, o, r, h.mono q⟩
end
theorem tH.cg {α β : Type} {rl : Rl α β} {g : Gx} {W : WX} {σ : L2.St} {H : Hp} {vs : List V} {Q : β → Hp → Prop} {k k' : List D → Env → M α} (e : ∀ ds env, ds.length = vs.length → k ds env = k' ds env) (h : tH rl g W k vs σ H Q) : tH rl g W k' vs σ H Q := by
  obtain ⟨nn, F, ρ, env, S, ds, n, o, r, h⟩ := h
  rw [e ds env r.length] at h
  exact ⟨nn, F, ρ, env, S, ds, n, o, r, h⟩
theorem tH.cg0 {α β : Type} {rl : Rl α β} {g : Gx} {W : WX} {σ : L2.St} {H : Hp} {Q : β → Hp → Prop} {k k' : List D → Env → M α} (e : ∀ env, k [] env = k' [] env) (h : tH rl g W k [] σ H Q) : tH rl g W k' [] σ H Q := by
  refine h.cg fun ds env hl => ?_
  have z : ds = [] := List.eq_nil_of_length_eq_zero hl
  rw [z]
  exact e env
theorem tH.cg1 {α β : Type} {rl : Rl α β} {g : Gx} {W : WX} {σ : L2.St} {H : Hp} {v : V} {Q : β → Hp → Prop} {k k' : List D → Env → M α} (e : ∀ d env, k [d] env = k' [d] env) (h : tH rl g W k [v] σ H Q) : tH rl g W k' [v] σ H Q := by
  refine h.cg fun ds env hl => ?_
  obtain ⟨d, z⟩ : ∃ d, ds = [d] := List.length_eq_one_iff.mp hl
  rw [z]
  exact e d env
/-! ### weakening -/
section
variable {X : Cx}
theorem wkE {e : Expr} {t u : TE} (h : PE X e t) (q : ∀ σ H Q, u σ H Q → t σ H Q) : PE X e u := ⟨fun pins s σ H Q I hw => h.run pins s σ H Q I (q σ H Q hw)⟩
theorem wkT {e : Expr} {t u : TT} (h : PT X e t) (q : ∀ σ H Q, u σ H Q → t σ H Q) : PT X e u := ⟨fun pins s σ H Q I hw => h.run pins s σ H Q I (q σ H Q hw)⟩
theorem wkW {e : Expr} {t u : TT} (h : PW X e t) (q : ∀ σ H Q, u σ H Q → t σ H Q) : PW X e u := ⟨fun wh pins s σ H Q I hw => h.run wh pins s σ H Q I (q σ H Q hw)⟩
theorem wkA {e : List Expr} {t u : TA} (h : PA X e t) (q : ∀ σ H Q, u σ H Q → t σ H Q) : PA X e u := ⟨fun p pins s σ H Q I hw => h.run p pins s σ H Q I (q σ H Q hw)⟩
theorem wkS {e : Stmt} {t u : TS} (h : PS X e t) (q : ∀ D σ H, u D σ H → t D σ H) : PS X e u := ⟨fun pins s σ H D I hw => h.run pins s σ H D I (q D σ H hw)⟩
theorem wkSs {e : List Stmt} {t u : TS} (h : PSs X e t) (q : ∀ D σ H, u D σ H → t D σ H) : PSs X e u := ⟨fun pins s σ H D I hw => h.run pins s σ H D I (q D σ H hw)⟩
end
/-! ### names and constants -/
def mVar (i : Nat) (env : Env) : M D := match env[i]? with
  | some (some d) => ret d
  | _ => noM
def mC (d : D) (_ : Env) : M D := ret d
section
variable {X : Cx} {g : Gx} {W : WX}
theorem var_ok {i : Nat} {σ : L2.St} {H : Hp} {Q : VK} (h : tE g W (mVar i) σ H Q) : tVar i σ H Q := by
  obtain ⟨nn, F, ρ, env, S, ds, n, o, r, h⟩ := h
  dsimp only [mVar] at h
  cases e : env[i]? with
  | none =>
    rw [e] at h
    exact h.elim
  | some u =>
    rw [e] at h
    cases u with
    | none => exact h.elim
    | some d =>
      obtain ⟨v, h1, h2⟩ := n.loc i d e
      exact ⟨v, h1, h ρ H v .refl o h2⟩
theorem se_var (i : Nat) {x : Str} {pos : Pos} (h : PE X (.Name x pos) (tVar i)) : PE X (.Name x pos) (tE g W (mVar i)) := wkE h fun _ _ _ q => var_ok q
theorem const_ok {v : V} {d : D} (r : ∀ H B ρ, Rep g H B ρ d v) {σ : L2.St} {H : Hp} {Q : VK} (h : tE g W (mC d) σ H Q) : tC v σ H Q := by
  obtain ⟨nn, F, ρ, env, S, ds, n, o, _, h⟩ := h
  exact h ρ H v .refl o (r _ _ _)
theorem se_int {i j pos} : PE X (.Constant (.int i) j pos) (tE g W (mC (.int i))) := wkE pe_int fun _ _ _ q => const_ok (fun _ _ _ => .int i) q
theorem se_bl {b j pos} : PE X (.Constant (.bool b) j pos) (tE g W (mC (.bl b))) := wkE pe_bl fun _ _ _ q => const_ok (fun _ _ _ => .bl b) q
theorem se_non {j pos} : PE X (.Constant .none j pos) (tE g W (mC .non)) := wkE pe_non fun _ _ _ q => const_ok (fun _ _ _ => .non) q
theorem se_str {x j pos} : PE X (.Constant (.str x) j pos) (tE g W (mC (.str x))) := wkE pe_str fun _ _ _ q => const_ok (fun _ _ _ => .str x) q
end
/-! ### arguments, operators -/
def mNil (_ : Env) : M (List D) := ret []
def mCons (m : Env → M D) (r : Env → M (List D)) (env : Env) : M (List D) := bnd (m env) fun d => bnd (r env) fun ds => ret (d :: ds)
section
variable {X : Cx} {g : Gx} {W : WX}
theorem sa_nil : PA X [] (tL g W mNil) := wkA pa_nil fun σ H Q h => by
  obtain ⟨nn, F, ρ, env, S, ds, n, o, r, h⟩ := h
  exact h ρ H [] .refl o .nil
theorem bnd_ret {α β : Type} (a : α) (k : α → M β) : bnd (ret a) k = k a := rfl
theorem bnd_assoc {α β γ : Type} (m : M α) (k : α → M β) (l : β → M γ) : bnd (bnd m k) l = bnd m fun a => bnd (k a) l := by
  funext S
  dsimp only [bnd]
  cases m S <;> rfl
theorem cons_ok {m : Env → M D} {r : Env → M (List D)} {σ : L2.St} {H : Hp} {Q : List V → Hp → Prop} (h : tL g W (mCons m r) σ H Q) : tCons (tE g W m) (tL g W r) σ H Q := by
  refine tH.mono (fun v H1 q => ?_) (push (k := fun ds env => bnd (r env) fun es => ret (ds ++ es)) (vs := []) (h.cg0 fun env => rfl))
  refine tH.mono (fun us H2 q => ?_) (pushL (k := fun ds _ => ret ds) q)
  obtain ⟨nn, F, ρ, env, S, ds, n, o, r, h⟩ := q
  exact h ρ H2 _ .refl o r
theorem sa_cons {e : Expr} {es : List Expr} {m : Env → M D} {r : Env → M (List D)} (ha : PE X e (tE g W m)) (hr : PA X es (tL g W r)) (hs : starEach (e :: es) X.env = (false, eval e X.env) :: starEach es X.env := by rfl) : PA X (e :: es) (tL g W (mCons m r)) :=
  wkA (pa_cons ha hr hs) fun _ _ _ h => cons_ok h
/-- f of two values -/
def m2 (f : D → D → M D) (a b : Env → M D) (env : Env) : M D := bnd (a env) fun x => bnd (b env) fun y => f x y
def m1 (f : D → M D) (a : Env → M D) (env : Env) : M D := bnd (a env) fun x => f x
/-- the rule r reads f -/
def Op2 (g : Gx) (W : WX) (f : D → D → M D) (r : R2) : Prop := ∀ (d e : D) (x y : V) (F ρ : List Addr) (H : Hp) (S : Sto) (nn : Nat) (Q : VK), Ok g F ρ H S → Rep g H (Bar F ρ S) ρ d x → Rep g H (Bar F ρ S) ρ e y →
  Fin rD g F W nn ρ H S Q (f d e S) → r x y H Q
def Op1 (g : Gx) (W : WX) (f : D → M D) (r : V → Hp → VK → Prop) : Prop := ∀ (d : D) (x : V) (F ρ : List Addr) (H : Hp) (S : Sto) (nn : Nat) (Q : VK), Ok g F ρ H S → Rep g H (Bar F ρ S) ρ d x →
  Fin rD g F W nn ρ H S Q (f d S) → r x H Q
theorem op2_ok {f : D → D → M D} {r : R2} (o : Op2 g W f r) {a b : Env → M D} {σ : L2.St} {H : Hp} {Q : VK} (h : tE g W (m2 f a b) σ H Q) : tOp r (tE g W a) (tE g W b) σ H Q := by
  refine tH.mono (fun v H1 q => ?_) (push (k := fun ds env => match ds with | [x] => bnd (b env) fun y => f x y | _ => noM) (vs := []) (h.cg0 fun env => rfl))
  refine tH.mono (fun u H2 q => ?_) (push (k := fun ds _ => match ds with | [x, y] => f x y | _ => noM) (vs := [v]) (q.cg1 fun d env => rfl))
  obtain ⟨nn, F, ρ, env, S, ds, n, ok, r, h⟩ := q
  cases r with
  | cons r1 r2 =>
    cases r2 with
    | cons r2 r3 =>
      cases r3
      exact o _ _ _ _ F ρ H2 S nn Q ok r1 r2 h
theorem op1_ok {f : D → M D} {r : V → Hp → VK → Prop} (o : Op1 g W f r) {a : Env → M D} {σ : L2.St} {H : Hp} {Q : VK} (h : tE g W (m1 f a) σ H Q) : tUn r (tE g W a) σ H Q := by
  refine tH.mono (fun v H1 q => ?_) (push (k := fun ds env => match ds with | [x] => f x | _ => noM) (vs := []) (h.cg0 fun env => rfl))
  obtain ⟨nn, F, ρ, env, S, ds, n, ok, r, h⟩ := q
  cases r with
  | cons r1 r2 =>
    cases r2
    exact o _ _ F ρ H1 S nn Q ok r1 h
end
/-! ### new objects -/
section
variable {g : Gx} {W : WX} {F ρ : List Addr} {H : Hp} {S : Sto} {nn : Nat} {Q : VK}
/-- a new tuple or frozen list at p -/
theorem ext_new {p : Addr} {o : HO} (ok : Ok g F ρ H S) (hp : H p = none) : Ext F ρ H S ρ (upd H p o) S :=
  ⟨fun q u h _ _ => by rw [upd_ne (ne_of_none h hp)]; exact h, fun q ⟨xs, h⟩ => ⟨xs, by
    rw [upd_ne (ne_of_none h hp)]
    exact h⟩, fun q h => .inl h, ⟨[], by simp⟩⟩
theorem Tabs.upd {T : List (Addr × Str)} {p : Addr} {o : HO} (t : LamX.Tabs T H) (hp : H p = none) : LamX.Tabs T (upd H p o) := t.ext fun b u h => by
  rw [upd_ne (ne_of_none h hp)]
  exact h
theorem ok_new {p : Addr} {o : HO} (ok : Ok g F ρ H S) (hp : H p = none) : Ok g F ρ (upd H p o) S := by
  have x := ext_new (o := o) ok hp
  refine ⟨ok.len, ok.nd, fun q hq => x.there q (ok.trk q hq), fun i ds h => ?_, fun q hq => ?_, Tabs.upd ok.tab hp⟩
  · obtain ⟨h0, q, vs, h1, h2, h3, h4⟩ := ok.sto i ds h
    exact ⟨h0, q, vs, h1, by rw [upd_ne (ne_of_none h2 hp)]; exact h2, h3.car (x.car ok), h4⟩
  · obtain ⟨xs, h⟩ := ok.fr q hq
    exact ⟨xs, by rw [upd_ne (ne_of_none h hp)]; exact h⟩
theorem not_bar {p : Addr} (ok : Ok g F ρ H S) (hp : H p = none) : ¬ Bar F ρ S p := fun b => by
  obtain ⟨xs, h⟩ := ok.lst b
  rw [hp] at h
  cases h
theorem fin_tup {ds : List D} {vs : List V} {p : Addr} (ok : Ok g F ρ H S) (hp : H p = none) (r : Reps g H (Bar F ρ S) ρ ds vs) (h : Fin rD g F W nn ρ H S Q (.ok (.tup ds) S)) : Q (.ref p) (upd H p (.tup vs)) := by
  have x := ext_new (o := .tup vs) ok hp
  exact h ρ _ _ x (ok_new ok hp) (.tup (SqT.of upd_same) (r.car (x.car ok)))
theorem fin_lst {ds : List D} {vs : List V} {p : Addr} (ok : Ok g F ρ H S) (hp : H p = none) (r : Reps g H (Bar F ρ S) ρ ds vs) (h : Fin rD g F W nn ρ H S Q (.ok (.lst ds) S)) : Q (.ref p) (upd H p (.lst vs)) := by
  have x := ext_new (o := .lst vs) ok hp
  refine h ρ _ _ x (ok_new ok hp) (.lst upd_same (fun b => ?_) (r.car (x.car ok)))
  exact not_bar ok hp b
theorem fin_same {d : D} {v : V} (ok : Ok g F ρ H S) (r : Rep g H (Bar F ρ S) ρ d v) (h : Fin rD g F W nn ρ H S Q (.ok d S)) : Q v H := h ρ H v .refl ok r
end
/-! ### the operators -/
/-- how great an int may be where it is multiplied: its bits -/
def sml (i : Int) (n : Nat) : Bool := Nat.blt i.natAbs.log2 n
def fAdd : D → D → M D
  | .int i, .int j => ret (.int (i + j))
  | .str x, .str y => if x.length + y.length ≤ sizeLine then ret (.str (x ++ y)) else noM
  | .lst xs, .lst ys => if xs.length + ys.length ≤ sizeLine then ret (.lst (xs ++ ys)) else noM
  | .tup xs, .tup ys => if xs.length + ys.length ≤ sizeLine then ret (.tup (xs ++ ys)) else noM
  | _, _ => noM
def fSub : D → D → M D
  | .int i, .int j => ret (.int (i - j))
  | _, _ => noM
def fMul : D → D → M D
  | .int i, .int j => if i.natAbs.log2 + j.natAbs.log2 < 134217720 then ret (.int (i * j)) else noM
  | .lst xs, .int k => if -(2 ^ 63) ≤ k ∧ k < 2 ^ 63 ∧ xs.length * k.toNat ≤ sizeLine then ret (.lst (List.replicate k.toNat xs).flatten) else noM
  | .tup xs, .int k => if D.isNil xs = false ∧ 2 ≤ k ∧ k ≤ 1000 ∧ xs.length ≤ 1000 then ret (.tup (List.replicate k.toNat xs).flatten) else noM
  | _, _ => noM
def fDiv : D → D → M D
  | .int i, .int j => if 0 < j ∧ j.natAbs.log2 < 9000 then ret (.int (i / j)) else noM
  | _, _ => noM
def fMod : D → D → M D
  | .int i, .int j => if 0 < j then ret (.int (i % j)) else noM
  | _, _ => noM
def fPow : D → D → M D
  | .int i, .int j => if 0 ≤ j ∧ j ≤ 1000000 ∧ i.natAbs < 2 ^ 64 then ret (.int (i ^ j.toNat)) else noM
  | _, _ => noM
def fNeg : D → M D
  | .int i => ret (.int (-i))
  | _ => noM
end Mir
set_option Elab.async false
set_option linter.all false
set_option maxRecDepth 100000
set_option maxHeartbeats 4000000
namespace Mir
open PySem PySem.Spec PyProof.Rows L2
section
variable {g : Gx} {F ρ : List Addr} {H : Hp} {B : Addr → Prop}
theorem Rep.inv_int {i : Int} {v : V} (r : Rep g H B ρ (.int i) v) : v = .int i := by cases r; rfl
theorem Rep.inv_bl {i : Bool} {v : V} (r : Rep g H B ρ (.bl i) v) : v = .bl i := by cases r; rfl
theorem Rep.inv_str {i : Str} {v : V} (r : Rep g H B ρ (.str i) v) : v = .str i := by cases r; rfl
theorem Rep.inv_tup {ds : List D} {v : V} (r : Rep g H B ρ (.tup ds) v) : ∃ p vs, v = .ref p ∧ SqT g.K H p vs ∧ Reps g H B ρ ds vs := by
  cases r with
  | tup h t => exact ⟨_, _, rfl, h, t⟩
theorem Rep.inv_lst {ds : List D} {v : V} (r : Rep g H B ρ (.lst ds) v) : ∃ p vs, v = .ref p ∧ H p = some (.lst vs) ∧ ¬ B p ∧ Reps g H B ρ ds vs := by
  cases r with
  | lst h n t => exact ⟨_, _, rfl, h, n, t⟩
theorem Reps.rep {ds : List D} {vs : List V} (r : Reps g H B ρ ds vs) : ∀ k : Nat, Reps g H B ρ (List.replicate k ds).flatten (List.replicate k vs).flatten
  | 0 => by simpa using Reps.nil
  | k + 1 => by
    rw [List.replicate_succ, List.replicate_succ, List.flatten_cons, List.flatten_cons]
    exact r.append (Reps.rep r k)
end
section
variable {X : Cx} {g : Gx} {W : WX}
theorem fin_no {α β : Type} {rl : Rl α β} {F ρ : List Addr} {H : Hp} {S : Sto} {nn : Nat} {Q : β → Hp → Prop} {P : Prop} (h : Fin rl g F W nn ρ H S Q .no) : P := h.elim
theorem ite_ret {α : Type} {c : Prop} [Decidable c] {a : M α} {S T : Sto} {β : Type} {rl : Rl α β} {F ρ : List Addr} {H : Hp} {nn : Nat} {Q : β → Hp → Prop} (h : Fin rl g F W nn ρ H S Q ((if c then a else noM) T)) : c ∧ Fin rl g F W nn ρ H S Q (a T) := by
  by_cases hc : c
  · rw [if_pos hc] at h
    exact ⟨hc, h⟩
  · rw [if_neg hc] at h
    exact h.elim
/-! ### + - * // % ** -/
theorem o_add : Op2 g W fAdd (fun x y H Q => rI0 (fun i j => .int (i + j)) x y H Q ∨ (∃ i j, x = .str i ∧ y = .str j ∧ i.length + j.length ≤ sizeLine ∧ Q (.str (i ++ j)) H) ∨ rCat x y H Q ∨ rCatA g.K x y H Q) := by
  intro d e x y F ρ H S nn Q ok r1 r2 h
  unfold fAdd at h
  split at h
  · rw [r1.inv_int, r2.inv_int]
    exact .inl ⟨_, _, rfl, rfl, fin_same ok (.int _) h⟩
  · obtain ⟨hc, h⟩ := ite_ret h
    rw [r1.inv_str, r2.inv_str]
    exact .inr (.inl ⟨_, _, rfl, rfl, hc, fin_same ok (.str _) h⟩)
  · obtain ⟨hc, h⟩ := ite_ret h
    obtain ⟨p, vs, rfl, hp, _, t⟩ := r1.inv_lst
    obtain ⟨q, us, rfl, hq, _, t2⟩ := r2.inv_lst
    exact .inr (.inr (.inl ⟨p, q, vs, us, rfl, rfl, hp, hq, by rw [← t.length, ← t2.length]; exact hc, fun a ha => fin_lst ok ha (t.append t2) h⟩))
  · obtain ⟨hc, h⟩ := ite_ret h
    rename_i xs ys
    obtain ⟨p, vs, rfl, hp, t⟩ := r1.inv_tup
    obtain ⟨q, us, rfl, hq, t2⟩ := r2.inv_tup
    refine .inr (.inr (.inr ⟨p, q, vs, us, rfl, rfl, hp, hq, by rw [← t.length, ← t2.length]; exact hc, fun z => ?_, fun _ z => ?_, fun _ _ a ha => fin_tup ok ha (t.append t2) h⟩))
    · subst z
      cases t
      exact fin_same ok r2 h
    · subst z
      cases t2
      rw [List.append_nil] at h
      exact fin_same ok r1 h
  · exact h.elim
theorem opr_add : OpR X (binaryOp .Add) (fun x y H Q => rI0 (fun i j => .int (i + j)) x y H Q ∨ (∃ i j, x = .str i ∧ y = .str j ∧ i.length + j.length ≤ sizeLine ∧ Q (.str (i ++ j)) H) ∨ rCat x y H Q ∨ rCatA X.K x y H Q) :=
  op_add.or (op_add_str.or (op_cat.or op_catA))
theorem se_add {a b : Expr} {pos : Pos} {ma mb : Env → M D} (hk : X.K = g.K) (ha : PE X a (tE g W ma)) (hb : PE X b (tE g W mb)) : PE X (.BinOp a .Add b pos) (tE g W (m2 fAdd ma mb)) :=
  wkE (pe_op opr_add ha hb) fun σ H Q h => op2_ok (by rw [hk]; exact o_add) h
theorem o_sub : Op2 g W fSub (rI0 fun i j => .int (i - j)) := by
  intro d e x y F ρ H S nn Q ok r1 r2 h
  unfold fSub at h
  split at h
  · rw [r1.inv_int, r2.inv_int]
    exact ⟨_, _, rfl, rfl, fin_same ok (.int _) h⟩
  · exact h.elim
theorem se_sub {a b : Expr} {pos : Pos} {ma mb : Env → M D} (ha : PE X a (tE g W ma)) (hb : PE X b (tE g W mb)) : PE X (.BinOp a .Sub b pos) (tE g W (m2 fSub ma mb)) :=
  wkE (pe_op op_sub ha hb) fun σ H Q h => op2_ok o_sub h
theorem o_div : Op2 g W fDiv (rI CDivW fun i j => .int (i / j)) := by
  intro d e x y F ρ H S nn Q ok r1 r2 h
  unfold fDiv at h
  split at h
  · obtain ⟨hc, h⟩ := ite_ret h
    rw [r1.inv_int, r2.inv_int]
    exact ⟨_, _, rfl, rfl, hc, fin_same ok (.int _) h⟩
  · exact h.elim
theorem se_div {a b : Expr} {pos : Pos} {ma mb : Env → M D} (ha : PE X a (tE g W ma)) (hb : PE X b (tE g W mb)) : PE X (.BinOp a .FloorDiv b pos) (tE g W (m2 fDiv ma mb)) :=
  wkE (pe_op op_fdivW ha hb) fun σ H Q h => op2_ok o_div h
theorem o_mod : Op2 g W fMod (rI (fun _ j => 0 < j) fun i j => .int (i % j)) := by
  intro d e x y F ρ H S nn Q ok r1 r2 h
  unfold fMod at h
  split at h
  · obtain ⟨hc, h⟩ := ite_ret h
    rw [r1.inv_int, r2.inv_int]
    exact ⟨_, _, rfl, rfl, hc, fin_same ok (.int _) h⟩
  · exact h.elim
theorem se_mod {a b : Expr} {pos : Pos} {ma mb : Env → M D} (ha : PE X a (tE g W ma)) (hb : PE X b (tE g W mb)) : PE X (.BinOp a .Mod b pos) (tE g W (m2 fMod ma mb)) :=
  wkE (pe_op op_mod ha hb) fun σ H Q h => op2_ok o_mod h
theorem o_pow : Op2 g W fPow (rI CPow fun i j => .int (i ^ j.toNat)) := by
  intro d e x y F ρ H S nn Q ok r1 r2 h
  unfold fPow at h
  split at h
  · obtain ⟨hc, h⟩ := ite_ret h
    rw [r1.inv_int, r2.inv_int]
    exact ⟨_, _, rfl, rfl, hc, fin_same ok (.int _) h⟩
  · exact h.elim
theorem se_pow {a b : Expr} {pos : Pos} {ma mb : Env → M D} (ha : PE X a (tE g W ma)) (hb : PE X b (tE g W mb)) : PE X (.BinOp a .Pow b pos) (tE g W (m2 fPow ma mb)) :=
  wkE (pe_op op_pow ha hb) fun σ H Q h => op2_ok o_pow h
theorem o_neg : Op1 g W fNeg (rU fun i => .int (-i)) := by
  intro d x F ρ H S nn Q ok r1 h
  unfold fNeg at h
  split at h
  · rw [r1.inv_int]
    exact ⟨_, rfl, fin_same ok (.int _) h⟩
  · exact h.elim
theorem se_neg {a : Expr} {pos : Pos} {ma : Env → M D} (ha : PE X a (tE g W ma)) : PE X (.UnaryOp .USub a pos) (tE g W (m1 fNeg ma)) :=
  wkE (pe_un un_neg ha) fun σ H Q h => op1_ok o_neg h
theorem mulX_of {i j : Int} (h : i.natAbs.log2 + j.natAbs.log2 < 134217720) : CMulX i j := by
  have b : ∀ x : Int, Builtin.Int.intBits x ≤ x.natAbs.log2 + 1 := fun x => by
    unfold Builtin.Int.intBits
    split <;> omega
  have h1 := b i
  have h2 := b j
  unfold CMulX
  omega
theorem o_mul : Op2 g W fMul (fun x y H Q => rI CMulX (fun i j => .int (i * j)) x y H Q ∨ rRep x y H Q ∨ rRepT g.K x y H Q) := by
  intro d e x y F ρ H S nn Q ok r1 r2 h
  unfold fMul at h
  split at h
  · obtain ⟨hc, h⟩ := ite_ret h
    rw [r1.inv_int, r2.inv_int]
    exact .inl ⟨_, _, rfl, rfl, mulX_of hc, fin_same ok (.int _) h⟩
  · obtain ⟨hc, h⟩ := ite_ret h
    obtain ⟨p, vs, rfl, hp, _, t⟩ := r1.inv_lst
    rw [r2.inv_int]
    exact .inr (.inl ⟨p, _, vs, rfl, rfl, hp, hc.1, hc.2.1, by rw [← t.length]; exact hc.2.2, fun a ha => fin_lst ok ha (t.rep _) h⟩)
  · obtain ⟨hc, h⟩ := ite_ret h
    obtain ⟨p, vs, rfl, hp, t⟩ := r1.inv_tup
    rw [r2.inv_int]
    refine .inr (.inr ⟨p, _, vs, rfl, rfl, hp, fun z => ?_, hc.2.1, hc.2.2.1, by rw [← t.length]; exact hc.2.2.2, fun a ha => fin_tup ok ha (t.rep _) h⟩)
    subst z
    cases t
    cases hc.1
  · exact h.elim
theorem se_mul {a b : Expr} {pos : Pos} {ma mb : Env → M D} (hk : X.K = g.K) (ha : PE X a (tE g W ma)) (hb : PE X b (tE g W mb)) : PE X (.BinOp a .Mult b pos) (tE g W (m2 fMul ma mb)) :=
  wkE (pe_op (op_mulX.or (op_rep.or op_repT)) ha hb) fun σ H Q h => op2_ok (by rw [hk]; exact o_mul) h
/-! ### comparisons -/
def cI (f : Int → Int → Bool) : D → D → M D
  | .int i, .int j => ret (.bl (f i j))
  | _, _ => noM
theorem o_cI {f : Int → Int → Bool} : Op2 g W (cI f) (rI0 fun i j => .bl (f i j)) := by
  intro d e x y F ρ H S nn Q ok r1 r2 h
  unfold cI at h
  split at h
  · rw [r1.inv_int, r2.inv_int]
    exact ⟨_, _, rfl, rfl, fin_same ok (.bl _) h⟩
  · exact h.elim
abbrev cLt := cI fun i j => decide (i < j)
abbrev cLe := cI fun i j => decide (i ≤ j)
abbrev cGt := cI fun i j => decide (j < i)
abbrev cGe := cI fun i j => decide (j ≤ i)
/-- a comparison by a rule -/
structure Cmp (X : Cx) (g : Gx) (W : WX) (op : CmpOp) (f : D → D → M D) : Prop where
  ex : ∃ r, OpR X (compareOp op) r ∧ Op2 g W f r
theorem cmp_lt : Cmp X g W .Lt cLt := ⟨_, op_lt, o_cI⟩
theorem cmp_le : Cmp X g W .LtE cLe := ⟨_, op_le, o_cI⟩
theorem cmp_gt : Cmp X g W .Gt cGt := ⟨_, op_gt, o_cI⟩
theorem cmp_ge : Cmp X g W .GtE cGe := ⟨_, op_ge, o_cI⟩
def asB : D → M Bool
  | .bl b => ret b
  | _ => noM
def mB (m : Env → M D) (env : Env) : M Bool := bnd (m env) asB
theorem b_ok {m : Env → M D} {σ : L2.St} {H : Hp} {Q : Bool → Hp → Prop} (h : tB g W (mB m) σ H Q) : tE g W m σ H fun x H' => ∃ k, x = .bl k ∧ Q k H' := by
  refine tH.mono (fun v H1 q => ?_) (push (k := fun ds env => match ds with | [x] => asB x | _ => noM) (vs := []) (h.cg0 fun env => rfl))
  obtain ⟨nn, F, ρ, env, S, ds, n, ok, r, h⟩ := q
  cases r with
  | cons r1 r2 =>
    cases r2
    rename_i d
    dsimp only at h
    cases d with
    | bl b =>
      rw [r1.inv_bl]
      exact ⟨_, rfl, h ρ H1 b .refl ok rfl⟩
    | _ => exact h.elim
theorem se_cmp {op : CmpOp} {f : D → D → M D} {a b : Expr} {pos : Pos} {ma mb : Env → M D} (c : Cmp X g W op f) (ha : PE X a (tE g W ma)) (hb : PE X b (tE g W mb)) (hm : behindInMarks op b = false := by first | exact nomark _ | rfl) : PE X (.Compare a [op] [b] pos) (tE g W (m2 f ma mb)) := by
  obtain ⟨r, h1, h2⟩ := c.ex
  exact wkE (pe_cmpR h1 ha hb hm) fun σ H Q h => op2_ok h2 h
theorem st_cmp {op : CmpOp} {f : D → D → M D} {a b : Expr} {pos : Pos} {ma mb : Env → M D} (c : Cmp X g W op f) (ha : PE X a (tE g W ma)) (hb : PE X b (tE g W mb)) (hm : behindInMarks op b = false := by first | exact nomark _ | rfl) : PT X (.Compare a [op] [b] pos) (tB g W (mB (m2 f ma mb))) := by
  obtain ⟨r, h1, h2⟩ := c.ex
  exact wkT (pt_cmpR h1 ha hb hm) fun σ H Q h => op2_ok h2 (b_ok h)
/-- a < b < c -/
def m3c (f f' : D → D → M D) (a b c : Env → M D) (env : Env) : M D := bnd (a env) fun x => bnd (b env) fun y => bnd (f x y) fun z => bnd (asB z) fun k => if k = true then bnd (c env) fun w => f' y w else ret (.bl false)
theorem chain_ok {f f' : D → D → M D} {r r' : R2} (o : Op2 g W f r) (o' : Op2 g W f' r') {a b c : Env → M D} {σ : L2.St} {H : Hp} {Q : VK} (h : tE g W (m3c f f' a b c) σ H Q) : tChain r r' (tE g W a) (tE g W b) (tE g W c) σ H Q := by
  refine tH.mono (fun v H1 q => ?_) (push (k := fun ds env => match ds with | [x] => bnd (b env) fun y => bnd (f x y) fun z => bnd (asB z) fun k => if k = true then bnd (c env) fun w => f' y w else ret (.bl false) | _ => noM) (vs := []) (h.cg0 fun env => rfl))
  refine tH.mono (fun u H2 q => ?_) (push (k := fun ds env => match ds with | [x, y] => bnd (f x y) fun z => bnd (asB z) fun k => if k = true then bnd (c env) fun w => f' y w else ret (.bl false) | _ => noM) (vs := [v]) (q.cg1 fun d env => rfl))
  obtain ⟨nn, F, ρ, env, S, ds, n, ok, r, h⟩ := q
  cases r with
  | cons r1 r2 =>
    cases r2 with
    | cons r2 r3 =>
      cases r3
      rename_i d e
      refine o d e v u F ρ H2 S nn _ ok r1 r2 ?_
      dsimp only [bnd] at h
      cases hf : f d e S with
      | no =>
        rw [hf] at h
        exact h.elim
      | ex e1 S1 =>
        rw [hf] at h
        exact h
      | ok z S1 =>
        rw [hf] at h
        intro ρ' H3 zv x ok' rz
        cases z with
        | bl k =>
          refine ⟨k, rz.inv_bl, ?_⟩
          cases k with
          | false => exact h ρ' H3 _ x ok' (.bl false)
          | true =>
            have h2 : Fin rD g F W nn ρ H2 S Q (bnd (c env) (fun w => f' e w) S1) := h
            have t : tH rD g W (fun ds env => match ds with | [y] => bnd (c env) fun w => f' y w | _ => noM) [u] σ H3 Q := ⟨nn, F, ρ', env, S1, [e], n.car (x.car ok), ok', .one (r2.car (x.car ok)), Fin.ext x h2⟩
            refine tH.mono (fun w' H4 q => ?_) (push (k := fun ds env => match ds with | [y, w] => f' y w | _ => noM) (vs := [u]) (t.cg1 fun d env => rfl))
            obtain ⟨nn, F, ρ, env, S, ds, n, ok, r, h⟩ := q
            cases r with
            | cons r1 r2 =>
              cases r2 with
              | cons r2 r3 =>
                cases r3
                exact o' _ _ _ _ F ρ H4 S nn Q ok r1 r2 h
        | _ => exact h.elim
theorem se_chain {op op' : CmpOp} {f f' : D → D → M D} {a b c : Expr} {pos : Pos} {ma mb mc : Env → M D} (c1 : Cmp X g W op f) (c2 : Cmp X g W op' f') (ha : PE X a (tE g W ma)) (hb : PE X b (tE g W mb)) (hc : PE X c (tE g W mc)) (hm : lastMarks [op, op'] [b, c] = false := by with_unfolding_all rfl) : PE X (.Compare a [op, op'] [b, c] pos) (tE g W (m3c f f' ma mb mc)) := by
  obtain ⟨r, h1, h2⟩ := c1.ex
  obtain ⟨r', h1', h2'⟩ := c2.ex
  exact wkE (pe_chain h1 h1' ha hb hc (by assumption)) fun σ H Q h => chain_ok h2 h2' h
theorem st_chain {op op' : CmpOp} {f f' : D → D → M D} {a b c : Expr} {pos : Pos} {ma mb mc : Env → M D} (c1 : Cmp X g W op f) (c2 : Cmp X g W op' f') (ha : PE X a (tE g W ma)) (hb : PE X b (tE g W mb)) (hc : PE X c (tE g W mc)) (hm : lastMarks [op, op'] [b, c] = false := by with_unfolding_all rfl) : PT X (.Compare a [op, op'] [b, c] pos) (tB g W (mB (m3c f f' ma mb mc))) := by
  obtain ⟨r, h1, h2⟩ := c1.ex
  obtain ⟨r', h1', h2'⟩ := c2.ex
  exact wkT (pt_chain h1 h1' ha hb hc (by assumption)) fun σ H Q h => chain_ok h2 h2' (b_ok h)
/-! ### is None -/
def isNon : D → Bool
  | .non => true
  | _ => false
def fIsN (neg : Bool) : D → D → M D
  | x, .non => ret (.bl (if neg then !isNon x else isNon x))
  | _, _ => noM
theorem Rep.isNon {d : D} {v : V} {H : Hp} {B : Addr → Prop} {ρ : List Addr} (r : Rep g H B ρ d v) : decide (v = .non) = isNon d := by
  cases r <;> rfl
theorem o_isN : Op2 g W (fIsN false) (fun x y H Q => y = .non ∧ Q (.bl (decide (x = .non))) H) := by
  intro d e x y F ρ H S nn Q ok r1 r2 h
  cases e with
  | non =>
    cases r2
    refine ⟨rfl, ?_⟩
    rw [r1.isNon]
    have h2 : Fin rD g F W nn ρ H S Q (.ok (.bl (isNon d)) S) := by
      unfold fIsN at h
      exact h
    exact fin_same ok (.bl _) h2
  | _ =>
    unfold fIsN at h
    exact h.elim
theorem o_notN : Op2 g W (fIsN true) (fun x y H Q => y = .non ∧ Q (.bl (!decide (x = .non))) H) := by
  intro d e x y F ρ H S nn Q ok r1 r2 h
  cases e with
  | non =>
    cases r2
    refine ⟨rfl, ?_⟩
    rw [r1.isNon]
    have h2 : Fin rD g F W nn ρ H S Q (.ok (.bl (!isNon d)) S) := by
      unfold fIsN at h
      exact h
    exact fin_same ok (.bl _) h2
  | _ =>
    unfold fIsN at h
    exact h.elim
theorem cmp_is : Cmp X g W .Is (fIsN false) := ⟨_, op_isN, o_isN⟩
theorem cmp_isnot : Cmp X g W .IsNot (fIsN true) := ⟨_, op_notN, o_notN⟩
end
/-! ### == -/
mutual
def pur : D → Bool
  | .tup ds => purs ds
  | .lst ds => purs ds
  | .non => true
  | .bl _ => true
  | .int _ => true
  | .str _ => true
  | _ => false
def purs : List D → Bool
  | [] => true
  | d :: r => pur d && purs r
end
mutual
def toP : D → PyData
  | .tup ds => .tuple (toPs ds)
  | .lst ds => .list (toPs ds)
  | .non => .none
  | .bl b => .bool b
  | .int i => .int i
  | .str x => .str x
  | _ => .none
def toPs : List D → List PyData
  | [] => []
  | d :: r => toP d :: toPs r
end
def eqs (d : D) : Bool := pur d && SeqAt.shaped (toP d)
section
variable {g : Gx} {H : Hp} {B : Addr → Prop} {ρ : List Addr}
mutual
theorem Rep.dp : ∀ {d : D} {v : V}, Rep g H B ρ d v → pur d = true → Dp g.K H v (toP d)
  | _, _, .non, _ => .non
  | _, _, .bl b, _ => .bl b
  | _, _, .int i, _ => .int i
  | _, _, .str x, _ => .str x
  | _, _, .tup h t, p => .tup h (Reps.dp t (by simpa only [pur] using p))
  | _, _, .lst h n t, p => .lst (SqL.of h) (Reps.dp t (by simpa only [pur] using p))
  | .ty _, _, _, p => by simp [pur] at p
  | .glo _, _, _, p => by simp [pur] at p
  | .ref _, _, _, p => by simp [pur] at p
  | .scr _, _, _, p => by simp [pur] at p
theorem Reps.dp : ∀ {ds : List D} {vs : List V}, Reps g H B ρ ds vs → purs ds = true → DpAll g.K H vs (toPs ds)
  | _, _, .nil, _ => .nil
  | _, _, .cons r t, p => by
    simp only [purs, Bool.and_eq_true] at p
    exact .cons (Rep.dp r p.1) (Reps.dp t p.2)
end
end
def fEq (neg : Bool) (d e : D) : M D := if eqs d = true ∧ eqs e = true then ret (.bl (if neg then !PyData.eqv (toP d) (toP e) else PyData.eqv (toP d) (toP e))) else noM
section
variable {X : Cx} {g : Gx} {W : WX}
theorem o_eq : Op2 g W (fEq false) (rEqD g.K) := by
  intro d e x y F ρ H S nn Q ok r1 r2 h
  obtain ⟨⟨h1, h2⟩, h⟩ := ite_ret h
  obtain ⟨p1, s1⟩ := Bool.and_eq_true_iff.mp h1
  obtain ⟨p2, s2⟩ := Bool.and_eq_true_iff.mp h2
  exact ⟨_, _, r1.dp p1, r2.dp p2, s1, s2, fin_same ok (.bl _) h⟩
theorem o_ne : Op2 g W (fEq true) (rNeD g.K) := by
  intro d e x y F ρ H S nn Q ok r1 r2 h
  obtain ⟨⟨h1, h2⟩, h⟩ := ite_ret h
  obtain ⟨p1, s1⟩ := Bool.and_eq_true_iff.mp h1
  obtain ⟨p2, s2⟩ := Bool.and_eq_true_iff.mp h2
  exact ⟨_, _, r1.dp p1, r2.dp p2, s1, s2, fin_same ok (.bl _) h⟩
theorem cmp_eq (hk : X.K = g.K) (hu : X.A.units + 64 < cLine) : Cmp X g W .Eq (fEq false) := ⟨_, op_eqD hu, by rw [hk]; exact o_eq⟩
theorem cmp_ne (hk : X.K = g.K) (hu : X.A.units + 64 < cLine) : Cmp X g W .NotEq (fEq true) := ⟨_, op_neD hu, by rw [hk]; exact o_ne⟩
/-! ### in -/
def flatD : D → Bool
  | .non => true
  | .bl _ => true
  | .int _ => true
  | .str _ => true
  | _ => false
def vD : D → V
  | .bl b => .bl b
  | .int i => .int i
  | .str x => .str x
  | _ => .non
theorem Rep.flat {d : D} {v : V} {H : Hp} {B : Addr → Prop} {ρ : List Addr} (r : Rep g H B ρ d v) (f : flatD d = true) : v = vD d ∧ flatV v = true := by
  cases r <;> first | exact ⟨rfl, rfl⟩ | cases f
theorem Reps.flat {H : Hp} {B : Addr → Prop} {ρ : List Addr} : ∀ {ds : List D} {vs : List V}, Reps g H B ρ ds vs → ds.all flatD = true → vs = ds.map vD ∧ vs.all flatV = true
  | _, _, .nil, _ => ⟨rfl, rfl⟩
  | _, _, .cons r t, f => by
    simp only [List.all_cons, Bool.and_eq_true] at f
    obtain ⟨e1, f1⟩ := Rep.flat r f.1
    obtain ⟨e2, f2⟩ := Reps.flat t f.2
    exact ⟨by rw [List.map_cons, ← e1, ← e2], by rw [List.all_cons, f1, f2]; rfl⟩
def fIn (neg : Bool) : D → D → M D
  | x, .tup ds => if flatD x = true ∧ ds.all flatD = true then ret (.bl (if neg then !inV (vD x) (ds.map vD) else inV (vD x) (ds.map vD))) else noM
  | x, .lst ds => if flatD x = true ∧ ds.all flatD = true then ret (.bl (if neg then !inV (vD x) (ds.map vD) else inV (vD x) (ds.map vD))) else noM
  | _, _ => noM
theorem o_in (neg : Bool) : Op2 g W (fIn neg) (rIn g.K neg) := by
  intro d e x y F ρ H S nn Q ok r1 r2 h
  cases e with
  | tup ds =>
    obtain ⟨⟨h1, h2⟩, h⟩ := ite_ret (c := flatD d = true ∧ ds.all flatD = true) h
    obtain ⟨p, vs, rfl, hp, t⟩ := r2.inv_tup
    obtain ⟨e1, f1⟩ := r1.flat h1
    obtain ⟨e2, f2⟩ := t.flat h2
    refine ⟨p, vs, rfl, .inr hp, f1, f2, ?_⟩
    rw [e1, e2]
    exact fin_same ok (.bl _) h
  | lst ds =>
    obtain ⟨⟨h1, h2⟩, h⟩ := ite_ret (c := flatD d = true ∧ ds.all flatD = true) h
    obtain ⟨p, vs, rfl, hp, _, t⟩ := r2.inv_lst
    obtain ⟨e1, f1⟩ := r1.flat h1
    obtain ⟨e2, f2⟩ := t.flat h2
    refine ⟨p, vs, rfl, .inl (SqL.of hp), f1, f2, ?_⟩
    rw [e1, e2]
    exact fin_same ok (.bl _) h
  | _ => exact h.elim
theorem cmp_in (hk : X.K = g.K) : Cmp X g W .In (fIn false) := ⟨_, op_in_seq, by rw [hk]; exact o_in false⟩
theorem cmp_notin (hk : X.K = g.K) : Cmp X g W .NotIn (fIn true) := ⟨_, op_notIn_seq, by rw [hk]; exact o_in true⟩
/-! ### and, or, not -/
def mAnd (a b : Env → M Bool) (env : Env) : M Bool := bnd (a env) fun k => if k = true then b env else ret false
def mOr (a b : Env → M Bool) (env : Env) : M Bool := bnd (a env) fun k => if k = true then ret true else b env
def mNot (a : Env → M Bool) (env : Env) : M Bool := bnd (a env) fun k => ret (!k)
theorem tB_ret {b : Bool} {σ : L2.St} {H : Hp} {Q : Bool → Hp → Prop} (h : tB g W (fun _ => ret b) σ H Q) : Q b H := by
  obtain ⟨nn, F, ρ, env, S, ds, n, ok, r, h⟩ := h
  exact h ρ H b .refl ok rfl
theorem and_ok {a b : Env → M Bool} {σ : L2.St} {H : Hp} {Q : Bool → Hp → Prop} (h : tB g W (mAnd a b) σ H Q) : tAnd (tB g W a) (tB g W b) σ H Q := by
  refine tH.mono (fun k H1 q => ?_) (pushT (k := fun k _ env => if k = true then b env else ret false) (vs := []) (h.cg0 fun env => rfl))
  cases k with
  | true => exact q
  | false => exact tB_ret q
theorem or_ok {a b : Env → M Bool} {σ : L2.St} {H : Hp} {Q : Bool → Hp → Prop} (h : tB g W (mOr a b) σ H Q) : tOr (tB g W a) (tB g W b) σ H Q := by
  refine tH.mono (fun k H1 q => ?_) (pushT (k := fun k _ env => if k = true then ret true else b env) (vs := []) (h.cg0 fun env => rfl))
  cases k with
  | true => exact tB_ret q
  | false => exact q
theorem not_ok {a : Env → M Bool} {σ : L2.St} {H : Hp} {Q : Bool → Hp → Prop} (h : tB g W (mNot a) σ H Q) : tNot (tB g W a) σ H Q := by
  refine tH.mono (fun k H1 q => ?_) (pushT (k := fun k _ _ => ret (!k)) (vs := []) (h.cg0 fun env => rfl))
  exact tB_ret q
section
variable {a b : Expr} {rest : List Expr} {pos : Pos} {ma mb : Env → M Bool}
theorem sw_and1 (ha : PT X a (tB g W ma)) : PW X (.BoolOp .And [a] pos) (tB g W ma) := pw_and1 ha
theorem sw_or1 (ha : PT X a (tB g W ma)) : PW X (.BoolOp .Or [a] pos) (tB g W ma) := pw_or1 ha
theorem sw_and (ha : PT X a (tB g W ma)) (hb : PW X (.BoolOp .And (b :: rest) pos) (tB g W mb)) : PW X (.BoolOp .And (a :: b :: rest) pos) (tB g W (mAnd ma mb)) := wkW (pw_and ha hb) fun _ _ _ h => and_ok h
theorem sw_or (ha : PT X a (tB g W ma)) (hb : PW X (.BoolOp .Or (b :: rest) pos) (tB g W mb)) : PW X (.BoolOp .Or (a :: b :: rest) pos) (tB g W (mOr ma mb)) := wkW (pw_or ha hb) fun _ _ _ h => or_ok h
theorem st_not (ha : PT X a (tB g W ma)) : PT X (.UnaryOp .Not a pos) (tB g W (mNot ma)) := wkT (pt_not ha) fun _ _ _ h => not_ok h
end
/-- as values: all but the last are True or False -/
def mAndV (a b : Env → M D) (env : Env) : M D := bnd (a env) fun x => bnd (asB x) fun k => if k = true then b env else ret (.bl false)
def mOrV (a b : Env → M D) (env : Env) : M D := bnd (a env) fun x => bnd (asB x) fun k => if k = true then ret (.bl true) else b env
def fNot : D → M D
  | .bl b => ret (.bl (!b))
  | _ => noM
theorem tE_ret {d : D} {v : V} {σ : L2.St} {H : Hp} {Q : VK} (r : ∀ H B ρ, Rep g H B ρ d v) (h : tE g W (fun _ => ret d) σ H Q) : Q v H := by
  obtain ⟨nn, F, ρ, env, S, ds, n, ok, _, h⟩ := h
  exact h ρ H v .refl ok (r _ _ _)
theorem andV_ok {a b : Env → M D} {σ : L2.St} {H : Hp} {Q : VK} (h : tE g W (mAndV a b) σ H Q) : tAndV (tE g W a) (tE g W b) σ H Q := by
  refine tH.mono (fun v H1 q => ?_) (push (k := fun ds env => match ds with | [x] => bnd (asB x) fun k => if k = true then b env else ret (.bl false) | _ => noM) (vs := []) (h.cg0 fun env => rfl))
  obtain ⟨nn, F, ρ, env, S, ds, n, ok, r, h⟩ := q
  cases r with
  | cons r1 r2 =>
    cases r2
    rename_i d
    dsimp only [bnd] at h
    cases d with
    | bl k =>
      refine ⟨k, r1.inv_bl, ?_⟩
      cases k with
      | true => exact ⟨nn, F, ρ, env, S, [], n, ok, .nil, h⟩
      | false => exact fin_same ok (.bl false) h
    | _ => exact h.elim
theorem orV_ok {a b : Env → M D} {σ : L2.St} {H : Hp} {Q : VK} (h : tE g W (mOrV a b) σ H Q) : tOrV (tE g W a) (tE g W b) σ H Q := by
  refine tH.mono (fun v H1 q => ?_) (push (k := fun ds env => match ds with | [x] => bnd (asB x) fun k => if k = true then ret (.bl true) else b env | _ => noM) (vs := []) (h.cg0 fun env => rfl))
  obtain ⟨nn, F, ρ, env, S, ds, n, ok, r, h⟩ := q
  cases r with
  | cons r1 r2 =>
    cases r2
    rename_i d
    dsimp only [bnd] at h
    cases d with
    | bl k =>
      refine ⟨k, r1.inv_bl, ?_⟩
      cases k with
      | true => exact fin_same ok (.bl true) h
      | false => exact ⟨nn, F, ρ, env, S, [], n, ok, .nil, h⟩
    | _ => exact h.elim
section
variable {a b : Expr} {rest : List Expr} {pos : Pos} {ma mb : Env → M D} {op : BoolOp}
theorem se_one (ha : PE X a (tE g W ma)) : PE X (.BoolOp op [a] pos) (tE g W ma) := pe_one ha
theorem se_and (ha : PE X a (tE g W ma)) (hb : PE X (.BoolOp .And (b :: rest) pos) (tE g W mb)) : PE X (.BoolOp .And (a :: b :: rest) pos) (tE g W (mAndV ma mb)) := wkE (pe_and ha hb) fun _ _ _ h => andV_ok h
theorem se_or (ha : PE X a (tE g W ma)) (hb : PE X (.BoolOp .Or (b :: rest) pos) (tE g W mb)) : PE X (.BoolOp .Or (a :: b :: rest) pos) (tE g W (mOrV ma mb)) := wkE (pe_or ha hb) fun _ _ _ h => orV_ok h
theorem se_not (ha : PE X a (tE g W ma)) : PE X (.UnaryOp .Not a pos) (tE g W (m1 fNot ma)) := wkE (pe_not ha) fun σ H Q h => by
  refine op1_ok (r := fun x H1 Q => ∃ c, x = .bl c ∧ Q (.bl (!c)) H1) (fun d x F ρ H S nn Q ok r1 h => ?_) h
  cases d with
  | bl k => exact ⟨k, r1.inv_bl, fin_same ok (.bl _) h⟩
  | _ => exact h.elim
end
/-- a if t else b -/
def mIf (c : Env → M Bool) (a b : Env → M D) (env : Env) : M D := bnd (c env) fun k => if k = true then a env else b env
theorem se_if {c a b : Expr} {pos : Pos} {mc : Env → M Bool} {ma mb : Env → M D} (hc : PT X c (tB g W mc)) (ha : PE X a (tE g W ma)) (hb : PE X b (tE g W mb)) : PE X (.IfExp c a b pos) (tE g W (mIf mc ma mb)) := wkE (pe_ifExp hc ha hb) fun σ H Q h => by
  refine tH.mono (fun k H1 q => ?_) (pushT (k := fun k _ env => if k = true then ma env else mb env) (vs := []) (h.cg0 fun env => rfl))
  cases k with
  | true => exact q
  | false => exact q
/-- any other expression as a test -/
def trD : D → M Bool
  | .non => ret false
  | .bl b => ret b
  | .int i => ret (i != 0)
  | .str x => if x.length ≤ sizeLine then ret ((x.length : Int) != 0) else noM
  | .tup ds => ret (!ds.isEmpty)
  | .lst ds => ret (!ds.isEmpty)
  | _ => noM
def mTru (m : Env → M D) (env : Env) : M Bool := bnd (m env) trD
theorem Reps.isEmpty {H : Hp} {B : Addr → Prop} {ρ : List Addr} {ds : List D} {vs : List V} (r : Reps g H B ρ ds vs) : vs.isEmpty = ds.isEmpty := by cases r <;> rfl
theorem tru_rep {d : D} {v : V} {F ρ : List Addr} {H : Hp} {S : Sto} {nn : Nat} {Q : Bool → Hp → Prop} (ok : Ok g F ρ H S) (r : Rep g H (Bar F ρ S) ρ d v) (h : Fin rBo g F W nn ρ H S Q (trD d S)) : ∃ k, TruV g.K v H k ∧ Q k H := by
  have fin : ∀ k, Fin rBo g F W nn ρ H S Q (.ok k S) → Q k H := fun k h => h ρ H k .refl ok rfl
  cases r with
  | non => exact ⟨_, rfl, fin _ h⟩
  | bl b => exact ⟨_, rfl, fin _ h⟩
  | int i => exact ⟨_, rfl, fin _ h⟩
  | str x =>
    obtain ⟨hc, h⟩ := ite_ret (c := x.length ≤ sizeLine) h
    exact ⟨_, ⟨hc, rfl⟩, fin _ h⟩
  | tup hp t => exact ⟨_, .inr (.inl ⟨_, hp, by rw [t.isEmpty]⟩), fin _ h⟩
  | lst hp n t => exact ⟨_, .inl ⟨_, SqL.of hp, by rw [t.isEmpty]⟩, fin _ h⟩
  | _ => exact h.elim
theorem st_tru {a : Expr} {ma : Env → M D} (hk : X.K = g.K) (ha : PE X a (tE g W ma)) (he : ∀ whole, isTrue a X.env whole = (do let v ← whole; standAt a.pos; holding [v] (truthy v)) := by intro _; rfl) : PT X a (tB g W (mTru ma)) := wkT (pt_truth ha he) fun σ H Q h => by
  refine tH.mono (fun v H1 q => ?_) (push (k := fun ds env => match ds with | [x] => trD x | _ => noM) (vs := []) (h.cg0 fun env => rfl))
  obtain ⟨nn, F, ρ, env, S, ds, n, ok, r, h⟩ := q
  cases r with
  | cons r1 r2 =>
    cases r2
    rw [hk]
    exact tru_rep ok r1 h
end
end Mir
set_option Elab.async false
set_option linter.all false
set_option maxRecDepth 100000
set_option maxHeartbeats 4000000
namespace Mir
open PySem PySem.Spec PyProof.Rows L2
/-! ### an item, a slice -/
def getO {α : Type} : Option α → M α
  | some a => ret a
  | none => noM
/-- what a handle's list holds now -/
def rdS (k : Nat) : M (List D) := fun S => match S[k]? with
  | some (some ds) => .ok ds S
  | _ => .no
def fIx : D → D → M D
  | .tup ds, .int i => getO (atI ds i)
  | .lst ds, .int i => getO (atI ds i)
  | .ref k, .int i => bnd (rdS k) fun ds => getO (atI ds i)
  | .str z, .int i => if z.length ≤ sizeLine then bnd (getO (atI z.cps.toList i)) fun c => ret (.str ⟨#[c]⟩) else noM
  | _, _ => noM
section
variable {g : Gx} {F ρ : List Addr} {H : Hp} {B : Addr → Prop} {S : Sto}
theorem Reps.atI {ds : List D} {vs : List V} {i : Int} {d : D} (r : Reps g H B ρ ds vs) (h : atI ds i = some d) : ∃ v, L2.atI vs i = some v ∧ Rep g H B ρ d v := by
  unfold L2.atI at h ⊢
  rw [r.length] at h
  cases e : ixN vs.length i with
  | none =>
    rw [e] at h
    cases h
  | some j =>
    rw [e] at h
    exact r.get (show ds[j]? = some d from h)
/-- a handle's list -/
theorem Ok.rd (ok : Ok g F ρ H S) {k : Nat} {p : Addr} {ds : List D} (hk : ρ[k]? = some p) (hs : S[k]? = some (some ds)) : ∃ vs, H p = some (.lst vs) ∧ Reps g H (Bar F ρ S) ρ ds vs ∧ nrs ds = true := by
  obtain ⟨n, q, vs, h1, h2, h3, _⟩ := ok.sto k ds hs
  rw [hk] at h1
  cases h1
  exact ⟨vs, h2, h3, n⟩
theorem Rep.inv_ref {k : Nat} {v : V} (r : Rep g H B ρ (.ref k) v) : ∃ p, v = .ref p ∧ ρ[k]? = some p := by
  cases r with
  | ref h => exact ⟨_, rfl, h⟩
theorem rdS_ok {W : WX} {nn : Nat} {α β : Type} {rl : Rl α β} {Q : β → Hp → Prop} {k : Nat} {f : List D → M α} (h : Fin rl g F W nn ρ H S Q (bnd (rdS k) f S)) : ∃ ds, S[k]? = some (some ds) ∧ Fin rl g F W nn ρ H S Q (f ds S) := by
  unfold bnd rdS at h
  cases e : S[k]? with
  | none =>
    rw [e] at h
    exact h.elim
  | some u =>
    rw [e] at h
    cases u with
    | none => exact h.elim
    | some ds => exact ⟨ds, rfl, h⟩
theorem getO_ok {W : WX} {nn : Nat} {α α' β : Type} {rl : Rl α β} {Q : β → Hp → Prop} {o : Option α'} {f : α' → M α} (h : Fin rl g F W nn ρ H S Q (bnd (getO o) f S)) : ∃ a, o = some a ∧ Fin rl g F W nn ρ H S Q (f a S) := by
  cases o with
  | none => exact h.elim
  | some a => exact ⟨a, rfl, h⟩
end
theorem getO_one {g : Gx} {F ρ : List Addr} {H : Hp} {S : Sto} {W : WX} {nn : Nat} {α' β : Type} {rl : Rl α' β} {Q : β → Hp → Prop} {o : Option α'} (h : Fin rl g F W nn ρ H S Q (getO o S)) : ∃ a, o = some a ∧ Fin rl g F W nn ρ H S Q (.ok a S) := by
  cases o with
  | none => exact h.elim
  | some a => exact ⟨a, rfl, h⟩
section
variable {X : Cx} {g : Gx} {W : WX}
theorem o_ix : Op2 g W fIx (rIx g.K) := by
  intro d e x y F ρ H S nn Q ok r1 r2 h
  unfold fIx at h
  split at h
  · obtain ⟨a, e1, h⟩ := getO_one h
    obtain ⟨p, vs, rfl, hp, t⟩ := r1.inv_tup
    obtain ⟨v, h1, r⟩ := t.atI e1
    rw [r2.inv_int]
    exact .inr (.inl ⟨p, vs, _, v, rfl, rfl, hp, h1, fin_same ok r h⟩)
  · obtain ⟨a, e1, h⟩ := getO_one h
    obtain ⟨p, vs, rfl, hp, _, t⟩ := r1.inv_lst
    obtain ⟨v, h1, r⟩ := t.atI e1
    rw [r2.inv_int]
    exact .inl ⟨p, vs, _, v, rfl, rfl, SqL.of hp, h1, fin_same ok r h⟩
  · obtain ⟨ds, e0, h⟩ := rdS_ok h
    obtain ⟨a, e1, h⟩ := getO_one h
    obtain ⟨p, rfl, hk⟩ := r1.inv_ref
    obtain ⟨vs, hp, t, _⟩ := ok.rd hk e0
    obtain ⟨v, h1, r⟩ := t.atI e1
    rw [r2.inv_int]
    exact .inl ⟨p, vs, _, v, rfl, rfl, SqL.of hp, h1, fin_same ok r h⟩
  · obtain ⟨hc, h⟩ := ite_ret h
    obtain ⟨c, e1, h⟩ := getO_ok h
    rw [r1.inv_str, r2.inv_int]
    exact .inr (.inr ⟨_, _, c, rfl, rfl, hc, e1, fin_same ok (.str _) h⟩)
  · exact h.elim
theorem se_ix {a b : Expr} {pos : Pos} {ma mb : Env → M D} (hk : X.K = g.K) (ha : PE X a (tE g W ma)) (hb : PE X b (tE g W mb)) (hs : PlainIx b := by intro _ _; rfl) : PE X (.Subscript a b pos) (tE g W (m2 fIx ma mb)) :=
  wkE (pe_ix ix_seq ha hb hs) fun σ H Q h => op2_ok (by rw [hk]; exact o_ix) h
/-- a slice's part -/
abbrev rO : Rl (Option Int) (Option Int) := fun _ _ _ _ _ a b => b = a
def mNone (_ : Env) : M (Option Int) := ret none
def asI : D → M Int
  | .int i => ret i
  | _ => noM
def mSome (m : Env → M D) (env : Env) : M (Option Int) := bnd (m env) fun d => bnd (asI d) fun i => ret (some i)
abbrev tO (g : Gx) (W : WX) (m : Env → M (Option Int)) : TO := tH rO g W (fun _ => m) []
theorem wkO {e : Option Expr} {t u : TO} (h : PO X e t) (q : ∀ σ H Q, u σ H Q → t σ H Q) : PO X e u := ⟨fun pins s σ H Q I hw => h.run pins s σ H Q I (q σ H Q hw)⟩
theorem so_none : PO X none (tO g W mNone) := wkO po_none fun σ H Q h => by
  obtain ⟨nn, F, ρ, env, S, ds, n, ok, r, h⟩ := h
  exact h ρ H _ .refl ok rfl
theorem so_some {e : Expr} {m : Env → M D} (he : PE X e (tE g W m)) : PO X (some e) (tO g W (mSome m)) := wkO (po_some he) fun σ H Q h => by
  refine tH.mono (fun v H1 q => ?_) (push (k := fun ds env => match ds with | [d] => bnd (asI d) fun i => ret (some i) | _ => noM) (vs := []) (h.cg0 fun env => rfl))
  obtain ⟨nn, F, ρ, env, S, ds, n, ok, r, h⟩ := q
  cases r with
  | cons r1 r2 =>
    cases r2
    rename_i d
    cases d with
    | int i => exact ⟨i, r1.inv_int, h ρ H1 _ .refl ok rfl⟩
    | _ => exact h.elim
/-- where a part that gives no datum comes in between -/
theorem pushO {α β : Type} {rl : Rl α β} {σ : L2.St} {H : Hp} {vs : List V} {Q : β → Hp → Prop} {m : Env → M (Option Int)} {k : Option Int → List D → Env → M α} (h : tH rl g W (fun ds env => bnd (m env) fun o => k o ds env) vs σ H Q) :
    tO g W m σ H fun o H1 => tH rl g W (k o) vs σ H1 Q := by
  obtain ⟨nn, F, ρ, env, S, ds, n, o, r, h⟩ := h
  refine ⟨nn, F, ρ, env, S, [], n, o, .nil, ?_⟩
  dsimp only [bnd] at h
  show Fin rO g F W nn ρ H S _ (m env S)
  cases e : m env S with
  | ok d S1 =>
    rw [e] at h
    refine fun ρ' H' v x o' r' => ?_
    subst r'
    exact ⟨nn, F, ρ', env, S1, ds, n.car (x.car o), o', r.car (x.car o), Fin.ext x h⟩
  | ex e1 S1 =>
    rw [e] at h
    exact h
  | no =>
    rw [e] at h
    exact h
def cutD (xs : List D) (lo hi : Option Int) : List D := (xs.drop (HT.sIx xs.length 0 lo)).take (HT.sIx xs.length xs.length hi - HT.sIx xs.length 0 lo)
def fSl : D → Option Int → Option Int → M D
  | .tup ds, lo, hi => ret (.tup (cutD ds lo hi))
  | .lst ds, lo, hi => ret (.lst (cutD ds lo hi))
  | .ref k, lo, hi => bnd (rdS k) fun ds => ret (.lst (cutD ds lo hi))
  | .str z, lo, hi => if z.length ≤ sizeLine then ret (.str (cutS z lo hi)) else noM
  | _, _, _ => noM
def mSl (m : Env → M D) (lo hi : Env → M (Option Int)) (env : Env) : M D := bnd (m env) fun d => bnd (lo env) fun l => bnd (hi env) fun u => fSl d l u
theorem Reps.cut {H : Hp} {B : Addr → Prop} {ρ : List Addr} {ds : List D} {vs : List V} (r : Reps g H B ρ ds vs) (lo hi : Option Int) : Reps g H B ρ (cutD ds lo hi) (cutV vs lo hi) := by
  unfold cutD cutV
  rw [r.length]
  exact (r.drop _).take _
theorem cut_whole {xs : List D} {lo hi : Option Int} (h : HT.sIx xs.length 0 lo = 0 ∧ HT.sIx xs.length xs.length hi = xs.length) : cutD xs lo hi = xs := by
  unfold cutD
  rw [h.1, h.2]
  simp
def rSlX (K : PySem.W.Frag) : V → Option Int → Option Int → Hp → VK → Prop := fun x lo hi H Q => rSlA K x lo hi H Q ∨ rSlL K x lo hi H Q ∨ rSlS x lo hi H Q
theorem slX : SlR X (rSlX X.K) := sl_tupA.or (sl_list.or sl_str)
theorem o_sl {d : D} {x : V} {lo hi : Option Int} {F ρ : List Addr} {H : Hp} {S : Sto} {nn : Nat} {Q : VK} (ok : Ok g F ρ H S) (r : Rep g H (Bar F ρ S) ρ d x) (h : Fin rD g F W nn ρ H S Q (fSl d lo hi S)) : rSlX g.K x lo hi H Q := by
  unfold fSl at h
  split at h
  · obtain ⟨p, vs, rfl, hp, t⟩ := r.inv_tup
    refine .inl ⟨p, vs, rfl, hp, fun z => ?_, fun _ a ha => fin_tup ok ha (t.cut lo hi) h⟩
    rw [← t.length] at z
    rw [cut_whole z] at h
    exact fin_same ok r h
  · obtain ⟨p, vs, rfl, hp, _, t⟩ := r.inv_lst
    exact .inr (.inl ⟨p, vs, rfl, SqL.of hp, fun a ha => fin_lst ok ha (t.cut lo hi) h⟩)
  · obtain ⟨ds, e0, h⟩ := rdS_ok h
    obtain ⟨p, rfl, hk⟩ := r.inv_ref
    obtain ⟨vs, hp, t, _⟩ := ok.rd hk e0
    exact .inr (.inl ⟨p, vs, rfl, SqL.of hp, fun a ha => fin_lst ok ha (t.cut lo hi) h⟩)
  · obtain ⟨hc, h⟩ := ite_ret h
    rw [r.inv_str]
    exact .inr (.inr ⟨_, rfl, hc, fin_same ok (.str _) h⟩)
  · exact h.elim
theorem se_slice {e : Expr} {lo hi : Option Expr} {pos p2 : Pos} {m : Env → M D} {ml mh : Env → M (Option Int)} (hk : X.K = g.K) (he : PE X e (tE g W m)) (hl : PO X lo (tO g W ml)) (hu : PO X hi (tO g W mh)) : PE X (.Subscript e (.Slice lo hi none p2) pos) (tE g W (mSl m ml mh)) :=
  wkE (pe_slice slX he hl hu) fun σ H Q h => by
    refine tH.mono (fun v H1 q => ?_) (push (k := fun ds env => match ds with | [d] => bnd (ml env) fun l => bnd (mh env) fun u => fSl d l u | _ => noM) (vs := []) (h.cg0 fun env => rfl))
    refine tH.mono (fun l H2 q => ?_) (pushO (k := fun l ds env => match ds with | [d] => bnd (mh env) fun u => fSl d l u | _ => noM) (vs := [v]) (q.cg1 fun d env => rfl))
    refine tH.mono (fun u H3 q => ?_) (pushO (k := fun u ds env => match ds with | [d] => fSl d l u | _ => noM) (vs := [v]) (q.cg1 fun d env => rfl))
    obtain ⟨nn, F, ρ, env, S, ds, n, ok, r, h⟩ := q
    cases r with
    | cons r1 r2 =>
      cases r2
      rw [hk]
      exact o_sl ok r1 h
/-! ### displays -/
def fTup (ds : List D) : M D := if ds.length ≤ sizeLine then ret (.tup ds) else noM
def fLst (ds : List D) : M D := if ds.length ≤ sizeLine then ret (.lst ds) else noM
/-- a list that will be changed: it goes to the store -/
def fNew (ds : List D) : M D := if ds.length ≤ sizeLine ∧ nrs ds = true then (fun S => .ok (.ref S.length) (S ++ [some ds])) else noM
def mCall (f : List D → M D) (m : Env → M (List D)) (env : Env) : M D := bnd (m env) f
/-- the rule r of a call reads f -/
def OpN (g : Gx) (W : WX) (f : List D → M D) (r : List V → Hp → VK → Prop) : Prop := ∀ (ds : List D) (vs : List V) (F ρ : List Addr) (H : Hp) (S : Sto) (nn : Nat) (Q : VK), Ok g F ρ H S → Reps g H (Bar F ρ S) ρ ds vs →
  Fin rD g F W nn ρ H S Q (f ds S) → r vs H Q
theorem opn_ok {f : List D → M D} {r : List V → Hp → VK → Prop} (o : OpN g W f r) {m : Env → M (List D)} {σ : L2.St} {H : Hp} {Q : VK} (h : tE g W (mCall f m) σ H Q) : tL g W m σ H fun vs H1 => r vs H1 Q := by
  refine tH.mono (fun vs H1 q => ?_) (pushL (k := fun ds _ => f ds) (vs := []) (h.cg0 fun env => rfl))
  obtain ⟨nn, F, ρ, env, S, ds, n, ok, r, h⟩ := q
  exact o ds vs F ρ H1 S nn Q ok r h
theorem o_tup : OpN g W fTup (fun xs H1 Q => xs.length ≤ sizeLine ∧ ∀ p, H1 p = none → Q (.ref p) (upd H1 p (.tup xs))) := by
  intro ds vs F ρ H S nn Q ok r h
  obtain ⟨hc, h⟩ := ite_ret h
  exact ⟨by rw [← r.length]; exact hc, fun p hp => fin_tup ok hp r h⟩
theorem o_lst : OpN g W fLst (fun xs H1 Q => xs.length ≤ sizeLine ∧ ∀ p, H1 p = none → Q (.ref p) (upd H1 p (.lst xs))) := by
  intro ds vs F ρ H S nn Q ok r h
  obtain ⟨hc, h⟩ := ite_ret h
  exact ⟨by rw [← r.length]; exact hc, fun p hp => fin_lst ok hp r h⟩
/-- a new handle -/
theorem ext_handle {F ρ : List Addr} {H : Hp} {S : Sto} {p : Addr} {ds : List D} {vs : List V} (ok : Ok g F ρ H S) (hp : H p = none) : Ext F ρ H S (ρ ++ [p]) (upd H p (.lst vs)) (S ++ [some ds]) := by
  have x := ext_new (o := .lst vs) ok hp
  refine ⟨x.keep, x.there, fun q ⟨i, es, h1, h2⟩ => ?_, ⟨[p], rfl⟩⟩
  by_cases hi : i < ρ.length
  · rw [List.getElem?_append_left hi] at h1
    rw [List.getElem?_append_left (by rw [← ok.len]; exact hi)] at h2
    exact .inl ⟨i, es, h1, h2⟩
  · rw [List.getElem?_append_right (by omega)] at h1
    have e : i - ρ.length = 0 := by
      have := (List.getElem?_eq_some_iff.mp h1).1
      simpa using this
    rw [e] at h1
    cases h1
    exact .inr (.of hp)
theorem ok_handle {F ρ : List Addr} {H : Hp} {S : Sto} {p : Addr} {ds : List D} {vs : List V} (ok : Ok g F ρ H S) (hp : H p = none) (r : Reps g H (Bar F ρ S) ρ ds vs) (hn : nrs ds = true) : Ok g F (ρ ++ [p]) (upd H p (.lst vs)) (S ++ [some ds]) := by
  have x := ext_handle (ds := ds) (vs := vs) ok hp
  have np : p ∉ ρ := fun h => by
    obtain ⟨xs, z⟩ := ok.trk p h
    rw [hp] at z
    cases z
  refine ⟨by simp [ok.len], ?_, fun q hq => ?_, fun i es h => ?_, fun q hq => ?_, Tabs.upd ok.tab hp⟩
  · rw [List.nodup_append]
    exact ⟨ok.nd, by simp, fun a ha b hb e => np (by
      have e2 : b = p := by simpa using hb
      rw [← e2, ← e]
      exact ha)⟩
  · rcases List.mem_append.mp hq with z | z
    · exact x.there q (ok.trk q z)
    · have e : q = p := by simpa using z
      exact ⟨vs, by rw [e, upd_same]⟩
  · by_cases hi : i < S.length
    · rw [List.getElem?_append_left hi] at h
      obtain ⟨h0, q, us, h1, h2, h3, h4⟩ := ok.sto i es h
      exact ⟨h0, q, us, by rw [List.getElem?_append_left (by rw [ok.len]; exact hi)]; exact h1, by rw [upd_ne (ne_of_none h2 hp)]; exact h2, h3.car (x.car ok), h4⟩
    · rw [List.getElem?_append_right (by omega)] at h
      have e : i - S.length = 0 := by
        have := (List.getElem?_eq_some_iff.mp h).1
        simpa using this
      rw [e] at h
      cases h
      refine ⟨hn, p, vs, ?_, upd_same, r.car (x.car ok), fun hf => ?_⟩
      · rw [List.getElem?_append_right (by rw [ok.len]; omega), ok.len, e]
        rfl
      · obtain ⟨xs, z⟩ := ok.fr p hf
        rw [hp] at z
        cases z
  · obtain ⟨xs, h⟩ := ok.fr q hq
    exact ⟨xs, by rw [upd_ne (ne_of_none h hp)]; exact h⟩
theorem o_new : OpN g W fNew (fun xs H1 Q => xs.length ≤ sizeLine ∧ ∀ p, H1 p = none → Q (.ref p) (upd H1 p (.lst xs))) := by
  intro ds vs F ρ H S nn Q ok r h
  obtain ⟨hc, h⟩ := ite_ret h
  refine ⟨by rw [← r.length]; exact hc.1, fun p hp => ?_⟩
  refine h (ρ ++ [p]) _ _ (ext_handle (vs := vs) ok hp) (ok_handle ok hp r hc.2) (.ref ?_)
  rw [List.getElem?_append_right (by rw [ok.len]; omega), ok.len]
  simp
theorem se_tup {es : List Expr} {k : Nat} {pos : Pos} {m : Env → M (List D)} (ha : PA X es (tL g W m)) : PE X (.Tuple es k pos) (tE g W (mCall fTup m)) := wkE (pe_tup ha) fun _ _ _ h => opn_ok o_tup h
theorem se_lst {es : List Expr} {pos : Pos} {m : Env → M (List D)} (ha : PA X es (tL g W m)) : PE X (.List es pos) (tE g W (mCall fLst m)) := wkE (pe_lst ha) fun _ _ _ h => opn_ok o_lst h
theorem se_new {es : List Expr} {pos : Pos} {m : Env → M (List D)} (ha : PA X es (tL g W m)) : PE X (.List es pos) (tE g W (mCall fNew m)) := wkE (pe_lst ha) fun _ _ _ h => opn_ok o_new h
/-! ### built-in functions -/
structure BuiltF (X : Cx) (g : Gx) (W : WX) (v : Value) (f : List D → M D) : Prop where
  ex : ∃ r, CallR X v r ∧ OpN g W f r
theorem se_callB {x : Str} {p pos : Pos} {e : Expr} {es : List Expr} {id : String} {f : List D → M D} {m : Env → M (List D)} (b : BuiltF X g W (.builtin id) f) (hg : Gl X x) (hm : X.mg x = none) (hv : bootBuiltins x = some (.builtin id)) (ha : PA X (e :: es) (tL g W m)) (hn : x ≠ "__name__" := by decide) (hdb : (x == ("__debug__" : Str)) = false := by decide)
    (he : starEach (e :: es) X.env = (false, eval e X.env) :: starEach es X.env := by rfl) (hpl : (backTo pos (starEach es X.env)).any (·.1) = false := by rfl) : PE X (.Call (.Name x p) (e :: es) [] pos) (tE g W (mCall f m)) := by
  obtain ⟨r, h1, h2⟩ := b.ex
  exact wkE (pe_callB h1 hg hm hv ha hn hdb he hpl) fun _ _ _ h => opn_ok h2 h
theorem se_callTy {x : Str} {p pos : Pos} {e : Expr} {es : List Expr} {T : String} {f : List D → M D} {m : Env → M (List D)} (b : BuiltF X g W (.type T) f) (hg : Gl X x) (hm : X.mg x = none) (hv : bootBuiltins x = some (.type T)) (ha : PA X (e :: es) (tL g W m)) (hn : x ≠ "__name__" := by decide) (hdb : (x == ("__debug__" : Str)) = false := by decide)
    (he : starEach (e :: es) X.env = (false, eval e X.env) :: starEach es X.env := by rfl) (hpl : (backTo pos (starEach es X.env)).any (·.1) = false := by rfl) : PE X (.Call (.Name x p) (e :: es) [] pos) (tE g W (mCall f m)) := by
  obtain ⟨r, h1, h2⟩ := b.ex
  exact wkE (pe_callTy h1 hg hm hv ha hn hdb he hpl) fun _ _ _ h => opn_ok h2 h
/-- a name that a module was asked for: gcd, isqrt -/
theorem se_callM {x : Str} {p pos : Pos} {e : Expr} {es : List Expr} {id : String} {f : List D → M D} {m : Env → M (List D)} (b : BuiltF X g W (.builtin id) f) (hg : Gl X x) (hm : X.mg x = some (.builtin id)) (ha : PA X (e :: es) (tL g W m)) (hdb : (x == ("__debug__" : Str)) = false := by decide)
    (he : starEach (e :: es) X.env = (false, eval e X.env) :: starEach es X.env := by rfl) (hpl : (backTo pos (starEach es X.env)).any (·.1) = false := by rfl) : PE X (.Call (.Name x p) (e :: es) [] pos) (tE g W (mCall f m)) := by
  obtain ⟨r, h1, h2⟩ := b.ex
  exact wkE (pe_callBfun h1 hg hm ha hdb he hpl) fun _ _ _ h => opn_ok h2 h
def fAbs : List D → M D
  | [.int i] => ret (.int (if i < 0 then -i else i))
  | _ => noM
theorem bf_abs : BuiltF X g W (.builtin "abs") fAbs := ⟨_, call_abs, fun ds vs F ρ H S nn Q ok r h => by
  unfold fAbs at h
  split at h
  · cases r with
    | cons r1 r2 =>
      cases r2
      rw [r1.inv_int]
      exact ⟨_, rfl, fin_same ok (.int _) h⟩
  · exact h.elim⟩
def fInt : List D → M D
  | [.int i] => ret (.int i)
  | [.bl b] => ret (.int (if b then 1 else 0))
  | _ => noM
theorem bf_int : BuiltF X g W (.type "int") fInt := ⟨_, call_int1, fun ds vs F ρ H S nn Q ok r h => by
  unfold fInt at h
  split at h
  · cases r with
    | cons r1 r2 =>
      cases r2
      rw [r1.inv_int]
      exact .inl ⟨_, rfl, fin_same ok (.int _) h⟩
  · cases r with
    | cons r1 r2 =>
      cases r2
      rw [r1.inv_bl]
      exact .inr ⟨_, rfl, fin_same ok (.int _) h⟩
  · exact h.elim⟩
def fMax : List D → M D
  | [.int i, .int j] => ret (.int (if j > i then j else i))
  | _ => noM
def fMin : List D → M D
  | [.int i, .int j] => ret (.int (if j < i then j else i))
  | _ => noM
theorem bf_max (hc : X.calm = true) : BuiltF X g W (.builtin "max") fMax := ⟨_, call_max2 hc, fun ds vs F ρ H S nn Q ok r h => by
  unfold fMax at h
  split at h
  · cases r with
    | cons r1 r2 =>
      cases r2 with
      | cons r2 r3 =>
        cases r3
        rw [r1.inv_int, r2.inv_int]
        exact ⟨_, _, rfl, fin_same ok (.int _) h⟩
  · exact h.elim⟩
theorem bf_min (hc : X.calm = true) : BuiltF X g W (.builtin "min") fMin := ⟨_, call_min2 hc, fun ds vs F ρ H S nn Q ok r h => by
  unfold fMin at h
  split at h
  · cases r with
    | cons r1 r2 =>
      cases r2 with
      | cons r2 r3 =>
        cases r3
        rw [r1.inv_int, r2.inv_int]
        exact ⟨_, _, rfl, fin_same ok (.int _) h⟩
  · exact h.elim⟩
def fGcd : List D → M D
  | [.int i, .int j] => ret (.int (Nat.gcd i.natAbs j.natAbs : Nat))
  | _ => noM
theorem bf_gcd : BuiltF X g W (.builtin "math.gcd") fGcd := ⟨_, cr_gcd, fun ds vs F ρ H S nn Q ok r h => by
  unfold fGcd at h
  split at h
  · cases r with
    | cons r1 r2 =>
      cases r2 with
      | cons r2 r3 =>
        cases r3
        rw [r1.inv_int, r2.inv_int]
        exact ⟨_, _, rfl, fin_same ok (.int _) h⟩
  · exact h.elim⟩
def fLen : List D → M D
  | [.tup ds] => ret (.int ds.length)
  | [.lst ds] => ret (.int ds.length)
  | [.str z] => if z.length ≤ sizeLine then ret (.int z.length) else noM
  | [.ref k] => bnd (rdS k) fun ds => ret (.int ds.length)
  | _ => noM
theorem bf_len (hk : X.K = g.K) : BuiltF X g W (.builtin "len") fLen := ⟨_, call_len, fun ds vs F ρ H S nn Q ok r h => by
  rw [hk]
  unfold fLen at h
  split at h
  · cases r with
    | cons r1 r2 =>
      cases r2
      obtain ⟨p, vs, rfl, hp, t⟩ := r1.inv_tup
      exact ⟨_, _, rfl, .inr ⟨vs, hp, t.length⟩, fin_same ok (.int _) h⟩
  · cases r with
    | cons r1 r2 =>
      cases r2
      obtain ⟨p, vs, rfl, hp, _, t⟩ := r1.inv_lst
      exact ⟨_, _, rfl, .inl ⟨vs, SqL.of hp, t.length⟩, fin_same ok (.int _) h⟩
  · cases r with
    | cons r1 r2 =>
      cases r2
      obtain ⟨hc, h⟩ := ite_ret h
      rw [r1.inv_str]
      exact ⟨_, _, rfl, ⟨hc, rfl⟩, fin_same ok (.int _) h⟩
  · cases r with
    | cons r1 r2 =>
      cases r2
      obtain ⟨ds, e0, h⟩ := rdS_ok h
      obtain ⟨p, rfl, hk⟩ := r1.inv_ref
      obtain ⟨vs, hp, t, _⟩ := ok.rd hk e0
      exact ⟨_, _, rfl, .inl ⟨vs, SqL.of hp, t.length⟩, fin_same ok (.int _) h⟩
  · exact h.elim⟩
/-- list(x), tuple(x) -/
def fList : List D → M D
  | [.tup ds] => ret (.lst ds)
  | [.lst ds] => ret (.lst ds)
  | [.scr ns] => ret (.lst (ns.map .int))
  | [.ref k] => bnd (rdS k) fun ds => ret (.lst ds)
  | _ => noM
theorem Reps.ints {H : Hp} {B : Addr → Prop} {ρ : List Addr} : ∀ ns : List Int, Reps g H B ρ (ns.map .int) (ns.map V.int)
  | [] => .nil
  | n :: r => .cons (.int n) (Reps.ints r)
theorem bf_list (hk : X.K = g.K) : BuiltF X g W (.type "list") fList := ⟨_, call_list_of, fun ds vs F ρ H S nn Q ok r h => by
  rw [hk]
  unfold fList at h
  split at h
  · cases r with
    | cons r1 r2 =>
      cases r2
      obtain ⟨p, vs, rfl, hp, t⟩ := r1.inv_tup
      exact ⟨_, _, rfl, .inr hp, fun a ha => fin_lst ok ha t h⟩
  · cases r with
    | cons r1 r2 =>
      cases r2
      obtain ⟨p, vs, rfl, hp, _, t⟩ := r1.inv_lst
      exact ⟨_, _, rfl, .inl (SqL.of hp), fun a ha => fin_lst ok ha t h⟩
  · cases r with
    | cons r1 r2 =>
      cases r2
      cases r1 with
      | scr hs =>
        refine ⟨_, _, rfl, .inl ?_, fun a ha => fin_lst ok ha (Reps.ints _) h⟩
        rcases hs with ⟨hs, _⟩ | ⟨o, hs⟩ | hs
        · exact SqL.of hs
        · exact .inl (.inr ⟨o, hs⟩)
        · exact .inr hs
  · cases r with
    | cons r1 r2 =>
      cases r2
      obtain ⟨ds, e0, h⟩ := rdS_ok h
      obtain ⟨p, rfl, hk⟩ := r1.inv_ref
      obtain ⟨vs, hp, t, _⟩ := ok.rd hk e0
      exact ⟨_, _, rfl, .inl (SqL.of hp), fun a ha => fin_lst ok ha t h⟩
  · exact h.elim⟩
def fTuple : List D → M D
  | [.tup ds] => ret (.tup ds)
  | [.lst ds] => ret (.tup ds)
  | [.ref k] => bnd (rdS k) fun ds => ret (.tup ds)
  | _ => noM
theorem bf_tuple (hk : X.K = g.K) : BuiltF X g W (.type "tuple") fTuple := ⟨_, call_tuple_of, fun ds vs F ρ H S nn Q ok r h => by
  rw [hk]
  unfold fTuple at h
  split at h
  · cases r with
    | cons r1 r2 =>
      cases r2
      obtain ⟨p, vs, rfl, hp, t⟩ := id r1.inv_tup
      exact ⟨_, _, rfl, .inr ⟨hp, fin_same ok r1 h⟩⟩
  · cases r with
    | cons r1 r2 =>
      cases r2
      obtain ⟨p, vs, rfl, hp, _, t⟩ := r1.inv_lst
      exact ⟨_, _, rfl, .inl ⟨SqL.of hp, fun a ha => fin_tup ok ha t h⟩⟩
  · cases r with
    | cons r1 r2 =>
      cases r2
      obtain ⟨ds, e0, h⟩ := rdS_ok h
      obtain ⟨p, rfl, hk⟩ := r1.inv_ref
      obtain ⟨vs, hp, t, _⟩ := ok.rd hk e0
      exact ⟨_, _, rfl, .inl ⟨SqL.of hp, fun a ha => fin_tup ok ha t h⟩⟩
  · exact h.elim⟩
/-- all, any of truth values; sum of ints -/
def asBs : List D → Option (List Bool)
  | [] => some []
  | .bl b :: r => (asBs r).map (b :: ·)
  | _ => none
def asIs : List D → Option (List Int)
  | [] => some []
  | .int b :: r => (asIs r).map (b :: ·)
  | _ => none
theorem asBs_ok {H : Hp} {B : Addr → Prop} {ρ : List Addr} : ∀ {ds : List D} {vs : List V} {bs : List Bool}, Reps g H B ρ ds vs → asBs ds = some bs → vs = bs.map V.bl
  | _, _, bs, .nil, h => by
    cases h
    rfl
  | d :: ds, _, bs, .cons r t, h => by
    cases d with
    | bl b =>
      cases e : asBs ds with
      | none =>
        simp [asBs, e] at h
      | some cs =>
        have h2 : bs = b :: cs := by
          simp only [asBs, e, Option.map_some, Option.some.injEq] at h
          exact h.symm
        rw [h2, r.inv_bl, asBs_ok t e]
        rfl
    | _ => cases h
theorem asIs_ok {H : Hp} {B : Addr → Prop} {ρ : List Addr} : ∀ {ds : List D} {vs : List V} {bs : List Int}, Reps g H B ρ ds vs → asIs ds = some bs → vs = bs.map V.int
  | _, _, bs, .nil, h => by
    cases h
    rfl
  | d :: ds, _, bs, .cons r t, h => by
    cases d with
    | int b =>
      cases e : asIs ds with
      | none =>
        simp [asIs, e] at h
      | some cs =>
        have h2 : bs = b :: cs := by
          simp only [asIs, e, Option.map_some, Option.some.injEq] at h
          exact h.symm
        rw [h2, r.inv_int, asIs_ok t e]
        rfl
    | _ => cases h
/-- a made list's items -/
def items : D → M (List D)
  | .lst ds => ret ds
  | .ref k => rdS k
  | _ => noM
def fAll : List D → M D
  | [d] => bnd (items d) fun ds => bnd (getO (asBs ds)) fun bs => ret (.bl (bs.all id))
  | _ => noM
def fAny : List D → M D
  | [d] => bnd (items d) fun ds => bnd (getO (asBs ds)) fun bs => ret (.bl (bs.any id))
  | _ => noM
def fSum : List D → M D
  | [d] => bnd (items d) fun ds => bnd (getO (asIs ds)) fun bs => ret (.int bs.sum)
  | _ => noM
theorem items_ok {α β : Type} {rl : Rl α β} {d : D} {v : V} {F ρ : List Addr} {H : Hp} {S : Sto} {nn : Nat} {Q : β → Hp → Prop} {f : List D → M α} (ok : Ok g F ρ H S) (r : Rep g H (Bar F ρ S) ρ d v) (h : Fin rl g F W nn ρ H S Q (bnd (items d) f S)) :
    ∃ p ds vs, v = .ref p ∧ H p = some (.lst vs) ∧ Reps g H (Bar F ρ S) ρ ds vs ∧ Fin rl g F W nn ρ H S Q (f ds S) := by
  cases d with
  | lst ds =>
    obtain ⟨p, vs, rfl, hp, _, t⟩ := r.inv_lst
    exact ⟨p, ds, vs, rfl, hp, t, h⟩
  | ref k =>
    obtain ⟨ds, e0, h⟩ := rdS_ok (k := k) h
    obtain ⟨p, rfl, hk⟩ := r.inv_ref
    obtain ⟨vs, hp, t, _⟩ := ok.rd hk e0
    exact ⟨p, ds, vs, rfl, hp, t, h⟩
  | _ => exact h.elim
theorem bf_all (hk : X.K = g.K) (hc : X.calm = true) : BuiltF X g W (.builtin "all") fAll := ⟨_, cr_all hc, fun ds vs F ρ H S nn Q ok r h => by
  rw [hk]
  unfold fAll at h
  split at h
  · cases r with
    | cons r1 r2 =>
      cases r2
      obtain ⟨p, ds, vs, rfl, hp, t, h⟩ := items_ok ok r1 h
      obtain ⟨bs, e, h⟩ := getO_ok h
      have ev := asBs_ok t e
      subst ev
      exact ⟨p, bs, rfl, SqL.of hp, fin_same ok (.bl _) h⟩
  · exact h.elim⟩
theorem bf_any (hk : X.K = g.K) (hc : X.calm = true) : BuiltF X g W (.builtin "any") fAny := ⟨_, cr_any hc, fun ds vs F ρ H S nn Q ok r h => by
  rw [hk]
  unfold fAny at h
  split at h
  · cases r with
    | cons r1 r2 =>
      cases r2
      obtain ⟨p, ds, vs, rfl, hp, t, h⟩ := items_ok ok r1 h
      obtain ⟨bs, e, h⟩ := getO_ok h
      have ev := asBs_ok t e
      subst ev
      exact ⟨p, bs, rfl, SqL.of hp, fin_same ok (.bl _) h⟩
  · exact h.elim⟩
theorem bf_sum (hk : X.K = g.K) (hc : X.calm = true) : BuiltF X g W (.builtin "sum") fSum := ⟨_, cr_sum hc, fun ds vs F ρ H S nn Q ok r h => by
  rw [hk]
  unfold fSum at h
  split at h
  · cases r with
    | cons r1 r2 =>
      cases r2
      obtain ⟨p, ds, vs, rfl, hp, t, h⟩ := items_ok ok r1 h
      obtain ⟨bs, e, h⟩ := getO_ok h
      have ev := asIs_ok t e
      subst ev
      exact ⟨p, bs, rfl, SqL.of hp, fin_same ok (.int _) h⟩
  · exact h.elim⟩
/-- isinstance(x, T), T a built-in class by its name -/
def tyName : D → Option String
  | .non => some "NoneType"
  | .bl _ => some "bool"
  | .int _ => some "int"
  | .str _ => some "str"
  | .tup _ => some "tuple"
  | .lst _ => some "list"
  | _ => none
def fIsi : List D → M D
  | [.ref k, .ty n] => bnd (rdS k) fun _ => bnd (getO (kitB "list" n)) fun b => ret (.bl b)
  | [d, .ty n] => bnd (getO (tyName d)) fun a => bnd (getO (kitB a n)) fun b => ret (.bl b)
  | _ => noM
theorem tyName_ok {d : D} {v : V} {a : String} {H : Hp} {B : Addr → Prop} {ρ : List Addr} (r : Rep g H B ρ d v) (h : tyName d = some a) : TyX g.K H v (.type a) := by
  cases r with
  | non => cases h; exact .base .non
  | bl b => cases h; exact .base (.bl b)
  | int i => cases h; exact .base (.int i)
  | str x => cases h; exact .base (.str x)
  | tup hp t =>
    cases h
    rcases hp with (hp | ⟨o, hp⟩) | ⟨o, its, n, h1, h2, _⟩
    · exact .base (.tup hp)
    · exact .fTuple hp
    · exact .kTuple h1 h2
  | lst hp n t => cases h; exact .base (.lst hp)
  | _ => cases h
theorem bf_isi (hk : X.K = g.K) : BuiltF X g W (.builtin "isinstance") fIsi := ⟨_, call_isi, fun ds vs F ρ H S nn Q ok r h => by
  rw [hk]
  unfold fIsi at h
  split at h
  · cases r with
    | cons r1 r2 =>
      cases r2 with
      | cons r2 r3 =>
        cases r3
        obtain ⟨es, e0, h⟩ := rdS_ok h
        obtain ⟨b, e2, h⟩ := getO_ok h
        obtain ⟨p, rfl, hk⟩ := r1.inv_ref
        obtain ⟨vs, hp, t, _⟩ := ok.rd hk e0
        cases r2
        exact ⟨_, _, _, _, b, rfl, .ty _, .base (.lst hp), kit_ty e2, fin_same ok (.bl _) h⟩
  · cases r with
    | cons r1 r2 =>
      cases r2 with
      | cons r2 r3 =>
        cases r3
        obtain ⟨a, e1, h⟩ := getO_ok h
        obtain ⟨b, e2, h⟩ := getO_ok h
        cases r2
        exact ⟨_, _, _, _, b, rfl, .ty _, tyName_ok r1 e1, kit_ty e2, fin_same ok (.bl _) h⟩
  · exact h.elim⟩
/-- a built-in class as a value -/
theorem se_bty {x : Str} {n : String} {pos : Pos} (hg : Gl X x) (hm : X.mg x = none) (hv : bootBuiltins x = some (.type n)) (hn : x ≠ "__name__" := by decide) (hd : (x == ("__debug__" : Str)) = false := by decide) : PE X (.Name x pos) (tE g W (mC (.ty n))) :=
  wkE (pe_bltn (v := .ty n) hg hm hv rfl hn hd) fun _ _ _ q => const_ok (fun _ _ _ => .ty n) q
/-- a def of the module as a value -/
theorem se_glo {x : Str} {a : Addr} {pos : Pos} (hg : Gl X x) (hm : X.mg x = some (.ref a)) (hmg : X.mg = g.mg) (hd : (x == ("__debug__" : Str)) = false := by decide) : PE X (.Name x pos) (tE g W (mC (.glo x))) :=
  wkE (pe_glob (v := .ref a) hg hm rfl hd) fun _ _ _ q => const_ok (fun _ _ _ => .glo (by rw [← hmg]; exact hm)) q
end
end Mir
set_option Elab.async false
set_option linter.all false
set_option maxRecDepth 100000
set_option maxHeartbeats 4000000
namespace Mir
open PySem PySem.Spec PyProof.Rows L2
/-! ### statements -/
inductive Fl where
  | nx
  | rt (d : D)
  | bk
  | ct
abbrev MS := Env → M (Fl × Env)
inductive BF where
  | nx (σ : L2.St)
  | rt (v : V)
  | bk (σ : L2.St)
  | ct (σ : L2.St)
def rFl : Rl (Fl × Env) BF := fun nn g H B ρ a b => match a.1, b with
  | .nx, .nx σ => EnvOk g H B ρ nn a.2 σ
  | .rt d, .rt v => Rep g H B ρ d v
  | .bk, .bk σ => EnvOk g H B ρ nn a.2 σ
  | .ct, .ct σ => EnvOk g H B ρ nn a.2 σ
  | _, _ => False
def endsQ (D : Ends) : BF → Hp → Prop
  | .nx σ, H => D.nx σ H
  | .rt v, H => D.rt v H
  | .bk σ, H => D.bk σ H
  | .ct σ, H => D.ct σ H
def tS (g : Gx) (W : WX) (m : MS) : TS := fun D σ H => tH rFl g W (fun _ => m) [] σ H (endsQ D)
def mSkip : MS := fun env => ret (.nx, env)
def mSeq (a b : MS) : MS := fun env => bnd (a env) fun r => match r with
  | (.nx, env') => b env'
  | r => ret r
def mExpr (m : Env → M D) : MS := fun env => bnd (m env) fun _ => ret (.nx, env)
def mRet (m : Env → M D) : MS := fun env => bnd (m env) fun d => ret (.rt d, [])
def mRetN : MS := fun env => ret (.rt .non, [])
def mIfS (c : Env → M Bool) (a b : MS) : MS := fun env => bnd (c env) fun k => if k = true then a env else b env
def mBrk : MS := fun env => ret (.bk, env)
def mCnt : MS := fun env => ret (.ct, env)
section
variable {X : Cx} {g : Gx} {W : WX}
theorem seq_ok {a b : MS} {D : Ends} {σ : L2.St} {H : Hp} (h : tS g W (mSeq a b) D σ H) : tSeq (tS g W a) (tS g W b) D σ H := by
  obtain ⟨nn, F, ρ, env, S, ds, n, o, r, h⟩ := h
  refine ⟨nn, F, ρ, env, S, [], n, o, .nil, ?_⟩
  have h : Fin rFl g F W nn ρ H S (endsQ D) (mSeq a b env S) := h
  show Fin rFl g F W nn ρ H S _ (a env S)
  dsimp only [mSeq, bnd] at h
  cases e : a env S with
  | no =>
    rw [e] at h
    exact h
  | ex e1 S1 =>
    rw [e] at h
    exact h
  | ok r S1 =>
    rw [e] at h
    obtain ⟨f, env'⟩ := r
    cases f with
    | nx =>
      intro ρ' H' b' x o' r'
      cases b' with
      | nx σ' => exact ⟨nn, F, ρ', env', S1, [], r', o', .nil, Fin.ext x h⟩
      | _ => exact r'.elim
    | rt d =>
      intro ρ' H' b' x o' r'
      cases b' with
      | rt v => exact h ρ' H' (.rt v) x o' r'
      | _ => exact r'.elim
    | bk =>
      intro ρ' H' b' x o' r'
      cases b' with
      | bk σ' => exact h ρ' H' (.bk σ') x o' r'
      | _ => exact r'.elim
    | ct =>
      intro ρ' H' b' x o' r'
      cases b' with
      | ct σ' => exact h ρ' H' (.ct σ') x o' r'
      | _ => exact r'.elim
theorem skip_ok {D : Ends} {σ : L2.St} {H : Hp} (h : tS g W mSkip D σ H) : tNext D σ H := by
  obtain ⟨nn, F, ρ, env, S, ds, n, o, r, h⟩ := h
  exact h ρ H (.nx σ) .refl o n
section
variable {st : Stmt} {rest : List Stmt} {e : Expr} {pos : Pos} {a b : MS} {m : Env → M D}
theorem ss_nil : PSs X [] (tS g W mSkip) := wkSs pss_nil fun _ _ _ h => skip_ok h
theorem ss_cons (h1 : PS X st (tS g W a)) (h2 : PSs X rest (tS g W b)) : PSs X (st :: rest) (tS g W (mSeq a b)) := wkSs (pss_cons h1 h2) fun _ _ _ h => seq_ok h
theorem ss_one (h1 : PS X st (tS g W a)) : PSs X [st] (tS g W a) := pss_one h1
theorem ss_pass : PS X (.Pass pos) (tS g W mSkip) := wkS ps_pass fun _ _ _ h => skip_ok h
theorem ss_break : PS X (.Break pos) (tS g W mBrk) := wkS ps_break fun D σ H h => by
  obtain ⟨nn, F, ρ, env, S, ds, n, o, r, h⟩ := h
  exact h ρ H (.bk σ) .refl o n
theorem ss_continue : PS X (.Continue pos) (tS g W mCnt) := wkS ps_continue fun D σ H h => by
  obtain ⟨nn, F, ρ, env, S, ds, n, o, r, h⟩ := h
  exact h ρ H (.ct σ) .refl o n
theorem ss_doc {x j pos'} : PS X (.Expr (.Constant (.str x) j pos) pos') (tS g W mSkip) := wkS ps_doc fun _ _ _ h => skip_ok h
theorem ss_expr (he : PE X e (tE g W m)) (hs : swapsWith e none pos.line X.env = pure false := by rfl) : PS X (.Expr e pos) (tS g W (mExpr m)) := wkS (ps_expr he hs) fun D σ H h => by
  refine tH.mono (fun v H1 q => ?_) (push (k := fun _ env => ret (.nx, env)) (vs := []) (h.cg0 fun env => rfl))
  obtain ⟨nn, F, ρ, env, S, ds, n, o, r, h⟩ := q
  exact h ρ H1 (.nx σ) .refl o n
theorem ss_ret (he : PE X e (tE g W m)) : PS X (.Return (some e) pos) (tS g W (mRet m)) := wkS (ps_ret he) fun D σ H h => by
  refine tH.mono (fun v H1 q => ?_) (push (k := fun ds env => match ds with | [d] => ret (.rt d, []) | _ => noM) (vs := []) (h.cg0 fun env => rfl))
  obtain ⟨nn, F, ρ, env, S, ds, n, o, r, h⟩ := q
  cases r with
  | cons r1 r2 =>
    cases r2
    exact h ρ H1 (.rt v) .refl o r1
theorem ss_retN : PS X (.Return none pos) (tS g W mRetN) := wkS ps_retN fun D σ H h => by
  obtain ⟨nn, F, ρ, env, S, ds, n, o, r, h⟩ := h
  exact h ρ H (.rt .non) .refl o .non
theorem ss_if {c : Expr} {ta tb : List Stmt} {mc : Env → M Bool} (hc : PT X c (tB g W mc)) (ha : PSs X ta (tS g W a)) (hb : PSs X tb (tS g W b)) : PS X (.If c ta tb pos) (tS g W (mIfS mc a b)) := wkS (ps_if hc ha hb) fun D σ H h => by
  refine tH.mono (fun k H1 q => ?_) (pushT (k := fun k _ env => if k = true then a env else b env) (vs := []) (h.cg0 fun env => rfl))
  cases k with
  | true => exact q
  | false => exact q
end
/-! ### targets -/
abbrev rEnv : Rl Env L2.St := fun nn g H B ρ env σ => EnvOk g H B ρ nn env σ
abbrev MG := D → Env → M Env
def tG (g : Gx) (W : WX) (m : MG) : TG := fun v σ H Q => tH rEnv g W (fun ds env => match ds with | [d] => m d env | _ => noM) [v] σ H Q
def tGs (g : Gx) (W : WX) (m : List D → Env → M Env) : TGs := fun vs σ H Q => tH rEnv g W m vs σ H Q
theorem wkG {e : Expr} {t u : TG} (h : PG X e t) (q : ∀ v σ H Q, u v σ H Q → t v σ H Q) : PG X e u := ⟨fun pins s σ H v w Q I r hw => h.run pins s σ H v w Q I r (q v σ H Q hw)⟩
theorem wkGs {e : List Expr} {t u : TGs} (h : PGs X e t) (q : ∀ v σ H Q, u v σ H Q → t v σ H Q) : PGs X e u := ⟨fun pins s σ H v w Q I r hw => h.run pins s σ H v w Q I r (q v σ H Q hw)⟩
def gN (i : Nat) : MG := fun d env => ret (env.set i (some d))
theorem sg_name {i : Nat} {x : Str} {pos : Pos} (h : PG X (.Name x pos) (gName i)) : PG X (.Name x pos) (tG g W (gN i)) := wkG h fun v σ H Q h => by
  obtain ⟨nn, F, ρ, env, S, ds, n, o, r, h⟩ := h
  cases r with
  | cons r1 r2 =>
    cases r2
    exact h ρ H _ .refl o (n.set r1 i)
def gsNil : List D → Env → M Env
  | [], env => ret env
  | _, _ => noM
def gsCons (t : MG) (u : List D → Env → M Env) : List D → Env → M Env
  | d :: r, env => bnd (t d env) fun env' => u r env'
  | _, _ => noM
theorem sgs_nil : PGs X [] (tGs g W gsNil) := wkGs pgs_nil fun vs σ H Q h => by
  obtain ⟨nn, F, ρ, env, S, ds, n, o, r, h⟩ := h
  cases r with
  | nil => exact ⟨rfl, h ρ H _ .refl o n⟩
  | cons _ _ => exact h.elim
theorem sgs_cons {e : Expr} {es : List Expr} {t : MG} {u : List D → Env → M Env} (h1 : PG X e (tG g W t)) (h2 : PGs X es (tGs g W u))
    (hs : (assignEach (e :: es) X.env).map (·.2) = assign e X.env :: (assignEach es X.env).map (·.2) := by rfl) : PGs X (e :: es) (tGs g W (gsCons t u)) := wkGs (pgs_cons h1 h2 hs) fun vs σ H Q h => by
  obtain ⟨nn, F, ρ, env, S, ds, n, o, r, h⟩ := h
  cases r with
  | nil => exact h.elim
  | cons r1 r2 =>
    rename_i d v ds vs
    refine ⟨v, vs, rfl, nn, F, ρ, env, S, [d], n, o, .one r1, ?_⟩
    have h : Fin rEnv g F W nn ρ H S Q (bnd (t d env) (fun env' => u ds env') S) := h
    show Fin rEnv g F W nn ρ H S _ (t d env S)
    dsimp only [bnd] at h
    cases e : t d env S with
    | no =>
      rw [e] at h
      exact h
    | ex e1 S1 =>
      rw [e] at h
      exact h
    | ok env' S1 =>
      rw [e] at h
      exact fun ρ' H' σ' x o' r' => ⟨nn, F, ρ', env', S1, ds, r', o', r2.car (x.car o), Fin.ext x h⟩
/-- (a, b, ..) = a tuple of that length -/
def gTupD (k : Nat) (t : List D → Env → M Env) : MG
  | .tup ds, env => if ds.length = k then t ds env else noM
  | _, _ => noM
theorem sg_tup {es : List Expr} {kk : Nat} {pos : Pos} {t : List D → Env → M Env} {n : Nat} (hk : X.K = g.K) (hc : X.calm = true) (h : PGs X es (tGs g W t))
    (hn : (assignEach es X.env).length = n := by rfl) (hst : (assignEach es X.env).findIdx? (·.1) = none := by rfl) : PG X (.Tuple es kk pos) (tG g W (gTupD n t)) := wkG (pg_tup hc h hn hst) fun v σ H Q h => by
  obtain ⟨nn, F, ρ, env, S, ds, n, o, r, h⟩ := h
  cases r with
  | cons r1 r2 =>
    cases r2
    rename_i d
    cases d with
    | tup ds =>
      obtain ⟨p, vs, rfl, hp, t2⟩ := r1.inv_tup
      obtain ⟨hl, h⟩ := ite_ret (c := ds.length = _) h
      exact ⟨p, vs, rfl, by rw [hk]; exact hp, by rw [← t2.length]; exact hl, nn, F, ρ, env, S, ds, n, o, t2, h⟩
    | _ => exact h.elim
/-- o[i] = d, o a handle -/
def wrS (k : Nat) (ds : List D) : M Unit := fun S => .ok () (S.set k (some ds))
def fSet : D → D → D → M Unit
  | .ref k, .int i, d => bnd (rdS k) fun ds => bnd (getO (ixN ds.length i)) fun j => if nr d = true then wrS k (ds.set j d) else noM
  | _, _, _ => noM
theorem nrs_set {d : D} (hd : nr d = true) : ∀ {ds : List D} (j : Nat), nrs ds = true → nrs (ds.set j d) = true
  | [], _, _ => rfl
  | _ :: _, 0, h => by
    simp only [nrs, Bool.and_eq_true] at h
    simp [nrs, hd, h.2]
  | _ :: _, j + 1, h => by
    simp only [nrs, Bool.and_eq_true] at h
    simp only [List.set_cons_succ, nrs, Bool.and_eq_true]
    exact ⟨h.1, nrs_set hd j h.2⟩
theorem nrs_append : ∀ {ds es : List D}, nrs ds = true → nrs es = true → nrs (ds ++ es) = true
  | [], _, _, h => h
  | _ :: _, _, h, h2 => by
    simp only [nrs, Bool.and_eq_true] at h
    simp only [List.cons_append, nrs, Bool.and_eq_true]
    exact ⟨h.1, nrs_append h.2 h2⟩
section
variable {F ρ : List Addr} {H : Hp} {S : Sto}
theorem ok_ne (ok : Ok g F ρ H S) {i k : Nat} {p q : Addr} (h1 : ρ[i]? = some p) (h2 : ρ[k]? = some q) (h : i ≠ k) : p ≠ q := fun e => by
  subst e
  obtain ⟨l1, e1⟩ := List.getElem?_eq_some_iff.mp h1
  obtain ⟨l2, e2⟩ := List.getElem?_eq_some_iff.mp h2
  exact h ((List.getElem_inj ok.nd).mp (e1.trans e2.symm))
theorem ext_wr {k : Nat} {p : Addr} {ds es : List D} {us : List V} (ok : Ok g F ρ H S) (hk : ρ[k]? = some p) (hs : S[k]? = some (some ds)) : Ext F ρ H S ρ (upd H p (.lst us)) (S.set k (some es)) := by
  refine ⟨fun q o h _ l => ?_, fun q h => ?_, fun q ⟨i, fs, h1, h2⟩ => .inl ?_, ⟨[], by simp⟩⟩
  · have ne : q ≠ p := fun e => l ⟨k, ds, by rw [e]; exact hk, hs⟩
    rw [upd_ne ne]
    exact h
  · by_cases e : q = p
    · exact ⟨us, by rw [e, upd_same]⟩
    · rw [IsL, upd_ne e]
      exact h
  · by_cases e : k = i
    · subst e
      exact ⟨k, ds, h1, hs⟩
    · rw [List.getElem?_set_ne e] at h2
      exact ⟨i, fs, h1, h2⟩
theorem ok_wr {k : Nat} {p : Addr} {ds es : List D} {us : List V} (ok : Ok g F ρ H S) (hk : ρ[k]? = some p) (hs : S[k]? = some (some ds)) (r : Reps g H (Bar F ρ S) ρ es us) (hn : nrs es = true) : Ok g F ρ (upd H p (.lst us)) (S.set k (some es)) := by
  have x := ext_wr (es := es) (us := us) ok hk hs
  obtain ⟨_, q0, vs0, h10, h20, _, nf⟩ := ok.sto k ds hs
  rw [hk] at h10
  cases h10
  refine ⟨by simp [ok.len], ok.nd, fun q hq => x.there q (ok.trk q hq), fun i fs h => ?_, fun q hq => ?_, ?_⟩
  · by_cases e : k = i
    · subst e
      have hl : k < S.length := (List.getElem?_eq_some_iff.mp hs).1
      rw [List.getElem?_set_self hl] at h
      cases h
      exact ⟨hn, p, us, hk, upd_same, r.car (x.car ok), nf⟩
    · rw [List.getElem?_set_ne e] at h
      obtain ⟨h0, q, vs, h1, h2, h3, h4⟩ := ok.sto i fs h
      exact ⟨h0, q, vs, h1, by rw [upd_ne (ok_ne ok h1 hk (Ne.symm e))]; exact h2, h3.car (x.car ok), h4⟩
  · obtain ⟨xs, h⟩ := ok.fr q hq
    refine ⟨xs, ?_⟩
    rw [upd_ne fun e => nf (by rw [← e]; exact hq)]
    exact h
  · intro pr hp
    obtain ⟨ps, h1, h2, h3⟩ := ok.tab pr hp
    have ne : pr.1 ≠ p := fun e => by
      rw [e, h20] at h1
      cases h1
    refine ⟨ps, by rw [upd_ne ne]; exact h1, h2, fun pos cv hc => ?_⟩
    obtain ⟨c, e1, e2⟩ := h3 pos cv hc
    refine ⟨c, e1, ?_⟩
    have ne2 : c ≠ p := fun e => by
      rw [e, h20] at e2
      cases e2
    rw [upd_ne ne2]
    exact e2
end
def gSubD (mo mi : Env → M D) : MG := fun d env => bnd (mo env) fun o => bnd (mi env) fun i => bnd (fSet o i d) fun _ => ret env
theorem sg_sub {o i : Expr} {pos : Pos} {mo mi : Env → M D} (ho : PE X o (tE g W mo)) (hi : PE X i (tE g W mi))
    (ha : ∀ v, assign (.Subscript o i pos) X.env v = (do
      let ov ← holding [v] (eval o X.env)
      let iv ← holding [v, ov] (eval i X.env)
      standAt pos
      holding [v, ov, iv] (setItem ov iv v)
      release [v, ov, iv] []) := by intro _; rfl) : PG X (.Subscript o i pos) (tG g W (gSubD mo mi)) := wkG (pg_sub ho hi set_list ha) fun v σ H Q h => by
  refine tH.mono (fun ov H1 q => ?_) (push (k := fun ds env => match ds with | [d, o] => bnd (mi env) fun i => bnd (fSet o i d) fun _ => ret env | _ => noM) (vs := [v]) (h.cg1 fun d env => rfl))
  refine tH.mono (fun iv H2 q => ?_) (push (k := fun ds env => match ds with | [d, o, i] => bnd (fSet o i d) fun _ => ret env | _ => noM) (vs := [v, ov]) (q.cg fun ds env hl => ?_))
  · obtain ⟨nn, F, ρ, env, S, ds, n, ok, r, h⟩ := q
    cases r with
    | cons r1 r2 =>
      cases r2 with
      | cons r2 r3 =>
        cases r3 with
        | cons r3 r4 =>
          cases r4
          rename_i d o i
          cases o with
          | ref k =>
            cases i with
            | int i =>
              have h : Fin rEnv g F W nn ρ H2 S Q (bnd (bnd (rdS k) fun ds => bnd (getO (ixN ds.length i)) fun j => if nr d = true then wrS k (ds.set j d) else noM) (fun _ => ret env) S) := h
              rw [bnd_assoc] at h
              obtain ⟨ds, e0, h⟩ := rdS_ok h
              rw [bnd_assoc] at h
              obtain ⟨j, e1, h⟩ := getO_ok h
              by_cases hd : nr d = true
              · rw [if_pos hd] at h
                obtain ⟨p, rfl, hk⟩ := r2.inv_ref
                obtain ⟨vs, hp, t, hn⟩ := ok.rd hk e0
                rw [r3.inv_int]
                refine ⟨p, vs, i, j, rfl, rfl, hp, by rw [← t.length]; exact e1, ?_⟩
                have x := ext_wr (es := ds.set j d) (us := vs.set j v) ok hk e0
                exact h ρ _ σ x (ok_wr ok hk e0 (Reps.set r1 j t) (nrs_set hd j hn)) (n.car (x.car ok))
              · rw [if_neg hd] at h
                exact h.elim
            | _ => exact h.elim
          | _ => exact h.elim
  · obtain ⟨a, b, z⟩ : ∃ a b, ds = [a, b] := by
      match ds, hl with
      | [a, b], _ => exact ⟨a, b, rfl⟩
    rw [z]
    rfl
/-! ### assignment -/
def mAsg (m : Env → M D) (t : MG) : MS := fun env => bnd (m env) fun d => bnd (t d env) fun env' => ret (.nx, env')
theorem pushG {v : V} {t : MG} {D : Ends} {σ : L2.St} {H : Hp} (h : tH rFl g W (fun ds env => match ds with | [d] => bnd (t d env) fun env' => ret (.nx, env') | _ => noM) [v] σ H (endsQ D)) : tG g W t v σ H D.nx := by
  obtain ⟨nn, F, ρ, env, S, ds, n, o, r, h⟩ := h
  cases r with
  | cons r1 r2 =>
    cases r2
    rename_i d
    refine ⟨nn, F, ρ, env, S, [d], n, o, .one r1, ?_⟩
    have h : Fin rFl g F W nn ρ H S (endsQ D) (bnd (t d env) (fun env' => ret (.nx, env')) S) := h
    show Fin rEnv g F W nn ρ H S _ (t d env S)
    dsimp only [bnd] at h
    cases e : t d env S with
    | no =>
      rw [e] at h
      exact h
    | ex e1 S1 =>
      rw [e] at h
      exact h
    | ok env' S1 =>
      rw [e] at h
      exact fun ρ' H' σ' x o' r' => h ρ' H' (.nx σ') x o' r'
theorem ss_asg {tg e : Expr} {pos : Pos} {m : Env → M D} {t : MG} (he : PE X e (tE g W m)) (hg : PG X tg (tG g W t)) (hs : swapsWithSole [tg] e pos.line X.env = pure false := by rfl) (hw : swappedStores [tg] e X.env = pure none := by rfl)
    (h1 : (assignEach [tg] X.env).map (·.2) = [assign tg X.env] := by rfl) : PS X (.Assign [tg] e pos) (tS g W (mAsg m t)) := wkS (ps_asg he hg hs hw h1) fun D σ H h => by
  refine tH.mono (fun v H1 q => ?_) (push (k := fun ds env => match ds with | [d] => bnd (t d env) fun env' => ret (.nx, env') | _ => noM) (vs := []) (h.cg0 fun env => rfl))
  exact pushG q
theorem ss_set {i : Nat} {x : Str} {e : Expr} {pos pos' : Pos} {m : Env → M D} (he : PE X e (tE g W m)) (h : ∀ te, PE X e te → PS X (.Assign [.Name x pos'] e pos) (tAsg te (gName i))) : PS X (.Assign [.Name x pos'] e pos) (tS g W (mAsg m (gN i))) := wkS (h _ he) fun D σ H h => by
  refine tH.mono (fun v H1 q => ?_) (push (k := fun ds env => match ds with | [d] => bnd (gN i d env) fun env' => ret (.nx, env') | _ => noM) (vs := []) (h.cg0 fun env => rfl))
  obtain ⟨nn, F, ρ, env, S, ds, n, o, r, h⟩ := q
  cases r with
  | cons r1 r2 =>
    cases r2
    exact h ρ H1 (.nx _) .refl o (n.set r1 i)
/-- a, b = x, y with two local names -/
def mPar (i j : Nat) (m : Env → M (List D)) : MS := fun env => bnd (m env) fun ds => match ds with
  | [d, e] => ret (.nx, (env.set i (some d)).set j (some e))
  | _ => noM
theorem ss_par {i j : Nat} {x y : Str} {a b : Expr} {m : Env → M (List D)} {px py pt : Pos} {kt k2 pt2 pos} (hc : X.calm = true) (hN : X.N.Nodup) (hi : X.N[i]? = some x) (hj : X.N[j]? = some y) (hij : i ≠ j)
    (hx : X.env.scope.names.lookup x = some .local) (hy : X.env.scope.names.lookup y = some .local) (ha : PA X [a, b] (tL g W m))
    (hw : swappedStores [.Tuple [.Name x px, .Name y py] kt pt] (.Tuple [a, b] k2 pt2) X.env = pure (some [x, y]) := by rfl)
    (hs : swapsWithSole [.Tuple [.Name x px, .Name y py] kt pt] (.Tuple [a, b] k2 pt2) pos.line X.env = pure false := by rfl) :
    PS X (.Assign [.Tuple [.Name x px, .Name y py] kt pt] (.Tuple [a, b] k2 pt2) pos) (tS g W (mPar i j m)) := wkS (ps_par hc hN hi hj hij hx hy ha hw hs) fun D σ H h => by
  refine tH.mono (fun vs H1 q => ?_) (pushL (k := fun ds env => match ds with | [d, e] => ret (.nx, (env.set i (some d)).set j (some e)) | _ => noM) (vs := []) (h.cg0 fun env => rfl))
  obtain ⟨nn, F, ρ, env, S, ds, n, o, r, h⟩ := q
  cases r with
  | nil => exact h.elim
  | cons r1 r2 =>
    cases r2 with
    | nil => exact h.elim
    | cons r2 r3 =>
      cases r3 with
      | nil => exact ⟨_, _, rfl, h ρ H1 (.nx _) .refl o ((n.set r1 i).set r2 j)⟩
      | cons _ _ => exact h.elim
end
end Mir
set_option Elab.async false
set_option linter.all false
set_option maxRecDepth 100000
set_option maxHeartbeats 4000000
namespace Mir
open PySem PySem.Spec PyProof.Rows L2 RZ
/-! ### what a loop walks -/
/-- a turn leaves the heap, or lays one new tuple -/
def Grow (H H' : Hp) : Prop := H' = H ∨ ∃ (T : Addr) (xs : List V), H T = none ∧ H' = upd H T (.tup xs)
def rIt : Rl (List D) It := fun _ g H B ρ ds J => ∃ G Y, Walk J ds.length G Y ∧ (∀ H' B' ρ', Car g H H' B B' ρ ρ' → G H') ∧
  ∀ (i : Nat) (H1 : Hp) (x : V) (H2 : Hp) (B1 : Addr → Prop) (ρ1 : List Addr), Car g H H1 B B1 ρ ρ1 → i < ds.length → Y i H1 x H2 → Grow H1 H2 ∧ ∃ d, ds[i]? = some d ∧ (∀ B2 ρ2, Car g H H2 B B2 ρ ρ2 → Rep g H2 B2 ρ2 d x)
def tI (g : Gx) (W : WX) (m : Env → M (List D)) : TI := fun σ H R => tH rIt g W (fun _ => m) [] σ H R
theorem wkI {X : Cx} {tg e : Expr} {t u : TI} (h : PI X tg e t) (q : ∀ σ H Q, u σ H Q → t σ H Q) : PI X tg e u := ⟨fun pins s σ H R I hw => h.run pins s σ H R I (q σ H R hw)⟩
/-- a tuple or a list, whichever comes -/
def itS : D → M (List D)
  | .tup ds => ret ds
  | .lst ds => ret ds
  | _ => noM
def mIt (f : D → M (List D)) (m : Env → M D) (env : Env) : M (List D) := bnd (m env) f
def mItN (f : List D → M (List D)) (m : Env → M (List D)) (env : Env) : M (List D) := bnd (m env) f
section
variable {X : Cx} {g : Gx} {W : WX}
theorem it_tup {nn : Nat} {H : Hp} {B : Addr → Prop} {ρ : List Addr} {ds : List D} {vs : List V} {p : Addr} (hp : SqT g.K H p vs) (t : Reps g H B ρ ds vs) : rIt nn g H B ρ ds (Itt g.K p) := by
  refine ⟨_, _, by rw [t.length]; exact walk_tup (K := g.K) (a := p) (xs := vs), fun H' B' ρ' c => c.sqT hp, fun i H1 x H2 B1 ρ1 c hi y => ?_⟩
  obtain ⟨rfl, hx⟩ := y
  refine ⟨.inl rfl, ?_⟩
  obtain ⟨d, hd⟩ : ∃ d, ds[i]? = some d := ⟨ds[i], by simp [hi]⟩
  obtain ⟨v, h1, h2⟩ := t.get hd
  rw [hx] at h1
  cases h1
  exact ⟨d, hd, fun B2 ρ2 c2 => h2.car c2⟩
theorem it_lst {nn : Nat} {H : Hp} {B : Addr → Prop} {ρ : List Addr} {ds : List D} {vs : List V} {p : Addr} (hp : H p = some (.lst vs)) (nb : ¬ B p) (t : Reps g H B ρ ds vs) : rIt nn g H B ρ ds (Itl g.K p) := by
  refine ⟨_, _, by rw [t.length]; exact walk_list (K := g.K) (a := p) (xs := vs), fun H' B' ρ' c => SqL.of (c.keep _ _ hp (fun _ z => by cases z) (fun b => absurd b nb)), fun i H1 x H2 B1 ρ1 c hi y => ?_⟩
  obtain ⟨rfl, hx⟩ := y
  refine ⟨.inl rfl, ?_⟩
  obtain ⟨d, hd⟩ : ∃ d, ds[i]? = some d := ⟨ds[i], by simp [hi]⟩
  obtain ⟨v, h1, h2⟩ := t.get hd
  rw [hx] at h1
  cases h1
  exact ⟨d, hd, fun B2 ρ2 c2 => h2.car c2⟩
theorem si_or {X : Cx} {tg e : Expr} {t u : TI} (h1 : PI X tg e t) (h2 : PI X tg e u) : PI X tg e (fun σ H R => t σ H R ∨ u σ H R) := ⟨fun pins s σ H R I hw => hw.elim (h1.run pins s σ H R I) (h2.run pins s σ H R I)⟩
theorem pe_or2 {e : Expr} {ta tb : TE} (ha : PE X e ta) (hb : PE X e tb) : PE X e (fun σ H Q => ta σ H Q ∨ tb σ H Q) := ⟨fun pins s σ H Q I hw => hw.elim (ha.run pins s σ H Q I) (hb.run pins s σ H Q I)⟩
/-- which of the two it is, is known by the datum: m is run once more for it -/
theorem si_seq {tg e : Expr} {m : Env → M D} (hk : X.K = g.K) (he : PE X e (tE g W m)) : PI X tg e (tI g W (mIt itS m)) := by
  have h1 := pi_tup (tg := tg) he
  have h2 := pi_list (tg := tg) he
  refine ⟨fun pins s σ H R I h => ?_⟩
  obtain ⟨nn, F, ρ, env, S, ds, n, o, r, h⟩ := h
  have h : Fin rIt g F W nn ρ H S R (bnd (m env) itS S) := h
  dsimp only [bnd] at h
  cases e : m env S with
  | no =>
    rw [e] at h
    exact h.elim
  | ex e1 S1 =>
    rw [e] at h
    refine h1.run pins s σ H R I ⟨nn, F, ρ, env, S, [], n, o, .nil, ?_⟩
    show Fin rD g F W nn ρ H S _ (m env S)
    rw [e]
    exact h
  | ok d S1 =>
    rw [e] at h
    cases d with
    | tup ds =>
      refine h1.run pins s σ H R I ⟨nn, F, ρ, env, S, [], n, o, .nil, ?_⟩
      show Fin rD g F W nn ρ H S _ (m env S)
      rw [e]
      intro ρ' H' v x o' r'
      obtain ⟨p, vs, rfl, hp, t⟩ := r'.inv_tup
      rw [hk]
      exact ⟨p, rfl, ⟨vs, hp⟩, h ρ' H' _ x o' (it_tup hp t)⟩
    | lst ds =>
      refine h2.run pins s σ H R I ⟨nn, F, ρ, env, S, [], n, o, .nil, ?_⟩
      show Fin rD g F W nn ρ H S _ (m env S)
      rw [e]
      intro ρ' H' v x o' r'
      obtain ⟨p, vs, rfl, hp, nb, t⟩ := r'.inv_lst
      rw [hk]
      exact ⟨p, rfl, ⟨vs, SqL.of hp⟩, h ρ' H' _ x o' (it_lst hp nb t)⟩
    | _ => exact h.elim
/-- range -/
def rgD (a : Int) (k : Nat) : List D := (List.range k).map fun i => .int (a + (i : Nat))
def okI (i : Int) : Bool := decide (-(2 ^ 62) ≤ i) && decide (i < 2 ^ 62)
def fRg1 : List D → M (List D)
  | [.int j] => if okI j = true then ret (rgD 0 j.toNat) else noM
  | _ => noM
def fRg2 : List D → M (List D)
  | [.int i, .int j] => if okI i = true ∧ okI j = true then ret (rgD i (j - i).toNat) else noM
  | _ => noM
theorem it_rng {nn : Nat} {H : Hp} {B : Addr → Prop} {ρ : List Addr} (a : Int) (k : Nat) : rIt nn g H B ρ (rgD a k) (Itr a k) := by
  have hl : (rgD a k).length = k := by simp [rgD]
  refine ⟨_, _, by rw [hl]; exact walk_range (lo := a) (n := k), fun H' B' ρ' c => trivial, fun i H1 x H2 B1 ρ1 c hi y => ?_⟩
  obtain ⟨rfl, rfl⟩ := y
  rw [hl] at hi
  refine ⟨.inl rfl, .int (a + (i : Nat)), by simp [rgD, hi], fun _ _ _ => .int _⟩
theorem okI_iff {i : Int} (h : okI i = true) : -(2 ^ 62) ≤ i ∧ i < 2 ^ 62 := by
  simpa only [okI, Bool.and_eq_true, decide_eq_true_eq] using h
theorem si_rg1 {tg a : Expr} {p pos : Pos} {m : Env → M (List D)} (hg : Gl X "range") (hm : X.mg "range" = none) (ha : PA X [a] (tL g W m)) (hs : starEach [a] X.env = [(false, eval a X.env)] := by rfl) : PI X tg (.Call (.Name "range" p) [a] [] pos) (tI g W (mItN fRg1 m)) :=
  wkI (pi_range1 hg hm ha hs) fun σ H R h => by
    refine tH.mono (fun vs H1 q => ?_) (pushL (k := fun ds _ => fRg1 ds) (vs := []) (h.cg0 fun env => rfl))
    obtain ⟨nn, F, ρ, env, S, ds, n, o, r, h⟩ := q
    have r : Reps g H1 (Bar F ρ S) ρ ds vs := r
    have h : Fin rIt g F W nn ρ H1 S R (fRg1 ds S) := h
    unfold fRg1 at h
    split at h
    · cases r with
      | cons r1 r2 =>
        cases r2
        obtain ⟨hc, h⟩ := ite_ret h
        obtain ⟨c1, c2⟩ := okI_iff hc
        rw [r1.inv_int]
        exact ⟨_, rfl, c1, c2, h ρ H1 _ .refl o (it_rng 0 _)⟩
    · exact h.elim
theorem si_rg2 {tg a b : Expr} {p pos : Pos} {m : Env → M (List D)} (hg : Gl X "range") (hm : X.mg "range" = none) (ha : PA X [a, b] (tL g W m)) (hs : starEach [a, b] X.env = [(false, eval a X.env), (false, eval b X.env)] := by rfl) (hs2 : starEach [b] X.env = [(false, eval b X.env)] := by rfl) : PI X tg (.Call (.Name "range" p) [a, b] [] pos) (tI g W (mItN fRg2 m)) :=
  wkI (pi_range2 hg hm ha hs hs2) fun σ H R h => by
    refine tH.mono (fun vs H1 q => ?_) (pushL (k := fun ds _ => fRg2 ds) (vs := []) (h.cg0 fun env => rfl))
    obtain ⟨nn, F, ρ, env, S, ds, n, o, r, h⟩ := q
    have r : Reps g H1 (Bar F ρ S) ρ ds vs := r
    have h : Fin rIt g F W nn ρ H1 S R (fRg2 ds S) := h
    unfold fRg2 at h
    split at h
    · cases r with
      | cons r1 r2 =>
        cases r2 with
        | cons r2 r3 =>
          cases r3
          obtain ⟨hc, h⟩ := ite_ret h
          obtain ⟨c1, c2⟩ := okI_iff hc.1
          obtain ⟨c3, c4⟩ := okI_iff hc.2
          rw [r1.inv_int, r2.inv_int]
          exact ⟨_, _, rfl, ⟨c1, c2, c3, c4⟩, h ρ H1 _ .refl o (it_rng _ _)⟩
    · exact h.elim
/-- zip of two lists, of two tuples -/
def zpD : List D → List D → List D
  | a :: as, b :: bs => .tup [a, b] :: zpD as bs
  | _, _ => []
theorem zpD_length : ∀ as bs : List D, (zpD as bs).length = min as.length bs.length
  | [], _ => by simp [zpD]
  | _ :: _, [] => by simp [zpD]
  | a :: as, b :: bs => by simp [zpD, zpD_length as bs]
theorem zpD_get : ∀ {as bs : List D} {i : Nat} {a b : D}, as[i]? = some a → bs[i]? = some b → (zpD as bs)[i]? = some (.tup [a, b])
  | [], _, _, _, _, h, _ => by simp at h
  | _ :: _, [], _, _, _, _, h => by simp at h
  | _ :: _, _ :: _, 0, _, _, h1, h2 => by
    simp at h1 h2
    simp [zpD, h1, h2]
  | _ :: as, _ :: bs, i + 1, a, b, h1, h2 => by
    simp only [List.getElem?_cons_succ] at h1 h2
    simp only [zpD, List.getElem?_cons_succ]
    exact zpD_get h1 h2
def fZip : List D → M (List D)
  | [.tup as, .tup bs] => ret (zpD as bs)
  | [.lst as, .lst bs] => ret (zpD as bs)
  | _ => noM
theorem walk_zipT {K : PySem.W.Frag} {a b : Addr} {xs ys : List V} {n : Nat} (hn : n = min xs.length ys.length) : Walk (ItzT K a b) n (fun H => SqT K H a xs ∧ SqT K H b ys) (YPair (fun i => xs[i]?) (fun i => ys[i]?)) := by
  subst hn
  refine ⟨fun i _ hi q => ?_, fun _ q => ⟨xs, ys, q.1, q.2, by omega⟩, fun i H v H' _ q y => ?_⟩
  · have h1 : i < xs.length := by omega
    have h2 : i < ys.length := by omega
    exact ⟨xs, ys, xs[i], ys[i], q.1, q.2, by simp [h1], by simp [h2]⟩
  · obtain ⟨T, x, z, h1, h2, h3, h4, h5⟩ := y
    exact ⟨T, x, z, h1, h2, h3, h4 xs q.1, h5 ys q.2⟩
theorem zip_pair {H H1 H2 : Hp} {B B1 : Addr → Prop} {ρ ρ1 : List Addr} {as bs : List D} {vs us : List V} {i : Nat} {x : V} (t1 : Reps g H B ρ as vs) (t2 : Reps g H B ρ bs us) (hi : i < (zpD as bs).length)
    (y : YPair (fun i => vs[i]?) (fun i => us[i]?) i H1 x H2) : Grow H1 H2 ∧ ∃ d, (zpD as bs)[i]? = some d ∧ (∀ B2 ρ2, Car g H H2 B B2 ρ ρ2 → Rep g H2 B2 ρ2 d x) := by
  obtain ⟨T, x, z, rfl, hT, rfl, h1, h2⟩ := y
  rw [zpD_length] at hi
  obtain ⟨a, ha⟩ : ∃ d, as[i]? = some d := ⟨as[i]'(by omega), List.getElem?_eq_getElem (by omega)⟩
  obtain ⟨b, hb⟩ : ∃ d, bs[i]? = some d := ⟨bs[i]'(by omega), List.getElem?_eq_getElem (by omega)⟩
  obtain ⟨va, e1, ra⟩ := t1.get ha
  obtain ⟨vb, e2, rb⟩ := t2.get hb
  have h1 : vs[i]? = some x := h1
  have h2 : us[i]? = some z := h2
  rw [e1] at h1
  rw [e2] at h2
  cases h1
  cases h2
  exact ⟨.inr ⟨T, _, hT, rfl⟩, .tup [a, b], zpD_get ha hb, fun B2 ρ2 c2 => .tup (SqT.of upd_same) (.cons (ra.car c2) (.one (rb.car c2)))⟩
theorem si_zip {elts : List Expr} {kk : Nat} {tpos : Pos} {e e2 : Expr} {p pos : Pos} {m : Env → M (List D)} (hk : X.K = g.K) (hg : Gl X "zip") (hm : X.mg "zip" = none) (ha : PA X [e, e2] (tL g W m))
    (hs : starEach [e, e2] X.env = (false, eval e X.env) :: starEach [e2] X.env := by rfl) (hpl : (backTo pos (starEach [e2] X.env)).any (·.1) = false := by rfl) :
    PI X (.Tuple elts kk tpos) (.Call (.Name "zip" p) [e, e2] [] pos) (tI g W (mItN fZip m)) :=
  wkI (pi_zipA hg hm ha hs hpl) fun σ H R h => by
    refine tH.mono (fun vs H1 q => ?_) (pushL (k := fun ds _ => fZip ds) (vs := []) (h.cg0 fun env => rfl))
    obtain ⟨nn, F, ρ, env, S, ds, n, o, r, h⟩ := q
    have r : Reps g H1 (Bar F ρ S) ρ ds vs := r
    rw [hk]
    have h : Fin rIt g F W nn ρ H1 S R (fZip ds S) := h
    unfold fZip at h
    split at h
    · cases r with
      | cons r1 r2 =>
        cases r2 with
        | cons r2 r3 =>
          cases r3
          obtain ⟨a, vs, rfl, hp, t1⟩ := r1.inv_tup
          obtain ⟨b, us, rfl, hq, t2⟩ := r2.inv_tup
          refine ⟨a, b, vs, us, rfl, .inr ⟨hp, hq, h ρ H1 _ .refl o ⟨_, _, walk_zipT (xs := vs) (ys := us) (by rw [zpD_length, t1.length, t2.length]), fun H' B' ρ' c => ⟨c.sqT hp, c.sqT hq⟩, fun i H1 x H2 B1 ρ1 c hi y => zip_pair (B1 := B1) (ρ1 := ρ1) t1 t2 hi y⟩⟩⟩
    · cases r with
      | cons r1 r2 =>
        cases r2 with
        | cons r2 r3 =>
          cases r3
          obtain ⟨a, vs, rfl, hp, nb, t1⟩ := r1.inv_lst
          obtain ⟨b, us, rfl, hq, nb2, t2⟩ := r2.inv_lst
          refine ⟨a, b, vs, us, rfl, .inl ⟨SqL.of hp, SqL.of hq, h ρ H1 _ .refl o ⟨_, _, walk_zip (xs := vs) (ys := us) (by rw [zpD_length, t1.length, t2.length]), fun H' B' ρ' c => ⟨SqL.of (c.keep _ _ hp (fun _ z => by cases z) (fun b => absurd b nb)), SqL.of (c.keep _ _ hq (fun _ z => by cases z) (fun b => absurd b nb2))⟩, fun i H1 x H2 B1 ρ1 c hi y => zip_pair (B1 := B1) (ρ1 := ρ1) t1 t2 hi y⟩⟩⟩
    · exact h.elim
end
/-! ### for -/
def forGo (tg : MG) (b : MS) : List D → MS
  | [], env => ret (.nx, env)
  | d :: r, env => bnd (tg d env) fun env1 => bnd (b env1) fun z => match z with
    | (.nx, env2) => forGo tg b r env2
    | (.ct, env2) => forGo tg b r env2
    | (.bk, env2) => ret (.nx, env2)
    | (.rt d, env2) => ret (.rt d, env2)
def mFor (mi : Env → M (List D)) (tg : MG) (b : MS) : MS := fun env => bnd (mi env) fun ds => forGo tg b ds env
theorem ext_grow {g : Gx} {F ρ : List Addr} {H H' : Hp} {S : Sto} (ok : Ok g F ρ H S) (gr : Grow H H') : Ext F ρ H S ρ H' S ∧ Ok g F ρ H' S := by
  rcases gr with rfl | ⟨T, xs, hT, rfl⟩
  · exact ⟨.refl, ok⟩
  · exact ⟨ext_new ok hT, ok_new ok hT⟩
section
variable {X : Cx} {g : Gx} {W : WX}
theorem for_ok {mi : Env → M (List D)} {tg : MG} {b : MS} {D : Ends} {σ : L2.St} {H : Hp} (h : tS g W (mFor mi tg b) D σ H) : tFor (tI g W mi) (tG g W tg) (tS g W b) D σ H := by
  obtain ⟨nn, F, ρ, env, S, ds, n, o, r, h⟩ := h
  refine ⟨nn, F, ρ, env, S, [], n, o, .nil, ?_⟩
  have h : Fin rFl g F W nn ρ H S (endsQ D) (mFor mi tg b env S) := h
  show Fin rIt g F W nn ρ H S _ (mi env S)
  dsimp only [mFor, bnd] at h
  cases e : mi env S with
  | no =>
    rw [e] at h
    exact h
  | ex e1 S1 =>
    rw [e] at h
    exact h
  | ok es S1 =>
    rw [e] at h
    intro ρ1 H1 J x1 o1 rit
    obtain ⟨G, Y, wk, hG, hY⟩ := rit
    refine for_it wk (fun i σ' H' => ∃ ρ' env' S', EnvOk g H' (Bar F ρ' S') ρ' nn env' σ' ∧ Ok g F ρ' H' S' ∧ Ext F ρ1 H1 S1 ρ' H' S' ∧ Fin rFl g F W nn ρ' H' S' (endsQ D) (forGo tg b (es.drop i) env' S'))
      ⟨ρ1, env, S1, n.car (x1.car o), o1, .refl, ?_⟩ ?_ ?_ ?_
    · rw [List.drop_zero]
      exact Fin.ext x1 h
    · rintro i σ' H' _ ⟨ρ', env', S', n', o', x', _⟩
      exact hG H' _ _ (x'.car o1)
    · rintro i x σ' H' H2 hlt ⟨ρ', env', S', n', o', x', h'⟩ y
      obtain ⟨gr, d, hd, rp⟩ := hY i H' x H2 _ _ (x'.car o1) hlt y
      obtain ⟨xg, og⟩ := ext_grow o' gr
      have hdrop : es.drop i = d :: es.drop (i + 1) := by
        obtain ⟨hi, e⟩ := List.getElem?_eq_some_iff.mp hd
        rw [List.drop_eq_getElem_cons hi, e]
      rw [hdrop] at h'
      have h' := Fin.ext xg h'
      refine ⟨nn, F, ρ', env', S', [d], n'.car (xg.car o'), og, .one (rp _ _ ((x'.trans xg).car o1)), ?_⟩
      show Fin rEnv g F W nn ρ' H2 S' _ (tg d env' S')
      dsimp only [forGo, bnd] at h'
      cases et : tg d env' S' with
      | no =>
        rw [et] at h'
        exact h'
      | ex e1 S2 =>
        rw [et] at h'
        exact h'
      | ok env1 S2 =>
        rw [et] at h'
        intro ρ2 H3 σ2 x2 o2 n2
        refine ⟨nn, F, ρ2, env1, S2, [], n2, o2, .nil, ?_⟩
        show Fin rFl g F W nn ρ2 H3 S2 _ (b env1 S2)
        have h' := Fin.ext x2 h'
        have xx : Ext F ρ1 H1 S1 ρ2 H3 S2 := (x'.trans xg).trans x2
        dsimp only at h'
        cases eb : b env1 S2 with
        | no =>
          rw [eb] at h'
          exact h'
        | ex e1 S3 =>
          rw [eb] at h'
          exact h'
        | ok z S3 =>
          rw [eb] at h'
          obtain ⟨f, env2⟩ := z
          cases f with
          | nx =>
            intro ρ3 H4 q x3 o3 r3
            cases q with
            | nx σ3 => exact ⟨ρ3, env2, S3, r3, o3, xx.trans x3, Fin.ext x3 h'⟩
            | _ => exact r3.elim
          | ct =>
            intro ρ3 H4 q x3 o3 r3
            cases q with
            | ct σ3 => exact ⟨ρ3, env2, S3, r3, o3, xx.trans x3, Fin.ext x3 h'⟩
            | _ => exact r3.elim
          | bk =>
            intro ρ3 H4 q x3 o3 r3
            cases q with
            | bk σ3 => exact h' ρ3 H4 (.nx σ3) x3 o3 r3
            | _ => exact r3.elim
          | rt d =>
            intro ρ3 H4 q x3 o3 r3
            cases q with
            | rt v => exact h' ρ3 H4 (.rt v) x3 o3 r3
            | _ => exact r3.elim
    · rintro σ' H' ⟨ρ', env', S', n', o', x', h'⟩
      rw [List.drop_length] at h'
      exact h' ρ' H' (.nx σ') .refl o' n'
theorem ss_for {tg iter : Expr} {body : List Stmt} {pos : Pos} {mi : Env → M (List D)} {t : MG} {b : MS} (hp : PassesOwn (model X.prog X.w) X.A X.env X.xe) (hc : X.calm = true) (hi : PI X tg iter (tI g W mi)) (hg : PG X tg (tG g W t)) (hb : PSs X body (tS g W b))
    (hs : ∀ x, foldedSetIterable iter X.env x = pure x := by intro _; rfl) : PS X (.For tg iter body [] pos) (tS g W (mFor mi t b)) := wkS (ps_for hp hc hi hg hb hs) fun _ _ _ h => for_ok h
/-! ### while -/
def whGo (c : Env → M Bool) (b : MS) : Nat → MS
  | 0, _ => noM
  | k + 1, env => bnd (c env) fun t => if t = true then bnd (b env) fun z => match z with
    | (.nx, env2) => whGo c b k env2
    | (.ct, env2) => whGo c b k env2
    | (.bk, env2) => ret (.nx, env2)
    | (.rt d, env2) => ret (.rt d, env2) else ret (.nx, env)
theorem while_ok {c : Env → M Bool} {b : MS} {k : Nat} {D : Ends} {σ : L2.St} {H : Hp} (h : tS g W (whGo c b k) D σ H) : tWhile (tB g W c) (tS g W b) D σ H := by
  refine ⟨fun k σ H => tS g W (whGo c b k) D σ H, ⟨k, h⟩, fun k σ H h => ?_⟩
  cases k with
  | zero =>
    obtain ⟨nn, F, ρ, env, S, ds, n, o, r, h⟩ := h
    exact h.elim
  | succ k =>
    refine tH.mono (fun t H1 q => ?_) (pushT (k := fun t _ env => if t = true then bnd (b env) fun z => match z with
      | (.nx, env2) => whGo c b k env2
      | (.ct, env2) => whGo c b k env2
      | (.bk, env2) => ret (.nx, env2)
      | (.rt d, env2) => ret (.rt d, env2) else ret (.nx, env)) (vs := []) (h.cg0 fun env => rfl))
    cases t with
    | false =>
      obtain ⟨nn, F, ρ, env, S, ds, n, o, r, h⟩ := q
      exact h ρ H1 (.nx σ) .refl o n
    | true =>
      refine ⟨fun σ H => tS g W (whGo c b k) D σ H, fun σ' H' q => ⟨k, Nat.lt_succ_self k, q⟩, ?_⟩
      obtain ⟨nn, F, ρ, env, S, ds, n, o, r, h⟩ := q
      refine ⟨nn, F, ρ, env, S, [], n, o, .nil, ?_⟩
      show Fin rFl g F W nn ρ H1 S _ (b env S)
      have h : Fin rFl g F W nn ρ H1 S (endsQ D) (bnd (b env) (fun z => match z with
        | (.nx, env2) => whGo c b k env2
        | (.ct, env2) => whGo c b k env2
        | (.bk, env2) => ret (.nx, env2)
        | (.rt d, env2) => ret (.rt d, env2)) S) := h
      dsimp only [bnd] at h
      cases eb : b env S with
      | no =>
        rw [eb] at h
        exact h
      | ex e1 S3 =>
        rw [eb] at h
        exact h
      | ok z S3 =>
        rw [eb] at h
        obtain ⟨f, env2⟩ := z
        cases f with
        | nx =>
          intro ρ3 H4 q x3 o3 r3
          cases q with
          | nx σ3 => exact ⟨nn, F, ρ3, env2, S3, [], r3, o3, .nil, Fin.ext x3 h⟩
          | _ => exact r3.elim
        | ct =>
          intro ρ3 H4 q x3 o3 r3
          cases q with
          | ct σ3 => exact ⟨nn, F, ρ3, env2, S3, [], r3, o3, .nil, Fin.ext x3 h⟩
          | _ => exact r3.elim
        | bk =>
          intro ρ3 H4 q x3 o3 r3
          cases q with
          | bk σ3 => exact h ρ3 H4 (.nx σ3) x3 o3 r3
          | _ => exact r3.elim
        | rt d =>
          intro ρ3 H4 q x3 o3 r3
          cases q with
          | rt v => exact h ρ3 H4 (.rt v) x3 o3 r3
          | _ => exact r3.elim
theorem ss_while {c : Expr} {body : List Stmt} {pos : Pos} {mc : Env → M Bool} {b : MS} (k : Nat) (hp : PassesOwn (model X.prog X.w) X.A X.env X.xe) (hc : PT X c (tB g W mc)) (hb : PSs X body (tS g W b)) : PS X (.While c body [] pos) (tS g W (whGo mc b k)) := wkS (ps_while hp hc hb) fun _ _ _ h => while_ok h
end
end Mir
set_option Elab.async false
set_option linter.all false
set_option maxRecDepth 100000
set_option maxHeartbeats 4000000
namespace Mir
open PySem PySem.Spec PyProof.Rows L2 RZ
/-! ### comprehensions -/
/-- within a comprehension nothing may be raised -/
def nox {α : Type} (m : M α) : M α := fun S => match m S with
  | .ex _ _ => .no
  | r => r
def W0 : WX := fun _ _ _ _ => False
def wipeD (env : Env) : List Nat → Env
  | [] => env
  | v :: vs => (wipeD env vs).set v none
def lcGo (tg : MG) (t : Env → M Bool) (m : Env → M D) (env0 : Env) : List D → List D → M D
  | [], acc => ret (.lst acc)
  | d :: r, acc => bnd (nox (tg d env0)) fun env1 => bnd (nox (t env1)) fun k => if k = true then bnd (nox (m env1)) fun y => if acc.length < sizeLine then lcGo tg t m env0 r (acc ++ [y]) else noM else lcGo tg t m env0 r acc
def mLc (mi : Env → M (List D)) (tg : MG) (t : Env → M Bool) (m : Env → M D) (vs : List Nat) (env : Env) : M D := bnd (mi env) fun ds => lcGo tg t m (wipeD env vs) ds []
section
variable {g : Gx} {H H' : Hp} {B : Addr → Prop} {ρ : List Addr} {nn : Nat}
theorem EnvOk.gone {env : Env} {σ : L2.St} (n : EnvOk g H B ρ nn env σ) (i : Nat) : EnvOk g H B ρ nn (env.set i none) (σ.set i none) := by
  refine ⟨by simp [n.len], by simp [n.len2], fun j d' h => ?_⟩
  by_cases hj : i = j
  · subst hj
    have hi : i < env.length := by
      have := (List.getElem?_eq_some_iff.mp h).1
      simpa using this
    rw [List.getElem?_set_self hi] at h
    cases h
  · rw [List.getElem?_set_ne hj] at h
    obtain ⟨v', h1, h2⟩ := n.loc j d' h
    exact ⟨v', by rw [List.getElem?_set_ne hj]; exact h1, h2⟩
theorem EnvOk.wipe {env : Env} {σ : L2.St} (n : EnvOk g H B ρ nn env σ) : ∀ vs : List Nat, EnvOk g H B ρ nn (wipeD env vs) (L2.wipe σ vs)
  | [] => n
  | v :: vs => (EnvOk.wipe n vs).gone v
end
/-- a comprehension's target: all slots but vs stay -/
abbrev rEnvW (vs : List Nat) (σ0 : L2.St) : Rl Env L2.St := fun nn g H B ρ env σ => EnvOk g H B ρ nn env σ ∧ wipe σ vs = wipe σ0 vs
def tGw (ws : List Nat) (g : Gx) (m : MG) : TG := fun v σ H Q => tH (rEnvW ws σ) g W0 (fun ds env => match ds with | [d] => m d env | _ => noM) [v] σ H Q
def tGws (ws : List Nat) (g : Gx) (m : List D → Env → M Env) : TGs := fun vs σ H Q => tH (rEnvW ws σ) g W0 m vs σ H Q
theorem wipe_set {σ : L2.St} {i : Nat} {o : Option V} : ∀ {vs : List Nat}, i ∈ vs → wipe (σ.set i o) vs = wipe σ vs
  | [], h => by cases h
  | w :: ws, h => by
    unfold wipe
    by_cases hw : i ∈ ws
    · rw [wipe_set hw]
    · have e : i = w := by
        rcases List.mem_cons.mp h with z | z
        · exact z
        · exact absurd z hw
      subst e
      have key : ∀ us : List Nat, i ∉ us → wipe (σ.set i o) us = (wipe σ us).set i o := fun us => by
        induction us with
        | nil => intro _; rfl
        | cons u us ih =>
          intro hu
          have h1 : i ≠ u := fun e => hu (by rw [e]; exact List.mem_cons_self)
          show (wipe (σ.set i o) us).set u none = ((wipe σ us).set u none).set i o
          rw [ih (fun z => hu (List.mem_cons_of_mem _ z)), List.set_comm _ _ h1]
      rw [key ws hw, List.set_set]
theorem wipe_wipe {σ : L2.St} {vs : List Nat} : ∀ us : List Nat, (∀ u ∈ us, u ∈ vs) → wipe (wipe σ us) vs = wipe σ vs
  | [], _ => rfl
  | u :: us, h => by
    show wipe ((wipe σ us).set u none) vs = wipe σ vs
    rw [wipe_set (h u List.mem_cons_self), wipe_wipe us fun z hz => h z (List.mem_cons_of_mem _ hz)]
section
variable {X : Cx} {g : Gx} {ws : List Nat}
theorem sc_name {i : Nat} {x : Str} {pos : Pos} (hi : i ∈ ws) (h : PG X (.Name x pos) (gName i)) : PG X (.Name x pos) (tGw ws g (gN i)) := wkG h fun v σ H Q h => by
  obtain ⟨nn, F, ρ, env, S, ds, n, o, r, h⟩ := h
  cases r with
  | cons r1 r2 =>
    cases r2
    exact h ρ H _ .refl o ⟨n.set r1 i, wipe_set hi⟩
theorem scs_nil : PGs X [] (tGws ws g gsNil) := wkGs pgs_nil fun vs σ H Q h => by
  obtain ⟨nn, F, ρ, env, S, ds, n, o, r, h⟩ := h
  cases r with
  | nil => exact ⟨rfl, h ρ H _ .refl o ⟨n, rfl⟩⟩
  | cons _ _ => exact h.elim
theorem scs_cons {e : Expr} {es : List Expr} {t : MG} {u : List D → Env → M Env} (h1 : PG X e (tGw ws g t)) (h2 : PGs X es (tGws ws g u))
    (hs : (assignEach (e :: es) X.env).map (·.2) = assign e X.env :: (assignEach es X.env).map (·.2) := by rfl) : PGs X (e :: es) (tGws ws g (gsCons t u)) := wkGs (pgs_cons h1 h2 hs) fun vs σ H Q h => by
  obtain ⟨nn, F, ρ, env, S, ds, n, o, r, h⟩ := h
  cases r with
  | nil => exact h.elim
  | cons r1 r2 =>
    rename_i d v ds vs
    refine ⟨v, vs, rfl, nn, F, ρ, env, S, [d], n, o, .one r1, ?_⟩
    have h : Fin (rEnvW ws σ) g F W0 nn ρ H S Q (bnd (t d env) (fun env' => u ds env') S) := h
    show Fin (rEnvW ws σ) g F W0 nn ρ H S _ (t d env S)
    dsimp only [bnd] at h
    cases e : t d env S with
    | no =>
      rw [e] at h
      exact h
    | ex e1 S1 =>
      rw [e] at h
      exact h
    | ok env' S1 =>
      rw [e] at h
      intro ρ' H' σ' x o' r'
      refine ⟨nn, F, ρ', env', S1, ds, r'.1, o', r2.car (x.car o), ?_⟩
      have h := Fin.ext x h
      have e2 : rEnvW ws σ' = rEnvW ws σ := by
        unfold rEnvW
        rw [r'.2]
      rw [e2]
      exact h
theorem sc_tup {es : List Expr} {kk : Nat} {pos : Pos} {t : List D → Env → M Env} {n : Nat} (hk : X.K = g.K) (hc : X.calm = true) (h : PGs X es (tGws ws g t))
    (hn : (assignEach es X.env).length = n := by rfl) (hst : (assignEach es X.env).findIdx? (·.1) = none := by rfl) : PG X (.Tuple es kk pos) (tGw ws g (gTupD n t)) := wkG (pg_tup hc h hn hst) fun v σ H Q h => by
  obtain ⟨nn, F, ρ, env, S, ds, n, o, r, h⟩ := h
  cases r with
  | cons r1 r2 =>
    cases r2
    rename_i d
    cases d with
    | tup ds =>
      obtain ⟨p, vs, rfl, hp, t2⟩ := r1.inv_tup
      obtain ⟨hl, h⟩ := ite_ret (c := ds.length = _) h
      exact ⟨p, vs, rfl, by rw [hk]; exact hp, by rw [← t2.length]; exact hl, nn, F, ρ, env, S, ds, n, o, t2, h⟩
    | _ => exact h.elim
def mYes (_ : Env) : M Bool := ret true
theorem sts_nil {W : WX} : PTs X [] (tB g W mYes) := ⟨fun pins s σ H Q I hw => pts_nil.run pins s σ H Q I (by
  obtain ⟨nn, F, ρ, env, S, ds, n, o, r, h⟩ := hw
  exact h ρ H true .refl o rfl)⟩
theorem sts_one {W : WX} {c : Expr} {m : Env → M Bool} (h : PT X c (tB g W m)) : PTs X [c] (tB g W m) := pts_one h
end
section
variable {g : Gx} {F ρ ρ1 : List Addr} {H H1 : Hp} {S S1 : Sto} {Dd : Addr}
/-- a hidden list is laid -/
theorem ok_hid (ok : Ok g F ρ H S) (hD : H Dd = none) : Ok g (Dd :: F) ρ (upd H Dd (.lst [])) S ∧ Car g H (upd H Dd (.lst [])) (Bar F ρ S) (Bar (Dd :: F) ρ S) ρ ρ := by
  have c : Car g H (upd H Dd (.lst [])) (Bar F ρ S) (Bar (Dd :: F) ρ S) ρ ρ := by
    refine ⟨fun p o h _ _ => by rw [upd_ne (ne_of_none h hD)]; exact h, fun p b => ?_, fun _ _ h => h⟩
    rcases b with l | f
    · exact .inl (.inl l)
    · rcases List.mem_cons.mp f with e | f
      · rw [e]
        exact .inr (.of hD)
      · exact .inl (.inr f)
  refine ⟨⟨ok.len, ok.nd, fun p hp => ?_, fun i ds h => ?_, fun p hp => ?_, Tabs.upd ok.tab hD⟩, c⟩
  · obtain ⟨xs, h⟩ := ok.trk p hp
    exact ⟨xs, by rw [upd_ne (ne_of_none h hD)]; exact h⟩
  · obtain ⟨h0, q, vs, h1, h2, h3, h4⟩ := ok.sto i ds h
    refine ⟨h0, q, vs, h1, by rw [upd_ne (ne_of_none h2 hD)]; exact h2, h3.car c, fun z => ?_⟩
    rcases List.mem_cons.mp z with e | z
    · rw [e, hD] at h2
      cases h2
    · exact h4 z
  · rcases List.mem_cons.mp hp with e | hp
    · exact ⟨[], by rw [e, upd_same]⟩
    · obtain ⟨xs, h⟩ := ok.fr p hp
      exact ⟨xs, by rw [upd_ne (ne_of_none h hD)]; exact h⟩
/-- a hidden list is written -/
theorem ok_hidw {acc us : List V} (ok : Ok g (Dd :: F) ρ H S) (hD : H Dd = some (.lst acc)) : Ok g (Dd :: F) ρ (upd H Dd (.lst us)) S ∧ Car g H (upd H Dd (.lst us)) (Bar (Dd :: F) ρ S) (Bar (Dd :: F) ρ S) ρ ρ := by
  have c : Car g H (upd H Dd (.lst us)) (Bar (Dd :: F) ρ S) (Bar (Dd :: F) ρ S) ρ ρ := by
    refine ⟨fun p o h _ nb => ?_, fun p b => .inl b, fun _ _ h => h⟩
    have ne : p ≠ Dd := fun e => by
      rw [e, hD] at h
      cases h
      exact nb (.inr (by rw [e]; exact List.mem_cons_self)) _ rfl
    rw [upd_ne ne]
    exact h
  refine ⟨⟨ok.len, ok.nd, fun p hp => ?_, fun i ds h => ?_, fun p hp => ?_, fun pr hp => ?_⟩, c⟩
  · by_cases e : p = Dd
    · exact ⟨us, by rw [e, upd_same]⟩
    · rw [IsL, upd_ne e]
      exact ok.trk p hp
  · obtain ⟨h0, q, vs, h1, h2, h3, h4⟩ := ok.sto i ds h
    exact ⟨h0, q, vs, h1, by rw [upd_ne fun e => h4 (by rw [e]; exact List.mem_cons_self)]; exact h2, h3.car c, h4⟩
  · by_cases e : p = Dd
    · exact ⟨us, by rw [e, upd_same]⟩
    · obtain ⟨xs, h⟩ := ok.fr p hp
      exact ⟨xs, by rw [upd_ne e]; exact h⟩
  · obtain ⟨ps, h1, h2, h3⟩ := ok.tab pr hp
    have ne : pr.1 ≠ Dd := fun e => by
      rw [e, hD] at h1
      cases h1
    refine ⟨ps, by rw [upd_ne ne]; exact h1, h2, fun pos cv hc => ?_⟩
    obtain ⟨c, e1, e2⟩ := h3 pos cv hc
    refine ⟨c, e1, ?_⟩
    have ne2 : c ≠ Dd := fun e => by
      rw [e, hD] at e2
      cases e2
    rw [upd_ne ne2]
    exact e2
/-- .. is shown -/
theorem ok_show (ok : Ok g (Dd :: F) ρ H S) (nF : Dd ∉ F) : Ok g F ρ H S ∧ ¬ Bar F ρ S Dd ∧ Car g H H (Bar (Dd :: F) ρ S) (Bar F ρ S) ρ ρ := by
  have c : Car g H H (Bar (Dd :: F) ρ S) (Bar F ρ S) ρ ρ := ⟨fun p o h _ _ => h, fun p b => by
    rcases b with l | f
    · exact .inl (.inl l)
    · exact .inl (.inr (List.mem_cons_of_mem _ f)), fun _ _ h => h⟩
  refine ⟨⟨ok.len, ok.nd, ok.trk, fun i ds h => ?_, fun p hp => ok.fr p (List.mem_cons_of_mem _ hp), ok.tab⟩, fun b => ?_, c⟩
  · obtain ⟨h0, q, vs, h1, h2, h3, h4⟩ := ok.sto i ds h
    exact ⟨h0, q, vs, h1, h2, h3.car c, fun z => h4 (List.mem_cons_of_mem _ z)⟩
  · rcases b with ⟨i, ds, h1, h2⟩ | f
    · obtain ⟨_, q, vs, e1, _, _, h4⟩ := ok.sto i ds h2
      rw [h1] at e1
      cases e1
      exact h4 List.mem_cons_self
    · exact nF f
theorem Ext.updD {H0 : Hp} {ρ0 : List Addr} {S0 : Sto} {o : HO} (x : Ext F ρ0 H0 S0 ρ H S) (hD : H0 Dd = none) : Ext F ρ0 H0 S0 ρ (upd H Dd o) S :=
  ⟨fun p u h n l => by rw [upd_ne (ne_of_none h hD)]; exact x.keep p u h n l, fun p ⟨xs, h⟩ => by
    rw [IsL, upd_ne (ne_of_none h hD)]
    exact x.there p ⟨xs, h⟩, x.live, x.rho⟩
theorem Ext.anyF {F F' ρ0 ρ : List Addr} {H0 H : Hp} {S0 S : Sto} (x : Ext F ρ0 H0 S0 ρ H S) : Ext F' ρ0 H0 S0 ρ H S := ⟨x.keep, x.there, x.live, x.rho⟩
end
theorem nox_ok {α : Type} {m : M α} {S S' : Sto} {a : α} (h : nox m S = .ok a S') : m S = .ok a S' := by
  unfold nox at h
  cases e : m S with
  | ok b T =>
    rw [e] at h
    exact h
  | ex _ _ =>
    rw [e] at h
    cases h
  | no =>
    rw [e] at h
    cases h
section
variable {X : Cx} {g : Gx} {W : WX}
theorem bnd_nox {α β γ : Type} {rl : Rl γ β} {m : M α} {f : α → M γ} {F ρ : List Addr} {H : Hp} {S S0 : Sto} {nn : Nat} {Q : β → Hp → Prop} (h : Fin rl g F W nn ρ H S0 Q (bnd (nox m) f S)) : ∃ a S1, m S = .ok a S1 ∧ Fin rl g F W nn ρ H S0 Q (f a S1) := by
  unfold bnd at h
  cases e : nox m S with
  | ok a S1 =>
    rw [e] at h
    exact ⟨a, S1, nox_ok e, h⟩
  | ex e1 S1 =>
    exfalso
    unfold nox at e
    cases e2 : m S with
    | ok b T => rw [e2] at e; cases e
    | ex _ _ => rw [e2] at e; cases e
    | no => rw [e2] at e; cases e
  | no =>
    rw [e] at h
    exact h.elim
theorem lc_ok {mi : Env → M (List D)} {tg : MG} {t : Env → M Bool} {m : Env → M D} {vs : List Nat} {σ : L2.St} {H : Hp} {Q : VK} (h : tE g W (mLc mi tg t m vs) σ H Q) : tLc (tI g W mi) (tGw vs g tg) (tB g W0 t) (tE g W0 m) vs σ H Q := by
  obtain ⟨nn, F, ρ, env, S, ds, n, o, r, h⟩ := h
  refine ⟨nn, F, ρ, env, S, [], n, o, .nil, ?_⟩
  have h : Fin rD g F W nn ρ H S Q (mLc mi tg t m vs env S) := h
  show Fin rIt g F W nn ρ H S _ (mi env S)
  dsimp only [mLc] at h
  unfold bnd at h
  cases e : mi env S with
  | no =>
    rw [e] at h
    exact h
  | ex e1 S1 =>
    rw [e] at h
    exact h
  | ok es S1 =>
    rw [e] at h
    intro ρ1 H1 J x1 o1 rit
    obtain ⟨G, Y, wk, hG, hY⟩ := rit
    intro Dd hD
    have h := Fin.ext x1 h
    have n1 := n.car (x1.car o)
    obtain ⟨oD, cD⟩ := ok_hid o1 hD
    have nF : Dd ∉ F := fun z => by
      obtain ⟨xs, q⟩ := o1.fr Dd z
      rw [hD] at q
      cases q
    have wEnv : ∀ {H' : Hp} {B' : Addr → Prop} {ρ' : List Addr}, EnvOk g H' B' ρ' nn env σ → EnvOk g H' B' ρ' nn (wipeD env vs) (wipe σ vs) := fun q => q.wipe vs
    refine lc_it wk (fun i H' => ∃ ρ' S' acc vacc, EnvOk g H' (Bar (Dd :: F) ρ' S') ρ' nn env σ ∧ Ok g (Dd :: F) ρ' H' S' ∧ Ext F ρ1 H1 S1 ρ' H' S' ∧ Car g H1 H' (Bar F ρ1 S1) (Bar (Dd :: F) ρ' S') ρ1 ρ' ∧
        H' Dd = some (.lst vacc) ∧ Reps g H' (Bar (Dd :: F) ρ' S') ρ' acc vacc ∧ Fin rD g F W nn ρ1 H1 S1 Q (lcGo tg t m (wipeD env vs) (es.drop i) acc S'))
      ⟨ρ1, S1, [], [], n1.car cD, oD, (Ext.refl (F := F)).updD hD, cD, upd_same, .nil, ?_⟩ ?_ ?_ ?_
    · rw [List.drop_zero]
      exact h
    · rintro i H' _ ⟨ρ', S', acc, vacc, n', o', x', c', hv, ra, _⟩
      exact hG H' _ _ c'
    · rintro i x H' H2 hlt ⟨ρ', S', acc, vacc, n', o', x', c', hv, ra, h'⟩ y
      obtain ⟨gr, d, hd, rp⟩ := hY i H' x H2 _ _ c' hlt y
      obtain ⟨xg, og⟩ := ext_grow o' gr
      have hdrop : es.drop i = d :: es.drop (i + 1) := by
        obtain ⟨hi, e⟩ := List.getElem?_eq_some_iff.mp hd
        rw [List.drop_eq_getElem_cons hi, e]
      rw [hdrop] at h'
      have carT : ∀ {H3 : Hp} {ρ3 : List Addr} {S3 : Sto}, Ext (Dd :: F) ρ' H' S' ρ3 H3 S3 → Car g H1 H3 (Bar F ρ1 S1) (Bar (Dd :: F) ρ3 S3) ρ1 ρ3 := fun {H3 ρ3 S3} xx => by
        have c2 := xx.car o'
        refine ⟨fun p u h nt nb => c2.keep p u (c'.keep p u h nt nb) nt fun b => ?_, fun p b => ?_, fun i p h => c2.rho i p (c'.rho i p h)⟩
        · rcases c'.bar p b with z | z
          · exact nb z
          · obtain ⟨ps, e⟩ := z _ h
            exact absurd e (nt ps)
        · rcases c2.bar p b with z | z
          · exact c'.bar p z
          · by_cases l : Live ρ1 S1 p
            · exact .inl (.inl l)
            · refine .inr fun o q => ?_
              by_cases ht : ∃ ps, o = .tbl ps
              · exact ht
              · exact z o (x'.keep p o q (fun ps e => ht ⟨ps, e⟩) l)
      refine ⟨nn, Dd :: F, ρ', wipeD env vs, S', [d], wEnv (n'.car (xg.car o')), og, .one (rp _ _ (carT xg)), ?_⟩
      show Fin (rEnvW vs (wipe σ vs)) g (Dd :: F) W0 nn ρ' H2 S' _ (tg d (wipeD env vs) S')
      obtain ⟨env1, S2, et, h'⟩ := bnd_nox (f := fun env1 => bnd (nox (t env1)) fun k => if k = true then bnd (nox (m env1)) fun y => if acc.length < sizeLine then lcGo tg t m (wipeD env vs) (es.drop (i + 1)) (acc ++ [y]) else noM else lcGo tg t m (wipeD env vs) (es.drop (i + 1)) acc) h'
      rw [et]
      intro ρ2 H3 σ2 x2 o2 n2
      refine ⟨n2.2.trans (wipe_wipe vs fun _ h => h), nn, Dd :: F, ρ2, env1, S2, [], n2.1, o2, .nil, ?_⟩
      show Fin rBo g (Dd :: F) W0 nn ρ2 H3 S2 _ (t env1 S2)
      obtain ⟨k, S3, ek, h'⟩ := bnd_nox h'
      rw [ek]
      intro ρ3 H4 b x3 o3 eb
      rw [eb]
      have xx : Ext (Dd :: F) ρ' H' S' ρ3 H4 S3 := (xg.trans x2).trans x3
      have xF : Ext F ρ1 H1 S1 ρ3 H4 S3 := x'.trans xx.anyF
      cases k with
      | false =>
        exact ⟨ρ3, S3, acc, vacc, n'.car (xx.car o'), o3, xF, carT xx, xx.keep _ _ hv (fun _ z => by cases z) (fun l => by
          obtain ⟨i, fs, h1, h2⟩ := l
          obtain ⟨_, q, us, e1, _, _, h4⟩ := o'.sto i fs h2
          rw [h1] at e1
          cases e1
          exact h4 List.mem_cons_self), ra.car (xx.car o'), h'⟩
      | true =>
        refine ⟨nn, Dd :: F, ρ3, env1, S3, [], n2.1.car (x3.car o2), o3, .nil, ?_⟩
        show Fin rD g (Dd :: F) W0 nn ρ3 H4 S3 _ (m env1 S3)
        obtain ⟨y, S4, ey, h'⟩ := bnd_nox (by simpa only [if_true] using h')
        rw [ey]
        intro ρ4 H5 yv x4 o4 ry
        have xx : Ext (Dd :: F) ρ' H' S' ρ4 H5 S4 := xx.trans x4
        have xF : Ext F ρ1 H1 S1 ρ4 H5 S4 := x'.trans xx.anyF
        have hv5 : H5 Dd = some (.lst vacc) := xx.keep _ _ hv (fun _ z => by cases z) (fun l => by
          obtain ⟨i, fs, h1, h2⟩ := l
          obtain ⟨_, q, us, e1, _, _, h4⟩ := o'.sto i fs h2
          rw [h1] at e1
          cases e1
          exact h4 List.mem_cons_self)
        obtain ⟨hl, h'⟩ := ite_ret (c := acc.length < sizeLine) h'
        have ra5 := ra.car (xx.car o')
        obtain ⟨o6, c6⟩ := ok_hidw (us := vacc ++ [yv]) o4 hv5
        refine ⟨vacc, hv5, by rw [← ra.length]; exact hl, ρ4, S4, acc ++ [y], vacc ++ [yv], (n'.car (xx.car o')).car c6, o6, xF.updD hD, ?_, upd_same, (ra5.append (.one ry)).car c6, h'⟩
        have cT := carT xx
        refine ⟨fun p u h nt nb => ?_, cT.bar, cT.rho⟩
        rw [upd_ne (ne_of_none h hD)]
        exact cT.keep p u h nt nb
    · rintro H' ⟨ρ', S', acc, vacc, n', o', x', c', hv, ra, h'⟩
      rw [List.drop_length] at h'
      obtain ⟨oS, nb, cS⟩ := ok_show o' nF
      exact h' ρ' H' (.ref Dd) x' oS (.lst hv nb (ra.car cS))
theorem se_lc {elt tg iter : Expr} {ifs : List Expr} {scope : Scope} {own : List (Str × Nat)} {pos : Pos} {mi : Env → M (List D)} {mg : MG} {mt : Env → M Bool} {me : Env → M D} (hc : X.calm = true) (hN : X.N.Nodup) (hi : PI X tg iter (tI g W mi)) (ok : BlkOk X.N X.env.scope scope own)
    (hg : ∀ (s : Shared) (H : Hp) (C : Addr) (cl : List (Str × Addr)) (fp : List Addr), PG (X.blk s H scope (compEnvC scope cl C X.env) fp) tg (tGw (own.map (·.2)) g mg)) (ht : ∀ (s : Shared) (H : Hp) (C : Addr) (cl : List (Str × Addr)) (fp : List Addr), PTs (X.blk s H scope (compEnvC scope cl C X.env) fp) ifs (tB g W0 mt))
    (he : ∀ (s : Shared) (H : Hp) (C : Addr) (cl : List (Str × Addr)) (fp : List Addr), PE (X.blk s H scope (compEnvC scope cl C X.env) fp) elt (tE g W0 me)) (hs : ∀ x, foldedSetIterable iter X.env x = pure x := by intro _; rfl) :
    PE X (.ListComp elt [⟨tg, iter, ifs, 0⟩] scope pos) (tE g W (mLc mi mg mt me (own.map (·.2)))) := wkE (pe_lc hc hN hi ok hg ht he hs) fun _ _ _ h => lc_ok h
/-- name = [..] on one line -/
theorem ss_setLc {i : Nat} {y : Str} {py : Pos} {elt tg iter : Expr} {ifs : List Expr} {scope : Scope} {own : List (Str × Nat)} {pos spos : Pos} {mi : Env → M (List D)} {mg : MG} {mt : Env → M Bool} {me : Env → M D}
    (h : ∀ (wi : TI) (gg : TG) (tt : TT) (te : TE), PI X tg iter wi → (∀ (s : Shared) (H : Hp) (C : Addr) (cl : List (Str × Addr)) (fp : List Addr), PG (X.blk s H scope (compEnvC scope cl C X.env) fp) tg gg) → (∀ (s : Shared) (H : Hp) (C : Addr) (cl : List (Str × Addr)) (fp : List Addr), PTs (X.blk s H scope (compEnvC scope cl C X.env) fp) ifs tt) →
      (∀ (s : Shared) (H : Hp) (C : Addr) (cl : List (Str × Addr)) (fp : List Addr), PE (X.blk s H scope (compEnvC scope cl C X.env) fp) elt te) → PS X (.Assign [.Name y py] (.ListComp elt [⟨tg, iter, ifs, 0⟩] scope pos) spos) (tAsg (tLc wi gg tt te (own.map (·.2))) (gName i)))
    (hi : PI X tg iter (tI g W mi))
    (hg : ∀ (s : Shared) (H : Hp) (C : Addr) (cl : List (Str × Addr)) (fp : List Addr), PG (X.blk s H scope (compEnvC scope cl C X.env) fp) tg (tGw (own.map (·.2)) g mg)) (ht : ∀ (s : Shared) (H : Hp) (C : Addr) (cl : List (Str × Addr)) (fp : List Addr), PTs (X.blk s H scope (compEnvC scope cl C X.env) fp) ifs (tB g W0 mt))
    (he : ∀ (s : Shared) (H : Hp) (C : Addr) (cl : List (Str × Addr)) (fp : List Addr), PE (X.blk s H scope (compEnvC scope cl C X.env) fp) elt (tE g W0 me)) :
    PS X (.Assign [.Name y py] (.ListComp elt [⟨tg, iter, ifs, 0⟩] scope pos) spos) (tS g W (mAsg (mLc mi mg mt me (own.map (·.2))) (gN i))) := wkS (h _ _ _ _ hi hg ht he) fun D σ H q => by
  refine lc_ok (Q := fun x H1 => gName i x σ H1 D.nx) ?_
  have q2 := push (k := fun ds env => match ds with | [d] => bnd (gN i d env) fun env' => ret (.nx, env') | _ => noM) (vs := []) (q.cg0 fun env => rfl)
  refine tH.mono (fun v H1 q => ?_) q2
  obtain ⟨nn, F, ρ, env, S, ds, n, o, r, h⟩ := q
  cases r with
  | cons r1 r2 =>
    cases r2
    exact h ρ H1 (.nx _) .refl o (n.set r1 i)
end
/-! ### defs -/
def gcM (m : M D) : M D := fun S => match m S with
  | .ok d S' => if nr d = true then .ok d (S'.take S.length) else .ok d S'
  | r => r
def flD : Fl × Env → M D
  | (.rt d, _) => ret d
  | (.nx, _) => ret .non
  | _ => noM
/-- a def of np parameters and nl names: the mirror of its body -/
def mDef (np nl : Nat) (b : MS) (ds : List D) : M D := if ds.length = np then gcM (bnd (b (ds.map some ++ List.replicate (nl - np) none)) flD) else noM
def spM (g : Gx) (f : List D → M D) (np : Nat) : Sp := fun vs H Q E => vs.length = np ∧ ∃ nn F ρ S ds, Ok g F ρ H S ∧ Reps g H (Bar F ρ S) ρ ds vs ∧ Fin rD g F (fun cls d _ H' => E cls d H') nn ρ H S Q (f ds S)
section
variable {g : Gx}
mutual
theorem Rep.shr {H : Hp} {B B' : Addr → Prop} {ρ ρ' : List Addr} (h : ∀ p, B' p → B p) : ∀ {d : D} {v : V}, Rep g H B ρ d v → nr d = true → Rep g H B' ρ' d v
  | _, _, .non, _ => .non
  | _, _, .bl b, _ => .bl b
  | _, _, .int i, _ => .int i
  | _, _, .str x, _ => .str x
  | _, _, .ty n, _ => .ty n
  | _, _, .raw a, _ => .raw a
  | _, _, .glo q, _ => .glo q
  | _, _, .ref _, z => by simp [nr] at z
  | _, _, .scr q, _ => .scr (by
      rcases q with ⟨q, n⟩ | q
      · exact .inl ⟨q, fun b => n (h _ b)⟩
      · exact .inr q)
  | _, _, .tup q t, z => .tup q (Reps.shr h t (by simpa only [nr] using z))
  | _, _, .lst q n t, z => .lst q (fun b => n (h _ b)) (Reps.shr h t (by simpa only [nr] using z))
theorem Reps.shr {H : Hp} {B B' : Addr → Prop} {ρ ρ' : List Addr} (h : ∀ p, B' p → B p) : ∀ {ds : List D} {vs : List V}, Reps g H B ρ ds vs → nrs ds = true → Reps g H B' ρ' ds vs
  | _, _, .nil, _ => .nil
  | _, _, .cons r t, z => by
    simp only [nrs, Bool.and_eq_true] at z
    exact .cons (Rep.shr h r z.1) (Reps.shr h t z.2)
end
theorem ok_take {F ρ ρ' : List Addr} {H H' : Hp} {S S' : Sto} (o : Ok g F ρ H S) (x : Ext F ρ H S ρ' H' S') (o' : Ok g F ρ' H' S') : Ext F ρ H S ρ H' (S'.take S.length) ∧ Ok g F ρ H' (S'.take S.length) ∧ ∀ p, Bar F ρ (S'.take S.length) p → Bar F ρ' S' p := by
  obtain ⟨more, er⟩ := x.rho
  have lv : ∀ p, Live ρ (S'.take S.length) p → Live ρ' S' p := fun p ⟨i, ds, h1, h2⟩ => by
    have hi : i < ρ.length := (List.getElem?_eq_some_iff.mp h1).1
    refine ⟨i, ds, by rw [er, List.getElem?_append_left hi]; exact h1, ?_⟩
    rw [List.getElem?_take] at h2
    split at h2
    · exact h2
    · cases h2
  have br : ∀ p, Bar F ρ (S'.take S.length) p → Bar F ρ' S' p := fun p b => b.elim (fun l => .inl (lv p l)) .inr
  refine ⟨⟨x.keep, x.there, fun p l => x.live p (lv p l), ⟨[], by simp⟩⟩, ⟨?_, o.nd, fun p hp => o'.trk p (by rw [er]; exact List.mem_append_left _ hp), fun i ds h => ?_, o'.fr, o'.tab⟩, br⟩
  · rw [List.length_take, ← o'.len, er, List.length_append, o.len]
    omega
  · have hl : i < S.length := by
      have := (List.getElem?_eq_some_iff.mp h).1
      rw [List.length_take] at this
      omega
    rw [List.getElem?_take, if_pos hl] at h
    obtain ⟨h0, q, vs, h1, h2, h3, h4⟩ := o'.sto i ds h
    rw [er, List.getElem?_append_left (by rw [o.len]; exact hl)] at h1
    exact ⟨h0, q, vs, h1, h2, h3.shr br h0, h4⟩
theorem fin_gc {W : WX} {F ρ : List Addr} {H : Hp} {S : Sto} {nn : Nat} {Q : VK} {m : M D} (o : Ok g F ρ H S) (h : Fin rD g F W nn ρ H S Q (gcM m S)) : Fin rD g F W nn ρ H S Q (m S) := by
  unfold gcM at h
  cases e : m S with
  | no =>
    rw [e] at h
    exact h
  | ex e1 S1 =>
    rw [e] at h
    exact h
  | ok d S1 =>
    rw [e] at h
    dsimp only at h
    by_cases hd : nr d = true
    · rw [if_pos hd] at h
      intro ρ' H' v x o' r
      obtain ⟨x2, o2, br⟩ := ok_take o x o'
      exact h ρ H' v x2 o2 (r.shr br hd)
    · rw [if_neg hd] at h
      exact h
end
section
variable {P : Program} {w : World} {K : PySem.W.Frag} {mg : Str → Option Value} {base : Heap} {g : Gx}
theorem start_len {N : List Str} {vs : List V} (h : vs.length ≤ N.length) : (L2.start N vs).length = N.length := by
  unfold L2.start
  rw [List.length_append, List.length_map, List.length_replicate]
  omega
theorem env_start {H : Hp} {B : Addr → Prop} {ρ : List Addr} {ds : List D} {vs : List V} {N : List Str} (r : Reps g H B ρ ds vs) (h : ds.length ≤ N.length) : EnvOk g H B ρ N.length (ds.map some ++ List.replicate (N.length - ds.length) none) (L2.start N vs) := by
  refine ⟨?_, start_len (by rw [← r.length]; exact h), fun i d e => ?_⟩
  · rw [List.length_append, List.length_map, List.length_replicate]
    omega
  · by_cases hi : i < ds.length
    · rw [List.getElem?_append_left (by simpa using hi), List.getElem?_map] at e
      cases q : ds[i]? with
      | none =>
        rw [q] at e
        cases e
      | some d' =>
        rw [q] at e
        have e2 : d' = d := by
          have := Option.some.inj e
          exact Option.some.inj this
        subst e2
        obtain ⟨v, h1, h2⟩ := r.get q
        refine ⟨v, ?_, h2⟩
        unfold L2.start
        rw [List.getElem?_append_left (by rw [List.length_map, ← r.length]; exact hi), List.getElem?_map, h1]
        rfl
    · rw [List.getElem?_append_right (by simpa using hi), List.getElem?_replicate] at e
      split at e <;> cases e
/-- what a def keeps -/
structure DefOk (P : Program) (w : World) (K : PySem.W.Frag) (mg : Str → Option Value) (base : Heap) (g : Gx) (k : Nat) (x : Str) (f : List D → M D) (np : Nat) : Prop where
  ex : ∃ fa fd ps, mg x = some (.ref fa) ∧ PySem.W.keepIn K (.ref fa) = true ∧ Binds K fd ps [] ∧ ps.length = np ∧ FnOk P w K mg base (L2N.CX P w) k fa fd ps (spM g f np)
theorem def_core {scope : Scope} {N ps : List Str} {b : MS} {vs : List V} {H : Hp} {Q : VK} {E : XK} (Sc : FnScope N ps scope) (h : spM g (mDef ps.length N.length b) ps.length vs H Q E) : tS g (fun cls d _ H => E cls d H) b { nx := fun _ H' => Q .non H', rt := Q } (L2.start N vs) H := by
  obtain ⟨hl, nn, F, ρ, S, ds, o, r, h⟩ := h
  have hds : ds.length = ps.length := r.length.trans hl
  have hpl : ps.length ≤ N.length := by
    have := congrArg List.length Sc.pre
    rw [List.length_take] at this
    omega
  unfold mDef at h
  rw [if_pos hds] at h
  have h := fin_gc o h
  have e0 := env_start (N := N) r (by rw [hds]; exact hpl)
  rw [hds] at e0
  refine ⟨N.length, F, ρ, _, S, [], e0, o, .nil, ?_⟩
  show Fin rFl g F _ N.length ρ H S _ (b (ds.map some ++ List.replicate (N.length - ps.length) none) S)
  unfold bnd at h
  cases e : b (ds.map some ++ List.replicate (N.length - ps.length) none) S with
  | no =>
    rw [e] at h
    exact h
  | ex e1 S1 =>
    rw [e] at h
    exact fun ρ' H' σ' c d hl' x o' z => h ρ' H' (List.replicate nn none) c d (by simp) x o' z
  | ok z S1 =>
    rw [e] at h
    obtain ⟨fl, env'⟩ := z
    cases fl with
    | nx =>
      intro ρ' H' q x o' r'
      cases q with
      | nx σ' => exact h ρ' H' .non x o' .non
      | _ => exact r'.elim
    | rt d =>
      intro ρ' H' q x o' r'
      cases q with
      | rt v => exact h ρ' H' v x o' r'
      | _ => exact r'.elim
    | _ => exact h.elim
theorem fn_ok {x : Str} {params : Arguments} {body : List Stmt} {scope : Scope} {f : Addr} {fd : FuncData} {N ps : List Str} {k : Nat} {b : MS} (Fd : FunD K x x params body scope [] [] f fd) (Sc : FnScope N ps scope)
    (hb : ∀ (cdv : Value) (A : Around) (outer : List PySem.Env) (s : Shared) (H : Hp) (E : XK), Room k (A.deeper (envOfC x scope s.heap.objs.size f cdv)) → PSs (cxOf (L2N.CX P w) P w K mg base N x scope f cdv A outer s H E) body (tS g (fun cls d _ H => E cls d H) b)) :
    FnOk P w K mg base (L2N.CX P w) (k + 1) f fd ps (spM g (mDef ps.length N.length b) ps.length) := by
  refine Fd.ok Sc (fun vs H Q E h => h.1) fun cdv A outer s H vs Q E hr h => ⟨_, hb cdv A outer s H E hr, def_core Sc h⟩
end
section
variable {X : Cx} {g : Gx} {W : WX}
/-- a call of a def -/
theorem se_call {x : Str} {p pos : Pos} {e : Expr} {es : List Expr} {j k np : Nat} {f : List D → M D} {m : Env → M (List D)} (Df : DefOk X.prog X.w X.K X.mg X.base g k x f np) (hr : Room j X.A) (hj : k ≤ j) (tk : L2N.Takes X W) (hg : Gl X x) (ha : PA X (e :: es) (tL g W m)) (hn : (e :: es).length = np) (hm : ∀ env S ds S', m env S = .ok ds S' → ds.length = (e :: es).length)
    (hdb : (x == ("__debug__" : Str)) = false := by decide) (he : starEach (e :: es) X.env = (false, eval e X.env) :: starEach es X.env := by rfl) (hpl : (backTo pos (starEach es X.env)).any (·.1) = false := by rfl) : PE X (.Call (.Name x p) (e :: es) [] pos) (tE g W (mCall f m)) := by
  obtain ⟨fa, fd, ps, gm, kp, bi, hps, FO⟩ := Df.ex
  refine wkE (pe_callS FO (hr.mono hj) hg gm kp bi (fun σ => L2N.passAt tk σ) ha hdb he hpl) fun σ H Q h => ?_
  obtain ⟨nn, F, ρ, env, S, ds, n, o, r, h⟩ := h
  refine ⟨nn, F, ρ, env, S, [], n, o, .nil, ?_⟩
  have h : Fin rD g F W nn ρ H S Q (mCall f m env S) := h
  show Fin rLs g F W nn ρ H S _ (m env S)
  unfold mCall bnd at h
  cases em : m env S with
  | no =>
    rw [em] at h
    exact h
  | ex e1 S1 =>
    rw [em] at h
    exact h
  | ok ds S1 =>
    rw [em] at h
    intro ρ' H' vs x' o' r'
    have hl := hm env S ds S1 em
    refine ⟨by rw [← r'.length, hl, hn], nn, F, ρ', S1, ds, o', r', ?_⟩
    have h : Fin rD g F W nn ρ' H' S1 Q (f ds S1) := Fin.ext x' h
    cases ef : f ds S1 with
    | ok d S2 =>
      rw [ef] at h
      exact h
    | no =>
      rw [ef] at h
      exact h
    | ex e1 S2 =>
      rw [ef] at h
      have l2 : σ.length = nn := n.len2
      exact fun ρ2 H2 σ2 c d hl2 x2 o2 z => h ρ2 H2 σ c d l2 x2 o2 z
theorem len_nil : ∀ env S ds S', mNil env S = .ok ds S' → ds.length = 0 := fun env S ds S' h => by
  cases h
  rfl
theorem len_cons {m : Env → M D} {r : Env → M (List D)} {k : Nat} (h : ∀ env S ds S', r env S = .ok ds S' → ds.length = k) : ∀ env S ds S', mCons m r env S = .ok ds S' → ds.length = k + 1 := fun env S ds S' e => by
  unfold mCons bnd at e
  cases e1 : m env S with
  | no =>
    rw [e1] at e
    cases e
  | ex _ _ =>
    rw [e1] at e
    cases e
  | ok d S1 =>
    rw [e1] at e
    dsimp only at e
    cases e2 : r env S1 with
    | no =>
      rw [e2] at e
      cases e
    | ex _ _ =>
      rw [e2] at e
      cases e
    | ok es S2 =>
      rw [e2] at e
      cases e
      simp [h _ _ _ _ e2]
theorem se_call0 {x : Str} {p pos : Pos} {j k : Nat} {f : List D → M D} (Df : DefOk X.prog X.w X.K X.mg X.base g k x f 0) (hr : Room j X.A) (hj : k ≤ j) (tk : L2N.Takes X W) (hW : ∃ E : XK, W = fun c d _ H => E c d H) (hg : Gl X x)
    (hdb : (x == ("__debug__" : Str)) = false := by decide) : PE X (.Call (.Name x p) [] [] pos) (tE g W (mCall f mNil)) := by
  obtain ⟨fa, fd, ps, gm, kp, bi, hps, FO⟩ := Df.ex
  obtain ⟨E, rfl⟩ := hW
  refine wkE (pe_call0 FO (hr.mono hj) hg gm kp bi .nil (L2N.passes_call tk fun _ _ _ _ h => h) hdb) fun σ H Q h => ?_
  obtain ⟨nn, F, ρ, env, S, ds, n, o, r, h⟩ := h
  exact ⟨rfl, nn, F, ρ, S, [], o, .nil, h⟩
/-! ### raise -/
/-- a class of errors of the text, without fields -/
structure ExcOk (K : PySem.W.Frag) (mg : Str → Option Value) (x : Str) : Prop where
  ex : ∃ C, mg x = some (.ref C) ∧ PySem.W.excIn K C He.veBase "ValueError.__new__" = true ∧ PySem.W.keepIn K (.ref C) = true ∧ PySem.W.subIn K (.ref C) (.type "BaseException") = some true ∧ PySem.W.typeIn K (.ref C) = some (.type "type")
def mRaise (x : Str) : MS := fun _ S => .ex ⟨x⟩ S
theorem ss_raise {x m : Str} {j : Nat} {p p2 pos pos' : Pos} (hc : X.calm = true) (tk : L2N.Takes X W) (T : ExcOk X.K X.mg x) (hmg : X.mg = g.mg) (hg : Gl X x) (hdb : (x == ("__debug__" : Str)) = false := by decide) : PS X (.Raise (some (.Call (.Name x p) [.Constant (.str m) j p2] [] pos)) none pos') (tS g W (mRaise x)) := by
  obtain ⟨C, g1, g2, g3, g4, g5⟩ := T.ex
  refine wkS (L2N.ps_raise hc tk (L2N.pmk_own PySem.F.excBase_ValueError g2 g1 g3 (raises_own g4 g5) hg hdb)) fun D σ H h => ?_
  obtain ⟨nn, F, ρ, env, S, ds, n, o, r, h⟩ := h
  exact h ρ H σ _ _ n.len2 .refl o ⟨rfl, C, by rw [← hmg]; exact g1, rfl⟩
end
end Mir
namespace Mir
open PySem PySem.Spec PyProof.Rows L2 RZ
/-! ### short words for printed derivations -/
section
variable {P : Program} {w : World} {K : PySem.W.Frag} {mg : Str → Option Value} {base : Heap} {g : Gx}
/-- where a def of the text stands -/
def DefAt (K : PySem.W.Frag) (mg : Str → Option Value) (x : Str) (st : Stmt) : Prop := ∃ fa fd, mg x = some (.ref fa) ∧ FunD K x x (defArgs st) (defBody st) (defScope st) [] [] fa fd
theorem def_ok {x : Str} {st : Stmt} {N ps : List Str} {k np : Nat} {b : MS} (h : DefAt K mg x st) (Sc : FnScope N ps (defScope st)) (hnp : ps.length = np)
    (hbind : ∀ (kV doc pm : Value) (an : Option Addr) (cdv ct : Value) (us : List Value), us.length = ps.length → bindArgs (PySem.W.fnOf x x (defArgs st) (defBody st) (defScope st) .none kV doc pm an cdv ct) ⟨us, []⟩ = pure (ps.zip us))
    (hb : ∀ (f : Addr) (cdv : Value) (A : Around) (outer : List PySem.Env) (s : Shared) (H : Hp) (E : XK), Room k (A.deeper (envOfC x (defScope st) s.heap.objs.size f cdv)) → PSs (cxOf (L2N.CX P w) P w K mg base N x (defScope st) f cdv A outer s H E) (defBody st) (tS g (fun cls d _ H => E cls d H) b)) :
    DefOk P w K mg base g (k + 1) x (mDef np N.length b) np := by
  obtain ⟨fa, fd, gm, Fd⟩ := h
  subst hnp
  exact ⟨fa, fd, ps, gm, Fd.kp, Fd.bindsN hbind, rfl, fn_ok Fd Sc fun cdv A outer s H E hr => hb fa cdv A outer s H E hr⟩
/-- no turn is left -/
theorem def_zero {x : Str} {st : Stmt} {ps : List Str} {k np : Nat} (h : DefAt K mg x st) (hnp : ps.length = np)
    (hbind : ∀ (kV doc pm : Value) (an : Option Addr) (cdv ct : Value) (us : List Value), us.length = ps.length → bindArgs (PySem.W.fnOf x x (defArgs st) (defBody st) (defScope st) .none kV doc pm an cdv ct) ⟨us, []⟩ = pure (ps.zip us)) :
    DefOk P w K mg base g k x (fun _ => noM) np := by
  obtain ⟨fa, fd, gm, Fd⟩ := h
  subst hnp
  refine ⟨fa, fd, ps, gm, Fd.kp, Fd.bindsN hbind, rfl, fun vs H Q E h => h.1, fun A outer s H args us vs Q E hr e0 hb hv h => ?_⟩
  obtain ⟨_, nn, F, ρ, S, ds, o, r, h⟩ := h
  exact h.elim
theorem DefOk.mono {x : Str} {k j np : Nat} {f : List D → M D} (d : DefOk P w K mg base g k x f np) (h : k ≤ j) : DefOk P w K mg base g j x f np := by
  obtain ⟨fa, fd, ps, h1, h2, h3, h4, h5⟩ := d.ex
  exact ⟨fa, fd, ps, h1, h2, h3, h4, h5.mono h⟩
end
section
variable {X : Cx} {g : Gx} {W : WX}
theorem ss_setN (i : Nat) {x : Str} {e : Expr} {pos pos' : Pos} {m : Env → M D} (hN : X.N.Nodup) (he : PE X e (tE g W m)) (hi : X.N[i]? = some x := by rfl) (hx : Loc X.env.scope x := by first | exact Or.inl rfl | exact Or.inr rfl)
    (hs : swapsWith e (some (.Name x pos')) pos.line X.env = pure false := by rfl) (hf : X.fn x = true ∨ X.env.scope.names.lookup x = some .local := by first | exact .inl rfl | exact .inr rfl) : PS X (.Assign [.Name x pos'] e pos) (tS g W (mAsg m (gN i))) :=
  ss_set he fun te h => ps_set hN hi hx h hs hf
theorem sg_n (i : Nat) {x : Str} {pos : Pos} (hN : X.N.Nodup) (hi : X.N[i]? = some x := by rfl) (hx : Loc X.env.scope x := by first | exact Or.inl rfl | exact Or.inr rfl) (hf : X.fn x = true ∨ X.env.scope.names.lookup x = some .local := by first | exact .inl rfl | exact .inr rfl) : PG X (.Name x pos) (tG g W (gN i)) :=
  sg_name (pg_name hN hi hx hf)
theorem sc_n {ws : List Nat} (i : Nat) {x : Str} {pos : Pos} (hN : X.N.Nodup) (hw : i ∈ ws := by decide) (hi : X.N[i]? = some x := by rfl) (hx : Loc X.env.scope x := by first | exact Or.inl rfl | exact Or.inr rfl) (hf : X.fn x = true ∨ X.env.scope.names.lookup x = some .local := by first | exact .inl rfl | exact .inr rfl) : PG X (.Name x pos) (tGw ws g (gN i)) :=
  sc_name hw (pg_name hN hi hx hf)
theorem tk0 : L2N.Takes X W0 := fun _ _ ⟨_, _, _, _, _, _, _, _, _, _, _, _, _, _, _, _, z⟩ => z.elim
/-- name = [..] on one line, the name a local -/
theorem ss_setLcN (i : Nat) {y : Str} {py : Pos} {elt tg iter : Expr} {ifs : List Expr} {scope : Scope} {own : List (Str × Nat)} {pos spos : Pos} {mi : Env → M (List D)} {mg : MG} {mt : Env → M Bool} {me : Env → M D} (hc : X.calm = true) (hN : X.N.Nodup)
    (hi : PI X tg iter (tI g W mi)) (ok : BlkOk X.N X.env.scope scope own)
    (hg : ∀ (s : Shared) (H : Hp) (C : Addr) (cl : List (Str × Addr)) (fp : List Addr), PG (X.blk s H scope (compEnvC scope cl C X.env) fp) tg (tGw (own.map (·.2)) g mg)) (ht : ∀ (s : Shared) (H : Hp) (C : Addr) (cl : List (Str × Addr)) (fp : List Addr), PTs (X.blk s H scope (compEnvC scope cl C X.env) fp) ifs (tB g W0 mt))
    (he : ∀ (s : Shared) (H : Hp) (C : Addr) (cl : List (Str × Addr)) (fp : List Addr), PE (X.blk s H scope (compEnvC scope cl C X.env) fp) elt (tE g W0 me))
    (hsw : swapsWith (.ListComp elt [⟨tg, iter, ifs, 0⟩] scope pos) (some (.Name y py)) spos.line X.env = pure true) (hy : X.N[i]? = some y := by rfl) (hyl : X.env.scope.names.lookup y = some .local := by rfl) (hs : ∀ x, foldedSetIterable iter X.env x = pure x := by intro _; rfl) :
    PS X (.Assign [.Name y py] (.ListComp elt [⟨tg, iter, ifs, 0⟩] scope pos) spos) (tS g W (mAsg (mLc mi mg mt me (own.map (·.2))) (gN i))) :=
  ss_setLc (fun wi gg tt te h1 h2 h3 h4 => ps_setLc hc hN hy hyl hsw h1 ok h2 h3 h4 (by assumption)) hi hg ht he
end
end Mir
namespace Mir
open PySem PySem.Spec PyProof.Rows L2 RZ
section
variable {P : Program} {w : World} {K : PySem.W.Frag} {mg : Str → Option Value} {base : Heap} {N : List Str} {x : Str} {sc : Scope} {f : Addr} {cdv : Value} {A : Around} {outer : List PySem.Env} {s : Shared} {H : Hp} {E : XK}
theorem tkE : L2N.Takes (cxOf (L2N.CX P w) P w K mg base N x sc f cdv A outer s H E) (fun cls d _ H => E cls d H) := L2N.takes_of rfl rfl rfl rfl
theorem psE : PassesOwn (model (cxOf (L2N.CX P w) P w K mg base N x sc f cdv A outer s H E).prog (cxOf (L2N.CX P w) P w K mg base N x sc f cdv A outer s H E).w) (cxOf (L2N.CX P w) P w K mg base N x sc f cdv A outer s H E).A (cxOf (L2N.CX P w) P w K mg base N x sc f cdv A outer s H E).env (cxOf (L2N.CX P w) P w K mg base N x sc f cdv A outer s H E).xe := passes_of rfl
end
section
variable {X : Cx} {g : Gx} {W : WX}
theorem se_glo2 {x : Str} {st : Stmt} {pos : Pos} (hg : Gl X x) (h : DefAt X.K X.mg x st) (hmg : X.mg = g.mg := by rfl) (hd : (x == ("__debug__" : Str)) = false := by decide) : PE X (.Name x pos) (tE g W (mC (.glo x))) := by
  obtain ⟨fa, _, gm, _⟩ := h
  exact se_glo hg gm hmg hd
theorem se_gint {x : Str} {i : Int} {pos : Pos} (hg : Gl X x) (h : ∃ t, X.mg x = some (.int i t)) (hd : (x == ("__debug__" : Str)) = false := by decide) : PE X (.Name x pos) (tE g W (mC (.int i))) := by
  obtain ⟨t, hm⟩ := h
  exact wkE (pe_glob (v := .int i) hg hm ⟨t, rfl⟩ hd) fun _ _ _ q => const_ok (fun _ _ _ => .int i) q
end
end Mir
set_option Elab.async false
set_option linter.all false
set_option maxRecDepth 100000
set_option maxHeartbeats 4000000
namespace Mir
open PySem PySem.Spec PyProof.Rows
/-! ### iterators that end while an exception is handled -/
section
variable {prog : Program} {w : World} {A : Around} {E : Value → Shared → Prop} {s : Shared}
theorem list_stops_hot {it l x1 : Addr} {i : Nat} {xs : Array Value} {Q : Option Value → Shared → Prop} (hot : HotX.HotAt A x1 s.heap) (hne : it ≠ x1) (hit : s.heap.IsListIter it l i) (hl : s.heap.IsList l xs) (hx : xs[i]? = none)
    (hQ : ∀ h', Heap.ExtBut it s.heap h' → Q none { s with heap := h' }) : wpAny (model prog w) A (pyNext (.ref it)) Q E s := by
  obtain ⟨hh, o1, vs1, h1, d1, c1⟩ := hot
  obtain ⟨o, ho, hc, hd⟩ := id hit
  obtain ⟨ol, hol, _, nl, hdl⟩ := hl
  unfold pyNext
  refine wpAny_bind (wpAny_attempt (wpAny_callSpecial?_slot (name := Str.ofString "__next__") hit.typeIs slot_listiter_next (wpAny_call_entry slot_listiter_next hit.typeIs entry_listiter_next ?_ (args_listiter_next _))))
  show wpAny (model prog w) _ (field (.ref it) 0 >>= _) _ _ s
  refine wpAny_bind (wpAny_field ho hd (x := .ref l) rfl ?_)
  show wpAny (model prog w) _ (if (Value.ref l == Value.none) = true then _ else _) _ _ s
  rw [if_neg (show (Value.ref l == Value.none) ≠ true from Bool.false_ne_true)]
  show wpAny (model prog w) _ (field (.ref it) 1 >>= _) _ _ s
  refine wpAny_bind (wpAny_field ho hd (x := .int i 0) rfl ?_)
  show wpAny (model prog w) _ (seqItems? (.ref l) >>= _) _ _ s
  refine wpAny_bind (wpAny_seqItems hol hdl ?_)
  simp only [Int.toNat_natCast, hx]
  refine wpAny_bind (wpAny_rule (wpAny_bind (wpAny_setField ho hd (by simp) ?_)))
  have e1 : ∀ (f : Obj → Obj) b u, b ≠ it → s.heap.get? b = some u → (s.heap.update it f).get? b = some u := fun f b u hb e => by
    rw [Heap.get?_update_other _ _ (Ne.symm hb)]
    exact e
  show wpAny (model prog w) _ (newExc (.type "StopIteration") [] >>= _) _ _ _
  simp only [newExc, newTuple]
  refine wpAny_bind (wpAny_bind (wpAny_newObj_type (wpAny_bind (m := firstArgMember _ _) (wpAny_of_eq (a := Value.none) (by first | rfl | (simp only [firstArgMember]; rfl)) (wpAny_newObj_type ?_ (by size_fits)))) (by size_fits)))
  refine HotX.raiseNew_hot (x1 := x1) ⟨hh, o1, vs1, Heap.get?_push_of_some _ (Heap.get?_push_of_some _ (e1 _ _ _ (Ne.symm hne) h1)), d1, c1⟩ (Nat.ne_of_lt (Heap.lt_size (Heap.get?_push_of_some _ (e1 _ _ _ (Ne.symm hne) h1)))) (Heap.get?_push_size _ rfl) rfl (by simp; omega) ?_
  refine wpAny_bind (wpAny_isInstance (T := "StopIteration") (b := true) ⟨_, Heap.get?_update_self _ (Heap.get?_push_size _ rfl) rfl, rfl⟩ isSubtype_stop (wpAny_pure (hQ _ fun b u hb e => ?_)))
  rw [Heap.get?_update_other _ _ (Nat.ne_of_gt (Heap.lt_size (Heap.get?_push_of_some _ (e1 _ _ _ hb e))))]
  exact Heap.get?_push_of_some _ (Heap.get?_push_of_some _ (e1 _ _ _ hb e))
theorem tup_stops_hot {it l x1 : Addr} {i : Nat} {xs : Array Value} {Q : Option Value → Shared → Prop} (hot : HotX.HotAt A x1 s.heap) (hne : it ≠ x1) (hit : IsTupIter s.heap it l i) (hl : IsTup s.heap l xs) (hx : xs[i]? = none)
    (hQ : ∀ h', Heap.ExtBut it s.heap h' → Q none { s with heap := h' }) : wpAny (model prog w) A (pyNext (.ref it)) Q E s := by
  obtain ⟨hh, o1, vs1, h1, d1, c1⟩ := hot
  obtain ⟨o, ho, hc, hd⟩ := id hit
  obtain ⟨ol, hol, _, nl, hdl⟩ := hl
  unfold pyNext
  refine wpAny_bind (wpAny_attempt (wpAny_callSpecial?_slot (name := Str.ofString "__next__") hit.typeIs slot_tupleiter_next (wpAny_call_entry slot_tupleiter_next hit.typeIs entry_tupleiter_next ?_ (args_tupleiter_next _))))
  show wpAny (model prog w) _ (field (.ref it) 0 >>= _) _ _ s
  refine wpAny_bind (wpAny_field ho hd (x := .ref l) rfl ?_)
  show wpAny (model prog w) _ (if (Value.ref l == Value.none) = true then _ else _) _ _ s
  rw [if_neg (show (Value.ref l == Value.none) ≠ true from Bool.false_ne_true)]
  show wpAny (model prog w) _ (field (.ref it) 1 >>= _) _ _ s
  refine wpAny_bind (wpAny_field ho hd (x := .int i 0) rfl ?_)
  show wpAny (model prog w) _ (seqItems? (.ref l) >>= _) _ _ s
  refine wpAny_bind (wpAny_seqItems hol hdl ?_)
  simp only [Int.toNat_natCast, hx]
  refine wpAny_bind (wpAny_rule (wpAny_bind (wpAny_setField ho hd (by simp) ?_)))
  have e1 : ∀ (f : Obj → Obj) b u, b ≠ it → s.heap.get? b = some u → (s.heap.update it f).get? b = some u := fun f b u hb e => by
    rw [Heap.get?_update_other _ _ (Ne.symm hb)]
    exact e
  show wpAny (model prog w) _ (newExc (.type "StopIteration") [] >>= _) _ _ _
  simp only [newExc, newTuple]
  refine wpAny_bind (wpAny_bind (wpAny_newObj_type (wpAny_bind (m := firstArgMember _ _) (wpAny_of_eq (a := Value.none) (by first | rfl | (simp only [firstArgMember]; rfl)) (wpAny_newObj_type ?_ (by size_fits)))) (by size_fits)))
  refine HotX.raiseNew_hot (x1 := x1) ⟨hh, o1, vs1, Heap.get?_push_of_some _ (Heap.get?_push_of_some _ (e1 _ _ _ (Ne.symm hne) h1)), d1, c1⟩ (Nat.ne_of_lt (Heap.lt_size (Heap.get?_push_of_some _ (e1 _ _ _ (Ne.symm hne) h1)))) (Heap.get?_push_size _ rfl) rfl (by simp; omega) ?_
  refine wpAny_bind (wpAny_isInstance (T := "StopIteration") (b := true) ⟨_, Heap.get?_update_self _ (Heap.get?_push_size _ rfl) rfl, rfl⟩ isSubtype_stop (wpAny_pure (hQ _ fun b u hb e => ?_)))
  rw [Heap.get?_update_other _ _ (Nat.ne_of_gt (Heap.lt_size (Heap.get?_push_of_some _ (e1 _ _ _ hb e))))]
  exact Heap.get?_push_of_some _ (Heap.get?_push_of_some _ (e1 _ _ _ hb e))
/-- a, b = a pair -/
theorem pair_hot {env : PySem.Env} {elts : List Expr} {k : Nat} {pos : Pos} {t x1 : Addr} {xs : Array Value} {Q : Unit → Shared → Prop} (hot : HotX.HotAt A x1 s.heap) (ht : IsTup s.heap t xs) (hn : (assignEach elts env).length = xs.size) (hst : (assignEach elts env).findIdx? (·.1) = none)
    (h : ∀ h', Heap.ExtBut s.heap.objs.size s.heap h' → wpAny (model prog w) A (assignInOrder ((assignEach elts env).map (·.2)) xs.toList) Q E { s with heap := h' }) : wpAny (model prog w) A (assign (.Tuple elts k pos) env (.ref t)) Q E s := by
  obtain ⟨hh, o1, vs1, h1, d1, c1⟩ := id hot
  have hlt : t ≠ s.heap.objs.size := by
    obtain ⟨o, ho, _⟩ := ht
    exact Nat.ne_of_lt (Heap.lt_size ho)
  have hl1 : x1 ≠ s.heap.objs.size := Nat.ne_of_lt (Heap.lt_size h1)
  rw [assign_Tuple]
  refine wpAny_bind (wpAny_standAt ?_)
  unfold unpack
  rw [hn, hst]
  refine wpAny_bind (wpAny_holding ?_)
  unfold unpackItems
  refine wpAny_bind ?_
  unfold notIterableAtAll
  refine wpAny_bind (wpAny_specialOf ht.typeIs slot_tuple_iter.lookup (wpAny_pure ?_))
  simp only [Bool.false_eq_true, if_false]
  refine wpAny_bind (wpAny_holding (iter_tuple ht (wpAny_bind (wpAny_holding (draw_tuple hlt xs.size 0 _ _ ⟨_, Heap.get?_push_size _ rfl, rfl, rfl⟩ (ht.push _) (by omega) fun h₁ hit₁ hs₁ => ?_)))))
  have hall : List.take xs.size (List.drop 0 xs.toList) = xs.toList := by
    rw [List.drop_zero]
    exact List.take_of_length_le (by simp)
  rw [hall, if_neg (by simp)]
  have ht₁ : IsTup h₁ t xs := (ht.push _).extBut hs₁.extBut hlt
  have hot₁ : HotX.HotAt A x1 h₁ := ⟨hh, o1, vs1, hs₁.extBut _ _ hl1 (Heap.get?_push_of_some _ h1), d1, c1⟩
  refine wpAny_bind (wpAny_holding (tup_stops_hot hot₁ (Ne.symm hl1) hit₁ ht₁ (by simp) fun h₂ he₂ => ?_))
  simp only [Option.isSome_none, Bool.false_eq_true, if_false]
  exact wpAny_pure (h h₂ fun b o hb e => he₂ b o hb (hs₁.extBut b o hb (Heap.get?_push_of_some _ e)))
/-- a list walked there -/
theorem goes_list_hot {target : Expr} {x1 : Addr} (I l : Addr) (hne : l ≠ I) (hx : I ≠ x1) (xs : Array Value) (o1 : Obj) (vs1 : Array Value) (hh : A.handled = some (.ref x1)) (d1 : o1.data = .fields vs1) (c1 : vs1[2]? = some .none) :
    Goes prog w A target I [I, l, x1] [I] xs.size (fun i v _ => xs[i]? = some v) (fun i h => h.IsListIter I l i ∧ h.IsList l xs ∧ h.get? x1 = some o1) where
  sub := fun b hb => by
    rw [List.mem_singleton.mp hb]
    exact List.mem_cons_self
  frame := fun i h h' ⟨a, b, c⟩ k => ⟨a.at fun o e => k I (by simp) o e, b.at fun o e => k l (by simp) o e, k x1 (by simp) _ c⟩
  goes := fun i s Q E hi ⟨a, b, c⟩ hQ => by
    obtain ⟨oI, hoI, hcI, hdI⟩ := id a
    have hv : xs[i]? = some xs[i] := by simp [hi]
    refine wpAny_pyNext_list_item a b hv fun h' st' sb => ⟨_, rfl, ?_⟩
    obtain ⟨o', ho', hc', hd'⟩ := id st'
    refine L2.go_of (s := { s with heap := h' }) ho' hc' hd' (by decide) ?_
    exact hQ _ h' s.toks hv ⟨st', b.extBut sb.extBut hne, (sb.2 x1 (Ne.symm hx)).trans c⟩ (fun b' o hb e => (sb.2 b' (fun z => hb (by simp [z]))).trans e) (Nat.le_refl _)
  stops := fun s Q E ⟨a, b, c⟩ hQ => by
    refine list_stops_hot ⟨hh, o1, vs1, c, d1, c1⟩ hx a b (by simp) fun h' eb => ⟨rfl, ?_⟩
    exact hQ h' s.toks (fun b' o hb e => eb b' o (fun z => hb (by simp [z])) e) (Nat.le_refl _)
  self := fun i s Q E ⟨a, _, _⟩ h => wpAny_pyIter_listiter a h
end
end Mir
set_option Elab.async false
set_option linter.all false
set_option maxRecDepth 100000
set_option maxHeartbeats 4000000
namespace Mir
open PySem PySem.Spec PyProof.Rows
/-! ### [x for x, y in pairs if y] while an exception is handled -/
def pkV (c : Nat → Bool) (u : Nat → Value) : Nat → List Value
  | 0 => []
  | i + 1 => if c i = true then pkV c u i ++ [u i] else pkV c u i
theorem pkV_length (c : Nat → Bool) (u : Nat → Value) : ∀ i, (pkV c u i).length ≤ i
  | 0 => Nat.le_refl _
  | i + 1 => by
    unfold pkV
    have := pkV_length c u i
    split
    · rw [List.length_append]
      exact Nat.succ_le_succ this
    · exact Nat.le_succ_of_le this
section
variable {prog : Program} {w : World} {A : Around} {E : Value → Shared → Prop} {s : Shared} {env : PySem.Env}
theorem pick_goes {x0 x1 y z : Str} {p0 p1 p2 p3 pt : Pos} {kk : Nat} {scope : Scope} {cl : List (Str × Addr)} {l x : Addr} {its : Array Value} {c : Nat → Bool} {u : Nat → Value} {sel tst : Bool} {Q : Value → Shared → Prop}
    (hkind : scope.kind = .function)
    (h0 : scope.names.lookup x0 = some .local) (h1 : scope.names.lookup x1 = some .local) (hne : x0 ≠ x1) (hy : y = if sel then x1 else x0) (hz : z = if tst then x1 else x0)
    (hdy : (y == ("__debug__" : Str)) = false) (hdz : (z == ("__debug__" : Str)) = false)
    (hot : HotX.HotAt A x s.heap) (hl : s.heap.IsList l its) (hsz : its.size ≤ sizeLine)
    (hits : ∀ i, i < its.size → ∃ p u0 u1, its[i]? = some (.ref p) ∧ IsTup s.heap p #[u0, u1] ∧ (if tst then u1 else u0) = .bool (c i) ∧ (if sel then u1 else u0) = u i)
    (h : ∀ D h' tk, s.heap.objs.size ≤ D → h'.PlainList D (pkV c u its.size).toArray → (∀ b o, s.heap.get? b = some o → h'.get? b = some o) → Q (.ref D) { s with heap := h', toks := tk }) :
    wpAny (model prog w) A (pyIter (.ref l)) (LcGoes prog w A E env scope cl (.Tuple [.Name x0 p0, .Name x1 p1] kk pt) [.Name z p3] (.Name y p2) none Q) E s := by
  obtain ⟨hh, o1, vs1, hx, d1, c1⟩ := hot
  have hlt : l < s.heap.objs.size := by obtain ⟨o, ho, _⟩ := hl; exact Heap.lt_size ho
  have hxlt : x < s.heap.objs.size := Heap.lt_size hx
  refine wpAny_pyIter_list hl ?_
  have up0 : ∀ b o, s.heap.get? b = some o → (s.heap.push { cls := .type "list_iterator", data := .fields #[.ref l, .int 0 0] }).get? b = some o := fun b o e => Heap.get?_push_of_some _ e
  refine ⟨_, _, _, _, _, _, rfl, goes_list_hot s.heap.objs.size l (Nat.ne_of_lt hlt) (Nat.ne_of_gt hxlt) its o1 vs1 hh d1 c1, hsz, ⟨⟨_, Heap.get?_push_size _ rfl, rfl, rfl⟩, hl.at fun o e => up0 _ o e, up0 _ _ hx⟩, ?_, fun D C s₃ hB => ?_⟩
  · intro b hb
    rw [Heap.size_push]
    simp only [List.mem_cons, List.not_mem_nil, or_false] at hb
    rcases hb with rfl | rfl | rfl
    · exact Nat.lt_succ_self _
    · exact Nat.lt_succ_of_lt hlt
    · exact Nat.lt_succ_of_lt hxlt
  · obtain ⟨⟨h₃, tk₃, rfl⟩, old, nD, nC, hDC, hnm⟩ := hB
    have nC' : s.heap.objs.size + 1 ≤ C := by rw [← Heap.size_push]; exact nC
    have nD' : s.heap.objs.size + 1 ≤ D := by rw [← Heap.size_push]; exact nD
    have kinds : ∀ y, scope.names.lookup y = some .local → (compEnvC scope cl C env).kindOf y = some .local := fun y hy => lookup_relabel_local hy
    have hp : ((compEnvC scope cl C env).scope.kind == .class || ((compEnvC scope cl C env).scope.kind == .module && (compEnvC scope cl C env).locals != (compEnvC scope cl C env).globals)) = false := by
      show (scope.kind == .class || (scope.kind == .module && _)) = false
      rw [hkind]; rfl
    refine ⟨fun i vs s₁ => ∃ h' tk m, s₁ = { s with heap := h', toks := tk } ∧ h'.Ns C m ∧ vs = pkV c u i ∧ ∀ b o, s.heap.get? b = some o → h'.get? b = some o, ⟨h₃, tk₃, _, rfl, hnm, rfl, fun b o e => old b o (up0 b o e)⟩, ?_, ?_, ?_⟩
    · rintro i vs s₁ h' tk ⟨h₄, tk₄, m, rfl, n₄, e₄, k₄⟩ hk' _
      have off : ∀ b : Addr, (b < s.heap.objs.size ∨ b = C) → b ∉ D :: [s.heap.objs.size] := fun b hb hm => by
        rcases List.mem_cons.mp hm with e | e
        · rcases hb with q | q
          · rw [e] at q; exact absurd (Nat.lt_of_lt_of_le (Nat.lt_succ_of_lt q) nD') (Nat.lt_irrefl _)
          · exact hDC (e.symm.trans q)
        · have e := List.mem_singleton.mp e
          rcases hb with q | q
          · rw [e] at q; exact absurd q (Nat.lt_irrefl _)
          · rw [q] at e; rw [e] at nC'; exact absurd nC' (Nat.not_succ_le_self _)
      exact ⟨h', tk, m, rfl, n₄.at' fun o e => hk' _ o (off _ (.inr rfl)) e, e₄, fun b o e => hk' b o (off _ (.inl (Heap.lt_size e))) (k₄ b o e)⟩
    · rintro i v vs s₁ hi hv st ⟨h₄, tk₄, m, rfl, n₄, e₄, k₄⟩ hpl
      have hv : its[i]? = some v := hv
      obtain ⟨p, u0, u1, hp0, hT, hc, hu⟩ := hits i hi
      have ev : v = .ref p := Option.some.inj (hv.symm.trans hp0)
      subst ev
      have hT₄ : IsTup h₄ p #[u0, u1] := by
        obtain ⟨oT, hoT, r⟩ := hT
        exact ⟨oT, k₄ _ _ hoT, r⟩
      refine pair_hot (x1 := x) ⟨hh, o1, vs1, k₄ _ _ hx, d1, c1⟩ hT₄ rfl rfl fun h₅ hs₅ => ?_
      have up₅ : ∀ b o, h₄.get? b = some o → h₅.get? b = some o := fun b o e => hs₅ b o (Nat.ne_of_lt (Heap.lt_size e)) e
      show wpAny _ _ (assignInOrder [assign (.Name x0 p0) _, assign (.Name x1 p1) _] [u0, u1]) _ _ _
      refine wpAny_assignInOrder_more (wpAny_assign_Name (wpAny_storeName_local (kinds _ h0) (n₄.at' fun o e => up₅ _ o e) (fun h₆ n₆ s₆ => ?_) hp))
      refine wpAny_assignInOrder_more (wpAny_assign_Name (wpAny_storeName_local (kinds _ h1) n₆ (fun h₇ n₇ s₇ => wpAny_assignInOrder_none ?_) hp))
      have name : ∀ (b : Bool) (q : Str), q = (if b then x1 else x0) → (kindq : (compEnvC scope cl C env).kindOf q = some .local) → (fun a => if a = x1 then some u1 else if a = x0 then some u0 else m a) q = some (if b then u1 else u0) := fun b q hq _ => by
        subst hq
        cases b with
        | true => simp
        | false => simp [hne]
      have kz : (compEnvC scope cl C env).kindOf z = some .local := by
        rw [hz]
        cases tst
        · exact kinds _ h0
        · exact kinds _ h1
      have ky : (compEnvC scope cl C env).kindOf y = some .local := by
        rw [hy]
        cases sel
        · exact kinds _ h0
        · exact kinds _ h1
      refine wpAny_tests_one (wpAny_isTrue_value ?_)
      rw [eval_Name _ _ _ hdz]
      refine wpAny_bind (wpAny_standAt (wpAny_loadName_local hkind kz n₇ (name tst z hz kz) ?_))
      rw [hc]
      refine wpAny_truthy_bool ?_
      have up₇ : ∀ b o, b ≠ C → h₄.get? b = some o → h₇.get? b = some o := fun b o hb e => s₇.extBut _ _ hb (s₆.extBut _ _ hb (up₅ b o e))
      have offC : ∀ b : Addr, b < s.heap.objs.size + 1 → b ≠ C := fun b hb e => by
        rw [e] at hb
        exact absurd (Nat.lt_of_lt_of_le hb nC') (Nat.lt_irrefl _)
      have st' : h₇.IsListIter s.heap.objs.size l (i + 1) ∧ h₇.IsList l its ∧ h₇.get? x = some o1 := by
        obtain ⟨a, b, d⟩ := st
        exact ⟨a.at fun o e => up₇ _ o (offC _ (Nat.lt_succ_self _)) e, b.at fun o e => up₇ _ o (offC _ (Nat.lt_succ_of_lt hlt)) e, up₇ _ _ (offC _ (Nat.lt_succ_of_lt hxlt)) d⟩
      have keep : ∀ b o, s.heap.get? b = some o → h₇.get? b = some o := fun b o e => up₇ b o (offC b (Nat.lt_succ_of_lt (Heap.lt_size e))) (k₄ b o e)
      have hpl' : h₇.PlainList D vs.toArray := hpl.at fun o e => up₇ _ o hDC e
      cases hci : c i with
      | true =>
        rw [if_pos rfl, eval_Name _ _ _ hdy]
        refine wpAny_bind (wpAny_standAt (wpAny_loadName_local hkind ky n₇ (name sel y hy ky) ?_))
        refine ⟨⟨h₇, _, _, rfl, n₇, ?_, keep⟩, st', hpl'⟩
        rw [e₄, hu]
        show pkV c u i ++ [u i] = if c i = true then _ else _
        rw [hci, if_pos rfl]
      | false =>
        rw [if_neg Bool.false_ne_true]
        refine ⟨⟨h₇, _, _, rfl, n₇, ?_, keep⟩, st', hpl'⟩
        rw [e₄]
        show pkV c u i = if c i = true then _ else _
        rw [hci, if_neg Bool.false_ne_true]
    · rintro vs s₁ ⟨h₄, tk₄, m, rfl, n₄, e₄, k₄⟩ hpl
      refine ⟨m, n₄, fun h' hs' => h D h' tk₄ (Nat.le_trans (Nat.le_succ _) nD') (e₄ ▸ hpl.extBut hs'.extBut hDC) fun b o e => hs'.extBut b o ?_ (k₄ b o e)⟩
      intro q
      rw [q] at e
      exact absurd (Nat.lt_of_lt_of_le (Nat.lt_succ_of_lt (Heap.lt_size e)) nC') (Nat.lt_irrefl _)
end
open L2
def pickD (sel tst : Bool) : List D → Option (List D)
  | [] => some []
  | .tup [a, b] :: r => match (if tst then b else a), pickD sel tst r with
    | .bl c, some rs => some (if c = true then (if sel then b else a) :: rs else rs)
    | _, _ => none
  | _ => none
def fPick (sel tst : Bool) : D → M D
  | .lst ds => match pickD sel tst ds with
    | some rs => ret (.lst rs)
    | none => noM
  | .ref i => fun S => match S[i]? with
    | some (some ds) => match pickD sel tst ds with
      | some rs => .ok (.lst rs) S
      | none => .no
    | _ => .no
  | _ => noM
def mPick (sel tst : Bool) (m : Env → M D) (env : Env) : M D := bnd (m env) (fPick sel tst)
theorem pickD_cons {sel tst : Bool} {d : D} {r rs : List D} (h : pickD sel tst (d :: r) = some rs) : ∃ a b c rs', d = .tup [a, b] ∧ (if tst then b else a) = .bl c ∧ pickD sel tst r = some rs' ∧ rs = if c = true then (if sel then b else a) :: rs' else rs' := by
  unfold pickD at h
  split at h
  · rename_i e
    cases e
  · rename_i a b r' e
    cases e
    split at h
    · rename_i c rs' e1 e2
      cases h
      exact ⟨a, b, c, rs', rfl, e1, e2, rfl⟩
    · cases h
  · cases h
theorem pickD_get {sel tst : Bool} : ∀ {ds rs : List D} {i : Nat} {d : D}, pickD sel tst ds = some rs → ds[i]? = some d → ∃ a b c, d = .tup [a, b] ∧ (if tst then b else a) = .bl c
  | [], _, _, _, _, e => by simp at e
  | d :: r, rs, 0, d', h, e => by
    obtain ⟨a, b, c, rs', h1, h2, _, _⟩ := pickD_cons h
    simp at e
    subst e
    exact ⟨a, b, c, h1, h2⟩
  | d :: r, rs, i + 1, d', h, e => by
    obtain ⟨_, _, _, rs', _, _, h3, _⟩ := pickD_cons h
    exact pickD_get (i := i) h3 (by simpa using e)
theorem pickD_snoc {sel tst : Bool} {a b : D} {c : Bool} (hc : (if tst then b else a) = .bl c) : ∀ {ds rs : List D}, pickD sel tst ds = some rs → pickD sel tst (ds ++ [.tup [a, b]]) = some (if c = true then rs ++ [if sel then b else a] else rs)
  | [], rs, h => by
    have h : some ([] : List D) = some rs := h
    cases h
    show (match (if tst then b else a), pickD sel tst [] with
    | .bl c, some rs => some (if c = true then (if sel then b else a) :: rs else rs)
    | _, _ => none) = _
    rw [hc]
    rfl
  | d :: r, rs, h => by
    obtain ⟨a', b', c', rs', rfl, h2, h3, rfl⟩ := pickD_cons h
    have ih := pickD_snoc (sel := sel) hc h3
    show (match (if tst then b' else a'), pickD sel tst (r ++ [.tup [a, b]]) with
    | .bl c, some rs => some (if c = true then (if sel then b' else a') :: rs else rs)
    | _, _ => none) = _
    rw [h2, ih]
    cases c <;> cases c' <;> rfl
/-- the context stands within an except suite, and what is handled has no context of its own -/
def HotC (X : Cx) : Prop := ∃ a oe vs, X.A.handled = some (.ref a) ∧ (a, oe) ∈ X.pn ∧ oe.data = .fields vs ∧ vs[2]? = some .none
theorem HotC.at {X : Cx} (h : HotC X) : ∃ a, ∀ {pins : List (Addr × Obj)} {σ : L2.St} {H : Hp} {s : Shared}, Inv X pins σ H s → HotX.HotAt X.A a s.heap := by
  obtain ⟨a, oe, vs, h1, h2, h3, h4⟩ := h
  exact ⟨a, fun I => ⟨h1, oe, vs, (I.pin _ (List.mem_append_left _ h2)).1, h3, h4⟩⟩
section
variable {X : Cx} {g : Gx} {W : WX}
theorem pick_vals {pins : List (Addr × Obj)} {σ : L2.St} {H : Hp} {s : Shared} {B : Addr → Prop} {ρ : List Addr} {ds rs : List D} {vs : List V} {its : List Value} {sel tst : Bool} (hk : X.K = g.K) (I : Inv X pins σ H s) (t : Reps g H B ρ ds vs) (v : Vals vs its) (h : pickD sel tst ds = some rs) :
    ∃ (c : Nat → Bool) (u : Nat → Value) (vs' : List V), (∀ i, i < its.toArray.size → ∃ p u0 u1, its.toArray[i]? = some (.ref p) ∧ IsTup s.heap p #[u0, u1] ∧ (if tst then u1 else u0) = .bool (c i) ∧ (if sel then u1 else u0) = u i) ∧
      Reps g H B ρ rs vs' ∧ Vals vs' (pkV c u its.toArray.size) := by
  have hl : ds.length = its.length := by rw [t.length, v.length]
  have key : ∀ i, ∃ (cu : Bool × Value), i < its.length → ∃ a b, ds[i]? = some (.tup [a, b]) ∧ (if tst then b else a) = .bl cu.1 ∧ (∃ p u0 u1, its[i]? = some (.ref p) ∧ IsTup s.heap p #[u0, u1] ∧ (if tst then u1 else u0) = .bool cu.1 ∧ (if sel then u1 else u0) = cu.2) ∧ ∃ x, Rep g H B ρ (if sel then b else a) x ∧ RelV x cu.2 := by
    intro i
    by_cases hi : i < its.length
    · obtain ⟨d, hd⟩ : ∃ d, ds[i]? = some d := ⟨ds[i], by simp [hl, hi]⟩
      obtain ⟨a, b, c, rfl, hc⟩ := pickD_get h hd
      obtain ⟨x, hx, rx⟩ := t.get hd
      obtain ⟨u, hu, ru⟩ := v.get hx
      obtain ⟨p, ws, rfl, hp, tt⟩ := rx.inv_tup
      cases ru
      obtain ⟨us, vu, ht, _⟩ := I.tuple (by rw [hk]; exact hp)
      cases tt with
      | cons r0 tt =>
        rename_i x0 _
        cases tt with
        | cons r1 tt =>
          rename_i x1 _
          cases tt
          cases vu with
          | cons q0 vu =>
            rename_i u0 _
            cases vu with
            | cons q1 vu =>
              rename_i u1 _
              cases vu
              refine ⟨(c, if sel then u1 else u0), fun _ => ⟨a, b, hd, hc, ⟨p, u0, u1, hu, ht, ?_, rfl⟩, ?_⟩⟩
              · cases tst with
                | true =>
                  have hc : b = .bl c := hc
                  subst hc
                  cases r1
                  exact q1
                | false =>
                  have hc : a = .bl c := hc
                  subst hc
                  cases r0
                  exact q0
              · cases sel with
                | true => exact ⟨_, r1, q1⟩
                | false => exact ⟨_, r0, q0⟩
    · exact ⟨(false, .none), fun z => absurd z hi⟩
  obtain ⟨f, hf⟩ : ∃ f : Nat → Bool × Value, ∀ i, i < its.length → ∃ a b, ds[i]? = some (.tup [a, b]) ∧ (if tst then b else a) = .bl (f i).1 ∧ (∃ p u0 u1, its[i]? = some (.ref p) ∧ IsTup s.heap p #[u0, u1] ∧ (if tst then u1 else u0) = .bool (f i).1 ∧ (if sel then u1 else u0) = (f i).2) ∧ ∃ x, Rep g H B ρ (if sel then b else a) x ∧ RelV x (f i).2 :=
    ⟨fun i => Classical.choose (key i), fun i => Classical.choose_spec (key i)⟩
  have go : ∀ i, i ≤ its.length → ∃ rs' vs', pickD sel tst (ds.take i) = some rs' ∧ Reps g H B ρ rs' vs' ∧ Vals vs' (pkV (fun i => (f i).1) (fun i => (f i).2) i) := by
    intro i
    induction i with
    | zero => exact fun _ => ⟨[], [], rfl, .nil, .nil⟩
    | succ i ih =>
      intro hi
      obtain ⟨rs', vs', h1, h2, h3⟩ := ih (Nat.le_of_succ_le hi)
      obtain ⟨a, b, hd, hc, _, x, rx, qx⟩ := hf i hi
      have e : ds.take (i + 1) = ds.take i ++ [.tup [a, b]] := by rw [List.take_add_one, hd]; rfl
      rw [e]
      have q := pickD_snoc (sel := sel) hc h1
      cases hci : (f i).1 with
      | true =>
        rw [hci, if_pos rfl] at q
        refine ⟨_, _, q, h2.append (.one rx), ?_⟩
        show Vals _ (if (f i).1 = true then _ else _)
        rw [if_pos hci]
        exact h3.append (.cons qx .nil)
      | false =>
        rw [hci, if_neg Bool.false_ne_true] at q
        refine ⟨_, _, q, h2, ?_⟩
        show Vals _ (if (f i).1 = true then _ else _)
        rw [hci, if_neg Bool.false_ne_true]
        exact h3
  obtain ⟨rs', vs', h1, h2, h3⟩ := go its.length (Nat.le_refl _)
  rw [List.take_of_length_le (by rw [hl]; exact Nat.le_refl _), h] at h1
  cases h1
  refine ⟨_, _, vs', fun i hi => ?_, h2, by simpa using h3⟩
  obtain ⟨_, _, _, _, ⟨p, u0, u1, e1, e2, e3, e4⟩, _⟩ := hf i (by simpa using hi)
  exact ⟨p, u0, u1, by simpa using e1, e2, e3, e4⟩
theorem se_pick {x0 x1 y z : Str} {iter : Expr} {p0 p1 p2 p3 pt pos : Pos} {kk : Nat} {scope : Scope} (sel tst : Bool) {m : Env → M D} (hk : X.K = g.K) (hot : HotC X) (he : PE X iter (tE g W m))
    (hfree : ∀ y ∈ scope.names, y.2 ≠ .free) (hcell : ∀ y ∈ scope.names, y.2 ≠ .cell) (hkind : scope.kind = .function) (hnames : ∀ y ∈ scope.names, y.2 = .local → scope.names.lookup y.1 = some .local)
    (h0 : scope.names.lookup x0 = some .local) (h1 : scope.names.lookup x1 = some .local) (hne : x0 ≠ x1) (hy : y = if sel then x1 else x0) (hz : z = if tst then x1 else x0)
    (hdy : (y == ("__debug__" : Str)) = false) (hdz : (z == ("__debug__" : Str)) = false) (hs : ∀ x, foldedSetIterable iter X.env x = pure x) :
    PE X (.ListComp (.Name y p2) [⟨.Tuple [.Name x0 p0, .Name x1 p1] kk pt, iter, [.Name z p3], 0⟩] scope pos) (tE g W (mPick sel tst m)) := by
  refine ⟨fun pins s σ H Q I h => ?_⟩
  obtain ⟨x, hx⟩ := hot.at
  have h := push (k := fun ds _ => match ds with
    | [d] => fPick sel tst d
    | _ => noM) (vs := []) (h.cg0 fun env => rfl)
  refine ListComp_goes (closureFor_none hfree) hcell hkind hnames (thn (he.run pins s σ H _ I h) fun u s1 ⟨v, H1, I1, r1, q⟩ => ?_) hs
  obtain ⟨nn, F, ρ, env, S, ds, n, o, r, q⟩ := q
  have r : Reps g H1 (Bar F ρ S) ρ ds [v] := r
  cases r with
  | cons rd rr =>
    cases rr
    rename_i d
    have q : Fin rD g F W nn ρ H1 S Q (fPick sel tst d S) := q
    have fin : ∀ (p : Addr) (vs : List V) (ds rs : List D), v = .ref p → H1 p = some (.lst vs) → Reps g H1 (Bar F ρ S) ρ ds vs → pickD sel tst ds = some rs → Fin rD g F W nn ρ H1 S Q (.ok (.lst rs) S) →
        wpAny (model X.prog X.w) X.A (pyIter u) (LcGoes X.prog X.w X.A X.xe X.env scope [] (.Tuple [.Name x0 p0, .Name x1 p1] kk pt) [.Name z p3] (.Name y p2) none (EP X pins σ Q)) X.xe s1 := by
      intro p vs ds rs ev hp t hr q
      subst ev
      cases r1
      obtain ⟨its, vi, ⟨ol, nl, e1, e2, e3, e4⟩, hz'⟩ := I1.list (SqL.of hp)
      obtain ⟨c, u, vs', k1, k2, k3⟩ := pick_vals hk I1 t vi hr
      have hlen : its.length ≤ sizeLine := by rw [← vi.length]; exact hz'
      refine pick_goes (c := c) (u := u) (sel := sel) (tst := tst) hkind h0 h1 hne hy hz hdy hdz (hx I1) ⟨ol, e1, e2, nl, e4⟩ (by simpa using hlen) k1 fun D h' tk hD ⟨nq, hpl⟩ hkeep => ?_
      have nD : H1 D = none := I1.hok.fresh hD
      have I2 := I1.laid (a := D) (o := .lst vs') (t' := tk) hkeep hD ⟨?_, _, nq, k3, hpl⟩
      · exact ⟨.ref D, _, I2, rfl, fin_lst o nD k2 q⟩
      · rw [k3.length]
        exact Nat.le_trans (pkV_length _ _ _) (by simpa using hlen)
    cases d with
    | lst ds =>
      obtain ⟨p, vs, rfl, hp, nb, t⟩ := rd.inv_lst
      dsimp only [fPick] at q
      cases e : pickD sel tst ds with
      | none =>
        rw [e] at q
        exact q.elim
      | some rs =>
        rw [e] at q
        exact fin p vs _ rs rfl hp t e q
    | ref i =>
      dsimp only [fPick] at q
      cases e : S[i]? with
      | none =>
        rw [e] at q
        exact q.elim
      | some od =>
        rw [e] at q
        cases od with
        | none => exact q.elim
        | some ds' =>
          obtain ⟨_, p, vs, h1', h2', h3', _⟩ := o.sto i ds' e
          cases rd with
          | ref hr =>
            rw [h1'] at hr
            cases hr
            dsimp only at q
            cases e2 : pickD sel tst ds' with
            | none =>
              rw [e2] at q
              exact q.elim
            | some rs =>
              rw [e2] at q
              exact fin p vs _ rs rfl h2' h3' e2 q
    | _ => exact q.elim
end
end Mir
set_option Elab.async false
set_option linter.all false
set_option maxRecDepth 100000
set_option maxHeartbeats 4000000
namespace Mir
open PySem PySem.Spec PyProof.Rows L2 RZ
/-! ### what class an error is of -/
structure SubOk (K : PySem.W.Frag) (mg : Str → Option Value) (sub : Str → Str → Option Bool) : Prop where
  ex : ∀ x y b, sub x y = some b → ∃ C D, mg x = some (.ref C) ∧ mg y = some (.ref D) ∧ PySem.W.kitOne K (.ref C) (.ref D) = some b ∧ PySem.W.exmOne K (.ref C) (.ref D) = some b ∧ ExcC K C
def fIsE (a : Addr) (sub : Str → Str → Option Bool) (ec : Str) : List D → M D
  | [.raw p, .glo c] => if p = a then match sub ec c with
    | some b => ret (.bl b)
    | none => noM
    else noM
  | _ => noM
section
variable {X : Cx} {g : Gx} {W : WX}
theorem bf_isE {a C : Addr} {ec : Str} {oe : Obj} {pn : List (Addr × Obj)} {sub : Str → Str → Option Bool} (hk : X.K = g.K) (hmg : X.mg = g.mg) (T : SubOk X.K X.mg sub) (hc : X.mg ec = some (.ref C)) (hz : L2N.Zn (.ref C) none oe) (hf : ∃ vs, oe.data = .fields vs) :
    BuiltF (X.suite a ((a, oe) :: pn)) g W (.builtin "isinstance") (fIsE a sub ec) := by
  by_cases he : ExcC X.K C
  · refine ⟨_, call_isE (X := X) (pn := pn) (a := a) he ⟨hz.1, hz.2.1⟩ hf, fun ds vs F ρ H S nn Q ok r h => ?_⟩
    unfold fIsE at h
    split at h
    · rename_i p c
      cases r with
      | cons r1 r2 =>
        cases r2 with
        | cons r2 r3 =>
          cases r3
          obtain ⟨hp, h⟩ := ite_ret (c := p = a) h
          cases hb : sub ec c with
          | none =>
            rw [hb] at h
            exact h.elim
          | some b =>
            rw [hb] at h
            obtain ⟨C1, D1, e1, e2, e3, _, _⟩ := T.ex _ _ _ hb
            have e1 : X.mg ec = some (.ref C1) := e1
            rw [hc] at e1
            cases e1
            cases r1
            cases r2 with
            | glo q =>
              rw [hmg] at e2
              rw [e2] at q
              cases q
              rw [hp]
              exact ⟨_, _, b, rfl, fun u z => z, e3, fin_same ok (.bl b) h⟩
    · exact h.elim
  · refine ⟨fun _ _ _ => False, fun pins s σ H xs us Q I r h => h.elim, fun ds vs F ρ H S nn Q ok r h => ?_⟩
    unfold fIsE at h
    split at h
    · rename_i p c
      obtain ⟨hp, h⟩ := ite_ret (c := p = a) h
      cases hb : sub ec c with
      | none =>
        rw [hb] at h
        exact h.elim
      | some b =>
        obtain ⟨C1, D1, e1, _, _, _, e5⟩ := T.ex _ _ _ hb
        have e1 : X.mg ec = some (.ref C1) := e1
        rw [hc] at e1
        cases e1
        exact he e5
    · exact h.elim
/-! ### methods of a text -/
def chkS : D → M D
  | .str x => ret (.str x)
  | _ => noM
def mMeth (f : List D → M D) (mo : Env → M D) (ma : Env → M (List D)) (env : Env) : M D := bnd (mo env) fun d => bnd (chkS d) fun _ => bnd (ma env) fun ds => f (d :: ds)
structure StrM (X : Cx) (g : Gx) (W : WX) (id : String) (f : List D → M D) : Prop where
  ex : ∃ r, MtR X id r ∧ ∀ (d : D) (v : V) (ds : List D) (vs : List V) (F ρ : List Addr) (H : Hp) (S : Sto) (nn : Nat) (Q : VK), Ok g F ρ H S → Rep g H (Bar F ρ S) ρ d v → Reps g H (Bar F ρ S) ρ ds vs → Fin rD g F W nn ρ H S Q (f (d :: ds) S) → r v vs H Q
theorem se_meth {name : Str} {o e : Expr} {es : List Expr} {apos cpos : Pos} {id : String} {f : List D → M D} {mo : Env → M D} {ma : Env → M (List D)} (pa : PlainAttrs "str") (slot : Slot "str" name id) (hty : typeOf (.builtin id) = pure (.type "method_descriptor")) (hm : StrM X g W id f) (ho : PE X o (tE g W mo)) (ha : PA X (e :: es) (tL g W ma))
    (hbase : attributeBase o name X.env (eval o X.env) = eval o X.env := by rfl)
    (hfew : ((backTo cpos (starEach (e :: es) X.env)).all (fun x => !x.1) && (backToKw cpos (keywordEach [] X.env)).all (fun x => x.1.isSome) && decide ((e :: es).length + ([] : List Keyword).length + (if ([] : List Keyword).isEmpty then 0 else 1) < 30)) = true := by rfl)
    (hline : (apos.endLine == cpos.line) = true := by rfl) (hs : starEach (e :: es) X.env = (false, eval e X.env) :: starEach es X.env := by rfl) (hplain : (backTo cpos (starEach es X.env)).any (·.1) = false := by rfl) :
    PE X (.Call (.Attribute o name apos) (e :: es) [] cpos) (tE g W (mMeth f mo ma)) := by
  obtain ⟨r, h1, h2⟩ := hm.ex
  refine wkE (pe_bm pa slot hty h1 ho ha hbase hfew hline hs hplain) fun σ H Q h => ?_
  have h := push (k := fun ds env => match ds with
    | [d] => bnd (chkS d) fun _ => bnd (ma env) fun es => f (d :: es)
    | _ => noM) (vs := []) (h.cg0 fun env => rfl)
  refine tH.mono (fun v H1 q => ?_) h
  obtain ⟨nn, F, ρ, env, S, ds, n, ok, rr, q⟩ := q
  have rr : Reps g H1 (Bar F ρ S) ρ ds [v] := rr
  cases rr with
  | cons r1 r2 =>
    cases r2
    rename_i d
    have q : Fin rD g F W nn ρ H1 S Q (bnd (chkS d) (fun _ => bnd (ma env) fun es => f (d :: es)) S) := q
    cases d with
    | str x =>
      cases r1
      refine ⟨rfl, ?_⟩
      have q2 : tL g W ma σ H1 fun us H2 => tH rD g W (fun ds _ => f ds) ([.str x] ++ us) σ H2 Q := pushL (k := fun ds _ => f ds) (vs := [.str x]) ⟨nn, F, ρ, env, S, [.str x], n, ok, .one (.str x), q⟩
      refine tH.mono (fun us H2 q => ?_) q2
      obtain ⟨nn, F, ρ, env, S, ds, n, ok, rr, q⟩ := q
      have rr : Reps g H2 (Bar F ρ S) ρ ds (.str x :: us) := rr
      cases rr with
      | cons r1 r2 => exact h2 _ _ _ _ _ _ _ _ _ _ ok r1 r2 q
    | _ => exact q.elim
def strsD : List D → Option (List Str)
  | [] => some []
  | .str x :: r => match strsD r with
    | some xs => some (x :: xs)
    | none => none
  | _ => none
def okJ (a : Str) (ys : List Str) : Bool := Nat.ble ((ys.map (·.length)).sum + ys.length * a.length) 16777216
def joinD (a : Str) (ds : List D) : M D := match strsD ds with
  | some ys => if okJ a ys = true then ret (.str (Txt.join a ys)) else noM
  | none => noM
def fJoin : List D → M D
  | [.str a, .lst ds] => joinD a ds
  | [.str a, .tup ds] => joinD a ds
  | _ => noM
theorem strs_vals {H : Hp} {B : Addr → Prop} {ρ : List Addr} : ∀ {ds : List D} {vs : List V} {ys : List Str}, Reps g H B ρ ds vs → strsD ds = some ys → vs = ys.map V.str
  | _, _, ys, .nil, h => by
    cases h
    rfl
  | d :: ds, v :: vs, ys, .cons r t, h => by
    cases d with
    | str x =>
      unfold strsD at h
      split at h
      · rename_i xs e
        cases h
        cases r
        rw [strs_vals t e]
        rfl
      · cases h
    | _ => cases h
theorem sm_join (hk : X.K = g.K) : StrM X g W "str.join" fJoin := ⟨_, mt_join, fun d v ds vs F ρ H S nn Q ok r t h => by
  have fin : ∀ (a : Str) (p : Addr) (ds : List D) (vs : List V), Reps g H (Bar F ρ S) ρ ds vs → (SqL X.K H p vs ∨ SqT X.K H p vs) → Fin rD g F W nn ρ H S Q (joinD a ds S) → ∃ a' p', ∃ ys : List Str, V.str a = .str a' ∧ [V.ref p] = [.ref p'] ∧ (SqL X.K H p' (ys.map V.str) ∨ SqT X.K H p' (ys.map V.str)) ∧
      (ys.map (·.length)).sum + ys.length * a'.length ≤ 16777216 ∧ Q (.str (Txt.join a' ys)) H := fun a p ds vs t hp h => by
    unfold joinD at h
    cases e : strsD ds with
    | none =>
      rw [e] at h
      exact h.elim
    | some ys =>
      rw [e] at h
      obtain ⟨hz, h⟩ := ite_ret (c := okJ a ys = true) h
      have ev := strs_vals t e
      subst ev
      exact ⟨a, p, ys, rfl, rfl, hp, Nat.le_of_ble_eq_true hz, fin_same ok (.str _) h⟩
  cases d with
  | str a =>
    cases r
    cases t with
    | nil => exact h.elim
    | cons r1 t =>
      rename_i d1 v1 ds1 vs1
      cases t with
      | cons _ _ => cases d1 <;> exact h.elim
      | nil =>
        cases d1 with
        | lst es =>
          obtain ⟨p, vs, rfl, hp, nb, t⟩ := r1.inv_lst
          exact fin a p _ _ t (.inl (SqL.of hp)) h
        | tup es =>
          obtain ⟨p, vs, rfl, hp, t⟩ := r1.inv_tup
          exact fin a p _ _ t (.inr (by rw [hk]; exact hp)) h
        | _ => exact h.elim
  | _ => exact h.elim⟩
end
end Mir
set_option Elab.async false
set_option linter.all false
set_option maxRecDepth 100000
set_option maxHeartbeats 4000000
namespace Mir
open PySem PySem.Spec PyProof.Rows L2 RZ LamX
/-! ### a lambda without parameters, handed to a def that calls it at once -/
/-- the lambda's body, its errors told with their context -/
abbrev lamN (X : Cx) (A : Around) (outer : List PySem.Env) (s : Shared) (H : Hp) (E : XK) (scope : Scope) (f c' : Addr) : Cx := (lamCx X A outer s H E scope f c').wish fun e s' =>
  wpAny (model X.prog X.w) (A.deeper (lamEnv X scope s.heap.objs.size f c')) (leaving (lamEnv X scope s.heap.objs.size f c') e) (fun _ s2 => L2N.CX X.prog X.w outer H s E e s2) (fun e2 s2 => L2N.CX X.prog X.w outer H s E e2 s2) s'
theorem tkL {X : Cx} {A : Around} {outer : List PySem.Env} {s : Shared} {H : Hp} {E : XK} {scope : Scope} {f c' : Addr} : L2N.Takes (lamN X A outer s H E scope f c') (fun cls d _ H => E cls d H) := L2N.takes_of rfl rfl rfl rfl
/-- the context of the def that got it -/
abbrev getC (X : Cx) (Ng : List Str) (qg : Str) (sg : Scope) (gA : Addr) (cdg : Value) (s : Shared) (H : Hp) (Eg : XK) : Cx := cxOf (L2N.CX X.prog X.w) X.prog X.w X.K X.mg X.base Ng qg sg gA cdg X.A X.stack s H Eg
section
variable {X : Cx} {pins : List (Addr × Obj)} {σ : L2.St} {H : Hp} {s : Shared}
theorem pe_thunk {Eg : XK} {Ng : List Str} {qg : Str} {sg : Scope} {gA f c' : Addr} {cdg pm ctv : Value} {params : Arguments} {body : Expr} {scope : Scope} {k i : Nat} {a : Str} {pn : List (Addr × Obj)} {xe : Value → Shared → Prop} {W : WX} {t : XK → TE} {p1 p2 : Pos}
    (I : Inv X pins σ H s) (L : LamS X.env.scope scope)
    (hf : s.heap.get? f = some (PySem.W.kla_obj "<lambda>" (X.env.qual ++ "<lambda>") params body scope (cloFrom X.env.cells scope.names []) pm c' ctv)) (hfn : H f = none) (hfr : f ∉ frs X.stack)
    (hbind : bindArgs (PySem.W.kla_fn "<lambda>" (X.env.qual ++ "<lambda>") params body scope (cloFrom X.env.cells scope.names []) pm (.ref c') ctv) ⟨[], []⟩ = pure [])
    (tk : L2N.Takes ((getC X Ng qg sg gA cdg s H Eg).tr pn xe) W) (hr : Room (k + 1) (X.A.deeper (envOfC qg sg s.heap.objs.size gA cdg)))
    (hbody : ∀ (A : Around) (outer : List PySem.Env) (s : Shared) (H : Hp) (E : XK), Room k (A.deeper (lamEnv X scope s.heap.objs.size f c')) → PE (lamN X A outer s H E scope f c') body (t E))
    (hN : Ng[i]? = some a) (hv : Vis sg a) (hd : (a == ("__debug__" : Str)) = false) (hcd : (a == ("__classdict__" : Str)) = false) :
    PE ((getC X Ng qg sg gA cdg s H Eg).tr pn xe) (.Call (.Name a p1) [] [] p2) fun σZ HZ Q => σZ[i]? = some (some (.ref f)) ∧ HZ c' = some (CodeO c' (X.env.qual ++ "<lambda>")) ∧ t (fun cls d H' => W cls d σZ H') σ HZ Q := by
  constructor
  rintro pinsZ sZ σZ HZ Q IZ ⟨z1, z2, z3⟩
  refine wpAny_Call_Name_kw (thn ((pe_var (pos := p1) (i := i) hN hv hd hcd).run pinsZ sZ σZ HZ (fun v H1 => v = .ref f ∧ H1 = HZ) IZ ⟨.ref f, z1, rfl, rfl⟩) fun u s1 h1 => ?_)
  obtain ⟨v, H1, J1, r1, ev, eH⟩ := h1
  subst ev
  subst eH
  cases (show u = Value.ref f from r1)
  have there := J1.base.keep f _ hf hfn hfr fun z => nomatch (show f ∈ ([] : List Addr) from z)
  refine PySem.W.callWith_F0 ⟨_, _, _, _, there⟩ ?_
  obtain ⟨⟨oc, vs, tt, y1, y2, y3⟩, _⟩ := J1.hok c' _ z2
  have run : codeAny (model X.prog X.w) (X.A.deeper (envOfC qg sg s.heap.objs.size gA cdg)) (.call (.ref f) ⟨[], []⟩)
      (CR (L2N.CX X.prog X.w) (envOfC qg sg s.heap.objs.size gA cdg :: X.stack) X.prog X.w H1 s1 Q fun cls d H' => W cls d σZ H') s1 := by
    refine PySem.W.kla_callFunE hr.depth there rfl L.co L.gen rfl ⟨c', oc, vs, tt, rfl, y1, y2, y3⟩ ?_
    rw [hbind]
    refine wpAny_pure (wpAny_newFunctionEnv (fun y hy => (L.own y hy).2) (fun y hy => absurd hy (by simp)) (fun h2 hns hsb => ?_) L.kind)
    refine ⟨J1.nolimit.fresh _ hsb, ?_⟩
    have kp : ∀ b o, s1.heap.get? b = some o → h2.get? b = some o := fun b o e =>
      hsb.extBut b o (Nat.ne_of_lt (Heap.lt_size e)) (Heap.get?_push_of_some _ e)
    have J2 := lam_start2 (E := fun cls d H' => W cls d σZ H') (f := f) (c' := c') (tk := s1.toks + ([] : List (Str × Value)).length) I L J1.env0 hr.hd J1.base hns kp
    refine PySem.W.kla_codeExpr (wpAny_mono ((hbody _ _ s1 H1 _ (hr.deeper _)).run [] _ _ H1 Q (J2.wish _) z3) (fun v s' hq => ?_) fun e s' hq => hq)
    obtain ⟨x, H', J', rv, q⟩ := hq
    exact ⟨x, H', J'.os, J'.bare, J'.base, J'.hok, rv, q⟩
  refine wpAny_call (codeAny_mono run fun r s' hq => ?_)
  match r, hq with
  | .error e, hq => exact tk e s' (L2N.XE.of_call J1 (fun cls d H' h => h) hq)
  | .ok (.ret u), hq => exact J1.after hq
  | .ok .next, hq => exact hq.elim
  | .ok .brk, hq => exact hq.elim
  | .ok .cont, hq => exact hq.elim
end
/-- a def x(a) that is handed a lambda: its mirror makes F of the lambda's -/
structure ThkOk (P : Program) (w : World) (K : PySem.W.Frag) (mg : Str → Option Value) (base : Heap) (g : Gx) (x : Str) (F : M D → M D) : Prop where
  ex : ∃ (Ng : List Str) (a : Str) (st : Stmt) (fa : Addr) (fd : FuncData), mg x = some (.ref fa) ∧ FunD K x x (defArgs st) (defBody st) (defScope st) [] [] fa fd ∧ FnScope Ng [a] (defScope st) ∧ Ng[0]? = some a ∧ Vis (defScope st) a ∧ (a == ("__debug__" : Str)) = false ∧ (a == ("__classdict__" : Str)) = false ∧
    L2.Binds K fd [a] [] ∧
    ∀ (cdv : Value) (A : Around) (outer : List PySem.Env) (s : Shared) (H : Hp) (Q : VK) (E : XK) (f c' : Addr) (q : Str) (th : M D) (tl : XK → Hp → VK → Prop),
      (∀ (W : WX) (pn : List (Addr × Obj)) (xe : Value → Shared → Prop) (p1 p2 : Pos), L2N.Takes ((cxOf (L2N.CX P w) P w K mg base Ng x (defScope st) fa cdv A outer s H E).tr pn xe) W →
        PE ((cxOf (L2N.CX P w) P w K mg base Ng x (defScope st) fa cdv A outer s H E).tr pn xe) (.Call (.Name a p1) [] [] p2) fun σZ HZ Q => σZ[0]? = some (some (.ref f)) ∧ HZ c' = some (CodeO c' q) ∧ tl (fun cls d H' => W cls d σZ H') HZ Q) →
      H c' = some (CodeO c' q) →
      (∃ (nn : Nat) (Fr ρ : List Addr) (S : Sto), Fin rD g Fr (fun cls d _ H' => E cls d H') nn ρ H S Q (F th S) ∧
        (∀ (Ex : XK) (Q' : VK), Fin rD g Fr (fun c d _ H' => Ex c d H') nn ρ H S Q' (th S) → tl Ex H Q')) →
      ∃ t, PSs (cxOf (L2N.CX P w) P w K mg base Ng x (defScope st) fa cdv A outer s H E) (defBody st) t ∧ t { nx := fun _ H' => Q .non H', rt := Q } (L2.start Ng [.ref f]) H
def mThk (F : M D → M D) (m : Env → M D) (env : Env) : M D := F (m env)
/-- where the code object of a def that makes lambdas keeps its table -/
def LamDef (X : Cx) (T : List (Addr × Str)) : Prop := ∃ c P, X.env.code = .ref c ∧ TabB X.base X.mg c P ∧ (P, X.env.qual ++ "<lambda>") ∈ T ∧ ∀ p ∈ T, p.1 = P → p.2 = X.env.qual ++ "<lambda>"
section
variable {X : Cx} {g : Gx} {W : WX}
theorem ext_extN {F ρ : List Addr} {H H' : Hp} {S : Sto} (o : Ok g F ρ H S) (e : ExtN H H') (t : Tabs g.T H') : Ext F ρ H S ρ H' S ∧ Ok g F ρ H' S := by
  have x : Ext F ρ H S ρ H' S := ⟨fun p u h n _ => e p u h n, fun p ⟨xs, h⟩ => ⟨xs, e p _ h fun _ z => nomatch z⟩, fun p l => .inl l, ⟨[], by simp⟩⟩
  refine ⟨x, o.len, o.nd, fun p hp => x.there p (o.trk p hp), fun i ds h => ?_, fun p hp => ?_, t⟩
  · obtain ⟨h0, q, vs, h1, h2, h3, h4⟩ := o.sto i ds h
    exact ⟨h0, q, vs, h1, e q _ h2 (fun _ z => nomatch z), h3.car (x.car o), h4⟩
  · exact x.there p (o.fr p hp)
theorem se_thk {x : Str} {F : M D → M D} {k : Nat} {params : Arguments} {body : Expr} {scope : Scope} {p lpos pos : Pos} {m : Env → M D} (TH : ThkOk X.prog X.w X.K X.mg X.base g x F) (hg : Gl X x) (LD : LamDef X g.T) (tk : L2N.Takes X W) (hr : Room (k + 2) X.A) (L : LamS X.env.scope scope) (hdef : defaultsOf params X.env = ([], []))
    (hbind : ∀ (q : Str) (cl : List (Str × Addr)) (pm cv ctv : Value), bindArgs (PySem.W.kla_fn "<lambda>" q params body scope cl pm cv ctv) ⟨[], []⟩ = pure [])
    (hbody : ∀ (A : Around) (outer : List PySem.Env) (s : Shared) (H : Hp) (E : XK) (f c' : Addr), Room k (A.deeper (lamEnv X scope s.heap.objs.size f c')) → PE (lamN X A outer s H E scope f c') body (tE g (fun cls d _ H => E cls d H) m))
    (hdb : (x == ("__debug__" : Str)) = false := by decide) : PE X (.Call (.Name x p) [.Lambda params body scope lpos] [] pos) (tE g W (mThk F m)) := by
  obtain ⟨Ng, a, st, fa, fd, gm, Fd, Sc, hN0, hva, hd1, hd2, hb, hG⟩ := TH.ex
  obtain ⟨c, P, hcode, TB, hmT, hu⟩ := LD
  obtain ⟨oc, od, dV, kV, doc, pm, an, cdv, ct, osl, rfl, lk, hcd, _, _⟩ := Fd.ex
  constructor
  rintro pins s σ H Q I ⟨nn, Fr, ρ, env, S, ds, n, o, r, h⟩
  cases r
  have h : Fin rD g Fr W nn ρ H S Q (F (m env) S) := h
  refine wpAny_Call_Name_kw (ld_glob I hg gm ?_ hdb)
  refine PySem.W.callWith_K (h₀ := X.base) I.ok.mod.kin Fd.kp ?_ (by rfl) (by rfl)
  show wpAny _ _ (spliced ((false, eval (.Lambda params body scope lpos) X.env) :: backTo pos (starEach [] X.env))) _ _ s
  refine Calls.spliced_cons (lam_make2 I TB hcode hmT hu o.tab hdef (L.has I.ok) fun f c' pm' ctv H1 s' I1 eN T1 hf hfn hfr hco => ?_)
  refine Calls.spliced_nil ⟨I1.kIn, ?_⟩
  obtain ⟨x1, o1⟩ := ext_extN o eN T1
  have n1 := n.car (x1.car o)
  have h := Fin.ext x1 h
  have hlen : σ.length = nn := n.len2
  have run : codeAny (model X.prog X.w) X.A (.call (.ref fa) ⟨[.ref f], []⟩) (CR (L2N.CX X.prog X.w) X.stack X.prog X.w H1 s' Q fun cls d H' => W cls d σ H') s' := by
    refine run_ofS (N := Ng) (ps := [a]) (us := [.ref f]) (vs := [.ref f]) lk hcd Sc hr I1.env0 (hb s' [.ref f] I1.kIn rfl) (.cons rfl .nil) rfl fun hr' => ?_
    refine hG cdv X.A X.stack s' H1 Q (fun cls d H' => W cls d σ H') f c' (X.env.qual ++ "<lambda>") (m env) (fun E H' Q' => tE g (fun cls d _ H => E cls d H) m σ H' Q') (fun W' pn xe p1 p2 tk' => ?_) hco ⟨nn, Fr, ρ, S, ?_, fun W' Q' h' => ?_⟩
    · exact pe_thunk (i := 0) (t := fun E => tE g (fun cls d _ H => E cls d H) m) I1 L hf hfn hfr (hbind _ _ _ _ _) tk' hr' (fun A outer s H E hr2 => hbody A outer s H E f c' hr2) hN0 hva hd1 hd2
    · cases e : F (m env) S with
      | no =>
        rw [e] at h
        exact h
      | ok d S1 =>
        rw [e] at h
        exact h
      | ex e1 S1 =>
        rw [e] at h
        exact fun ρ' H' σ' c d hl x' o' z => h ρ' H' σ c d hlen x' o' z
    · exact ⟨nn, Fr, ρ, env, S, [], n1, o1, .nil, h'⟩
  refine wpAny_call (codeAny_mono run fun r s2 hq => ?_)
  match r, hq with
  | .error e, hq => exact tk e s2 (L2N.XE.of_call I1 (fun cls d H' h => h) hq)
  | .ok (.ret u), hq => exact I1.after hq
  | .ok .next, hq => exact hq.elim
  | .ok .brk, hq => exact hq.elim
  | .ok .cont, hq => exact hq.elim
end
/-! ### try: a() except C as e: suite -/
/-- what the suite makes of an error, e at slot i -/
def suiM (nl i : Nat) (ms : Addr → Str → MS) (a : Addr) (ec : Str) : M D := fun S => match ms a ec ((List.replicate nl none).set i (some (.raw a))) S with
  | .ok (.rt d, _) S' => .ok d S'
  | _ => .no
def rstM (nl : Nat) (m : MS) : M D := fun S => match m (List.replicate nl none) S with
  | .ok (.rt d, _) S' => .ok d S'
  | _ => .no
def tryM (catch_ : Str → Option Bool) (word : Str → M D) (rest : M D) (th : M D) : M D := fun S => match th S with
  | .ok _ S1 => rest S1
  | .ex e S1 => match catch_ e.cls with
    | some true => word e.cls S1
    | _ => .no
  | .no => .no
section
variable {P : Program} {w : World} {K : PySem.W.Frag} {mg : Str → Option Value} {base : Heap} {g : Gx}
theorem env_none {H : Hp} {B : Addr → Prop} {ρ : List Addr} (σ : L2.St) : EnvOk g H B ρ σ.length (List.replicate σ.length none) σ := ⟨by simp, rfl, fun i d h => by
  rw [List.getElem?_replicate] at h
  split at h <;> cases h⟩
theorem thk_ok {x a cn en : Str} {st : Stmt} {Ng : List Str} {i : Nat} {sub : Str → Str → Option Bool} {b0 : Stmt} {suite rest : List Stmt} {p1 p2 p3 np pos pos' : Pos} {ms : Addr → Str → MS} {mr : MS} {word : Str → M D} {ca : Addr}
    (D0 : DefAt K mg x st) (Sc : FnScope Ng [a] (defScope st)) (hN0 : Ng[0]? = some a) (hva : Vis (defScope st) a) (hd1 : (a == ("__debug__" : Str)) = false) (hd2 : (a == ("__classdict__" : Str)) = false)
    (hbind : ∀ (kV doc pm : Value) (an : Option Addr) (cdv ct : Value) (us : List Value), us.length = [a].length → bindArgs (PySem.W.fnOf x x (defArgs st) (defBody st) (defScope st) .none kV doc pm an cdv ct) ⟨us, []⟩ = pure ([a].zip us))
    (hbody : defBody st = .Try [.Expr (.Call (.Name a p1) [] [] p2) p3] [.ExceptHandler (some (.Name cn np)) (some en) (b0 :: suite) pos'] [] [] pos :: rest)
    (hg : mg = g.mg) (hN : Ng.Nodup) (hi : Ng[i]? = some en) (hln : (defScope st).names.lookup en = some .local) (hi0 : 0 ≠ i)
    (hcn : (defScope st).names.lookup cn = some .globalImplicit) (hdc : (cn == ("__debug__" : Str)) = false) (hmc : mg cn = some (.ref ca)) (T : SubOk K mg sub)
    (hsu : ∀ (cdv : Value) (fa : Addr) (A : Around) (outer : List PySem.Env) (s : Shared) (H : Hp) (E : XK) (ec : Str) (C : Addr) (av : Addr) (oe : Obj) (pn : List (Addr × Obj)), mg ec = some (.ref C) → L2N.Zn (.ref C) none oe → (∃ vs, oe.data = .fields vs) →
      PSs ((cxOf (L2N.CX P w) P w K mg base Ng x (defScope st) fa cdv A outer s H E).suite av ((av, oe) :: pn)) (b0 :: suite) (tS g W0 (ms av ec)))
    (hw : ∀ av ec S, suiM Ng.length i ms av ec S = word ec S)
    (hre : ∀ (cdv : Value) (fa : Addr) (A : Around) (outer : List PySem.Env) (s : Shared) (H : Hp) (E : XK), PSs (cxOf (L2N.CX P w) P w K mg base Ng x (defScope st) fa cdv A outer s H E) rest (tS g (fun c d _ H => E c d H) mr)) :
    ThkOk P w K mg base g x (tryM (fun c => sub c cn) word (rstM Ng.length mr)) := by
  obtain ⟨fa, fd, gm, Fd⟩ := D0
  refine ⟨Ng, a, st, fa, fd, gm, Fd, Sc, hN0, hva, hd1, hd2, Fd.bindsN hbind, fun cdv A outer s H Q E f c' q th tl hact hco ⟨nn, Fr, ρ, S, hf, htl⟩ => ?_⟩
  generalize hZ : cxOf (L2N.CX P w) P w K mg base Ng x (defScope st) fa cdv A outer s H E = Z at hact ⊢
  have tryS : PS Z (.Try [.Expr (.Call (.Name a p1) [] [] p2) p3] [.ExceptHandler (some (.Name cn np)) (some en) (b0 :: suite) pos'] [] [] pos)
      (fun D σ H => (fun W => fun D σ H => σ[0]? = some (some (.ref f)) ∧ H c' = some (CodeO c' q) ∧ tl (fun cls d H' => W cls d σ H') H fun _ H' => D.nx σ H') (wAs Z.K (.ref ca) i (fun av cls d D σ H => ∃ ec C, mg ec = some (.ref C) ∧ cls = .ref C ∧ d = none ∧ tS g W0 (ms av ec) D σ H) W0 D) D σ H) := by
    have hact' := hact
    subst hZ
    refine L2N.ps_try_as (X := cxOf (L2N.CX P w) P w K mg base Ng x (defScope st) fa cdv A outer s H E) (Wout := W0) (tb := fun W => fun D σ H => σ[0]? = some (some (.ref f)) ∧ H c' = some (CodeO c' q) ∧ tl (fun cls d H' => W cls d σ H') H fun _ H' => D.nx σ H') (ts := fun av cls d D σ H => ∃ ec C, mg ec = some (.ref C) ∧ cls = .ref C ∧ d = none ∧ tS g W0 (ms av ec) D σ H) rfl rfl hN hi hln ⟨hcn, hdc, .inl hmc⟩ tk0 (fun W pn xe tk _ => ?_) (fun av oe cls d pn hz hf => ?_)
    · exact pss_one (ps_expr (hact' W pn xe p1 p2 tk))
    · constructor
      rintro pins s σ H D I ⟨ec, C, h1, rfl, rfl, h4⟩
      exact (hsu cdv fa A outer _ _ E ec C av oe pn h1 hz hf).run pins s σ H D I h4
  rw [hbody]
  have eK : Z.K = K := by
    subst hZ
    rfl
  have hrZ : PSs Z rest (tS g (fun c d _ H => E c d H) mr) := by
    subst hZ
    exact hre cdv fa A outer s H E
  refine ⟨_, pss_cons tryS hrZ, ?_⟩
  have l0 : (L2.start Ng [.ref f]).length = Ng.length := start_len (by
    have := congrArg List.length Sc.pre
    rw [List.length_take] at this
    simp at this
    show 1 ≤ _
    omega)
  refine ⟨rfl, hco, htl _ _ ?_⟩
  rw [eK]
  unfold tryM at hf
  cases e : th S with
  | no =>
    rw [e] at hf
    exact hf.elim
  | ok d S1 =>
    rw [e] at hf
    intro ρ' H' v x' o' r'
    have hf := Fin.ext x' hf
    dsimp only at hf
    unfold rstM at hf
    refine ⟨_, Fr, ρ', _, S1, [], env_none _, o', .nil, ?_⟩
    show Fin rFl g Fr _ _ ρ' H' S1 _ (mr (List.replicate _ none) S1)
    rw [l0]
    cases em : mr (List.replicate Ng.length none) S1 with
    | no =>
      rw [em] at hf
      exact hf.elim
    | ex e1 S2 =>
      rw [em] at hf
      exact hf.elim
    | ok z S2 =>
      rw [em] at hf
      obtain ⟨fl, env'⟩ := z
      cases fl with
      | rt d =>
        intro ρ2 H2 q2 x2 o2 r2
        cases q2 with
        | rt v => exact hf ρ2 H2 v x2 o2 r2
        | _ => exact r2.elim
      | _ => exact hf.elim
  | ex e1 S1 =>
    rw [e] at hf
    intro ρ' H' σ' cls d hl x' o' z
    obtain ⟨rfl, C, hC, rfl⟩ := z
    have hf := Fin.ext x' hf
    dsimp only at hf
    cases ec : sub e1.cls cn with
    | none =>
      rw [ec] at hf
      exact hf.elim
    | some b =>
      cases b with
      | false =>
        rw [ec] at hf
        exact hf.elim
      | true =>
        rw [ec] at hf
        have hf : Fin rD g Fr _ nn ρ' H' S1 Q (word e1.cls S1) := hf
        obtain ⟨C1, D1, f1, f2, _, f4, _⟩ := T.ex _ _ _ ec
        rw [hg] at f1
        rw [hC] at f1
        cases f1
        rw [hmc] at f2
        cases f2
        refine ⟨true, f4, fun _ av hav => ⟨e1.cls, C, by rw [hg]; exact hC, rfl, rfl, ?_⟩, fun z => by cases z⟩
        rw [← hw av] at hf
        unfold suiM at hf
        refine ⟨Ng.length, Fr, ρ', (List.replicate Ng.length none).set i (some (.raw av)), S1, [], ?_, o', .nil, ?_⟩
        · have e0 := env_none (g := g) (H := H') (B := Bar Fr ρ' S1) (ρ := ρ') (L2.start Ng [.ref f])
          rw [l0] at e0
          exact e0.set (.raw av) i
        · show Fin rFl g Fr _ _ ρ' H' S1 _ (ms av e1.cls _ S1)
          cases em : ms av e1.cls ((List.replicate Ng.length none).set i (some (.raw av))) S1 with
          | no =>
            rw [em] at hf
            exact hf.elim
          | ex e2 S2 =>
            rw [em] at hf
            exact hf.elim
          | ok z S2 =>
            rw [em] at hf
            obtain ⟨fl, env'⟩ := z
            cases fl with
            | rt d =>
              intro ρ2 H2 q2 x2 o2 r2
              cases q2 with
              | rt v => exact hf ρ2 H2 v x2 o2 r2
              | _ => exact r2.elim
            | _ => exact hf.elim
end
end Mir
set_option Elab.async false
set_option linter.all false
set_option maxRecDepth 100000
set_option maxHeartbeats 4000000
namespace Mir
open PySem PySem.Spec PyProof.Rows L2 RZ LamX
/-! ### a call of a name that holds a def -/
def tblOf : List (Str × (List D → M D)) → Str → Option (List D → M D)
  | [], _ => none
  | (y, f) :: r, x => if x = y then some f else tblOf r x
def mCallV (tbl : List (Str × (List D → M D))) (i : Nat) (ma : Env → M (List D)) (env : Env) : M D := match env[i]? with
  | some (some (.glo x)) => match tblOf tbl x with
    | some f => bnd (ma env) f
    | none => noM
  | _ => noM
inductive TblOk (P : Program) (w : World) (K : PySem.W.Frag) (mg : Str → Option Value) (base : Heap) (g : Gx) (k np : Nat) : List (Str × (List D → M D)) → Prop
  | nil : TblOk P w K mg base g k np []
  | cons {x : Str} {f : List D → M D} {r : List (Str × (List D → M D))} : DefOk P w K mg base g k x f np → TblOk P w K mg base g k np r → TblOk P w K mg base g k np ((x, f) :: r)
section
variable {P : Program} {w : World} {K : PySem.W.Frag} {mg : Str → Option Value} {base : Heap} {g : Gx} {k np : Nat}
theorem TblOk.get : ∀ {l : List (Str × (List D → M D))} {x : Str} {f : List D → M D}, TblOk P w K mg base g k np l → tblOf l x = some f → DefOk P w K mg base g k x f np
  | _, _, _, .nil, h => by cases h
  | _, x, f, .cons (x := y) d r, h => by
    unfold tblOf at h
    by_cases e : x = y
    · rw [if_pos e] at h
      cases h
      rw [e]
      exact d
    · rw [if_neg e] at h
      exact r.get h
end
section
variable {X : Cx} {g : Gx} {W : WX}
theorem se_callV (i : Nat) {x : Str} {p pos : Pos} {e : Expr} {es : List Expr} {j k np : Nat} {tbl : List (Str × (List D → M D))} {m : Env → M (List D)} (T : TblOk X.prog X.w X.K X.mg X.base g k np tbl) (hmg : X.mg = g.mg) (hr : Room j X.A) (hj : k ≤ j) (tk : L2N.Takes X W) (ha : PA X (e :: es) (tL g W m)) (hn : (e :: es).length = np) (hm : ∀ env S ds S', m env S = .ok ds S' → ds.length = (e :: es).length)
    (hN : X.N[i]? = some x := by rfl) (hv : Vis X.env.scope x := by first | exact Or.inl rfl | exact Or.inr (Or.inl rfl) | exact Or.inr (Or.inr rfl)) (hdb : (x == ("__debug__" : Str)) = false := by decide) (hcd : (x == ("__classdict__" : Str)) = false := by decide)
    (he : starEach (e :: es) X.env = (false, eval e X.env) :: starEach es X.env := by rfl) (hpl : (backTo pos (starEach es X.env)).any (·.1) = false := by rfl) : PE X (.Call (.Name x p) (e :: es) [] pos) (tE g W (mCallV tbl i m)) := by
  constructor
  rintro pins s σ H Q I ⟨nn, F, ρ, env, S, ds, n, o, r, h⟩
  cases r
  have h : Fin rD g F W nn ρ H S Q (mCallV tbl i m env S) := h
  unfold mCallV at h
  cases e1 : env[i]? with
  | none =>
    rw [e1] at h
    exact h.elim
  | some od =>
    rw [e1] at h
    cases od with
    | none => exact h.elim
    | some d =>
      cases d with
      | glo y =>
        obtain ⟨v, hσ, rv⟩ := n.loc i _ e1
        dsimp only at h
        cases et : tblOf tbl y with
        | none =>
          rw [et] at h
          exact h.elim
        | some f =>
          rw [et] at h
          have h : Fin rD g F W nn ρ H S Q (bnd (m env) f S) := h
          obtain ⟨fa, fd, ps, gm, kp, bi, hps, FO⟩ := (T.get et).ex
          cases rv with
          | glo q =>
            rw [← hmg, gm] at q
            cases q
            refine wpAny_Call_Name_kw (thn ((pe_var (pos := p) hN hv hdb hcd).run pins s σ H (fun v H1 => v = .ref fa ∧ H1 = H) I ⟨.ref fa, hσ, rfl, rfl⟩) fun u s1 h1 => ?_)
            obtain ⟨v, H1, I1, r1, ev, eH⟩ := h1
            subst ev
            subst eH
            cases r1
            refine PySem.W.callWith_K (h₀ := X.base) I.ok.mod.kin kp (thn (ha.run pos pins s1 σ _ (fun vs H2 => spM g f np vs H2 Q (WE W σ)) I1 ?_) fun us s2 ⟨vs, H2, I2, r, q⟩ => ⟨I2.kIn, ?_⟩) he hpl
            · refine ⟨nn, F, ρ, env, S, [], n, o, .nil, ?_⟩
              show Fin rLs g F W nn ρ H1 S _ (m env S)
              unfold bnd at h
              cases em : m env S with
              | no =>
                rw [em] at h
                exact h
              | ex e1 S1 =>
                rw [em] at h
                exact h
              | ok ds S1 =>
                rw [em] at h
                intro ρ' H' vs x' o' r'
                have hl := hm env S ds S1 em
                refine ⟨by rw [← r'.length, hl, hn], nn, F, ρ', S1, ds, o', r', ?_⟩
                have h : Fin rD g F W nn ρ' H' S1 Q (f ds S1) := Fin.ext x' h
                cases ef : f ds S1 with
                | ok d S2 =>
                  rw [ef] at h
                  exact h
                | no =>
                  rw [ef] at h
                  exact h
                | ex e1 S2 =>
                  rw [ef] at h
                  have l2 : σ.length = nn := n.len2
                  exact fun ρ2 H2 σ2 c d hl2 x2 o2 z => h ρ2 H2 σ c d l2 x2 o2 z
            · exact run_fnS (E := WE W) FO (hr.mono hj) bi (L2N.passAt tk σ) I2 r q
      | _ => exact h.elim
end
/-! ### a def that makes lambdas -/
structure DefTab (K : PySem.W.Frag) (mg : Str → Option Value) (base : Heap) (T : List (Addr × Str)) (x : Str) (st : Stmt) : Prop where
  ex : ∃ (fa : Addr) (fd : FuncData) (c P : Addr), mg x = some (.ref fa) ∧ FunD K x x (defArgs st) (defBody st) (defScope st) [] [] fa fd ∧ fd.code = .ref c ∧ TabB base mg c P ∧ (P, x ++ ".<locals>." ++ "<lambda>") ∈ T ∧ ∀ p ∈ T, p.1 = P → p.2 = x ++ ".<locals>." ++ "<lambda>"
section
variable {P : Program} {w : World} {K : PySem.W.Frag} {mg : Str → Option Value} {base : Heap} {g : Gx}
theorem def_okL {x : Str} {st : Stmt} {N ps : List Str} {k np : Nat} {b : MS} (h : DefTab K mg base g.T x st) (Sc : FnScope N ps (defScope st)) (hnp : ps.length = np)
    (hbind : ∀ (kV doc pm : Value) (an : Option Addr) (cdv ct : Value) (us : List Value), us.length = ps.length → bindArgs (PySem.W.fnOf x x (defArgs st) (defBody st) (defScope st) .none kV doc pm an cdv ct) ⟨us, []⟩ = pure (ps.zip us))
    (hb : ∀ (f : Addr) (cdv : Value) (A : Around) (outer : List PySem.Env) (s : Shared) (H : Hp) (E : XK), LamDef (cxOf (L2N.CX P w) P w K mg base N x (defScope st) f cdv A outer s H E) g.T → Room k (A.deeper (envOfC x (defScope st) s.heap.objs.size f cdv)) → PSs (cxOf (L2N.CX P w) P w K mg base N x (defScope st) f cdv A outer s H E) (defBody st) (tS g (fun cls d _ H => E cls d H) b)) :
    DefOk P w K mg base g (k + 1) x (mDef np N.length b) np := by
  obtain ⟨fa, fd, c, Pt, gm, Fd, hc, TB, hm, hu⟩ := h.ex
  subst hnp
  refine ⟨fa, fd, ps, gm, Fd.kp, Fd.bindsN hbind, rfl, ?_⟩
  obtain ⟨oc, od, dV, kV, doc, pm, an, cdv, ct, osl, rfl, lk, hcd, _, _⟩ := Fd.ex
  have hc : cdv = .ref c := hc
  refine fn_of lk hcd Sc (fun vs H Q E h => h.1) fun A outer s H vs Q E hr h => ⟨_, hb fa cdv A outer s H E ⟨c, Pt, hc, TB, hm, hu⟩ hr, ?_⟩
  exact def_core Sc h
end
/-! ### short words for printed derivations -/
/-- which class stands under which: each with all that it stands under -/
def subOf (l : List (Str × List Str)) (x y : Str) : Option Bool := match l.lookup x with
  | some ys => match l.lookup y with
    | some _ => some (decide (y ∈ ys))
    | none => none
  | none => none
section
variable {X : Cx} {g : Gx} {W : WX}
theorem hot_suite {a C : Addr} {oe : Obj} {pn : List (Addr × Obj)} (hz : L2N.Zn (.ref C) none oe) (hf : ∃ vs, oe.data = .fields vs) : HotC (X.suite a ((a, oe) :: pn)) := by
  obtain ⟨vs, hf⟩ := hf
  exact ⟨a, oe, vs, rfl, List.mem_cons_self, hf, hz.2.2 vs hf⟩
theorem se_cls {x : Str} {pos : Pos} (hg : Gl X x) (h : ExcOk X.K X.mg x) (hmg : X.mg = g.mg := by rfl) (hd : (x == ("__debug__" : Str)) = false := by decide) : PE X (.Name x pos) (tE g W (mC (.glo x))) := by
  obtain ⟨C, gm, _⟩ := h.ex
  exact se_glo hg gm hmg hd
end
end Mir
set_option Elab.async false
set_option linter.all false
set_option maxRecDepth 100000
set_option maxHeartbeats 4000000
namespace Mir
open PySem PySem.Spec PyProof.Rows L2 RZ LamX
/-! ### what the head tells -/
def excCB (K : PySem.W.Frag) (D : Addr) : Bool :=
  He.eqO (PySem.W.findIn K (.ref D) "__getattribute__") (some (some (.builtin "BaseException.__getattribute__"))) && (He.eqO (PySem.W.findIn K (.ref D) "__getattr__") (some none) && (decide (PySem.W.subIn K (.ref D) (.type "BaseException") = some true) && (PySem.W.hasDictIn K D &&
  (He.eqO (PySem.W.findIn K (.ref D) "__class__") (some (some (.builtin "object.__class__"))) && (He.eqO (PySem.W.specialIn K (.builtin "object.__class__") "__get__") (some (some (.builtin "getset_descriptor.__get__"))) &&
  (decide (PySem.W.takesIn K (.builtin "object.__class__") = some true) && decide (PySem.W.mroIn K D (.type "object") = some true)))))))
theorem excC_ok {K : PySem.W.Frag} {D : Addr} (h : excCB K D = true) : ExcC K D := by
  obtain ⟨h1, h⟩ := He.ba h
  obtain ⟨h2, h⟩ := He.ba h
  obtain ⟨h3, h⟩ := He.ba h
  obtain ⟨h4, h⟩ := He.ba h
  obtain ⟨h5, h⟩ := He.ba h
  obtain ⟨h6, h⟩ := He.ba h
  obtain ⟨h7, h8⟩ := He.ba h
  exact ⟨He.eqO_ok h1, He.eqO_ok h2, of_decide_eq_true h3, h4, He.eqO_ok h5, He.eqO_ok h6, of_decide_eq_true h7, of_decide_eq_true h8⟩
def subB (K : PySem.W.Frag) (l : List (Str × List Str)) : Bool := l.all fun p => (He.Fa.glo p.1).ok K && (excCB K (He.ga K p.1) && l.all fun q =>
  decide (PySem.W.kitOne K (.ref (He.ga K p.1)) (.ref (He.ga K q.1)) = some (decide (q.1 ∈ p.2))) && decide (PySem.W.exmOne K (.ref (He.ga K p.1)) (.ref (He.ga K q.1)) = some (decide (q.1 ∈ p.2))))
theorem sub_ok {K : PySem.W.Frag} {h : Heap} {mg : Str → Option Value} {l : List (Str × List Str)} (X : K.In h) (G : h.Ns mainGlobals mg) (c : subB K l = true) : SubOk K mg (subOf l) := by
  refine ⟨fun x y b e => ?_⟩
  unfold subOf at e
  cases ex : l.lookup x with
  | none =>
    rw [ex] at e
    cases e
  | some ys =>
    rw [ex] at e
    dsimp only at e
    cases ey : l.lookup y with
    | none =>
      rw [ey] at e
      cases e
    | some zs =>
      rw [ey] at e
      cases e
      have mx := PySem.mem_of_lookup ex
      have my := PySem.mem_of_lookup ey
      obtain ⟨g1, c1⟩ := He.ba (List.all_eq_true.mp c _ mx)
      obtain ⟨g2, _⟩ := He.ba (List.all_eq_true.mp c _ my)
      obtain ⟨c2, c3⟩ := He.ba c1
      obtain ⟨c4, c5⟩ := He.ba (List.all_eq_true.mp c3 _ my)
      exact ⟨_, _, He.glo_ok X G g1, He.glo_ok X G g2, of_decide_eq_true c4, of_decide_eq_true c5, excC_ok c2⟩
theorem exc_at {K : PySem.W.Frag} {h : Heap} {mg : Str → Option Value} {x : Str} (X : K.In h) (G : h.Ns mainGlobals mg) (c1 : (He.Fa.glo x).ok K = true) (c2 : (He.Fa.exc x).ok K = true) : ExcOk K mg x := by
  obtain ⟨h1, h2, h3, h4⟩ := He.exc_ok c2
  exact ⟨_, He.glo_ok X G c1, h1, h2, h3, h4⟩
def lamName (x : Str) : Str := x ++ ".<locals>." ++ "<lambda>"
def tabsK (K : PySem.W.Frag) (tf : List He.Defn) : List (Addr × Str) := tf.map fun p => ((He.cT K p).2, lamName p.1)
def tabsNd (K : PySem.W.Frag) (tf : List He.Defn) : Bool := decide ((tf.map fun p => (He.cT K p).2).Nodup)
theorem nodup_fst {α β γ : Type} {f : α → β} {g : α → γ} : ∀ {l : List α}, (l.map f).Nodup → ∀ {a b : α}, a ∈ l → b ∈ l → f a = f b → g a = g b
  | [], _, a, _, h, _, _ => by cases h
  | x :: r, n, a, b, ha, hb, e => by
    rw [List.map_cons, List.nodup_cons] at n
    rcases List.mem_cons.mp ha with ea | ha
    · rcases List.mem_cons.mp hb with eb | hb
      · rw [ea, eb]
      · exact absurd (List.mem_map.mpr ⟨b, hb, by rw [← e, ea]⟩) n.1
    · rcases List.mem_cons.mp hb with eb | hb
      · exact absurd (List.mem_map.mpr ⟨a, ha, by rw [e, eb]⟩) n.1
      · exact nodup_fst n.2 ha hb e
theorem cT_fst {K : PySem.W.Frag} {p : He.Defn} {c : Addr} (h : He.codeOf K p = c) : (He.cT K p).1 = c := h
theorem tab_at {K : PySem.W.Frag} {mg : Str → Option Value} {base : Heap} {tf : List He.Defn} {x : Str} {st : Stmt} {fa c P : Addr} {fd : FuncData} (hx : (P, lamName x) ∈ tabsK K tf) (gx : mg x = some (.ref fa)) (F : FunD K x x (defArgs st) (defBody st) (defScope st) [] [] fa fd)
    (hc : fd.code = .ref c) (TB : TabB base mg c P) (hu : ∀ p ∈ tabsK K tf, p.1 = P → p.2 = lamName x) : DefTab K mg base (tabsK K tf) x st := ⟨fa, fd, c, P, gx, F, hc, TB, hx, hu⟩
theorem code_at {K : PySem.W.Frag} {x : Str} {st : Stmt} {p : He.Defn} {fd : FuncData} (F : FunD K x x (defArgs st) (defBody st) (defScope st) [] [] (He.fAd K p) fd) : fd.code = .ref (He.cT K p).1 := by
  obtain ⟨oc, od, dV, kV, doc, pm, an, cdv, ct, osl, rfl, lk, hcd, _, _⟩ := F.ex
  obtain ⟨c, hc⟩ := He.codeIn_ref hcd
  rw [cT_fst (He.codeOf_eq lk hc)]
  exact hc
theorem uniq_at {K : PySem.W.Frag} {tf : List He.Defn} {d : He.Defn} (nd : tabsNd K tf = true) (hd : d ∈ tf) : ∀ p ∈ tabsK K tf, p.1 = (He.cT K d).2 → p.2 = lamName d.1 := fun p hp e => by
  obtain ⟨q, hq, rfl⟩ := List.mem_map.mp hp
  exact nodup_fst (f := fun p => (He.cT K p).2) (g := fun p : He.Defn => lamName p.1) (of_decide_eq_true nd) hq hd e
theorem tab_def {K : PySem.W.Frag} {mg : Str → Option Value} {base : Heap} {tf : List He.Defn} {x : Str} {st : Stmt} {fd : FuncData} (hx : ((x, none) : He.Defn) ∈ tf) (gx : mg x = some (.ref (He.fAd K (x, none)))) (F : FunD K x x (defArgs st) (defBody st) (defScope st) [] [] (He.fAd K (x, none)) fd)
    (TB : TabB base mg (He.cT K (x, none)).1 (He.cT K (x, none)).2) (nd : tabsNd K tf = true) : DefTab K mg base (tabsK K tf) x st :=
  tab_at (List.mem_map.mpr ⟨(x, none), hx, rfl⟩) gx F (code_at F) TB (uniq_at nd hx)
/-- the law's call -/
theorem law_at {l : PySem.W.OpenLaw} {w : World} {K : PySem.W.Frag} {mg : Str → Option Value} {fa : List He.Fa} {fn : List He.DefD} {tf : List He.Defn} {ex : PySem.W.Frag → Bool} {h : Heap} {f : Addr} {fd : FuncData} {k : Nat} {m : List D → M D} {x : Str} (X : K.In h) (c : He.SaysX fa fn [] tf ex w h K)
    (hb : ∀ (s : Shared) (u : Value), BindsTo s fd ⟨[u], []⟩ [(x, u)])
    (hm : ∀ ns : List Int, ns.length ≤ 63 → (∀ z ∈ ns, Builtin.Int.intBits z ≤ 1048576) → ∃ S, m [.scr ns] [] = .ok (.bl true) S)
    (F : ∀ base : Heap, K.In base → base.Ns mainGlobals mg → (∀ p ∈ tf, TabB base mg (He.cT K p).1 (He.cT K p).2) → FnOk l.prog w K mg base (L2N.CX l.prog w) k f fd [x] (spM ⟨K, mg, tabsK K tf⟩ m 1)) : LawAtS l w K (L2N.CX l.prog w) k 63 x mg f h := by
  refine ⟨fd, tf.map (He.cT K), _, fun p hp => ?_, fun p hp => ?_, fun p hp => ?_, hb, fun H a ns hl hz hT hS => ?_, fun base hK hG hTB => F base hK hG fun p hp => hTB _ (List.mem_map.mpr ⟨p, hp, rfl⟩)⟩
  · obtain ⟨q, hq, rfl⟩ := List.mem_map.mp hp
    exact c.empty q hq
  · obtain ⟨q, hq, rfl⟩ := List.mem_map.mp hp
    exact c.out q hq
  · obtain ⟨q, hq, rfl⟩ := List.mem_map.mp hp
    exact PySem.W.codeHd_of_K X (c.hd q hq)
  · obtain ⟨S, e⟩ := hm ns hl hz
    refine ⟨rfl, 0, [], [], [], [.scr ns], ⟨rfl, List.nodup_nil, fun p hp => (nomatch hp), fun i ds hh => by simp at hh, fun p hp => (nomatch hp), fun p hp => ?_⟩, .one (.scr ?_), ?_⟩
    · obtain ⟨q, hq, rfl⟩ := List.mem_map.mp hp
      exact TabS.nil (hT _ (List.mem_map.mpr ⟨q, hq, rfl⟩))
    · rcases hS with (hS | hS) | hS
      · refine .inl ⟨hS, fun b => ?_⟩
        rcases b with ⟨i, ds, h1, _⟩ | b
        · simp at h1
        · cases b
      · exact .inr (.inl hS)
      · exact .inr (.inr hS)
    · rw [e]
      intro ρ' H' v x' o' r
      cases r
      rfl
theorem cxN_none {P : Program} {w : World} (H : Hp) (s : Shared) (e : Value) (s' : Shared) : L2N.CX P w [] H s (fun _ _ _ => False) e s' → False := fun ⟨_, _, _, _, _, _, _, _, _, _, _, _, z⟩ => z
/-- a def as the head tells it -/
abbrev dd (x : Str) (st : Stmt) : He.DefD := ⟨(x, none), x, x, defArgs st, defBody st, defScope st, [], []⟩
section
variable {K : PySem.W.Frag} {h : Heap} {mg : Str → Option Value} {fa : List He.Fa} {fn : List He.DefD}
theorem lam_at {base : Heap} {tf : List He.Defn} (X : K.In h) (G : h.Ns mainGlobals mg) (c : He.SaysD fa fn K) (TB : ∀ p ∈ tf, TabB base mg (He.cT K p).1 (He.cT K p).2) (nd : tabsNd K tf = true) (i : Nat) {x : Str} {st : Stmt} (j k : Nat) (hd : fn[i]? = some (dd x st)) (hf : fa[j]? = some (.glo x)) (hk : tf[k]? = some (x, none)) : DefTab K mg base (tabsK K tf) x st := by
  obtain ⟨fd, F⟩ := c.def_ i hd
  exact tab_def (List.mem_of_getElem? hk) (He.glo_ok X G (c.fact j hf)) F (TB _ (List.mem_of_getElem? hk)) nd
theorem free_at (X : K.In h) (G : h.Ns mainGlobals mg) (c : He.SaysD fa fn K) (j : Nat) {x : Str} (hf : fa[j]? = some (.free x)) : mg x = none := He.free_ok X G (c.fact j hf)
theorem err_at (X : K.In h) (G : h.Ns mainGlobals mg) (c : He.SaysD fa fn K) (i j : Nat) {x : Str} (hi : fa[i]? = some (.glo x)) (hj : fa[j]? = some (.exc x)) : ExcOk K mg x := exc_at X G (c.fact i hi) (c.fact j hj)
theorem mth_at (X : K.In h) (G : h.Ns mainGlobals mg) {x : Str} {v : Value} (c : He.eqO (PySem.W.nsIn K mainGlobals x) (some (some v)) = true) : mg x = some v := PySem.W.mg_of X G (He.eqO_ok c)
theorem def_at (X : K.In h) (G : h.Ns mainGlobals mg) (c : He.SaysD fa fn K) (i : Nat) {x : Str} {st : Stmt} (j : Nat) (hd : fn[i]? = some (dd x st)) (hf : fa[j]? = some (.glo x)) : DefAt K mg x st := by
  obtain ⟨fd, F⟩ := c.def_ i hd
  exact ⟨_, fd, He.glo_ok X G (c.fact j hf), F⟩
end
end Mir
set_option Elab.async false
set_option linter.all false
set_option maxRecDepth 100000
set_option maxHeartbeats 4000000
namespace Mir
open PySem PySem.Spec PyProof.Rows L2 RZ
/-! ### lists that are changed in place: sums, comparisons, append -/
/-- what a list holds now -/
def lsD : D → M (List D)
  | .lst ds => ret ds
  | .ref k => rdS k
  | _ => noM
/-- a + b of lists, a new list that may be changed -/
def fAddN (d e : D) : M D := bnd (lsD d) fun xs => bnd (lsD e) fun ys => if xs.length + ys.length ≤ sizeLine ∧ nrs (xs ++ ys) = true then fNew (xs ++ ys) else noM
/-- handles as the lists they hold -/
def rsv : D → M D
  | .ref k => bnd (rdS k) fun ds => ret (.lst ds)
  | d => ret d
def fEqR (neg : Bool) (d e : D) : M D := bnd (rsv d) fun x => bnd (rsv e) fun y => fEq neg x y
def fAppend : List D → M D
  | [.ref k, d] => bnd (rdS k) fun ds => if ds.length < sizeLine ∧ nr d = true then bnd (wrS k (ds ++ [d])) fun _ => ret .non else noM
  | _ => noM
section
variable {X : Cx} {g : Gx} {W : WX}
theorem lsD_ok {α β : Type} {rl : Rl α β} {F ρ : List Addr} {H : Hp} {S : Sto} {nn : Nat} {Q : β → Hp → Prop} {d : D} {v : V} {f : List D → M α} (ok : Ok g F ρ H S) (r : Rep g H (Bar F ρ S) ρ d v) (h : Fin rl g F W nn ρ H S Q (bnd (lsD d) f S)) :
    ∃ p ds vs, v = .ref p ∧ H p = some (.lst vs) ∧ Reps g H (Bar F ρ S) ρ ds vs ∧ Fin rl g F W nn ρ H S Q (f ds S) := by
  cases d with
  | lst ds =>
    obtain ⟨p, vs, rfl, hp, nb, t⟩ := r.inv_lst
    exact ⟨p, ds, vs, rfl, hp, t, h⟩
  | ref k =>
    obtain ⟨p, rfl, hk⟩ := r.inv_ref
    obtain ⟨ds, e, h⟩ := rdS_ok h
    obtain ⟨vs, hp, t, _⟩ := ok.rd hk e
    exact ⟨p, ds, vs, rfl, hp, t, h⟩
  | _ => exact h.elim
theorem o_addN : Op2 g W fAddN rCat := by
  intro d e x y F ρ H S nn Q ok r1 r2 h
  obtain ⟨p, ds, vs, rfl, hp, t, h⟩ := lsD_ok ok r1 h
  obtain ⟨q, es, us, rfl, hq, t2, h⟩ := lsD_ok ok r2 h
  obtain ⟨hc, h⟩ := ite_ret (c := ds.length + es.length ≤ sizeLine ∧ nrs (ds ++ es) = true) h
  obtain ⟨_, k⟩ := o_new (g := g) (W := W) (ds ++ es) (vs ++ us) F ρ H S nn Q ok (t.append t2) h
  exact ⟨p, q, vs, us, rfl, rfl, hp, hq, by rw [← t.length, ← t2.length]; exact hc.1, k⟩
theorem se_addN {a b : Expr} {pos : Pos} {ma mb : Env → M D} (ha : PE X a (tE g W ma)) (hb : PE X b (tE g W mb)) : PE X (.BinOp a .Add b pos) (tE g W (m2 fAddN ma mb)) :=
  wkE (pe_op op_cat ha hb) fun σ H Q h => op2_ok o_addN h
/-- what a datum is compared as -/
theorem rsv_ok {F ρ : List Addr} {H : Hp} {S : Sto} {nn : Nat} {Q : VK} {d : D} {v : V} {f : D → M D} (ok : Ok g F ρ H S) (r : Rep g H (Bar F ρ S) ρ d v) (h : Fin rD g F W nn ρ H S Q (bnd (rsv d) f S)) :
    ∃ d', (pur d' = true → Dp g.K H v (toP d')) ∧ Fin rD g F W nn ρ H S Q (f d' S) := by
  by_cases hr : ∃ k, d = .ref k
  · obtain ⟨k, rfl⟩ := hr
    obtain ⟨p, rfl, hk⟩ := r.inv_ref
    have h : Fin rD g F W nn ρ H S Q (bnd (bnd (rdS k) fun ds => ret (.lst ds)) f S) := h
    cases e : S[k]? with
    | none =>
      have z : rdS k S = .no := by
        unfold rdS
        rw [e]
      unfold bnd at h
      rw [z] at h
      exact h.elim
    | some od =>
      cases od with
      | none =>
        have z : rdS k S = .no := by
          unfold rdS
          rw [e]
        unfold bnd at h
        rw [z] at h
        exact h.elim
      | some ds =>
        have z : rdS k S = .ok ds S := by
          unfold rdS
          rw [e]
        unfold bnd at h
        rw [z] at h
        obtain ⟨vs, hp, t, _⟩ := ok.rd hk e
        exact ⟨.lst ds, fun pp => .lst (SqL.of hp) (Reps.dp t (by simpa only [pur] using pp)), h⟩
  · have e : rsv d = ret d := by
      cases d with
      | ref k => exact absurd ⟨k, rfl⟩ hr
      | _ => rfl
    rw [e] at h
    exact ⟨d, r.dp, h⟩
theorem o_eqR : Op2 g W (fEqR false) (rEqD g.K) := by
  intro d e x y F ρ H S nn Q ok r1 r2 h
  obtain ⟨d', k1, h⟩ := rsv_ok ok r1 h
  obtain ⟨e', k2, h⟩ := rsv_ok ok r2 h
  obtain ⟨⟨h1, h2⟩, h⟩ := ite_ret h
  obtain ⟨p1, s1⟩ := Bool.and_eq_true_iff.mp h1
  obtain ⟨p2, s2⟩ := Bool.and_eq_true_iff.mp h2
  exact ⟨_, _, k1 p1, k2 p2, s1, s2, fin_same ok (.bl _) h⟩
theorem o_neR : Op2 g W (fEqR true) (rNeD g.K) := by
  intro d e x y F ρ H S nn Q ok r1 r2 h
  obtain ⟨d', k1, h⟩ := rsv_ok ok r1 h
  obtain ⟨e', k2, h⟩ := rsv_ok ok r2 h
  obtain ⟨⟨h1, h2⟩, h⟩ := ite_ret h
  obtain ⟨p1, s1⟩ := Bool.and_eq_true_iff.mp h1
  obtain ⟨p2, s2⟩ := Bool.and_eq_true_iff.mp h2
  exact ⟨_, _, k1 p1, k2 p2, s1, s2, fin_same ok (.bl _) h⟩
theorem cmp_eqR (hk : X.K = g.K) (hu : X.A.units + 64 < cLine) : Cmp X g W .Eq (fEqR false) := ⟨_, op_eqD hu, by rw [hk]; exact o_eqR⟩
theorem cmp_neR (hk : X.K = g.K) (hu : X.A.units + 64 < cLine) : Cmp X g W .NotEq (fEqR true) := ⟨_, op_neD hu, by rw [hk]; exact o_neR⟩
def chkR : D → M D
  | .ref k => bnd (rdS k) fun _ => ret .non
  | _ => noM
def mMethL (f : List D → M D) (mo : Env → M D) (ma : Env → M (List D)) (env : Env) : M D := bnd (mo env) fun d => bnd (chkR d) fun _ => bnd (ma env) fun ds => f (d :: ds)
theorem append_ok (k : Nat) (ds : List D) (vs : List V) (p : Addr) (F ρ : List Addr) (H : Hp) (S : Sto) (nn : Nat) (Q : VK) (ok : Ok g F ρ H S) (hk : ρ[k]? = some p) (r : Reps g H (Bar F ρ S) ρ ds vs) (h : Fin rD g F W nn ρ H S Q (fAppend (.ref k :: ds) S)) : rAppend (.ref p) vs H Q := by
  cases r with
  | nil => exact h.elim
  | cons r1 r2 =>
    rename_i d v ds vs
    cases r2 with
    | cons _ _ => exact h.elim
    | nil =>
      have h : Fin rD g F W nn ρ H S Q (bnd (rdS k) (fun es => if es.length < sizeLine ∧ nr d = true then bnd (wrS k (es ++ [d])) fun _ => ret .non else noM) S) := h
      obtain ⟨es, e, h⟩ := rdS_ok h
      obtain ⟨us, hp, t, hn⟩ := ok.rd hk e
      obtain ⟨hc, h⟩ := ite_ret (c := es.length < sizeLine ∧ nr d = true) h
      refine ⟨p, us, _, rfl, rfl, hp, by rw [← t.length]; exact hc.1, ?_⟩
      have x := ext_wr (es := es ++ [d]) (us := us ++ [v]) ok hk e
      exact h ρ _ .non x (ok_wr ok hk e (t.append (.one r1)) (nrs_append hn (by simp [nrs, hc.2]))) .non
theorem se_append {o e : Expr} {apos cpos : Pos} {mo : Env → M D} {ma : Env → M (List D)} (hk : X.K = g.K) (ho : PE X o (tE g W mo)) (ha : PA X [e] (tL g W ma))
    (hbase : attributeBase o "append" X.env (eval o X.env) = eval o X.env := by rfl)
    (hfew : ((backTo cpos (starEach [e] X.env)).all (fun x => !x.1) && (backToKw cpos (keywordEach [] X.env)).all (fun x => x.1.isSome) && decide ([e].length + ([] : List Keyword).length + (if ([] : List Keyword).isEmpty then 0 else 1) < 30)) = true := by rfl)
    (hline : (apos.endLine == cpos.line) = true := by rfl) (hs : starEach [e] X.env = (false, eval e X.env) :: starEach [] X.env := by rfl) (hplain : (backTo cpos (starEach [] X.env)).any (·.1) = false := by rfl) :
    PE X (.Call (.Attribute o "append" apos) [e] [] cpos) (tE g W (mMethL fAppend mo ma)) := by
  refine wkE (pe_bm F.plainAttrs_list F.slot_list_append F.type_list_append mt_append ho ha hbase hfew hline hs hplain) fun σ H Q h => ?_
  have h := push (k := fun ds env => match ds with
    | [d] => bnd (chkR d) fun _ => bnd (ma env) fun es => fAppend (d :: es)
    | _ => noM) (vs := []) (h.cg0 fun env => rfl)
  refine tH.mono (fun v H1 q => ?_) h
  obtain ⟨nn, F, ρ, env, S, ds, n, ok, rr, q⟩ := q
  have rr : Reps g H1 (Bar F ρ S) ρ ds [v] := rr
  cases rr with
  | cons r1 r2 =>
    cases r2
    rename_i d
    have q : Fin rD g F W nn ρ H1 S Q (bnd (chkR d) (fun _ => bnd (ma env) fun es => fAppend (d :: es)) S) := q
    cases d with
    | ref k =>
      obtain ⟨p, rfl, hk1⟩ := r1.inv_ref
      have q : Fin rD g F W nn ρ H1 S Q (bnd (bnd (rdS k) fun _ => ret D.non) (fun _ => bnd (ma env) fun es => fAppend (.ref k :: es)) S) := q
      rw [show bnd (bnd (rdS k) fun _ => ret D.non) (fun _ => bnd (ma env) fun es => fAppend (.ref k :: es)) S = bnd (rdS k) (fun _ => bnd (ma env) fun es => fAppend (.ref k :: es)) S by
        unfold bnd
        cases rdS k S <;> rfl] at q
      obtain ⟨es, e, q⟩ := rdS_ok q
      obtain ⟨us, hp, _⟩ := ok.rd hk1 e
      refine ⟨.inl ⟨rfl, us, SqL.of hp⟩, ?_⟩
      have q2 : tL g W ma σ H1 fun us H2 => tH rD g W (fun ds _ => fAppend ds) ([.ref p] ++ us) σ H2 Q := pushL (k := fun ds _ => fAppend ds) (vs := [.ref p]) ⟨nn, F, ρ, env, S, [.ref k], n, ok, .one r1, q⟩
      refine tH.mono (fun us H2 q => ?_) q2
      obtain ⟨nn, F, ρ, env, S, ds, n, ok, rr, q⟩ := q
      have rr : Reps g H2 (Bar F ρ S) ρ ds (.ref p :: us) := rr
      cases rr with
      | cons r1 r2 =>
        rename_i d ds
        have q : Fin rD g F W nn ρ H2 S Q (fAppend (d :: ds) S) := q
        cases d with
        | ref k =>
          cases r1 with
          | ref hk2 => exact append_ok k ds us p F ρ H2 S nn Q ok hk2 r2 q
        | _ => exact q.elim
    | _ => exact q.elim
end
end Mir
set_option Elab.async false
set_option linter.all false
set_option maxRecDepth 100000
set_option maxHeartbeats 4000000
namespace Mir
open PySem PySem.Spec PyProof.Rows L2 RZ
/-! ### what a walk draws from: a tuple or a list -/
inductive SK where
  | tp
  | ls
def SkAt (K : PySem.W.Frag) (H : Hp) : SK → Addr → List V → Prop
  | .tp, a, xs => SqT K H a xs
  | .ls, a, xs => SqL K H a xs
def SkIt (h : Heap) : SK → Addr → Addr → Nat → Prop
  | .tp, it, a, i => h.IsTupleIter it a i
  | .ls, it, a, i => h.IsListIter it a i
def SkIs (h : Heap) : SK → Addr → Array Value → Prop
  | .tp, a, its => h.IsTuple a its
  | .ls, a, its => h.IsList a its
theorem SkIs.lt {h : Heap} {k : SK} {a : Addr} {its : Array Value} (x : SkIs h k a its) : a < h.objs.size := by
  cases k with
  | tp => obtain ⟨o, ho, _⟩ := (show h.IsTuple a its from x); exact Heap.lt_size ho
  | ls => obtain ⟨o, ho, _⟩ := (show h.IsList a its from x); exact Heap.lt_size ho
theorem SkIt.there {h : Heap} {k : SK} {it a : Addr} {i : Nat} (x : SkIt h k it a i) : ∃ o, h.get? it = some o ∧ ∀ v, o.data ≠ .cell v := by
  cases k with
  | tp => obtain ⟨o, ho, _, hd⟩ := (show h.IsTupleIter it a i from x); exact ⟨o, ho, fun v q => by rw [hd] at q; cases q⟩
  | ls => obtain ⟨o, ho, _, hd⟩ := (show h.IsListIter it a i from x); exact ⟨o, ho, fun v q => by rw [hd] at q; cases q⟩
theorem SkIt.at {h h' : Heap} {k : SK} {it a : Addr} {i : Nat} (x : SkIt h k it a i) (q : ∀ o, h.get? it = some o → h'.get? it = some o) : SkIt h' k it a i := by
  cases k with
  | tp => exact (show h.IsTupleIter it a i from x).at q
  | ls => exact (show h.IsListIter it a i from x).at q
section
variable {X : Cx} {pins : List (Addr × Obj)} {σ : L2.St} {H : Hp} {s : Shared}
theorem sk_at {k : SK} {a : Addr} {xs : List V} (I : Inv X pins σ H s) (h : SkAt X.K H k a xs) : ∃ its : List Value, Vals xs its ∧ SkIs s.heap k a its.toArray ∧ xs.length ≤ sizeLine := by
  cases k with
  | tp =>
    obtain ⟨its, r, p, hz⟩ := I.tuple (show SqT X.K H a xs from h)
    exact ⟨its, r, (show s.heap.IsTuple a its.toArray from p), hz⟩
  | ls =>
    obtain ⟨its, r, p, hz⟩ := I.list (show SqL X.K H a xs from h)
    exact ⟨its, r, p.isList, hz⟩
theorem sk_inj {k : SK} {a : Addr} {xs ys : List V} (I : Inv X pins σ H s) (h : SkAt X.K H k a xs) (h' : SkAt X.K H k a ys) : xs = ys := by
  cases k with
  | tp => exact I.tuple_inj (show SqT X.K H a xs from h) h'
  | ls => exact I.list_inj (show SqL X.K H a xs from h) h'
end
theorem sk_draws {prog : Program} {w : World} {A : Around} (hh : A.handled = none) (k : SK) (it a : Addr) (hne : a ≠ it) (items : Array Value) :
    Draws prog w A it [it, a] items.size (fun i v => items[i]? = some v) (fun i h => SkIt h k it a i ∧ SkIs h k a items) := by
  cases k with
  | tp => exact Draws.tuple hh it a hne items
  | ls => exact Draws.list hh it a hne items
theorem sk_begins (k : SK) (a : Addr) (items : Array Value) : ∃ o, Begins (.ref a) o (fun h => SkIs h k a items) ∧ ∀ (h : Heap) (it : Addr), h.get? it = some o → SkIt h k it a 0 := by
  cases k with
  | tp => exact ⟨_, begins_tuple a items, fun h it e => ⟨_, e, rfl, rfl⟩⟩
  | ls => exact ⟨_, begins_list a items, fun h it e => ⟨_, e, rfl, rfl⟩⟩
/-! ### zip of three -/
def ItZ3 (K : PySem.W.Frag) (k1 k2 k3 : SK) (a b c : Addr) : It :=
  ⟨fun i H => ∃ xs ys zs x y z, SkAt K H k1 a xs ∧ SkAt K H k2 b ys ∧ SkAt K H k3 c zs ∧ xs[i]? = some x ∧ ys[i]? = some y ∧ zs[i]? = some z,
    fun i H v H' => ∃ T x y z, v = .ref T ∧ H T = none ∧ H' = upd H T (.tup [x, y, z]) ∧ (∀ xs, SkAt K H k1 a xs → xs[i]? = some x) ∧ (∀ ys, SkAt K H k2 b ys → ys[i]? = some y) ∧ ∀ zs, SkAt K H k3 c zs → zs[i]? = some z,
    fun i H => ∃ xs ys zs, SkAt K H k1 a xs ∧ SkAt K H k2 b ys ∧ SkAt K H k3 c zs ∧ i = min (min xs.length ys.length) zs.length⟩
theorem turn_z3 {P : Program} {w : World} {K : PySem.W.Frag} {elts : List Expr} {kk : Nat} {tpos : Pos} {k1 k2 k3 : SK} {a b c z TI TO i1 i2 i3 : Addr} (S : ZipSep3 z TI TO i1 i2 i3 [i1, a] [i2, b] [i3, c]) (n1 : a ≠ i1) (n2 : b ≠ i2) (n3 : c ≠ i3) :
    Turn P w K (.Tuple elts kk tpos) (ItZ3 K k1 k2 k3 a b c) [z, TI, TO, i1, i2, i3] z (fun i h => IsZip h z TI TO .none ∧ IsTupOf3 h TI (.ref i1) (.ref i2) (.ref i3) ∧ (∃ x y u, IsTupOf3 h TO x y u) ∧ SkIt h k1 i1 a i ∧ SkIt h k2 i2 b i ∧ SkIt h k3 i3 c i) where
  mem := by simp
  obj := fun i h st e he => by
    obtain ⟨hz, hTI, ⟨x, y, u, hTO⟩, h1, h2, h3⟩ := st
    simp only [List.mem_cons, List.not_mem_nil, or_false] at he
    rcases he with rfl | rfl | rfl | rfl | rfl | rfl
    · exact ⟨_, hz, fun v q => nomatch q⟩
    · exact ⟨_, hTI, fun v q => nomatch q⟩
    · exact ⟨_, hTO, fun v q => nomatch q⟩
    · exact h1.there
    · exact h2.there
    · exact h3.there
  keep := fun i h h' st k => by
    obtain ⟨hz, hTI, ⟨x, y, u, hTO⟩, h1, h2, h3⟩ := st
    exact ⟨k z (by simp) _ hz, k TI (by simp) _ hTI, ⟨x, y, u, k TO (by simp) _ hTO⟩, h1.at fun o q => k i1 (by simp) o q, h2.at fun o q => k i2 (by simp) o q, h3.at fun o q => k i3 (by simp) o q⟩
  item := by
    intro X hP hw hK hc i pins s σ H E I hf st hg
    subst hP hw hK
    obtain ⟨hz, hTI, hTO, h1, h2, h3⟩ := st
    obtain ⟨xs, ys, zs, x, y, u, qx, qy, qz, hx, hy, hu⟩ := hg
    obtain ⟨its1, r1, p1, _⟩ := sk_at I qx
    obtain ⟨its2, r2, p2, _⟩ := sk_at I qy
    obtain ⟨its3, r3, p3, _⟩ := sk_at I qz
    have hd : X.A.in1.handled = none := I.ok.hd hc
    have W := WalksT.zipD3 (prog := X.prog) (w := X.w) (A := X.A) S (sk_draws hd k1 i1 a n1 its1.toArray) (sk_draws hd k2 i2 b n2 its2.toArray) (sk_draws hd k3 i3 c n3 its3.toArray)
    have l1 := (List.getElem?_eq_some_iff.mp hx).1
    have l2 := (List.getElem?_eq_some_iff.mp hy).1
    have l3 := (List.getElem?_eq_some_iff.mp hu).1
    have e1 := r1.length
    have e2 := r2.length
    have e3 := r3.length
    refine W.item i s _ E (by simp only [List.size_toArray]; omega) ⟨hz, hTI, hTO, ⟨h1, p1⟩, ⟨h2, p2⟩, ⟨h3, p3⟩⟩ fun T vals h' tk hP hT hIs hM hk => ?_
    obtain ⟨v1, v2, v3, w1, w2, w3, rfl⟩ := hP
    refine ⟨_, rfl, W.go elts kk tpos i T { s with heap := h', toks := tk } _ _ hM fun h'' st' hk' => ?_⟩
    have kept : ∀ e o, e ∉ [z, TI, TO, i1, i2, i3] → s.heap.get? e = some o → h''.get? e = some o := fun e o he q => by
      have ne : e ∉ [z, TO, i1, i2, i3] := fun m => he (by
        simp only [List.mem_cons, List.not_mem_nil, or_false] at m ⊢
        rcases m with m | m | m | m | m <;> simp [m])
      exact hk' e o ne (hk e o ne q)
    have apart := W.apart i T h' hM
    obtain ⟨oT, hoT, cT, nT, dT⟩ := hIs
    have hT2 : h''.get? T = some oT := hk' T oT apart hoT
    obtain ⟨a1, b1, c1⟩ := r1.get hx
    obtain ⟨a2, b2, c2⟩ := r2.get hy
    obtain ⟨a3, b3, c3⟩ := r3.get hu
    have f1 : a1 = v1 := Option.some.inj (b1.symm.trans (by simpa using w1))
    have f2 : a2 = v2 := Option.some.inj (b2.symm.trans (by simpa using w2))
    have f3 : a3 = v3 := Option.some.inj (b3.symm.trans (by simpa using w3))
    subst f1 f2 f3
    have new : ObjOk X.prog X.w (upd H T (.tup [x, y, u])) h'' T (.tup [x, y, u]) := ⟨by show 3 ≤ sizeLine; decide, [a1, a2, a3], .cons c1 (.cons c2 (.cons c3 .nil)), ⟨oT, hT2, cT, nT, dT⟩⟩
    have I1 : Inv X pins σ (upd H T (.tup [x, y, u])) { s with heap := h'', toks := tk } := I.turnedNew (ch := [z, TI, TO, i1, i2, i3]) kept hf hT new
    obtain ⟨z1, z2, z3, ⟨z4, _⟩, ⟨z5, _⟩, ⟨z6, _⟩⟩ := st'
    refine ⟨.ref T, _, I1, rfl, ⟨T, x, y, u, rfl, I.hok.fresh hT, rfl, fun l hl => by rw [sk_inj I hl qx]; exact hx, fun l hl => by rw [sk_inj I hl qy]; exact hy, fun l hl => by rw [sk_inj I hl qz]; exact hu⟩, ⟨z1, z2, z3, z4, z5, z6⟩, fun e he => ?_⟩
    have lt : e < s.heap.objs.size := by
      obtain ⟨_, _, _, g1, g2, g3⟩ := (show IsZip s.heap z TI TO .none ∧ IsTupOf3 s.heap TI (.ref i1) (.ref i2) (.ref i3) ∧ (∃ x y u, IsTupOf3 s.heap TO x y u) ∧ SkIt s.heap k1 i1 a i ∧ SkIt s.heap k2 i2 b i ∧ SkIt s.heap k3 i3 c i from ⟨hz, hTI, hTO, h1, h2, h3⟩)
      obtain ⟨_, _, _, hTO⟩ := hTO
      simp only [List.mem_cons, List.not_mem_nil, or_false] at he
      rcases he with rfl | rfl | rfl | rfl | rfl | rfl
      · exact Heap.lt_size hz
      · exact Heap.lt_size hTI
      · exact Heap.lt_size hTO
      · obtain ⟨_, q, _⟩ := g1.there; exact Heap.lt_size q
      · obtain ⟨_, q, _⟩ := g2.there; exact Heap.lt_size q
      · obtain ⟨_, q, _⟩ := g3.there; exact Heap.lt_size q
    rw [upd_ne (Nat.ne_of_lt (Nat.lt_of_lt_of_le lt hT))]
    exact (hf e he).1
  done := by
    intro X hP hw hK hc i pins s σ H E I hf st hg
    subst hP hw hK
    obtain ⟨hz, hTI, hTO, h1, h2, h3⟩ := st
    obtain ⟨xs, ys, zs, qx, qy, qz, hi⟩ := hg
    obtain ⟨its1, r1, p1, _⟩ := sk_at I qx
    obtain ⟨its2, r2, p2, _⟩ := sk_at I qy
    obtain ⟨its3, r3, p3, _⟩ := sk_at I qz
    have hd : X.A.in1.handled = none := I.ok.hd hc
    have W := WalksT.zipD3 (prog := X.prog) (w := X.w) (A := X.A) S (sk_draws hd k1 i1 a n1 its1.toArray) (sk_draws hd k2 i2 b n2 its2.toArray) (sk_draws hd k3 i3 c n3 its3.toArray)
    have e1 := r1.length
    have e2 := r2.length
    have e3 := r3.length
    have hn : min (min its1.toArray.size its2.toArray.size) its3.toArray.size = i := by simp only [List.size_toArray]; omega
    refine W.done s _ E (by rw [hn]; exact ⟨hz, hTI, hTO, ⟨h1, p1⟩, ⟨h2, p2⟩, ⟨h3, p3⟩⟩) fun h' tk hk => ⟨rfl, ?_⟩
    refine I.turnedL (ch := [z, TI, TO, i1, i2, i3]) (fun e o he q => hk e o (fun m => he (by
        simp only [List.mem_cons, List.not_mem_nil, or_false] at m ⊢
        rcases m with m | m | m | m | m <;> simp [m])) q) hf
  self := fun A i s Q E st h => wpAny_pyIter_zip st.1 h
theorem walk_z3 {K : PySem.W.Frag} {k1 k2 k3 : SK} {a b c : Addr} {xs ys zs : List V} {n : Nat} (hn : n = min (min xs.length ys.length) zs.length) : Walk (ItZ3 K k1 k2 k3 a b c) n (fun H => SkAt K H k1 a xs ∧ SkAt K H k2 b ys ∧ SkAt K H k3 c zs)
    (fun i H v H' => ∃ T x y z, v = .ref T ∧ H T = none ∧ H' = upd H T (.tup [x, y, z]) ∧ xs[i]? = some x ∧ ys[i]? = some y ∧ zs[i]? = some z) := by
  subst hn
  refine ⟨fun i H hi q => ?_, fun H q => ⟨xs, ys, zs, q.1, q.2.1, q.2.2, rfl⟩, fun i H v H' _ q y => ?_⟩
  · have h1 : i < xs.length := by omega
    have h2 : i < ys.length := by omega
    have h3 : i < zs.length := by omega
    exact ⟨xs, ys, zs, xs[i], ys[i], zs[i], q.1, q.2.1, q.2.2, by simp [h1], by simp [h2], by simp [h3]⟩
  · obtain ⟨T, x, y, z, e1, e2, e3, f1, f2, f3⟩ := y
    exact ⟨T, x, y, z, e1, e2, e3, f1 _ q.1, f2 _ q.2.1, f3 _ q.2.2⟩
def iZ3 (K : PySem.W.Frag) (ta : TA) : TI := fun σ H R => ta σ H fun vs H1 => ∃ k1 k2 k3 a b c xs ys zs, vs = [.ref a, .ref b, .ref c] ∧ SkAt K H1 k1 a xs ∧ SkAt K H1 k2 b ys ∧ SkAt K H1 k3 c zs ∧ R (ItZ3 K k1 k2 k3 a b c) H1
theorem pi_z3 {X : Cx} {e e2 e3 : Expr} {ta : TA} {p pos tpos : Pos} {elts : List Expr} {kk : Nat} (hg : Gl X "zip") (hm : X.mg "zip" = none) (ha : PA X [e, e2, e3] ta)
    (hs : starEach [e, e2, e3] X.env = (false, eval e X.env) :: starEach [e2, e3] X.env := by rfl) (hpl : (backTo pos (starEach [e2, e3] X.env)).any (·.1) = false := by rfl) :
    PI X (.Tuple elts kk tpos) (.Call (.Name "zip" p) [e, e2, e3] [] pos) (iZ3 X.K ta) := by
  refine ⟨fun pins s σ H R I h => ?_⟩
  refine Call_ (ld_blt I hg hm PyProof.Rows.boot_zip (PyProof.Rows.callWith_type1 (thn (ha.run pos pins s σ H _ I h) fun us s1 ⟨vs, H1, I1, r1, q1⟩ => ?_) hs hpl))
  obtain ⟨k1, k2, k3, a, b, c, xs, ys, zs, ex, qx, qy, qz, q⟩ := q1
  subst ex
  cases r1 with
  | cons r rr =>
    cases rr with
    | cons r' rr =>
      cases rr with
      | cons r'' rr =>
        cases rr
        cases r
        cases r'
        cases r''
        obtain ⟨its1, _, p1, _⟩ := sk_at I1 qx
        obtain ⟨its2, _, p2, _⟩ := sk_at I1 qy
        obtain ⟨its3, _, p3, _⟩ := sk_at I1 qz
        obtain ⟨o1, B1, g1⟩ := sk_begins k1 a its1.toArray
        obtain ⟨o2, B2, g2⟩ := sk_begins k2 b its2.toArray
        obtain ⟨o3, B3, g3⟩ := sk_begins k3 c its3.toArray
        refine zip_begins3 B1 B2 B3 p1 p2 p3 fun h' hz hTI hTO e1 e2 e3 hsz hk => wpAny_pyIter_zip hz ?_
        have I2 : Inv X pins σ H1 { s1 with heap := h' } := I1.kept (t' := s1.toks) hk
        generalize hN : s1.heap.objs.size = N at *
        have la : a < N := hN ▸ p1.lt
        have lb : b < N := hN ▸ p2.lt
        have lc : c < N := hN ▸ p3.lt
        refine ⟨N + 5, [N + 5, N + 3, N + 4, N, N + 1, N + 2], _, _, H1, rfl, I2, turn_z3 (zip_sep3 (N := N) (fp1 := [a]) (fp2 := [b]) (fp3 := [c]) (fun x hx => by rw [List.mem_singleton.mp hx]; exact la) (fun x hx => by rw [List.mem_singleton.mp hx]; exact lb) (fun x hx => by rw [List.mem_singleton.mp hx]; exact lc))
          (Nat.ne_of_lt la) (Nat.ne_of_lt (Nat.lt_succ_of_lt lb)) (Nat.ne_of_lt (Nat.lt_succ_of_lt (Nat.lt_succ_of_lt lc))), ⟨hz, hTI, ⟨_, _, _, hTO⟩, g1 _ _ e1, g2 _ _ e2, g3 _ _ e3⟩, fun x hx => ?_, q⟩
        have hle : s1.heap.objs.size ≤ x := by
          rw [hN]
          simp only [List.mem_cons, List.not_mem_nil, or_false] at hx
          rcases hx with rfl | rfl | rfl | rfl | rfl | rfl
          · exact Nat.le_add_right _ _
          · exact Nat.le_add_right _ _
          · exact Nat.le_add_right _ _
          · exact Nat.le_refl _
          · exact Nat.le_add_right _ _
          · exact Nat.le_add_right _ _
        exact I1.fpOk hle (I1.hok.fresh hle)
/-- what a tuple or a list holds, none else -/
def sqD : D → M (List D)
  | .tup ds => ret ds
  | .lst ds => ret ds
  | _ => noM
def zpD3 : List D → List D → List D → List D
  | a :: as, b :: bs, c :: cs => .tup [a, b, c] :: zpD3 as bs cs
  | _, _, _ => []
theorem zpD3_length : ∀ as bs cs : List D, (zpD3 as bs cs).length = min (min as.length bs.length) cs.length
  | [], _, _ => by simp [zpD3]
  | _ :: _, [], _ => by simp [zpD3]
  | _ :: _, _ :: _, [] => by simp [zpD3]
  | a :: as, b :: bs, c :: cs => by
    simp only [zpD3, List.length_cons, zpD3_length as bs cs]
    omega
theorem zpD3_get : ∀ (as bs cs : List D) (i : Nat) (x y z : D), as[i]? = some x → bs[i]? = some y → cs[i]? = some z → (zpD3 as bs cs)[i]? = some (.tup [x, y, z])
  | a :: as, b :: bs, c :: cs, 0, x, y, z, h1, h2, h3 => by
    simp at h1 h2 h3
    subst h1 h2 h3
    simp [zpD3]
  | a :: as, b :: bs, c :: cs, i + 1, x, y, z, h1, h2, h3 => by
    simp only [zpD3, List.getElem?_cons_succ]
    exact zpD3_get as bs cs i x y z (by simpa using h1) (by simpa using h2) (by simpa using h3)
  | [], _, _, _, _, _, _, h, _, _ => by simp at h
  | _ :: _, [], _, _, _, _, _, _, h, _ => by simp at h
  | _ :: _, _ :: _, [], _, _, _, _, _, _, h => by simp at h
def fZip3 : List D → M (List D)
  | [a, b, c] => bnd (sqD a) fun as => bnd (sqD b) fun bs => bnd (sqD c) fun cs => ret (zpD3 as bs cs)
  | _ => noM
section
variable {X : Cx} {g : Gx} {W : WX}
theorem sq_at {α β : Type} {rl : Rl α β} {F ρ : List Addr} {H : Hp} {S : Sto} {nn : Nat} {Q : β → Hp → Prop} {d : D} {v : V} {f : List D → M α} (r : Rep g H (Bar F ρ S) ρ d v) (h : Fin rl g F W nn ρ H S Q (bnd (sqD d) f S)) :
    ∃ k p ds vs, v = .ref p ∧ SkAt g.K H k p vs ∧ Reps g H (Bar F ρ S) ρ ds vs ∧ Fin rl g F W nn ρ H S Q (f ds S) ∧ ∀ H' B' ρ', Car g H H' (Bar F ρ S) B' ρ ρ' → SkAt g.K H' k p vs := by
  cases d with
  | lst ds =>
    obtain ⟨p, vs, rfl, hp, nb, t⟩ := r.inv_lst
    exact ⟨.ls, p, ds, vs, rfl, SqL.of hp, t, h, fun H' B' ρ' c => SqL.of (c.keep _ _ hp (fun _ z => by cases z) (fun b => absurd b nb))⟩
  | tup ds =>
    obtain ⟨p, vs, rfl, hp, t⟩ := r.inv_tup
    exact ⟨.tp, p, ds, vs, rfl, hp, t, h, fun H' B' ρ' c => c.sqT hp⟩
  | _ => exact h.elim
theorem si_zip3 {e e2 e3 : Expr} {p pos tpos : Pos} {elts : List Expr} {kk : Nat} {m : Env → M (List D)} (hk : X.K = g.K) (hg : Gl X "zip") (hm : X.mg "zip" = none) (ha : PA X [e, e2, e3] (tL g W m))
    (hs : starEach [e, e2, e3] X.env = (false, eval e X.env) :: starEach [e2, e3] X.env := by rfl) (hpl : (backTo pos (starEach [e2, e3] X.env)).any (·.1) = false := by rfl) :
    PI X (.Tuple elts kk tpos) (.Call (.Name "zip" p) [e, e2, e3] [] pos) (tI g W (mItN fZip3 m)) :=
  wkI (pi_z3 hg hm ha hs hpl) fun σ H R h => by
    refine tH.mono (fun vs H1 q => ?_) (pushL (k := fun ds _ => fZip3 ds) (vs := []) (h.cg0 fun env => rfl))
    obtain ⟨nn, F, ρ, env, S, ds, n, o, r, h⟩ := q
    have r : Reps g H1 (Bar F ρ S) ρ ds vs := r
    have h : Fin rIt g F W nn ρ H1 S R (fZip3 ds S) := h
    unfold fZip3 at h
    split at h
    · cases r with
      | cons r1 r2 =>
        cases r2 with
        | cons r2 r3 =>
          cases r3 with
          | cons r3 r4 =>
            cases r4
            obtain ⟨k1, a, as, us, rfl, qa, t1, h, c1⟩ := sq_at r1 h
            obtain ⟨k2, b, bs, vs, rfl, qb, t2, h, c2⟩ := sq_at r2 h
            obtain ⟨k3, c, cs, ws, rfl, qc, t3, h, c3⟩ := sq_at r3 h
            rw [hk]
            refine ⟨k1, k2, k3, a, b, c, us, vs, ws, rfl, qa, qb, qc, h ρ H1 _ .refl o ⟨_, _, walk_z3 (xs := us) (ys := vs) (zs := ws) (by rw [zpD3_length, t1.length, t2.length, t3.length]), fun H' B' ρ' c => ⟨c1 _ _ _ c, c2 _ _ _ c, c3 _ _ _ c⟩, fun i H2 x H3 B1 ρ1 cc hi y => ?_⟩⟩
            obtain ⟨T, x, y, z, rfl, hT, rfl, e1, e2, e3⟩ := y
            refine ⟨.inr ⟨T, _, hT, rfl⟩, ?_⟩
            rw [zpD3_length] at hi
            have l1 : i < as.length := by omega
            have l2 : i < bs.length := by omega
            have l3 : i < cs.length := by omega
            refine ⟨_, zpD3_get as bs cs i as[i] bs[i] cs[i] (by simp) (by simp) (by simp), fun B2 ρ2 c2 => .tup (SqT.of upd_same) (.cons ?_ (.cons ?_ (.one ?_)))⟩
            · obtain ⟨v, f1, f2⟩ := t1.get (i := i) (d := as[i]) (by simp)
              rw [e1] at f1
              cases f1
              exact f2.car c2
            · obtain ⟨v, f1, f2⟩ := t2.get (i := i) (d := bs[i]) (by simp)
              rw [e2] at f1
              cases f1
              exact f2.car c2
            · obtain ⟨v, f1, f2⟩ := t3.get (i := i) (d := cs[i]) (by simp)
              rw [e3] at f1
              cases f1
              exact f2.car c2
    · exact h.elim
end
end Mir
set_option Elab.async false
set_option linter.all false
set_option maxRecDepth 100000
set_option maxHeartbeats 4000000
namespace Mir
open PySem PySem.Spec PyProof.Rows L2 RZ
section
variable {X : Cx} {g : Gx} {W : WX}
def mPar3 (i j l : Nat) (m : Env → M (List D)) : MS := fun env => bnd (m env) fun ds => match ds with
  | [d, e, f] => ret (.nx, ((env.set i (some d)).set j (some e)).set l (some f))
  | _ => noM
theorem ss_par3 {i j l : Nat} {x y z : Str} {a b c : Expr} {m : Env → M (List D)} {px py pz pt pos : Pos} {kt k2 pt2} (hc : X.calm = true) (hN : X.N.Nodup) (hi : X.N[i]? = some x) (hj : X.N[j]? = some y) (hl : X.N[l]? = some z) (hij : i ≠ j) (hil : i ≠ l) (hjl : j ≠ l)
    (hx : X.env.scope.names.lookup x = some .local) (hy : X.env.scope.names.lookup y = some .local) (hz : X.env.scope.names.lookup z = some .local) (ha : PA X [a, b, c] (tL g W m))
    (hw : swappedStores [.Tuple [.Name x px, .Name y py, .Name z pz] kt pt] (.Tuple [a, b, c] k2 pt2) X.env = pure (some [x, y, z]) := by rfl) (hs : swapsWithSole [.Tuple [.Name x px, .Name y py, .Name z pz] kt pt] (.Tuple [a, b, c] k2 pt2) pos.line X.env = pure false := by rfl) :
    PS X (.Assign [.Tuple [.Name x px, .Name y py, .Name z pz] kt pt] (.Tuple [a, b, c] k2 pt2) pos) (tS g W (mPar3 i j l m)) := wkS (ps_par3 hc hN hi hj hl hij hil hjl hx hy hz ha hw hs) fun D σ H h => by
  refine tH.mono (fun vs H1 q => ?_) (pushL (k := fun ds env => match ds with | [d, e, f] => ret (.nx, ((env.set i (some d)).set j (some e)).set l (some f)) | _ => noM) (vs := []) (h.cg0 fun env => rfl))
  obtain ⟨nn, F, ρ, env, S, ds, n, o, r, h⟩ := q
  cases r with
  | nil => exact h.elim
  | cons r1 r2 =>
    cases r2 with
    | nil => exact h.elim
    | cons r2 r3 =>
      cases r3 with
      | nil => exact h.elim
      | cons r3 r4 =>
        cases r4 with
        | nil => exact ⟨_, _, _, rfl, h ρ H1 (.nx _) .refl o (((n.set r1 i).set r2 j).set r3 l)⟩
        | cons _ _ => exact h.elim
end
/-- the block of a comprehension within a comprehension -/
theorem blk_in {N : List Str} {sc0 mid scope : Scope} {own : List (Str × Nat)} {cl : List (Str × Addr)} {C : Addr} {env : PySem.Env} (h0 : env.scope = sc0) (h : BlkOk N (relS mid sc0) scope own) : BlkOk N (compEnvC mid cl C env).scope scope own := by
  subst h0
  exact h
/-! ### enumerate of a tuple or a list -/
def ItE (K : PySem.W.Frag) (k : SK) (a : Addr) : It :=
  ⟨fun i H => ∃ xs x, SkAt K H k a xs ∧ xs[i]? = some x, fun i H v H' => ∃ T x, v = .ref T ∧ H T = none ∧ H' = upd H T (.tup [.int (i : Nat), x]) ∧ ∀ xs, SkAt K H k a xs → xs[i]? = some x, fun i H => ∃ xs, SkAt K H k a xs ∧ i = xs.length⟩
theorem turn_e {P : Program} {w : World} {K : PySem.W.Frag} {elts : List Expr} {kk : Nat} {tpos : Pos} {k : SK} {a e it : Addr} (n1 : a ≠ it) (n2 : e ≠ it) (n3 : e ≠ a) :
    Turn P w K (.Tuple elts kk tpos) (ItE K k a) [e, it] e (fun i h => (∃ old, IsEnum h e it (0 + (i : Int)) old) ∧ SkIt h k it a i) where
  mem := by simp
  obj := fun i h st b hb => by
    obtain ⟨⟨old, he⟩, h1⟩ := st
    simp only [List.mem_cons, List.not_mem_nil, or_false] at hb
    rcases hb with rfl | rfl
    · exact ⟨_, he, fun v q => nomatch q⟩
    · exact h1.there
  keep := fun i h h' st q => by
    obtain ⟨⟨old, he⟩, h1⟩ := st
    exact ⟨⟨old, q e (by simp) _ he⟩, h1.at fun o r => q it (by simp) o r⟩
  item := by
    intro X hP hw hK hc i pins s σ H E I hf st hg
    subst hP hw hK
    obtain ⟨he, h1⟩ := st
    obtain ⟨xs, x, qx, hx⟩ := hg
    obtain ⟨its, r1, p1, _⟩ := sk_at I qx
    have hd : X.A.in1.handled = none := I.ok.hd hc
    have W := WalksT.enumFrom (prog := X.prog) (w := X.w) (A := X.A) 0 (sk_draws hd k it a n1 its.toArray) e n2 (by simp [n2, n3]) (by simp)
    have l1 := (List.getElem?_eq_some_iff.mp hx).1
    have e1 := r1.length
    refine W.item i s _ E (by simp only [List.size_toArray]; omega) ⟨he, h1, p1⟩ fun T vals h' tk hP hT hIs hM hk => ?_
    obtain ⟨t, v1, w1, rfl⟩ := hP
    refine ⟨_, rfl, W.go elts kk tpos i T { s with heap := h', toks := tk } _ _ hM fun h'' st' hk' => ?_⟩
    have kept : ∀ b o, b ∉ [e, it] → s.heap.get? b = some o → h''.get? b = some o := fun b o hb q => hk' b o hb (hk b o hb q)
    have apart := W.apart i T h' hM
    obtain ⟨oT, hoT, cT, nT, dT⟩ := hIs
    have hT2 : h''.get? T = some oT := hk' T oT apart hoT
    obtain ⟨a1, b1, c1⟩ := r1.get hx
    have f1 : a1 = v1 := Option.some.inj (b1.symm.trans (by simpa using w1))
    subst f1
    have e0 : (0 : Int) + (i : Int) = ((i : Nat) : Int) := by omega
    have new : ObjOk X.prog X.w (upd H T (.tup [.int (i : Nat), x])) h'' T (.tup [.int (i : Nat), x]) := ⟨by show 2 ≤ sizeLine; decide, [.int (0 + (i : Int)) t, a1], .cons ⟨t, by rw [e0]⟩ (.cons c1 .nil), ⟨oT, hT2, cT, nT, dT⟩⟩
    have I1 : Inv X pins σ (upd H T (.tup [.int (i : Nat), x])) { s with heap := h'', toks := tk } := I.turnedNew (ch := [e, it]) kept hf hT new
    obtain ⟨z1, z2, _⟩ := st'
    refine ⟨.ref T, _, I1, rfl, ⟨T, x, rfl, I.hok.fresh hT, rfl, fun l hl => by rw [sk_inj I hl qx]; exact hx⟩, ⟨z1, z2⟩, fun b hb => ?_⟩
    have lt : b < s.heap.objs.size := by
      obtain ⟨_, he⟩ := he
      have hb := hb
      simp only [List.mem_cons, List.not_mem_nil, or_false] at hb
      rcases hb with rfl | rfl
      · exact Heap.lt_size he
      · obtain ⟨_, q, _⟩ := h1.there
        exact Heap.lt_size q
    rw [upd_ne (Nat.ne_of_lt (Nat.lt_of_lt_of_le lt hT))]
    exact (hf b hb).1
  done := by
    intro X hP hw hK hc i pins s σ H E I hf st hg
    subst hP hw hK
    obtain ⟨he, h1⟩ := st
    obtain ⟨xs, qx, hi⟩ := hg
    obtain ⟨its, r1, p1, _⟩ := sk_at I qx
    have hd : X.A.in1.handled = none := I.ok.hd hc
    have W := WalksT.enumFrom (prog := X.prog) (w := X.w) (A := X.A) 0 (sk_draws hd k it a n1 its.toArray) e n2 (by simp [n2, n3]) (by simp)
    have e1 := r1.length
    have hn : its.toArray.size = i := by simp only [List.size_toArray]; omega
    refine W.done s _ E (by rw [hn]; exact ⟨he, h1, p1⟩) fun h' tk hk => ⟨rfl, ?_⟩
    exact I.turnedL (ch := [e, it]) (fun b o hb q => hk b o hb q) hf
  self := fun A i s Q E st h => let ⟨⟨_, he⟩, _⟩ := st; wpAny_pyIter_enum he h
theorem walk_e {K : PySem.W.Frag} {k : SK} {a : Addr} {xs : List V} {n : Nat} (hn : n = xs.length) : Walk (ItE K k a) n (fun H => SkAt K H k a xs) (fun i H v H' => ∃ T x, v = .ref T ∧ H T = none ∧ H' = upd H T (.tup [.int (i : Nat), x]) ∧ xs[i]? = some x) := by
  subst hn
  refine ⟨fun i H hi q => ⟨xs, xs[i], q, by simp [hi]⟩, fun H q => ⟨xs, q, rfl⟩, fun i H v H' _ q y => ?_⟩
  obtain ⟨T, x, e1, e2, e3, f1⟩ := y
  exact ⟨T, x, e1, e2, e3, f1 _ q⟩
end Mir
set_option Elab.async false
set_option linter.all false
set_option maxRecDepth 100000
set_option maxHeartbeats 4000000
namespace Mir
open PySem PySem.Spec PyProof.Rows L2 RZ
/-! ### the head's Hook, with the interpreter's own statics -/
def asY (g : Addr → Option Obj) (n : Nat) : List Addr := He.asD g n ++ [cStatics]
def obsY (n : Nat) (fa : List He.Fa) (fn : List He.DefD) (ts : List He.Tab) (tf : List He.Defn) (ex : PySem.W.Frag → Bool) (g : Addr → Option Obj) : He.AlX := (He.obsT fa fn ts (He.frT g (asY g n)), ex (He.frT g (asY g n)) && He.tabsB g tf (He.frT g (asY g n)))
theorem saysY_of {n : Nat} {fa : List He.Fa} {fn : List He.DefD} {ts : List He.Tab} {tf : List He.Defn} {ex : PySem.W.Frag → Bool} {w : World} {h : Heap} (e : obsY n fa fn ts tf ex h.get? = He.valX fn ts w) : He.SaysX fa fn ts tf ex w h (He.frT h.get? (asY h.get? n)) := by
  have e1 : He.obsT fa fn ts (He.frT h.get? (asY h.get? n)) = He.valT fn ts w := congrArg (fun z : He.AlX => z.1) e
  have e2 : (ex (He.frT h.get? (asY h.get? n)) && He.tabsB h.get? tf (He.frT h.get? (asY h.get? n))) = true := congrArg (fun z : He.AlX => z.2) e
  obtain ⟨h1, h2⟩ := He.ba e2
  have key : ∀ p ∈ tf, PySem.W.codeHdIn (He.frT h.get? (asY h.get? n)) (He.cT (He.frT h.get? (asY h.get? n)) p).1 (He.cT (He.frT h.get? (asY h.get? n)) p).2 = true ∧ ∃ o, h.get? (He.cT (He.frT h.get? (asY h.get? n)) p).2 = some o ∧ He.emptyTab o = true := fun p hp => by
    obtain ⟨h3, h4⟩ := He.ba (List.all_eq_true.mp h2 p hp)
    refine ⟨h3, ?_⟩
    cases q : h.get? (He.cT (He.frT h.get? (asY h.get? n)) p).2 with
    | none =>
      rw [q] at h4
      cases h4
    | some o =>
      rw [q] at h4
      exact ⟨o, rfl, h4⟩
  exact ⟨e1, h1, fun p hp => (key p hp).1, fun p hp => by
    obtain ⟨_, o, q, z⟩ := key p hp
    exact He.frT_none q z, fun p hp => by
    obtain ⟨_, o, q, z⟩ := key p hp
    rw [q, He.emptyTab_eq z]⟩
def hookY (n : Nat) (fa : List He.Fa) (fn : List He.DefD) (ts : List He.Tab) (tf : List He.Defn) (ex : PySem.W.Frag → Bool) : PySem.W.Hook where
  α := He.AlX
  obs := fun s => obsY n fa fn ts tf ex s.heap.get?
  val := fun w => He.valX fn ts w
  says := fun w h => ∃ K : PySem.W.Frag, K.In h ∧ He.SaysX fa fn ts tf ex w h K
  of := fun _ _ e => ⟨_, He.frT_in, saysY_of e⟩
  keeps := fun _ _ _ ⟨K, hK, c⟩ k => ⟨K, PySem.W.Frag.In.keeps hK k, ⟨c.t, c.more, c.hd, c.out, fun p hp => k _ _ (c.empty p hp)⟩⟩
theorem obsY_eq {n : Nat} {fa : List He.Fa} {fn : List He.DefD} {ts : List He.Tab} {tf : List He.Defn} {ex : PySem.W.Frag → Bool} {g : Addr → Option Obj} {s : Shared} (h : ∀ a, g a = s.heap.get? a) : obsY n fa fn ts tf ex g = (hookY n fa fn ts tf ex).obs s := by
  have e : g = s.heap.get? := funext h
  rw [e] <;> rfl
/-! ### no limit on digits set -/
def DigK (K : PySem.W.Frag) : Prop := PySem.W.nsIn K cStatics "sys.int_max_str_digits" = some none
theorem DigK.heap {K : PySem.W.Frag} {h : Heap} (e : DigK K) (X : K.In h) (L : h.NoLimit) : h.NoDigits := by
  obtain ⟨mc, G, _⟩ := L
  refine ⟨mc, G, ?_⟩
  obtain ⟨o, es, ep, ho, hd, _, hf⟩ := G
  unfold DigK PySem.W.nsIn at e
  split at e
  · rename_i c d es' n' sl q
    have := X _ _ q
    rw [ho] at this
    cases this
    cases hd
    split at e
    · cases e
    · rename_i he
      rw [← hf]
      unfold nsFind findBy
      rw [← Array.find?_toList, he]
      rfl
  · cases e
theorem inv_digits {X : Cx} {pins : List (Addr × Obj)} {σ : L2.St} {H : Hp} {s : Shared} (e : DigK X.K) (I : Inv X pins σ H s) : s.heap.NoDigits :=
  (e.heap I.mod.kin I.mod.nolimit).keeps I.bk
/-! ### int of a text of any length -/
theorem wp_digits {M : Model} {A : Around} {E : Value → Shared → Prop} {s : Shared} {Q : Nat → Shared → Prop} (hd : s.heap.NoDigits) (h : Q 4300 s) : wpAny M A Builtin.intMaxStrDigits Q E s := by
  obtain ⟨mc, hns, hnone⟩ := hd
  unfold Builtin.intMaxStrDigits
  refine wpAny_bind (wpAny_nsGet hns ?_)
  rw [hnone]
  exact wpAny_pure h
open PySem.Calls PySem.NumText PySem.W in
theorem wp_textL {M : Model} {A : Around} {E : Value → Shared → Prop} {s : Shared} {Q : Value → Shared → Prop} {v : Value} {text : List Nat} {n : Int} (hd : s.heap.NoDigits)
    (hs : ¬ (text.takeWhile (· != 0)).length ≤ 640) (hr : (int_private% "readNumeral") 4300 10 (text.takeWhile (· != 0)) = (int_private% "Numeral.value") n)
    (ha : ((text.takeWhile (· != 0)).length == text.length) = true) (h : Q (.int n s.toks) { s with toks := s.toks + 1 }) :
    wpAny M A ((int_private% "intFromText") v text 10) Q E s := by
  obtain ⟨hp, g, d, tk, os⟩ := s
  repeat (any_goals (first
    | assumption
    | (with_reducible refine wpAny_ite_false (decide_eq_false hs) ?_)
    | (with_reducible refine wp_digits hd ?_)
    | (with_reducible refine wpAny_ite_true (decide_eq_true ha) ?_)
    | wp_step))
  all_goals (try rw [hr])
  all_goals (try dsimp only)
  repeat (any_goals (first
    | assumption
    | (with_reducible refine wpAny_ite_false (decide_eq_false hs) ?_)
    | (with_reducible refine wp_digits hd ?_)
    | (with_reducible refine wpAny_ite_true (decide_eq_true ha) ?_)
    | wp_step))
open PySem.Calls PySem.NumText PySem.W PySem.W.KIN in
theorem meets_textL {x : PySem.Str} {u : Tok} {n : Int} (hx : x.length ≤ sizeLine) (hl : ¬ (numSeenOf x).length ≤ 640) (hn : PySem.intText? x = some n) :
    Meets (Builtin.«int.__new__» ⟨[.type "int", .str x u], []⟩) (fun _ R s => s.heap.NoDigits ∧ R (.ok (.ret (.int n s.toks))) { s with toks := s.toks + 1 }) := fun prog w A R s ⟨hd, h⟩ => by
    refine wpAny_mono (Q := fun fin s' => ∃ v, fin = .done (.ret v) ∧ R (.ok (.ret v)) s') ?_ (fun fin s' h' => by obtain ⟨v, rfl, hv⟩ := h'; exact hv) fun _ _ x => x
    obtain ⟨hp, g, d, tk, os⟩ := s
    have f1 := F.conv_sub_int
    have f2 := F.madeHere_int
    have f3 := str_int
    have f4 := str_idx
    have f5 := str_trunc
    have f6 : typeOf (.str x u) = pure (.type "str") := rfl
    have hr : (int_private% "readNumeral") 4300 10 (numSeenOf x) = (int_private% "Numeral.value") n ∧ ((numSeenOf x).length == (numTextOf x).length) = true := by
      rcases read4300 x hx with ⟨m, h1, h2, h3⟩ | ⟨h1, _⟩
      · rw [hn] at h1
        injection h1 with h1
        subst h1
        exact ⟨h3, h2⟩
      · rw [hn] at h1
        cases h1
    have hk := Hid.mk (And.intro hd (And.intro hl hr))
    clear hl hr hn hx hd
    repeat (any_goals (first
      | assumption
      | ((with_reducible show wpAny _ _ ((int_private% "intFromText") _ _ _) _ _ _); refine wp_textL hk.out.1 hk.out.2.1 hk.out.2.2.1 hk.out.2.2.2 ?_)
      | wp_step))
    all_goals first | exact ⟨_, rfl, h⟩ | skip
section
variable {X : Cx} {g : Gx} {W : WX}
def okInt (a : Str) : Bool := Nat.ble a.length 640 || !(Nat.ble (numSeenOf a).length 640)
theorem call_int_strL (hd : DigK X.K) : CallR X (.type "int") (fun xs H Q => ∃ a n, xs = [.str a] ∧ PySem.intText? a = some n ∧ a.length ≤ sizeLine ∧ okInt a = true ∧ Q (.int n) H) := by
  intro pins s σ H xs us Q I rs h
  obtain ⟨a, n, rfl, hn, hl, ho, h⟩ := h
  cases rs with
  | cons r1 rs =>
    cases rs
    obtain ⟨t, rfl⟩ := r1
    by_cases hs : a.length ≤ 640
    · exact PySem.W.KIN.call_text hn hs ⟨.int n, H, I.tok _, ⟨_, rfl⟩, h⟩
    · have h2 : ¬ (numSeenOf a).length ≤ 640 := fun z => by
        unfold okInt at ho
        rw [Nat.ble_eq_true_of_le z, Bool.not_true, Bool.or_false] at ho
        exact hs (Nat.le_of_ble_eq_true ho)
      exact call_int_1 (meets_textL hl h2 hn) ⟨inv_digits hd I, ⟨rfl, ⟨.int n, H, I.tok _, ⟨_, rfl⟩, h⟩⟩⟩
def fIntS : List D → M D
  | [.str a] => if (okInt a && Nat.ble a.length 16777216) = true then bnd (getO (PySem.intText? a)) fun n => ret (.int n) else noM
  | ds => fInt ds
theorem bf_intS (hd : DigK X.K) : BuiltF X g W (.type "int") fIntS := ⟨_, (call_int1 (X := X)).or (call_int_strL hd), fun ds vs F ρ H S nn Q ok r h => by
  unfold fIntS at h
  split at h
  · rename_i a
    cases r with
    | cons r1 r2 =>
      cases r2
      rw [r1.inv_str]
      obtain ⟨hc, h⟩ := ite_ret h
      rw [Bool.and_eq_true] at hc
      obtain ⟨n, hn, h⟩ := getO_ok h
      exact .inr ⟨a, n, rfl, hn, Nat.le_of_ble_eq_true hc.2, hc.1, fin_same ok (.int _) h⟩
  · refine .inl ?_
    unfold fInt at h
    split at h
    · cases r with
      | cons r1 r2 =>
        cases r2
        rw [r1.inv_int]
        exact .inl ⟨_, rfl, fin_same ok (.int _) h⟩
    · cases r with
      | cons r1 r2 =>
        cases r2
        rw [r1.inv_bl]
        exact .inr ⟨_, rfl, fin_same ok (.int _) h⟩
    · exact h.elim⟩
/-! ### a text so many times -/
theorem op_mulStr : OpR X (binaryOp .Mult) (fun x y H Q => ∃ a k, x = .str a ∧ y = .int k ∧ MulOk a k ∧ Q (.str (Txt.mul a k)) H) := by
  intro pins s σ H x y v u Q I rx ry h
  obtain ⟨a, k, rfl, rfl, hk, q⟩ := h
  obtain ⟨t, rfl⟩ := rx
  obtain ⟨t', rfl⟩ := ry
  exact SB.mul hk fun t' tk => ⟨.str (Txt.mul a k), H, I.tok _, ⟨_, rfl⟩, q⟩
def fMulS : D → D → M D
  | .str a, .int k => if (Nat.ble (a.length * k.toNat) 16777216 && (decide (k ≤ 16777216) && decide (-4611686018427387904 ≤ k))) = true then ret (.str (Txt.mul a k)) else noM
  | d, e => fMul d e
theorem mulOk_any {x : Str} {n : Int} (hn : n ≤ 16777216) (hlo : -4611686018427387904 ≤ n) (hp : x.length * n.toNat ≤ 16777216) : MulOk x n := mulOk_of x.length n.toNat (Nat.le_refl _) (by omega) (by omega) (by omega) hp
theorem o_mulS : Op2 g W fMulS (fun x y H Q => (∃ a k, x = .str a ∧ y = .int k ∧ MulOk a k ∧ Q (.str (Txt.mul a k)) H) ∨ (rI CMulX (fun i j => .int (i * j)) x y H Q ∨ rRep x y H Q ∨ rRepT g.K x y H Q)) := by
  intro d e x y F ρ H S nn Q ok r1 r2 h
  unfold fMulS at h
  split at h
  · obtain ⟨hc, h⟩ := ite_ret h
    rw [r1.inv_str, r2.inv_int]
    rw [Bool.and_eq_true, Bool.and_eq_true, decide_eq_true_eq, decide_eq_true_eq] at hc
    exact .inl ⟨_, _, rfl, rfl, mulOk_any hc.2.1 hc.2.2 (Nat.le_of_ble_eq_true hc.1), fin_same ok (.str _) h⟩
  · exact .inr (o_mul _ _ _ _ _ _ _ _ _ _ ok r1 r2 h)
theorem se_mulS {a b : Expr} {pos : Pos} {ma mb : Env → M D} (hk : X.K = g.K) (ha : PE X a (tE g W ma)) (hb : PE X b (tE g W mb)) : PE X (.BinOp a .Mult b pos) (tE g W (m2 fMulS ma mb)) :=
  wkE (pe_op (op_mulStr.or (op_mulX.or (op_rep.or op_repT))) ha hb) fun σ H Q h => op2_ok (by rw [hk]; exact o_mulS) h
end
/-! ### defs by another name; constants that are texts -/
section
variable {P : Program} {w : World} {K : PySem.W.Frag} {mg : Str → Option Value} {base : Heap} {g : Gx}
def DefAtA (K : PySem.W.Frag) (mg : Str → Option Value) (y x : Str) (st : Stmt) : Prop := ∃ fa fd, mg y = some (.ref fa) ∧ FunD K x x (defArgs st) (defBody st) (defScope st) [] [] fa fd
theorem def_okA {x y : Str} {st : Stmt} {N ps : List Str} {k np : Nat} {b : MS} (h : DefAtA K mg y x st) (Sc : FnScope N ps (defScope st)) (hnp : ps.length = np)
    (hbind : ∀ (kV doc pm : Value) (an : Option Addr) (cdv ct : Value) (us : List Value), us.length = ps.length → bindArgs (PySem.W.fnOf x x (defArgs st) (defBody st) (defScope st) .none kV doc pm an cdv ct) ⟨us, []⟩ = pure (ps.zip us))
    (hb : ∀ (f : Addr) (cdv : Value) (A : Around) (outer : List PySem.Env) (s : Shared) (H : Hp) (E : XK), Room k (A.deeper (envOfC x (defScope st) s.heap.objs.size f cdv)) → PSs (cxOf (L2N.CX P w) P w K mg base N x (defScope st) f cdv A outer s H E) (defBody st) (tS g (fun cls d _ H => E cls d H) b)) :
    DefOk P w K mg base g (k + 1) y (mDef np N.length b) np := by
  obtain ⟨fa, fd, gm, Fd⟩ := h
  subst hnp
  exact ⟨fa, fd, ps, gm, Fd.kp, Fd.bindsN hbind, rfl, fn_ok Fd Sc fun cdv A outer s H E hr => hb fa cdv A outer s H E hr⟩
abbrev ddA (y x : Str) (st : Stmt) : He.DefD := ⟨(y, none), x, x, defArgs st, defBody st, defScope st, [], []⟩
variable {h : Heap} {fa : List He.Fa} {fn : List He.DefD}
theorem def_atA (X : K.In h) (G : h.Ns mainGlobals mg) (c : He.SaysD fa fn K) (i : Nat) {x y : Str} {st : Stmt} (j : Nat) (hd : fn[i]? = some (ddA y x st)) (hf : fa[j]? = some (.glo y)) : DefAtA K mg y x st := by
  obtain ⟨fd, F⟩ := c.def_ i hd
  exact ⟨_, fd, He.glo_ok X G (c.fact j hf), F⟩
end
section
variable {X : Cx} {g : Gx} {W : WX}
theorem se_gstr {x z : Str} {pos : Pos} (hg : Gl X x) (h : ∃ t, X.mg x = some (.str z t)) (hd : (x == ("__debug__" : Str)) = false := by decide) : PE X (.Name x pos) (tE g W (mC (.str z))) := by
  obtain ⟨t, hm⟩ := h
  exact wkE (pe_glob (v := .str z) hg hm ⟨t, rfl⟩ hd) fun _ _ _ q => const_ok (fun _ _ _ => .str z) q
theorem se_gloA {x y : Str} {st : Stmt} {pos : Pos} (hg : Gl X y) (h : DefAtA X.K X.mg y x st) (hmg : X.mg = g.mg := by rfl) (hd : (y == ("__debug__" : Str)) = false := by decide) : PE X (.Name y pos) (tE g W (mC (.glo y))) := by
  obtain ⟨fa, _, gm, _⟩ := h
  exact se_glo hg gm hmg hd
end
end Mir
set_option Elab.async false
set_option linter.all false
set_option maxRecDepth 100000
set_option maxHeartbeats 4000000
namespace Mir
open PySem
/-! ### evaluating mirrors -/
def exM {α : Type} (e : Exn) : M α := fun S => .ex e S
section
variable {α β γ : Type}
theorem ev_ret (a : α) (k : α → M β) : bnd (ret a) k = k a := rfl
theorem bnd_noM (k : α → M β) : bnd noM k = noM := rfl
theorem bnd_exM (e : Exn) (k : α → M β) : bnd (exM e) k = exM e := rfl
theorem bnd_bnd (m : M α) (f : α → M β) (k : β → M γ) : bnd (bnd m f) k = bnd m fun x => bnd (f x) k := by
  funext S
  unfold bnd
  cases m S <;> rfl
theorem bnd_ite (c : Prop) [Decidable c] (a b : M α) (k : α → M β) : bnd (if c then a else b) k = if c then bnd a k else bnd b k := by
  split <;> rfl
theorem bnd_at {m : M α} {k : α → M β} {S S1 : Sto} {a : α} (h : m S = .ok a S1) : bnd m k S = k a S1 := by
  unfold bnd
  rw [h]
theorem ite_at (c : Prop) [Decidable c] (a b : M α) (S : Sto) : (if c then a else b) S = if c then a S else b S := by
  split <;> rfl
theorem ret_at (a : α) (S : Sto) : ret a S = .ok a S := rfl
theorem nox_ret (a : α) : nox (ret a) = ret a := rfl
theorem getO_some (a : α) : getO (some a) = ret a := rfl
end
theorem gcM_ret (d : D) : gcM (ret d) = ret d := by
  funext S
  show (if nr d = true then R.ok d (S.take S.length) else .ok d S) = .ok d S
  rw [List.take_length]
  split <;> rfl
theorem gcM_exM (e : Exn) : gcM (exM e) = exM e := rfl
theorem gcM_noM : gcM noM = noM := rfl
theorem gcM_ite (c : Prop) [Decidable c] (a b : M D) : gcM (if c then a else b) = if c then gcM a else gcM b := by
  split <;> rfl
theorem gcM_at {m : M D} {S S1 : Sto} {d : D} (h : m S = .ok d S1) (hl : S1.length = S.length) : gcM m S = .ok d S1 := by
  unfold gcM
  rw [h]
  dsimp only
  rw [← hl, List.take_length]
  split <;> rfl
theorem seq_at {a b : MS} {env env' : Env} {S S' : Sto} (h : a env S = .ok (.nx, env') S') : mSeq a b env S = b env' S' := by
  unfold mSeq bnd
  dsimp only
  rw [h]
theorem seq_rt {a b : MS} {env env' : Env} {S S' : Sto} {d : D} (h : a env S = .ok (.rt d, env') S') : mSeq a b env S = .ok (.rt d, env') S' := by
  unfold mSeq bnd
  dsimp only
  rw [h]
  rfl
theorem asg_at {m : Env → M D} {i : Nat} {env : Env} {S S' : Sto} {d : D} (h : m env S = .ok d S') : mAsg m (gN i) env S = .ok (.nx, env.set i (some d)) S' := by
  unfold mAsg bnd
  rw [h]
  rfl
theorem ret_st {m : Env → M D} {env : Env} {S S' : Sto} {d : D} (h : m env S = .ok d S') : mRet m env S = .ok (.rt d, []) S' := by
  unfold mRet bnd
  rw [h]
  rfl
theorem run_def {np nl : Nat} {b : MS} {ds : List D} {S S' : Sto} {d : D} {env : Env} (hn : ds.length = np) (h : b (ds.map some ++ List.replicate (nl - np) none) S = .ok (.rt d, env) S') (hl : S'.length = S.length) : mDef np nl b ds S = .ok d S' := by
  unfold mDef
  rw [if_pos hn]
  refine gcM_at ?_ hl
  rw [bnd_at h]
  rfl
theorem mRaise_eq (x : Str) (env : Env) : mRaise x env = exM ⟨x⟩ := rfl
theorem eqv_int (i j : Int) : PyData.eqv (.int i) (.int j) = decide (i = j) := by
  unfold PyData.eqv
  by_cases h : i = j <;> simp [h]
theorem fEq_int (b : Bool) (i j : Int) : fEq b (.int i) (.int j) = ret (D.bl (if b then !decide (i = j) else decide (i = j))) := by
  show (if eqs (.int i) = true ∧ eqs (.int j) = true then ret (D.bl (if b then !PyData.eqv (.int i) (.int j) else PyData.eqv (.int i) (.int j))) else noM) = _
  rw [if_pos ⟨rfl, rfl⟩, eqv_int]
theorem atI_zero {α : Type} (a : α) (r : List α) : L2.atI (a :: r) 0 = some a := by
  simp [L2.atI, L2.ixN]
theorem atI_one {α : Type} (a b : α) (r : List α) : L2.atI (a :: b :: r) 1 = some b := by
  have h : (1 : Int) < ((a :: b :: r).length : Nat) := by
    simp only [List.length_cons]
    omega
  unfold L2.atI L2.ixN
  rw [if_pos (by decide), if_pos h]
  rfl
theorem lt_size {n : Nat} (h : n < 16777216) : n < sizeLine := h
theorem le_size {n : Nat} (h : n ≤ 16777216) : n ≤ sizeLine := h
theorem fMul_int {i j : Int} (a b : Nat) (hi : i.natAbs < 2 ^ a) (hj : j.natAbs < 2 ^ b) (h : a + b ≤ 134217720) : fMul (.int i) (.int j) = ret (.int (i * j)) := by
  show (if i.natAbs.log2 + j.natAbs.log2 < 134217720 then _ else _) = _
  refine if_pos ?_
  have l : ∀ (n c : Nat), n < 2 ^ c → n.log2 ≤ c ∧ (n.log2 < c ∨ n.log2 = 0) := fun n c hn => by
    by_cases h0 : n = 0
    · subst h0
      simp
    · have := (Nat.log2_lt h0).mpr hn
      exact ⟨Nat.le_of_lt this, .inl this⟩
  have h1 := l _ _ hi
  have h2 := l _ _ hj
  omega
theorem fDiv_int {i j : Int} (b : Nat) (h0 : 0 < j) (hj : j.natAbs < 2 ^ b) (h : b ≤ 9000) : fDiv (.int i) (.int j) = ret (.int (i / j)) := by
  show (if 0 < j ∧ j.natAbs.log2 < 9000 then _ else _) = _
  refine if_pos ⟨h0, ?_⟩
  have hn : j.natAbs ≠ 0 := by omega
  exact Nat.lt_of_lt_of_le ((Nat.log2_lt hn).mpr hj) h
theorem fMod_int {i j : Int} (h0 : 0 < j) : fMod (.int i) (.int j) = ret (.int (i % j)) := if_pos h0
theorem kb_NoneType_int : L2.kitB "NoneType" "int" = some false := by decide +kernel
theorem kb_NoneType_bool : L2.kitB "NoneType" "bool" = some false := by decide +kernel
theorem kb_NoneType_str : L2.kitB "NoneType" "str" = some false := by decide +kernel
theorem kb_NoneType_tuple : L2.kitB "NoneType" "tuple" = some false := by decide +kernel
theorem kb_NoneType_list : L2.kitB "NoneType" "list" = some false := by decide +kernel
theorem kb_bool_int : L2.kitB "bool" "int" = some true := by decide +kernel
theorem kb_bool_bool : L2.kitB "bool" "bool" = some true := by decide +kernel
theorem kb_bool_str : L2.kitB "bool" "str" = some false := by decide +kernel
theorem kb_bool_tuple : L2.kitB "bool" "tuple" = some false := by decide +kernel
theorem kb_bool_list : L2.kitB "bool" "list" = some false := by decide +kernel
theorem kb_int_int : L2.kitB "int" "int" = some true := by decide +kernel
theorem kb_int_bool : L2.kitB "int" "bool" = some false := by decide +kernel
theorem kb_int_str : L2.kitB "int" "str" = some false := by decide +kernel
theorem kb_int_tuple : L2.kitB "int" "tuple" = some false := by decide +kernel
theorem kb_int_list : L2.kitB "int" "list" = some false := by decide +kernel
theorem kb_str_int : L2.kitB "str" "int" = some false := by decide +kernel
theorem kb_str_bool : L2.kitB "str" "bool" = some false := by decide +kernel
theorem kb_str_str : L2.kitB "str" "str" = some true := by decide +kernel
theorem kb_str_tuple : L2.kitB "str" "tuple" = some false := by decide +kernel
theorem kb_str_list : L2.kitB "str" "list" = some false := by decide +kernel
theorem kb_tuple_int : L2.kitB "tuple" "int" = some false := by decide +kernel
theorem kb_tuple_bool : L2.kitB "tuple" "bool" = some false := by decide +kernel
theorem kb_tuple_str : L2.kitB "tuple" "str" = some false := by decide +kernel
theorem kb_tuple_tuple : L2.kitB "tuple" "tuple" = some true := by decide +kernel
theorem kb_tuple_list : L2.kitB "tuple" "list" = some false := by decide +kernel
theorem kb_list_int : L2.kitB "list" "int" = some false := by decide +kernel
theorem kb_list_bool : L2.kitB "list" "bool" = some false := by decide +kernel
theorem kb_list_str : L2.kitB "list" "str" = some false := by decide +kernel
theorem kb_list_tuple : L2.kitB "list" "tuple" = some false := by decide +kernel
theorem kb_list_list : L2.kitB "list" "list" = some true := by decide +kernel
end Mir
set_option Elab.async false
set_option linter.all false
set_option maxRecDepth 100000
set_option maxHeartbeats 4000000
namespace Mir
open PySem
/-! ### stepping through mirrors: what is wanted of an outcome -/
inductive Out (α : Type) where
  | v (a : α)
  | e (x : Exn)
@[irreducible] def Wp {α : Type} (m : M α) (S : Sto) (K : Out α → Sto → Prop) : Prop := match m S with
  | .ok a S' => K (.v a) S'
  | .ex e S' => K (.e e) S'
  | .no => False
def bK {α β : Type} (k : α → M β) (K : Out β → Sto → Prop) : Out α → Sto → Prop
  | .v a, S => Wp (k a) S K
  | .e x, S => K (.e x) S
section
variable {α β γ : Type}
theorem wp_ret (a : α) (S : Sto) (K : Out α → Sto → Prop) : Wp (ret a) S K = K (.v a) S := by
  unfold Wp ret
  exact propext Iff.rfl
theorem wp_exM (e : Exn) (S : Sto) (K : Out α → Sto → Prop) : Wp (exM e) S K = K (.e e) S := by
  unfold Wp exM
  exact propext Iff.rfl
theorem wp_bnd (m : M α) (k : α → M β) (S : Sto) (K : Out β → Sto → Prop) : Wp (bnd m k) S K = Wp m S (bK k K) := by
  have e : ∀ r : R α, (match (match r with
      | .ok a S' => k a S'
      | .ex e S' => .ex e S'
      | .no => .no : R β) with
    | .ok a S' => K (.v a) S'
    | .ex e S' => K (.e e) S'
    | .no => False) = (match r with
    | .ok a S' => bK k K (.v a) S'
    | .ex e S' => bK k K (.e e) S'
    | .no => False) := fun r => by
    cases r with
    | ok a S' =>
      show _ = Wp (k a) S' K
      unfold Wp
      rfl
    | ex e S' => rfl
    | no => rfl
  unfold Wp bnd
  exact e (m S)
theorem bK_v (k : α → M β) (K : Out β → Sto → Prop) (a : α) (S : Sto) : bK k K (.v a) S = Wp (k a) S K := propext Iff.rfl
theorem bK_e (k : α → M β) (K : Out β → Sto → Prop) (x : Exn) (S : Sto) : bK k K (.e x) S = K (.e x) S := propext Iff.rfl
theorem wp_ite (c : Prop) [Decidable c] (a b : M α) (S : Sto) (K : Out α → Sto → Prop) : Wp (if c then a else b) S K = if c then Wp a S K else Wp b S K := by
  split <;> rfl
theorem wp_mono {m : M α} {S : Sto} {K K' : Out α → Sto → Prop} (h : Wp m S K) (q : ∀ o S', K o S' → K' o S') : Wp m S K' := by
  unfold Wp at *
  cases e : m S with
  | ok a S' =>
    rw [e] at h
    exact q _ _ h
  | ex x S' =>
    rw [e] at h
    exact q _ _ h
  | no =>
    rw [e] at h
    exact h
theorem wp_ok {m : M α} {S S' : Sto} {a : α} {K : Out α → Sto → Prop} (h : m S = .ok a S') (k : K (.v a) S') : Wp m S K := by
  unfold Wp
  rw [h]
  exact k
theorem wp_get {m : M α} {S : Sto} {P : α → Sto → Prop} (h : Wp m S fun o S' => match o with
    | .v a => P a S'
    | .e _ => False) : ∃ a S', m S = .ok a S' ∧ P a S' := by
  unfold Wp at h
  cases e : m S with
  | ok a S' =>
    rw [e] at h
    exact ⟨a, S', rfl, h⟩
  | ex x S' =>
    rw [e] at h
    exact h.elim
  | no =>
    rw [e] at h
    exact h.elim
/-- a pure outcome -/
def isV (a : α) (S : Sto) : Out α → Sto → Prop := fun o S' => o = .v a ∧ S' = S
def isE (e : Exn) (S : Sto) : Out α → Sto → Prop := fun o S' => o = .e e ∧ S' = S
theorem isV_at (a b : α) (S S' : Sto) : isV a S (.v b) S' = (b = a ∧ S' = S) := by
  unfold isV
  exact propext ⟨fun ⟨h, k⟩ => ⟨by cases h; rfl, k⟩, fun ⟨h, k⟩ => ⟨by rw [h], k⟩⟩
theorem isE_at (a b : Exn) (S S' : Sto) : (isE a S : Out α → Sto → Prop) (.e b) S' = (b = a ∧ S' = S) := by
  unfold isE
  exact propext ⟨fun ⟨h, k⟩ => ⟨by cases h; rfl, k⟩, fun ⟨h, k⟩ => ⟨by rw [h], k⟩⟩
theorem pure_of {m : M α} {a : α} (h : ∀ S, Wp m S (isV a S)) : m = ret a := by
  funext S
  have := h S
  unfold Wp at this
  cases e : m S with
  | ok b S' =>
    rw [e] at this
    obtain ⟨h1, h2⟩ := this
    cases h1
    rw [h2]
    rfl
  | ex x S' =>
    rw [e] at this
    cases this.1
  | no =>
    rw [e] at this
    exact this.elim
theorem exn_of {m : M α} {x : Exn} (h : ∀ S, Wp m S (isE x S)) : m = exM x := by
  funext S
  have := h S
  unfold Wp at this
  cases e : m S with
  | ok b S' =>
    rw [e] at this
    cases this.1
  | ex y S' =>
    rw [e] at this
    obtain ⟨h1, h2⟩ := this
    cases h1
    rw [h2]
    rfl
  | no =>
    rw [e] at this
    exact this.elim
end
/-! ### the combinators, one step each, with what follows by a name -/
def kFin {α β : Type} (f : α → β) (a : α) : M β := ret (f a)
theorem kFin_at {α β : Type} (f : α → β) (a : α) : kFin f a = ret (f a) := by
  unfold kFin
  rfl
theorem ext2 {α β : Type} {m : M α} {k k' : α → M β} (h : ∀ a, k a = k' a) : bnd m k = bnd m k' := by
  have e : k = k' := funext h
  rw [e]
/-! statements -/
def kSeq (b : MS) : Fl × Env → M (Fl × Env)
  | (.nx, env) => b env
  | r => ret r
section
variable (a b : MS) (env : Env)
theorem w_seq : mSeq a b env = bnd (a env) (kSeq b) := by
  unfold mSeq
  refine ext2 fun r => ?_
  obtain ⟨f, e⟩ := r
  cases f <;> rfl
theorem kSeq_nx : kSeq b (.nx, env) = b env := by
  unfold kSeq
  rfl
theorem kSeq_rt (d : D) : kSeq b (.rt d, env) = ret (.rt d, env) := by
  unfold kSeq
  rfl
theorem kSeq_bk : kSeq b (.bk, env) = ret (.bk, env) := by
  unfold kSeq
  rfl
theorem kSeq_ct : kSeq b (.ct, env) = ret (.ct, env) := by
  unfold kSeq
  rfl
end
def kNx : Env → M (Fl × Env) := fun env => ret (.nx, env)
theorem kNx_at (env : Env) : kNx env = ret (.nx, env) := by
  unfold kNx
  rfl
def kAsg (t : MG) (env : Env) (d : D) : M (Fl × Env) := bnd (t d env) kNx
theorem w_asg (m : Env → M D) (t : MG) (env : Env) : mAsg m t env = bnd (m env) (kAsg t env) := by
  unfold mAsg
  exact ext2 fun d => by
    unfold kAsg
    rfl
theorem kAsg_n (i : Nat) (env : Env) (d : D) : kAsg (gN i) env d = ret (.nx, env.set i (some d)) := by
  unfold kAsg gN kNx
  rfl
theorem kAsg_t (k : Nat) (t : List D → Env → M Env) (env : Env) (ds : List D) : kAsg (gTupD k t) env (.tup ds) = if ds.length = k then bnd (t ds env) kNx else noM := by
  unfold kAsg gTupD
  dsimp only
  rw [bnd_ite]
  rfl
theorem w_gsNil (env : Env) : gsNil [] env = ret env := by
  unfold gsNil
  rfl
def kGs (u : List D → Env → M Env) (r : List D) (env : Env) : M Env := u r env
theorem kGs_at (u : List D → Env → M Env) (r : List D) (env : Env) : kGs u r env = u r env := by
  unfold kGs
  rfl
theorem w_gsCons (t : MG) (u : List D → Env → M Env) (d : D) (r : List D) (env : Env) : gsCons t u (d :: r) env = bnd (t d env) (kGs u r) := by
  unfold gsCons
  exact ext2 fun e => by
    unfold kGs
    rfl
theorem w_gN (i : Nat) (d : D) (env : Env) : gN i d env = ret (env.set i (some d)) := by
  unfold gN
  rfl
theorem w_gTup (k : Nat) (t : List D → Env → M Env) (ds : List D) (env : Env) : gTupD k t (.tup ds) env = if ds.length = k then t ds env else noM := by
  unfold gTupD
  rfl
def kSub1 (mi : Env → M D) (d : D) (env : Env) (o : D) : M Env := bnd (mi env) fun i => bnd (fSet o i d) fun _ => ret env
def kSub2 (d : D) (env : Env) (o i : D) : M Env := bnd (fSet o i d) fun _ => ret env
theorem kSub1_at (mi : Env → M D) (d : D) (env : Env) (o : D) : kSub1 mi d env o = bnd (mi env) (kSub2 d env o) := by
  unfold kSub1
  exact ext2 fun i => by
    unfold kSub2
    rfl
theorem kSub2_at (d : D) (env : Env) (o i : D) : kSub2 d env o i = bnd (fSet o i d) (kFin fun _ => env) := by
  unfold kSub2
  exact ext2 fun i => by
    unfold kFin
    rfl
theorem kAsg_s (mo mi : Env → M D) (env : Env) (d : D) : kAsg (gSubD mo mi) env d = bnd (bnd (mo env) (kSub1 mi d env)) kNx := by
  unfold kAsg gSubD
  have e : (bnd (mo env) fun o => bnd (mi env) fun i => bnd (fSet o i d) fun _ => ret env) = bnd (mo env) (kSub1 mi d env) := ext2 fun o => by
    unfold kSub1
    rfl
  rw [e]
def kExpr (env : Env) (d : D) : M (Fl × Env) := ret (.nx, env)
theorem kExpr_at (env : Env) (d : D) : kExpr env d = ret (.nx, env) := by
  unfold kExpr
  rfl
theorem w_expr (m : Env → M D) (env : Env) : mExpr m env = bnd (m env) (kExpr env) := by
  unfold mExpr
  exact ext2 fun d => by
    unfold kExpr
    rfl
def kRet (d : D) : M (Fl × Env) := ret (.rt d, [])
theorem kRet_at (d : D) : kRet d = ret (.rt d, []) := by
  unfold kRet
  rfl
theorem w_retS (m : Env → M D) (env : Env) : mRet m env = bnd (m env) kRet := by
  unfold mRet
  exact ext2 fun d => by
    unfold kRet
    rfl
theorem w_retN (env : Env) : mRetN env = ret (.rt .non, []) := by
  unfold mRetN
  rfl
theorem w_skip (env : Env) : mSkip env = ret (.nx, env) := by
  unfold mSkip
  rfl
theorem w_brk (env : Env) : mBrk env = ret (.bk, env) := by
  unfold mBrk
  rfl
theorem w_cnt (env : Env) : mCnt env = ret (.ct, env) := by
  unfold mCnt
  rfl
def kIfS (a b : MS) (env : Env) (k : Bool) : M (Fl × Env) := if k = true then a env else b env
theorem kIfS_t (a b : MS) (env : Env) : kIfS a b env true = a env := by
  unfold kIfS
  exact if_pos rfl
theorem kIfS_f (a b : MS) (env : Env) : kIfS a b env false = b env := by
  unfold kIfS
  exact if_neg Bool.false_ne_true
theorem w_ifS (c : Env → M Bool) (a b : MS) (env : Env) : mIfS c a b env = bnd (c env) (kIfS a b env) := by
  unfold mIfS
  exact ext2 fun d => by
    unfold kIfS
    rfl
theorem w_raise (x : Str) (env : Env) : mRaise x env = exM ⟨x⟩ := by
  unfold mRaise exM
  rfl
def kPar (i j : Nat) (env : Env) : List D → M (Fl × Env)
  | [d, e] => ret (.nx, (env.set i (some d)).set j (some e))
  | _ => noM
theorem kPar_at (i j : Nat) (env : Env) (d e : D) : kPar i j env [d, e] = ret (.nx, (env.set i (some d)).set j (some e)) := by
  unfold kPar
  rfl
theorem w_par (i j : Nat) (m : Env → M (List D)) (env : Env) : mPar i j m env = bnd (m env) (kPar i j env) := by
  unfold mPar
  refine ext2 fun ds => ?_
  unfold kPar
  rfl
def kPar3 (i j l : Nat) (env : Env) : List D → M (Fl × Env)
  | [d, e, f] => ret (.nx, ((env.set i (some d)).set j (some e)).set l (some f))
  | _ => noM
theorem kPar3_at (i j l : Nat) (env : Env) (d e f : D) : kPar3 i j l env [d, e, f] = ret (.nx, ((env.set i (some d)).set j (some e)).set l (some f)) := by
  unfold kPar3
  rfl
theorem w_par3 (i j l : Nat) (m : Env → M (List D)) (env : Env) : mPar3 i j l m env = bnd (m env) (kPar3 i j l env) := by
  unfold mPar3
  refine ext2 fun ds => ?_
  unfold kPar3
  rfl
/-! expressions -/
theorem w_var (i : Nat) (env : Env) (d : D) (h : env[i]? = some (some d)) : mVar i env = ret d := by
  unfold mVar
  rw [h]
theorem w_var0 (d : D) (r : Env) : mVar 0 (some d :: r) = ret d := by
  unfold mVar
  rfl
theorem w_varS (i : Nat) (o : Option D) (r : Env) : mVar (i + 1) (o :: r) = mVar i r := by
  unfold mVar
  rfl
theorem w_C (d : D) (env : Env) : mC d env = ret d := by
  unfold mC
  rfl
theorem w_nil (env : Env) : mNil env = ret [] := by
  unfold mNil
  rfl
def kCons1 (r : Env → M (List D)) (env : Env) (d : D) : M (List D) := bnd (r env) (kFin (d :: ·))
theorem kCons1_at (r : Env → M (List D)) (env : Env) (d : D) : kCons1 r env d = bnd (r env) (kFin (d :: ·)) := by
  unfold kCons1
  rfl
theorem w_cons (m : Env → M D) (r : Env → M (List D)) (env : Env) : mCons m r env = bnd (m env) (kCons1 r env) := by
  unfold mCons
  exact ext2 fun d => by
    unfold kCons1 kFin
    rfl
def k2 (f : D → D → M D) (b : Env → M D) (env : Env) (x : D) : M D := bnd (b env) (f x)
theorem k2_at (f : D → D → M D) (b : Env → M D) (env : Env) (x : D) : k2 f b env x = bnd (b env) (f x) := by
  unfold k2
  rfl
theorem w_2 (f : D → D → M D) (a b : Env → M D) (env : Env) : m2 f a b env = bnd (a env) (k2 f b env) := by
  unfold m2
  exact ext2 fun d => by
    unfold k2
    rfl
theorem w_1 (f : D → M D) (a : Env → M D) (env : Env) : m1 f a env = bnd (a env) f := by
  unfold m1
  rfl
theorem w_call (f : List D → M D) (m : Env → M (List D)) (env : Env) : mCall f m env = bnd (m env) f := by
  unfold mCall
  rfl
theorem w_B (m : Env → M D) (env : Env) : mB m env = bnd (m env) asB := by
  unfold mB
  rfl
theorem w_asB (b : Bool) : asB (.bl b) = ret b := by
  unfold asB
  rfl
theorem w_tru (m : Env → M D) (env : Env) : mTru m env = bnd (m env) trD := by
  unfold mTru
  rfl
theorem w_trB (b : Bool) : trD (.bl b) = ret b := by
  unfold trD
  rfl
def kAnd (b : Env → M Bool) (env : Env) (k : Bool) : M Bool := if k = true then b env else ret false
theorem kAnd_t (b : Env → M Bool) (env : Env) : kAnd b env true = b env := by
  unfold kAnd
  exact if_pos rfl
theorem kAnd_f (b : Env → M Bool) (env : Env) : kAnd b env false = ret false := by
  unfold kAnd
  exact if_neg Bool.false_ne_true
theorem w_and (a b : Env → M Bool) (env : Env) : mAnd a b env = bnd (a env) (kAnd b env) := by
  unfold mAnd
  exact ext2 fun d => by
    unfold kAnd
    rfl
def kOr (b : Env → M Bool) (env : Env) (k : Bool) : M Bool := if k = true then ret true else b env
theorem kOr_t (b : Env → M Bool) (env : Env) : kOr b env true = ret true := by
  unfold kOr
  exact if_pos rfl
theorem kOr_f (b : Env → M Bool) (env : Env) : kOr b env false = b env := by
  unfold kOr
  exact if_neg Bool.false_ne_true
theorem w_or (a b : Env → M Bool) (env : Env) : mOr a b env = bnd (a env) (kOr b env) := by
  unfold mOr
  exact ext2 fun d => by
    unfold kOr
    rfl
theorem w_not (a : Env → M Bool) (env : Env) : mNot a env = bnd (a env) (kFin Bool.not) := by
  unfold mNot
  exact ext2 fun d => by
    unfold kFin
    rfl
def kAndV (b : Env → M D) (env : Env) (x : D) : M D := bnd (asB x) fun k => if k = true then b env else ret (.bl false)
theorem kAndV_t (b : Env → M D) (env : Env) : kAndV b env (.bl true) = b env := by
  unfold kAndV
  rw [w_asB, ev_ret]
  exact if_pos rfl
theorem kAndV_f (b : Env → M D) (env : Env) : kAndV b env (.bl false) = ret (.bl false) := by
  unfold kAndV
  rw [w_asB, ev_ret]
  exact if_neg Bool.false_ne_true
theorem w_andV (a b : Env → M D) (env : Env) : mAndV a b env = bnd (a env) (kAndV b env) := by
  unfold mAndV
  exact ext2 fun d => by
    unfold kAndV
    rfl
def kOrV (b : Env → M D) (env : Env) (x : D) : M D := bnd (asB x) fun k => if k = true then ret (.bl true) else b env
theorem kOrV_t (b : Env → M D) (env : Env) : kOrV b env (.bl true) = ret (.bl true) := by
  unfold kOrV
  rw [w_asB, ev_ret]
  exact if_pos rfl
theorem kOrV_f (b : Env → M D) (env : Env) : kOrV b env (.bl false) = b env := by
  unfold kOrV
  rw [w_asB, ev_ret]
  exact if_neg Bool.false_ne_true
theorem w_orV (a b : Env → M D) (env : Env) : mOrV a b env = bnd (a env) (kOrV b env) := by
  unfold mOrV
  exact ext2 fun d => by
    unfold kOrV
    rfl
def kIf (a b : Env → M D) (env : Env) (k : Bool) : M D := if k = true then a env else b env
theorem kIf_t (a b : Env → M D) (env : Env) : kIf a b env true = a env := by
  unfold kIf
  exact if_pos rfl
theorem kIf_f (a b : Env → M D) (env : Env) : kIf a b env false = b env := by
  unfold kIf
  exact if_neg Bool.false_ne_true
theorem w_if (c : Env → M Bool) (a b : Env → M D) (env : Env) : mIf c a b env = bnd (c env) (kIf a b env) := by
  unfold mIf
  exact ext2 fun d => by
    unfold kIf
    rfl
def k3a (f f' : D → D → M D) (b c : Env → M D) (env : Env) (x : D) : M D := bnd (b env) fun y => bnd (f x y) fun z => bnd (asB z) fun k => if k = true then bnd (c env) fun w => f' y w else ret (.bl false)
def k3b (f f' : D → D → M D) (c : Env → M D) (env : Env) (x y : D) : M D := bnd (f x y) fun z => bnd (asB z) fun k => if k = true then bnd (c env) fun w => f' y w else ret (.bl false)
def k3c (f' : D → D → M D) (c : Env → M D) (env : Env) (y z : D) : M D := bnd (asB z) fun k => if k = true then bnd (c env) fun w => f' y w else ret (.bl false)
theorem k3a_at (f f' : D → D → M D) (b c : Env → M D) (env : Env) (x : D) : k3a f f' b c env x = bnd (b env) (k3b f f' c env x) := by
  unfold k3a
  exact ext2 fun y => by
    unfold k3b
    rfl
theorem k3b_at (f f' : D → D → M D) (c : Env → M D) (env : Env) (x y : D) : k3b f f' c env x y = bnd (f x y) (k3c f' c env y) := by
  unfold k3b
  exact ext2 fun y => by
    unfold k3c
    rfl
theorem k3c_t (f' : D → D → M D) (c : Env → M D) (env : Env) (y : D) : k3c f' c env y (.bl true) = bnd (c env) (f' y) := by
  unfold k3c
  rw [w_asB, ev_ret]
  exact if_pos rfl
theorem k3c_f (f' : D → D → M D) (c : Env → M D) (env : Env) (y : D) : k3c f' c env y (.bl false) = ret (.bl false) := by
  unfold k3c
  rw [w_asB, ev_ret]
  exact if_neg Bool.false_ne_true
theorem w_3c (f f' : D → D → M D) (a b c : Env → M D) (env : Env) : m3c f f' a b c env = bnd (a env) (k3a f f' b c env) := by
  unfold m3c
  exact ext2 fun y => by
    unfold k3a
    rfl
def kSl1 (lo hi : Env → M (Option Int)) (env : Env) (d : D) : M D := bnd (lo env) fun l => bnd (hi env) fun u => fSl d l u
def kSl2 (hi : Env → M (Option Int)) (env : Env) (d : D) (l : Option Int) : M D := bnd (hi env) fun u => fSl d l u
theorem kSl1_at (lo hi : Env → M (Option Int)) (env : Env) (d : D) : kSl1 lo hi env d = bnd (lo env) (kSl2 hi env d) := by
  unfold kSl1
  exact ext2 fun y => by
    unfold kSl2
    rfl
theorem kSl2_at (hi : Env → M (Option Int)) (env : Env) (d : D) (l : Option Int) : kSl2 hi env d l = bnd (hi env) (fSl d l) := by
  unfold kSl2
  rfl
theorem w_sl (m : Env → M D) (lo hi : Env → M (Option Int)) (env : Env) : mSl m lo hi env = bnd (m env) (kSl1 lo hi env) := by
  unfold mSl
  exact ext2 fun y => by
    unfold kSl1
    rfl
theorem w_noneI (env : Env) : mNone env = ret none := by
  unfold mNone
  rfl
def kSomeI (d : D) : M (Option Int) := bnd (asI d) fun i => ret (some i)
theorem kSomeI_at (i : Int) : kSomeI (.int i) = ret (some i) := by
  unfold kSomeI asI
  rfl
theorem w_someI (m : Env → M D) (env : Env) : mSome m env = bnd (m env) kSomeI := by
  unfold mSome
  exact ext2 fun y => by
    unfold kSomeI
    rfl
/-! defs -/
theorem w_def (np nl : Nat) (b : MS) (ds : List D) : mDef np nl b ds = if ds.length = np then gcM (bnd (b (ds.map some ++ List.replicate (nl - np) none)) flD) else noM := by
  unfold mDef
  rfl
theorem flD_rt (d : D) (env : Env) : flD (.rt d, env) = ret d := by
  unfold flD
  rfl
theorem flD_nx (env : Env) : flD (.nx, env) = ret .non := by
  unfold flD
  rfl
def kGc (n : Nat) (K : Out D → Sto → Prop) : Out D → Sto → Prop
  | .v d, S => K (.v d) (if nr d = true then S.take n else S)
  | .e x, S => K (.e x) S
theorem wp_gc (m : M D) (S : Sto) (K : Out D → Sto → Prop) : Wp (gcM m) S K = Wp m S (kGc S.length K) := by
  unfold Wp gcM
  cases e : m S with
  | ok d S' =>
    dsimp only
    unfold kGc
    by_cases h : nr d = true
    · rw [if_pos h]
      dsimp only
      rw [if_pos h]
    · rw [if_neg h]
      dsimp only
      rw [if_neg h]
  | ex x S' => exact propext Iff.rfl
  | no => exact propext Iff.rfl
theorem kGc_v (n : Nat) (K : Out D → Sto → Prop) (d : D) (S : Sto) (h : S.length = n) : kGc n K (.v d) S = K (.v d) S := by
  unfold kGc
  dsimp only
  rw [← h, List.take_length]
  split <;> rfl
theorem kGc_nr (n : Nat) (K : Out D → Sto → Prop) (d : D) (S : Sto) (h : nr d = true) : kGc n K (.v d) S = K (.v d) (S.take n) := by
  unfold kGc
  dsimp only
  rw [if_pos h]
theorem kGc_at (n : Nat) (K : Out D → Sto → Prop) (d : D) (S : Sto) : kGc n K (.v d) S = K (.v d) (if nr d = true then S.take n else S) := by
  unfold kGc
  rfl
theorem kGc_e (n : Nat) (K : Out D → Sto → Prop) (x : Exn) (S : Sto) : kGc n K (.e x) S = K (.e x) S := by
  unfold kGc
  rfl
/-- a call of a def: its body -/
theorem wp_def {np nl : Nat} {b : MS} {ds : List D} {S : Sto} {K : Out D → Sto → Prop} (hn : ds.length = np) (h : Wp (b (ds.map some ++ List.replicate (nl - np) none)) S (bK flD (kGc S.length K))) : Wp (mDef np nl b ds) S K := by
  rw [w_def, if_pos hn, wp_gc, wp_bnd]
  exact h
/-! loops -/
def kFor2 (tg : MG) (b : MS) (r : List D) : Fl × Env → M (Fl × Env)
  | (.nx, env2) => forGo tg b r env2
  | (.ct, env2) => forGo tg b r env2
  | (.bk, env2) => ret (.nx, env2)
  | (.rt d, env2) => ret (.rt d, env2)
def kFor1 (tg : MG) (b : MS) (r : List D) (env : Env) : M (Fl × Env) := bnd (b env) (kFor2 tg b r)
section
variable (tg : MG) (b : MS) (r : List D) (env : Env)
theorem w_for0 : forGo tg b [] env = ret (.nx, env) := by
  unfold forGo
  rfl
theorem w_forS (d : D) : forGo tg b (d :: r) env = bnd (tg d env) (kFor1 tg b r) := by
  rw [forGo]
  refine ext2 fun e => ?_
  unfold kFor1
  refine ext2 fun z => ?_
  obtain ⟨f, e2⟩ := z
  cases f <;> rfl
theorem kFor1_at : kFor1 tg b r env = bnd (b env) (kFor2 tg b r) := by
  unfold kFor1
  rfl
theorem kFor2_nx : kFor2 tg b r (.nx, env) = forGo tg b r env := by
  unfold kFor2
  rfl
theorem kFor2_ct : kFor2 tg b r (.ct, env) = forGo tg b r env := by
  unfold kFor2
  rfl
theorem kFor2_bk : kFor2 tg b r (.bk, env) = ret (.nx, env) := by
  unfold kFor2
  rfl
theorem kFor2_rt (d : D) : kFor2 tg b r (.rt d, env) = ret (.rt d, env) := by
  unfold kFor2
  rfl
def kFor (tg : MG) (b : MS) (env : Env) (ds : List D) : M (Fl × Env) := forGo tg b ds env
theorem kFor_at (ds : List D) : kFor tg b env ds = forGo tg b ds env := by
  unfold kFor
  rfl
theorem w_for (mi : Env → M (List D)) : mFor mi tg b env = bnd (mi env) (kFor tg b env) := by
  unfold mFor
  exact ext2 fun y => by
    unfold kFor
    rfl
theorem w_it (f : D → M (List D)) (m : Env → M D) : mIt f m env = bnd (m env) f := by
  unfold mIt
  rfl
theorem w_itN (f : List D → M (List D)) (m : Env → M (List D)) : mItN f m env = bnd (m env) f := by
  unfold mItN
  rfl
end
theorem w_itT (ds : List D) : itS (.tup ds) = ret ds := by
  unfold itS
  rfl
theorem w_itL (ds : List D) : itS (.lst ds) = ret ds := by
  unfold itS
  rfl
/-- a loop by what holds between its turns: of the items taken and those left -/
theorem wp_for {α : Type} {tg : MG} {b : MS} (f : α → D) {K : Out (Fl × Env) → Sto → Prop} (I : List α → List α → Env → Sto → Prop) :
    ∀ (xs pre : List α) (env : Env) (S : Sto), I pre xs env S →
    (∀ pre x r env S, I pre (x :: r) env S → Wp (bnd (tg (f x) env) b) S fun o S' => match o with
      | .v (.nx, env') => I (pre ++ [x]) r env' S'
      | .v (.ct, env') => I (pre ++ [x]) r env' S'
      | .v (.bk, env') => K (.v (.nx, env')) S'
      | .v (.rt d, env') => K (.v (.rt d, env')) S'
      | .e e => K (.e e) S') →
    (∀ pre env S, I pre [] env S → K (.v (.nx, env)) S) → Wp (forGo tg b (xs.map f) env) S K
  | [], pre, env, S, h, _, hd => by
    rw [List.map_nil, w_for0, wp_ret]
    exact hd _ _ _ h
  | x :: r, pre, env, S, h, hs, hd => by
    rw [List.map_cons, w_forS]
    have e : bnd (tg (f x) env) (kFor1 tg b (r.map f)) = bnd (bnd (tg (f x) env) b) (kFor2 tg b (r.map f)) := by
      rw [bnd_bnd]
      exact ext2 fun z => kFor1_at ..
    rw [e, wp_bnd]
    refine wp_mono (hs pre x r env S h) fun o S' q => ?_
    match o, q with
    | .v (.nx, env'), q =>
      rw [bK_v, kFor2_nx]
      exact wp_for f I r _ env' S' q hs hd
    | .v (.ct, env'), q =>
      rw [bK_v, kFor2_ct]
      exact wp_for f I r _ env' S' q hs hd
    | .v (.bk, env'), q =>
      rw [bK_v, kFor2_bk, wp_ret]
      exact q
    | .v (.rt d, env'), q =>
      rw [bK_v, kFor2_rt, wp_ret]
      exact q
    | .e e, q =>
      rw [bK_e]
      exact q
/-! comprehensions -/
def kLc (tg : MG) (t : Env → M Bool) (m : Env → M D) (vs : List Nat) (env : Env) (ds : List D) : M D := lcGo tg t m (wipeD env vs) ds []
theorem kLc_at (tg : MG) (t : Env → M Bool) (m : Env → M D) (vs : List Nat) (env : Env) (ds : List D) : kLc tg t m vs env ds = lcGo tg t m (wipeD env vs) ds [] := by
  unfold kLc
  rfl
theorem w_lc (mi : Env → M (List D)) (tg : MG) (t : Env → M Bool) (m : Env → M D) (vs : List Nat) (env : Env) : mLc mi tg t m vs env = bnd (mi env) (kLc tg t m vs env) := by
  unfold mLc
  exact ext2 fun y => by
    unfold kLc
    rfl
theorem w_yes (env : Env) : mYes env = ret true := by
  unfold mYes
  rfl
theorem wp_nox {α : Type} {m : M α} {S : Sto} {K : Out α → Sto → Prop} (h : Wp m S fun o S' => match o with
    | .v a => K (.v a) S'
    | .e _ => False) : Wp (nox m) S K := by
  obtain ⟨a, S', e, h⟩ := wp_get h
  refine wp_ok (S' := S') (a := a) ?_ h
  unfold nox
  rw [e]
/-- a comprehension whose parts are pure, over a list of anything -/
theorem lc_map {α : Type} {tg : MG} {t : Env → M Bool} {m : Env → M D} {env0 : Env} (f : α → D) (E : α → Env) (p : α → Bool) (F : α → D) :
    ∀ (xs : List α) (acc : List D), (∀ x ∈ xs, tg (f x) env0 = ret (E x) ∧ t (E x) = ret (p x) ∧ (p x = true → m (E x) = ret (F x))) → acc.length + xs.length ≤ 16777216 → lcGo tg t m env0 (xs.map f) acc = ret (.lst (acc ++ (xs.filter p).map F))
  | [], acc, _, _ => by simp [lcGo]
  | d :: r, acc, h, hl => by
    obtain ⟨h1, h2, h3⟩ := h d List.mem_cons_self
    have hr := fun x hx => h x (List.mem_cons_of_mem _ hx)
    simp only [List.length_cons] at hl
    rw [List.map_cons]
    unfold lcGo
    rw [h1, nox_ret, ev_ret, h2, nox_ret, ev_ret]
    cases hp : p d with
    | true =>
      rw [if_pos rfl, h3 hp, nox_ret, ev_ret, if_pos (show acc.length < sizeLine from lt_size (by omega))]
      rw [lc_map f E p F r (acc ++ [F d]) hr (by rw [List.length_append, List.length_singleton]; omega)]
      rw [List.filter_cons_of_pos hp, List.map_cons, List.append_assoc]
      rfl
    | false =>
      rw [if_neg Bool.false_ne_true, lc_map f E p F r acc hr (by omega)]
      rw [List.filter_cons_of_neg (by rw [hp]; exact Bool.false_ne_true)]
/-- .. without a test -/
theorem lc_map1 {α : Type} {tg : MG} {m : Env → M D} {env0 : Env} (f : α → D) (E : α → Env) (F : α → D) (xs : List α) (h : ∀ x ∈ xs, tg (f x) env0 = ret (E x) ∧ m (E x) = ret (F x)) (hl : xs.length ≤ 16777216) : lcGo tg mYes m env0 (xs.map f) [] = ret (.lst (xs.map F)) := by
  rw [lc_map f E (fun _ => true) F xs [] (fun d hd => ⟨(h d hd).1, w_yes _, fun _ => (h d hd).2⟩) (by simpa using hl), List.filter_eq_self.mpr (fun _ _ => rfl)]
  rfl
/-- a comprehension that draws: what the store keeps, and what each item is -/
theorem wp_lc {α β : Type} {tg : MG} {m : Env → M D} {env0 : Env} (f : α → D) (g : β → D) (C : Sto → Prop) (E : α → Env) (R : α → β → Prop) {K : Out D → Sto → Prop} :
    ∀ (xs : List α) (acc : List D) (S : Sto), C S → (∀ x ∈ xs, tg (f x) env0 = ret (E x)) → (∀ x ∈ xs, ∀ S, C S → Wp (m (E x)) S fun o S' => match o with
      | .v d => C S' ∧ ∃ y, d = g y ∧ R x y
      | .e _ => False) → acc.length + xs.length ≤ 16777216 →
      (∀ (ys : List β) (S' : Sto), C S' → ys.length = xs.length → (∀ (i : Nat) x y, xs[i]? = some x → ys[i]? = some y → R x y) → K (.v (.lst (acc ++ ys.map g))) S') → Wp (lcGo tg mYes m env0 (xs.map f) acc) S K
  | [], acc, S, h, _, _, _, k => by
    rw [List.map_nil]
    unfold lcGo
    rw [wp_ret]
    have := k [] S h rfl (fun i x y e => by simp at e)
    simpa using this
  | x :: r, acc, S, h, ht, hs, hl, k => by
    simp only [List.length_cons] at hl
    rw [List.map_cons]
    unfold lcGo
    rw [ht x List.mem_cons_self, nox_ret, ev_ret, w_yes, nox_ret, ev_ret, if_pos rfl, wp_bnd]
    refine wp_nox (wp_mono (hs x List.mem_cons_self S h) fun o S' q => ?_)
    match o, q with
    | .v d, ⟨c, y, e, ry⟩ =>
      subst e
      show bK _ K (.v (g y)) S'
      rw [bK_v]
      rw [if_pos (show acc.length < sizeLine from lt_size (by omega))]
      refine wp_lc f g C E R r (acc ++ [g y]) S' c (fun z hz => ht z (List.mem_cons_of_mem _ hz)) (fun z hz => hs z (List.mem_cons_of_mem _ hz)) (by rw [List.length_append, List.length_singleton]; omega) fun ys S2 c2 l2 r2 => ?_
      have := k (y :: ys) S2 c2 (by simp [l2]) fun i x' y' e e' => by
        cases i with
        | zero =>
          simp at e e'
          subst e e'
          exact ry
        | succ i => exact r2 i x' y' (by simpa using e) (by simpa using e')
      simpa using this
/-! values -/
section
variable (i j : Int)
theorem w_add : fAdd (.int i) (.int j) = ret (.int (i + j)) := by
  unfold fAdd
  rfl
theorem w_sub : fSub (.int i) (.int j) = ret (.int (i - j)) := by
  unfold fSub
  rfl
theorem w_neg : fNeg (.int i) = ret (.int (-i)) := by
  unfold fNeg
  rfl
theorem w_lt : cI (fun i j => decide (i < j)) (.int i) (.int j) = ret (.bl (decide (i < j))) := by
  unfold cI
  rfl
theorem w_cI (f : Int → Int → Bool) : cI f (.int i) (.int j) = ret (.bl (f i j)) := by
  unfold cI
  rfl
theorem w_abs : fAbs [.int i] = ret (.int (if i < 0 then -i else i)) := by
  unfold fAbs
  rfl
theorem w_intI : fInt [.int i] = ret (.int i) := by
  unfold fInt
  rfl
theorem w_gcd : fGcd [.int i, .int j] = ret (.int (Nat.gcd i.natAbs j.natAbs : Nat)) := by
  unfold fGcd
  rfl
end
section
variable (ds es : List D)
theorem w_lenT : fLen [.tup ds] = ret (.int ds.length) := by
  unfold fLen
  rfl
theorem w_lenL : fLen [.lst ds] = ret (.int ds.length) := by
  unfold fLen
  rfl
theorem w_listT : fList [.tup ds] = ret (.lst ds) := by
  unfold fList
  rfl
theorem w_listL : fList [.lst ds] = ret (.lst ds) := by
  unfold fList
  rfl
theorem w_listS (ns : List Int) : fList [.scr ns] = ret (.lst (ns.map .int)) := by
  unfold fList
  rfl
theorem w_tupT : fTuple [.tup ds] = ret (.tup ds) := by
  unfold fTuple
  rfl
theorem w_tupL : fTuple [.lst ds] = ret (.tup ds) := by
  unfold fTuple
  rfl
theorem w_mkT (h : ds.length ≤ 16777216) : fTup ds = ret (.tup ds) := by
  unfold fTup
  rw [if_pos (le_size h)]
theorem w_mkL (h : ds.length ≤ 16777216) : fLst ds = ret (.lst ds) := by
  unfold fLst
  rw [if_pos (le_size h)]
theorem w_addT (h : ds.length + es.length ≤ 16777216) : fAdd (.tup ds) (.tup es) = ret (.tup (ds ++ es)) := by
  unfold fAdd
  dsimp only
  rw [if_pos (le_size h)]
theorem w_addL (h : ds.length + es.length ≤ 16777216) : fAdd (.lst ds) (.lst es) = ret (.lst (ds ++ es)) := by
  unfold fAdd
  dsimp only
  rw [if_pos (le_size h)]
theorem w_ixT (i : Int) (d : D) (h : L2.atI ds i = some d) : fIx (.tup ds) (.int i) = ret d := by
  unfold fIx
  dsimp only
  rw [h]
  rfl
theorem w_ixL (i : Int) (d : D) (h : L2.atI ds i = some d) : fIx (.lst ds) (.int i) = ret d := by
  unfold fIx
  dsimp only
  rw [h]
  rfl
theorem w_slT (lo hi : Option Int) : fSl (.tup ds) lo hi = ret (.tup (cutD ds lo hi)) := by
  unfold fSl
  rfl
theorem w_slL (lo hi : Option Int) : fSl (.lst ds) lo hi = ret (.lst (cutD ds lo hi)) := by
  unfold fSl
  rfl
theorem w_zipT : fZip [.tup ds, .tup es] = ret (zpD ds es) := by
  unfold fZip
  rfl
theorem w_zipL : fZip [.lst ds, .lst es] = ret (zpD ds es) := by
  unfold fZip
  rfl
end
theorem w_isN (neg : Bool) (d : D) : fIsN neg d .non = ret (.bl (if neg then !isNon d else isNon d)) := by
  cases d <;> (unfold fIsN; rfl)
theorem w_notB (b : Bool) : fNot (.bl b) = ret (.bl (!b)) := by
  unfold fNot
  rfl
/-- isinstance: by the kinds of data -/
def kdD : D → Nat
  | .non => 0
  | .bl _ => 1
  | .int _ => 2
  | .str _ => 3
  | .tup _ => 4
  | .lst _ => 5
  | _ => 6
theorem isi_int (i : Int) : fIsi [.int i, .ty "int"] = ret (.bl true) ∧ fIsi [.int i, .ty "bool"] = ret (.bl false) ∧ fIsi [.int i, .ty "str"] = ret (.bl false) ∧ fIsi [.int i, .ty "tuple"] = ret (.bl false) ∧ fIsi [.int i, .ty "list"] = ret (.bl false) := by
  refine ⟨?_, ?_, ?_, ?_, ?_⟩ <;> (unfold fIsi; simp only [tyName, kb_int_int, kb_int_bool, kb_int_str, kb_int_tuple, kb_int_list]; rfl)
theorem isi_bl (i : Bool) : fIsi [.bl i, .ty "int"] = ret (.bl true) ∧ fIsi [.bl i, .ty "bool"] = ret (.bl true) ∧ fIsi [.bl i, .ty "str"] = ret (.bl false) ∧ fIsi [.bl i, .ty "tuple"] = ret (.bl false) ∧ fIsi [.bl i, .ty "list"] = ret (.bl false) := by
  refine ⟨?_, ?_, ?_, ?_, ?_⟩ <;> (unfold fIsi; simp only [tyName, kb_bool_int, kb_bool_bool, kb_bool_str, kb_bool_tuple, kb_bool_list]; rfl)
theorem isi_non : fIsi [.non, .ty "int"] = ret (.bl false) ∧ fIsi [.non, .ty "bool"] = ret (.bl false) ∧ fIsi [.non, .ty "str"] = ret (.bl false) ∧ fIsi [.non, .ty "tuple"] = ret (.bl false) ∧ fIsi [.non, .ty "list"] = ret (.bl false) := by
  refine ⟨?_, ?_, ?_, ?_, ?_⟩ <;> (unfold fIsi; simp only [tyName, kb_NoneType_int, kb_NoneType_bool, kb_NoneType_str, kb_NoneType_tuple, kb_NoneType_list]; rfl)
theorem isi_str (i : Str) : fIsi [.str i, .ty "int"] = ret (.bl false) ∧ fIsi [.str i, .ty "bool"] = ret (.bl false) ∧ fIsi [.str i, .ty "str"] = ret (.bl true) ∧ fIsi [.str i, .ty "tuple"] = ret (.bl false) ∧ fIsi [.str i, .ty "list"] = ret (.bl false) := by
  refine ⟨?_, ?_, ?_, ?_, ?_⟩ <;> (unfold fIsi; simp only [tyName, kb_str_int, kb_str_bool, kb_str_str, kb_str_tuple, kb_str_list]; rfl)
theorem isi_tup (i : List D) : fIsi [.tup i, .ty "int"] = ret (.bl false) ∧ fIsi [.tup i, .ty "bool"] = ret (.bl false) ∧ fIsi [.tup i, .ty "str"] = ret (.bl false) ∧ fIsi [.tup i, .ty "tuple"] = ret (.bl true) ∧ fIsi [.tup i, .ty "list"] = ret (.bl false) := by
  refine ⟨?_, ?_, ?_, ?_, ?_⟩ <;> (unfold fIsi; simp only [tyName, kb_tuple_int, kb_tuple_bool, kb_tuple_str, kb_tuple_tuple, kb_tuple_list]; rfl)
theorem isi_lst (i : List D) : fIsi [.lst i, .ty "int"] = ret (.bl false) ∧ fIsi [.lst i, .ty "bool"] = ret (.bl false) ∧ fIsi [.lst i, .ty "str"] = ret (.bl false) ∧ fIsi [.lst i, .ty "tuple"] = ret (.bl false) ∧ fIsi [.lst i, .ty "list"] = ret (.bl true) := by
  refine ⟨?_, ?_, ?_, ?_, ?_⟩ <;> (unfold fIsi; simp only [tyName, kb_list_int, kb_list_bool, kb_list_str, kb_list_tuple, kb_list_list]; rfl)
/-! comprehensions over written lists -/
def nK {α : Type} (K : Out α → Sto → Prop) : Out α → Sto → Prop
  | .v a, S => K (.v a) S
  | .e _, _ => False
theorem wp_nx {α : Type} (m : M α) (S : Sto) (K : Out α → Sto → Prop) : Wp (nox m) S K = Wp m S (nK K) := by
  unfold Wp nox
  cases m S <;> exact propext Iff.rfl
theorem nK_v {α : Type} (K : Out α → Sto → Prop) (a : α) (S : Sto) : nK K (.v a) S = K (.v a) S := propext Iff.rfl
section
variable (tg : MG) (t : Env → M Bool) (m : Env → M D) (env0 : Env)
def kL3 (r acc : List D) (y : D) : M D := if acc.length < sizeLine then lcGo tg t m env0 r (acc ++ [y]) else noM
def kL2 (r acc : List D) (env1 : Env) (k : Bool) : M D := if k = true then bnd (nox (m env1)) (kL3 tg t m env0 r acc) else lcGo tg t m env0 r acc
def kL1 (r acc : List D) (env1 : Env) : M D := bnd (nox (t env1)) (kL2 tg t m env0 r acc env1)
theorem w_lc0 (acc : List D) : lcGo tg t m env0 [] acc = ret (.lst acc) := by
  unfold lcGo
  rfl
theorem w_lcS (d : D) (r acc : List D) : lcGo tg t m env0 (d :: r) acc = bnd (nox (tg d env0)) (kL1 tg t m env0 r acc) := by
  rw [lcGo]
  refine ext2 fun e => ?_
  unfold kL1
  refine ext2 fun k => ?_
  unfold kL2
  split
  · refine ext2 fun y => ?_
    unfold kL3
    rfl
  · rfl
theorem kL1_at (r acc : List D) (env1 : Env) : kL1 tg t m env0 r acc env1 = bnd (nox (t env1)) (kL2 tg t m env0 r acc env1) := by
  unfold kL1
  rfl
theorem kL2_t (r acc : List D) (env1 : Env) : kL2 tg t m env0 r acc env1 true = bnd (nox (m env1)) (kL3 tg t m env0 r acc) := by
  unfold kL2
  exact if_pos rfl
theorem kL2_f (r acc : List D) (env1 : Env) : kL2 tg t m env0 r acc env1 false = lcGo tg t m env0 r acc := by
  unfold kL2
  exact if_neg Bool.false_ne_true
theorem kL3_at (r acc : List D) (y : D) (h : acc.length < 16777216) : kL3 tg t m env0 r acc y = lcGo tg t m env0 r (acc ++ [y]) := by
  unfold kL3
  exact if_pos (lt_size h)
end
end Mir
set_option Elab.async false
set_option linter.all false
set_option maxRecDepth 100000
set_option maxHeartbeats 4000000
namespace Mir
open PySem PySem.NumText
/-! ### numerals: one digit so many times -/
def rpA (d : Nat) : Nat → Nat
  | 0 => 0
  | n + 1 => rpA d n * 10 + d
@[irreducible] def rp (d n : Nat) : Nat := rpA d n
theorem rp_0 (d : Nat) : rp d 0 = 0 := by
  unfold rp
  rfl
theorem rp_S (d n : Nat) : rp d (n + 1) = rp d n * 10 + d := by
  unfold rp
  rfl
theorem rp_lt {d : Nat} (h : d ≤ 9) : ∀ n, rp d n < 10 ^ n
  | 0 => by rw [rp_0]; decide
  | n + 1 => by
    have := rp_lt h n
    rw [rp_S, Nat.pow_succ]
    omega
theorem rp_mono {d : Nat} : ∀ {n m : Nat}, n ≤ m → rp d n ≤ rp d m
  | n, 0, h => by
    have e : n = 0 := by omega
    rw [e]
    exact Nat.le_refl _
  | n, m + 1, h => by
    by_cases e : n = m + 1
    · rw [e]
      exact Nat.le_refl _
    · have := rp_mono (d := d) (show n ≤ m by omega)
      rw [rp_S]
      omega
theorem foldl_rep {d : Nat} : ∀ n, (List.replicate n (48 + d)).foldl (fun acc c => acc * 10 + (c - 48)) 0 = rp d n
  | 0 => by rw [rp_0]; rfl
  | n + 1 => by
    rw [List.replicate_succ', List.foldl_append, foldl_rep n]
    rw [rp_S]
    show rp d n * 10 + (48 + d - 48) = rp d n * 10 + d
    omega
theorem cat_toList : ∀ (l : List (Array Nat)) (acc : Array Nat), (l.foldl (· ++ ·) acc).toList = acc.toList ++ (l.map Array.toList).flatten
  | [], acc => by simp
  | a :: r, acc => by
    rw [List.foldl_cons, cat_toList r]
    simp
/-- one character so many times -/
theorem mul_one_toList (c : Nat) (n : Nat) (h : 2 ≤ n) : (Txt.mul ⟨#[c]⟩ (n : Nat)).cps.toList = List.replicate n c := by
  unfold Txt.mul
  rw [if_neg (by omega), if_neg (by
    rw [Bool.or_eq_true]
    rintro (h1 | h1)
    · have : ((n : Nat) : Int) = 1 := by simpa using h1
      omega
    · cases h1)]
  show ((List.replicate (n : Int).toNat (#[c] : Array Nat)).foldl (· ++ ·) #[]).toList = _
  rw [cat_toList, Int.toNat_natCast, List.map_replicate]
  show [] ++ (List.replicate n [c]).flatten = _
  rw [List.nil_append]
  clear h
  induction n with
  | zero => rfl
  | succ n ih => rw [List.replicate_succ, List.flatten_cons, ih, List.replicate_succ]; rfl
theorem len_toList (x : Str) : x.length = x.cps.toList.length := by
  show x.cps.size = _
  rw [Array.length_toList]
theorem w_mulS1 (c : Nat) {n : Nat} (h : n ≤ 16777216) : fMulS (.str ⟨#[c]⟩) (.int (n : Nat)) = ret (.str (Txt.mul ⟨#[c]⟩ (n : Nat))) := by
  unfold fMulS
  refine if_pos ?_
  rw [Bool.and_eq_true, Bool.and_eq_true]
  refine ⟨Nat.ble_eq_true_of_le ?_, decide_eq_true (by omega), decide_eq_true (by omega)⟩
  show 1 * ((n : Nat) : Int).toNat ≤ 16777216
  rw [Int.toNat_natCast]
  omega
theorem w_intS {x : Str} {n : Int} (h : intText? x = some n) (hl : x.length ≤ 16777216) (ho : okInt x = true) : fIntS [.str x] = ret (.int n) := by
  unfold fIntS
  dsimp only
  rw [ho, Nat.ble_eq_true_of_le hl, h]
  rfl
/-- int("d" * n) -/
theorem int_rep {d n : Nat} (hd : d ≤ 9) (h2 : 2 ≤ n) (hn : n ≤ 4300) : fIntS [.str (Txt.mul ⟨#[48 + d]⟩ (n : Nat))] = ret (.int (rp d n : Nat)) := by
  have el := mul_one_toList (48 + d) n h2
  have hlen : (Txt.mul ⟨#[48 + d]⟩ (n : Nat)).length = n := by rw [len_toList, el, List.length_replicate]
  have hdig : ∀ c ∈ (Txt.mul ⟨#[48 + d]⟩ (n : Nat)).cps.toList, 48 ≤ c ∧ c ≤ 57 := fun c hc => by
    rw [el] at hc
    have := List.eq_of_mem_replicate hc
    omega
  have hv := intText_digits (x := Txt.mul ⟨#[48 + d]⟩ (n : Nat)) hdig (by
    rw [el]
    intro z
    have := congrArg List.length z
    rw [List.length_replicate] at this
    simp at this
    omega) (by omega)
  rw [el] at hv
  unfold digitsVal at hv
  rw [foldl_rep] at hv
  refine w_intS hv (by omega) ?_
  unfold okInt
  rw [(numText_signs fun c hc => .inr (hdig c hc)).2, ← len_toList, hlen]
  by_cases h : n ≤ 640
  · rw [Nat.ble_eq_true_of_le h]
    rfl
  · cases q : Nat.ble n 640 with
    | true => rfl
    | false => rfl
end Mir
set_option Elab.async false
set_option linter.all false
set_option maxRecDepth 100000
set_option maxHeartbeats 4000000
namespace Mir
open PySem PySem.Spec PyProof.Rows L2 RZ LamX
def tp (i : Nat) : Stmt := PySem.Challenge.pw_formsfinite_k33_whole_wave_numbers.main.body.getD i (.Pass ⟨0, 0, 0, 0⟩)
abbrev gx (K : PySem.W.Frag) (mg : Str → Option Value) (tb : List (Addr × Str)) : Gx := ⟨K, mg, tb⟩
abbrev s_is_whole : Stmt := tp 4
abbrev s_need_whole : Stmt := tp 5
abbrev s_is_tuple_of : Stmt := tp 6
abbrev s_is_wave : Stmt := tp 9
abbrev s_need_wave : Stmt := tp 10
abbrev s_wave_at : Stmt := tp 11
abbrev s_is_wave_number : Stmt := tp 12
abbrev s_wave_product : Stmt := tp 13
abbrev s_wave_back : Stmt := tp 14
abbrev s_wave_power : Stmt := tp 15
abbrev s__law_cup : Stmt := tp 17
abbrev s__law_roll : Stmt := tp 18
abbrev s__law_some : Stmt := tp 19
abbrev s__law_sort : Stmt := tp 20
abbrev s__law_like : Stmt := tp 21
abbrev s__law_wave : Stmt := tp 22
abbrev s__law_put : Stmt := tp 23
abbrev s__law_right : Stmt := tp 24
abbrev s__law_error : Stmt := tp 25
abbrev s__law_written_right : Stmt := tp 26
abbrev s__law_great_right : Stmt := tp 27
abbrev s__law_errors_right : Stmt := tp 28
abbrev s_law : Stmt := tp 29
theorem bo_abs : bootBuiltins "abs" = some (.builtin "abs") := by decide +kernel
theorem bo_bool : bootBuiltins "bool" = some (.type "bool") := by decide +kernel
theorem bo_int : bootBuiltins "int" = some (.type "int") := by decide +kernel
theorem bo_isinstance : bootBuiltins "isinstance" = some (.builtin "isinstance") := by decide +kernel
theorem bo_len : bootBuiltins "len" = some (.builtin "len") := by decide +kernel
theorem bo_list : bootBuiltins "list" = some (.type "list") := by decide +kernel
theorem bo_range : bootBuiltins "range" = some (.type "range") := by decide +kernel
theorem bo_str : bootBuiltins "str" = some (.type "str") := by decide +kernel
theorem bo_tuple : bootBuiltins "tuple" = some (.type "tuple") := by decide +kernel
theorem bo_zip : bootBuiltins "zip" = some (.type "zip") := by decide +kernel
def subL : List (Str × List Str) := [("FormError", ["FormError"]), ("InvalidNumber", ["InvalidNumber", "FormError"])]
def subT : Str → Str → Option Bool := subOf subL
structure Tx (K : PySem.W.Frag) (mg : Str → Option Value) (base : Heap) (tb : List (Addr × Str)) : Prop where
  n_abs : mg "abs" = none
  n_bool : mg "bool" = none
  n_int : mg "int" = none
  n_isinstance : mg "isinstance" = none
  n_len : mg "len" = none
  n_list : mg "list" = none
  n_range : mg "range" = none
  n_str : mg "str" = none
  n_tuple : mg "tuple" = none
  n_zip : mg "zip" = none
  e_FormError : ExcOk K mg "FormError"
  e_InvalidNumber : ExcOk K mg "InvalidNumber"
  c_MANY : ∃ t, mg "MANY" = some (.int (60) t)
  f_is_whole : DefAt K mg "is_whole" s_is_whole
  f_need_whole : DefAt K mg "need_whole" s_need_whole
  f_is_tuple_of : DefAt K mg "is_tuple_of" s_is_tuple_of
  f_is_wave : DefAt K mg "is_wave" s_is_wave
  f_need_wave : DefAt K mg "need_wave" s_need_wave
  f_wave_at : DefAt K mg "wave_at" s_wave_at
  f_is_wave_number : DefAt K mg "is_wave_number" s_is_wave_number
  f_wave_product : DefAt K mg "wave_product" s_wave_product
  f_wave_back : DefAt K mg "wave_back" s_wave_back
  f_wave_power : DefAt K mg "wave_power" s_wave_power
  f__law_cup : DefAt K mg "_law_cup" s__law_cup
  f__law_roll : DefAt K mg "_law_roll" s__law_roll
  f__law_some : DefAt K mg "_law_some" s__law_some
  f__law_sort : DefAt K mg "_law_sort" s__law_sort
  f__law_like : DefAt K mg "_law_like" s__law_like
  f__law_wave : DefAt K mg "_law_wave" s__law_wave
  f__law_put : DefAt K mg "_law_put" s__law_put
  f__law_right : DefAt K mg "_law_right" s__law_right
  f__law_error : DefAt K mg "_law_error" s__law_error
  f__law_written_right : DefAt K mg "_law_written_right" s__law_written_right
  f__law_great_right : DefAt K mg "_law_great_right" s__law_great_right
  l__law_errors_right : DefTab K mg base tb "_law_errors_right" s__law_errors_right
  f__law_errors_right : DefAt K mg "_law_errors_right" s__law_errors_right
  f_law : DefAt K mg "law" s_law
  digits : DigK K
  sub : SubOk K mg subT
section
variable {P : Program} {w : World} {K : PySem.W.Frag} {mg : Str → Option Value} {base : Heap} {tb : List (Addr × Str)}
theorem sc_is_whole : FnScope ["value", "low", "high"] ["value", "low", "high"] (defScope s_is_whole) := ⟨rfl, rfl, rfl, by decide +kernel, rfl, by decide +kernel, by decide +kernel⟩
def bd_is_whole : MS :=
    (mRet (mAndV (mCall fIsi (mCons (mVar 0) (mCons (mC (.ty "int")) mNil))) (mAndV (m1 fNot (mCall fIsi (mCons (mVar 0) (mCons (mC (.ty "bool")) mNil)))) (m3c cLe cLe (mVar 1) (mVar 0) (mVar 2)))))
def m_is_whole : List D → M D := mDef 3 3 bd_is_whole
theorem d_is_whole (T : Tx K mg base tb) : DefOk P w K mg base (gx K mg tb) 1 "is_whole" m_is_whole 3 :=
  have sc := sc_is_whole
  def_ok (N := ["value", "low", "high"]) (ps := ["value", "low", "high"]) (k := 0) (np := 3) (st := s_is_whole) (b := bd_is_whole) T.f_is_whole sc rfl (fun _ _ _ _ _ _ us hl => match us, hl with | [_, _, _], _ => rfl) fun f cdv A outer s H E hr =>
    (ss_one (ss_ret (se_and (se_callB (bf_isi rfl) rfl T.n_isinstance bo_isinstance (sa_cons (se_var 0 (pv 0)) (sa_cons (se_bty rfl T.n_int bo_int) sa_nil))) (se_and (se_not (se_callB (bf_isi rfl) rfl T.n_isinstance bo_isinstance (sa_cons (se_var 0 (pv 0)) (sa_cons (se_bty rfl T.n_bool bo_bool) sa_nil)))) (se_one (se_chain cmp_le cmp_le (se_var 1 (pv 1)) (se_var 0 (pv 0)) (se_var 2 (pv 2))))))))
theorem sc_need_whole : FnScope ["value", "low", "high"] ["value", "low", "high"] (defScope s_need_whole) := ⟨rfl, rfl, rfl, by decide +kernel, rfl, by decide +kernel, by decide +kernel⟩
def bd_need_whole : MS :=
    (mIfS (mNot (mTru (mCall m_is_whole (mCons (mVar 0) (mCons (mVar 1) (mCons (mVar 2) mNil)))))) (mRaise "InvalidNumber") mSkip)
def m_need_whole : List D → M D := mDef 3 3 bd_need_whole
theorem d_need_whole (T : Tx K mg base tb) : DefOk P w K mg base (gx K mg tb) 2 "need_whole" m_need_whole 3 :=
  have sc := sc_need_whole
  def_ok (N := ["value", "low", "high"]) (ps := ["value", "low", "high"]) (k := 1) (np := 3) (st := s_need_whole) (b := bd_need_whole) T.f_need_whole sc rfl (fun _ _ _ _ _ _ us hl => match us, hl with | [_, _, _], _ => rfl) fun f cdv A outer s H E hr =>
    (ss_one (ss_if (st_not (st_tru rfl (se_call (d_is_whole T) hr (by omega) tkE rfl (sa_cons (se_var 0 (pv 0)) (sa_cons (se_var 1 (pv 1)) (sa_cons (se_var 2 (pv 2)) sa_nil))) rfl (len_cons (len_cons (len_cons len_nil)))))) (ss_one (ss_raise rfl tkE T.e_InvalidNumber rfl rfl)) ss_nil))
theorem sc_is_tuple_of : FnScope ["value", "low", "high"] ["value", "low", "high"] (defScope s_is_tuple_of) := ⟨rfl, rfl, rfl, by decide +kernel, rfl, by decide +kernel, by decide +kernel⟩
def bd_is_tuple_of : MS :=
    (mRet (mAndV (mCall fIsi (mCons (mVar 0) (mCons (mC (.ty "tuple")) mNil))) (m3c cLe cLe (mVar 1) (mCall fLen (mCons (mVar 0) mNil)) (mVar 2))))
def m_is_tuple_of : List D → M D := mDef 3 3 bd_is_tuple_of
theorem d_is_tuple_of (T : Tx K mg base tb) : DefOk P w K mg base (gx K mg tb) 1 "is_tuple_of" m_is_tuple_of 3 :=
  have sc := sc_is_tuple_of
  def_ok (N := ["value", "low", "high"]) (ps := ["value", "low", "high"]) (k := 0) (np := 3) (st := s_is_tuple_of) (b := bd_is_tuple_of) T.f_is_tuple_of sc rfl (fun _ _ _ _ _ _ us hl => match us, hl with | [_, _, _], _ => rfl) fun f cdv A outer s H E hr =>
    (ss_one (ss_ret (se_and (se_callB (bf_isi rfl) rfl T.n_isinstance bo_isinstance (sa_cons (se_var 0 (pv 0)) (sa_cons (se_bty rfl T.n_tuple bo_tuple) sa_nil))) (se_one (se_chain cmp_le cmp_le (se_var 1 (pv 1)) (se_callB (bf_len rfl) rfl T.n_len bo_len (sa_cons (se_var 0 (pv 0)) sa_nil)) (se_var 2 (pv 2)))))))
theorem sc_is_wave : FnScope ["value"] ["value"] (defScope s_is_wave) := ⟨rfl, rfl, rfl, by decide +kernel, rfl, by decide +kernel, by decide +kernel⟩
def bd_is_wave : MS :=
    (mSeq (mIfS (mOr (mNot (mTru (mCall m_is_tuple_of (mCons (mVar 0) (mCons (mC (.int 2)) (mCons (mC (.int 2)) mNil)))))) (mNot (mTru (mCall m_is_whole (mCons (m2 fIx (mVar 0) (mC (.int 1))) (mCons (mC (.int 0)) (mCons (mC (.int 7)) mNil))))))) (mRet (mC (.bl false))) mSkip)
    (mSeq (mIfS (mOr (mNot (mTru (mCall fIsi (mCons (m2 fIx (mVar 0) (mC (.int 0))) (mCons (mC (.ty "int")) mNil))))) (mTru (mCall fIsi (mCons (m2 fIx (mVar 0) (mC (.int 0))) (mCons (mC (.ty "bool")) mNil))))) (mRet (mC (.bl false))) mSkip)
    (mRet (mOrV (m2 cGt (m2 fIx (mVar 0) (mC (.int 0))) (mC (.int 0))) (m2 (fEq false) (mVar 0) (mCall fTup (mCons (mC (.int 0)) (mCons (mC (.int 0)) mNil))))))))
def m_is_wave : List D → M D := mDef 1 1 bd_is_wave
theorem d_is_wave (T : Tx K mg base tb) : DefOk P w K mg base (gx K mg tb) 2 "is_wave" m_is_wave 1 :=
  have sc := sc_is_wave
  def_ok (N := ["value"]) (ps := ["value"]) (k := 1) (np := 1) (st := s_is_wave) (b := bd_is_wave) T.f_is_wave sc rfl (fun _ _ _ _ _ _ us hl => match us, hl with | [_], _ => rfl) fun f cdv A outer s H E hr =>
    (ss_cons (ss_if (PW.pt (sw_or (st_not (st_tru rfl (se_call (d_is_tuple_of T) hr (by omega) tkE rfl (sa_cons (se_var 0 (pv 0)) (sa_cons se_int (sa_cons se_int sa_nil))) rfl (len_cons (len_cons (len_cons len_nil)))))) (sw_or1 (st_not (st_tru rfl (se_call (d_is_whole T) hr (by omega) tkE rfl (sa_cons (se_ix rfl (se_var 0 (pv 0)) se_int) (sa_cons se_int (sa_cons se_int sa_nil))) rfl (len_cons (len_cons (len_cons len_nil))))))))) (ss_one (ss_ret se_bl)) ss_nil)
    (ss_cons (ss_if (PW.pt (sw_or (st_not (st_tru rfl (se_callB (bf_isi rfl) rfl T.n_isinstance bo_isinstance (sa_cons (se_ix rfl (se_var 0 (pv 0)) se_int) (sa_cons (se_bty rfl T.n_int bo_int) sa_nil))))) (sw_or1 (st_tru rfl (se_callB (bf_isi rfl) rfl T.n_isinstance bo_isinstance (sa_cons (se_ix rfl (se_var 0 (pv 0)) se_int) (sa_cons (se_bty rfl T.n_bool bo_bool) sa_nil))))))) (ss_one (ss_ret se_bl)) ss_nil)
    (ss_one (ss_ret (se_or (se_cmp cmp_gt (se_ix rfl (se_var 0 (pv 0)) se_int) se_int) (se_one (se_cmp (cmp_eq rfl hr.units) (se_var 0 (pv 0)) (se_tup (sa_cons se_int (sa_cons se_int sa_nil))))))))))
theorem sc_need_wave : FnScope ["value"] ["value"] (defScope s_need_wave) := ⟨rfl, rfl, rfl, by decide +kernel, rfl, by decide +kernel, by decide +kernel⟩
def bd_need_wave : MS :=
    (mIfS (mNot (mTru (mCall m_is_wave (mCons (mVar 0) mNil)))) (mRaise "InvalidNumber") mSkip)
def m_need_wave : List D → M D := mDef 1 1 bd_need_wave
theorem d_need_wave (T : Tx K mg base tb) : DefOk P w K mg base (gx K mg tb) 3 "need_wave" m_need_wave 1 :=
  have sc := sc_need_wave
  def_ok (N := ["value"]) (ps := ["value"]) (k := 2) (np := 1) (st := s_need_wave) (b := bd_need_wave) T.f_need_wave sc rfl (fun _ _ _ _ _ _ us hl => match us, hl with | [_], _ => rfl) fun f cdv A outer s H E hr =>
    (ss_one (ss_if (st_not (st_tru rfl (se_call (d_is_wave T) hr (by omega) tkE rfl (sa_cons (se_var 0 (pv 0)) sa_nil) rfl (len_cons len_nil)))) (ss_one (ss_raise rfl tkE T.e_InvalidNumber rfl rfl)) ss_nil))
theorem sc_wave_at : FnScope ["number", "eighths"] ["number", "eighths"] (defScope s_wave_at) := ⟨rfl, rfl, rfl, by decide +kernel, rfl, by decide +kernel, by decide +kernel⟩
def bd_wave_at : MS :=
    (mRet (mIf (mB (m2 cGt (mVar 0) (mC (.int 0)))) (mCall fTup (mCons (mVar 0) (mCons (m2 fMod (mCall fInt (mCons (mVar 1) mNil)) (mC (.int 8))) mNil))) (mCall fTup (mCons (mC (.int 0)) (mCons (mC (.int 0)) mNil)))))
def m_wave_at : List D → M D := mDef 2 2 bd_wave_at
theorem d_wave_at (T : Tx K mg base tb) : DefOk P w K mg base (gx K mg tb) 1 "wave_at" m_wave_at 2 :=
  have sc := sc_wave_at
  def_ok (N := ["number", "eighths"]) (ps := ["number", "eighths"]) (k := 0) (np := 2) (st := s_wave_at) (b := bd_wave_at) T.f_wave_at sc rfl (fun _ _ _ _ _ _ us hl => match us, hl with | [_, _], _ => rfl) fun f cdv A outer s H E hr =>
    (ss_one (ss_ret (se_if (st_cmp cmp_gt (se_var 0 (pv 0)) se_int) (se_tup (sa_cons (se_var 0 (pv 0)) (sa_cons (se_mod (se_callTy (bf_int) rfl T.n_int bo_int (sa_cons (se_var 1 (pv 1)) sa_nil)) se_int) sa_nil))) (se_tup (sa_cons se_int (sa_cons se_int sa_nil))))))
theorem sc_is_wave_number : FnScope ["value"] ["value"] (defScope s_is_wave_number) := ⟨rfl, rfl, rfl, by decide +kernel, rfl, by decide +kernel, by decide +kernel⟩
def bd_is_wave_number : MS :=
    (mRet (mCall m_is_wave (mCons (mVar 0) mNil)))
def m_is_wave_number : List D → M D := mDef 1 1 bd_is_wave_number
theorem d_is_wave_number (T : Tx K mg base tb) : DefOk P w K mg base (gx K mg tb) 3 "is_wave_number" m_is_wave_number 1 :=
  have sc := sc_is_wave_number
  def_ok (N := ["value"]) (ps := ["value"]) (k := 2) (np := 1) (st := s_is_wave_number) (b := bd_is_wave_number) T.f_is_wave_number sc rfl (fun _ _ _ _ _ _ us hl => match us, hl with | [_], _ => rfl) fun f cdv A outer s H E hr =>
    (ss_one (ss_ret (se_call (d_is_wave T) hr (by omega) tkE rfl (sa_cons (se_var 0 (pv 0)) sa_nil) rfl (len_cons len_nil))))
theorem sc_wave_product : FnScope ["one", "other"] ["one", "other"] (defScope s_wave_product) := ⟨rfl, rfl, rfl, by decide +kernel, rfl, by decide +kernel, by decide +kernel⟩
def bd_wave_product : MS :=
    (mSeq (mExpr (mCall m_need_wave (mCons (mVar 0) mNil)))
    (mSeq (mExpr (mCall m_need_wave (mCons (mVar 1) mNil)))
    (mRet (mCall m_wave_at (mCons (m2 fMul (m2 fIx (mVar 0) (mC (.int 0))) (m2 fIx (mVar 1) (mC (.int 0)))) (mCons (m2 fAdd (m2 fIx (mVar 0) (mC (.int 1))) (m2 fIx (mVar 1) (mC (.int 1)))) mNil))))))
def m_wave_product : List D → M D := mDef 2 2 bd_wave_product
theorem d_wave_product (T : Tx K mg base tb) : DefOk P w K mg base (gx K mg tb) 4 "wave_product" m_wave_product 2 :=
  have sc := sc_wave_product
  def_ok (N := ["one", "other"]) (ps := ["one", "other"]) (k := 3) (np := 2) (st := s_wave_product) (b := bd_wave_product) T.f_wave_product sc rfl (fun _ _ _ _ _ _ us hl => match us, hl with | [_, _], _ => rfl) fun f cdv A outer s H E hr =>
    (ss_cons (ss_expr (se_call (d_need_wave T) hr (by omega) tkE rfl (sa_cons (se_var 0 (pv 0)) sa_nil) rfl (len_cons len_nil)))
    (ss_cons (ss_expr (se_call (d_need_wave T) hr (by omega) tkE rfl (sa_cons (se_var 1 (pv 1)) sa_nil) rfl (len_cons len_nil)))
    (ss_one (ss_ret (se_call (d_wave_at T) hr (by omega) tkE rfl (sa_cons (se_mul rfl (se_ix rfl (se_var 0 (pv 0)) se_int) (se_ix rfl (se_var 1 (pv 1)) se_int)) (sa_cons (se_add rfl (se_ix rfl (se_var 0 (pv 0)) se_int) (se_ix rfl (se_var 1 (pv 1)) se_int)) sa_nil)) rfl (len_cons (len_cons len_nil)))))))
theorem sc_wave_back : FnScope ["wave"] ["wave"] (defScope s_wave_back) := ⟨rfl, rfl, rfl, by decide +kernel, rfl, by decide +kernel, by decide +kernel⟩
def bd_wave_back : MS :=
    (mSeq (mExpr (mCall m_need_wave (mCons (mVar 0) mNil)))
    (mRet (mCall m_wave_at (mCons (m2 fIx (mVar 0) (mC (.int 0))) (mCons (m1 fNeg (m2 fIx (mVar 0) (mC (.int 1)))) mNil)))))
def m_wave_back : List D → M D := mDef 1 1 bd_wave_back
theorem d_wave_back (T : Tx K mg base tb) : DefOk P w K mg base (gx K mg tb) 4 "wave_back" m_wave_back 1 :=
  have sc := sc_wave_back
  def_ok (N := ["wave"]) (ps := ["wave"]) (k := 3) (np := 1) (st := s_wave_back) (b := bd_wave_back) T.f_wave_back sc rfl (fun _ _ _ _ _ _ us hl => match us, hl with | [_], _ => rfl) fun f cdv A outer s H E hr =>
    (ss_cons (ss_expr (se_call (d_need_wave T) hr (by omega) tkE rfl (sa_cons (se_var 0 (pv 0)) sa_nil) rfl (len_cons len_nil)))
    (ss_one (ss_ret (se_call (d_wave_at T) hr (by omega) tkE rfl (sa_cons (se_ix rfl (se_var 0 (pv 0)) se_int) (sa_cons (se_neg (se_ix rfl (se_var 0 (pv 0)) se_int)) sa_nil)) rfl (len_cons (len_cons len_nil))))))
theorem sc_wave_power : FnScope ["wave", "many", "found", "turn"] ["wave", "many"] (defScope s_wave_power) := ⟨rfl, rfl, rfl, by decide +kernel, rfl, by decide +kernel, by decide +kernel⟩
def bd_wave_power : MS :=
    (mSeq (mExpr (mCall m_need_wave (mCons (mVar 0) mNil)))
    (mSeq (mExpr (mCall m_need_whole (mCons (mVar 1) (mCons (mC (.int 0)) (mCons (mC (.int 60)) mNil)))))
    (mSeq (mAsg (mCall fTup (mCons (mC (.int 1)) (mCons (mC (.int 0)) mNil))) (gN 2))
    (mSeq (mFor (mItN fRg1 (mCons (mVar 1) mNil)) (gN 3) (mAsg (mCall m_wave_at (mCons (m2 fMul (m2 fIx (mVar 2) (mC (.int 0))) (m2 fIx (mVar 0) (mC (.int 0)))) (mCons (m2 fAdd (m2 fIx (mVar 2) (mC (.int 1))) (m2 fIx (mVar 0) (mC (.int 1)))) mNil))) (gN 2)))
    (mRet (mVar 2))))))
def m_wave_power : List D → M D := mDef 2 4 bd_wave_power
theorem d_wave_power (T : Tx K mg base tb) : DefOk P w K mg base (gx K mg tb) 4 "wave_power" m_wave_power 2 :=
  have sc := sc_wave_power
  def_ok (N := ["wave", "many", "found", "turn"]) (ps := ["wave", "many"]) (k := 3) (np := 2) (st := s_wave_power) (b := bd_wave_power) T.f_wave_power sc rfl (fun _ _ _ _ _ _ us hl => match us, hl with | [_, _], _ => rfl) fun f cdv A outer s H E hr =>
    (ss_cons (ss_expr (se_call (d_need_wave T) hr (by omega) tkE rfl (sa_cons (se_var 0 (pv 0)) sa_nil) rfl (len_cons len_nil)))
    (ss_cons (ss_expr (se_call (d_need_whole T) hr (by omega) tkE rfl (sa_cons (se_var 1 (pv 1)) (sa_cons se_int (sa_cons (se_gint rfl T.c_MANY) sa_nil))) rfl (len_cons (len_cons (len_cons len_nil)))))
    (ss_cons (ss_setN 2 sc.nd (se_tup (sa_cons se_int (sa_cons se_int sa_nil))))
    (ss_cons (ss_for psE rfl (si_rg1 rfl T.n_range (sa_cons (se_var 1 (pv 1)) sa_nil)) (sg_n 3 sc.nd) (ss_one (ss_setN 2 sc.nd (se_call (d_wave_at T) hr (by omega) tkE rfl (sa_cons (se_mul rfl (se_ix rfl (se_var 2 (pv 2)) se_int) (se_ix rfl (se_var 0 (pv 0)) se_int)) (sa_cons (se_add rfl (se_ix rfl (se_var 2 (pv 2)) se_int) (se_ix rfl (se_var 0 (pv 0)) se_int)) sa_nil)) rfl (len_cons (len_cons len_nil))))))
    (ss_one (ss_ret (se_var 2 (pv 2))))))))
theorem sc__law_cup : FnScope ["script", "cell"] ["script"] (defScope s__law_cup) := ⟨rfl, rfl, rfl, by decide +kernel, rfl, by decide +kernel, by decide +kernel⟩
def bd__law_cup : MS :=
    (mSeq (mAsg (mCall fAbs (mCons (m2 fIx (m2 fAdd (mCall fList (mCons (mVar 0) mNil)) (mCall fLst (mCons (mC (.int 0)) mNil))) (mC (.int 0))) mNil)) (gN 1))
    (mRet (mCall fNew (mCons (mIf (mB (m2 cGe (mVar 1) (m2 fPow (mC (.int 10)) (mC (.int 18))))) (m2 fDiv (mVar 1) (mC (.int 313))) (mC (.int 0))) (mCons (m2 fMod (mCall fInt (mCons (m2 fAdd (m2 fMul (mVar 1) (mC (.int 1093))) (mC (.int 97687))) mNil)) (mC (.int 1048576))) mNil)))))
def m__law_cup : List D → M D := mDef 1 2 bd__law_cup
theorem d__law_cup (T : Tx K mg base tb) : DefOk P w K mg base (gx K mg tb) 1 "_law_cup" m__law_cup 1 :=
  have sc := sc__law_cup
  def_ok (N := ["script", "cell"]) (ps := ["script"]) (k := 0) (np := 1) (st := s__law_cup) (b := bd__law_cup) T.f__law_cup sc rfl (fun _ _ _ _ _ _ us hl => match us, hl with | [_], _ => rfl) fun f cdv A outer s H E hr =>
    (ss_cons (ss_setN 1 sc.nd (se_callB (bf_abs) rfl T.n_abs bo_abs (sa_cons (se_ix rfl (se_add rfl (se_callTy (bf_list rfl) rfl T.n_list bo_list (sa_cons (se_var 0 (pv 0)) sa_nil)) (se_lst (sa_cons se_int sa_nil))) se_int) sa_nil)))
    (ss_one (ss_ret (se_new (sa_cons (se_if (st_cmp cmp_ge (se_var 1 (pv 1)) (se_pow se_int se_int)) (se_div (se_var 1 (pv 1)) se_int) se_int) (sa_cons (se_mod (se_callTy (bf_int) rfl T.n_int bo_int (sa_cons (se_add rfl (se_mul rfl (se_var 1 (pv 1)) se_int) se_int) sa_nil)) se_int) sa_nil))))))
theorem sc__law_roll : FnScope ["cup", "many", "found"] ["cup", "many"] (defScope s__law_roll) := ⟨rfl, rfl, rfl, by decide +kernel, rfl, by decide +kernel, by decide +kernel⟩
def bd__law_roll : MS :=
    (mSeq (mIfS (mB (m2 cGt (m2 fIx (mVar 0) (mC (.int 0))) (mC (.int 0)))) (mSeq (mAsg (m2 fMod (mCall fInt (mCons (m2 fIx (mVar 0) (mC (.int 0))) mNil)) (mVar 1)) (gN 2))
    (mSeq (mAsg (m2 fDiv (m2 fIx (mVar 0) (mC (.int 0))) (mVar 1)) (gSubD (mVar 0) (mC (.int 0))))
    (mRet (mVar 2)))) mSkip)
    (mSeq (mAsg (m2 fMod (mCall fInt (mCons (m2 fAdd (m2 fMul (m2 fIx (mVar 0) (mC (.int 1))) (mC (.int 23269))) (mC (.int 48437))) mNil)) (mC (.int 1048576))) (gSubD (mVar 0) (mC (.int 1))))
    (mRet (m2 fMod (mCall fInt (mCons (m2 fDiv (m2 fIx (mVar 0) (mC (.int 1))) (mC (.int 139))) mNil)) (mVar 1)))))
def m__law_roll : List D → M D := mDef 2 3 bd__law_roll
theorem d__law_roll (T : Tx K mg base tb) : DefOk P w K mg base (gx K mg tb) 1 "_law_roll" m__law_roll 2 :=
  have sc := sc__law_roll
  def_ok (N := ["cup", "many", "found"]) (ps := ["cup", "many"]) (k := 0) (np := 2) (st := s__law_roll) (b := bd__law_roll) T.f__law_roll sc rfl (fun _ _ _ _ _ _ us hl => match us, hl with | [_, _], _ => rfl) fun f cdv A outer s H E hr =>
    (ss_cons (ss_if (st_cmp cmp_gt (se_ix rfl (se_var 0 (pv 0)) se_int) se_int) (ss_cons (ss_setN 2 sc.nd (se_mod (se_callTy (bf_int) rfl T.n_int bo_int (sa_cons (se_ix rfl (se_var 0 (pv 0)) se_int) sa_nil)) (se_var 1 (pv 1))))
    (ss_cons (ss_asg (se_div (se_ix rfl (se_var 0 (pv 0)) se_int) (se_var 1 (pv 1))) (sg_sub (se_var 0 (pv 0)) se_int))
    (ss_one (ss_ret (se_var 2 (pv 2)))))) ss_nil)
    (ss_cons (ss_asg (se_mod (se_callTy (bf_int) rfl T.n_int bo_int (sa_cons (se_add rfl (se_mul rfl (se_ix rfl (se_var 0 (pv 0)) se_int) se_int) se_int) sa_nil)) se_int) (sg_sub (se_var 0 (pv 0)) se_int))
    (ss_one (ss_ret (se_mod (se_callTy (bf_int) rfl T.n_int bo_int (sa_cons (se_div (se_ix rfl (se_var 0 (pv 0)) se_int) se_int) sa_nil)) (se_var 1 (pv 1)))))))
theorem sc__law_some : FnScope ["cup", "things"] ["cup", "things"] (defScope s__law_some) := ⟨rfl, rfl, rfl, by decide +kernel, rfl, by decide +kernel, by decide +kernel⟩
def bd__law_some : MS :=
    (mRet (m2 fIx (mVar 1) (mCall m__law_roll (mCons (mVar 0) (mCons (mCall fLen (mCons (mVar 1) mNil)) mNil)))))
def m__law_some : List D → M D := mDef 2 2 bd__law_some
theorem d__law_some (T : Tx K mg base tb) : DefOk P w K mg base (gx K mg tb) 2 "_law_some" m__law_some 2 :=
  have sc := sc__law_some
  def_ok (N := ["cup", "things"]) (ps := ["cup", "things"]) (k := 1) (np := 2) (st := s__law_some) (b := bd__law_some) T.f__law_some sc rfl (fun _ _ _ _ _ _ us hl => match us, hl with | [_, _], _ => rfl) fun f cdv A outer s H E hr =>
    (ss_one (ss_ret (se_ix rfl (se_var 1 (pv 1)) (se_call (d__law_roll T) hr (by omega) tkE rfl (sa_cons (se_var 0 (pv 0)) (sa_cons (se_callB (bf_len rfl) rfl T.n_len bo_len (sa_cons (se_var 1 (pv 1)) sa_nil)) sa_nil)) rfl (len_cons (len_cons len_nil))))))
theorem sc__law_sort : FnScope ["value"] ["value"] (defScope s__law_sort) := ⟨rfl, rfl, rfl, by decide +kernel, rfl, by decide +kernel, by decide +kernel⟩
def bd__law_sort : MS :=
    (mSeq (mIfS (mOr (mB (m2 (fIsN false) (mVar 0) (mC .non))) (mTru (mCall fIsi (mCons (mVar 0) (mCons (mC (.ty "bool")) mNil))))) (mRet (mIf (mB (m2 (fIsN false) (mVar 0) (mC .non))) (mC (.int 0)) (mC (.int 1)))) mSkip)
    (mSeq (mIfS (mOr (mTru (mCall fIsi (mCons (mVar 0) (mCons (mC (.ty "int")) mNil)))) (mTru (mCall fIsi (mCons (mVar 0) (mCons (mC (.ty "str")) mNil))))) (mRet (mIf (mTru (mCall fIsi (mCons (mVar 0) (mCons (mC (.ty "int")) mNil)))) (mC (.int 2)) (mC (.int 3)))) mSkip)
    (mRet (mIf (mTru (mCall fIsi (mCons (mVar 0) (mCons (mC (.ty "tuple")) mNil)))) (mC (.int 4)) (mIf (mTru (mCall fIsi (mCons (mVar 0) (mCons (mC (.ty "list")) mNil)))) (mC (.int 5)) (mC (.int 6)))))))
def m__law_sort : List D → M D := mDef 1 1 bd__law_sort
theorem d__law_sort (T : Tx K mg base tb) : DefOk P w K mg base (gx K mg tb) 1 "_law_sort" m__law_sort 1 :=
  have sc := sc__law_sort
  def_ok (N := ["value"]) (ps := ["value"]) (k := 0) (np := 1) (st := s__law_sort) (b := bd__law_sort) T.f__law_sort sc rfl (fun _ _ _ _ _ _ us hl => match us, hl with | [_], _ => rfl) fun f cdv A outer s H E hr =>
    (ss_cons (ss_if (PW.pt (sw_or (st_cmp cmp_is (se_var 0 (pv 0)) se_non) (sw_or1 (st_tru rfl (se_callB (bf_isi rfl) rfl T.n_isinstance bo_isinstance (sa_cons (se_var 0 (pv 0)) (sa_cons (se_bty rfl T.n_bool bo_bool) sa_nil))))))) (ss_one (ss_ret (se_if (st_cmp cmp_is (se_var 0 (pv 0)) se_non) se_int se_int))) ss_nil)
    (ss_cons (ss_if (PW.pt (sw_or (st_tru rfl (se_callB (bf_isi rfl) rfl T.n_isinstance bo_isinstance (sa_cons (se_var 0 (pv 0)) (sa_cons (se_bty rfl T.n_int bo_int) sa_nil)))) (sw_or1 (st_tru rfl (se_callB (bf_isi rfl) rfl T.n_isinstance bo_isinstance (sa_cons (se_var 0 (pv 0)) (sa_cons (se_bty rfl T.n_str bo_str) sa_nil))))))) (ss_one (ss_ret (se_if (st_tru rfl (se_callB (bf_isi rfl) rfl T.n_isinstance bo_isinstance (sa_cons (se_var 0 (pv 0)) (sa_cons (se_bty rfl T.n_int bo_int) sa_nil)))) se_int se_int))) ss_nil)
    (ss_one (ss_ret (se_if (st_tru rfl (se_callB (bf_isi rfl) rfl T.n_isinstance bo_isinstance (sa_cons (se_var 0 (pv 0)) (sa_cons (se_bty rfl T.n_tuple bo_tuple) sa_nil)))) se_int (se_if (st_tru rfl (se_callB (bf_isi rfl) rfl T.n_isinstance bo_isinstance (sa_cons (se_var 0 (pv 0)) (sa_cons (se_bty rfl T.n_list bo_list) sa_nil)))) se_int se_int))))))
theorem sc__law_like : FnScope ["one", "other", "sort", "first", "second"] ["one", "other"] (defScope s__law_like) := ⟨rfl, rfl, rfl, by decide +kernel, rfl, by decide +kernel, by decide +kernel⟩
def bd__law_like (rc : List D → M D) : MS :=
    (mSeq (mAsg (mCall m__law_sort (mCons (mVar 1) mNil)) (gN 2))
    (mSeq (mIfS (mOr (mB (m2 (fEq true) (mCall m__law_sort (mCons (mVar 0) mNil)) (mVar 2))) (mB (m2 (fEq false) (mVar 2) (mC (.int 6))))) (mRet (mC (.bl false))) mSkip)
    (mSeq (mIfS (mB (m2 (fIn false) (mVar 2) (mCall fTup (mCons (mC (.int 4)) (mCons (mC (.int 5)) mNil))))) (mRet (mAndV (m2 (fEq false) (mCall fLen (mCons (mVar 0) mNil)) (mCall fLen (mCons (mVar 1) mNil))) (m2 (fEq false) (mLc (mItN fZip (mCons (mVar 0) (mCons (mVar 1) mNil))) (gTupD 2 (gsCons (gN 3) (gsCons (gN 4) gsNil))) (mNot (mTru (mCall rc (mCons (mVar 3) (mCons (mVar 4) mNil))))) (mC (.int 1)) [3, 4]) (mCall fLst mNil)))) mSkip)
    (mRet (m2 (fEq false) (mVar 0) (mVar 1))))))
def m__law_like : Nat → List D → M D
  | 0 => fun _ => noM
  | n + 1 => mDef 2 5 (bd__law_like (m__law_like n))
theorem d__law_like (T : Tx K mg base tb) : ∀ n, DefOk P w K mg base (gx K mg tb) (2 + n) "_law_like" (m__law_like n) 2
  | 0 => def_zero T.f__law_like (ps := ["one", "other"]) rfl (fun _ _ _ _ _ _ us hl => match us, hl with | [_, _], _ => rfl)
  | n + 1 =>
  have ih := d__law_like T n
  have sc := sc__law_like
  def_ok (N := ["one", "other", "sort", "first", "second"]) (ps := ["one", "other"]) (k := 2 + n) (np := 2) (st := s__law_like) (b := bd__law_like (m__law_like n)) T.f__law_like sc rfl (fun _ _ _ _ _ _ us hl => match us, hl with | [_, _], _ => rfl) fun f cdv A outer s H E hr =>
    (ss_cons (ss_setN 2 sc.nd (se_call (d__law_sort T) hr (by omega) tkE rfl (sa_cons (se_var 1 (pv 1)) sa_nil) rfl (len_cons len_nil)))
    (ss_cons (ss_if (PW.pt (sw_or (st_cmp (cmp_ne rfl hr.units) (se_call (d__law_sort T) hr (by omega) tkE rfl (sa_cons (se_var 0 (pv 0)) sa_nil) rfl (len_cons len_nil)) (se_var 2 (pv 2))) (sw_or1 (st_cmp (cmp_eq rfl hr.units) (se_var 2 (pv 2)) se_int)))) (ss_one (ss_ret se_bl)) ss_nil)
    (ss_cons (ss_if (st_cmp (cmp_in rfl) (se_var 2 (pv 2)) (se_tup (sa_cons se_int (sa_cons se_int sa_nil)))) (ss_one (ss_ret (se_and (se_cmp (cmp_eq rfl hr.units) (se_callB (bf_len rfl) rfl T.n_len bo_len (sa_cons (se_var 0 (pv 0)) sa_nil)) (se_callB (bf_len rfl) rfl T.n_len bo_len (sa_cons (se_var 1 (pv 1)) sa_nil))) (se_one (se_cmp (cmp_eq rfl hr.units) (se_lc (own := [("first", 3), ("second", 4)]) rfl sc.nd (si_zip rfl rfl T.n_zip (sa_cons (se_var 0 (pv 0)) (sa_cons (se_var 1 (pv 1)) sa_nil))) (blkOk_by (N := ["one", "other", "sort", "first", "second"]) (sc := defScope s__law_like) (by decide +kernel)) (fun _ _ _ _ _ => (sc_tup rfl rfl (scs_cons (sc_n 3 sc.nd) (scs_cons (sc_n 4 sc.nd) scs_nil)))) (fun _ _ _ _ _ => (sts_one (st_not (st_tru rfl (se_call ih hr (by omega) tk0 rfl (sa_cons (se_var 3 (pv 3)) (sa_cons (se_var 4 (pv 4)) sa_nil)) rfl (len_cons (len_cons len_nil))))))) (fun _ _ _ _ _ => se_int)) (se_lst sa_nil)))))) ss_nil)
    (ss_one (ss_ret (se_cmp (cmp_eq rfl hr.units) (se_var 0 (pv 0)) (se_var 1 (pv 1))))))))
theorem sc__law_wave : FnScope ["cup"] ["cup"] (defScope s__law_wave) := ⟨rfl, rfl, rfl, by decide +kernel, rfl, by decide +kernel, by decide +kernel⟩
def bd__law_wave : MS :=
    (mRet (mCall m__law_some (mCons (mVar 0) (mCons (mCall fLst (mCons (mCall fTup (mCons (mC (.int 0)) (mCons (mC (.int 0)) mNil))) (mCons (mCall fTup (mCons (mC (.int 1)) (mCons (mC (.int 0)) mNil))) (mCons (mCall fTup (mCons (mC (.int 1)) (mCons (mC (.int 3)) mNil))) (mCons (mCall fTup (mCons (mC (.int 2)) (mCons (mC (.int 1)) mNil))) (mCons (mCall fTup (mCons (mC (.int 3)) (mCons (mC (.int 2)) mNil))) (mCons (mCall fTup (mCons (mC (.int 4)) (mCons (mC (.int 7)) mNil))) (mCons (mCall fTup (mCons (mC (.int 5)) (mCons (mC (.int 4)) mNil))) (mCons (mCall fTup (mCons (mC (.int 12)) (mCons (mC (.int 6)) mNil))) (mCons (mCall fTup (mCons (mC (.int 49)) (mCons (mC (.int 5)) mNil))) (mCons (mCall fTup (mCons (mC (.int 1000)) (mCons (mC (.int 1)) mNil))) mNil))))))))))) mNil))))
def m__law_wave : List D → M D := mDef 1 1 bd__law_wave
theorem d__law_wave (T : Tx K mg base tb) : DefOk P w K mg base (gx K mg tb) 3 "_law_wave" m__law_wave 1 :=
  have sc := sc__law_wave
  def_ok (N := ["cup"]) (ps := ["cup"]) (k := 2) (np := 1) (st := s__law_wave) (b := bd__law_wave) T.f__law_wave sc rfl (fun _ _ _ _ _ _ us hl => match us, hl with | [_], _ => rfl) fun f cdv A outer s H E hr =>
    (ss_one (ss_ret (se_call (d__law_some T) hr (by omega) tkE rfl (sa_cons (se_var 0 (pv 0)) (sa_cons (se_lst (sa_cons (se_tup (sa_cons se_int (sa_cons se_int sa_nil))) (sa_cons (se_tup (sa_cons se_int (sa_cons se_int sa_nil))) (sa_cons (se_tup (sa_cons se_int (sa_cons se_int sa_nil))) (sa_cons (se_tup (sa_cons se_int (sa_cons se_int sa_nil))) (sa_cons (se_tup (sa_cons se_int (sa_cons se_int sa_nil))) (sa_cons (se_tup (sa_cons se_int (sa_cons se_int sa_nil))) (sa_cons (se_tup (sa_cons se_int (sa_cons se_int sa_nil))) (sa_cons (se_tup (sa_cons se_int (sa_cons se_int sa_nil))) (sa_cons (se_tup (sa_cons se_int (sa_cons se_int sa_nil))) (sa_cons (se_tup (sa_cons se_int (sa_cons se_int sa_nil))) sa_nil))))))))))) sa_nil)) rfl (len_cons (len_cons len_nil)))))
theorem sc__law_put : FnScope ["number", "turns"] ["number", "turns"] (defScope s__law_put) := ⟨rfl, rfl, rfl, by decide +kernel, rfl, by decide +kernel, by decide +kernel⟩
def bd__law_put : MS :=
    (mRet (mIf (mB (m2 cGt (mVar 0) (mC (.int 0)))) (mCall fTup (mCons (mVar 0) (mCons (m2 fMod (mCall fInt (mCons (mVar 1) mNil)) (mC (.int 8))) mNil))) (mCall fTup (mCons (mC (.int 0)) (mCons (mC (.int 0)) mNil)))))
def m__law_put : List D → M D := mDef 2 2 bd__law_put
theorem d__law_put (T : Tx K mg base tb) : DefOk P w K mg base (gx K mg tb) 1 "_law_put" m__law_put 2 :=
  have sc := sc__law_put
  def_ok (N := ["number", "turns"]) (ps := ["number", "turns"]) (k := 0) (np := 2) (st := s__law_put) (b := bd__law_put) T.f__law_put sc rfl (fun _ _ _ _ _ _ us hl => match us, hl with | [_, _], _ => rfl) fun f cdv A outer s H E hr =>
    (ss_one (ss_ret (se_if (st_cmp cmp_gt (se_var 0 (pv 0)) se_int) (se_tup (sa_cons (se_var 0 (pv 0)) (sa_cons (se_mod (se_callTy (bf_int) rfl T.n_int bo_int (sa_cons (se_var 1 (pv 1)) sa_nil)) se_int) sa_nil))) (se_tup (sa_cons se_int (sa_cons se_int sa_nil))))))
theorem sc__law_right : FnScope ["cup", "one", "other", "third", "both", "told", "whole", "back", "many", "found", "turn", "values", "value"] ["cup"] (defScope s__law_right) := ⟨rfl, rfl, rfl, by decide +kernel, rfl, by decide +kernel, by decide +kernel⟩
def bd__law_right : MS :=
    (mSeq (mPar3 1 2 3 (mCons (mCall m__law_wave (mCons (mVar 0) mNil)) (mCons (mCall m__law_wave (mCons (mVar 0) mNil)) (mCons (mCall m__law_wave (mCons (mVar 0) mNil)) mNil))))
    (mSeq (mAsg (mCall m__law_put (mCons (m2 fMul (m2 fIx (mVar 1) (mC (.int 0))) (m2 fIx (mVar 2) (mC (.int 0)))) (mCons (m2 fAdd (m2 fIx (mVar 1) (mC (.int 1))) (m2 fIx (mVar 2) (mC (.int 1)))) mNil))) (gN 4))
    (mSeq (mAsg (mCall fLst (mCons (mCall m_wave_product (mCons (mVar 1) (mCons (mVar 2) mNil))) (mCons (mCall m_wave_product (mCons (mVar 2) (mCons (mVar 1) mNil))) (mCons (mCall m_wave_product (mCons (mVar 4) (mCons (mVar 3) mNil))) (mCons (mCall m_wave_product (mCons (mVar 1) (mCons (mCall m_wave_product (mCons (mVar 2) (mCons (mVar 3) mNil))) mNil))) mNil))))) (gN 5))
    (mSeq (mAsg (mCall m__law_put (mCons (m2 fMul (m2 fIx (mVar 4) (mC (.int 0))) (m2 fIx (mVar 3) (mC (.int 0)))) (mCons (m2 fAdd (m2 fIx (mVar 4) (mC (.int 1))) (m2 fIx (mVar 3) (mC (.int 1)))) mNil))) (gN 6))
    (mSeq (mIfS (mNot (mTru (mCall (m__law_like 12) (mCons (mVar 5) (mCons (mCall fLst (mCons (mVar 4) (mCons (mVar 4) (mCons (mVar 6) (mCons (mVar 6) mNil))))) mNil))))) (mRet (mC (.bl false))) mSkip)
    (mSeq (mAsg (mCall m__law_put (mCons (m2 fIx (mVar 1) (mC (.int 0))) (mCons (m2 fSub (mC (.int 8)) (m2 fIx (mVar 1) (mC (.int 1)))) mNil))) (gN 7))
    (mSeq (mAsg (mCall fLst (mCons (mCall m_wave_back (mCons (mVar 1) mNil)) (mCons (mCall m_wave_back (mCons (mVar 7) mNil)) (mCons (mCall m_wave_product (mCons (mVar 1) (mCons (mVar 7) mNil))) (mCons (mCall m_wave_back (mCons (mVar 4) mNil)) mNil))))) (gN 5))
    (mSeq (mIfS (mNot (mTru (mCall (m__law_like 12) (mCons (mVar 5) (mCons (mCall fLst (mCons (mVar 7) (mCons (mVar 1) (mCons (mCall m__law_put (mCons (m2 fMul (m2 fIx (mVar 1) (mC (.int 0))) (m2 fIx (mVar 1) (mC (.int 0)))) (mCons (mC (.int 0)) mNil))) (mCons (mCall m_wave_product (mCons (mVar 7) (mCons (mCall m_wave_back (mCons (mVar 2) mNil)) mNil))) mNil))))) mNil))))) (mRet (mC (.bl false))) mSkip)
    (mSeq (mPar 8 9 (mCons (mCall m__law_roll (mCons (mVar 0) (mCons (mC (.int 12)) mNil))) (mCons (mCall fTup (mCons (mC (.int 1)) (mCons (mC (.int 0)) mNil))) mNil)))
    (mSeq (mFor (mItN fRg1 (mCons (mVar 8) mNil)) (gN 10) (mAsg (mCall m__law_put (mCons (m2 fMul (m2 fIx (mVar 9) (mC (.int 0))) (m2 fIx (mVar 1) (mC (.int 0)))) (mCons (m2 fAdd (m2 fIx (mVar 9) (mC (.int 1))) (m2 fIx (mVar 1) (mC (.int 1)))) mNil))) (gN 9)))
    (mSeq (mIfS (mNot (mTru (mCall (m__law_like 12) (mCons (mCall fLst (mCons (mCall m_wave_power (mCons (mVar 1) (mCons (mVar 8) mNil))) (mCons (mCall m_wave_power (mCons (mVar 1) (mCons (m2 fAdd (mVar 8) (mC (.int 1))) mNil))) mNil))) (mCons (mCall fLst (mCons (mVar 9) (mCons (mCall m_wave_product (mCons (mVar 9) (mCons (mVar 1) mNil))) mNil))) mNil))))) (mRet (mC (.bl false))) mSkip)
    (mSeq (mAsg (mCall fLst (mCons (mVar 1) (mCons (mCall fList (mCons (mVar 1) mNil)) (mCons (m2 fAdd (mVar 1) (mCall fTup (mCons (mC (.int 0)) mNil))) (mCons (mSl (mVar 1) mNone (mSome (mC (.int 1)))) (mCons (mCall fTup (mCons (m2 fIx (mVar 1) (mC (.int 0))) (mCons (mC (.int 8)) mNil))) (mCons (mCall fTup (mCons (m2 fIx (mVar 1) (mC (.int 0))) (mCons (m1 fNeg (mC (.int 1))) mNil))) (mCons (mCall fTup (mCons (m2 fSub (m1 fNeg (m2 fIx (mVar 1) (mC (.int 0)))) (mC (.int 1))) (mCons (mC (.int 0)) mNil))) (mCons (mCall fTup (mCons (m2 fIx (mVar 1) (mC (.int 0))) (mCons (mC .non) mNil))) (mCons (mCall fTup (mCons (mC (.bl true)) (mCons (mC (.int 0)) mNil))) (mCons (mCall fTup (mCons (m2 fIx (mVar 1) (mC (.int 0))) (mCons (mC (.bl true)) mNil))) (mCons (mC .non) (mCons (mCall fTup (mCons (mC (.int 0)) (mCons (mC (.int 1)) mNil))) mNil))))))))))))) (gN 11))
    (mRet (mCall (m__law_like 12) (mCons (mLc (mIt itS (mVar 11)) (gN 12) mYes (mCall m_is_wave_number (mCons (mVar 12) mNil)) [12]) (mCons (m2 fAdd (mCall fLst (mCons (mC (.bl true)) mNil)) (m2 fMul (mCall fLst (mCons (mC (.bl false)) mNil)) (mC (.int 11)))) mNil))))))))))))))))
def m__law_right : List D → M D := mDef 1 13 bd__law_right
theorem d__law_right (T : Tx K mg base tb) : DefOk P w K mg base (gx K mg tb) 15 "_law_right" m__law_right 1 :=
  have sc := sc__law_right
  def_ok (N := ["cup", "one", "other", "third", "both", "told", "whole", "back", "many", "found", "turn", "values", "value"]) (ps := ["cup"]) (k := 14) (np := 1) (st := s__law_right) (b := bd__law_right) T.f__law_right sc rfl (fun _ _ _ _ _ _ us hl => match us, hl with | [_], _ => rfl) fun f cdv A outer s H E hr =>
    (ss_cons (ss_par3 rfl sc.nd rfl rfl rfl (by decide) (by decide) (by decide) rfl rfl rfl (sa_cons (se_call (d__law_wave T) hr (by omega) tkE rfl (sa_cons (se_var 0 (pv 0)) sa_nil) rfl (len_cons len_nil)) (sa_cons (se_call (d__law_wave T) hr (by omega) tkE rfl (sa_cons (se_var 0 (pv 0)) sa_nil) rfl (len_cons len_nil)) (sa_cons (se_call (d__law_wave T) hr (by omega) tkE rfl (sa_cons (se_var 0 (pv 0)) sa_nil) rfl (len_cons len_nil)) sa_nil))))
    (ss_cons (ss_setN 4 sc.nd (se_call (d__law_put T) hr (by omega) tkE rfl (sa_cons (se_mul rfl (se_ix rfl (se_var 1 (pv 1)) se_int) (se_ix rfl (se_var 2 (pv 2)) se_int)) (sa_cons (se_add rfl (se_ix rfl (se_var 1 (pv 1)) se_int) (se_ix rfl (se_var 2 (pv 2)) se_int)) sa_nil)) rfl (len_cons (len_cons len_nil))))
    (ss_cons (ss_setN 5 sc.nd (se_lst (sa_cons (se_call (d_wave_product T) hr (by omega) tkE rfl (sa_cons (se_var 1 (pv 1)) (sa_cons (se_var 2 (pv 2)) sa_nil)) rfl (len_cons (len_cons len_nil))) (sa_cons (se_call (d_wave_product T) hr (by omega) tkE rfl (sa_cons (se_var 2 (pv 2)) (sa_cons (se_var 1 (pv 1)) sa_nil)) rfl (len_cons (len_cons len_nil))) (sa_cons (se_call (d_wave_product T) hr (by omega) tkE rfl (sa_cons (se_var 4 (pv 4)) (sa_cons (se_var 3 (pv 3)) sa_nil)) rfl (len_cons (len_cons len_nil))) (sa_cons (se_call (d_wave_product T) hr (by omega) tkE rfl (sa_cons (se_var 1 (pv 1)) (sa_cons (se_call (d_wave_product T) hr (by omega) tkE rfl (sa_cons (se_var 2 (pv 2)) (sa_cons (se_var 3 (pv 3)) sa_nil)) rfl (len_cons (len_cons len_nil))) sa_nil)) rfl (len_cons (len_cons len_nil))) sa_nil))))))
    (ss_cons (ss_setN 6 sc.nd (se_call (d__law_put T) hr (by omega) tkE rfl (sa_cons (se_mul rfl (se_ix rfl (se_var 4 (pv 4)) se_int) (se_ix rfl (se_var 3 (pv 3)) se_int)) (sa_cons (se_add rfl (se_ix rfl (se_var 4 (pv 4)) se_int) (se_ix rfl (se_var 3 (pv 3)) se_int)) sa_nil)) rfl (len_cons (len_cons len_nil))))
    (ss_cons (ss_if (st_not (st_tru rfl (se_call (d__law_like T 12) hr (by omega) tkE rfl (sa_cons (se_var 5 (pv 5)) (sa_cons (se_lst (sa_cons (se_var 4 (pv 4)) (sa_cons (se_var 4 (pv 4)) (sa_cons (se_var 6 (pv 6)) (sa_cons (se_var 6 (pv 6)) sa_nil))))) sa_nil)) rfl (len_cons (len_cons len_nil))))) (ss_one (ss_ret se_bl)) ss_nil)
    (ss_cons (ss_setN 7 sc.nd (se_call (d__law_put T) hr (by omega) tkE rfl (sa_cons (se_ix rfl (se_var 1 (pv 1)) se_int) (sa_cons (se_sub se_int (se_ix rfl (se_var 1 (pv 1)) se_int)) sa_nil)) rfl (len_cons (len_cons len_nil))))
    (ss_cons (ss_setN 5 sc.nd (se_lst (sa_cons (se_call (d_wave_back T) hr (by omega) tkE rfl (sa_cons (se_var 1 (pv 1)) sa_nil) rfl (len_cons len_nil)) (sa_cons (se_call (d_wave_back T) hr (by omega) tkE rfl (sa_cons (se_var 7 (pv 7)) sa_nil) rfl (len_cons len_nil)) (sa_cons (se_call (d_wave_product T) hr (by omega) tkE rfl (sa_cons (se_var 1 (pv 1)) (sa_cons (se_var 7 (pv 7)) sa_nil)) rfl (len_cons (len_cons len_nil))) (sa_cons (se_call (d_wave_back T) hr (by omega) tkE rfl (sa_cons (se_var 4 (pv 4)) sa_nil) rfl (len_cons len_nil)) sa_nil))))))
    (ss_cons (ss_if (st_not (st_tru rfl (se_call (d__law_like T 12) hr (by omega) tkE rfl (sa_cons (se_var 5 (pv 5)) (sa_cons (se_lst (sa_cons (se_var 7 (pv 7)) (sa_cons (se_var 1 (pv 1)) (sa_cons (se_call (d__law_put T) hr (by omega) tkE rfl (sa_cons (se_mul rfl (se_ix rfl (se_var 1 (pv 1)) se_int) (se_ix rfl (se_var 1 (pv 1)) se_int)) (sa_cons se_int sa_nil)) rfl (len_cons (len_cons len_nil))) (sa_cons (se_call (d_wave_product T) hr (by omega) tkE rfl (sa_cons (se_var 7 (pv 7)) (sa_cons (se_call (d_wave_back T) hr (by omega) tkE rfl (sa_cons (se_var 2 (pv 2)) sa_nil) rfl (len_cons len_nil)) sa_nil)) rfl (len_cons (len_cons len_nil))) sa_nil))))) sa_nil)) rfl (len_cons (len_cons len_nil))))) (ss_one (ss_ret se_bl)) ss_nil)
    (ss_cons (ss_par rfl sc.nd rfl rfl (by decide) rfl rfl (sa_cons (se_call (d__law_roll T) hr (by omega) tkE rfl (sa_cons (se_var 0 (pv 0)) (sa_cons se_int sa_nil)) rfl (len_cons (len_cons len_nil))) (sa_cons (se_tup (sa_cons se_int (sa_cons se_int sa_nil))) sa_nil)))
    (ss_cons (ss_for psE rfl (si_rg1 rfl T.n_range (sa_cons (se_var 8 (pv 8)) sa_nil)) (sg_n 10 sc.nd) (ss_one (ss_setN 9 sc.nd (se_call (d__law_put T) hr (by omega) tkE rfl (sa_cons (se_mul rfl (se_ix rfl (se_var 9 (pv 9)) se_int) (se_ix rfl (se_var 1 (pv 1)) se_int)) (sa_cons (se_add rfl (se_ix rfl (se_var 9 (pv 9)) se_int) (se_ix rfl (se_var 1 (pv 1)) se_int)) sa_nil)) rfl (len_cons (len_cons len_nil))))))
    (ss_cons (ss_if (st_not (st_tru rfl (se_call (d__law_like T 12) hr (by omega) tkE rfl (sa_cons (se_lst (sa_cons (se_call (d_wave_power T) hr (by omega) tkE rfl (sa_cons (se_var 1 (pv 1)) (sa_cons (se_var 8 (pv 8)) sa_nil)) rfl (len_cons (len_cons len_nil))) (sa_cons (se_call (d_wave_power T) hr (by omega) tkE rfl (sa_cons (se_var 1 (pv 1)) (sa_cons (se_add rfl (se_var 8 (pv 8)) se_int) sa_nil)) rfl (len_cons (len_cons len_nil))) sa_nil))) (sa_cons (se_lst (sa_cons (se_var 9 (pv 9)) (sa_cons (se_call (d_wave_product T) hr (by omega) tkE rfl (sa_cons (se_var 9 (pv 9)) (sa_cons (se_var 1 (pv 1)) sa_nil)) rfl (len_cons (len_cons len_nil))) sa_nil))) sa_nil)) rfl (len_cons (len_cons len_nil))))) (ss_one (ss_ret se_bl)) ss_nil)
    (ss_cons (ss_setN 11 sc.nd (se_lst (sa_cons (se_var 1 (pv 1)) (sa_cons (se_callTy (bf_list rfl) rfl T.n_list bo_list (sa_cons (se_var 1 (pv 1)) sa_nil)) (sa_cons (se_add rfl (se_var 1 (pv 1)) (se_tup (sa_cons se_int sa_nil))) (sa_cons (se_slice rfl (se_var 1 (pv 1)) so_none (so_some se_int)) (sa_cons (se_tup (sa_cons (se_ix rfl (se_var 1 (pv 1)) se_int) (sa_cons se_int sa_nil))) (sa_cons (se_tup (sa_cons (se_ix rfl (se_var 1 (pv 1)) se_int) (sa_cons (se_neg se_int) sa_nil))) (sa_cons (se_tup (sa_cons (se_sub (se_neg (se_ix rfl (se_var 1 (pv 1)) se_int)) se_int) (sa_cons se_int sa_nil))) (sa_cons (se_tup (sa_cons (se_ix rfl (se_var 1 (pv 1)) se_int) (sa_cons se_non sa_nil))) (sa_cons (se_tup (sa_cons se_bl (sa_cons se_int sa_nil))) (sa_cons (se_tup (sa_cons (se_ix rfl (se_var 1 (pv 1)) se_int) (sa_cons se_bl sa_nil))) (sa_cons se_non (sa_cons (se_tup (sa_cons se_int (sa_cons se_int sa_nil))) sa_nil))))))))))))))
    (ss_one (ss_ret (se_call (d__law_like T 12) hr (by omega) tkE rfl (sa_cons (se_lc (own := [("value", 12)]) rfl sc.nd (si_seq rfl (se_var 11 (pv 11))) (blkOk_by (N := ["cup", "one", "other", "third", "both", "told", "whole", "back", "many", "found", "turn", "values", "value"]) (sc := defScope s__law_right) (by decide +kernel)) (fun _ _ _ _ _ => (sc_n 12 sc.nd)) (fun _ _ _ _ _ => sts_nil) (fun _ _ _ _ _ => (se_call (d_is_wave_number T) hr (by omega) tk0 rfl (sa_cons (se_var 12 (pv 12)) sa_nil) rfl (len_cons len_nil)))) (sa_cons (se_add rfl (se_lst (sa_cons se_bl sa_nil)) (se_mul rfl (se_lst (sa_cons se_bl sa_nil)) se_int)) sa_nil)) rfl (len_cons (len_cons len_nil)))))))))))))))))
theorem sc__law_error : FnScope ["call", "e"] ["call"] (defScope s__law_error) := ⟨rfl, rfl, rfl, by decide +kernel, rfl, by decide +kernel, by decide +kernel⟩
def ms__law_error (av : Addr) (ec : Str) : MS :=
    (mRet (mIf (mTru (mCall (fIsE av subT ec) (mCons (mVar 1) (mCons (mC (.glo "InvalidNumber")) mNil)))) (mC (.str "number")) (mC (.str "other"))))
def mr__law_error : MS :=
    (mRet (mC (.str "none")))
def wd__law_error (ec : Str) : M D := suiM 2 1 ms__law_error 0 ec
def m__law_error : M D → M D := tryM (fun c => subT c "FormError") wd__law_error (rstM 2 mr__law_error)
theorem t__law_error (T : Tx K mg base tb) : ThkOk P w K mg base (gx K mg tb) "_law_error" m__law_error := by
  have sc := sc__law_error
  obtain ⟨ca, gca, _⟩ := T.e_FormError.ex
  refine thk_ok (Ng := ["call", "e"]) (i := 1) (sub := subT) (ms := ms__law_error) (mr := mr__law_error) T.f__law_error sc rfl (.inl rfl) (by decide) (by decide) (fun _ _ _ _ _ _ us hl => match us, hl with | [_], _ => rfl) rfl rfl sc.nd rfl rfl (by decide) rfl (by decide) gca T.sub (fun cdv fa A outer s H E ec C av oe pn hC hz hf => ?_) (fun av ec S => ?_) (fun cdv fa A outer s H E => ?_)
  · exact (ss_one (ss_ret (se_if (st_tru rfl (se_callB (bf_isE rfl rfl T.sub hC hz hf) rfl T.n_isinstance bo_isinstance (sa_cons (se_var 1 (pv 1)) (sa_cons (se_cls rfl T.e_InvalidNumber) sa_nil)))) se_str se_str)))
  · (simp [wd__law_error, ms__law_error, suiM, mSeq, mAsg, mRet, mIfS, mIf, mPick, mMeth, mCall, mCons, mNil, mVar, mC, m2, mTru, gN, bnd, ret, fIsE, fTup, fLst]) <;> (
    cases subT ec "InvalidNumber" with
    | none => rfl
    | some b =>
      rfl)
  · exact (ss_one (ss_ret se_str))
theorem sc__law_written_right : FnScope ["told", "due"] [] (defScope s__law_written_right) := ⟨rfl, rfl, rfl, by decide +kernel, rfl, by decide +kernel, by decide +kernel⟩
def bd__law_written_right : MS :=
    (mSeq (mAsg (mCall fLst (mCons (mCall m_is_wave_number (mCons (mCall fTup (mCons (mC (.int 2)) (mCons (mC (.int 1)) mNil))) mNil)) (mCons (mCall m_is_wave_number (mCons (mCall fTup (mCons (mC (.int 0)) (mCons (mC (.int 1)) mNil))) mNil)) (mCons (mCall m_is_wave_number (mCons (mCall fTup (mCons (mC (.int 2)) (mCons (mC (.int 8)) mNil))) mNil)) (mCons (mCall m_wave_product (mCons (mCall fTup (mCons (mC (.int 2)) (mCons (mC (.int 1)) mNil))) (mCons (mCall fTup (mCons (mC (.int 3)) (mCons (mC (.int 7)) mNil))) mNil))) (mCons (mCall m_wave_product (mCons (mCall fTup (mCons (mC (.int 0)) (mCons (mC (.int 0)) mNil))) (mCons (mCall fTup (mCons (mC (.int 3)) (mCons (mC (.int 7)) mNil))) mNil))) mNil)))))) (gN 0))
    (mSeq (mAsg (mCall fLst (mCons (mC (.bl true)) (mCons (mC (.bl false)) (mCons (mC (.bl false)) (mCons (mCall fTup (mCons (mC (.int 6)) (mCons (mC (.int 0)) mNil))) (mCons (mCall fTup (mCons (mC (.int 0)) (mCons (mC (.int 0)) mNil))) mNil)))))) (gN 1))
    (mSeq (mAsg (m2 fAdd (mVar 0) (mCall fLst (mCons (mCall m_wave_back (mCons (mCall fTup (mCons (mC (.int 2)) (mCons (mC (.int 1)) mNil))) mNil)) (mCons (mCall m_wave_back (mCons (mCall fTup (mCons (mC (.int 5)) (mCons (mC (.int 0)) mNil))) mNil)) (mCons (mCall m_wave_power (mCons (mCall fTup (mCons (mC (.int 2)) (mCons (mC (.int 1)) mNil))) (mCons (mC (.int 4)) mNil))) (mCons (mCall m_wave_power (mCons (mCall fTup (mCons (mC (.int 3)) (mCons (mC (.int 5)) mNil))) (mCons (mC (.int 0)) mNil))) (mCons (mCall m_wave_back (mCons (mCall fTup (mCons (mC (.int 0)) (mCons (mC (.int 0)) mNil))) mNil)) (mCons (mCall m_wave_power (mCons (mCall fTup (mCons (mC (.int 0)) (mCons (mC (.int 0)) mNil))) (mCons (mC (.int 0)) mNil))) mNil)))))))) (gN 0))
    (mSeq (mAsg (m2 fAdd (mVar 1) (mCall fLst (mCons (mCall fTup (mCons (mC (.int 2)) (mCons (mC (.int 7)) mNil))) (mCons (mCall fTup (mCons (mC (.int 5)) (mCons (mC (.int 0)) mNil))) (mCons (mCall fTup (mCons (mC (.int 16)) (mCons (mC (.int 4)) mNil))) (mCons (mCall fTup (mCons (mC (.int 1)) (mCons (mC (.int 0)) mNil))) (mCons (mCall fTup (mCons (mC (.int 0)) (mCons (mC (.int 0)) mNil))) (mCons (mCall fTup (mCons (mC (.int 1)) (mCons (mC (.int 0)) mNil))) mNil)))))))) (gN 1))
    (mSeq (mAsg (m2 fAdd (mVar 0) (mCall fLst (mCons (mCall m_wave_power (mCons (mCall fTup (mCons (mC (.int 2)) (mCons (mC (.int 1)) mNil))) (mCons (mC (.int 8)) mNil))) (mCons (mCall m_wave_power (mCons (mCall fTup (mCons (mC (.int 1)) (mCons (mC (.int 3)) mNil))) (mCons (mC (.int 60)) mNil))) (mCons (mCall m_wave_product (mCons (mCall fTup (mCons (mC (.int 1)) (mCons (mC (.int 5)) mNil))) (mCons (mCall fTup (mCons (mC (.int 1)) (mCons (mC (.int 6)) mNil))) mNil))) (mCons (mCall m_is_wave_number (mCons (mCall fTup (mCons (mC (.int 0)) (mCons (mC (.int 0)) mNil))) mNil)) (mCons (mCall m_is_wave_number (mCons (mCall fTup (mCons (mC (.int 1)) (mCons (mC (.int 7)) mNil))) mNil)) mNil))))))) (gN 0))
    (mRet (mCall (m__law_like 12) (mCons (mVar 0) (mCons (m2 fAdd (mVar 1) (mCall fLst (mCons (mCall fTup (mCons (mC (.int 256)) (mCons (mC (.int 0)) mNil))) (mCons (mCall fTup (mCons (mC (.int 1)) (mCons (mC (.int 4)) mNil))) (mCons (mCall fTup (mCons (mC (.int 1)) (mCons (mC (.int 3)) mNil))) (mCons (mC (.bl true)) (mCons (mC (.bl true)) mNil))))))) mNil)))))))))
def m__law_written_right : List D → M D := mDef 0 2 bd__law_written_right
theorem d__law_written_right (T : Tx K mg base tb) : DefOk P w K mg base (gx K mg tb) 15 "_law_written_right" m__law_written_right 0 :=
  have sc := sc__law_written_right
  def_ok (N := ["told", "due"]) (ps := []) (k := 14) (np := 0) (st := s__law_written_right) (b := bd__law_written_right) T.f__law_written_right sc rfl (fun _ _ _ _ _ _ us hl => match us, hl with | [], _ => rfl) fun f cdv A outer s H E hr =>
    (ss_cons (ss_setN 0 sc.nd (se_lst (sa_cons (se_call (d_is_wave_number T) hr (by omega) tkE rfl (sa_cons (se_tup (sa_cons se_int (sa_cons se_int sa_nil))) sa_nil) rfl (len_cons len_nil)) (sa_cons (se_call (d_is_wave_number T) hr (by omega) tkE rfl (sa_cons (se_tup (sa_cons se_int (sa_cons se_int sa_nil))) sa_nil) rfl (len_cons len_nil)) (sa_cons (se_call (d_is_wave_number T) hr (by omega) tkE rfl (sa_cons (se_tup (sa_cons se_int (sa_cons se_int sa_nil))) sa_nil) rfl (len_cons len_nil)) (sa_cons (se_call (d_wave_product T) hr (by omega) tkE rfl (sa_cons (se_tup (sa_cons se_int (sa_cons se_int sa_nil))) (sa_cons (se_tup (sa_cons se_int (sa_cons se_int sa_nil))) sa_nil)) rfl (len_cons (len_cons len_nil))) (sa_cons (se_call (d_wave_product T) hr (by omega) tkE rfl (sa_cons (se_tup (sa_cons se_int (sa_cons se_int sa_nil))) (sa_cons (se_tup (sa_cons se_int (sa_cons se_int sa_nil))) sa_nil)) rfl (len_cons (len_cons len_nil))) sa_nil)))))))
    (ss_cons (ss_setN 1 sc.nd (se_lst (sa_cons se_bl (sa_cons se_bl (sa_cons se_bl (sa_cons (se_tup (sa_cons se_int (sa_cons se_int sa_nil))) (sa_cons (se_tup (sa_cons se_int (sa_cons se_int sa_nil))) sa_nil)))))))
    (ss_cons (ss_setN 0 sc.nd (se_add rfl (se_var 0 (pv 0)) (se_lst (sa_cons (se_call (d_wave_back T) hr (by omega) tkE rfl (sa_cons (se_tup (sa_cons se_int (sa_cons se_int sa_nil))) sa_nil) rfl (len_cons len_nil)) (sa_cons (se_call (d_wave_back T) hr (by omega) tkE rfl (sa_cons (se_tup (sa_cons se_int (sa_cons se_int sa_nil))) sa_nil) rfl (len_cons len_nil)) (sa_cons (se_call (d_wave_power T) hr (by omega) tkE rfl (sa_cons (se_tup (sa_cons se_int (sa_cons se_int sa_nil))) (sa_cons se_int sa_nil)) rfl (len_cons (len_cons len_nil))) (sa_cons (se_call (d_wave_power T) hr (by omega) tkE rfl (sa_cons (se_tup (sa_cons se_int (sa_cons se_int sa_nil))) (sa_cons se_int sa_nil)) rfl (len_cons (len_cons len_nil))) (sa_cons (se_call (d_wave_back T) hr (by omega) tkE rfl (sa_cons (se_tup (sa_cons se_int (sa_cons se_int sa_nil))) sa_nil) rfl (len_cons len_nil)) (sa_cons (se_call (d_wave_power T) hr (by omega) tkE rfl (sa_cons (se_tup (sa_cons se_int (sa_cons se_int sa_nil))) (sa_cons se_int sa_nil)) rfl (len_cons (len_cons len_nil))) sa_nil)))))))))
    (ss_cons (ss_setN 1 sc.nd (se_add rfl (se_var 1 (pv 1)) (se_lst (sa_cons (se_tup (sa_cons se_int (sa_cons se_int sa_nil))) (sa_cons (se_tup (sa_cons se_int (sa_cons se_int sa_nil))) (sa_cons (se_tup (sa_cons se_int (sa_cons se_int sa_nil))) (sa_cons (se_tup (sa_cons se_int (sa_cons se_int sa_nil))) (sa_cons (se_tup (sa_cons se_int (sa_cons se_int sa_nil))) (sa_cons (se_tup (sa_cons se_int (sa_cons se_int sa_nil))) sa_nil)))))))))
    (ss_cons (ss_setN 0 sc.nd (se_add rfl (se_var 0 (pv 0)) (se_lst (sa_cons (se_call (d_wave_power T) hr (by omega) tkE rfl (sa_cons (se_tup (sa_cons se_int (sa_cons se_int sa_nil))) (sa_cons se_int sa_nil)) rfl (len_cons (len_cons len_nil))) (sa_cons (se_call (d_wave_power T) hr (by omega) tkE rfl (sa_cons (se_tup (sa_cons se_int (sa_cons se_int sa_nil))) (sa_cons se_int sa_nil)) rfl (len_cons (len_cons len_nil))) (sa_cons (se_call (d_wave_product T) hr (by omega) tkE rfl (sa_cons (se_tup (sa_cons se_int (sa_cons se_int sa_nil))) (sa_cons (se_tup (sa_cons se_int (sa_cons se_int sa_nil))) sa_nil)) rfl (len_cons (len_cons len_nil))) (sa_cons (se_call (d_is_wave_number T) hr (by omega) tkE rfl (sa_cons (se_tup (sa_cons se_int (sa_cons se_int sa_nil))) sa_nil) rfl (len_cons len_nil)) (sa_cons (se_call (d_is_wave_number T) hr (by omega) tkE rfl (sa_cons (se_tup (sa_cons se_int (sa_cons se_int sa_nil))) sa_nil) rfl (len_cons len_nil)) sa_nil))))))))
    (ss_one (ss_ret (se_call (d__law_like T 12) hr (by omega) tkE rfl (sa_cons (se_var 0 (pv 0)) (sa_cons (se_add rfl (se_var 1 (pv 1)) (se_lst (sa_cons (se_tup (sa_cons se_int (sa_cons se_int sa_nil))) (sa_cons (se_tup (sa_cons se_int (sa_cons se_int sa_nil))) (sa_cons (se_tup (sa_cons se_int (sa_cons se_int sa_nil))) (sa_cons se_bl (sa_cons se_bl sa_nil))))))) sa_nil)) rfl (len_cons (len_cons len_nil))))))))))
theorem sc__law_great_right : FnScope ["cup", "great", "told"] ["cup"] (defScope s__law_great_right) := ⟨rfl, rfl, rfl, by decide +kernel, rfl, by decide +kernel, by decide +kernel⟩
def bd__law_great_right : MS :=
    (mSeq (mAsg (m2 fSub (mCall fIntS (mCons (m2 fMulS (mC (.str "7")) (mC (.int 4000))) mNil)) (mCall m__law_roll (mCons (mVar 0) (mCons (mC (.int 90)) mNil)))) (gN 1))
    (mSeq (mAsg (mCall fLst (mCons (mCall m_is_wave_number (mCons (mCall fTup (mCons (mVar 1) (mCons (mC (.int 3)) mNil))) mNil)) (mCons (mCall m_wave_back (mCons (mCall fTup (mCons (mVar 1) (mCons (mC (.int 3)) mNil))) mNil)) (mCons (mCall m_wave_product (mCons (mCall fTup (mCons (mVar 1) (mCons (mC (.int 3)) mNil))) (mCons (mCall fTup (mCons (mVar 1) (mCons (mC (.int 6)) mNil))) mNil))) (mCons (m2 fIx (mCall m_wave_power (mCons (mCall fTup (mCons (m2 fPow (mC (.int 10)) (mC (.int 60))) (mCons (mC (.int 1)) mNil))) (mCons (mC (.int 60)) mNil))) (mC (.int 1))) mNil))))) (gN 2))
    (mRet (mCall (m__law_like 12) (mCons (mVar 2) (mCons (mCall fLst (mCons (mC (.bl true)) (mCons (mCall fTup (mCons (mVar 1) (mCons (mC (.int 5)) mNil))) (mCons (mCall fTup (mCons (m2 fMul (mVar 1) (mVar 1)) (mCons (mC (.int 1)) mNil))) (mCons (mC (.int 4)) mNil))))) mNil))))))
def m__law_great_right : List D → M D := mDef 1 3 bd__law_great_right
theorem d__law_great_right (T : Tx K mg base tb) : DefOk P w K mg base (gx K mg tb) 15 "_law_great_right" m__law_great_right 1 :=
  have sc := sc__law_great_right
  def_ok (N := ["cup", "great", "told"]) (ps := ["cup"]) (k := 14) (np := 1) (st := s__law_great_right) (b := bd__law_great_right) T.f__law_great_right sc rfl (fun _ _ _ _ _ _ us hl => match us, hl with | [_], _ => rfl) fun f cdv A outer s H E hr =>
    (ss_cons (ss_setN 1 sc.nd (se_sub (se_callTy (bf_intS T.digits) rfl T.n_int bo_int (sa_cons (se_mulS rfl se_str se_int) sa_nil)) (se_call (d__law_roll T) hr (by omega) tkE rfl (sa_cons (se_var 0 (pv 0)) (sa_cons se_int sa_nil)) rfl (len_cons (len_cons len_nil)))))
    (ss_cons (ss_setN 2 sc.nd (se_lst (sa_cons (se_call (d_is_wave_number T) hr (by omega) tkE rfl (sa_cons (se_tup (sa_cons (se_var 1 (pv 1)) (sa_cons se_int sa_nil))) sa_nil) rfl (len_cons len_nil)) (sa_cons (se_call (d_wave_back T) hr (by omega) tkE rfl (sa_cons (se_tup (sa_cons (se_var 1 (pv 1)) (sa_cons se_int sa_nil))) sa_nil) rfl (len_cons len_nil)) (sa_cons (se_call (d_wave_product T) hr (by omega) tkE rfl (sa_cons (se_tup (sa_cons (se_var 1 (pv 1)) (sa_cons se_int sa_nil))) (sa_cons (se_tup (sa_cons (se_var 1 (pv 1)) (sa_cons se_int sa_nil))) sa_nil)) rfl (len_cons (len_cons len_nil))) (sa_cons (se_ix rfl (se_call (d_wave_power T) hr (by omega) tkE rfl (sa_cons (se_tup (sa_cons (se_pow se_int se_int) (sa_cons se_int sa_nil))) (sa_cons se_int sa_nil)) rfl (len_cons (len_cons len_nil))) se_int) sa_nil))))))
    (ss_one (ss_ret (se_call (d__law_like T 12) hr (by omega) tkE rfl (sa_cons (se_var 2 (pv 2)) (sa_cons (se_lst (sa_cons se_bl (sa_cons (se_tup (sa_cons (se_var 1 (pv 1)) (sa_cons se_int sa_nil))) (sa_cons (se_tup (sa_cons (se_mul rfl (se_var 1 (pv 1)) (se_var 1 (pv 1))) (sa_cons se_int sa_nil))) (sa_cons se_int sa_nil))))) sa_nil)) rfl (len_cons (len_cons len_nil)))))))
theorem sc__law_errors_right : FnScope ["words", "good", "odd", "call"] [] (defScope s__law_errors_right) := ⟨rfl, rfl, rfl, by decide +kernel, rfl, by decide +kernel, by decide +kernel⟩
def bd__law_errors_right : MS :=
    (mSeq (mAsg (mCall fTup (mCons (mCall fNew mNil) (mCons (mCall fTup (mCons (mC (.int 2)) (mCons (mC (.int 1)) mNil))) mNil))) (gTupD 2 (gsCons (gN 0) (gsCons (gN 1) gsNil))))
    (mSeq (mFor (mIt itS (mCall fTup (mCons (mC .non) (mCons (mCall fTup mNil) (mCons (mCall fTup (mCons (mC (.int 2)) mNil)) (mCons (mCall fTup (mCons (mC (.int 2)) (mCons (mC (.int 8)) mNil))) (mCons (mCall fTup (mCons (mC (.int 2)) (mCons (m1 fNeg (mC (.int 1))) mNil))) (mCons (mCall fTup (mCons (m1 fNeg (mC (.int 2))) (mCons (mC (.int 1)) mNil))) (mCons (mCall fTup (mCons (mC (.int 0)) (mCons (mC (.int 1)) mNil))) (mCons (mCall fLst (mCons (mC (.int 2)) (mCons (mC (.int 1)) mNil))) (mCons (mCall fTup (mCons (mC (.int 2)) (mCons (mC (.int 1)) (mCons (mC (.int 0)) mNil)))) (mCons (mCall fTup (mCons (mC (.bl true)) (mCons (mC (.int 1)) mNil))) (mCons (mCall fTup (mCons (mC (.int 2)) (mCons (mC (.bl true)) mNil))) (mCons (mCall fTup (mCons (mC (.str "2")) (mCons (mC (.int 1)) mNil))) (mCons (mC (.int 2)) mNil))))))))))))))) (gN 2) (mSeq (mExpr (mMethL fAppend (mVar 0) (mCons (mThk m__law_error (mCall m_wave_back (mCons (mVar 2) mNil))) mNil)))
    (mSeq (mAsg (m2 fAddN (mVar 0) (mLc (mIt itS (mCall fTup (mCons (mC (.glo "wave_product")) (mCons (mC (.glo "wave_power")) mNil)))) (gN 3) mYes (mThk m__law_error (mCallV [("wave_product", m_wave_product), ("wave_power", m_wave_power)] 3 (mCons (mVar 2) (mCons (mC .non) mNil)))) [3])) (gN 0))
    (mExpr (mMethL fAppend (mVar 0) (mCons (mThk m__law_error (mCall m_wave_product (mCons (mVar 1) (mCons (mVar 2) mNil)))) mNil))))))
    (mSeq (mAsg (m2 fAddN (mVar 0) (mLc (mIt itS (mCall fTup (mCons (mC .non) (mCons (m1 fNeg (mC (.int 1))) (mCons (mC (.int 61)) (mCons (mC (.bl true)) (mCons (mC (.str "2")) (mCons (mCall fTup (mCons (mC (.int 1)) mNil)) mNil)))))))) (gN 2) mYes (mThk m__law_error (mCall m_wave_power (mCons (mVar 1) (mCons (mVar 2) mNil)))) [2])) (gN 0))
    (mRet (m2 (fEqR false) (mVar 0) (m2 fMul (mCall fLst (mCons (mC (.str "number")) mNil)) (mC (.int 58))))))))
def m__law_errors_right : List D → M D := mDef 0 4 bd__law_errors_right
theorem d__law_errors_right (T : Tx K mg base tb) : DefOk P w K mg base (gx K mg tb) 7 "_law_errors_right" m__law_errors_right 0 :=
  have sc := sc__law_errors_right
  def_okL (N := ["words", "good", "odd", "call"]) (ps := []) (k := 6) (np := 0) (st := s__law_errors_right) (b := bd__law_errors_right) T.l__law_errors_right sc rfl (fun _ _ _ _ _ _ us hl => match us, hl with | [], _ => rfl) fun f cdv A outer s H E LD hr =>
    (ss_cons (ss_asg (se_tup (sa_cons (se_new sa_nil) (sa_cons (se_tup (sa_cons se_int (sa_cons se_int sa_nil))) sa_nil))) (sg_tup rfl rfl (sgs_cons (sg_n 0 sc.nd) (sgs_cons (sg_n 1 sc.nd) sgs_nil))))
    (ss_cons (ss_for psE rfl (si_seq rfl (se_tup (sa_cons se_non (sa_cons (se_tup sa_nil) (sa_cons (se_tup (sa_cons se_int sa_nil)) (sa_cons (se_tup (sa_cons se_int (sa_cons se_int sa_nil))) (sa_cons (se_tup (sa_cons se_int (sa_cons (se_neg se_int) sa_nil))) (sa_cons (se_tup (sa_cons (se_neg se_int) (sa_cons se_int sa_nil))) (sa_cons (se_tup (sa_cons se_int (sa_cons se_int sa_nil))) (sa_cons (se_lst (sa_cons se_int (sa_cons se_int sa_nil))) (sa_cons (se_tup (sa_cons se_int (sa_cons se_int (sa_cons se_int sa_nil)))) (sa_cons (se_tup (sa_cons se_bl (sa_cons se_int sa_nil))) (sa_cons (se_tup (sa_cons se_int (sa_cons se_bl sa_nil))) (sa_cons (se_tup (sa_cons se_str (sa_cons se_int sa_nil))) (sa_cons se_int sa_nil))))))))))))))) (sg_n 2 sc.nd) (ss_cons (ss_expr (se_append rfl (se_var 0 (pv 0)) (sa_cons (se_thk (t__law_error T) rfl LD tkE hr (lamS_by (sc := defScope s__law_errors_right) (by decide +kernel)) rfl (fun _ _ _ _ _ => rfl) (fun A outer s H E f c hr => (se_call (d_wave_back T) hr (by omega) tkL rfl (sa_cons (se_var 2 (pv 2)) sa_nil) rfl (len_cons len_nil)))) sa_nil)))
    (ss_cons (ss_setN 0 sc.nd (se_addN (se_var 0 (pv 0)) (se_lc (own := [("call", 3)]) rfl sc.nd (si_seq rfl (se_tup (sa_cons (se_glo2 rfl T.f_wave_product) (sa_cons (se_glo2 rfl T.f_wave_power) sa_nil)))) (blkOk_by (N := ["words", "good", "odd", "call"]) (sc := defScope s__law_errors_right) (by decide +kernel)) (fun _ _ _ _ _ => (sc_n 3 sc.nd)) (fun _ _ _ _ _ => sts_nil) (fun _ _ _ _ _ => (se_thk (t__law_error T) rfl LD tk0 hr (lamS_by (by kernel_rfl)) rfl (fun _ _ _ _ _ => rfl) (fun A outer s H E f c hr => (se_callV 3 (np := 2) (k := 4) (.cons ((d_wave_product T).mono (by omega)) (.cons ((d_wave_power T).mono (by omega)) .nil)) rfl hr (by omega) tkL (sa_cons (se_var 2 (pv 2)) (sa_cons se_non sa_nil)) rfl (len_cons (len_cons len_nil)))))))))
    (ss_one (ss_expr (se_append rfl (se_var 0 (pv 0)) (sa_cons (se_thk (t__law_error T) rfl LD tkE hr (lamS_by (sc := defScope s__law_errors_right) (by decide +kernel)) rfl (fun _ _ _ _ _ => rfl) (fun A outer s H E f c hr => (se_call (d_wave_product T) hr (by omega) tkL rfl (sa_cons (se_var 1 (pv 1)) (sa_cons (se_var 2 (pv 2)) sa_nil)) rfl (len_cons (len_cons len_nil))))) sa_nil)))))))
    (ss_cons (ss_setN 0 sc.nd (se_addN (se_var 0 (pv 0)) (se_lc (own := [("odd", 2)]) rfl sc.nd (si_seq rfl (se_tup (sa_cons se_non (sa_cons (se_neg se_int) (sa_cons se_int (sa_cons se_bl (sa_cons se_str (sa_cons (se_tup (sa_cons se_int sa_nil)) sa_nil)))))))) (blkOk_by (N := ["words", "good", "odd", "call"]) (sc := defScope s__law_errors_right) (by decide +kernel)) (fun _ _ _ _ _ => (sc_n 2 sc.nd)) (fun _ _ _ _ _ => sts_nil) (fun _ _ _ _ _ => (se_thk (t__law_error T) rfl LD tk0 hr (lamS_by (by kernel_rfl)) rfl (fun _ _ _ _ _ => rfl) (fun A outer s H E f c hr => (se_call (d_wave_power T) hr (by omega) tkL rfl (sa_cons (se_var 1 (pv 1)) (sa_cons (se_var 2 (pv 2)) sa_nil)) rfl (len_cons (len_cons len_nil)))))))))
    (ss_one (ss_ret (se_cmp (cmp_eqR rfl hr.units) (se_var 0 (pv 0)) (se_mul rfl (se_lst (sa_cons se_str sa_nil)) se_int)))))))
theorem sc_law : FnScope ["script", "cup", "turn"] ["script"] (defScope s_law) := ⟨rfl, rfl, rfl, by decide +kernel, rfl, by decide +kernel, by decide +kernel⟩
def bd_law : MS :=
    (mSeq (mIfS (mOr (mNot (mTru (mCall m__law_written_right mNil))) (mNot (mTru (mCall m__law_errors_right mNil)))) (mRet (mC (.bl false))) mSkip)
    (mSeq (mAsg (mCall m__law_cup (mCons (mVar 0) mNil)) (gN 1))
    (mSeq (mFor (mItN fRg1 (mCons (mC (.int 12)) mNil)) (gN 2) (mIfS (mNot (mTru (mCall m__law_right (mCons (mVar 1) mNil)))) (mRet (mC (.bl false))) mSkip))
    (mRet (mCall m__law_great_right (mCons (mVar 1) mNil))))))
def m_law : List D → M D := mDef 1 3 bd_law
theorem d_law (T : Tx K mg base tb) {fa : Addr} {fd : FuncData} (Fd : FunD K "law" "law" (defArgs s_law) (defBody s_law) (defScope s_law) [] [] fa fd) : FnOk P w K mg base (L2N.CX P w) 16 fa fd ["script"] (spM (gx K mg tb) m_law 1) :=
  have sc := sc_law
  fn_ok (N := ["script", "cup", "turn"]) (ps := ["script"]) (k := 15) (b := bd_law) Fd sc fun cdv A outer s H E hr =>
    (ss_cons (ss_if (PW.pt (sw_or (st_not (st_tru rfl (se_call0 (d__law_written_right T) hr (by omega) tkE ⟨_, rfl⟩ rfl))) (sw_or1 (st_not (st_tru rfl (se_call0 (d__law_errors_right T) hr (by omega) tkE ⟨_, rfl⟩ rfl)))))) (ss_one (ss_ret se_bl)) ss_nil)
    (ss_cons (ss_setN 1 sc.nd (se_call (d__law_cup T) hr (by omega) tkE rfl (sa_cons (se_var 0 (pv 0)) sa_nil) rfl (len_cons len_nil)))
    (ss_cons (ss_for psE rfl (si_rg1 rfl T.n_range (sa_cons se_int sa_nil)) (sg_n 2 sc.nd) (ss_one (ss_if (st_not (st_tru rfl (se_call (d__law_right T) hr (by omega) tkE rfl (sa_cons (se_var 1 (pv 1)) sa_nil) rfl (len_cons len_nil)))) (ss_one (ss_ret se_bl)) ss_nil)))
    (ss_one (ss_ret (se_call (d__law_great_right T) hr (by omega) tkE rfl (sa_cons (se_var 1 (pv 1)) sa_nil) rfl (len_cons len_nil)))))))
end
end Mir
set_option Elab.async false
set_option linter.all false
set_option maxRecDepth 100000
set_option maxHeartbeats 4000000
namespace Mir
open PySem
/-! ### data without a heap: likeness and equality with itself -/
mutual
def gd : Nat → D → Bool
  | _, .non => true
  | _, .bl _ => true
  | _, .int _ => true
  | _, .str x => PyData.strOk x
  | n, .tup ds => decide (ds.length ≤ 16777216) && gds n ds
  | n, .lst ds => decide (ds.length ≤ 16777216) && gds n ds
  | _, _ => false
def gds : Nat → List D → Bool
  | _, [] => true
  | 0, _ :: _ => false
  | n + 1, d :: r => gd n d && gds (n + 1) r
end
theorem gd_int (n : Nat) (i : Int) : gd n (.int i) = true := by
  unfold gd
  rfl
theorem gd_bl (n : Nat) (i : Bool) : gd n (.bl i) = true := by
  unfold gd
  rfl
theorem gd_non (n : Nat) : gd n .non = true := by
  unfold gd
  rfl
theorem gd_str (n : Nat) (x : Str) : gd n (.str x) = PyData.strOk x := by
  unfold gd
  rfl
theorem gd_tup (n : Nat) (ds : List D) : gd n (.tup ds) = (decide (ds.length ≤ 16777216) && gds n ds) := by
  conv => lhs; unfold gd
theorem gd_lst (n : Nat) (ds : List D) : gd n (.lst ds) = (decide (ds.length ≤ 16777216) && gds n ds) := by
  conv => lhs; unfold gd
theorem gds_nil (n : Nat) : gds n [] = true := by
  unfold gds
  rfl
theorem gds_cons (n : Nat) (d : D) (r : List D) : gds (n + 1) (d :: r) = (gd n d && gds (n + 1) r) := by
  conv => lhs; unfold gds
theorem gds_all {n : Nat} : ∀ {ds : List D}, (∀ d ∈ ds, gd n d = true) → gds (n + 1) ds = true
  | [], _ => gds_nil _
  | d :: r, h => by
    rw [gds_cons, h d List.mem_cons_self, gds_all fun x hx => h x (List.mem_cons_of_mem _ hx)]
    rfl
theorem gds_mem {n : Nat} : ∀ {ds : List D}, gds (n + 1) ds = true → ∀ d ∈ ds, gd n d = true
  | d :: r, h, x, hx => by
    rw [gds_cons, Bool.and_eq_true] at h
    rcases List.mem_cons.mp hx with rfl | hx
    · exact h.1
    · exact gds_mem h.2 x hx
theorem gd_tup_of {n : Nat} {ds : List D} (hl : ds.length ≤ 16777216) (h : ∀ d ∈ ds, gd n d = true) : gd (n + 1) (.tup ds) = true := by
  rw [gd_tup, gds_all h, decide_eq_true hl]
  rfl
theorem gd_lst_of {n : Nat} {ds : List D} (hl : ds.length ≤ 16777216) (h : ∀ d ∈ ds, gd n d = true) : gd (n + 1) (.lst ds) = true := by
  rw [gd_lst, gds_all h, decide_eq_true hl]
  rfl
mutual
theorem gd_eqs : ∀ (d : D) (n : Nat), gd n d = true → pur d = true ∧ (toP d).canLay0 = true ∧ (toP d).depth ≤ n + 1 ∧ PyData.eqv (toP d) (toP d) = true
  | .non, n, _ => by simp [pur, toP, PyData.canLay0, PyData.depth, PyData.eqv]
  | .bl _, n, _ => by simp [pur, toP, PyData.canLay0, PyData.depth, PyData.eqv]
  | .int _, n, _ => by simp [pur, toP, PyData.canLay0, PyData.depth, PyData.eqv]
  | .str x, n, h => by
    rw [gd_str] at h
    simp [pur, toP, PyData.canLay0, PyData.depth, PyData.eqv, h]
  | .tup ds, n, h => by
    rw [gd_tup, Bool.and_eq_true] at h
    have q := gds_eqs ds n h.2
    simp only [pur, toP, PyData.canLay0, PyData.depth, PyData.eqv]
    exact ⟨q.1, q.2.1, Nat.succ_le_succ q.2.2.1, q.2.2.2⟩
  | .lst ds, n, h => by
    rw [gd_lst, Bool.and_eq_true] at h
    have q := gds_eqs ds n h.2
    simp only [pur, toP, PyData.canLay0, PyData.depth, PyData.eqv]
    exact ⟨q.1, q.2.1, Nat.succ_le_succ q.2.2.1, q.2.2.2⟩
  | .ty _, n, h => by
    unfold gd at h
    cases h
  | .glo _, n, h => by
    unfold gd at h
    cases h
  | .ref _, n, h => by
    unfold gd at h
    cases h
  | .scr _, n, h => by
    unfold gd at h
    cases h
  | .raw _, n, h => by
    unfold gd at h
    cases h
theorem gds_eqs : ∀ (ds : List D) (n : Nat), gds n ds = true → purs ds = true ∧ PyData.canLayAll0 (toPs ds) = true ∧ PyData.depthAll (toPs ds) ≤ n ∧ PyData.eqvAll (toPs ds) (toPs ds) = true
  | [], n, _ => by simp [purs, toPs, PyData.canLayAll0, PyData.depthAll, PyData.eqvAll]
  | d :: r, 0, h => by
    unfold gds at h
    cases h
  | d :: r, n + 1, h => by
    rw [gds_cons, Bool.and_eq_true] at h
    obtain ⟨a1, a2, a3, a4⟩ := gd_eqs d n h.1
    obtain ⟨b1, b2, b3, b4⟩ := gds_eqs r (n + 1) h.2
    simp only [purs, toPs, PyData.canLayAll0, PyData.depthAll, PyData.eqvAll, a1, a2, a4, b1, b2, b4, Bool.and_self, true_and, and_true]
    omega
end
theorem eqs_of {n : Nat} {d : D} (h : gd n d = true) (hn : n ≤ 60) : eqs d = true := by
  obtain ⟨a1, a2, a3, _⟩ := gd_eqs d n h
  unfold eqs SeqAt.shaped
  rw [a1, a2, decide_eq_true (by omega)]
  rfl
theorem feq_self {n : Nat} {d : D} (h : gd n d = true) (hn : n ≤ 60) : fEq false d d = ret (.bl true) := by
  have e := eqs_of h hn
  have q := (gd_eqs d n h).2.2.2
  unfold fEq
  rw [if_pos ⟨e, e⟩, q]
  rfl
/-! ### rows of numbers -/
abbrev tupI (xs : List Int) : D := .tup (xs.map .int)
theorem gd_tupI (n : Nat) (xs : List Int) (hl : xs.length ≤ 16777216) : gd (n + 1) (tupI xs) = true := gd_tup_of (by simpa using hl) fun d hd => by
  obtain ⟨x, _, rfl⟩ := List.mem_map.mp hd
  exact gd_int _ _
theorem eqv_ints : ∀ xs ys : List Int, PyData.eqvAll (toPs (xs.map D.int)) (toPs (ys.map D.int)) = decide (xs = ys)
  | [], [] => by simp [toPs, PyData.eqvAll]
  | [], y :: ys => by simp [toPs, PyData.eqvAll]
  | x :: xs, [] => by simp [toPs, PyData.eqvAll]
  | x :: xs, y :: ys => by
    simp only [List.map_cons, toPs, toP, PyData.eqvAll, PyData.eqv, eqv_ints xs ys]
    by_cases h : x = y <;> simp [h]
theorem feq_tupI (xs ys : List Int) (hx : xs.length ≤ 16777216) (hy : ys.length ≤ 16777216) (neg : Bool) : fEq neg (tupI xs) (tupI ys) = ret (.bl (if neg then !decide (xs = ys) else decide (xs = ys))) := by
  have e : PyData.eqv (toP (tupI xs)) (toP (tupI ys)) = decide (xs = ys) := by
    simp only [toP, PyData.eqv]
    exact eqv_ints xs ys
  unfold fEq
  rw [if_pos ⟨eqs_of (gd_tupI 0 xs hx) (by omega), eqs_of (gd_tupI 0 ys hy) (by omega)⟩, e]
theorem feq_int (neg : Bool) (i j : Int) : fEq neg (.int i) (.int j) = ret (.bl (if neg then !decide (i = j) else decide (i = j))) := fEq_int neg i j
/-! ### numbers that stay small -/
def sm (k : Nat) (i : Int) : Prop := i.natAbs < 2 ^ k
theorem sm_mul {k l : Nat} {i j : Int} (a : sm k i) (b : sm l j) : sm (k + l) (i * j) := by
  unfold sm
  rw [Int.natAbs_mul, Nat.pow_add]
  exact Nat.mul_lt_mul'' a b
theorem sm_add {k : Nat} {i j : Int} (a : sm k i) (b : sm k j) : sm (k + 1) (i + j) := by
  unfold sm at *
  rw [Nat.pow_succ]
  omega
theorem sm_mono {k l : Nat} {i : Int} (a : sm k i) (h : k ≤ l) : sm l i := Nat.lt_of_lt_of_le a (Nat.pow_le_pow_right (by omega) h)
theorem mul_i {i j : Int} (k l : Nat) (hi : sm k i) (hj : sm l j) (h : k + l ≤ 134217720) : fMul (.int i) (.int j) = ret (.int (i * j)) := fMul_int k l hi hj h
theorem sm13 {i : Int} (h : -8192 < i) (h2 : i < 8192) : sm 13 i := show i.natAbs < 2 ^ 13 by omega
theorem sm60 {i : Int} (h : -1152921504606846976 < i) (h2 : i < 1152921504606846976) : sm 60 i := show i.natAbs < 2 ^ 60 by omega
/-- products and quotients of numbers below 2^60 -/
theorem mul60 {i j : Int} (h : -1152921504606846976 < i) (h2 : i < 1152921504606846976) (h3 : -1152921504606846976 < j) (h4 : j < 1152921504606846976) : fMul (.int i) (.int j) = ret (.int (i * j)) := mul_i 60 60 (sm60 h h2) (sm60 h3 h4) (by omega)
theorem div60 {i j : Int} (h0 : 0 < j) (h2 : j < 1152921504606846976) : fDiv (.int i) (.int j) = ret (.int (i / j)) := fDiv_int 60 h0 (sm60 (by omega) h2) (by omega)
theorem mod_i {i j : Int} (h0 : 0 < j) : fMod (.int i) (.int j) = ret (.int (i % j)) := fMod_int h0
/-! ### the cup -/
abbrev cupS (c0 c1 : Int) : Sto := [some [.int c0, .int c1]]
def Cup (S : Sto) : Prop := ∃ c0 c1 : Int, S = cupS c0 c1 ∧ 0 ≤ c0 ∧ 0 ≤ c1 ∧ c1 < 1048576
theorem Cup.len {S : Sto} (h : Cup S) : S.length = 1 := by
  obtain ⟨_, _, rfl, _⟩ := h
  rfl
theorem kGc_cup {K : Out D → Sto → Prop} {S S' : Sto} {d : D} (h : Cup S) (h' : Cup S') : kGc S.length K (.v d) S' = K (.v d) S' := kGc_v _ _ _ _ (by rw [h.len, h'.len])
theorem rd0 (c0 c1 : Int) : rdS 0 (cupS c0 c1) = .ok [.int c0, .int c1] (cupS c0 c1) := rfl
theorem bnd_s {α β : Type} {m : M α} {S S1 : Sto} {a : α} (k : α → M β) (h : m S = .ok a S1) : bnd m k S = k a S1 := bnd_at h
theorem wp_c0 (c0 c1 : Int) (K : Out D → Sto → Prop) : Wp (fIx (.ref 0) (.int 0)) (cupS c0 c1) K = K (.v (.int c0)) (cupS c0 c1) := by
  unfold Wp
  exact propext Iff.rfl
theorem wp_c1 (c0 c1 : Int) (K : Out D → Sto → Prop) : Wp (fIx (.ref 0) (.int 1)) (cupS c0 c1) K = K (.v (.int c1)) (cupS c0 c1) := by
  unfold Wp
  exact propext Iff.rfl
theorem wp_s0 (c0 c1 v : Int) (K : Out Unit → Sto → Prop) : Wp (fSet (.ref 0) (.int 0) (.int v)) (cupS c0 c1) K = K (.v ()) (cupS v c1) := by
  unfold Wp
  exact propext Iff.rfl
theorem wp_s1 (c0 c1 v : Int) (K : Out Unit → Sto → Prop) : Wp (fSet (.ref 0) (.int 1) (.int v)) (cupS c0 c1) K = K (.v ()) (cupS c0 v) := by
  unfold Wp
  exact propext Iff.rfl
theorem wp_roll {S : Sto} (hS : Cup S) {n : Int} {K : Out D → Sto → Prop} (h1 : 1 ≤ n) (h2 : n < 1152921504606846976) (k : ∀ (r : Int) (S' : Sto), Cup S' → 0 ≤ r → r < n → K (.v (.int r)) S') : Wp (m__law_roll [.ref 0, .int n]) S K := by
  obtain ⟨c0, c1, rfl, hc0, hc1, hc2⟩ := hS
  have hn : 0 < n := by omega
  refine wp_def rfl ?_
  unfold bd__law_roll
  by_cases h0 : 0 < c0
  · have e1 := div60 (i := c0) hn h2
    have e2 := mod_i (i := c0) hn
    simp only [wp_ret, wp_exM, wp_bnd, bK_v, bK_e, w_seq, kSeq_nx, kSeq_rt, kSeq_bk, kSeq_ct, kNx_at, w_asg, kAsg_n, kAsg_t, w_gsNil, kGs_at, w_gsCons, w_gN, w_gTup, kSub1_at, kSub2_at, kAsg_s, kExpr_at, w_expr, kRet_at, w_retS, w_retN, w_skip, w_brk, w_cnt, kIfS_t, kIfS_f, w_ifS, w_raise, kPar_at, w_par, kPar3_at, w_par3, w_var0, w_varS, w_C, w_nil, kCons1_at, w_cons, k2_at, w_2, w_1, w_call, w_B, w_asB, w_tru, w_trB, kAnd_t, kAnd_f, w_and, kOr_t, kOr_f, w_or, w_not, kAndV_t, kAndV_f, w_andV, kOrV_t, kOrV_f, w_orV, kIf_t, kIf_f, w_if, k3a_at, k3b_at, k3c_t, k3c_f, w_3c, kSl1_at, kSl2_at, w_sl, w_noneI, kSomeI_at, w_someI, flD_rt, flD_nx, kFin_at, isV_at, isE_at, kGc_e, kFor1_at, kFor2_nx, kFor2_ct, kFor2_bk, kFor2_rt, kFor_at, w_for, w_it, w_itN, w_itT, w_itL, kLc_at, w_lc, w_yes, w_add, w_sub, w_neg, w_cI, w_abs, w_intI, w_gcd, w_lenT, w_lenL, w_listT, w_listL, w_listS, w_tupT, w_tupL, w_slT, w_slL, w_zipT, w_zipL, w_isN, w_notB, isi_int, isi_bl, isi_non, isi_str, isi_tup, isi_lst, isNon, List.set_cons_zero, List.set_cons_succ, List.map_cons, List.map_nil, List.replicate_succ, List.replicate_zero, List.cons_append, List.nil_append, List.length_cons, List.length_nil, Bool.not_true, Bool.not_false, decide_true, decide_false, if_true, if_false, reduceIte, Nat.reduceAdd, Nat.reduceSub, Bool.false_eq_true, wipeD, w_def, wp_gc, eq_self, kGc_v, Int.reduceToNat, wp_c0, decide_eq_true h0, e1, e2, wp_s0]
    have c : Cup (cupS (c0 / n) c1) := ⟨_, _, rfl, Int.ediv_nonneg hc0 (by omega), hc1, hc2⟩
    exact k _ _ c (Int.emod_nonneg _ (by omega)) (Int.emod_lt_of_pos _ hn)
  · have e1 := mul60 (i := c1) (j := 23269) (by omega) (by omega) (by omega) (by omega)
    have e2 := mod_i (i := c1 * 23269 + 48437) (j := 1048576) (by omega)
    have b0 := Int.emod_nonneg (c1 * 23269 + 48437) (show (1048576 : Int) ≠ 0 by omega)
    have b1 := Int.emod_lt_of_pos (c1 * 23269 + 48437) (show (0 : Int) < 1048576 by omega)
    generalize hz : (c1 * 23269 + 48437) % 1048576 = z at e2 b0 b1
    have e3 := div60 (i := z) (j := 139) (by omega) (by omega)
    have e4 := mod_i (i := z / 139) hn
    simp only [wp_ret, wp_exM, wp_bnd, bK_v, bK_e, w_seq, kSeq_nx, kSeq_rt, kSeq_bk, kSeq_ct, kNx_at, w_asg, kAsg_n, kAsg_t, w_gsNil, kGs_at, w_gsCons, w_gN, w_gTup, kSub1_at, kSub2_at, kAsg_s, kExpr_at, w_expr, kRet_at, w_retS, w_retN, w_skip, w_brk, w_cnt, kIfS_t, kIfS_f, w_ifS, w_raise, kPar_at, w_par, kPar3_at, w_par3, w_var0, w_varS, w_C, w_nil, kCons1_at, w_cons, k2_at, w_2, w_1, w_call, w_B, w_asB, w_tru, w_trB, kAnd_t, kAnd_f, w_and, kOr_t, kOr_f, w_or, w_not, kAndV_t, kAndV_f, w_andV, kOrV_t, kOrV_f, w_orV, kIf_t, kIf_f, w_if, k3a_at, k3b_at, k3c_t, k3c_f, w_3c, kSl1_at, kSl2_at, w_sl, w_noneI, kSomeI_at, w_someI, flD_rt, flD_nx, kFin_at, isV_at, isE_at, kGc_e, kFor1_at, kFor2_nx, kFor2_ct, kFor2_bk, kFor2_rt, kFor_at, w_for, w_it, w_itN, w_itT, w_itL, kLc_at, w_lc, w_yes, w_add, w_sub, w_neg, w_cI, w_abs, w_intI, w_gcd, w_lenT, w_lenL, w_listT, w_listL, w_listS, w_tupT, w_tupL, w_slT, w_slL, w_zipT, w_zipL, w_isN, w_notB, isi_int, isi_bl, isi_non, isi_str, isi_tup, isi_lst, isNon, List.set_cons_zero, List.set_cons_succ, List.map_cons, List.map_nil, List.replicate_succ, List.replicate_zero, List.cons_append, List.nil_append, List.length_cons, List.length_nil, Bool.not_true, Bool.not_false, decide_true, decide_false, if_true, if_false, reduceIte, Nat.reduceAdd, Nat.reduceSub, Bool.false_eq_true, wipeD, w_def, wp_gc, eq_self, kGc_v, Int.reduceToNat, wp_c0, wp_c1, decide_eq_false h0, e1, e2, e3, e4, wp_s1]
    have c : Cup (cupS c0 z) := ⟨_, _, rfl, hc0, b0, b1⟩
    exact k _ _ c (Int.emod_nonneg _ (by omega)) (Int.emod_lt_of_pos _ hn)
/-- the end of a law's turn: True, and the cup as it must be -/
def okT : Out D → Sto → Prop := fun o S' => o = .v (.bl true) ∧ Cup S'
theorem okT_at {S : Sto} (h : Cup S) : okT (.v (.bl true)) S := ⟨rfl, h⟩
theorem bits_log {z : Int} (h : Builtin.Int.intBits z ≤ 1048576) : sm 1048577 z := by
  by_cases h0 : z.natAbs = 0
  · show z.natAbs < _
    rw [h0]
    exact Nat.two_pow_pos _
  · have hb : z.natAbs.log2 ≤ 1048576 := by
      have hz : z ≠ 0 := by omega
      have e : Builtin.Int.intBits z = z.natAbs.log2 + 1 := by
        unfold Builtin.Int.intBits
        simp [hz]
      omega
    exact (Nat.log2_lt h0).mp (by omega)
theorem e_cup {ns : List Int} (hl : ns.length ≤ 63) (hz : ∀ z ∈ ns, Builtin.Int.intBits z ≤ 1048576) : ∃ S, m__law_cup [.scr ns] [] = .ok (.ref 0) S ∧ Cup S := by
  obtain ⟨z, ez, sz⟩ : ∃ z : Int, L2.atI (ns.map D.int ++ [.int 0]) 0 = some (.int z) ∧ sm 1048577 z := by
    cases ns with
    | nil => exact ⟨0, rfl, Nat.two_pow_pos _⟩
    | cons x r => exact ⟨x, atI_zero _ _, bits_log (hz x (List.mem_cons_self))⟩
  obtain ⟨c, ec, sc, c0⟩ : ∃ c : Int, (if z < 0 then -z else z) = c ∧ sm 1048577 c ∧ 0 ≤ c := by
    refine ⟨_, rfl, ?_, ?_⟩
    · unfold sm at *
      split <;> omega
    · split <;> omega
  have e1 : fMul (.int c) (.int 1093) = ret (.int (c * 1093)) := mul_i 1048577 11 sc (show (1093 : Int).natAbs < 2 ^ 11 by decide) (by omega)
  have e2 : fPow (.int 10) (.int 18) = ret (.int 1000000000000000000) := rfl
  have e3 : fDiv (.int c) (.int 313) = ret (.int (c / 313)) := fDiv_int 9 (by omega) (by decide) (by omega)
  have e4 := mod_i (i := c * 1093 + 97687) (j := 1048576) (by omega)
  have e5 := w_addL (ns.map D.int) [.int 0] (by simp; omega)
  have e6 := w_mkL [.int 0] (by simp)
  have e7 := w_ixL (ns.map D.int ++ [.int 0]) 0 _ ez
  have b0 := Int.emod_nonneg (c * 1093 + 97687) (show (1048576 : Int) ≠ 0 by omega)
  have b1 := Int.emod_lt_of_pos (c * 1093 + 97687) (show (0 : Int) < 1048576 by omega)
  refine wp_get (P := fun d S => d = .ref 0 ∧ Cup S) (m := m__law_cup [.scr ns]) (S := []) ?_ |> fun ⟨d, S, h, h1, h2⟩ => ⟨S, by rw [h, h1], h2⟩
  refine wp_def rfl ?_
  unfold bd__law_cup
  have ew : ∀ (a b : Int) (K : Out D → Sto → Prop), Wp (fNew [.int a, .int b]) [] K = K (.v (.ref 0)) (cupS a b) := fun a b K => by
    have q : fNew [.int a, .int b] [] = .ok (.ref 0) (cupS a b) := by
      unfold fNew
      exact congrFun (if_pos ⟨le_size (by simp), rfl⟩) []
    unfold Wp
    rw [q]
  by_cases h : 1000000000000000000 ≤ c
  · have h' : (c ≥ 1000000000000000000) := h
    simp only [wp_ret, wp_exM, wp_bnd, bK_v, bK_e, w_seq, kSeq_nx, kSeq_rt, kSeq_bk, kSeq_ct, kNx_at, w_asg, kAsg_n, kAsg_t, w_gsNil, kGs_at, w_gsCons, w_gN, w_gTup, kSub1_at, kSub2_at, kAsg_s, kExpr_at, w_expr, kRet_at, w_retS, w_retN, w_skip, w_brk, w_cnt, kIfS_t, kIfS_f, w_ifS, w_raise, kPar_at, w_par, kPar3_at, w_par3, w_var0, w_varS, w_C, w_nil, kCons1_at, w_cons, k2_at, w_2, w_1, w_call, w_B, w_asB, w_tru, w_trB, kAnd_t, kAnd_f, w_and, kOr_t, kOr_f, w_or, w_not, kAndV_t, kAndV_f, w_andV, kOrV_t, kOrV_f, w_orV, kIf_t, kIf_f, w_if, k3a_at, k3b_at, k3c_t, k3c_f, w_3c, kSl1_at, kSl2_at, w_sl, w_noneI, kSomeI_at, w_someI, flD_rt, flD_nx, kFin_at, isV_at, isE_at, kGc_e, kFor1_at, kFor2_nx, kFor2_ct, kFor2_bk, kFor2_rt, kFor_at, w_for, w_it, w_itN, w_itT, w_itL, kLc_at, w_lc, w_yes, w_add, w_sub, w_neg, w_cI, w_abs, w_intI, w_gcd, w_lenT, w_lenL, w_listT, w_listL, w_listS, w_tupT, w_tupL, w_slT, w_slL, w_zipT, w_zipL, w_isN, w_notB, isi_int, isi_bl, isi_non, isi_str, isi_tup, isi_lst, isNon, List.set_cons_zero, List.set_cons_succ, List.map_cons, List.map_nil, List.replicate_succ, List.replicate_zero, List.cons_append, List.nil_append, List.length_cons, List.length_nil, Bool.not_true, Bool.not_false, decide_true, decide_false, if_true, if_false, reduceIte, Nat.reduceAdd, Nat.reduceSub, Bool.false_eq_true, wipeD, w_def, wp_gc, eq_self, kGc_v, Int.reduceToNat, e1, e2, e3, e4, e5, e6, e7, ec, ge_iff_le, decide_eq_true h, ew]
    refine ⟨rfl, ?_⟩
    exact ⟨_, _, rfl, Int.ediv_nonneg c0 (by omega), b0, b1⟩
  · simp only [wp_ret, wp_exM, wp_bnd, bK_v, bK_e, w_seq, kSeq_nx, kSeq_rt, kSeq_bk, kSeq_ct, kNx_at, w_asg, kAsg_n, kAsg_t, w_gsNil, kGs_at, w_gsCons, w_gN, w_gTup, kSub1_at, kSub2_at, kAsg_s, kExpr_at, w_expr, kRet_at, w_retS, w_retN, w_skip, w_brk, w_cnt, kIfS_t, kIfS_f, w_ifS, w_raise, kPar_at, w_par, kPar3_at, w_par3, w_var0, w_varS, w_C, w_nil, kCons1_at, w_cons, k2_at, w_2, w_1, w_call, w_B, w_asB, w_tru, w_trB, kAnd_t, kAnd_f, w_and, kOr_t, kOr_f, w_or, w_not, kAndV_t, kAndV_f, w_andV, kOrV_t, kOrV_f, w_orV, kIf_t, kIf_f, w_if, k3a_at, k3b_at, k3c_t, k3c_f, w_3c, kSl1_at, kSl2_at, w_sl, w_noneI, kSomeI_at, w_someI, flD_rt, flD_nx, kFin_at, isV_at, isE_at, kGc_e, kFor1_at, kFor2_nx, kFor2_ct, kFor2_bk, kFor2_rt, kFor_at, w_for, w_it, w_itN, w_itT, w_itL, kLc_at, w_lc, w_yes, w_add, w_sub, w_neg, w_cI, w_abs, w_intI, w_gcd, w_lenT, w_lenL, w_listT, w_listL, w_listS, w_tupT, w_tupL, w_slT, w_slL, w_zipT, w_zipL, w_isN, w_notB, isi_int, isi_bl, isi_non, isi_str, isi_tup, isi_lst, isNon, List.set_cons_zero, List.set_cons_succ, List.map_cons, List.map_nil, List.replicate_succ, List.replicate_zero, List.cons_append, List.nil_append, List.length_cons, List.length_nil, Bool.not_true, Bool.not_false, decide_true, decide_false, if_true, if_false, reduceIte, Nat.reduceAdd, Nat.reduceSub, Bool.false_eq_true, wipeD, w_def, wp_gc, eq_self, kGc_v, Int.reduceToNat, e1, e2, e3, e4, e5, e6, e7, ec, ge_iff_le, decide_eq_false h, ew]
    refine ⟨rfl, ?_⟩
    exact ⟨_, _, rfl, by omega, b0, b1⟩
end Mir
set_option Elab.async false
set_option linter.all false
set_option maxRecDepth 100000
set_option maxHeartbeats 4000000
namespace Mir
open PySem
theorem in_sort (k : Int) (b : Bool) (h : fIn false (.int k) (.tup [.int 4, .int 5]) = ret (.bl b)) : fIn false (.int k) (.tup [.int 4, .int 5]) = ret (.bl b) := h
theorem in0 : fIn false (.int 0) (.tup [.int 4, .int 5]) = ret (.bl false) := by rfl
theorem in1 : fIn false (.int 1) (.tup [.int 4, .int 5]) = ret (.bl false) := by rfl
theorem in2 : fIn false (.int 2) (.tup [.int 4, .int 5]) = ret (.bl false) := by rfl
theorem in3 : fIn false (.int 3) (.tup [.int 4, .int 5]) = ret (.bl false) := by rfl
theorem in4 : fIn false (.int 4) (.tup [.int 4, .int 5]) = ret (.bl true) := by rfl
theorem in5 : fIn false (.int 5) (.tup [.int 4, .int 5]) = ret (.bl true) := by rfl
theorem tup45 : fTup [.int 4, .int 5] = ret (.tup [.int 4, .int 5]) := by rfl
theorem lst0 : fLst [] = ret (.lst []) := by rfl
theorem eqNil : fEq false (.lst []) (.lst []) = ret (.bl true) := by rfl
theorem so_non : m__law_sort [.non] = ret (.int 0) := pure_of fun S => wp_def rfl (by
  unfold bd__law_sort
  simp only [wp_ret, wp_exM, wp_bnd, bK_v, bK_e, w_seq, kSeq_nx, kSeq_rt, kSeq_bk, kSeq_ct, kNx_at, w_asg, kAsg_n, kAsg_t, w_gsNil, kGs_at, w_gsCons, w_gN, w_gTup, kSub1_at, kSub2_at, kAsg_s, kExpr_at, w_expr, kRet_at, w_retS, w_retN, w_skip, w_brk, w_cnt, kIfS_t, kIfS_f, w_ifS, w_raise, kPar_at, w_par, kPar3_at, w_par3, w_var0, w_varS, w_C, w_nil, kCons1_at, w_cons, k2_at, w_2, w_1, w_call, w_B, w_asB, w_tru, w_trB, kAnd_t, kAnd_f, w_and, kOr_t, kOr_f, w_or, w_not, kAndV_t, kAndV_f, w_andV, kOrV_t, kOrV_f, w_orV, kIf_t, kIf_f, w_if, k3a_at, k3b_at, k3c_t, k3c_f, w_3c, kSl1_at, kSl2_at, w_sl, w_noneI, kSomeI_at, w_someI, flD_rt, flD_nx, kFin_at, isV_at, isE_at, kGc_e, kFor1_at, kFor2_nx, kFor2_ct, kFor2_bk, kFor2_rt, kFor_at, w_for, w_it, w_itN, w_itT, w_itL, kLc_at, w_lc, w_yes, w_add, w_sub, w_neg, w_cI, w_abs, w_intI, w_gcd, w_lenT, w_lenL, w_listT, w_listL, w_listS, w_tupT, w_tupL, w_slT, w_slL, w_zipT, w_zipL, w_isN, w_notB, isi_int, isi_bl, isi_non, isi_str, isi_tup, isi_lst, isNon, List.set_cons_zero, List.set_cons_succ, List.map_cons, List.map_nil, List.replicate_succ, List.replicate_zero, List.cons_append, List.nil_append, List.length_cons, List.length_nil, Bool.not_true, Bool.not_false, decide_true, decide_false, if_true, if_false, reduceIte, Nat.reduceAdd, Nat.reduceSub, Bool.false_eq_true, wipeD, w_def, wp_gc, eq_self, kGc_v, Int.reduceToNat]
  simp only [kGc_v, isV_at, and_self])
theorem so_int (i : Int) : m__law_sort [.int i] = ret (.int 2) := pure_of fun S => wp_def rfl (by
  unfold bd__law_sort
  simp only [wp_ret, wp_exM, wp_bnd, bK_v, bK_e, w_seq, kSeq_nx, kSeq_rt, kSeq_bk, kSeq_ct, kNx_at, w_asg, kAsg_n, kAsg_t, w_gsNil, kGs_at, w_gsCons, w_gN, w_gTup, kSub1_at, kSub2_at, kAsg_s, kExpr_at, w_expr, kRet_at, w_retS, w_retN, w_skip, w_brk, w_cnt, kIfS_t, kIfS_f, w_ifS, w_raise, kPar_at, w_par, kPar3_at, w_par3, w_var0, w_varS, w_C, w_nil, kCons1_at, w_cons, k2_at, w_2, w_1, w_call, w_B, w_asB, w_tru, w_trB, kAnd_t, kAnd_f, w_and, kOr_t, kOr_f, w_or, w_not, kAndV_t, kAndV_f, w_andV, kOrV_t, kOrV_f, w_orV, kIf_t, kIf_f, w_if, k3a_at, k3b_at, k3c_t, k3c_f, w_3c, kSl1_at, kSl2_at, w_sl, w_noneI, kSomeI_at, w_someI, flD_rt, flD_nx, kFin_at, isV_at, isE_at, kGc_e, kFor1_at, kFor2_nx, kFor2_ct, kFor2_bk, kFor2_rt, kFor_at, w_for, w_it, w_itN, w_itT, w_itL, kLc_at, w_lc, w_yes, w_add, w_sub, w_neg, w_cI, w_abs, w_intI, w_gcd, w_lenT, w_lenL, w_listT, w_listL, w_listS, w_tupT, w_tupL, w_slT, w_slL, w_zipT, w_zipL, w_isN, w_notB, isi_int, isi_bl, isi_non, isi_str, isi_tup, isi_lst, isNon, List.set_cons_zero, List.set_cons_succ, List.map_cons, List.map_nil, List.replicate_succ, List.replicate_zero, List.cons_append, List.nil_append, List.length_cons, List.length_nil, Bool.not_true, Bool.not_false, decide_true, decide_false, if_true, if_false, reduceIte, Nat.reduceAdd, Nat.reduceSub, Bool.false_eq_true, wipeD, w_def, wp_gc, eq_self, kGc_v, Int.reduceToNat]
  simp only [kGc_v, isV_at, and_self])
theorem so_bl (i : Bool) : m__law_sort [.bl i] = ret (.int 1) := pure_of fun S => wp_def rfl (by
  unfold bd__law_sort
  simp only [wp_ret, wp_exM, wp_bnd, bK_v, bK_e, w_seq, kSeq_nx, kSeq_rt, kSeq_bk, kSeq_ct, kNx_at, w_asg, kAsg_n, kAsg_t, w_gsNil, kGs_at, w_gsCons, w_gN, w_gTup, kSub1_at, kSub2_at, kAsg_s, kExpr_at, w_expr, kRet_at, w_retS, w_retN, w_skip, w_brk, w_cnt, kIfS_t, kIfS_f, w_ifS, w_raise, kPar_at, w_par, kPar3_at, w_par3, w_var0, w_varS, w_C, w_nil, kCons1_at, w_cons, k2_at, w_2, w_1, w_call, w_B, w_asB, w_tru, w_trB, kAnd_t, kAnd_f, w_and, kOr_t, kOr_f, w_or, w_not, kAndV_t, kAndV_f, w_andV, kOrV_t, kOrV_f, w_orV, kIf_t, kIf_f, w_if, k3a_at, k3b_at, k3c_t, k3c_f, w_3c, kSl1_at, kSl2_at, w_sl, w_noneI, kSomeI_at, w_someI, flD_rt, flD_nx, kFin_at, isV_at, isE_at, kGc_e, kFor1_at, kFor2_nx, kFor2_ct, kFor2_bk, kFor2_rt, kFor_at, w_for, w_it, w_itN, w_itT, w_itL, kLc_at, w_lc, w_yes, w_add, w_sub, w_neg, w_cI, w_abs, w_intI, w_gcd, w_lenT, w_lenL, w_listT, w_listL, w_listS, w_tupT, w_tupL, w_slT, w_slL, w_zipT, w_zipL, w_isN, w_notB, isi_int, isi_bl, isi_non, isi_str, isi_tup, isi_lst, isNon, List.set_cons_zero, List.set_cons_succ, List.map_cons, List.map_nil, List.replicate_succ, List.replicate_zero, List.cons_append, List.nil_append, List.length_cons, List.length_nil, Bool.not_true, Bool.not_false, decide_true, decide_false, if_true, if_false, reduceIte, Nat.reduceAdd, Nat.reduceSub, Bool.false_eq_true, wipeD, w_def, wp_gc, eq_self, kGc_v, Int.reduceToNat]
  simp only [kGc_v, isV_at, and_self])
theorem so_str (i : Str) : m__law_sort [.str i] = ret (.int 3) := pure_of fun S => wp_def rfl (by
  unfold bd__law_sort
  simp only [wp_ret, wp_exM, wp_bnd, bK_v, bK_e, w_seq, kSeq_nx, kSeq_rt, kSeq_bk, kSeq_ct, kNx_at, w_asg, kAsg_n, kAsg_t, w_gsNil, kGs_at, w_gsCons, w_gN, w_gTup, kSub1_at, kSub2_at, kAsg_s, kExpr_at, w_expr, kRet_at, w_retS, w_retN, w_skip, w_brk, w_cnt, kIfS_t, kIfS_f, w_ifS, w_raise, kPar_at, w_par, kPar3_at, w_par3, w_var0, w_varS, w_C, w_nil, kCons1_at, w_cons, k2_at, w_2, w_1, w_call, w_B, w_asB, w_tru, w_trB, kAnd_t, kAnd_f, w_and, kOr_t, kOr_f, w_or, w_not, kAndV_t, kAndV_f, w_andV, kOrV_t, kOrV_f, w_orV, kIf_t, kIf_f, w_if, k3a_at, k3b_at, k3c_t, k3c_f, w_3c, kSl1_at, kSl2_at, w_sl, w_noneI, kSomeI_at, w_someI, flD_rt, flD_nx, kFin_at, isV_at, isE_at, kGc_e, kFor1_at, kFor2_nx, kFor2_ct, kFor2_bk, kFor2_rt, kFor_at, w_for, w_it, w_itN, w_itT, w_itL, kLc_at, w_lc, w_yes, w_add, w_sub, w_neg, w_cI, w_abs, w_intI, w_gcd, w_lenT, w_lenL, w_listT, w_listL, w_listS, w_tupT, w_tupL, w_slT, w_slL, w_zipT, w_zipL, w_isN, w_notB, isi_int, isi_bl, isi_non, isi_str, isi_tup, isi_lst, isNon, List.set_cons_zero, List.set_cons_succ, List.map_cons, List.map_nil, List.replicate_succ, List.replicate_zero, List.cons_append, List.nil_append, List.length_cons, List.length_nil, Bool.not_true, Bool.not_false, decide_true, decide_false, if_true, if_false, reduceIte, Nat.reduceAdd, Nat.reduceSub, Bool.false_eq_true, wipeD, w_def, wp_gc, eq_self, kGc_v, Int.reduceToNat]
  simp only [kGc_v, isV_at, and_self])
theorem so_tup (i : List D) : m__law_sort [.tup i] = ret (.int 4) := pure_of fun S => wp_def rfl (by
  unfold bd__law_sort
  simp only [wp_ret, wp_exM, wp_bnd, bK_v, bK_e, w_seq, kSeq_nx, kSeq_rt, kSeq_bk, kSeq_ct, kNx_at, w_asg, kAsg_n, kAsg_t, w_gsNil, kGs_at, w_gsCons, w_gN, w_gTup, kSub1_at, kSub2_at, kAsg_s, kExpr_at, w_expr, kRet_at, w_retS, w_retN, w_skip, w_brk, w_cnt, kIfS_t, kIfS_f, w_ifS, w_raise, kPar_at, w_par, kPar3_at, w_par3, w_var0, w_varS, w_C, w_nil, kCons1_at, w_cons, k2_at, w_2, w_1, w_call, w_B, w_asB, w_tru, w_trB, kAnd_t, kAnd_f, w_and, kOr_t, kOr_f, w_or, w_not, kAndV_t, kAndV_f, w_andV, kOrV_t, kOrV_f, w_orV, kIf_t, kIf_f, w_if, k3a_at, k3b_at, k3c_t, k3c_f, w_3c, kSl1_at, kSl2_at, w_sl, w_noneI, kSomeI_at, w_someI, flD_rt, flD_nx, kFin_at, isV_at, isE_at, kGc_e, kFor1_at, kFor2_nx, kFor2_ct, kFor2_bk, kFor2_rt, kFor_at, w_for, w_it, w_itN, w_itT, w_itL, kLc_at, w_lc, w_yes, w_add, w_sub, w_neg, w_cI, w_abs, w_intI, w_gcd, w_lenT, w_lenL, w_listT, w_listL, w_listS, w_tupT, w_tupL, w_slT, w_slL, w_zipT, w_zipL, w_isN, w_notB, isi_int, isi_bl, isi_non, isi_str, isi_tup, isi_lst, isNon, List.set_cons_zero, List.set_cons_succ, List.map_cons, List.map_nil, List.replicate_succ, List.replicate_zero, List.cons_append, List.nil_append, List.length_cons, List.length_nil, Bool.not_true, Bool.not_false, decide_true, decide_false, if_true, if_false, reduceIte, Nat.reduceAdd, Nat.reduceSub, Bool.false_eq_true, wipeD, w_def, wp_gc, eq_self, kGc_v, Int.reduceToNat]
  simp only [kGc_v, isV_at, and_self])
theorem so_lst (i : List D) : m__law_sort [.lst i] = ret (.int 5) := pure_of fun S => wp_def rfl (by
  unfold bd__law_sort
  simp only [wp_ret, wp_exM, wp_bnd, bK_v, bK_e, w_seq, kSeq_nx, kSeq_rt, kSeq_bk, kSeq_ct, kNx_at, w_asg, kAsg_n, kAsg_t, w_gsNil, kGs_at, w_gsCons, w_gN, w_gTup, kSub1_at, kSub2_at, kAsg_s, kExpr_at, w_expr, kRet_at, w_retS, w_retN, w_skip, w_brk, w_cnt, kIfS_t, kIfS_f, w_ifS, w_raise, kPar_at, w_par, kPar3_at, w_par3, w_var0, w_varS, w_C, w_nil, kCons1_at, w_cons, k2_at, w_2, w_1, w_call, w_B, w_asB, w_tru, w_trB, kAnd_t, kAnd_f, w_and, kOr_t, kOr_f, w_or, w_not, kAndV_t, kAndV_f, w_andV, kOrV_t, kOrV_f, w_orV, kIf_t, kIf_f, w_if, k3a_at, k3b_at, k3c_t, k3c_f, w_3c, kSl1_at, kSl2_at, w_sl, w_noneI, kSomeI_at, w_someI, flD_rt, flD_nx, kFin_at, isV_at, isE_at, kGc_e, kFor1_at, kFor2_nx, kFor2_ct, kFor2_bk, kFor2_rt, kFor_at, w_for, w_it, w_itN, w_itT, w_itL, kLc_at, w_lc, w_yes, w_add, w_sub, w_neg, w_cI, w_abs, w_intI, w_gcd, w_lenT, w_lenL, w_listT, w_listL, w_listS, w_tupT, w_tupL, w_slT, w_slL, w_zipT, w_zipL, w_isN, w_notB, isi_int, isi_bl, isi_non, isi_str, isi_tup, isi_lst, isNon, List.set_cons_zero, List.set_cons_succ, List.map_cons, List.map_nil, List.replicate_succ, List.replicate_zero, List.cons_append, List.nil_append, List.length_cons, List.length_nil, Bool.not_true, Bool.not_false, decide_true, decide_false, if_true, if_false, reduceIte, Nat.reduceAdd, Nat.reduceSub, Bool.false_eq_true, wipeD, w_def, wp_gc, eq_self, kGc_v, Int.reduceToNat]
  simp only [kGc_v, isV_at, and_self])
theorem zp_self : ∀ ds : List D, zpD ds ds = ds.map fun d => .tup [d, d]
  | [] => by simp [zpD]
  | d :: r => by
    simp only [zpD, List.map_cons, zp_self r]
theorem like_lc {n : Nat} {ds : List D} (o p s : Option D) (hl : ds.length ≤ 16777216) (h : ∀ d ∈ ds, m__law_like n [d, d] = ret (.bl true)) :
    lcGo (gTupD 2 (gsCons (gN 3) (gsCons (gN 4) gsNil))) (mNot (mTru (mCall (m__law_like n) (mCons (mVar 3) (mCons (mVar 4) mNil))))) (mC (.int 1)) [o, p, s, none, none] (zpD ds ds) [] = ret (.lst []) := by
  rw [zp_self, lc_map (fun d => D.tup [d, d]) (fun d => [o, p, s, some d, some d]) (fun _ => false) (fun d => d) ds [] (fun d hd => ⟨?_, ?_, fun q => by cases q⟩) (by simpa using hl)]
  · have e : ds.filter (fun _ => false) = [] := List.filter_eq_nil_iff.mpr fun _ _ q => by cases q
    rw [e]
    rfl
  · refine pure_of fun S => ?_
    simp only [wp_ret, wp_exM, wp_bnd, bK_v, bK_e, w_seq, kSeq_nx, kSeq_rt, kSeq_bk, kSeq_ct, kNx_at, w_asg, kAsg_n, kAsg_t, w_gsNil, kGs_at, w_gsCons, w_gN, w_gTup, kSub1_at, kSub2_at, kAsg_s, kExpr_at, w_expr, kRet_at, w_retS, w_retN, w_skip, w_brk, w_cnt, kIfS_t, kIfS_f, w_ifS, w_raise, kPar_at, w_par, kPar3_at, w_par3, w_var0, w_varS, w_C, w_nil, kCons1_at, w_cons, k2_at, w_2, w_1, w_call, w_B, w_asB, w_tru, w_trB, kAnd_t, kAnd_f, w_and, kOr_t, kOr_f, w_or, w_not, kAndV_t, kAndV_f, w_andV, kOrV_t, kOrV_f, w_orV, kIf_t, kIf_f, w_if, k3a_at, k3b_at, k3c_t, k3c_f, w_3c, kSl1_at, kSl2_at, w_sl, w_noneI, kSomeI_at, w_someI, flD_rt, flD_nx, kFin_at, isV_at, isE_at, kGc_e, kFor1_at, kFor2_nx, kFor2_ct, kFor2_bk, kFor2_rt, kFor_at, w_for, w_it, w_itN, w_itT, w_itL, kLc_at, w_lc, w_yes, w_add, w_sub, w_neg, w_cI, w_abs, w_intI, w_gcd, w_lenT, w_lenL, w_listT, w_listL, w_listS, w_tupT, w_tupL, w_slT, w_slL, w_zipT, w_zipL, w_isN, w_notB, isi_int, isi_bl, isi_non, isi_str, isi_tup, isi_lst, isNon, List.set_cons_zero, List.set_cons_succ, List.map_cons, List.map_nil, List.replicate_succ, List.replicate_zero, List.cons_append, List.nil_append, List.length_cons, List.length_nil, Bool.not_true, Bool.not_false, decide_true, decide_false, if_true, if_false, reduceIte, Nat.reduceAdd, Nat.reduceSub, Bool.false_eq_true, wipeD, w_def, wp_gc, eq_self, kGc_v, Int.reduceToNat, and_self]
  · refine pure_of fun S => ?_
    simp only [wp_ret, wp_exM, wp_bnd, bK_v, bK_e, w_seq, kSeq_nx, kSeq_rt, kSeq_bk, kSeq_ct, kNx_at, w_asg, kAsg_n, kAsg_t, w_gsNil, kGs_at, w_gsCons, w_gN, w_gTup, kSub1_at, kSub2_at, kAsg_s, kExpr_at, w_expr, kRet_at, w_retS, w_retN, w_skip, w_brk, w_cnt, kIfS_t, kIfS_f, w_ifS, w_raise, kPar_at, w_par, kPar3_at, w_par3, w_var0, w_varS, w_C, w_nil, kCons1_at, w_cons, k2_at, w_2, w_1, w_call, w_B, w_asB, w_tru, w_trB, kAnd_t, kAnd_f, w_and, kOr_t, kOr_f, w_or, w_not, kAndV_t, kAndV_f, w_andV, kOrV_t, kOrV_f, w_orV, kIf_t, kIf_f, w_if, k3a_at, k3b_at, k3c_t, k3c_f, w_3c, kSl1_at, kSl2_at, w_sl, w_noneI, kSomeI_at, w_someI, flD_rt, flD_nx, kFin_at, isV_at, isE_at, kGc_e, kFor1_at, kFor2_nx, kFor2_ct, kFor2_bk, kFor2_rt, kFor_at, w_for, w_it, w_itN, w_itT, w_itL, kLc_at, w_lc, w_yes, w_add, w_sub, w_neg, w_cI, w_abs, w_intI, w_gcd, w_lenT, w_lenL, w_listT, w_listL, w_listS, w_tupT, w_tupL, w_slT, w_slL, w_zipT, w_zipL, w_isN, w_notB, isi_int, isi_bl, isi_non, isi_str, isi_tup, isi_lst, isNon, List.set_cons_zero, List.set_cons_succ, List.map_cons, List.map_nil, List.replicate_succ, List.replicate_zero, List.cons_append, List.nil_append, List.length_cons, List.length_nil, Bool.not_true, Bool.not_false, decide_true, decide_false, if_true, if_false, reduceIte, Nat.reduceAdd, Nat.reduceSub, Bool.false_eq_true, wipeD, w_def, wp_gc, eq_self, kGc_v, Int.reduceToNat, h d hd, and_self]
theorem like_seq {n : Nat} {ds : List D} (hl : ds.length ≤ 16777216) (h : ∀ d ∈ ds, m__law_like n [d, d] = ret (.bl true)) : m__law_like (n + 1) [.tup ds, .tup ds] = ret (.bl true) ∧ m__law_like (n + 1) [.lst ds, .lst ds] = ret (.bl true) := by
  have l1 := like_lc (some (.tup ds)) (some (.tup ds)) (some (.int 4)) hl h
  have l2 := like_lc (some (.lst ds)) (some (.lst ds)) (some (.int 5)) hl h
  constructor
  · refine pure_of fun S => wp_def rfl ?_
    unfold bd__law_like
    simp only [wp_ret, wp_exM, wp_bnd, bK_v, bK_e, w_seq, kSeq_nx, kSeq_rt, kSeq_bk, kSeq_ct, kNx_at, w_asg, kAsg_n, kAsg_t, w_gsNil, kGs_at, w_gsCons, w_gN, w_gTup, kSub1_at, kSub2_at, kAsg_s, kExpr_at, w_expr, kRet_at, w_retS, w_retN, w_skip, w_brk, w_cnt, kIfS_t, kIfS_f, w_ifS, w_raise, kPar_at, w_par, kPar3_at, w_par3, w_var0, w_varS, w_C, w_nil, kCons1_at, w_cons, k2_at, w_2, w_1, w_call, w_B, w_asB, w_tru, w_trB, kAnd_t, kAnd_f, w_and, kOr_t, kOr_f, w_or, w_not, kAndV_t, kAndV_f, w_andV, kOrV_t, kOrV_f, w_orV, kIf_t, kIf_f, w_if, k3a_at, k3b_at, k3c_t, k3c_f, w_3c, kSl1_at, kSl2_at, w_sl, w_noneI, kSomeI_at, w_someI, flD_rt, flD_nx, kFin_at, isV_at, isE_at, kGc_e, kFor1_at, kFor2_nx, kFor2_ct, kFor2_bk, kFor2_rt, kFor_at, w_for, w_it, w_itN, w_itT, w_itL, kLc_at, w_lc, w_yes, w_add, w_sub, w_neg, w_cI, w_abs, w_intI, w_gcd, w_lenT, w_lenL, w_listT, w_listL, w_listS, w_tupT, w_tupL, w_slT, w_slL, w_zipT, w_zipL, w_isN, w_notB, isi_int, isi_bl, isi_non, isi_str, isi_tup, isi_lst, isNon, List.set_cons_zero, List.set_cons_succ, List.map_cons, List.map_nil, List.replicate_succ, List.replicate_zero, List.cons_append, List.nil_append, List.length_cons, List.length_nil, Bool.not_true, Bool.not_false, decide_true, decide_false, if_true, if_false, reduceIte, Nat.reduceAdd, Nat.reduceSub, Bool.false_eq_true, wipeD, w_def, wp_gc, eq_self, kGc_v, Int.reduceToNat, so_tup, feq_int, tup45, in4, lst0, eqNil, l1, show ((4 : Int) = 6) = False from eq_false (by decide)]
    simp only [kGc_v, isV_at, and_self]
  · refine pure_of fun S => wp_def rfl ?_
    unfold bd__law_like
    simp only [wp_ret, wp_exM, wp_bnd, bK_v, bK_e, w_seq, kSeq_nx, kSeq_rt, kSeq_bk, kSeq_ct, kNx_at, w_asg, kAsg_n, kAsg_t, w_gsNil, kGs_at, w_gsCons, w_gN, w_gTup, kSub1_at, kSub2_at, kAsg_s, kExpr_at, w_expr, kRet_at, w_retS, w_retN, w_skip, w_brk, w_cnt, kIfS_t, kIfS_f, w_ifS, w_raise, kPar_at, w_par, kPar3_at, w_par3, w_var0, w_varS, w_C, w_nil, kCons1_at, w_cons, k2_at, w_2, w_1, w_call, w_B, w_asB, w_tru, w_trB, kAnd_t, kAnd_f, w_and, kOr_t, kOr_f, w_or, w_not, kAndV_t, kAndV_f, w_andV, kOrV_t, kOrV_f, w_orV, kIf_t, kIf_f, w_if, k3a_at, k3b_at, k3c_t, k3c_f, w_3c, kSl1_at, kSl2_at, w_sl, w_noneI, kSomeI_at, w_someI, flD_rt, flD_nx, kFin_at, isV_at, isE_at, kGc_e, kFor1_at, kFor2_nx, kFor2_ct, kFor2_bk, kFor2_rt, kFor_at, w_for, w_it, w_itN, w_itT, w_itL, kLc_at, w_lc, w_yes, w_add, w_sub, w_neg, w_cI, w_abs, w_intI, w_gcd, w_lenT, w_lenL, w_listT, w_listL, w_listS, w_tupT, w_tupL, w_slT, w_slL, w_zipT, w_zipL, w_isN, w_notB, isi_int, isi_bl, isi_non, isi_str, isi_tup, isi_lst, isNon, List.set_cons_zero, List.set_cons_succ, List.map_cons, List.map_nil, List.replicate_succ, List.replicate_zero, List.cons_append, List.nil_append, List.length_cons, List.length_nil, Bool.not_true, Bool.not_false, decide_true, decide_false, if_true, if_false, reduceIte, Nat.reduceAdd, Nat.reduceSub, Bool.false_eq_true, wipeD, w_def, wp_gc, eq_self, kGc_v, Int.reduceToNat, so_lst, feq_int, tup45, in5, lst0, eqNil, l2, show ((5 : Int) = 6) = False from eq_false (by decide)]
    simp only [kGc_v, isV_at, and_self]
theorem like_flat {n : Nat} {d : D} {k : Int} (hs : m__law_sort [d] = ret (.int k)) (hk : (k = 6) = False) (hi : fIn false (.int k) (.tup [.int 4, .int 5]) = ret (.bl false)) (he : fEq false d d = ret (.bl true)) : m__law_like (n + 1) [d, d] = ret (.bl true) := by
  refine pure_of fun S => wp_def rfl ?_
  unfold bd__law_like
  simp only [wp_ret, wp_exM, wp_bnd, bK_v, bK_e, w_seq, kSeq_nx, kSeq_rt, kSeq_bk, kSeq_ct, kNx_at, w_asg, kAsg_n, kAsg_t, w_gsNil, kGs_at, w_gsCons, w_gN, w_gTup, kSub1_at, kSub2_at, kAsg_s, kExpr_at, w_expr, kRet_at, w_retS, w_retN, w_skip, w_brk, w_cnt, kIfS_t, kIfS_f, w_ifS, w_raise, kPar_at, w_par, kPar3_at, w_par3, w_var0, w_varS, w_C, w_nil, kCons1_at, w_cons, k2_at, w_2, w_1, w_call, w_B, w_asB, w_tru, w_trB, kAnd_t, kAnd_f, w_and, kOr_t, kOr_f, w_or, w_not, kAndV_t, kAndV_f, w_andV, kOrV_t, kOrV_f, w_orV, kIf_t, kIf_f, w_if, k3a_at, k3b_at, k3c_t, k3c_f, w_3c, kSl1_at, kSl2_at, w_sl, w_noneI, kSomeI_at, w_someI, flD_rt, flD_nx, kFin_at, isV_at, isE_at, kGc_e, kFor1_at, kFor2_nx, kFor2_ct, kFor2_bk, kFor2_rt, kFor_at, w_for, w_it, w_itN, w_itT, w_itL, kLc_at, w_lc, w_yes, w_add, w_sub, w_neg, w_cI, w_abs, w_intI, w_gcd, w_lenT, w_lenL, w_listT, w_listL, w_listS, w_tupT, w_tupL, w_slT, w_slL, w_zipT, w_zipL, w_isN, w_notB, isi_int, isi_bl, isi_non, isi_str, isi_tup, isi_lst, isNon, List.set_cons_zero, List.set_cons_succ, List.map_cons, List.map_nil, List.replicate_succ, List.replicate_zero, List.cons_append, List.nil_append, List.length_cons, List.length_nil, Bool.not_true, Bool.not_false, decide_true, decide_false, if_true, if_false, reduceIte, Nat.reduceAdd, Nat.reduceSub, Bool.false_eq_true, wipeD, w_def, wp_gc, eq_self, kGc_v, Int.reduceToNat, hs, feq_int, tup45, hi, he, hk]
  simp only [kGc_v, isV_at, and_self]
theorem like_int (n : Nat) (i : Int) : m__law_like (n + 1) [.int i, .int i] = ret (.bl true) := like_flat (so_int i) (eq_false (by decide)) in2 (feq_self (n := 0) (gd_int 0 i) (by omega))
/-- what is told is like itself -/
theorem like_self : ∀ (n : Nat) (d : D), gd n d = true → n ≤ 60 → m__law_like (n + 1) [d, d] = ret (.bl true)
  | n, .non, h, hn => like_flat so_non (eq_false (by decide)) in0 (feq_self h hn)
  | n, .bl b, h, hn => like_flat (so_bl b) (eq_false (by decide)) in1 (feq_self h hn)
  | n, .int i, h, hn => like_int n i
  | n, .str x, h, hn => like_flat (so_str x) (eq_false (by decide)) in3 (feq_self h hn)
  | 0, .tup [], h, hn => (like_seq (ds := []) (by simp) fun d hd => by cases hd).1
  | 0, .tup (d :: r), h, hn => by
    rw [gd_tup] at h
    simp [gds] at h
  | n + 1, .tup ds, h, hn => by
    rw [gd_tup, Bool.and_eq_true, decide_eq_true_eq] at h
    exact (like_seq h.1 fun d hd => like_self n d (gds_mem h.2 d hd) (by omega)).1
  | 0, .lst [], h, hn => (like_seq (ds := []) (by simp) fun d hd => by cases hd).2
  | 0, .lst (d :: r), h, hn => by
    rw [gd_lst] at h
    simp [gds] at h
  | n + 1, .lst ds, h, hn => by
    rw [gd_lst, Bool.and_eq_true, decide_eq_true_eq] at h
    exact (like_seq h.1 fun d hd => like_self n d (gds_mem h.2 d hd) (by omega)).2
theorem wp_some {S : Sto} (hS : Cup S) {ds : List D} {K : Out D → Sto → Prop} (h1 : 1 ≤ ds.length) (h2 : ds.length ≤ 16777216) (k : ∀ (d : D) (S' : Sto), Cup S' → d ∈ ds → K (.v d) S') : Wp (m__law_some [.ref 0, .lst ds]) S K := by
  refine wp_def rfl ?_
  unfold bd__law_some
  simp only [wp_ret, wp_exM, wp_bnd, bK_v, bK_e, w_seq, kSeq_nx, kSeq_rt, kSeq_bk, kSeq_ct, kNx_at, w_asg, kAsg_n, kAsg_t, w_gsNil, kGs_at, w_gsCons, w_gN, w_gTup, kSub1_at, kSub2_at, kAsg_s, kExpr_at, w_expr, kRet_at, w_retS, w_retN, w_skip, w_brk, w_cnt, kIfS_t, kIfS_f, w_ifS, w_raise, kPar_at, w_par, kPar3_at, w_par3, w_var0, w_varS, w_C, w_nil, kCons1_at, w_cons, k2_at, w_2, w_1, w_call, w_B, w_asB, w_tru, w_trB, kAnd_t, kAnd_f, w_and, kOr_t, kOr_f, w_or, w_not, kAndV_t, kAndV_f, w_andV, kOrV_t, kOrV_f, w_orV, kIf_t, kIf_f, w_if, k3a_at, k3b_at, k3c_t, k3c_f, w_3c, kSl1_at, kSl2_at, w_sl, w_noneI, kSomeI_at, w_someI, flD_rt, flD_nx, kFin_at, isV_at, isE_at, kGc_e, kFor1_at, kFor2_nx, kFor2_ct, kFor2_bk, kFor2_rt, kFor_at, w_for, w_it, w_itN, w_itT, w_itL, kLc_at, w_lc, w_yes, w_add, w_sub, w_neg, w_cI, w_abs, w_intI, w_gcd, w_lenT, w_lenL, w_listT, w_listL, w_listS, w_tupT, w_tupL, w_slT, w_slL, w_zipT, w_zipL, w_isN, w_notB, isi_int, isi_bl, isi_non, isi_str, isi_tup, isi_lst, isNon, List.set_cons_zero, List.set_cons_succ, List.map_cons, List.map_nil, List.replicate_succ, List.replicate_zero, List.cons_append, List.nil_append, List.length_cons, List.length_nil, Bool.not_true, Bool.not_false, decide_true, decide_false, if_true, if_false, reduceIte, Nat.reduceAdd, Nat.reduceSub, Bool.false_eq_true, wipeD, w_def, wp_gc, eq_self, kGc_v, Int.reduceToNat]
  refine wp_roll hS (by omega) (by omega) fun r S' c r0 r1 => ?_
  have hr : r.toNat < ds.length := by omega
  have ea : L2.atI ds r = some ds[r.toNat] := by
    unfold L2.atI L2.ixN
    rw [if_pos r0, if_pos r1, Option.bind_some, List.getElem?_eq_getElem hr]
  simp only [wp_ret, wp_exM, wp_bnd, bK_v, bK_e, w_seq, kSeq_nx, kSeq_rt, kSeq_bk, kSeq_ct, kNx_at, w_asg, kAsg_n, kAsg_t, w_gsNil, kGs_at, w_gsCons, w_gN, w_gTup, kSub1_at, kSub2_at, kAsg_s, kExpr_at, w_expr, kRet_at, w_retS, w_retN, w_skip, w_brk, w_cnt, kIfS_t, kIfS_f, w_ifS, w_raise, kPar_at, w_par, kPar3_at, w_par3, w_var0, w_varS, w_C, w_nil, kCons1_at, w_cons, k2_at, w_2, w_1, w_call, w_B, w_asB, w_tru, w_trB, kAnd_t, kAnd_f, w_and, kOr_t, kOr_f, w_or, w_not, kAndV_t, kAndV_f, w_andV, kOrV_t, kOrV_f, w_orV, kIf_t, kIf_f, w_if, k3a_at, k3b_at, k3c_t, k3c_f, w_3c, kSl1_at, kSl2_at, w_sl, w_noneI, kSomeI_at, w_someI, flD_rt, flD_nx, kFin_at, isV_at, isE_at, kGc_e, kFor1_at, kFor2_nx, kFor2_ct, kFor2_bk, kFor2_rt, kFor_at, w_for, w_it, w_itN, w_itT, w_itL, kLc_at, w_lc, w_yes, w_add, w_sub, w_neg, w_cI, w_abs, w_intI, w_gcd, w_lenT, w_lenL, w_listT, w_listL, w_listS, w_tupT, w_tupL, w_slT, w_slL, w_zipT, w_zipL, w_isN, w_notB, isi_int, isi_bl, isi_non, isi_str, isi_tup, isi_lst, isNon, List.set_cons_zero, List.set_cons_succ, List.map_cons, List.map_nil, List.replicate_succ, List.replicate_zero, List.cons_append, List.nil_append, List.length_cons, List.length_nil, Bool.not_true, Bool.not_false, decide_true, decide_false, if_true, if_false, reduceIte, Nat.reduceAdd, Nat.reduceSub, Bool.false_eq_true, wipeD, w_def, wp_gc, eq_self, kGc_v, Int.reduceToNat, w_ixL _ _ _ ea]
  rw [kGc_cup hS c]
  exact k _ _ c (List.getElem_mem hr)
end Mir
set_option Elab.async false
set_option linter.all false
set_option maxRecDepth 100000
set_option maxHeartbeats 4000000
namespace Mir
open PySem
/-! ### judges of plain values -/
def plD : D → Bool
  | .non => true
  | .bl _ => true
  | .int _ => true
  | .str _ => true
  | .tup _ => true
  | .lst _ => true
  | _ => false
def isW (lo hi : Int) : D → Bool
  | .int x => decide (lo ≤ x) && decide (x ≤ hi)
  | _ => false
def isT (lo hi : Int) : D → Bool
  | .tup ds => decide (lo ≤ ds.length) && decide ((ds.length : Int) ≤ hi)
  | _ => false
theorem e_is_whole {d : D} (a b : Int) (h : plD d = true) : m_is_whole [d, .int a, .int b] = ret (.bl (isW a b d)) := by
  refine pure_of fun S => wp_def rfl ?_
  unfold bd_is_whole
  cases d with
  | int x =>
    by_cases h1 : a ≤ x
    · simp only [wp_ret, wp_exM, wp_bnd, bK_v, bK_e, w_seq, kSeq_nx, kSeq_rt, kSeq_bk, kSeq_ct, kNx_at, w_asg, kAsg_n, kAsg_t, w_gsNil, kGs_at, w_gsCons, w_gN, w_gTup, kSub1_at, kSub2_at, kAsg_s, kExpr_at, w_expr, kRet_at, w_retS, w_retN, w_skip, w_brk, w_cnt, kIfS_t, kIfS_f, w_ifS, w_raise, kPar_at, w_par, kPar3_at, w_par3, w_var0, w_varS, w_C, w_nil, kCons1_at, w_cons, k2_at, w_2, w_1, w_call, w_B, w_asB, w_tru, w_trB, kAnd_t, kAnd_f, w_and, kOr_t, kOr_f, w_or, w_not, kAndV_t, kAndV_f, w_andV, kOrV_t, kOrV_f, w_orV, kIf_t, kIf_f, w_if, k3a_at, k3b_at, k3c_t, k3c_f, w_3c, kSl1_at, kSl2_at, w_sl, w_noneI, kSomeI_at, w_someI, flD_rt, flD_nx, kFin_at, isV_at, isE_at, kGc_e, kFor1_at, kFor2_nx, kFor2_ct, kFor2_bk, kFor2_rt, kFor_at, w_for, w_it, w_itN, w_itT, w_itL, kLc_at, w_lc, w_yes, w_add, w_sub, w_neg, w_cI, w_abs, w_intI, w_gcd, w_lenT, w_lenL, w_listT, w_listL, w_listS, w_tupT, w_tupL, w_slT, w_slL, w_zipT, w_zipL, w_isN, w_notB, isi_int, isi_bl, isi_non, isi_str, isi_tup, isi_lst, isNon, List.set_cons_zero, List.set_cons_succ, List.map_cons, List.map_nil, List.replicate_succ, List.replicate_zero, List.cons_append, List.nil_append, List.length_cons, List.length_nil, Bool.not_true, Bool.not_false, decide_true, decide_false, if_true, if_false, reduceIte, Nat.reduceAdd, Nat.reduceSub, Bool.false_eq_true, wipeD, w_def, wp_gc, eq_self, kGc_v, Int.reduceToNat, decide_eq_true h1, isW]
      simp only [kGc_v, isV_at, Bool.true_and, and_self]
    · simp only [wp_ret, wp_exM, wp_bnd, bK_v, bK_e, w_seq, kSeq_nx, kSeq_rt, kSeq_bk, kSeq_ct, kNx_at, w_asg, kAsg_n, kAsg_t, w_gsNil, kGs_at, w_gsCons, w_gN, w_gTup, kSub1_at, kSub2_at, kAsg_s, kExpr_at, w_expr, kRet_at, w_retS, w_retN, w_skip, w_brk, w_cnt, kIfS_t, kIfS_f, w_ifS, w_raise, kPar_at, w_par, kPar3_at, w_par3, w_var0, w_varS, w_C, w_nil, kCons1_at, w_cons, k2_at, w_2, w_1, w_call, w_B, w_asB, w_tru, w_trB, kAnd_t, kAnd_f, w_and, kOr_t, kOr_f, w_or, w_not, kAndV_t, kAndV_f, w_andV, kOrV_t, kOrV_f, w_orV, kIf_t, kIf_f, w_if, k3a_at, k3b_at, k3c_t, k3c_f, w_3c, kSl1_at, kSl2_at, w_sl, w_noneI, kSomeI_at, w_someI, flD_rt, flD_nx, kFin_at, isV_at, isE_at, kGc_e, kFor1_at, kFor2_nx, kFor2_ct, kFor2_bk, kFor2_rt, kFor_at, w_for, w_it, w_itN, w_itT, w_itL, kLc_at, w_lc, w_yes, w_add, w_sub, w_neg, w_cI, w_abs, w_intI, w_gcd, w_lenT, w_lenL, w_listT, w_listL, w_listS, w_tupT, w_tupL, w_slT, w_slL, w_zipT, w_zipL, w_isN, w_notB, isi_int, isi_bl, isi_non, isi_str, isi_tup, isi_lst, isNon, List.set_cons_zero, List.set_cons_succ, List.map_cons, List.map_nil, List.replicate_succ, List.replicate_zero, List.cons_append, List.nil_append, List.length_cons, List.length_nil, Bool.not_true, Bool.not_false, decide_true, decide_false, if_true, if_false, reduceIte, Nat.reduceAdd, Nat.reduceSub, Bool.false_eq_true, wipeD, w_def, wp_gc, eq_self, kGc_v, Int.reduceToNat, decide_eq_false h1, isW]
      simp only [kGc_v, isV_at, Bool.false_and, and_self]
  | non => simp only [wp_ret, wp_exM, wp_bnd, bK_v, bK_e, w_seq, kSeq_nx, kSeq_rt, kSeq_bk, kSeq_ct, kNx_at, w_asg, kAsg_n, kAsg_t, w_gsNil, kGs_at, w_gsCons, w_gN, w_gTup, kSub1_at, kSub2_at, kAsg_s, kExpr_at, w_expr, kRet_at, w_retS, w_retN, w_skip, w_brk, w_cnt, kIfS_t, kIfS_f, w_ifS, w_raise, kPar_at, w_par, kPar3_at, w_par3, w_var0, w_varS, w_C, w_nil, kCons1_at, w_cons, k2_at, w_2, w_1, w_call, w_B, w_asB, w_tru, w_trB, kAnd_t, kAnd_f, w_and, kOr_t, kOr_f, w_or, w_not, kAndV_t, kAndV_f, w_andV, kOrV_t, kOrV_f, w_orV, kIf_t, kIf_f, w_if, k3a_at, k3b_at, k3c_t, k3c_f, w_3c, kSl1_at, kSl2_at, w_sl, w_noneI, kSomeI_at, w_someI, flD_rt, flD_nx, kFin_at, isV_at, isE_at, kGc_e, kFor1_at, kFor2_nx, kFor2_ct, kFor2_bk, kFor2_rt, kFor_at, w_for, w_it, w_itN, w_itT, w_itL, kLc_at, w_lc, w_yes, w_add, w_sub, w_neg, w_cI, w_abs, w_intI, w_gcd, w_lenT, w_lenL, w_listT, w_listL, w_listS, w_tupT, w_tupL, w_slT, w_slL, w_zipT, w_zipL, w_isN, w_notB, isi_int, isi_bl, isi_non, isi_str, isi_tup, isi_lst, isNon, List.set_cons_zero, List.set_cons_succ, List.map_cons, List.map_nil, List.replicate_succ, List.replicate_zero, List.cons_append, List.nil_append, List.length_cons, List.length_nil, Bool.not_true, Bool.not_false, decide_true, decide_false, if_true, if_false, reduceIte, Nat.reduceAdd, Nat.reduceSub, Bool.false_eq_true, wipeD, w_def, wp_gc, eq_self, kGc_v, Int.reduceToNat, isW, kGc_v, and_self]
  | bl _ => simp only [wp_ret, wp_exM, wp_bnd, bK_v, bK_e, w_seq, kSeq_nx, kSeq_rt, kSeq_bk, kSeq_ct, kNx_at, w_asg, kAsg_n, kAsg_t, w_gsNil, kGs_at, w_gsCons, w_gN, w_gTup, kSub1_at, kSub2_at, kAsg_s, kExpr_at, w_expr, kRet_at, w_retS, w_retN, w_skip, w_brk, w_cnt, kIfS_t, kIfS_f, w_ifS, w_raise, kPar_at, w_par, kPar3_at, w_par3, w_var0, w_varS, w_C, w_nil, kCons1_at, w_cons, k2_at, w_2, w_1, w_call, w_B, w_asB, w_tru, w_trB, kAnd_t, kAnd_f, w_and, kOr_t, kOr_f, w_or, w_not, kAndV_t, kAndV_f, w_andV, kOrV_t, kOrV_f, w_orV, kIf_t, kIf_f, w_if, k3a_at, k3b_at, k3c_t, k3c_f, w_3c, kSl1_at, kSl2_at, w_sl, w_noneI, kSomeI_at, w_someI, flD_rt, flD_nx, kFin_at, isV_at, isE_at, kGc_e, kFor1_at, kFor2_nx, kFor2_ct, kFor2_bk, kFor2_rt, kFor_at, w_for, w_it, w_itN, w_itT, w_itL, kLc_at, w_lc, w_yes, w_add, w_sub, w_neg, w_cI, w_abs, w_intI, w_gcd, w_lenT, w_lenL, w_listT, w_listL, w_listS, w_tupT, w_tupL, w_slT, w_slL, w_zipT, w_zipL, w_isN, w_notB, isi_int, isi_bl, isi_non, isi_str, isi_tup, isi_lst, isNon, List.set_cons_zero, List.set_cons_succ, List.map_cons, List.map_nil, List.replicate_succ, List.replicate_zero, List.cons_append, List.nil_append, List.length_cons, List.length_nil, Bool.not_true, Bool.not_false, decide_true, decide_false, if_true, if_false, reduceIte, Nat.reduceAdd, Nat.reduceSub, Bool.false_eq_true, wipeD, w_def, wp_gc, eq_self, kGc_v, Int.reduceToNat, isW, kGc_v, and_self]
  | str _ => simp only [wp_ret, wp_exM, wp_bnd, bK_v, bK_e, w_seq, kSeq_nx, kSeq_rt, kSeq_bk, kSeq_ct, kNx_at, w_asg, kAsg_n, kAsg_t, w_gsNil, kGs_at, w_gsCons, w_gN, w_gTup, kSub1_at, kSub2_at, kAsg_s, kExpr_at, w_expr, kRet_at, w_retS, w_retN, w_skip, w_brk, w_cnt, kIfS_t, kIfS_f, w_ifS, w_raise, kPar_at, w_par, kPar3_at, w_par3, w_var0, w_varS, w_C, w_nil, kCons1_at, w_cons, k2_at, w_2, w_1, w_call, w_B, w_asB, w_tru, w_trB, kAnd_t, kAnd_f, w_and, kOr_t, kOr_f, w_or, w_not, kAndV_t, kAndV_f, w_andV, kOrV_t, kOrV_f, w_orV, kIf_t, kIf_f, w_if, k3a_at, k3b_at, k3c_t, k3c_f, w_3c, kSl1_at, kSl2_at, w_sl, w_noneI, kSomeI_at, w_someI, flD_rt, flD_nx, kFin_at, isV_at, isE_at, kGc_e, kFor1_at, kFor2_nx, kFor2_ct, kFor2_bk, kFor2_rt, kFor_at, w_for, w_it, w_itN, w_itT, w_itL, kLc_at, w_lc, w_yes, w_add, w_sub, w_neg, w_cI, w_abs, w_intI, w_gcd, w_lenT, w_lenL, w_listT, w_listL, w_listS, w_tupT, w_tupL, w_slT, w_slL, w_zipT, w_zipL, w_isN, w_notB, isi_int, isi_bl, isi_non, isi_str, isi_tup, isi_lst, isNon, List.set_cons_zero, List.set_cons_succ, List.map_cons, List.map_nil, List.replicate_succ, List.replicate_zero, List.cons_append, List.nil_append, List.length_cons, List.length_nil, Bool.not_true, Bool.not_false, decide_true, decide_false, if_true, if_false, reduceIte, Nat.reduceAdd, Nat.reduceSub, Bool.false_eq_true, wipeD, w_def, wp_gc, eq_self, kGc_v, Int.reduceToNat, isW, kGc_v, and_self]
  | tup _ => simp only [wp_ret, wp_exM, wp_bnd, bK_v, bK_e, w_seq, kSeq_nx, kSeq_rt, kSeq_bk, kSeq_ct, kNx_at, w_asg, kAsg_n, kAsg_t, w_gsNil, kGs_at, w_gsCons, w_gN, w_gTup, kSub1_at, kSub2_at, kAsg_s, kExpr_at, w_expr, kRet_at, w_retS, w_retN, w_skip, w_brk, w_cnt, kIfS_t, kIfS_f, w_ifS, w_raise, kPar_at, w_par, kPar3_at, w_par3, w_var0, w_varS, w_C, w_nil, kCons1_at, w_cons, k2_at, w_2, w_1, w_call, w_B, w_asB, w_tru, w_trB, kAnd_t, kAnd_f, w_and, kOr_t, kOr_f, w_or, w_not, kAndV_t, kAndV_f, w_andV, kOrV_t, kOrV_f, w_orV, kIf_t, kIf_f, w_if, k3a_at, k3b_at, k3c_t, k3c_f, w_3c, kSl1_at, kSl2_at, w_sl, w_noneI, kSomeI_at, w_someI, flD_rt, flD_nx, kFin_at, isV_at, isE_at, kGc_e, kFor1_at, kFor2_nx, kFor2_ct, kFor2_bk, kFor2_rt, kFor_at, w_for, w_it, w_itN, w_itT, w_itL, kLc_at, w_lc, w_yes, w_add, w_sub, w_neg, w_cI, w_abs, w_intI, w_gcd, w_lenT, w_lenL, w_listT, w_listL, w_listS, w_tupT, w_tupL, w_slT, w_slL, w_zipT, w_zipL, w_isN, w_notB, isi_int, isi_bl, isi_non, isi_str, isi_tup, isi_lst, isNon, List.set_cons_zero, List.set_cons_succ, List.map_cons, List.map_nil, List.replicate_succ, List.replicate_zero, List.cons_append, List.nil_append, List.length_cons, List.length_nil, Bool.not_true, Bool.not_false, decide_true, decide_false, if_true, if_false, reduceIte, Nat.reduceAdd, Nat.reduceSub, Bool.false_eq_true, wipeD, w_def, wp_gc, eq_self, kGc_v, Int.reduceToNat, isW, kGc_v, and_self]
  | lst _ => simp only [wp_ret, wp_exM, wp_bnd, bK_v, bK_e, w_seq, kSeq_nx, kSeq_rt, kSeq_bk, kSeq_ct, kNx_at, w_asg, kAsg_n, kAsg_t, w_gsNil, kGs_at, w_gsCons, w_gN, w_gTup, kSub1_at, kSub2_at, kAsg_s, kExpr_at, w_expr, kRet_at, w_retS, w_retN, w_skip, w_brk, w_cnt, kIfS_t, kIfS_f, w_ifS, w_raise, kPar_at, w_par, kPar3_at, w_par3, w_var0, w_varS, w_C, w_nil, kCons1_at, w_cons, k2_at, w_2, w_1, w_call, w_B, w_asB, w_tru, w_trB, kAnd_t, kAnd_f, w_and, kOr_t, kOr_f, w_or, w_not, kAndV_t, kAndV_f, w_andV, kOrV_t, kOrV_f, w_orV, kIf_t, kIf_f, w_if, k3a_at, k3b_at, k3c_t, k3c_f, w_3c, kSl1_at, kSl2_at, w_sl, w_noneI, kSomeI_at, w_someI, flD_rt, flD_nx, kFin_at, isV_at, isE_at, kGc_e, kFor1_at, kFor2_nx, kFor2_ct, kFor2_bk, kFor2_rt, kFor_at, w_for, w_it, w_itN, w_itT, w_itL, kLc_at, w_lc, w_yes, w_add, w_sub, w_neg, w_cI, w_abs, w_intI, w_gcd, w_lenT, w_lenL, w_listT, w_listL, w_listS, w_tupT, w_tupL, w_slT, w_slL, w_zipT, w_zipL, w_isN, w_notB, isi_int, isi_bl, isi_non, isi_str, isi_tup, isi_lst, isNon, List.set_cons_zero, List.set_cons_succ, List.map_cons, List.map_nil, List.replicate_succ, List.replicate_zero, List.cons_append, List.nil_append, List.length_cons, List.length_nil, Bool.not_true, Bool.not_false, decide_true, decide_false, if_true, if_false, reduceIte, Nat.reduceAdd, Nat.reduceSub, Bool.false_eq_true, wipeD, w_def, wp_gc, eq_self, kGc_v, Int.reduceToNat, isW, kGc_v, and_self]
  | ty _ => cases h
  | glo _ => cases h
  | ref _ => cases h
  | scr _ => cases h
  | raw _ => cases h
theorem e_is_tuple_of {d : D} (a b : Int) (h : plD d = true) : m_is_tuple_of [d, .int a, .int b] = ret (.bl (isT a b d)) := by
  refine pure_of fun S => wp_def rfl ?_
  unfold bd_is_tuple_of
  cases d with
  | tup ds =>
    by_cases h1 : a ≤ ds.length
    · simp only [wp_ret, wp_exM, wp_bnd, bK_v, bK_e, w_seq, kSeq_nx, kSeq_rt, kSeq_bk, kSeq_ct, kNx_at, w_asg, kAsg_n, kAsg_t, w_gsNil, kGs_at, w_gsCons, w_gN, w_gTup, kSub1_at, kSub2_at, kAsg_s, kExpr_at, w_expr, kRet_at, w_retS, w_retN, w_skip, w_brk, w_cnt, kIfS_t, kIfS_f, w_ifS, w_raise, kPar_at, w_par, kPar3_at, w_par3, w_var0, w_varS, w_C, w_nil, kCons1_at, w_cons, k2_at, w_2, w_1, w_call, w_B, w_asB, w_tru, w_trB, kAnd_t, kAnd_f, w_and, kOr_t, kOr_f, w_or, w_not, kAndV_t, kAndV_f, w_andV, kOrV_t, kOrV_f, w_orV, kIf_t, kIf_f, w_if, k3a_at, k3b_at, k3c_t, k3c_f, w_3c, kSl1_at, kSl2_at, w_sl, w_noneI, kSomeI_at, w_someI, flD_rt, flD_nx, kFin_at, isV_at, isE_at, kGc_e, kFor1_at, kFor2_nx, kFor2_ct, kFor2_bk, kFor2_rt, kFor_at, w_for, w_it, w_itN, w_itT, w_itL, kLc_at, w_lc, w_yes, w_add, w_sub, w_neg, w_cI, w_abs, w_intI, w_gcd, w_lenT, w_lenL, w_listT, w_listL, w_listS, w_tupT, w_tupL, w_slT, w_slL, w_zipT, w_zipL, w_isN, w_notB, isi_int, isi_bl, isi_non, isi_str, isi_tup, isi_lst, isNon, List.set_cons_zero, List.set_cons_succ, List.map_cons, List.map_nil, List.replicate_succ, List.replicate_zero, List.cons_append, List.nil_append, List.length_cons, List.length_nil, Bool.not_true, Bool.not_false, decide_true, decide_false, if_true, if_false, reduceIte, Nat.reduceAdd, Nat.reduceSub, Bool.false_eq_true, wipeD, w_def, wp_gc, eq_self, kGc_v, Int.reduceToNat, decide_eq_true h1, isT]
      simp only [kGc_v, isV_at, Bool.true_and, and_self]
    · simp only [wp_ret, wp_exM, wp_bnd, bK_v, bK_e, w_seq, kSeq_nx, kSeq_rt, kSeq_bk, kSeq_ct, kNx_at, w_asg, kAsg_n, kAsg_t, w_gsNil, kGs_at, w_gsCons, w_gN, w_gTup, kSub1_at, kSub2_at, kAsg_s, kExpr_at, w_expr, kRet_at, w_retS, w_retN, w_skip, w_brk, w_cnt, kIfS_t, kIfS_f, w_ifS, w_raise, kPar_at, w_par, kPar3_at, w_par3, w_var0, w_varS, w_C, w_nil, kCons1_at, w_cons, k2_at, w_2, w_1, w_call, w_B, w_asB, w_tru, w_trB, kAnd_t, kAnd_f, w_and, kOr_t, kOr_f, w_or, w_not, kAndV_t, kAndV_f, w_andV, kOrV_t, kOrV_f, w_orV, kIf_t, kIf_f, w_if, k3a_at, k3b_at, k3c_t, k3c_f, w_3c, kSl1_at, kSl2_at, w_sl, w_noneI, kSomeI_at, w_someI, flD_rt, flD_nx, kFin_at, isV_at, isE_at, kGc_e, kFor1_at, kFor2_nx, kFor2_ct, kFor2_bk, kFor2_rt, kFor_at, w_for, w_it, w_itN, w_itT, w_itL, kLc_at, w_lc, w_yes, w_add, w_sub, w_neg, w_cI, w_abs, w_intI, w_gcd, w_lenT, w_lenL, w_listT, w_listL, w_listS, w_tupT, w_tupL, w_slT, w_slL, w_zipT, w_zipL, w_isN, w_notB, isi_int, isi_bl, isi_non, isi_str, isi_tup, isi_lst, isNon, List.set_cons_zero, List.set_cons_succ, List.map_cons, List.map_nil, List.replicate_succ, List.replicate_zero, List.cons_append, List.nil_append, List.length_cons, List.length_nil, Bool.not_true, Bool.not_false, decide_true, decide_false, if_true, if_false, reduceIte, Nat.reduceAdd, Nat.reduceSub, Bool.false_eq_true, wipeD, w_def, wp_gc, eq_self, kGc_v, Int.reduceToNat, decide_eq_false h1, isT]
      simp only [kGc_v, isV_at, Bool.false_and, and_self]
  | non => simp only [wp_ret, wp_exM, wp_bnd, bK_v, bK_e, w_seq, kSeq_nx, kSeq_rt, kSeq_bk, kSeq_ct, kNx_at, w_asg, kAsg_n, kAsg_t, w_gsNil, kGs_at, w_gsCons, w_gN, w_gTup, kSub1_at, kSub2_at, kAsg_s, kExpr_at, w_expr, kRet_at, w_retS, w_retN, w_skip, w_brk, w_cnt, kIfS_t, kIfS_f, w_ifS, w_raise, kPar_at, w_par, kPar3_at, w_par3, w_var0, w_varS, w_C, w_nil, kCons1_at, w_cons, k2_at, w_2, w_1, w_call, w_B, w_asB, w_tru, w_trB, kAnd_t, kAnd_f, w_and, kOr_t, kOr_f, w_or, w_not, kAndV_t, kAndV_f, w_andV, kOrV_t, kOrV_f, w_orV, kIf_t, kIf_f, w_if, k3a_at, k3b_at, k3c_t, k3c_f, w_3c, kSl1_at, kSl2_at, w_sl, w_noneI, kSomeI_at, w_someI, flD_rt, flD_nx, kFin_at, isV_at, isE_at, kGc_e, kFor1_at, kFor2_nx, kFor2_ct, kFor2_bk, kFor2_rt, kFor_at, w_for, w_it, w_itN, w_itT, w_itL, kLc_at, w_lc, w_yes, w_add, w_sub, w_neg, w_cI, w_abs, w_intI, w_gcd, w_lenT, w_lenL, w_listT, w_listL, w_listS, w_tupT, w_tupL, w_slT, w_slL, w_zipT, w_zipL, w_isN, w_notB, isi_int, isi_bl, isi_non, isi_str, isi_tup, isi_lst, isNon, List.set_cons_zero, List.set_cons_succ, List.map_cons, List.map_nil, List.replicate_succ, List.replicate_zero, List.cons_append, List.nil_append, List.length_cons, List.length_nil, Bool.not_true, Bool.not_false, decide_true, decide_false, if_true, if_false, reduceIte, Nat.reduceAdd, Nat.reduceSub, Bool.false_eq_true, wipeD, w_def, wp_gc, eq_self, kGc_v, Int.reduceToNat, isT, kGc_v, and_self]
  | bl _ => simp only [wp_ret, wp_exM, wp_bnd, bK_v, bK_e, w_seq, kSeq_nx, kSeq_rt, kSeq_bk, kSeq_ct, kNx_at, w_asg, kAsg_n, kAsg_t, w_gsNil, kGs_at, w_gsCons, w_gN, w_gTup, kSub1_at, kSub2_at, kAsg_s, kExpr_at, w_expr, kRet_at, w_retS, w_retN, w_skip, w_brk, w_cnt, kIfS_t, kIfS_f, w_ifS, w_raise, kPar_at, w_par, kPar3_at, w_par3, w_var0, w_varS, w_C, w_nil, kCons1_at, w_cons, k2_at, w_2, w_1, w_call, w_B, w_asB, w_tru, w_trB, kAnd_t, kAnd_f, w_and, kOr_t, kOr_f, w_or, w_not, kAndV_t, kAndV_f, w_andV, kOrV_t, kOrV_f, w_orV, kIf_t, kIf_f, w_if, k3a_at, k3b_at, k3c_t, k3c_f, w_3c, kSl1_at, kSl2_at, w_sl, w_noneI, kSomeI_at, w_someI, flD_rt, flD_nx, kFin_at, isV_at, isE_at, kGc_e, kFor1_at, kFor2_nx, kFor2_ct, kFor2_bk, kFor2_rt, kFor_at, w_for, w_it, w_itN, w_itT, w_itL, kLc_at, w_lc, w_yes, w_add, w_sub, w_neg, w_cI, w_abs, w_intI, w_gcd, w_lenT, w_lenL, w_listT, w_listL, w_listS, w_tupT, w_tupL, w_slT, w_slL, w_zipT, w_zipL, w_isN, w_notB, isi_int, isi_bl, isi_non, isi_str, isi_tup, isi_lst, isNon, List.set_cons_zero, List.set_cons_succ, List.map_cons, List.map_nil, List.replicate_succ, List.replicate_zero, List.cons_append, List.nil_append, List.length_cons, List.length_nil, Bool.not_true, Bool.not_false, decide_true, decide_false, if_true, if_false, reduceIte, Nat.reduceAdd, Nat.reduceSub, Bool.false_eq_true, wipeD, w_def, wp_gc, eq_self, kGc_v, Int.reduceToNat, isT, kGc_v, and_self]
  | str _ => simp only [wp_ret, wp_exM, wp_bnd, bK_v, bK_e, w_seq, kSeq_nx, kSeq_rt, kSeq_bk, kSeq_ct, kNx_at, w_asg, kAsg_n, kAsg_t, w_gsNil, kGs_at, w_gsCons, w_gN, w_gTup, kSub1_at, kSub2_at, kAsg_s, kExpr_at, w_expr, kRet_at, w_retS, w_retN, w_skip, w_brk, w_cnt, kIfS_t, kIfS_f, w_ifS, w_raise, kPar_at, w_par, kPar3_at, w_par3, w_var0, w_varS, w_C, w_nil, kCons1_at, w_cons, k2_at, w_2, w_1, w_call, w_B, w_asB, w_tru, w_trB, kAnd_t, kAnd_f, w_and, kOr_t, kOr_f, w_or, w_not, kAndV_t, kAndV_f, w_andV, kOrV_t, kOrV_f, w_orV, kIf_t, kIf_f, w_if, k3a_at, k3b_at, k3c_t, k3c_f, w_3c, kSl1_at, kSl2_at, w_sl, w_noneI, kSomeI_at, w_someI, flD_rt, flD_nx, kFin_at, isV_at, isE_at, kGc_e, kFor1_at, kFor2_nx, kFor2_ct, kFor2_bk, kFor2_rt, kFor_at, w_for, w_it, w_itN, w_itT, w_itL, kLc_at, w_lc, w_yes, w_add, w_sub, w_neg, w_cI, w_abs, w_intI, w_gcd, w_lenT, w_lenL, w_listT, w_listL, w_listS, w_tupT, w_tupL, w_slT, w_slL, w_zipT, w_zipL, w_isN, w_notB, isi_int, isi_bl, isi_non, isi_str, isi_tup, isi_lst, isNon, List.set_cons_zero, List.set_cons_succ, List.map_cons, List.map_nil, List.replicate_succ, List.replicate_zero, List.cons_append, List.nil_append, List.length_cons, List.length_nil, Bool.not_true, Bool.not_false, decide_true, decide_false, if_true, if_false, reduceIte, Nat.reduceAdd, Nat.reduceSub, Bool.false_eq_true, wipeD, w_def, wp_gc, eq_self, kGc_v, Int.reduceToNat, isT, kGc_v, and_self]
  | int _ => simp only [wp_ret, wp_exM, wp_bnd, bK_v, bK_e, w_seq, kSeq_nx, kSeq_rt, kSeq_bk, kSeq_ct, kNx_at, w_asg, kAsg_n, kAsg_t, w_gsNil, kGs_at, w_gsCons, w_gN, w_gTup, kSub1_at, kSub2_at, kAsg_s, kExpr_at, w_expr, kRet_at, w_retS, w_retN, w_skip, w_brk, w_cnt, kIfS_t, kIfS_f, w_ifS, w_raise, kPar_at, w_par, kPar3_at, w_par3, w_var0, w_varS, w_C, w_nil, kCons1_at, w_cons, k2_at, w_2, w_1, w_call, w_B, w_asB, w_tru, w_trB, kAnd_t, kAnd_f, w_and, kOr_t, kOr_f, w_or, w_not, kAndV_t, kAndV_f, w_andV, kOrV_t, kOrV_f, w_orV, kIf_t, kIf_f, w_if, k3a_at, k3b_at, k3c_t, k3c_f, w_3c, kSl1_at, kSl2_at, w_sl, w_noneI, kSomeI_at, w_someI, flD_rt, flD_nx, kFin_at, isV_at, isE_at, kGc_e, kFor1_at, kFor2_nx, kFor2_ct, kFor2_bk, kFor2_rt, kFor_at, w_for, w_it, w_itN, w_itT, w_itL, kLc_at, w_lc, w_yes, w_add, w_sub, w_neg, w_cI, w_abs, w_intI, w_gcd, w_lenT, w_lenL, w_listT, w_listL, w_listS, w_tupT, w_tupL, w_slT, w_slL, w_zipT, w_zipL, w_isN, w_notB, isi_int, isi_bl, isi_non, isi_str, isi_tup, isi_lst, isNon, List.set_cons_zero, List.set_cons_succ, List.map_cons, List.map_nil, List.replicate_succ, List.replicate_zero, List.cons_append, List.nil_append, List.length_cons, List.length_nil, Bool.not_true, Bool.not_false, decide_true, decide_false, if_true, if_false, reduceIte, Nat.reduceAdd, Nat.reduceSub, Bool.false_eq_true, wipeD, w_def, wp_gc, eq_self, kGc_v, Int.reduceToNat, isT, kGc_v, and_self]
  | lst _ => simp only [wp_ret, wp_exM, wp_bnd, bK_v, bK_e, w_seq, kSeq_nx, kSeq_rt, kSeq_bk, kSeq_ct, kNx_at, w_asg, kAsg_n, kAsg_t, w_gsNil, kGs_at, w_gsCons, w_gN, w_gTup, kSub1_at, kSub2_at, kAsg_s, kExpr_at, w_expr, kRet_at, w_retS, w_retN, w_skip, w_brk, w_cnt, kIfS_t, kIfS_f, w_ifS, w_raise, kPar_at, w_par, kPar3_at, w_par3, w_var0, w_varS, w_C, w_nil, kCons1_at, w_cons, k2_at, w_2, w_1, w_call, w_B, w_asB, w_tru, w_trB, kAnd_t, kAnd_f, w_and, kOr_t, kOr_f, w_or, w_not, kAndV_t, kAndV_f, w_andV, kOrV_t, kOrV_f, w_orV, kIf_t, kIf_f, w_if, k3a_at, k3b_at, k3c_t, k3c_f, w_3c, kSl1_at, kSl2_at, w_sl, w_noneI, kSomeI_at, w_someI, flD_rt, flD_nx, kFin_at, isV_at, isE_at, kGc_e, kFor1_at, kFor2_nx, kFor2_ct, kFor2_bk, kFor2_rt, kFor_at, w_for, w_it, w_itN, w_itT, w_itL, kLc_at, w_lc, w_yes, w_add, w_sub, w_neg, w_cI, w_abs, w_intI, w_gcd, w_lenT, w_lenL, w_listT, w_listL, w_listS, w_tupT, w_tupL, w_slT, w_slL, w_zipT, w_zipL, w_isN, w_notB, isi_int, isi_bl, isi_non, isi_str, isi_tup, isi_lst, isNon, List.set_cons_zero, List.set_cons_succ, List.map_cons, List.map_nil, List.replicate_succ, List.replicate_zero, List.cons_append, List.nil_append, List.length_cons, List.length_nil, Bool.not_true, Bool.not_false, decide_true, decide_false, if_true, if_false, reduceIte, Nat.reduceAdd, Nat.reduceSub, Bool.false_eq_true, wipeD, w_def, wp_gc, eq_self, kGc_v, Int.reduceToNat, isT, kGc_v, and_self]
  | ty _ => cases h
  | glo _ => cases h
  | ref _ => cases h
  | scr _ => cases h
  | raw _ => cases h
theorem asBs_map {α : Type} (f : α → Bool) : ∀ l : List α, asBs (l.map fun x => D.bl (f x)) = some (l.map f)
  | [] => rfl
  | x :: r => by
    simp [asBs, asBs_map f r]
/-- all([f(x) for x in xs]) -/
theorem all_ev {α : Type} (f : α → Bool) (xs : List α) : fAll [.lst (xs.map fun x => D.bl (f x))] = ret (.bl (xs.all f)) := by
  show bnd (items (.lst (xs.map fun x => D.bl (f x)))) (fun ds => bnd (getO (asBs ds)) fun bs => ret (D.bl (bs.all id))) = _
  have e : items (.lst (xs.map fun x => D.bl (f x))) = ret (xs.map fun x => D.bl (f x)) := rfl
  rw [e, ev_ret, asBs_map, getO_some, ev_ret, List.all_map]
  rfl
end Mir
set_option Elab.async false
set_option linter.all false
set_option maxRecDepth 100000
set_option maxHeartbeats 4000000
namespace Mir
open PySem PySem.Spec PyProof.Rows L2
theorem rg_evI {j : Int} (h0 : 0 ≤ j) (h : j ≤ 1000000) : fRg1 [.int j] = ret ((List.range j.toNat).map fun i => D.int (i : Nat)) := by
  have e : okI j = true := by
    have h1 : -(2 ^ 62 : Int) ≤ j := by omega
    have h2 : j < 2 ^ 62 := by omega
    unfold okI
    rw [decide_eq_true h1, decide_eq_true h2]
    rfl
  have e2 : fRg1 [.int j] = ret (rgD 0 j.toNat) := if_pos e
  rw [e2]
  unfold rgD
  exact congrArg ret (List.map_congr_left fun i _ => by rw [Int.zero_add])
theorem cut_to (xs : List D) {i : Int} (h0 : 0 ≤ i) (h1 : i ≤ xs.length) : cutD xs none (some i) = xs.take i.toNat := by
  unfold cutD HT.sIx
  simp only
  rw [if_neg (by omega), List.drop_zero, Nat.sub_zero, Nat.min_eq_left (by omega)]
/-! ### wave numbers -/
abbrev wv (p : Int × Int) : D := .tup [.int p.1, .int p.2]
def mk (a t : Int) : Int × Int := if 0 < a then (a, t % 8) else (0, 0)
def V (p : Int × Int) : Prop := (0 < p.1 ∧ 0 ≤ p.2 ∧ p.2 ≤ 7) ∨ p = (0, 0)
theorem mk_pos {a : Int} (t : Int) (h : 0 < a) : mk a t = (a, t % 8) := if_pos h
theorem mk_no {a : Int} (t : Int) (h : ¬ 0 < a) : mk a t = (0, 0) := if_neg h
theorem V.mk (a t : Int) : V (Mir.mk a t) := by
  unfold Mir.mk
  split
  · exact .inl ⟨by assumption, Int.emod_nonneg _ (by omega), by have := Int.emod_lt_of_pos t (show (0 : Int) < 8 by omega); show t % 8 ≤ 7; omega⟩
  · exact .inr rfl
def mw (p q : Int × Int) : Int × Int := mk (p.1 * q.1) (p.2 + q.2)
def bk (p : Int × Int) : Int × Int := mk p.1 (-p.2)
theorem mw_comm (p q : Int × Int) : mw p q = mw q p := by
  unfold mw
  rw [Int.mul_comm, Int.add_comm]
theorem mw_zero (p : Int × Int) : mw p (0, 0) = (0, 0) := by
  unfold mw
  rw [Int.mul_zero]
  rfl
theorem zero_mw (p : Int × Int) : mw (0, 0) p = (0, 0) := by
  unfold mw
  rw [Int.zero_mul]
  rfl
theorem mw_pos {p q : Int × Int} (h1 : 0 < p.1) (h2 : 0 < q.1) : mw p q = (p.1 * q.1, (p.2 + q.2) % 8) := mk_pos _ (Int.mul_pos h1 h2)
theorem mw_assoc {p q r : Int × Int} (hp : V p) (hq : V q) (hr : V r) : mw (mw p q) r = mw p (mw q r) := by
  rcases hp with ⟨p0, _⟩ | rfl
  · rcases hq with ⟨q0, _⟩ | rfl
    · rcases hr with ⟨r0, _⟩ | rfl
      · rw [mw_pos p0 q0, mw_pos q0 r0, mw_pos (Int.mul_pos p0 q0) r0, mw_pos p0 (Int.mul_pos q0 r0)]
        simp only [Int.mul_assoc, Prod.mk.injEq, true_and]
        omega
      · rw [mw_zero, mw_zero, mw_zero]
    · rw [mw_zero, zero_mw, mw_zero]
  · rw [zero_mw, zero_mw, zero_mw]
theorem bk_pos {p : Int × Int} (h : 0 < p.1) : bk p = (p.1, (-p.2) % 8) := mk_pos _ h
theorem bk_put {p : Int × Int} : mk p.1 (8 - p.2) = bk p := by
  unfold bk mk
  split
  · simp only [Prod.mk.injEq, true_and]
    omega
  · rfl
theorem bk_bk {p : Int × Int} (h : V p) : bk (bk p) = p := by
  rcases h with ⟨p0, p1, p2⟩ | rfl
  · rw [bk_pos p0, bk_pos (p := (p.1, -p.2 % 8)) p0]
    obtain ⟨a, s⟩ := p
    simp only [Prod.mk.injEq, true_and] at *
    omega
  · rfl
theorem mw_bk {p : Int × Int} (h : V p) : mw p (bk p) = mk (p.1 * p.1) 0 := by
  rcases h with ⟨p0, p1, p2⟩ | rfl
  · rw [bk_pos p0, mw_pos (q := (p.1, -p.2 % 8)) p0 p0, mk_pos _ (Int.mul_pos p0 p0)]
    simp only [Prod.mk.injEq, true_and]
    omega
  · rfl
theorem bk_mw {p q : Int × Int} (hp : V p) (hq : V q) : bk (mw p q) = mw (bk p) (bk q) := by
  rcases hp with ⟨p0, _⟩ | rfl
  · rcases hq with ⟨q0, _⟩ | rfl
    · rw [bk_pos p0, bk_pos q0, mw_pos p0 q0, mw_pos (p := (p.1, -p.2 % 8)) (q := (q.1, -q.2 % 8)) p0 q0, bk_pos (p := (p.1 * q.1, (p.2 + q.2) % 8)) (Int.mul_pos p0 q0)]
      simp only [Prod.mk.injEq, true_and]
      omega
    · have e : bk (0, 0) = (0, 0) := rfl
      rw [mw_zero, e, mw_zero]
  · have e : bk (0, 0) = (0, 0) := rfl
    rw [zero_mw, e, zero_mw]
theorem sm_mk {k : Nat} {a t : Int} (h : sm k a) : sm k (Mir.mk a t).1 := by
  unfold Mir.mk
  split
  · exact h
  · exact Nat.two_pow_pos k
/-! ### the defs -/
theorem ix0 (a b : D) : fIx (.tup [a, b]) (.int 0) = ret a := rfl
theorem ix1 (a b : D) : fIx (.tup [a, b]) (.int 1) = ret b := rfl
theorem tu2 (a b : D) : fTup [a, b] = ret (.tup [a, b]) := rfl
theorem feq00 (a b : Int) : fEq false (.tup [.int a, .int b]) (.tup [.int 0, .int 0]) = ret (.bl (decide (a = 0) && decide (b = 0))) := by
  have e := feq_tupI [a, b] [0, 0] (by simp) (by simp) false
  have e2 : decide ([a, b] = [0, 0]) = (decide (a = 0) && decide (b = 0)) := by
    by_cases h : a = 0 <;> by_cases h2 : b = 0 <;> simp [h, h2]
  rw [e2] at e
  exact e
theorem e_at (a t : Int) : m_wave_at [.int a, .int t] = ret (wv (mk a t)) := by
  refine pure_of fun S => ?_
  have e := mod_i (i := t) (j := 8) (by omega)
  by_cases h : 0 < a
  · simp only [wp_ret, wp_exM, wp_bnd, bK_v, bK_e, w_seq, kSeq_nx, kSeq_rt, kSeq_bk, kSeq_ct, kNx_at, w_asg, kAsg_n, kAsg_t, w_gsNil, kGs_at, w_gsCons, w_gN, w_gTup, kSub1_at, kSub2_at, kAsg_s, kExpr_at, w_expr, kRet_at, w_retS, w_retN, w_skip, w_brk, w_cnt, kIfS_t, kIfS_f, w_ifS, w_raise, kPar_at, w_par, kPar3_at, w_par3, w_var0, w_varS, w_C, w_nil, kCons1_at, w_cons, k2_at, w_2, w_1, w_call, w_B, w_asB, w_tru, w_trB, kAnd_t, kAnd_f, w_and, kOr_t, kOr_f, w_or, w_not, kAndV_t, kAndV_f, w_andV, kOrV_t, kOrV_f, w_orV, kIf_t, kIf_f, w_if, k3a_at, k3b_at, k3c_t, k3c_f, w_3c, kSl1_at, kSl2_at, w_sl, w_noneI, kSomeI_at, w_someI, flD_rt, flD_nx, kFin_at, isV_at, isE_at, kGc_e, kFor1_at, kFor2_nx, kFor2_ct, kFor2_bk, kFor2_rt, kFor_at, w_for, w_it, w_itN, w_itT, w_itL, kLc_at, w_lc, w_yes, w_add, w_sub, w_neg, w_cI, w_abs, w_intI, w_gcd, w_lenT, w_lenL, w_listT, w_listL, w_listS, w_tupT, w_tupL, w_slT, w_slL, w_zipT, w_zipL, w_isN, w_notB, isi_int, isi_bl, isi_non, isi_str, isi_tup, isi_lst, isNon, List.set_cons_zero, List.set_cons_succ, List.map_cons, List.map_nil, List.replicate_succ, List.replicate_zero, List.cons_append, List.nil_append, List.length_cons, List.length_nil, Bool.not_true, Bool.not_false, decide_true, decide_false, if_true, if_false, reduceIte, Nat.reduceAdd, Nat.reduceSub, Bool.false_eq_true, wipeD, w_def, wp_gc, eq_self, kGc_v, Int.reduceToNat, m_wave_at, bd_wave_at, decide_eq_true h, e, tu2, mk_pos t h, and_self]
  · simp only [wp_ret, wp_exM, wp_bnd, bK_v, bK_e, w_seq, kSeq_nx, kSeq_rt, kSeq_bk, kSeq_ct, kNx_at, w_asg, kAsg_n, kAsg_t, w_gsNil, kGs_at, w_gsCons, w_gN, w_gTup, kSub1_at, kSub2_at, kAsg_s, kExpr_at, w_expr, kRet_at, w_retS, w_retN, w_skip, w_brk, w_cnt, kIfS_t, kIfS_f, w_ifS, w_raise, kPar_at, w_par, kPar3_at, w_par3, w_var0, w_varS, w_C, w_nil, kCons1_at, w_cons, k2_at, w_2, w_1, w_call, w_B, w_asB, w_tru, w_trB, kAnd_t, kAnd_f, w_and, kOr_t, kOr_f, w_or, w_not, kAndV_t, kAndV_f, w_andV, kOrV_t, kOrV_f, w_orV, kIf_t, kIf_f, w_if, k3a_at, k3b_at, k3c_t, k3c_f, w_3c, kSl1_at, kSl2_at, w_sl, w_noneI, kSomeI_at, w_someI, flD_rt, flD_nx, kFin_at, isV_at, isE_at, kGc_e, kFor1_at, kFor2_nx, kFor2_ct, kFor2_bk, kFor2_rt, kFor_at, w_for, w_it, w_itN, w_itT, w_itL, kLc_at, w_lc, w_yes, w_add, w_sub, w_neg, w_cI, w_abs, w_intI, w_gcd, w_lenT, w_lenL, w_listT, w_listL, w_listS, w_tupT, w_tupL, w_slT, w_slL, w_zipT, w_zipL, w_isN, w_notB, isi_int, isi_bl, isi_non, isi_str, isi_tup, isi_lst, isNon, List.set_cons_zero, List.set_cons_succ, List.map_cons, List.map_nil, List.replicate_succ, List.replicate_zero, List.cons_append, List.nil_append, List.length_cons, List.length_nil, Bool.not_true, Bool.not_false, decide_true, decide_false, if_true, if_false, reduceIte, Nat.reduceAdd, Nat.reduceSub, Bool.false_eq_true, wipeD, w_def, wp_gc, eq_self, kGc_v, Int.reduceToNat, m_wave_at, bd_wave_at, decide_eq_false h, e, tu2, mk_no t h, and_self]
theorem e_put (a t : Int) : m__law_put [.int a, .int t] = ret (wv (mk a t)) := by
  refine pure_of fun S => ?_
  have e := mod_i (i := t) (j := 8) (by omega)
  by_cases h : 0 < a
  · simp only [wp_ret, wp_exM, wp_bnd, bK_v, bK_e, w_seq, kSeq_nx, kSeq_rt, kSeq_bk, kSeq_ct, kNx_at, w_asg, kAsg_n, kAsg_t, w_gsNil, kGs_at, w_gsCons, w_gN, w_gTup, kSub1_at, kSub2_at, kAsg_s, kExpr_at, w_expr, kRet_at, w_retS, w_retN, w_skip, w_brk, w_cnt, kIfS_t, kIfS_f, w_ifS, w_raise, kPar_at, w_par, kPar3_at, w_par3, w_var0, w_varS, w_C, w_nil, kCons1_at, w_cons, k2_at, w_2, w_1, w_call, w_B, w_asB, w_tru, w_trB, kAnd_t, kAnd_f, w_and, kOr_t, kOr_f, w_or, w_not, kAndV_t, kAndV_f, w_andV, kOrV_t, kOrV_f, w_orV, kIf_t, kIf_f, w_if, k3a_at, k3b_at, k3c_t, k3c_f, w_3c, kSl1_at, kSl2_at, w_sl, w_noneI, kSomeI_at, w_someI, flD_rt, flD_nx, kFin_at, isV_at, isE_at, kGc_e, kFor1_at, kFor2_nx, kFor2_ct, kFor2_bk, kFor2_rt, kFor_at, w_for, w_it, w_itN, w_itT, w_itL, kLc_at, w_lc, w_yes, w_add, w_sub, w_neg, w_cI, w_abs, w_intI, w_gcd, w_lenT, w_lenL, w_listT, w_listL, w_listS, w_tupT, w_tupL, w_slT, w_slL, w_zipT, w_zipL, w_isN, w_notB, isi_int, isi_bl, isi_non, isi_str, isi_tup, isi_lst, isNon, List.set_cons_zero, List.set_cons_succ, List.map_cons, List.map_nil, List.replicate_succ, List.replicate_zero, List.cons_append, List.nil_append, List.length_cons, List.length_nil, Bool.not_true, Bool.not_false, decide_true, decide_false, if_true, if_false, reduceIte, Nat.reduceAdd, Nat.reduceSub, Bool.false_eq_true, wipeD, w_def, wp_gc, eq_self, kGc_v, Int.reduceToNat, m__law_put, bd__law_put, decide_eq_true h, e, tu2, mk_pos t h, and_self]
  · simp only [wp_ret, wp_exM, wp_bnd, bK_v, bK_e, w_seq, kSeq_nx, kSeq_rt, kSeq_bk, kSeq_ct, kNx_at, w_asg, kAsg_n, kAsg_t, w_gsNil, kGs_at, w_gsCons, w_gN, w_gTup, kSub1_at, kSub2_at, kAsg_s, kExpr_at, w_expr, kRet_at, w_retS, w_retN, w_skip, w_brk, w_cnt, kIfS_t, kIfS_f, w_ifS, w_raise, kPar_at, w_par, kPar3_at, w_par3, w_var0, w_varS, w_C, w_nil, kCons1_at, w_cons, k2_at, w_2, w_1, w_call, w_B, w_asB, w_tru, w_trB, kAnd_t, kAnd_f, w_and, kOr_t, kOr_f, w_or, w_not, kAndV_t, kAndV_f, w_andV, kOrV_t, kOrV_f, w_orV, kIf_t, kIf_f, w_if, k3a_at, k3b_at, k3c_t, k3c_f, w_3c, kSl1_at, kSl2_at, w_sl, w_noneI, kSomeI_at, w_someI, flD_rt, flD_nx, kFin_at, isV_at, isE_at, kGc_e, kFor1_at, kFor2_nx, kFor2_ct, kFor2_bk, kFor2_rt, kFor_at, w_for, w_it, w_itN, w_itT, w_itL, kLc_at, w_lc, w_yes, w_add, w_sub, w_neg, w_cI, w_abs, w_intI, w_gcd, w_lenT, w_lenL, w_listT, w_listL, w_listS, w_tupT, w_tupL, w_slT, w_slL, w_zipT, w_zipL, w_isN, w_notB, isi_int, isi_bl, isi_non, isi_str, isi_tup, isi_lst, isNon, List.set_cons_zero, List.set_cons_succ, List.map_cons, List.map_nil, List.replicate_succ, List.replicate_zero, List.cons_append, List.nil_append, List.length_cons, List.length_nil, Bool.not_true, Bool.not_false, decide_true, decide_false, if_true, if_false, reduceIte, Nat.reduceAdd, Nat.reduceSub, Bool.false_eq_true, wipeD, w_def, wp_gc, eq_self, kGc_v, Int.reduceToNat, m__law_put, bd__law_put, decide_eq_false h, e, tu2, mk_no t h, and_self]
theorem tw {d : D} (h : plD d = true) : m_is_tuple_of [d, .int 2, .int 2] = ret (.bl (isT 2 2 d)) := e_is_tuple_of 2 2 h
/-- what is_wave says of a pair of a number and anything plain -/
theorem e_is2 (a : Int) {d : D} (hd : plD d = true) (hn : a ≠ 0 ∨ ∃ b, d = .int b) : m_is_wave [.tup [.int a, d]] = ret (.bl (isW 0 7 d && (decide (0 < a) || (decide (a = 0) && match d with
    | .int b => decide (b = 0)
    | _ => false)))) := by
  refine pure_of fun S => ?_
  have t := tw (d := .tup [.int a, d]) rfl
  have t2 : isT 2 2 (.tup [.int a, d]) = true := rfl
  rw [t2] at t
  have w := e_is_whole (d := d) 0 7 hd
  by_cases h : isW 0 7 d = true
  · rw [h] at w
    obtain ⟨b, rfl⟩ : ∃ b, d = .int b := by
      cases d <;> first | exact ⟨_, rfl⟩ | cases h
    by_cases ha : 0 < a
    · simp only [wp_ret, wp_exM, wp_bnd, bK_v, bK_e, w_seq, kSeq_nx, kSeq_rt, kSeq_bk, kSeq_ct, kNx_at, w_asg, kAsg_n, kAsg_t, w_gsNil, kGs_at, w_gsCons, w_gN, w_gTup, kSub1_at, kSub2_at, kAsg_s, kExpr_at, w_expr, kRet_at, w_retS, w_retN, w_skip, w_brk, w_cnt, kIfS_t, kIfS_f, w_ifS, w_raise, kPar_at, w_par, kPar3_at, w_par3, w_var0, w_varS, w_C, w_nil, kCons1_at, w_cons, k2_at, w_2, w_1, w_call, w_B, w_asB, w_tru, w_trB, kAnd_t, kAnd_f, w_and, kOr_t, kOr_f, w_or, w_not, kAndV_t, kAndV_f, w_andV, kOrV_t, kOrV_f, w_orV, kIf_t, kIf_f, w_if, k3a_at, k3b_at, k3c_t, k3c_f, w_3c, kSl1_at, kSl2_at, w_sl, w_noneI, kSomeI_at, w_someI, flD_rt, flD_nx, kFin_at, isV_at, isE_at, kGc_e, kFor1_at, kFor2_nx, kFor2_ct, kFor2_bk, kFor2_rt, kFor_at, w_for, w_it, w_itN, w_itT, w_itL, kLc_at, w_lc, w_yes, w_add, w_sub, w_neg, w_cI, w_abs, w_intI, w_gcd, w_lenT, w_lenL, w_listT, w_listL, w_listS, w_tupT, w_tupL, w_slT, w_slL, w_zipT, w_zipL, w_isN, w_notB, isi_int, isi_bl, isi_non, isi_str, isi_tup, isi_lst, isNon, List.set_cons_zero, List.set_cons_succ, List.map_cons, List.map_nil, List.replicate_succ, List.replicate_zero, List.cons_append, List.nil_append, List.length_cons, List.length_nil, Bool.not_true, Bool.not_false, decide_true, decide_false, if_true, if_false, reduceIte, Nat.reduceAdd, Nat.reduceSub, Bool.false_eq_true, wipeD, w_def, wp_gc, eq_self, kGc_v, Int.reduceToNat, m_is_wave, bd_is_wave, t, w, ix0, ix1, decide_eq_true ha, h, Bool.true_and, Bool.true_or, and_self]
    · simp only [wp_ret, wp_exM, wp_bnd, bK_v, bK_e, w_seq, kSeq_nx, kSeq_rt, kSeq_bk, kSeq_ct, kNx_at, w_asg, kAsg_n, kAsg_t, w_gsNil, kGs_at, w_gsCons, w_gN, w_gTup, kSub1_at, kSub2_at, kAsg_s, kExpr_at, w_expr, kRet_at, w_retS, w_retN, w_skip, w_brk, w_cnt, kIfS_t, kIfS_f, w_ifS, w_raise, kPar_at, w_par, kPar3_at, w_par3, w_var0, w_varS, w_C, w_nil, kCons1_at, w_cons, k2_at, w_2, w_1, w_call, w_B, w_asB, w_tru, w_trB, kAnd_t, kAnd_f, w_and, kOr_t, kOr_f, w_or, w_not, kAndV_t, kAndV_f, w_andV, kOrV_t, kOrV_f, w_orV, kIf_t, kIf_f, w_if, k3a_at, k3b_at, k3c_t, k3c_f, w_3c, kSl1_at, kSl2_at, w_sl, w_noneI, kSomeI_at, w_someI, flD_rt, flD_nx, kFin_at, isV_at, isE_at, kGc_e, kFor1_at, kFor2_nx, kFor2_ct, kFor2_bk, kFor2_rt, kFor_at, w_for, w_it, w_itN, w_itT, w_itL, kLc_at, w_lc, w_yes, w_add, w_sub, w_neg, w_cI, w_abs, w_intI, w_gcd, w_lenT, w_lenL, w_listT, w_listL, w_listS, w_tupT, w_tupL, w_slT, w_slL, w_zipT, w_zipL, w_isN, w_notB, isi_int, isi_bl, isi_non, isi_str, isi_tup, isi_lst, isNon, List.set_cons_zero, List.set_cons_succ, List.map_cons, List.map_nil, List.replicate_succ, List.replicate_zero, List.cons_append, List.nil_append, List.length_cons, List.length_nil, Bool.not_true, Bool.not_false, decide_true, decide_false, if_true, if_false, reduceIte, Nat.reduceAdd, Nat.reduceSub, Bool.false_eq_true, wipeD, w_def, wp_gc, eq_self, kGc_v, Int.reduceToNat, m_is_wave, bd_is_wave, t, w, ix0, ix1, tu2, feq00, decide_eq_false ha, h, Bool.true_and, Bool.false_or, and_self]
  · rw [Bool.not_eq_true] at h
    rw [h] at w
    simp only [wp_ret, wp_exM, wp_bnd, bK_v, bK_e, w_seq, kSeq_nx, kSeq_rt, kSeq_bk, kSeq_ct, kNx_at, w_asg, kAsg_n, kAsg_t, w_gsNil, kGs_at, w_gsCons, w_gN, w_gTup, kSub1_at, kSub2_at, kAsg_s, kExpr_at, w_expr, kRet_at, w_retS, w_retN, w_skip, w_brk, w_cnt, kIfS_t, kIfS_f, w_ifS, w_raise, kPar_at, w_par, kPar3_at, w_par3, w_var0, w_varS, w_C, w_nil, kCons1_at, w_cons, k2_at, w_2, w_1, w_call, w_B, w_asB, w_tru, w_trB, kAnd_t, kAnd_f, w_and, kOr_t, kOr_f, w_or, w_not, kAndV_t, kAndV_f, w_andV, kOrV_t, kOrV_f, w_orV, kIf_t, kIf_f, w_if, k3a_at, k3b_at, k3c_t, k3c_f, w_3c, kSl1_at, kSl2_at, w_sl, w_noneI, kSomeI_at, w_someI, flD_rt, flD_nx, kFin_at, isV_at, isE_at, kGc_e, kFor1_at, kFor2_nx, kFor2_ct, kFor2_bk, kFor2_rt, kFor_at, w_for, w_it, w_itN, w_itT, w_itL, kLc_at, w_lc, w_yes, w_add, w_sub, w_neg, w_cI, w_abs, w_intI, w_gcd, w_lenT, w_lenL, w_listT, w_listL, w_listS, w_tupT, w_tupL, w_slT, w_slL, w_zipT, w_zipL, w_isN, w_notB, isi_int, isi_bl, isi_non, isi_str, isi_tup, isi_lst, isNon, List.set_cons_zero, List.set_cons_succ, List.map_cons, List.map_nil, List.replicate_succ, List.replicate_zero, List.cons_append, List.nil_append, List.length_cons, List.length_nil, Bool.not_true, Bool.not_false, decide_true, decide_false, if_true, if_false, reduceIte, Nat.reduceAdd, Nat.reduceSub, Bool.false_eq_true, wipeD, w_def, wp_gc, eq_self, kGc_v, Int.reduceToNat, m_is_wave, bd_is_wave, t, w, ix1, h, Bool.false_and, and_self]
theorem e_is {p : Int × Int} (h : V p) : m_is_wave [wv p] = ret (.bl true) := by
  rw [e_is2 p.1 (d := .int p.2) rfl (.inr ⟨_, rfl⟩)]
  rcases h with ⟨h1, h2, h3⟩ | rfl
  · simp [isW, h1, h2, h3]
  · rfl
theorem e_isn {d : D} (h : plD d = true) (ht : isT 2 2 d = false) : m_is_wave [d] = ret (.bl false) := by
  refine pure_of fun S => ?_
  have t := tw h
  rw [ht] at t
  simp only [wp_ret, wp_exM, wp_bnd, bK_v, bK_e, w_seq, kSeq_nx, kSeq_rt, kSeq_bk, kSeq_ct, kNx_at, w_asg, kAsg_n, kAsg_t, w_gsNil, kGs_at, w_gsCons, w_gN, w_gTup, kSub1_at, kSub2_at, kAsg_s, kExpr_at, w_expr, kRet_at, w_retS, w_retN, w_skip, w_brk, w_cnt, kIfS_t, kIfS_f, w_ifS, w_raise, kPar_at, w_par, kPar3_at, w_par3, w_var0, w_varS, w_C, w_nil, kCons1_at, w_cons, k2_at, w_2, w_1, w_call, w_B, w_asB, w_tru, w_trB, kAnd_t, kAnd_f, w_and, kOr_t, kOr_f, w_or, w_not, kAndV_t, kAndV_f, w_andV, kOrV_t, kOrV_f, w_orV, kIf_t, kIf_f, w_if, k3a_at, k3b_at, k3c_t, k3c_f, w_3c, kSl1_at, kSl2_at, w_sl, w_noneI, kSomeI_at, w_someI, flD_rt, flD_nx, kFin_at, isV_at, isE_at, kGc_e, kFor1_at, kFor2_nx, kFor2_ct, kFor2_bk, kFor2_rt, kFor_at, w_for, w_it, w_itN, w_itT, w_itL, kLc_at, w_lc, w_yes, w_add, w_sub, w_neg, w_cI, w_abs, w_intI, w_gcd, w_lenT, w_lenL, w_listT, w_listL, w_listS, w_tupT, w_tupL, w_slT, w_slL, w_zipT, w_zipL, w_isN, w_notB, isi_int, isi_bl, isi_non, isi_str, isi_tup, isi_lst, isNon, List.set_cons_zero, List.set_cons_succ, List.map_cons, List.map_nil, List.replicate_succ, List.replicate_zero, List.cons_append, List.nil_append, List.length_cons, List.length_nil, Bool.not_true, Bool.not_false, decide_true, decide_false, if_true, if_false, reduceIte, Nat.reduceAdd, Nat.reduceSub, Bool.false_eq_true, wipeD, w_def, wp_gc, eq_self, kGc_v, Int.reduceToNat, m_is_wave, bd_is_wave, t, and_self]
theorem e_need {p : Int × Int} (h : V p) : m_need_wave [wv p] = ret .non := by
  refine pure_of fun S => ?_
  simp only [wp_ret, wp_exM, wp_bnd, bK_v, bK_e, w_seq, kSeq_nx, kSeq_rt, kSeq_bk, kSeq_ct, kNx_at, w_asg, kAsg_n, kAsg_t, w_gsNil, kGs_at, w_gsCons, w_gN, w_gTup, kSub1_at, kSub2_at, kAsg_s, kExpr_at, w_expr, kRet_at, w_retS, w_retN, w_skip, w_brk, w_cnt, kIfS_t, kIfS_f, w_ifS, w_raise, kPar_at, w_par, kPar3_at, w_par3, w_var0, w_varS, w_C, w_nil, kCons1_at, w_cons, k2_at, w_2, w_1, w_call, w_B, w_asB, w_tru, w_trB, kAnd_t, kAnd_f, w_and, kOr_t, kOr_f, w_or, w_not, kAndV_t, kAndV_f, w_andV, kOrV_t, kOrV_f, w_orV, kIf_t, kIf_f, w_if, k3a_at, k3b_at, k3c_t, k3c_f, w_3c, kSl1_at, kSl2_at, w_sl, w_noneI, kSomeI_at, w_someI, flD_rt, flD_nx, kFin_at, isV_at, isE_at, kGc_e, kFor1_at, kFor2_nx, kFor2_ct, kFor2_bk, kFor2_rt, kFor_at, w_for, w_it, w_itN, w_itT, w_itL, kLc_at, w_lc, w_yes, w_add, w_sub, w_neg, w_cI, w_abs, w_intI, w_gcd, w_lenT, w_lenL, w_listT, w_listL, w_listS, w_tupT, w_tupL, w_slT, w_slL, w_zipT, w_zipL, w_isN, w_notB, isi_int, isi_bl, isi_non, isi_str, isi_tup, isi_lst, isNon, List.set_cons_zero, List.set_cons_succ, List.map_cons, List.map_nil, List.replicate_succ, List.replicate_zero, List.cons_append, List.nil_append, List.length_cons, List.length_nil, Bool.not_true, Bool.not_false, decide_true, decide_false, if_true, if_false, reduceIte, Nat.reduceAdd, Nat.reduceSub, Bool.false_eq_true, wipeD, w_def, wp_gc, eq_self, kGc_v, Int.reduceToNat, m_need_wave, bd_need_wave, e_is h, and_self]
theorem e_mw {p q : Int × Int} {k l : Nat} (hp : V p) (hq : V q) (sp : sm k p.1) (sq : sm l q.1) (hk : k + l ≤ 100000) : m_wave_product [wv p, wv q] = ret (wv (mw p q)) := by
  refine pure_of fun S => ?_
  simp only [wp_ret, wp_exM, wp_bnd, bK_v, bK_e, w_seq, kSeq_nx, kSeq_rt, kSeq_bk, kSeq_ct, kNx_at, w_asg, kAsg_n, kAsg_t, w_gsNil, kGs_at, w_gsCons, w_gN, w_gTup, kSub1_at, kSub2_at, kAsg_s, kExpr_at, w_expr, kRet_at, w_retS, w_retN, w_skip, w_brk, w_cnt, kIfS_t, kIfS_f, w_ifS, w_raise, kPar_at, w_par, kPar3_at, w_par3, w_var0, w_varS, w_C, w_nil, kCons1_at, w_cons, k2_at, w_2, w_1, w_call, w_B, w_asB, w_tru, w_trB, kAnd_t, kAnd_f, w_and, kOr_t, kOr_f, w_or, w_not, kAndV_t, kAndV_f, w_andV, kOrV_t, kOrV_f, w_orV, kIf_t, kIf_f, w_if, k3a_at, k3b_at, k3c_t, k3c_f, w_3c, kSl1_at, kSl2_at, w_sl, w_noneI, kSomeI_at, w_someI, flD_rt, flD_nx, kFin_at, isV_at, isE_at, kGc_e, kFor1_at, kFor2_nx, kFor2_ct, kFor2_bk, kFor2_rt, kFor_at, w_for, w_it, w_itN, w_itT, w_itL, kLc_at, w_lc, w_yes, w_add, w_sub, w_neg, w_cI, w_abs, w_intI, w_gcd, w_lenT, w_lenL, w_listT, w_listL, w_listS, w_tupT, w_tupL, w_slT, w_slL, w_zipT, w_zipL, w_isN, w_notB, isi_int, isi_bl, isi_non, isi_str, isi_tup, isi_lst, isNon, List.set_cons_zero, List.set_cons_succ, List.map_cons, List.map_nil, List.replicate_succ, List.replicate_zero, List.cons_append, List.nil_append, List.length_cons, List.length_nil, Bool.not_true, Bool.not_false, decide_true, decide_false, if_true, if_false, reduceIte, Nat.reduceAdd, Nat.reduceSub, Bool.false_eq_true, wipeD, w_def, wp_gc, eq_self, kGc_v, Int.reduceToNat, m_wave_product, bd_wave_product, e_need hp, e_need hq, ix0, ix1, mul_i k l sp sq (by omega), e_at, mw, and_self]
theorem e_bk {p : Int × Int} (hp : V p) : m_wave_back [wv p] = ret (wv (bk p)) := by
  refine pure_of fun S => ?_
  simp only [wp_ret, wp_exM, wp_bnd, bK_v, bK_e, w_seq, kSeq_nx, kSeq_rt, kSeq_bk, kSeq_ct, kNx_at, w_asg, kAsg_n, kAsg_t, w_gsNil, kGs_at, w_gsCons, w_gN, w_gTup, kSub1_at, kSub2_at, kAsg_s, kExpr_at, w_expr, kRet_at, w_retS, w_retN, w_skip, w_brk, w_cnt, kIfS_t, kIfS_f, w_ifS, w_raise, kPar_at, w_par, kPar3_at, w_par3, w_var0, w_varS, w_C, w_nil, kCons1_at, w_cons, k2_at, w_2, w_1, w_call, w_B, w_asB, w_tru, w_trB, kAnd_t, kAnd_f, w_and, kOr_t, kOr_f, w_or, w_not, kAndV_t, kAndV_f, w_andV, kOrV_t, kOrV_f, w_orV, kIf_t, kIf_f, w_if, k3a_at, k3b_at, k3c_t, k3c_f, w_3c, kSl1_at, kSl2_at, w_sl, w_noneI, kSomeI_at, w_someI, flD_rt, flD_nx, kFin_at, isV_at, isE_at, kGc_e, kFor1_at, kFor2_nx, kFor2_ct, kFor2_bk, kFor2_rt, kFor_at, w_for, w_it, w_itN, w_itT, w_itL, kLc_at, w_lc, w_yes, w_add, w_sub, w_neg, w_cI, w_abs, w_intI, w_gcd, w_lenT, w_lenL, w_listT, w_listL, w_listS, w_tupT, w_tupL, w_slT, w_slL, w_zipT, w_zipL, w_isN, w_notB, isi_int, isi_bl, isi_non, isi_str, isi_tup, isi_lst, isNon, List.set_cons_zero, List.set_cons_succ, List.map_cons, List.map_nil, List.replicate_succ, List.replicate_zero, List.cons_append, List.nil_append, List.length_cons, List.length_nil, Bool.not_true, Bool.not_false, decide_true, decide_false, if_true, if_false, reduceIte, Nat.reduceAdd, Nat.reduceSub, Bool.false_eq_true, wipeD, w_def, wp_gc, eq_self, kGc_v, Int.reduceToNat, m_wave_back, bd_wave_back, e_need hp, ix0, ix1, e_at, bk, and_self]
def pw (p : Int × Int) : Nat → Int × Int
  | 0 => (1, 0)
  | n + 1 => mw (pw p n) p
theorem pw_V {p : Int × Int} : ∀ n, V (pw p n)
  | 0 => .inl ⟨Int.one_pos, Int.le_refl 0, by show (0 : Int) ≤ 7; decide⟩
  | n + 1 => V.mk _ _
theorem pw_sm {p : Int × Int} {k : Nat} (hk : sm k p.1) : ∀ n, sm (1 + k * n) (pw p n).1
  | 0 => by
    show (1 : Int).natAbs < 2 ^ (1 + k * 0)
    rw [Nat.mul_zero]
    decide
  | n + 1 => by
    have := sm_mk (t := (pw p n).2 + p.2) (sm_mul (pw_sm hk n) hk)
    exact sm_mono this (by rw [Nat.mul_succ]; omega)
theorem e_pw {p : Int × Int} {n : Nat} {k : Nat} (hp : V p) (hn : n ≤ 60) (hk : sm k p.1) (hk2 : k ≤ 200) : m_wave_power [wv p, .int (n : Nat)] = ret (wv (pw p n)) := by
  refine pure_of fun S => ?_
  have w := e_is_whole (d := .int (n : Nat)) 0 60 rfl
  have w2 : isW 0 60 (.int (n : Nat)) = true := by
    simp [isW]
    omega
  rw [w2] at w
  have nw : m_need_whole [.int (n : Nat), .int 0, .int 60] = ret .non := pure_of fun S => by
    simp only [wp_ret, wp_exM, wp_bnd, bK_v, bK_e, w_seq, kSeq_nx, kSeq_rt, kSeq_bk, kSeq_ct, kNx_at, w_asg, kAsg_n, kAsg_t, w_gsNil, kGs_at, w_gsCons, w_gN, w_gTup, kSub1_at, kSub2_at, kAsg_s, kExpr_at, w_expr, kRet_at, w_retS, w_retN, w_skip, w_brk, w_cnt, kIfS_t, kIfS_f, w_ifS, w_raise, kPar_at, w_par, kPar3_at, w_par3, w_var0, w_varS, w_C, w_nil, kCons1_at, w_cons, k2_at, w_2, w_1, w_call, w_B, w_asB, w_tru, w_trB, kAnd_t, kAnd_f, w_and, kOr_t, kOr_f, w_or, w_not, kAndV_t, kAndV_f, w_andV, kOrV_t, kOrV_f, w_orV, kIf_t, kIf_f, w_if, k3a_at, k3b_at, k3c_t, k3c_f, w_3c, kSl1_at, kSl2_at, w_sl, w_noneI, kSomeI_at, w_someI, flD_rt, flD_nx, kFin_at, isV_at, isE_at, kGc_e, kFor1_at, kFor2_nx, kFor2_ct, kFor2_bk, kFor2_rt, kFor_at, w_for, w_it, w_itN, w_itT, w_itL, kLc_at, w_lc, w_yes, w_add, w_sub, w_neg, w_cI, w_abs, w_intI, w_gcd, w_lenT, w_lenL, w_listT, w_listL, w_listS, w_tupT, w_tupL, w_slT, w_slL, w_zipT, w_zipL, w_isN, w_notB, isi_int, isi_bl, isi_non, isi_str, isi_tup, isi_lst, isNon, List.set_cons_zero, List.set_cons_succ, List.map_cons, List.map_nil, List.replicate_succ, List.replicate_zero, List.cons_append, List.nil_append, List.length_cons, List.length_nil, Bool.not_true, Bool.not_false, decide_true, decide_false, if_true, if_false, reduceIte, Nat.reduceAdd, Nat.reduceSub, Bool.false_eq_true, wipeD, w_def, wp_gc, eq_self, kGc_v, Int.reduceToNat, m_need_whole, bd_need_whole, w, and_self]
  simp only [wp_ret, wp_exM, wp_bnd, bK_v, bK_e, w_seq, kSeq_nx, kSeq_rt, kSeq_bk, kSeq_ct, kNx_at, w_asg, kAsg_n, kAsg_t, w_gsNil, kGs_at, w_gsCons, w_gN, w_gTup, kSub1_at, kSub2_at, kAsg_s, kExpr_at, w_expr, kRet_at, w_retS, w_retN, w_skip, w_brk, w_cnt, kIfS_t, kIfS_f, w_ifS, w_raise, kPar_at, w_par, kPar3_at, w_par3, w_var0, w_varS, w_C, w_nil, kCons1_at, w_cons, k2_at, w_2, w_1, w_call, w_B, w_asB, w_tru, w_trB, kAnd_t, kAnd_f, w_and, kOr_t, kOr_f, w_or, w_not, kAndV_t, kAndV_f, w_andV, kOrV_t, kOrV_f, w_orV, kIf_t, kIf_f, w_if, k3a_at, k3b_at, k3c_t, k3c_f, w_3c, kSl1_at, kSl2_at, w_sl, w_noneI, kSomeI_at, w_someI, flD_rt, flD_nx, kFin_at, isV_at, isE_at, kGc_e, kFor1_at, kFor2_nx, kFor2_ct, kFor2_bk, kFor2_rt, kFor_at, w_for, w_it, w_itN, w_itT, w_itL, kLc_at, w_lc, w_yes, w_add, w_sub, w_neg, w_cI, w_abs, w_intI, w_gcd, w_lenT, w_lenL, w_listT, w_listL, w_listS, w_tupT, w_tupL, w_slT, w_slL, w_zipT, w_zipL, w_isN, w_notB, isi_int, isi_bl, isi_non, isi_str, isi_tup, isi_lst, isNon, List.set_cons_zero, List.set_cons_succ, List.map_cons, List.map_nil, List.replicate_succ, List.replicate_zero, List.cons_append, List.nil_append, List.length_cons, List.length_nil, Bool.not_true, Bool.not_false, decide_true, decide_false, if_true, if_false, reduceIte, Nat.reduceAdd, Nat.reduceSub, Bool.false_eq_true, wipeD, w_def, wp_gc, eq_self, kGc_v, Int.reduceToNat, m_wave_power, bd_wave_power, e_need hp, nw, tu2, rg_evI (show (0 : Int) ≤ (n : Nat) by omega) (show ((n : Nat) : Int) ≤ 1000000 by omega), Int.toNat_natCast]
  refine wp_for (fun i : Nat => D.int (i : Nat)) (fun pre r env S' => pre ++ r = List.range n ∧ S' = S ∧ ∃ d3, env = [some (wv p), some (.int (n : Nat)), some (wv (pw p pre.length)), d3]) (List.range n) [] _ S ⟨rfl, rfl, none, rfl⟩ (fun pre x r env S' hi => ?_) (fun pre env S' hi => ?_)
  · obtain ⟨hp', rfl, d3, rfl⟩ := hi
    have hl : pre.length ≤ 60 := by
      have := congrArg List.length hp'
      rw [List.length_append, List.length_range] at this
      omega
    have hb : k * pre.length ≤ 200 * 60 := Nat.mul_le_mul hk2 hl
    simp only [wp_ret, wp_exM, wp_bnd, bK_v, bK_e, w_seq, kSeq_nx, kSeq_rt, kSeq_bk, kSeq_ct, kNx_at, w_asg, kAsg_n, kAsg_t, w_gsNil, kGs_at, w_gsCons, w_gN, w_gTup, kSub1_at, kSub2_at, kAsg_s, kExpr_at, w_expr, kRet_at, w_retS, w_retN, w_skip, w_brk, w_cnt, kIfS_t, kIfS_f, w_ifS, w_raise, kPar_at, w_par, kPar3_at, w_par3, w_var0, w_varS, w_C, w_nil, kCons1_at, w_cons, k2_at, w_2, w_1, w_call, w_B, w_asB, w_tru, w_trB, kAnd_t, kAnd_f, w_and, kOr_t, kOr_f, w_or, w_not, kAndV_t, kAndV_f, w_andV, kOrV_t, kOrV_f, w_orV, kIf_t, kIf_f, w_if, k3a_at, k3b_at, k3c_t, k3c_f, w_3c, kSl1_at, kSl2_at, w_sl, w_noneI, kSomeI_at, w_someI, flD_rt, flD_nx, kFin_at, isV_at, isE_at, kGc_e, kFor1_at, kFor2_nx, kFor2_ct, kFor2_bk, kFor2_rt, kFor_at, w_for, w_it, w_itN, w_itT, w_itL, kLc_at, w_lc, w_yes, w_add, w_sub, w_neg, w_cI, w_abs, w_intI, w_gcd, w_lenT, w_lenL, w_listT, w_listL, w_listS, w_tupT, w_tupL, w_slT, w_slL, w_zipT, w_zipL, w_isN, w_notB, isi_int, isi_bl, isi_non, isi_str, isi_tup, isi_lst, isNon, List.set_cons_zero, List.set_cons_succ, List.map_cons, List.map_nil, List.replicate_succ, List.replicate_zero, List.cons_append, List.nil_append, List.length_cons, List.length_nil, Bool.not_true, Bool.not_false, decide_true, decide_false, if_true, if_false, reduceIte, Nat.reduceAdd, Nat.reduceSub, Bool.false_eq_true, wipeD, w_def, wp_gc, eq_self, kGc_v, Int.reduceToNat, ix0, ix1, mul_i _ k (pw_sm hk pre.length) hk (by omega), e_at]
    refine ⟨by rw [List.append_assoc]; exact hp', trivial, some (.int (x : Nat)), ?_⟩
    rw [List.length_append, List.length_singleton]
    rfl
  · obtain ⟨hp', rfl, d3, rfl⟩ := hi
    have hl : pre.length = n := by
      have := congrArg List.length hp'
      simpa using this
    rw [hl]
    simp only [wp_ret, wp_exM, wp_bnd, bK_v, bK_e, w_seq, kSeq_nx, kSeq_rt, kSeq_bk, kSeq_ct, kNx_at, w_asg, kAsg_n, kAsg_t, w_gsNil, kGs_at, w_gsCons, w_gN, w_gTup, kSub1_at, kSub2_at, kAsg_s, kExpr_at, w_expr, kRet_at, w_retS, w_retN, w_skip, w_brk, w_cnt, kIfS_t, kIfS_f, w_ifS, w_raise, kPar_at, w_par, kPar3_at, w_par3, w_var0, w_varS, w_C, w_nil, kCons1_at, w_cons, k2_at, w_2, w_1, w_call, w_B, w_asB, w_tru, w_trB, kAnd_t, kAnd_f, w_and, kOr_t, kOr_f, w_or, w_not, kAndV_t, kAndV_f, w_andV, kOrV_t, kOrV_f, w_orV, kIf_t, kIf_f, w_if, k3a_at, k3b_at, k3c_t, k3c_f, w_3c, kSl1_at, kSl2_at, w_sl, w_noneI, kSomeI_at, w_someI, flD_rt, flD_nx, kFin_at, isV_at, isE_at, kGc_e, kFor1_at, kFor2_nx, kFor2_ct, kFor2_bk, kFor2_rt, kFor_at, w_for, w_it, w_itN, w_itT, w_itL, kLc_at, w_lc, w_yes, w_add, w_sub, w_neg, w_cI, w_abs, w_intI, w_gcd, w_lenT, w_lenL, w_listT, w_listL, w_listS, w_tupT, w_tupL, w_slT, w_slL, w_zipT, w_zipL, w_isN, w_notB, isi_int, isi_bl, isi_non, isi_str, isi_tup, isi_lst, isNon, List.set_cons_zero, List.set_cons_succ, List.map_cons, List.map_nil, List.replicate_succ, List.replicate_zero, List.cons_append, List.nil_append, List.length_cons, List.length_nil, Bool.not_true, Bool.not_false, decide_true, decide_false, if_true, if_false, reduceIte, Nat.reduceAdd, Nat.reduceSub, Bool.false_eq_true, wipeD, w_def, wp_gc, eq_self, kGc_v, Int.reduceToNat, and_self]
/-! ### the law's turn -/
theorem wp_wave {S : Sto} (hS : Cup S) {K : Out D → Sto → Prop} (k : ∀ (p : Int × Int) (S' : Sto), Cup S' → V p → sm 10 p.1 → K (.v (wv p)) S') : Wp (m__law_wave [.ref 0]) S K := by
  have m10 : ∀ a b c d e f g h i j : D, fLst [a, b, c, d, e, f, g, h, i, j] = ret (.lst [a, b, c, d, e, f, g, h, i, j]) := fun a b c d e f g h i j => w_mkL _ (by simp)
  simp only [wp_ret, wp_exM, wp_bnd, bK_v, bK_e, w_seq, kSeq_nx, kSeq_rt, kSeq_bk, kSeq_ct, kNx_at, w_asg, kAsg_n, kAsg_t, w_gsNil, kGs_at, w_gsCons, w_gN, w_gTup, kSub1_at, kSub2_at, kAsg_s, kExpr_at, w_expr, kRet_at, w_retS, w_retN, w_skip, w_brk, w_cnt, kIfS_t, kIfS_f, w_ifS, w_raise, kPar_at, w_par, kPar3_at, w_par3, w_var0, w_varS, w_C, w_nil, kCons1_at, w_cons, k2_at, w_2, w_1, w_call, w_B, w_asB, w_tru, w_trB, kAnd_t, kAnd_f, w_and, kOr_t, kOr_f, w_or, w_not, kAndV_t, kAndV_f, w_andV, kOrV_t, kOrV_f, w_orV, kIf_t, kIf_f, w_if, k3a_at, k3b_at, k3c_t, k3c_f, w_3c, kSl1_at, kSl2_at, w_sl, w_noneI, kSomeI_at, w_someI, flD_rt, flD_nx, kFin_at, isV_at, isE_at, kGc_e, kFor1_at, kFor2_nx, kFor2_ct, kFor2_bk, kFor2_rt, kFor_at, w_for, w_it, w_itN, w_itT, w_itL, kLc_at, w_lc, w_yes, w_add, w_sub, w_neg, w_cI, w_abs, w_intI, w_gcd, w_lenT, w_lenL, w_listT, w_listL, w_listS, w_tupT, w_tupL, w_slT, w_slL, w_zipT, w_zipL, w_isN, w_notB, isi_int, isi_bl, isi_non, isi_str, isi_tup, isi_lst, isNon, List.set_cons_zero, List.set_cons_succ, List.map_cons, List.map_nil, List.replicate_succ, List.replicate_zero, List.cons_append, List.nil_append, List.length_cons, List.length_nil, Bool.not_true, Bool.not_false, decide_true, decide_false, if_true, if_false, reduceIte, Nat.reduceAdd, Nat.reduceSub, Bool.false_eq_true, wipeD, w_def, wp_gc, eq_self, kGc_v, Int.reduceToNat, m__law_wave, bd__law_wave, tu2, m10]
  refine wp_some hS (by simp) (by simp) fun d S1 c1 hd => ?_
  simp only [wp_ret, wp_exM, wp_bnd, bK_v, bK_e, w_seq, kSeq_nx, kSeq_rt, kSeq_bk, kSeq_ct, kNx_at, w_asg, kAsg_n, kAsg_t, w_gsNil, kGs_at, w_gsCons, w_gN, w_gTup, kSub1_at, kSub2_at, kAsg_s, kExpr_at, w_expr, kRet_at, w_retS, w_retN, w_skip, w_brk, w_cnt, kIfS_t, kIfS_f, w_ifS, w_raise, kPar_at, w_par, kPar3_at, w_par3, w_var0, w_varS, w_C, w_nil, kCons1_at, w_cons, k2_at, w_2, w_1, w_call, w_B, w_asB, w_tru, w_trB, kAnd_t, kAnd_f, w_and, kOr_t, kOr_f, w_or, w_not, kAndV_t, kAndV_f, w_andV, kOrV_t, kOrV_f, w_orV, kIf_t, kIf_f, w_if, k3a_at, k3b_at, k3c_t, k3c_f, w_3c, kSl1_at, kSl2_at, w_sl, w_noneI, kSomeI_at, w_someI, flD_rt, flD_nx, kFin_at, isV_at, isE_at, kGc_e, kFor1_at, kFor2_nx, kFor2_ct, kFor2_bk, kFor2_rt, kFor_at, w_for, w_it, w_itN, w_itT, w_itL, kLc_at, w_lc, w_yes, w_add, w_sub, w_neg, w_cI, w_abs, w_intI, w_gcd, w_lenT, w_lenL, w_listT, w_listL, w_listS, w_tupT, w_tupL, w_slT, w_slL, w_zipT, w_zipL, w_isN, w_notB, isi_int, isi_bl, isi_non, isi_str, isi_tup, isi_lst, isNon, List.set_cons_zero, List.set_cons_succ, List.map_cons, List.map_nil, List.replicate_succ, List.replicate_zero, List.cons_append, List.nil_append, List.length_cons, List.length_nil, Bool.not_true, Bool.not_false, decide_true, decide_false, if_true, if_false, reduceIte, Nat.reduceAdd, Nat.reduceSub, Bool.false_eq_true, wipeD, w_def, wp_gc, eq_self, kGc_v, Int.reduceToNat, kGc_v _ _ _ _ (show S1.length = S.length by rw [c1.len, hS.len])]
  simp only [List.mem_cons, List.not_mem_nil, or_false] at hd
  have key : ∀ a s : Int, V (a, s) → sm 10 a → d = wv (a, s) → K (.v d) S1 := fun a s h1 h2 h3 => by
    rw [h3]
    exact k (a, s) S1 c1 h1 h2
  have s10 : ∀ a : Int, 0 ≤ a → a < 1024 → sm 10 a := fun a h1 h2 => show a.natAbs < 2 ^ 10 by omega
  rcases hd with h | h | h | h | h | h | h | h | h | h
  · exact key 0 0 (.inr rfl) (s10 _ (by omega) (by omega)) h
  · exact key 1 0 (.inl ⟨by decide, by decide, by decide⟩) (s10 _ (by omega) (by omega)) h
  · exact key 1 3 (.inl ⟨by decide, by decide, by decide⟩) (s10 _ (by omega) (by omega)) h
  · exact key 2 1 (.inl ⟨by decide, by decide, by decide⟩) (s10 _ (by omega) (by omega)) h
  · exact key 3 2 (.inl ⟨by decide, by decide, by decide⟩) (s10 _ (by omega) (by omega)) h
  · exact key 4 7 (.inl ⟨by decide, by decide, by decide⟩) (s10 _ (by omega) (by omega)) h
  · exact key 5 4 (.inl ⟨by decide, by decide, by decide⟩) (s10 _ (by omega) (by omega)) h
  · exact key 12 6 (.inl ⟨by decide, by decide, by decide⟩) (s10 _ (by omega) (by omega)) h
  · exact key 49 5 (.inl ⟨by decide, by decide, by decide⟩) (s10 _ (by omega) (by omega)) h
  · exact key 1000 1 (.inl ⟨by decide, by decide, by decide⟩) (s10 _ (by omega) (by omega)) h
theorem bits10 {a : Int} (h : sm 10 a) : -1024 < a ∧ a < 1024 := by
  unfold sm at h
  omega
theorem wp_turn {S : Sto} (hS : Cup S) : Wp (m__law_right [.ref 0]) S okT := by
  simp only [wp_ret, wp_exM, wp_bnd, bK_v, bK_e, w_seq, kSeq_nx, kSeq_rt, kSeq_bk, kSeq_ct, kNx_at, w_asg, kAsg_n, kAsg_t, w_gsNil, kGs_at, w_gsCons, w_gN, w_gTup, kSub1_at, kSub2_at, kAsg_s, kExpr_at, w_expr, kRet_at, w_retS, w_retN, w_skip, w_brk, w_cnt, kIfS_t, kIfS_f, w_ifS, w_raise, kPar_at, w_par, kPar3_at, w_par3, w_var0, w_varS, w_C, w_nil, kCons1_at, w_cons, k2_at, w_2, w_1, w_call, w_B, w_asB, w_tru, w_trB, kAnd_t, kAnd_f, w_and, kOr_t, kOr_f, w_or, w_not, kAndV_t, kAndV_f, w_andV, kOrV_t, kOrV_f, w_orV, kIf_t, kIf_f, w_if, k3a_at, k3b_at, k3c_t, k3c_f, w_3c, kSl1_at, kSl2_at, w_sl, w_noneI, kSomeI_at, w_someI, flD_rt, flD_nx, kFin_at, isV_at, isE_at, kGc_e, kFor1_at, kFor2_nx, kFor2_ct, kFor2_bk, kFor2_rt, kFor_at, w_for, w_it, w_itN, w_itT, w_itL, kLc_at, w_lc, w_yes, w_add, w_sub, w_neg, w_cI, w_abs, w_intI, w_gcd, w_lenT, w_lenL, w_listT, w_listL, w_listS, w_tupT, w_tupL, w_slT, w_slL, w_zipT, w_zipL, w_isN, w_notB, isi_int, isi_bl, isi_non, isi_str, isi_tup, isi_lst, isNon, List.set_cons_zero, List.set_cons_succ, List.map_cons, List.map_nil, List.replicate_succ, List.replicate_zero, List.cons_append, List.nil_append, List.length_cons, List.length_nil, Bool.not_true, Bool.not_false, decide_true, decide_false, if_true, if_false, reduceIte, Nat.reduceAdd, Nat.reduceSub, Bool.false_eq_true, wipeD, w_def, wp_gc, eq_self, kGc_v, Int.reduceToNat, m__law_right]
  unfold bd__law_right
  simp only [wp_ret, wp_exM, wp_bnd, bK_v, bK_e, w_seq, kSeq_nx, kSeq_rt, kSeq_bk, kSeq_ct, kNx_at, w_asg, kAsg_n, kAsg_t, w_gsNil, kGs_at, w_gsCons, w_gN, w_gTup, kSub1_at, kSub2_at, kAsg_s, kExpr_at, w_expr, kRet_at, w_retS, w_retN, w_skip, w_brk, w_cnt, kIfS_t, kIfS_f, w_ifS, w_raise, kPar_at, w_par, kPar3_at, w_par3, w_var0, w_varS, w_C, w_nil, kCons1_at, w_cons, k2_at, w_2, w_1, w_call, w_B, w_asB, w_tru, w_trB, kAnd_t, kAnd_f, w_and, kOr_t, kOr_f, w_or, w_not, kAndV_t, kAndV_f, w_andV, kOrV_t, kOrV_f, w_orV, kIf_t, kIf_f, w_if, k3a_at, k3b_at, k3c_t, k3c_f, w_3c, kSl1_at, kSl2_at, w_sl, w_noneI, kSomeI_at, w_someI, flD_rt, flD_nx, kFin_at, isV_at, isE_at, kGc_e, kFor1_at, kFor2_nx, kFor2_ct, kFor2_bk, kFor2_rt, kFor_at, w_for, w_it, w_itN, w_itT, w_itL, kLc_at, w_lc, w_yes, w_add, w_sub, w_neg, w_cI, w_abs, w_intI, w_gcd, w_lenT, w_lenL, w_listT, w_listL, w_listS, w_tupT, w_tupL, w_slT, w_slL, w_zipT, w_zipL, w_isN, w_notB, isi_int, isi_bl, isi_non, isi_str, isi_tup, isi_lst, isNon, List.set_cons_zero, List.set_cons_succ, List.map_cons, List.map_nil, List.replicate_succ, List.replicate_zero, List.cons_append, List.nil_append, List.length_cons, List.length_nil, Bool.not_true, Bool.not_false, decide_true, decide_false, if_true, if_false, reduceIte, Nat.reduceAdd, Nat.reduceSub, Bool.false_eq_true, wipeD, w_def, wp_gc, eq_self, kGc_v, Int.reduceToNat]
  refine wp_wave hS fun p S1 c1 hp sp => ?_
  simp only [wp_ret, wp_exM, wp_bnd, bK_v, bK_e, w_seq, kSeq_nx, kSeq_rt, kSeq_bk, kSeq_ct, kNx_at, w_asg, kAsg_n, kAsg_t, w_gsNil, kGs_at, w_gsCons, w_gN, w_gTup, kSub1_at, kSub2_at, kAsg_s, kExpr_at, w_expr, kRet_at, w_retS, w_retN, w_skip, w_brk, w_cnt, kIfS_t, kIfS_f, w_ifS, w_raise, kPar_at, w_par, kPar3_at, w_par3, w_var0, w_varS, w_C, w_nil, kCons1_at, w_cons, k2_at, w_2, w_1, w_call, w_B, w_asB, w_tru, w_trB, kAnd_t, kAnd_f, w_and, kOr_t, kOr_f, w_or, w_not, kAndV_t, kAndV_f, w_andV, kOrV_t, kOrV_f, w_orV, kIf_t, kIf_f, w_if, k3a_at, k3b_at, k3c_t, k3c_f, w_3c, kSl1_at, kSl2_at, w_sl, w_noneI, kSomeI_at, w_someI, flD_rt, flD_nx, kFin_at, isV_at, isE_at, kGc_e, kFor1_at, kFor2_nx, kFor2_ct, kFor2_bk, kFor2_rt, kFor_at, w_for, w_it, w_itN, w_itT, w_itL, kLc_at, w_lc, w_yes, w_add, w_sub, w_neg, w_cI, w_abs, w_intI, w_gcd, w_lenT, w_lenL, w_listT, w_listL, w_listS, w_tupT, w_tupL, w_slT, w_slL, w_zipT, w_zipL, w_isN, w_notB, isi_int, isi_bl, isi_non, isi_str, isi_tup, isi_lst, isNon, List.set_cons_zero, List.set_cons_succ, List.map_cons, List.map_nil, List.replicate_succ, List.replicate_zero, List.cons_append, List.nil_append, List.length_cons, List.length_nil, Bool.not_true, Bool.not_false, decide_true, decide_false, if_true, if_false, reduceIte, Nat.reduceAdd, Nat.reduceSub, Bool.false_eq_true, wipeD, w_def, wp_gc, eq_self, kGc_v, Int.reduceToNat]
  refine wp_wave c1 fun q S2 c2 hq sq => ?_
  simp only [wp_ret, wp_exM, wp_bnd, bK_v, bK_e, w_seq, kSeq_nx, kSeq_rt, kSeq_bk, kSeq_ct, kNx_at, w_asg, kAsg_n, kAsg_t, w_gsNil, kGs_at, w_gsCons, w_gN, w_gTup, kSub1_at, kSub2_at, kAsg_s, kExpr_at, w_expr, kRet_at, w_retS, w_retN, w_skip, w_brk, w_cnt, kIfS_t, kIfS_f, w_ifS, w_raise, kPar_at, w_par, kPar3_at, w_par3, w_var0, w_varS, w_C, w_nil, kCons1_at, w_cons, k2_at, w_2, w_1, w_call, w_B, w_asB, w_tru, w_trB, kAnd_t, kAnd_f, w_and, kOr_t, kOr_f, w_or, w_not, kAndV_t, kAndV_f, w_andV, kOrV_t, kOrV_f, w_orV, kIf_t, kIf_f, w_if, k3a_at, k3b_at, k3c_t, k3c_f, w_3c, kSl1_at, kSl2_at, w_sl, w_noneI, kSomeI_at, w_someI, flD_rt, flD_nx, kFin_at, isV_at, isE_at, kGc_e, kFor1_at, kFor2_nx, kFor2_ct, kFor2_bk, kFor2_rt, kFor_at, w_for, w_it, w_itN, w_itT, w_itL, kLc_at, w_lc, w_yes, w_add, w_sub, w_neg, w_cI, w_abs, w_intI, w_gcd, w_lenT, w_lenL, w_listT, w_listL, w_listS, w_tupT, w_tupL, w_slT, w_slL, w_zipT, w_zipL, w_isN, w_notB, isi_int, isi_bl, isi_non, isi_str, isi_tup, isi_lst, isNon, List.set_cons_zero, List.set_cons_succ, List.map_cons, List.map_nil, List.replicate_succ, List.replicate_zero, List.cons_append, List.nil_append, List.length_cons, List.length_nil, Bool.not_true, Bool.not_false, decide_true, decide_false, if_true, if_false, reduceIte, Nat.reduceAdd, Nat.reduceSub, Bool.false_eq_true, wipeD, w_def, wp_gc, eq_self, kGc_v, Int.reduceToNat]
  refine wp_wave c2 fun r S3 c3 hr sr => ?_
  have a1 := mul_i 10 10 sp sq (by omega)
  have a2 := mul_i 20 10 (sm_mk (t := p.2 + q.2) (sm_mul sp sq)) sr (by omega)
  have a3 := mul_i 10 10 sp sp (by omega)
  have hpq : V (mw p q) := V.mk _ _
  have hqr : V (mw q r) := V.mk _ _
  have hb : V (bk p) := V.mk _ _
  have hbq : V (bk q) := V.mk _ _
  have spq : sm 20 (mw p q).1 := sm_mk (sm_mul sp sq)
  have sqr : sm 20 (mw q r).1 := sm_mk (sm_mul sq sr)
  have sb : sm 10 (bk p).1 := sm_mk sp
  have sbq : sm 10 (bk q).1 := sm_mk sq
  have e1 := e_mw hp hq sp sq (by omega)
  have e2 := e_mw hq hp sq sp (by omega)
  rw [mw_comm q p] at e2
  have e3 := e_mw hpq hr spq sr (by omega)
  have e4 := e_mw hq hr sq sr (by omega)
  have e5 := e_mw hp hqr sp sqr (by omega)
  rw [← mw_assoc hp hq hr] at e5
  have f1 := e_bk hp
  have f2 := e_bk hb
  rw [bk_bk hp] at f2
  have f3 := e_mw hp hb sp sb (by omega)
  rw [mw_bk hp] at f3
  have f4 := e_bk hpq
  rw [bk_mw hp hq] at f4
  have f5 := e_bk hq
  have f6 := e_mw hb hbq sb sbq (by omega)
  have gw : ∀ p : Int × Int, gd 10 (wv p) = true := fun p => gd_tupI 9 [p.1, p.2] (by simp)
  have m4 : ∀ w x y z : D, fLst [w, x, y, z] = ret (.lst [w, x, y, z]) := fun w x y z => w_mkL _ (by simp)
  have m2' : ∀ w x : D, fLst [w, x] = ret (.lst [w, x]) := fun w x => w_mkL _ (by simp)
  have l4 : ∀ w x y z : Int × Int, m__law_like 12 [.lst [wv w, wv x, wv y, wv z], .lst [wv w, wv x, wv y, wv z]] = ret (.bl true) := fun w x y z => like_self 11 _ (gd_lst_of (by simp) fun d hd => by
    simp only [List.mem_cons, List.not_mem_nil, or_false] at hd
    rcases hd with rfl | rfl | rfl | rfl <;> exact gw _) (by omega)
  have l2 : ∀ w x : Int × Int, m__law_like 12 [.lst [wv w, wv x], .lst [wv w, wv x]] = ret (.bl true) := fun w x => like_self 11 _ (gd_lst_of (by simp) fun d hd => by
    simp only [List.mem_cons, List.not_mem_nil, or_false] at hd
    rcases hd with rfl | rfl <;> exact gw _) (by omega)
  have p1 := e_put (p.1 * q.1) (p.2 + q.2)
  have p2 := e_put ((mw p q).1 * r.1) ((mw p q).2 + r.2)
  have p3 := e_put p.1 (8 - p.2)
  rw [bk_put] at p3
  have p4 := e_put (p.1 * p.1) 0
  rw [show mk (p.1 * q.1) (p.2 + q.2) = mw p q from rfl] at p1 a2
  rw [show mk ((mw p q).1 * r.1) ((mw p q).2 + r.2) = mw (mw p q) r from rfl] at p2
  simp only [wp_ret, wp_exM, wp_bnd, bK_v, bK_e, w_seq, kSeq_nx, kSeq_rt, kSeq_bk, kSeq_ct, kNx_at, w_asg, kAsg_n, kAsg_t, w_gsNil, kGs_at, w_gsCons, w_gN, w_gTup, kSub1_at, kSub2_at, kAsg_s, kExpr_at, w_expr, kRet_at, w_retS, w_retN, w_skip, w_brk, w_cnt, kIfS_t, kIfS_f, w_ifS, w_raise, kPar_at, w_par, kPar3_at, w_par3, w_var0, w_varS, w_C, w_nil, kCons1_at, w_cons, k2_at, w_2, w_1, w_call, w_B, w_asB, w_tru, w_trB, kAnd_t, kAnd_f, w_and, kOr_t, kOr_f, w_or, w_not, kAndV_t, kAndV_f, w_andV, kOrV_t, kOrV_f, w_orV, kIf_t, kIf_f, w_if, k3a_at, k3b_at, k3c_t, k3c_f, w_3c, kSl1_at, kSl2_at, w_sl, w_noneI, kSomeI_at, w_someI, flD_rt, flD_nx, kFin_at, isV_at, isE_at, kGc_e, kFor1_at, kFor2_nx, kFor2_ct, kFor2_bk, kFor2_rt, kFor_at, w_for, w_it, w_itN, w_itT, w_itL, kLc_at, w_lc, w_yes, w_add, w_sub, w_neg, w_cI, w_abs, w_intI, w_gcd, w_lenT, w_lenL, w_listT, w_listL, w_listS, w_tupT, w_tupL, w_slT, w_slL, w_zipT, w_zipL, w_isN, w_notB, isi_int, isi_bl, isi_non, isi_str, isi_tup, isi_lst, isNon, List.set_cons_zero, List.set_cons_succ, List.map_cons, List.map_nil, List.replicate_succ, List.replicate_zero, List.cons_append, List.nil_append, List.length_cons, List.length_nil, Bool.not_true, Bool.not_false, decide_true, decide_false, if_true, if_false, reduceIte, Nat.reduceAdd, Nat.reduceSub, Bool.false_eq_true, wipeD, w_def, wp_gc, eq_self, kGc_v, Int.reduceToNat, ix0, ix1, a1, a2, a3, p1, p2, p3, p4, e1, e2, e3, e4, e5, f1, f2, f3, f4, f5, f6, m4, l4]
  refine wp_roll c3 (by omega) (by omega) fun k S4 c4 k0 k1 => ?_
  obtain ⟨n, rfl⟩ : ∃ n : Nat, k = (n : Nat) := ⟨k.toNat, by omega⟩
  simp only [wp_ret, wp_exM, wp_bnd, bK_v, bK_e, w_seq, kSeq_nx, kSeq_rt, kSeq_bk, kSeq_ct, kNx_at, w_asg, kAsg_n, kAsg_t, w_gsNil, kGs_at, w_gsCons, w_gN, w_gTup, kSub1_at, kSub2_at, kAsg_s, kExpr_at, w_expr, kRet_at, w_retS, w_retN, w_skip, w_brk, w_cnt, kIfS_t, kIfS_f, w_ifS, w_raise, kPar_at, w_par, kPar3_at, w_par3, w_var0, w_varS, w_C, w_nil, kCons1_at, w_cons, k2_at, w_2, w_1, w_call, w_B, w_asB, w_tru, w_trB, kAnd_t, kAnd_f, w_and, kOr_t, kOr_f, w_or, w_not, kAndV_t, kAndV_f, w_andV, kOrV_t, kOrV_f, w_orV, kIf_t, kIf_f, w_if, k3a_at, k3b_at, k3c_t, k3c_f, w_3c, kSl1_at, kSl2_at, w_sl, w_noneI, kSomeI_at, w_someI, flD_rt, flD_nx, kFin_at, isV_at, isE_at, kGc_e, kFor1_at, kFor2_nx, kFor2_ct, kFor2_bk, kFor2_rt, kFor_at, w_for, w_it, w_itN, w_itT, w_itL, kLc_at, w_lc, w_yes, w_add, w_sub, w_neg, w_cI, w_abs, w_intI, w_gcd, w_lenT, w_lenL, w_listT, w_listL, w_listS, w_tupT, w_tupL, w_slT, w_slL, w_zipT, w_zipL, w_isN, w_notB, isi_int, isi_bl, isi_non, isi_str, isi_tup, isi_lst, isNon, List.set_cons_zero, List.set_cons_succ, List.map_cons, List.map_nil, List.replicate_succ, List.replicate_zero, List.cons_append, List.nil_append, List.length_cons, List.length_nil, Bool.not_true, Bool.not_false, decide_true, decide_false, if_true, if_false, reduceIte, Nat.reduceAdd, Nat.reduceSub, Bool.false_eq_true, wipeD, w_def, wp_gc, eq_self, kGc_v, Int.reduceToNat, tu2, rg_evI k0 (show ((n : Nat) : Int) ≤ 1000000 by omega), Int.toNat_natCast]
  refine wp_for (fun i : Nat => D.int (i : Nat)) (fun pre x env S' => pre ++ x = List.range n ∧ S' = S4 ∧ ∃ d10, env = [some (.ref 0), some (wv p), some (wv q), some (wv r), some (wv (mw p q)), some (.lst [wv (bk p), wv p, wv (mk (p.1 * p.1) 0), wv (mw (bk p) (bk q))]), some (wv (mw (mw p q) r)), some (wv (bk p)), some (.int (n : Nat)), some (wv (pw p pre.length)), d10, none, none]) (List.range n) [] _ S4 ⟨rfl, rfl, none, rfl⟩ (fun pre x y env S' hi => ?_) (fun pre env S' hi => ?_)
  · obtain ⟨hp', rfl, d3, rfl⟩ := hi
    have hl : pre.length ≤ 12 := by
      have := congrArg List.length hp'
      rw [List.length_append, List.length_range] at this
      omega
    have pp := e_put ((pw p pre.length).1 * p.1) ((pw p pre.length).2 + p.2)
    simp only [wp_ret, wp_exM, wp_bnd, bK_v, bK_e, w_seq, kSeq_nx, kSeq_rt, kSeq_bk, kSeq_ct, kNx_at, w_asg, kAsg_n, kAsg_t, w_gsNil, kGs_at, w_gsCons, w_gN, w_gTup, kSub1_at, kSub2_at, kAsg_s, kExpr_at, w_expr, kRet_at, w_retS, w_retN, w_skip, w_brk, w_cnt, kIfS_t, kIfS_f, w_ifS, w_raise, kPar_at, w_par, kPar3_at, w_par3, w_var0, w_varS, w_C, w_nil, kCons1_at, w_cons, k2_at, w_2, w_1, w_call, w_B, w_asB, w_tru, w_trB, kAnd_t, kAnd_f, w_and, kOr_t, kOr_f, w_or, w_not, kAndV_t, kAndV_f, w_andV, kOrV_t, kOrV_f, w_orV, kIf_t, kIf_f, w_if, k3a_at, k3b_at, k3c_t, k3c_f, w_3c, kSl1_at, kSl2_at, w_sl, w_noneI, kSomeI_at, w_someI, flD_rt, flD_nx, kFin_at, isV_at, isE_at, kGc_e, kFor1_at, kFor2_nx, kFor2_ct, kFor2_bk, kFor2_rt, kFor_at, w_for, w_it, w_itN, w_itT, w_itL, kLc_at, w_lc, w_yes, w_add, w_sub, w_neg, w_cI, w_abs, w_intI, w_gcd, w_lenT, w_lenL, w_listT, w_listL, w_listS, w_tupT, w_tupL, w_slT, w_slL, w_zipT, w_zipL, w_isN, w_notB, isi_int, isi_bl, isi_non, isi_str, isi_tup, isi_lst, isNon, List.set_cons_zero, List.set_cons_succ, List.map_cons, List.map_nil, List.replicate_succ, List.replicate_zero, List.cons_append, List.nil_append, List.length_cons, List.length_nil, Bool.not_true, Bool.not_false, decide_true, decide_false, if_true, if_false, reduceIte, Nat.reduceAdd, Nat.reduceSub, Bool.false_eq_true, wipeD, w_def, wp_gc, eq_self, kGc_v, Int.reduceToNat, ix0, ix1, mul_i _ 10 (pw_sm sp pre.length) sp (by omega), pp]
    refine ⟨by rw [List.append_assoc]; exact hp', trivial, some (.int (x : Nat)), ?_⟩
    rw [List.length_append, List.length_singleton]
    rfl
  · obtain ⟨hp', rfl, d3, rfl⟩ := hi
    have hl : pre.length = n := by
      have := congrArg List.length hp'
      simpa using this
    rw [hl]
    have q1 := e_pw (n := n) hp (by omega) sp (by omega)
    have q2 := e_pw (n := n + 1) hp (by omega) sp (by omega)
    rw [show ((n + 1 : Nat) : Int) = (n : Int) + 1 from rfl] at q2
    have q3 := e_mw (pw_V (p := p) n) hp (pw_sm sp n) sp (by omega)
    rw [show mw (pw p n) p = pw p (n + 1) from rfl] at q3
    have h1 := bits10 sp
    have hd : 0 ≤ p.1 := by
      rcases hp with ⟨h, _⟩ | rfl
      · omega
      · exact Int.le_refl 0
    have w1 : m_is_wave_number [wv p] = ret (.bl true) := pure_of fun S => by simp only [wp_ret, wp_exM, wp_bnd, bK_v, bK_e, w_seq, kSeq_nx, kSeq_rt, kSeq_bk, kSeq_ct, kNx_at, w_asg, kAsg_n, kAsg_t, w_gsNil, kGs_at, w_gsCons, w_gN, w_gTup, kSub1_at, kSub2_at, kAsg_s, kExpr_at, w_expr, kRet_at, w_retS, w_retN, w_skip, w_brk, w_cnt, kIfS_t, kIfS_f, w_ifS, w_raise, kPar_at, w_par, kPar3_at, w_par3, w_var0, w_varS, w_C, w_nil, kCons1_at, w_cons, k2_at, w_2, w_1, w_call, w_B, w_asB, w_tru, w_trB, kAnd_t, kAnd_f, w_and, kOr_t, kOr_f, w_or, w_not, kAndV_t, kAndV_f, w_andV, kOrV_t, kOrV_f, w_orV, kIf_t, kIf_f, w_if, k3a_at, k3b_at, k3c_t, k3c_f, w_3c, kSl1_at, kSl2_at, w_sl, w_noneI, kSomeI_at, w_someI, flD_rt, flD_nx, kFin_at, isV_at, isE_at, kGc_e, kFor1_at, kFor2_nx, kFor2_ct, kFor2_bk, kFor2_rt, kFor_at, w_for, w_it, w_itN, w_itT, w_itL, kLc_at, w_lc, w_yes, w_add, w_sub, w_neg, w_cI, w_abs, w_intI, w_gcd, w_lenT, w_lenL, w_listT, w_listL, w_listS, w_tupT, w_tupL, w_slT, w_slL, w_zipT, w_zipL, w_isN, w_notB, isi_int, isi_bl, isi_non, isi_str, isi_tup, isi_lst, isNon, List.set_cons_zero, List.set_cons_succ, List.map_cons, List.map_nil, List.replicate_succ, List.replicate_zero, List.cons_append, List.nil_append, List.length_cons, List.length_nil, Bool.not_true, Bool.not_false, decide_true, decide_false, if_true, if_false, reduceIte, Nat.reduceAdd, Nat.reduceSub, Bool.false_eq_true, wipeD, w_def, wp_gc, eq_self, kGc_v, Int.reduceToNat, m_is_wave_number, bd_is_wave_number, e_is hp, and_self]
    have wn : ∀ d : D, m_is_wave [d] = ret (.bl false) → m_is_wave_number [d] = ret (.bl false) := fun d h => pure_of fun S => by simp only [wp_ret, wp_exM, wp_bnd, bK_v, bK_e, w_seq, kSeq_nx, kSeq_rt, kSeq_bk, kSeq_ct, kNx_at, w_asg, kAsg_n, kAsg_t, w_gsNil, kGs_at, w_gsCons, w_gN, w_gTup, kSub1_at, kSub2_at, kAsg_s, kExpr_at, w_expr, kRet_at, w_retS, w_retN, w_skip, w_brk, w_cnt, kIfS_t, kIfS_f, w_ifS, w_raise, kPar_at, w_par, kPar3_at, w_par3, w_var0, w_varS, w_C, w_nil, kCons1_at, w_cons, k2_at, w_2, w_1, w_call, w_B, w_asB, w_tru, w_trB, kAnd_t, kAnd_f, w_and, kOr_t, kOr_f, w_or, w_not, kAndV_t, kAndV_f, w_andV, kOrV_t, kOrV_f, w_orV, kIf_t, kIf_f, w_if, k3a_at, k3b_at, k3c_t, k3c_f, w_3c, kSl1_at, kSl2_at, w_sl, w_noneI, kSomeI_at, w_someI, flD_rt, flD_nx, kFin_at, isV_at, isE_at, kGc_e, kFor1_at, kFor2_nx, kFor2_ct, kFor2_bk, kFor2_rt, kFor_at, w_for, w_it, w_itN, w_itT, w_itL, kLc_at, w_lc, w_yes, w_add, w_sub, w_neg, w_cI, w_abs, w_intI, w_gcd, w_lenT, w_lenL, w_listT, w_listL, w_listS, w_tupT, w_tupL, w_slT, w_slL, w_zipT, w_zipL, w_isN, w_notB, isi_int, isi_bl, isi_non, isi_str, isi_tup, isi_lst, isNon, List.set_cons_zero, List.set_cons_succ, List.map_cons, List.map_nil, List.replicate_succ, List.replicate_zero, List.cons_append, List.nil_append, List.length_cons, List.length_nil, Bool.not_true, Bool.not_false, decide_true, decide_false, if_true, if_false, reduceIte, Nat.reduceAdd, Nat.reduceSub, Bool.false_eq_true, wipeD, w_def, wp_gc, eq_self, kGc_v, Int.reduceToNat, m_is_wave_number, bd_is_wave_number, h, and_self]
    have i1 := wn (.lst [.int p.1, .int p.2]) (e_isn rfl rfl)
    have i2 := wn (.tup [.int p.1, .int p.2, .int 0]) (e_isn rfl rfl)
    have i3 := wn (.tup [.int p.1]) (e_isn rfl rfl)
    have i4 := wn (.tup [.int p.1, .int 8]) (by rw [e_is2 p.1 rfl (.inr ⟨_, rfl⟩)]; rfl)
    have i5 := wn (.tup [.int p.1, .int (-1)]) (by rw [e_is2 p.1 rfl (.inr ⟨_, rfl⟩)]; rfl)
    have i6 := wn (.tup [.int (-p.1 - 1), .int 0]) (by
      rw [e_is2 _ rfl (.inr ⟨_, rfl⟩), decide_eq_false (show ¬ 0 < -p.1 - 1 by omega), decide_eq_false (show ¬ -p.1 - 1 = 0 by omega)]
      rfl)
    have isn : ∀ a : D, isW 0 7 a = false → plD a = true → m_is_wave [.tup [.int p.1, a]] = ret (.bl false) := fun a ha hpl => pure_of fun S => by
      have t := tw (d := .tup [.int p.1, a]) rfl
      have w := e_is_whole (d := a) 0 7 hpl
      rw [ha] at w
      rw [show isT 2 2 (.tup [.int p.1, a]) = true from rfl] at t
      simp only [wp_ret, wp_exM, wp_bnd, bK_v, bK_e, w_seq, kSeq_nx, kSeq_rt, kSeq_bk, kSeq_ct, kNx_at, w_asg, kAsg_n, kAsg_t, w_gsNil, kGs_at, w_gsCons, w_gN, w_gTup, kSub1_at, kSub2_at, kAsg_s, kExpr_at, w_expr, kRet_at, w_retS, w_retN, w_skip, w_brk, w_cnt, kIfS_t, kIfS_f, w_ifS, w_raise, kPar_at, w_par, kPar3_at, w_par3, w_var0, w_varS, w_C, w_nil, kCons1_at, w_cons, k2_at, w_2, w_1, w_call, w_B, w_asB, w_tru, w_trB, kAnd_t, kAnd_f, w_and, kOr_t, kOr_f, w_or, w_not, kAndV_t, kAndV_f, w_andV, kOrV_t, kOrV_f, w_orV, kIf_t, kIf_f, w_if, k3a_at, k3b_at, k3c_t, k3c_f, w_3c, kSl1_at, kSl2_at, w_sl, w_noneI, kSomeI_at, w_someI, flD_rt, flD_nx, kFin_at, isV_at, isE_at, kGc_e, kFor1_at, kFor2_nx, kFor2_ct, kFor2_bk, kFor2_rt, kFor_at, w_for, w_it, w_itN, w_itT, w_itL, kLc_at, w_lc, w_yes, w_add, w_sub, w_neg, w_cI, w_abs, w_intI, w_gcd, w_lenT, w_lenL, w_listT, w_listL, w_listS, w_tupT, w_tupL, w_slT, w_slL, w_zipT, w_zipL, w_isN, w_notB, isi_int, isi_bl, isi_non, isi_str, isi_tup, isi_lst, isNon, List.set_cons_zero, List.set_cons_succ, List.map_cons, List.map_nil, List.replicate_succ, List.replicate_zero, List.cons_append, List.nil_append, List.length_cons, List.length_nil, Bool.not_true, Bool.not_false, decide_true, decide_false, if_true, if_false, reduceIte, Nat.reduceAdd, Nat.reduceSub, Bool.false_eq_true, wipeD, w_def, wp_gc, eq_self, kGc_v, Int.reduceToNat, m_is_wave, bd_is_wave, t, w, ix1, and_self]
    have i7 := wn (.tup [.int p.1, .non]) (isn _ rfl rfl)
    have i8 := wn (.tup [.bl true, .int 0]) (pure_of fun S => by
      have t := tw (d := .tup [.bl true, .int 0]) rfl
      have w := e_is_whole (d := .int 0) 0 7 rfl
      rw [show isW 0 7 (.int 0) = true from rfl] at w
      rw [show isT 2 2 (.tup [.bl true, .int 0]) = true from rfl] at t
      simp only [wp_ret, wp_exM, wp_bnd, bK_v, bK_e, w_seq, kSeq_nx, kSeq_rt, kSeq_bk, kSeq_ct, kNx_at, w_asg, kAsg_n, kAsg_t, w_gsNil, kGs_at, w_gsCons, w_gN, w_gTup, kSub1_at, kSub2_at, kAsg_s, kExpr_at, w_expr, kRet_at, w_retS, w_retN, w_skip, w_brk, w_cnt, kIfS_t, kIfS_f, w_ifS, w_raise, kPar_at, w_par, kPar3_at, w_par3, w_var0, w_varS, w_C, w_nil, kCons1_at, w_cons, k2_at, w_2, w_1, w_call, w_B, w_asB, w_tru, w_trB, kAnd_t, kAnd_f, w_and, kOr_t, kOr_f, w_or, w_not, kAndV_t, kAndV_f, w_andV, kOrV_t, kOrV_f, w_orV, kIf_t, kIf_f, w_if, k3a_at, k3b_at, k3c_t, k3c_f, w_3c, kSl1_at, kSl2_at, w_sl, w_noneI, kSomeI_at, w_someI, flD_rt, flD_nx, kFin_at, isV_at, isE_at, kGc_e, kFor1_at, kFor2_nx, kFor2_ct, kFor2_bk, kFor2_rt, kFor_at, w_for, w_it, w_itN, w_itT, w_itL, kLc_at, w_lc, w_yes, w_add, w_sub, w_neg, w_cI, w_abs, w_intI, w_gcd, w_lenT, w_lenL, w_listT, w_listL, w_listS, w_tupT, w_tupL, w_slT, w_slL, w_zipT, w_zipL, w_isN, w_notB, isi_int, isi_bl, isi_non, isi_str, isi_tup, isi_lst, isNon, List.set_cons_zero, List.set_cons_succ, List.map_cons, List.map_nil, List.replicate_succ, List.replicate_zero, List.cons_append, List.nil_append, List.length_cons, List.length_nil, Bool.not_true, Bool.not_false, decide_true, decide_false, if_true, if_false, reduceIte, Nat.reduceAdd, Nat.reduceSub, Bool.false_eq_true, wipeD, w_def, wp_gc, eq_self, kGc_v, Int.reduceToNat, m_is_wave, bd_is_wave, t, w, ix0, ix1, and_self])
    have i9 := wn (.tup [.int p.1, .bl true]) (isn _ rfl rfl)
    have i10 := wn .non (e_isn rfl rfl)
    have i11 := wn (.tup [.int 0, .int 1]) (by rw [e_is2 0 rfl (.inr ⟨_, rfl⟩)]; rfl)
    have sl := cut_to [.int p.1, .int p.2] (i := 1) (by omega) (by simp)
    have m12 : ∀ a b c d e f g h i j k l : D, fLst [a, b, c, d, e, f, g, h, i, j, k, l] = ret (.lst [a, b, c, d, e, f, g, h, i, j, k, l]) := fun a b c d e f g h i j k l => w_mkL _ (by simp)
    have ad := w_addT [.int p.1, .int p.2] [.int 0] (by simp)
    have t1 : ∀ a : D, fTup [a] = ret (.tup [a]) := fun a => rfl
    have e11 : fMul (.lst [.bl false]) (.int 11) = ret (.lst [.bl false, .bl false, .bl false, .bl false, .bl false, .bl false, .bl false, .bl false, .bl false, .bl false, .bl false]) := rfl
    have ad2 := w_addL [.bl true] [.bl false, .bl false, .bl false, .bl false, .bl false, .bl false, .bl false, .bl false, .bl false, .bl false, .bl false] (by simp)
    have l12 := like_self 11 (.lst [.bl true, .bl false, .bl false, .bl false, .bl false, .bl false, .bl false, .bl false, .bl false, .bl false, .bl false, .bl false]) rfl (by omega)
    have o1 : ∀ b : D, fLst [b] = ret (.lst [b]) := fun b => rfl
    simp only [wp_ret, wp_exM, wp_bnd, bK_v, bK_e, w_seq, kSeq_nx, kSeq_rt, kSeq_bk, kSeq_ct, kNx_at, w_asg, kAsg_n, kAsg_t, w_gsNil, kGs_at, w_gsCons, w_gN, w_gTup, kSub1_at, kSub2_at, kAsg_s, kExpr_at, w_expr, kRet_at, w_retS, w_retN, w_skip, w_brk, w_cnt, kIfS_t, kIfS_f, w_ifS, w_raise, kPar_at, w_par, kPar3_at, w_par3, w_var0, w_varS, w_C, w_nil, kCons1_at, w_cons, k2_at, w_2, w_1, w_call, w_B, w_asB, w_tru, w_trB, kAnd_t, kAnd_f, w_and, kOr_t, kOr_f, w_or, w_not, kAndV_t, kAndV_f, w_andV, kOrV_t, kOrV_f, w_orV, kIf_t, kIf_f, w_if, k3a_at, k3b_at, k3c_t, k3c_f, w_3c, kSl1_at, kSl2_at, w_sl, w_noneI, kSomeI_at, w_someI, flD_rt, flD_nx, kFin_at, isV_at, isE_at, kGc_e, kFor1_at, kFor2_nx, kFor2_ct, kFor2_bk, kFor2_rt, kFor_at, w_for, w_it, w_itN, w_itT, w_itL, kLc_at, w_lc, w_yes, w_add, w_sub, w_neg, w_cI, w_abs, w_intI, w_gcd, w_lenT, w_lenL, w_listT, w_listL, w_listS, w_tupT, w_tupL, w_slT, w_slL, w_zipT, w_zipL, w_isN, w_notB, isi_int, isi_bl, isi_non, isi_str, isi_tup, isi_lst, isNon, List.set_cons_zero, List.set_cons_succ, List.map_cons, List.map_nil, List.replicate_succ, List.replicate_zero, List.cons_append, List.nil_append, List.length_cons, List.length_nil, Bool.not_true, Bool.not_false, decide_true, decide_false, if_true, if_false, reduceIte, Nat.reduceAdd, Nat.reduceSub, Bool.false_eq_true, wipeD, w_def, wp_gc, eq_self, kGc_v, Int.reduceToNat, ix0, q1, q2, q3, m2', l2, tu2, t1, ad, sl, m12]
    simp only [wp_ret, wp_exM, wp_bnd, bK_v, bK_e, w_seq, kSeq_nx, kSeq_rt, kSeq_bk, kSeq_ct, kNx_at, w_asg, kAsg_n, kAsg_t, w_gsNil, kGs_at, w_gsCons, w_gN, w_gTup, kSub1_at, kSub2_at, kAsg_s, kExpr_at, w_expr, kRet_at, w_retS, w_retN, w_skip, w_brk, w_cnt, kIfS_t, kIfS_f, w_ifS, w_raise, kPar_at, w_par, kPar3_at, w_par3, w_var0, w_varS, w_C, w_nil, kCons1_at, w_cons, k2_at, w_2, w_1, w_call, w_B, w_asB, w_tru, w_trB, kAnd_t, kAnd_f, w_and, kOr_t, kOr_f, w_or, w_not, kAndV_t, kAndV_f, w_andV, kOrV_t, kOrV_f, w_orV, kIf_t, kIf_f, w_if, k3a_at, k3b_at, k3c_t, k3c_f, w_3c, kSl1_at, kSl2_at, w_sl, w_noneI, kSomeI_at, w_someI, flD_rt, flD_nx, kFin_at, isV_at, isE_at, kGc_e, kFor1_at, kFor2_nx, kFor2_ct, kFor2_bk, kFor2_rt, kFor_at, w_for, w_it, w_itN, w_itT, w_itL, kLc_at, w_lc, w_yes, w_add, w_sub, w_neg, w_cI, w_abs, w_intI, w_gcd, w_lenT, w_lenL, w_listT, w_listL, w_listS, w_tupT, w_tupL, w_slT, w_slL, w_zipT, w_zipL, w_isN, w_notB, isi_int, isi_bl, isi_non, isi_str, isi_tup, isi_lst, isNon, List.set_cons_zero, List.set_cons_succ, List.map_cons, List.map_nil, List.replicate_succ, List.replicate_zero, List.cons_append, List.nil_append, List.length_cons, List.length_nil, Bool.not_true, Bool.not_false, decide_true, decide_false, if_true, if_false, reduceIte, Nat.reduceAdd, Nat.reduceSub, Bool.false_eq_true, wipeD, w_def, wp_gc, eq_self, kGc_v, Int.reduceToNat, w_lc0, w_lcS, wp_nx, nK_v, kL1_at, kL2_t, kL2_f, kL3_at, List.take_succ_cons, List.take_zero, List.drop_succ_cons, List.drop_zero, Nat.reduceLT, w1, i1, i2, i3, i4, i5, i6, i7, i8, i9, i10, i11, e11, ad2, o1, l12, kGc_v _ _ _ _ (show S'.length = S.length by rw [c4.len, hS.len])]
    exact okT_at c4
/-! ### great numbers -/
theorem sev : (.str "7" : D) = .str ⟨#[48 + 7]⟩ := rfl
def N60 : Int := 1000000000000000000000000000000000000000000000000000000000000
theorem n60 : fPow (.int 10) (.int 60) = ret (.int N60) := by
  funext S
  kernel_rfl
theorem t60 : sm 200 N60 := by
  unfold sm N60
  decide +kernel
theorem p60 : 0 < N60 := by
  unfold N60
  decide +kernel
theorem great_pw : m_wave_power [.tup [.int N60, .int 1], .int 60] = ret (wv (pw (N60, 1) 60)) := e_pw (p := (N60, 1)) (n := 60) (.inl ⟨p60, by show (0 : Int) ≤ 1; decide, by show (1 : Int) ≤ 7; decide⟩) (by omega) t60 (by omega)
theorem great_two : (pw (N60, 1) 60).2 = 4 := by decide +kernel
theorem wp_great {S : Sto} (hS : Cup S) : Wp (m__law_great_right [.ref 0]) S okT := by
  have e1 : fMulS (.str "7") (.int 4000) = ret (.str (Txt.mul ⟨#[48 + 7]⟩ (4000 : Nat))) := w_mulS1 (48 + 7) (n := 4000) (by omega)
  have e2 := int_rep (d := 7) (n := 4000) (by omega) (by omega) (by omega)
  obtain ⟨B, hB, b1, b4⟩ : ∃ B, rp 7 4000 = B ∧ 777 ≤ B ∧ B < 2 ^ 13300 := ⟨_, rfl, Nat.le_trans (by rw [rp_S, rp_S, rp_S, rp_0]; decide) (rp_mono (d := 7) (show 3 ≤ 4000 by omega)), Nat.lt_trans (rp_lt (d := 7) (by omega) 4000) (by decide +kernel)⟩
  rw [hB] at e2
  simp only [wp_ret, wp_exM, wp_bnd, bK_v, bK_e, w_seq, kSeq_nx, kSeq_rt, kSeq_bk, kSeq_ct, kNx_at, w_asg, kAsg_n, kAsg_t, w_gsNil, kGs_at, w_gsCons, w_gN, w_gTup, kSub1_at, kSub2_at, kAsg_s, kExpr_at, w_expr, kRet_at, w_retS, w_retN, w_skip, w_brk, w_cnt, kIfS_t, kIfS_f, w_ifS, w_raise, kPar_at, w_par, kPar3_at, w_par3, w_var0, w_varS, w_C, w_nil, kCons1_at, w_cons, k2_at, w_2, w_1, w_call, w_B, w_asB, w_tru, w_trB, kAnd_t, kAnd_f, w_and, kOr_t, kOr_f, w_or, w_not, kAndV_t, kAndV_f, w_andV, kOrV_t, kOrV_f, w_orV, kIf_t, kIf_f, w_if, k3a_at, k3b_at, k3c_t, k3c_f, w_3c, kSl1_at, kSl2_at, w_sl, w_noneI, kSomeI_at, w_someI, flD_rt, flD_nx, kFin_at, isV_at, isE_at, kGc_e, kFor1_at, kFor2_nx, kFor2_ct, kFor2_bk, kFor2_rt, kFor_at, w_for, w_it, w_itN, w_itT, w_itL, kLc_at, w_lc, w_yes, w_add, w_sub, w_neg, w_cI, w_abs, w_intI, w_gcd, w_lenT, w_lenL, w_listT, w_listL, w_listS, w_tupT, w_tupL, w_slT, w_slL, w_zipT, w_zipL, w_isN, w_notB, isi_int, isi_bl, isi_non, isi_str, isi_tup, isi_lst, isNon, List.set_cons_zero, List.set_cons_succ, List.map_cons, List.map_nil, List.replicate_succ, List.replicate_zero, List.cons_append, List.nil_append, List.length_cons, List.length_nil, Bool.not_true, Bool.not_false, decide_true, decide_false, if_true, if_false, reduceIte, Nat.reduceAdd, Nat.reduceSub, Bool.false_eq_true, wipeD, w_def, wp_gc, eq_self, kGc_v, Int.reduceToNat, m__law_great_right]
  unfold bd__law_great_right
  simp only [wp_ret, wp_exM, wp_bnd, bK_v, bK_e, w_seq, kSeq_nx, kSeq_rt, kSeq_bk, kSeq_ct, kNx_at, w_asg, kAsg_n, kAsg_t, w_gsNil, kGs_at, w_gsCons, w_gN, w_gTup, kSub1_at, kSub2_at, kAsg_s, kExpr_at, w_expr, kRet_at, w_retS, w_retN, w_skip, w_brk, w_cnt, kIfS_t, kIfS_f, w_ifS, w_raise, kPar_at, w_par, kPar3_at, w_par3, w_var0, w_varS, w_C, w_nil, kCons1_at, w_cons, k2_at, w_2, w_1, w_call, w_B, w_asB, w_tru, w_trB, kAnd_t, kAnd_f, w_and, kOr_t, kOr_f, w_or, w_not, kAndV_t, kAndV_f, w_andV, kOrV_t, kOrV_f, w_orV, kIf_t, kIf_f, w_if, k3a_at, k3b_at, k3c_t, k3c_f, w_3c, kSl1_at, kSl2_at, w_sl, w_noneI, kSomeI_at, w_someI, flD_rt, flD_nx, kFin_at, isV_at, isE_at, kGc_e, kFor1_at, kFor2_nx, kFor2_ct, kFor2_bk, kFor2_rt, kFor_at, w_for, w_it, w_itN, w_itT, w_itL, kLc_at, w_lc, w_yes, w_add, w_sub, w_neg, w_cI, w_abs, w_intI, w_gcd, w_lenT, w_lenL, w_listT, w_listL, w_listS, w_tupT, w_tupL, w_slT, w_slL, w_zipT, w_zipL, w_isN, w_notB, isi_int, isi_bl, isi_non, isi_str, isi_tup, isi_lst, isNon, List.set_cons_zero, List.set_cons_succ, List.map_cons, List.map_nil, List.replicate_succ, List.replicate_zero, List.cons_append, List.nil_append, List.length_cons, List.length_nil, Bool.not_true, Bool.not_false, decide_true, decide_false, if_true, if_false, reduceIte, Nat.reduceAdd, Nat.reduceSub, Bool.false_eq_true, wipeD, w_def, wp_gc, eq_self, kGc_v, Int.reduceToNat, e1, e2]
  refine wp_roll hS (by omega) (by omega) fun r S1 c1 r0 r1 => ?_
  have hp : 0 < (B : Int) - r := by omega
  have hs : sm 13300 ((B : Int) - r) := by
    show Int.natAbs _ < _
    refine Nat.lt_of_le_of_lt ?_ b4
    omega
  simp only [wp_ret, wp_exM, wp_bnd, bK_v, bK_e, w_seq, kSeq_nx, kSeq_rt, kSeq_bk, kSeq_ct, kNx_at, w_asg, kAsg_n, kAsg_t, w_gsNil, kGs_at, w_gsCons, w_gN, w_gTup, kSub1_at, kSub2_at, kAsg_s, kExpr_at, w_expr, kRet_at, w_retS, w_retN, w_skip, w_brk, w_cnt, kIfS_t, kIfS_f, w_ifS, w_raise, kPar_at, w_par, kPar3_at, w_par3, w_var0, w_varS, w_C, w_nil, kCons1_at, w_cons, k2_at, w_2, w_1, w_call, w_B, w_asB, w_tru, w_trB, kAnd_t, kAnd_f, w_and, kOr_t, kOr_f, w_or, w_not, kAndV_t, kAndV_f, w_andV, kOrV_t, kOrV_f, w_orV, kIf_t, kIf_f, w_if, k3a_at, k3b_at, k3c_t, k3c_f, w_3c, kSl1_at, kSl2_at, w_sl, w_noneI, kSomeI_at, w_someI, flD_rt, flD_nx, kFin_at, isV_at, isE_at, kGc_e, kFor1_at, kFor2_nx, kFor2_ct, kFor2_bk, kFor2_rt, kFor_at, w_for, w_it, w_itN, w_itT, w_itL, kLc_at, w_lc, w_yes, w_add, w_sub, w_neg, w_cI, w_abs, w_intI, w_gcd, w_lenT, w_lenL, w_listT, w_listL, w_listS, w_tupT, w_tupL, w_slT, w_slL, w_zipT, w_zipL, w_isN, w_notB, isi_int, isi_bl, isi_non, isi_str, isi_tup, isi_lst, isNon, List.set_cons_zero, List.set_cons_succ, List.map_cons, List.map_nil, List.replicate_succ, List.replicate_zero, List.cons_append, List.nil_append, List.length_cons, List.length_nil, Bool.not_true, Bool.not_false, decide_true, decide_false, if_true, if_false, reduceIte, Nat.reduceAdd, Nat.reduceSub, Bool.false_eq_true, wipeD, w_def, wp_gc, eq_self, kGc_v, Int.reduceToNat, tu2]
  generalize (B : Int) - r = G at hp hs ⊢
  have v3 : V (G, 3) := .inl ⟨hp, by show (0 : Int) ≤ 3; decide, by show (3 : Int) ≤ 7; decide⟩
  have v6 : V (G, 6) := .inl ⟨hp, by show (0 : Int) ≤ 6; decide, by show (6 : Int) ≤ 7; decide⟩
  have f1 : m_is_wave_number [.tup [.int G, .int 3]] = ret (.bl true) := pure_of fun S => by simp only [wp_ret, wp_exM, wp_bnd, bK_v, bK_e, w_seq, kSeq_nx, kSeq_rt, kSeq_bk, kSeq_ct, kNx_at, w_asg, kAsg_n, kAsg_t, w_gsNil, kGs_at, w_gsCons, w_gN, w_gTup, kSub1_at, kSub2_at, kAsg_s, kExpr_at, w_expr, kRet_at, w_retS, w_retN, w_skip, w_brk, w_cnt, kIfS_t, kIfS_f, w_ifS, w_raise, kPar_at, w_par, kPar3_at, w_par3, w_var0, w_varS, w_C, w_nil, kCons1_at, w_cons, k2_at, w_2, w_1, w_call, w_B, w_asB, w_tru, w_trB, kAnd_t, kAnd_f, w_and, kOr_t, kOr_f, w_or, w_not, kAndV_t, kAndV_f, w_andV, kOrV_t, kOrV_f, w_orV, kIf_t, kIf_f, w_if, k3a_at, k3b_at, k3c_t, k3c_f, w_3c, kSl1_at, kSl2_at, w_sl, w_noneI, kSomeI_at, w_someI, flD_rt, flD_nx, kFin_at, isV_at, isE_at, kGc_e, kFor1_at, kFor2_nx, kFor2_ct, kFor2_bk, kFor2_rt, kFor_at, w_for, w_it, w_itN, w_itT, w_itL, kLc_at, w_lc, w_yes, w_add, w_sub, w_neg, w_cI, w_abs, w_intI, w_gcd, w_lenT, w_lenL, w_listT, w_listL, w_listS, w_tupT, w_tupL, w_slT, w_slL, w_zipT, w_zipL, w_isN, w_notB, isi_int, isi_bl, isi_non, isi_str, isi_tup, isi_lst, isNon, List.set_cons_zero, List.set_cons_succ, List.map_cons, List.map_nil, List.replicate_succ, List.replicate_zero, List.cons_append, List.nil_append, List.length_cons, List.length_nil, Bool.not_true, Bool.not_false, decide_true, decide_false, if_true, if_false, reduceIte, Nat.reduceAdd, Nat.reduceSub, Bool.false_eq_true, wipeD, w_def, wp_gc, eq_self, kGc_v, Int.reduceToNat, m_is_wave_number, bd_is_wave_number, e_is v3, and_self]
  have f2 : m_wave_back [.tup [.int G, .int 3]] = ret (.tup [.int G, .int 5]) := by
    have := e_bk v3
    rw [bk_pos (p := (G, 3)) hp] at this
    exact this
  have f3 : m_wave_product [.tup [.int G, .int 3], .tup [.int G, .int 6]] = ret (.tup [.int (G * G), .int 1]) := by
    have := e_mw v3 v6 hs hs (by omega)
    rw [mw_pos (p := (G, 3)) (q := (G, 6)) hp hp] at this
    exact this
  have f4 := great_pw
  have f5 := great_two
  have p60 := n60
  have m4 : ∀ w x y z : D, fLst [w, x, y, z] = ret (.lst [w, x, y, z]) := fun w x y z => w_mkL _ (by simp)
  have lk := like_self 11 (.lst [.bl true, .tup [.int G, .int 5], .tup [.int (G * G), .int 1], .int 4]) rfl (by omega)
  have mu := mul_i 13300 13300 hs hs (by omega)
  simp only [wp_ret, wp_exM, wp_bnd, bK_v, bK_e, w_seq, kSeq_nx, kSeq_rt, kSeq_bk, kSeq_ct, kNx_at, w_asg, kAsg_n, kAsg_t, w_gsNil, kGs_at, w_gsCons, w_gN, w_gTup, kSub1_at, kSub2_at, kAsg_s, kExpr_at, w_expr, kRet_at, w_retS, w_retN, w_skip, w_brk, w_cnt, kIfS_t, kIfS_f, w_ifS, w_raise, kPar_at, w_par, kPar3_at, w_par3, w_var0, w_varS, w_C, w_nil, kCons1_at, w_cons, k2_at, w_2, w_1, w_call, w_B, w_asB, w_tru, w_trB, kAnd_t, kAnd_f, w_and, kOr_t, kOr_f, w_or, w_not, kAndV_t, kAndV_f, w_andV, kOrV_t, kOrV_f, w_orV, kIf_t, kIf_f, w_if, k3a_at, k3b_at, k3c_t, k3c_f, w_3c, kSl1_at, kSl2_at, w_sl, w_noneI, kSomeI_at, w_someI, flD_rt, flD_nx, kFin_at, isV_at, isE_at, kGc_e, kFor1_at, kFor2_nx, kFor2_ct, kFor2_bk, kFor2_rt, kFor_at, w_for, w_it, w_itN, w_itT, w_itL, kLc_at, w_lc, w_yes, w_add, w_sub, w_neg, w_cI, w_abs, w_intI, w_gcd, w_lenT, w_lenL, w_listT, w_listL, w_listS, w_tupT, w_tupL, w_slT, w_slL, w_zipT, w_zipL, w_isN, w_notB, isi_int, isi_bl, isi_non, isi_str, isi_tup, isi_lst, isNon, List.set_cons_zero, List.set_cons_succ, List.map_cons, List.map_nil, List.replicate_succ, List.replicate_zero, List.cons_append, List.nil_append, List.length_cons, List.length_nil, Bool.not_true, Bool.not_false, decide_true, decide_false, if_true, if_false, reduceIte, Nat.reduceAdd, Nat.reduceSub, Bool.false_eq_true, wipeD, w_def, wp_gc, eq_self, kGc_v, Int.reduceToNat, tu2, f1, f2, f3, f4, f5, ix1, p60, m4, lk, mu, kGc_v _ _ _ _ (show S1.length = S.length by rw [c1.len, hS.len])]
  exact okT_at c1
theorem e_written : m__law_written_right [] [] = .ok (.bl true) [] := by kernel_rfl
theorem e_errors : m__law_errors_right [] [] = .ok (.bl true) [] := by kernel_rfl
theorem plain (ns : List Int) (hl : ns.length ≤ 63) (hz : ∀ z ∈ ns, Builtin.Int.intBits z ≤ 1048576) : ∃ S, m_law [.scr ns] [] = .ok (.bl true) S := by
  obtain ⟨S0, e0, c0⟩ := e_cup hl hz
  obtain ⟨d, S, e, h1, _⟩ := wp_get (P := fun d S => d = .bl true ∧ True) (m := m_law [.scr ns]) (S := []) (by
    simp only [wp_ret, wp_exM, wp_bnd, bK_v, bK_e, w_seq, kSeq_nx, kSeq_rt, kSeq_bk, kSeq_ct, kNx_at, w_asg, kAsg_n, kAsg_t, w_gsNil, kGs_at, w_gsCons, w_gN, w_gTup, kSub1_at, kSub2_at, kAsg_s, kExpr_at, w_expr, kRet_at, w_retS, w_retN, w_skip, w_brk, w_cnt, kIfS_t, kIfS_f, w_ifS, w_raise, kPar_at, w_par, kPar3_at, w_par3, w_var0, w_varS, w_C, w_nil, kCons1_at, w_cons, k2_at, w_2, w_1, w_call, w_B, w_asB, w_tru, w_trB, kAnd_t, kAnd_f, w_and, kOr_t, kOr_f, w_or, w_not, kAndV_t, kAndV_f, w_andV, kOrV_t, kOrV_f, w_orV, kIf_t, kIf_f, w_if, k3a_at, k3b_at, k3c_t, k3c_f, w_3c, kSl1_at, kSl2_at, w_sl, w_noneI, kSomeI_at, w_someI, flD_rt, flD_nx, kFin_at, isV_at, isE_at, kGc_e, kFor1_at, kFor2_nx, kFor2_ct, kFor2_bk, kFor2_rt, kFor_at, w_for, w_it, w_itN, w_itT, w_itL, kLc_at, w_lc, w_yes, w_add, w_sub, w_neg, w_cI, w_abs, w_intI, w_gcd, w_lenT, w_lenL, w_listT, w_listL, w_listS, w_tupT, w_tupL, w_slT, w_slL, w_zipT, w_zipL, w_isN, w_notB, isi_int, isi_bl, isi_non, isi_str, isi_tup, isi_lst, isNon, List.set_cons_zero, List.set_cons_succ, List.map_cons, List.map_nil, List.replicate_succ, List.replicate_zero, List.cons_append, List.nil_append, List.length_cons, List.length_nil, Bool.not_true, Bool.not_false, decide_true, decide_false, if_true, if_false, reduceIte, Nat.reduceAdd, Nat.reduceSub, Bool.false_eq_true, wipeD, w_def, wp_gc, eq_self, kGc_v, Int.reduceToNat, m_law]
    unfold bd_law
    simp only [wp_ret, wp_exM, wp_bnd, bK_v, bK_e, w_seq, kSeq_nx, kSeq_rt, kSeq_bk, kSeq_ct, kNx_at, w_asg, kAsg_n, kAsg_t, w_gsNil, kGs_at, w_gsCons, w_gN, w_gTup, kSub1_at, kSub2_at, kAsg_s, kExpr_at, w_expr, kRet_at, w_retS, w_retN, w_skip, w_brk, w_cnt, kIfS_t, kIfS_f, w_ifS, w_raise, kPar_at, w_par, kPar3_at, w_par3, w_var0, w_varS, w_C, w_nil, kCons1_at, w_cons, k2_at, w_2, w_1, w_call, w_B, w_asB, w_tru, w_trB, kAnd_t, kAnd_f, w_and, kOr_t, kOr_f, w_or, w_not, kAndV_t, kAndV_f, w_andV, kOrV_t, kOrV_f, w_orV, kIf_t, kIf_f, w_if, k3a_at, k3b_at, k3c_t, k3c_f, w_3c, kSl1_at, kSl2_at, w_sl, w_noneI, kSomeI_at, w_someI, flD_rt, flD_nx, kFin_at, isV_at, isE_at, kGc_e, kFor1_at, kFor2_nx, kFor2_ct, kFor2_bk, kFor2_rt, kFor_at, w_for, w_it, w_itN, w_itT, w_itL, kLc_at, w_lc, w_yes, w_add, w_sub, w_neg, w_cI, w_abs, w_intI, w_gcd, w_lenT, w_lenL, w_listT, w_listL, w_listS, w_tupT, w_tupL, w_slT, w_slL, w_zipT, w_zipL, w_isN, w_notB, isi_int, isi_bl, isi_non, isi_str, isi_tup, isi_lst, isNon, List.set_cons_zero, List.set_cons_succ, List.map_cons, List.map_nil, List.replicate_succ, List.replicate_zero, List.cons_append, List.nil_append, List.length_cons, List.length_nil, Bool.not_true, Bool.not_false, decide_true, decide_false, if_true, if_false, reduceIte, Nat.reduceAdd, Nat.reduceSub, Bool.false_eq_true, wipeD, w_def, wp_gc, eq_self, kGc_v, Int.reduceToNat]
    refine wp_ok e_written ?_
    simp only [wp_ret, wp_exM, wp_bnd, bK_v, bK_e, w_seq, kSeq_nx, kSeq_rt, kSeq_bk, kSeq_ct, kNx_at, w_asg, kAsg_n, kAsg_t, w_gsNil, kGs_at, w_gsCons, w_gN, w_gTup, kSub1_at, kSub2_at, kAsg_s, kExpr_at, w_expr, kRet_at, w_retS, w_retN, w_skip, w_brk, w_cnt, kIfS_t, kIfS_f, w_ifS, w_raise, kPar_at, w_par, kPar3_at, w_par3, w_var0, w_varS, w_C, w_nil, kCons1_at, w_cons, k2_at, w_2, w_1, w_call, w_B, w_asB, w_tru, w_trB, kAnd_t, kAnd_f, w_and, kOr_t, kOr_f, w_or, w_not, kAndV_t, kAndV_f, w_andV, kOrV_t, kOrV_f, w_orV, kIf_t, kIf_f, w_if, k3a_at, k3b_at, k3c_t, k3c_f, w_3c, kSl1_at, kSl2_at, w_sl, w_noneI, kSomeI_at, w_someI, flD_rt, flD_nx, kFin_at, isV_at, isE_at, kGc_e, kFor1_at, kFor2_nx, kFor2_ct, kFor2_bk, kFor2_rt, kFor_at, w_for, w_it, w_itN, w_itT, w_itL, kLc_at, w_lc, w_yes, w_add, w_sub, w_neg, w_cI, w_abs, w_intI, w_gcd, w_lenT, w_lenL, w_listT, w_listL, w_listS, w_tupT, w_tupL, w_slT, w_slL, w_zipT, w_zipL, w_isN, w_notB, isi_int, isi_bl, isi_non, isi_str, isi_tup, isi_lst, isNon, List.set_cons_zero, List.set_cons_succ, List.map_cons, List.map_nil, List.replicate_succ, List.replicate_zero, List.cons_append, List.nil_append, List.length_cons, List.length_nil, Bool.not_true, Bool.not_false, decide_true, decide_false, if_true, if_false, reduceIte, Nat.reduceAdd, Nat.reduceSub, Bool.false_eq_true, wipeD, w_def, wp_gc, eq_self, kGc_v, Int.reduceToNat]
    refine wp_ok e_errors ?_
    simp only [wp_ret, wp_exM, wp_bnd, bK_v, bK_e, w_seq, kSeq_nx, kSeq_rt, kSeq_bk, kSeq_ct, kNx_at, w_asg, kAsg_n, kAsg_t, w_gsNil, kGs_at, w_gsCons, w_gN, w_gTup, kSub1_at, kSub2_at, kAsg_s, kExpr_at, w_expr, kRet_at, w_retS, w_retN, w_skip, w_brk, w_cnt, kIfS_t, kIfS_f, w_ifS, w_raise, kPar_at, w_par, kPar3_at, w_par3, w_var0, w_varS, w_C, w_nil, kCons1_at, w_cons, k2_at, w_2, w_1, w_call, w_B, w_asB, w_tru, w_trB, kAnd_t, kAnd_f, w_and, kOr_t, kOr_f, w_or, w_not, kAndV_t, kAndV_f, w_andV, kOrV_t, kOrV_f, w_orV, kIf_t, kIf_f, w_if, k3a_at, k3b_at, k3c_t, k3c_f, w_3c, kSl1_at, kSl2_at, w_sl, w_noneI, kSomeI_at, w_someI, flD_rt, flD_nx, kFin_at, isV_at, isE_at, kGc_e, kFor1_at, kFor2_nx, kFor2_ct, kFor2_bk, kFor2_rt, kFor_at, w_for, w_it, w_itN, w_itT, w_itL, kLc_at, w_lc, w_yes, w_add, w_sub, w_neg, w_cI, w_abs, w_intI, w_gcd, w_lenT, w_lenL, w_listT, w_listL, w_listS, w_tupT, w_tupL, w_slT, w_slL, w_zipT, w_zipL, w_isN, w_notB, isi_int, isi_bl, isi_non, isi_str, isi_tup, isi_lst, isNon, List.set_cons_zero, List.set_cons_succ, List.map_cons, List.map_nil, List.replicate_succ, List.replicate_zero, List.cons_append, List.nil_append, List.length_cons, List.length_nil, Bool.not_true, Bool.not_false, decide_true, decide_false, if_true, if_false, reduceIte, Nat.reduceAdd, Nat.reduceSub, Bool.false_eq_true, wipeD, w_def, wp_gc, eq_self, kGc_v, Int.reduceToNat]
    refine wp_ok e0 ?_
    simp only [wp_ret, wp_exM, wp_bnd, bK_v, bK_e, w_seq, kSeq_nx, kSeq_rt, kSeq_bk, kSeq_ct, kNx_at, w_asg, kAsg_n, kAsg_t, w_gsNil, kGs_at, w_gsCons, w_gN, w_gTup, kSub1_at, kSub2_at, kAsg_s, kExpr_at, w_expr, kRet_at, w_retS, w_retN, w_skip, w_brk, w_cnt, kIfS_t, kIfS_f, w_ifS, w_raise, kPar_at, w_par, kPar3_at, w_par3, w_var0, w_varS, w_C, w_nil, kCons1_at, w_cons, k2_at, w_2, w_1, w_call, w_B, w_asB, w_tru, w_trB, kAnd_t, kAnd_f, w_and, kOr_t, kOr_f, w_or, w_not, kAndV_t, kAndV_f, w_andV, kOrV_t, kOrV_f, w_orV, kIf_t, kIf_f, w_if, k3a_at, k3b_at, k3c_t, k3c_f, w_3c, kSl1_at, kSl2_at, w_sl, w_noneI, kSomeI_at, w_someI, flD_rt, flD_nx, kFin_at, isV_at, isE_at, kGc_e, kFor1_at, kFor2_nx, kFor2_ct, kFor2_bk, kFor2_rt, kFor_at, w_for, w_it, w_itN, w_itT, w_itL, kLc_at, w_lc, w_yes, w_add, w_sub, w_neg, w_cI, w_abs, w_intI, w_gcd, w_lenT, w_lenL, w_listT, w_listL, w_listS, w_tupT, w_tupL, w_slT, w_slL, w_zipT, w_zipL, w_isN, w_notB, isi_int, isi_bl, isi_non, isi_str, isi_tup, isi_lst, isNon, List.set_cons_zero, List.set_cons_succ, List.map_cons, List.map_nil, List.replicate_succ, List.replicate_zero, List.cons_append, List.nil_append, List.length_cons, List.length_nil, Bool.not_true, Bool.not_false, decide_true, decide_false, if_true, if_false, reduceIte, Nat.reduceAdd, Nat.reduceSub, Bool.false_eq_true, wipeD, w_def, wp_gc, eq_self, kGc_v, Int.reduceToNat, rg_evI (show (0 : Int) ≤ 12 by omega) (by omega)]
    refine wp_for (fun i : Nat => D.int (i : Nat)) (fun pre r env S' => Cup S' ∧ ∃ d2, env = [some (.scr ns), some (.ref 0), d2]) (List.range 12) [] _ S0 ⟨c0, none, rfl⟩ (fun pre x r env S' hi => ?_) (fun pre env S' hi => ?_)
    · obtain ⟨c, d2, rfl⟩ := hi
      simp only [wp_ret, wp_exM, wp_bnd, bK_v, bK_e, w_seq, kSeq_nx, kSeq_rt, kSeq_bk, kSeq_ct, kNx_at, w_asg, kAsg_n, kAsg_t, w_gsNil, kGs_at, w_gsCons, w_gN, w_gTup, kSub1_at, kSub2_at, kAsg_s, kExpr_at, w_expr, kRet_at, w_retS, w_retN, w_skip, w_brk, w_cnt, kIfS_t, kIfS_f, w_ifS, w_raise, kPar_at, w_par, kPar3_at, w_par3, w_var0, w_varS, w_C, w_nil, kCons1_at, w_cons, k2_at, w_2, w_1, w_call, w_B, w_asB, w_tru, w_trB, kAnd_t, kAnd_f, w_and, kOr_t, kOr_f, w_or, w_not, kAndV_t, kAndV_f, w_andV, kOrV_t, kOrV_f, w_orV, kIf_t, kIf_f, w_if, k3a_at, k3b_at, k3c_t, k3c_f, w_3c, kSl1_at, kSl2_at, w_sl, w_noneI, kSomeI_at, w_someI, flD_rt, flD_nx, kFin_at, isV_at, isE_at, kGc_e, kFor1_at, kFor2_nx, kFor2_ct, kFor2_bk, kFor2_rt, kFor_at, w_for, w_it, w_itN, w_itT, w_itL, kLc_at, w_lc, w_yes, w_add, w_sub, w_neg, w_cI, w_abs, w_intI, w_gcd, w_lenT, w_lenL, w_listT, w_listL, w_listS, w_tupT, w_tupL, w_slT, w_slL, w_zipT, w_zipL, w_isN, w_notB, isi_int, isi_bl, isi_non, isi_str, isi_tup, isi_lst, isNon, List.set_cons_zero, List.set_cons_succ, List.map_cons, List.map_nil, List.replicate_succ, List.replicate_zero, List.cons_append, List.nil_append, List.length_cons, List.length_nil, Bool.not_true, Bool.not_false, decide_true, decide_false, if_true, if_false, reduceIte, Nat.reduceAdd, Nat.reduceSub, Bool.false_eq_true, wipeD, w_def, wp_gc, eq_self, kGc_v, Int.reduceToNat]
      refine wp_mono (wp_turn c) fun o S2 h => ?_
      obtain ⟨rfl, c2⟩ := h
      simp only [wp_ret, wp_exM, wp_bnd, bK_v, bK_e, w_seq, kSeq_nx, kSeq_rt, kSeq_bk, kSeq_ct, kNx_at, w_asg, kAsg_n, kAsg_t, w_gsNil, kGs_at, w_gsCons, w_gN, w_gTup, kSub1_at, kSub2_at, kAsg_s, kExpr_at, w_expr, kRet_at, w_retS, w_retN, w_skip, w_brk, w_cnt, kIfS_t, kIfS_f, w_ifS, w_raise, kPar_at, w_par, kPar3_at, w_par3, w_var0, w_varS, w_C, w_nil, kCons1_at, w_cons, k2_at, w_2, w_1, w_call, w_B, w_asB, w_tru, w_trB, kAnd_t, kAnd_f, w_and, kOr_t, kOr_f, w_or, w_not, kAndV_t, kAndV_f, w_andV, kOrV_t, kOrV_f, w_orV, kIf_t, kIf_f, w_if, k3a_at, k3b_at, k3c_t, k3c_f, w_3c, kSl1_at, kSl2_at, w_sl, w_noneI, kSomeI_at, w_someI, flD_rt, flD_nx, kFin_at, isV_at, isE_at, kGc_e, kFor1_at, kFor2_nx, kFor2_ct, kFor2_bk, kFor2_rt, kFor_at, w_for, w_it, w_itN, w_itT, w_itL, kLc_at, w_lc, w_yes, w_add, w_sub, w_neg, w_cI, w_abs, w_intI, w_gcd, w_lenT, w_lenL, w_listT, w_listL, w_listS, w_tupT, w_tupL, w_slT, w_slL, w_zipT, w_zipL, w_isN, w_notB, isi_int, isi_bl, isi_non, isi_str, isi_tup, isi_lst, isNon, List.set_cons_zero, List.set_cons_succ, List.map_cons, List.map_nil, List.replicate_succ, List.replicate_zero, List.cons_append, List.nil_append, List.length_cons, List.length_nil, Bool.not_true, Bool.not_false, decide_true, decide_false, if_true, if_false, reduceIte, Nat.reduceAdd, Nat.reduceSub, Bool.false_eq_true, wipeD, w_def, wp_gc, eq_self, kGc_v, Int.reduceToNat]
      exact ⟨c2, _, rfl⟩
    · obtain ⟨c, d2, rfl⟩ := hi
      simp only [wp_ret, wp_exM, wp_bnd, bK_v, bK_e, w_seq, kSeq_nx, kSeq_rt, kSeq_bk, kSeq_ct, kNx_at, w_asg, kAsg_n, kAsg_t, w_gsNil, kGs_at, w_gsCons, w_gN, w_gTup, kSub1_at, kSub2_at, kAsg_s, kExpr_at, w_expr, kRet_at, w_retS, w_retN, w_skip, w_brk, w_cnt, kIfS_t, kIfS_f, w_ifS, w_raise, kPar_at, w_par, kPar3_at, w_par3, w_var0, w_varS, w_C, w_nil, kCons1_at, w_cons, k2_at, w_2, w_1, w_call, w_B, w_asB, w_tru, w_trB, kAnd_t, kAnd_f, w_and, kOr_t, kOr_f, w_or, w_not, kAndV_t, kAndV_f, w_andV, kOrV_t, kOrV_f, w_orV, kIf_t, kIf_f, w_if, k3a_at, k3b_at, k3c_t, k3c_f, w_3c, kSl1_at, kSl2_at, w_sl, w_noneI, kSomeI_at, w_someI, flD_rt, flD_nx, kFin_at, isV_at, isE_at, kGc_e, kFor1_at, kFor2_nx, kFor2_ct, kFor2_bk, kFor2_rt, kFor_at, w_for, w_it, w_itN, w_itT, w_itL, kLc_at, w_lc, w_yes, w_add, w_sub, w_neg, w_cI, w_abs, w_intI, w_gcd, w_lenT, w_lenL, w_listT, w_listL, w_listS, w_tupT, w_tupL, w_slT, w_slL, w_zipT, w_zipL, w_isN, w_notB, isi_int, isi_bl, isi_non, isi_str, isi_tup, isi_lst, isNon, List.set_cons_zero, List.set_cons_succ, List.map_cons, List.map_nil, List.replicate_succ, List.replicate_zero, List.cons_append, List.nil_append, List.length_cons, List.length_nil, Bool.not_true, Bool.not_false, decide_true, decide_false, if_true, if_false, reduceIte, Nat.reduceAdd, Nat.reduceSub, Bool.false_eq_true, wipeD, w_def, wp_gc, eq_self, kGc_v, Int.reduceToNat]
      refine wp_mono (wp_great c) fun o S2 h => ?_
      obtain ⟨rfl, c2⟩ := h
      simp only [wp_ret, wp_exM, wp_bnd, bK_v, bK_e, w_seq, kSeq_nx, kSeq_rt, kSeq_bk, kSeq_ct, kNx_at, w_asg, kAsg_n, kAsg_t, w_gsNil, kGs_at, w_gsCons, w_gN, w_gTup, kSub1_at, kSub2_at, kAsg_s, kExpr_at, w_expr, kRet_at, w_retS, w_retN, w_skip, w_brk, w_cnt, kIfS_t, kIfS_f, w_ifS, w_raise, kPar_at, w_par, kPar3_at, w_par3, w_var0, w_varS, w_C, w_nil, kCons1_at, w_cons, k2_at, w_2, w_1, w_call, w_B, w_asB, w_tru, w_trB, kAnd_t, kAnd_f, w_and, kOr_t, kOr_f, w_or, w_not, kAndV_t, kAndV_f, w_andV, kOrV_t, kOrV_f, w_orV, kIf_t, kIf_f, w_if, k3a_at, k3b_at, k3c_t, k3c_f, w_3c, kSl1_at, kSl2_at, w_sl, w_noneI, kSomeI_at, w_someI, flD_rt, flD_nx, kFin_at, isV_at, isE_at, kGc_e, kFor1_at, kFor2_nx, kFor2_ct, kFor2_bk, kFor2_rt, kFor_at, w_for, w_it, w_itN, w_itT, w_itL, kLc_at, w_lc, w_yes, w_add, w_sub, w_neg, w_cI, w_abs, w_intI, w_gcd, w_lenT, w_lenL, w_listT, w_listL, w_listS, w_tupT, w_tupL, w_slT, w_slL, w_zipT, w_zipL, w_isN, w_notB, isi_int, isi_bl, isi_non, isi_str, isi_tup, isi_lst, isNon, List.set_cons_zero, List.set_cons_succ, List.map_cons, List.map_nil, List.replicate_succ, List.replicate_zero, List.cons_append, List.nil_append, List.length_cons, List.length_nil, Bool.not_true, Bool.not_false, decide_true, decide_false, if_true, if_false, reduceIte, Nat.reduceAdd, Nat.reduceSub, Bool.false_eq_true, wipeD, w_def, wp_gc, eq_self, kGc_v, Int.reduceToNat, kGc_nr _ _ (.bl true) _ rfl]
      exact ⟨trivial, trivial⟩)
  exact ⟨S, by rw [e, h1]⟩
end Mir
namespace Mir
section
open PySem PySem.Spec PyProof.Rows L2 RZ LamX
def fnL : List He.DefD := [dd "is_whole" s_is_whole, dd "need_whole" s_need_whole, dd "is_tuple_of" s_is_tuple_of, dd "is_wave" s_is_wave, dd "need_wave" s_need_wave, dd "wave_at" s_wave_at, dd "is_wave_number" s_is_wave_number, dd "wave_product" s_wave_product, dd "wave_back" s_wave_back, dd "wave_power" s_wave_power, dd "_law_cup" s__law_cup, dd "_law_roll" s__law_roll, dd "_law_some" s__law_some, dd "_law_sort" s__law_sort, dd "_law_like" s__law_like, dd "_law_wave" s__law_wave, dd "_law_put" s__law_put, dd "_law_right" s__law_right, dd "_law_error" s__law_error, dd "_law_written_right" s__law_written_right, dd "_law_great_right" s__law_great_right, dd "_law_errors_right" s__law_errors_right, dd "law" s_law]
def faL : List He.Fa := [.glo "is_whole", .glo "need_whole", .glo "is_tuple_of", .glo "is_wave", .glo "need_wave", .glo "wave_at", .glo "is_wave_number", .glo "wave_product", .glo "wave_back", .glo "wave_power", .glo "_law_cup", .glo "_law_roll", .glo "_law_some", .glo "_law_sort", .glo "_law_like", .glo "_law_wave", .glo "_law_put", .glo "_law_right", .glo "_law_error", .glo "_law_written_right", .glo "_law_great_right", .glo "_law_errors_right", .glo "law", .glo "FormError", .glo "InvalidNumber", .exc "FormError", .exc "InvalidNumber", .free "abs", .free "bool", .free "int", .free "isinstance", .free "len", .free "list", .free "range", .free "str", .free "tuple", .free "zip", .int "MANY" (60)]
def tfL : List He.Defn := [("_law_errors_right", none)]
def exB (K : PySem.W.Frag) : Bool := (He.eqO (PySem.W.nsIn K cStatics "sys.int_max_str_digits") (some none) && (subB K subL && tabsNd K tfL))
theorem tx_of {K : PySem.W.Frag} {mg : Str → Option Value} {base h : Heap} {w : World} (X : K.In h) (G : h.Ns mainGlobals mg) (c : He.SaysX faL fnL [] tfL exB w h K) (TB : ∀ p ∈ tfL, TabB base mg (He.cT K p).1 (He.cT K p).2) : Tx K mg base (tabsK K tfL) := by
  have e0 := c.more
  obtain ⟨eD, e0⟩ := He.ba e0
  obtain ⟨eS, e0⟩ := He.ba e0
  exact {
    digits := He.eqO_ok eD
    n_abs := free_at X G c.t.d 27 rfl
    n_bool := free_at X G c.t.d 28 rfl
    n_int := free_at X G c.t.d 29 rfl
    n_isinstance := free_at X G c.t.d 30 rfl
    n_len := free_at X G c.t.d 31 rfl
    n_list := free_at X G c.t.d 32 rfl
    n_range := free_at X G c.t.d 33 rfl
    n_str := free_at X G c.t.d 34 rfl
    n_tuple := free_at X G c.t.d 35 rfl
    n_zip := free_at X G c.t.d 36 rfl
    e_FormError := err_at X G c.t.d 23 25 rfl rfl
    e_InvalidNumber := err_at X G c.t.d 24 26 rfl rfl
    c_MANY := He.int_ok X G (c.t.d.fact 37 rfl)
    f_is_whole := def_at X G c.t.d 0 0 rfl rfl
    f_need_whole := def_at X G c.t.d 1 1 rfl rfl
    f_is_tuple_of := def_at X G c.t.d 2 2 rfl rfl
    f_is_wave := def_at X G c.t.d 3 3 rfl rfl
    f_need_wave := def_at X G c.t.d 4 4 rfl rfl
    f_wave_at := def_at X G c.t.d 5 5 rfl rfl
    f_is_wave_number := def_at X G c.t.d 6 6 rfl rfl
    f_wave_product := def_at X G c.t.d 7 7 rfl rfl
    f_wave_back := def_at X G c.t.d 8 8 rfl rfl
    f_wave_power := def_at X G c.t.d 9 9 rfl rfl
    f__law_cup := def_at X G c.t.d 10 10 rfl rfl
    f__law_roll := def_at X G c.t.d 11 11 rfl rfl
    f__law_some := def_at X G c.t.d 12 12 rfl rfl
    f__law_sort := def_at X G c.t.d 13 13 rfl rfl
    f__law_like := def_at X G c.t.d 14 14 rfl rfl
    f__law_wave := def_at X G c.t.d 15 15 rfl rfl
    f__law_put := def_at X G c.t.d 16 16 rfl rfl
    f__law_right := def_at X G c.t.d 17 17 rfl rfl
    f__law_error := def_at X G c.t.d 18 18 rfl rfl
    f__law_written_right := def_at X G c.t.d 19 19 rfl rfl
    f__law_great_right := def_at X G c.t.d 20 20 rfl rfl
    l__law_errors_right := lam_at X G c.t.d TB e0 21 21 0 rfl rfl rfl
    f__law_errors_right := def_at X G c.t.d 21 21 rfl rfl
    f_law := def_at X G c.t.d 22 22 rfl rfl
    sub := sub_ok X G eS }
def loose0 : List PySem.Str := ["FormError", "InvalidNumber", "is_whole", "need_whole", "is_tuple_of", "is_wave", "need_wave", "wave_at", "is_wave_number", "wave_product", "wave_back", "wave_power", "_law_cup", "_law_roll", "_law_some", "_law_sort", "_law_like", "_law_wave", "_law_put", "_law_right", "_law_error", "_law_written_right", "_law_great_right", "_law_errors_right", "MANY"]
abbrev looseL : List PySem.Str := loose0
abbrev rowR : PySem.W.OpenRow := PySem.W.OpenLaw.row PySem.Challenge.rw_formsfinite_k33_whole_wave_numbers
abbrev hkL : PySem.W.Hook := hookY 4 faL fnL [] tfL exB
def obL (s : PySem.W.SharedT) : He.AlX := obsY 4 faL fnL [] tfL exB (HandSHeadRun.getT s)
theorem obL_eq (s : PySem.W.SharedT) : obL s = hkL.obs s.abs := obsY_eq (HandSHeadRun.getT_eq s)
theorem runL (w : World) : HandSHeadRun.RunEq rowR (PySem.W.view rowR.prog [29]) hkL obL 4000 looseL w := by
  intro os
  kernel_rfl
end
end Mir
open PySem PySem.W PySem.Calls PyProof.Rows
theorem PySem.Challenge.cw_formsfinite_k33_whole_wave_numbers_holds : PySem.Challenge.rw_formsfinite_k33_whole_wave_numbers.Holds := by
  w_on; o_law
  refine HandSHeadRun.head_any (r := OpenLaw.row PySem.Challenge.rw_formsfinite_k33_whole_wave_numbers) (q := view (OpenLaw.row PySem.Challenge.rw_formsfinite_k33_whole_wave_numbers).prog [29]) (H := Mir.hkL) (ob := Mir.obL) (M := 4000) (loose := Mir.looseL) (d := HandSHeadRun.topDef (OpenLaw.row PySem.Challenge.rw_formsfinite_k33_whole_wave_numbers).prog 29) (kwd := []) Mir.obL_eq (by kernel_rfl) (fun s => by kernel_rfl) Mir.runL
    (by kernel_rfl) (by kernel_rfl) (by kernel_rfl) (by rfl) (by first | assumption | decide +kernel) (by decide +kernel) ⟨rfl, rfl, rfl, rfl, rfl, by decide +kernel⟩ ?hw ?hc
  case hw => w_witness2
  case hc =>
    refine LamX.walk_ofTsE (l := PySem.Challenge.rw_formsfinite_k33_whole_wave_numbers) (n := 63) (k := 16) (x := "script") (CX := fun w => L2N.CX (PySem.Challenge.rw_formsfinite_k33_whole_wave_numbers).prog w) rfl (by decide) (by kernel_rfl) ⟨rfl, by decide, by decide⟩ ?F fun w H s e s' z => Mir.cxN_none H s e s' z
    intro w mg fa h Y G hmg0
    obtain ⟨K, KX, c⟩ := Y
    have hmg : mg ("law" : PySem.Str) = some (.ref fa) := by
      have e : (HandSHeadRun.topDef (OpenLaw.row PySem.Challenge.rw_formsfinite_k33_whole_wave_numbers).prog 29).name = ("law" : PySem.Str) := by kernel_rfl
      rw [← e]
      exact hmg0
    obtain ⟨fd, F⟩ := c.t.d.def_ 22 (d := Mir.dd "law" Mir.s_law) rfl
    have e := hmg.symm.trans (He.glo_ok KX G (c.t.d.fact 22 (f := .glo "law") rfl))
    cases e
    have b := L2.FunD.bindsA (ps := ["script"]) F fun _ _ _ _ _ _ us hl => match us, hl with | [_], _ => rfl
    exact ⟨K, KX, Mir.law_at KX c (fun s v => b s [v] rfl) Mir.plain fun base hK hG TB => Mir.d_law (Mir.tx_of KX G c TB) F⟩
