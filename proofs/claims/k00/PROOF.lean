import PyProof.Rows.All
import Wide.All
import OpenK.AllK
import Wide.FinOn
import HandS.ForMost
import HandS.IsInst
import HandS.Deep
import HandS.Star
import HandS.TupAny
import HandS.Flow
import HandS.More
import HandS.WordsExc
import PyProof.ReprRoads
import PySem.Challenge.RW_wallorplot_k00_values_are_told_from_what
set_option Elab.async false
set_option linter.all false
set_option maxRecDepth 100000
set_option maxHeartbeats 4000000
/-! Z1: data as trees, choices, what represents what. -/
namespace Z
open PySem PySem.Spec PyProof.Rows L2

/-- data without addresses (but those of the written part's things) -/
inductive Ty where
  | none | bool | int | str | list | tuple | dict
  deriving DecidableEq
def Ty.name : Ty → String
  | .none => "NoneType" | .bool => "bool" | .int => "int" | .str => "str" | .list => "list" | .tuple => "tuple" | .dict => "dict"
inductive D where
  | non | bl (b : Bool) | int (i : Int) | str (x : Str)
  | lst (xs : List D) | tup (xs : List D)
  | dic (ks : List Key) (vs : List D)
  | obj (C : Nat) (fs : List Str) (vs : List D)
  | ty (n : Ty) | cls (n : Nat) | fn (n : Nat) | pen

/-- a run with open choices -/
inductive T (α : Type) where
  | ret (a : α) | ask (m : Nat) (k : Nat → T α) | exc (C : Nat) (fs : List Str) (vs : List D) | bad

abbrev XP := Nat → List Str → List D → Nat → Prop
namespace T
def bind {α β : Type} : T α → (α → T β) → T β
  | ret a, f => f a
  | ask m k, f => ask m fun c => bind (k c) f
  | exc C fs vs, _ => exc C fs vs
  | bad, _ => bad
def ofO {α : Type} : Option α → T α
  | some a => ret a
  | none => bad
/-- all ways end, in P, or by an error, in Y; at most b choices -/
def All {α : Type} : T α → Nat → (α → Nat → Prop) → XP → Prop
  | ret a, b, P, _ => P a b
  | ask m k, b, P, Y => ∃ b', b = b' + 1 ∧ ∀ c, c < m → All (k c) b' P Y
  | exc C fs vs, b, _, Y => Y C fs vs b
  | bad, _, _, _ => False
theorem All.mono2 {α : Type} : ∀ {t : T α} {b : Nat} {P Q : α → Nat → Prop} {Y Z : XP}, All t b P Y → (∀ a b, P a b → Q a b) → (∀ C fs vs b, Y C fs vs b → Z C fs vs b) → All t b Q Z
  | ret a, b, P, Q, Y, Z, h, k, k2 => k a b h
  | ask m f, b, P, Q, Y, Z, ⟨b', e, h⟩, k, k2 => ⟨b', e, fun c hc => All.mono2 (h c hc) k k2⟩
  | exc C fs vs, b, P, Q, Y, Z, h, k, k2 => k2 C fs vs b h
  | bad, _, _, _, _, _, h, k, k2 => h.elim
theorem All.mono {α : Type} {t : T α} {b : Nat} {P Q : α → Nat → Prop} {Y : XP} (h : All t b P Y) (k : ∀ a b, P a b → Q a b) : All t b Q Y := All.mono2 h k fun _ _ _ _ x => x
theorem All.bind {α β : Type} {f : α → T β} {P : β → Nat → Prop} {Y : XP} : ∀ {t : T α} {b : Nat}, All (T.bind t f) b P Y → All t b (fun a b' => All (f a) b' P Y) Y
  | ret a, b, h => h
  | ask m k, b, ⟨b', e, h⟩ => ⟨b', e, fun c hc => All.bind (h c hc)⟩
  | exc C fs vs, b, h => h
  | bad, _, h => h.elim
theorem All.of_bind {α β : Type} {f : α → T β} {P : β → Nat → Prop} {Y : XP} : ∀ {t : T α} {b : Nat}, All t b (fun a b' => All (f a) b' P Y) Y → All (T.bind t f) b P Y
  | ret a, b, h => h
  | ask m k, b, ⟨b', e, h⟩ => ⟨b', e, fun c hc => All.of_bind (h c hc)⟩
  | exc C fs vs, b, h => h
  | bad, _, h => h.elim
theorem All.ofO {α : Type} {o : Option α} {b : Nat} {P : α → Nat → Prop} {Y : XP} (h : All (T.ofO o) b P Y) : ∃ a, o = some a ∧ P a b := by
  cases o with
  | none => exact h.elim
  | some a => exact ⟨a, rfl, h⟩
/-- more choices may be left -/
theorem All.more {α : Type} : ∀ {t : T α} {b c : Nat} {P : α → Nat → Prop} {Y : XP}, All t b P Y → b ≤ c → (∀ a b c, b ≤ c → P a b → P a c) → (∀ C fs vs b c, b ≤ c → Y C fs vs b → Y C fs vs c) → All t c P Y
  | ret a, b, c, P, Y, h, l, k, k2 => k a b c l h
  | ask m f, b, c, P, Y, ⟨b', e, h⟩, l, k, k2 => ⟨c - 1, by omega, fun x hx => All.more (h x hx) (by omega) k k2⟩
  | exc C fs vs, b, c, P, Y, h, l, k, k2 => k2 C fs vs b c l h
  | bad, _, _, _, _, h, _, _, _ => h.elim
end T

/-- what is known of the run: the pen, the classes, the defs -/
structure Gh where
  pa : Option Addr
  cl : Nat → Addr
  fa : Nat → Addr
/-- a list, a tuple that is read and stays: not one of O, or of the written part -/
def FL (O : List Addr) (H : Hp) (a : Addr) (vs : List V) : Prop := H a = some (.lst vs) ∧ a ∉ O
/-- a tuple of the written part -/
def KT (K : PySem.W.Frag) (a : Addr) (vs : List V) : Prop := ∃ (o : Obj) (its : Array Value) (n : Nat), K.lookup a = some o ∧ o.cls = .type "tuple" ∧ o.data = .seq its n ∧ its.size ≤ sizeLine ∧ Vals vs its.toList
def FT (K : PySem.W.Frag) (O : List Addr) (H : Hp) (a : Addr) (vs : List V) : Prop := (H a = some (.tup vs) ∧ a ∉ O) ∨ KT K a vs
section
variable (g : Gh) (K : PySem.W.Frag) (O : List Addr) (H : Hp)
mutual
/-- v stands for d; no list of it is one of O -/
inductive RV : V → D → Prop
  | non : RV .non .non
  | bl (b : Bool) : RV (.bl b) (.bl b)
  | int (i : Int) : RV (.int i) (.int i)
  | str (x : Str) : RV (.str x) (.str x)
  | ty (n : Ty) : RV (.ty n.name) (.ty n)
  | cls (n : Nat) : RV (.ref (g.cl n)) (.cls n)
  | fn (n : Nat) : RV (.ref (g.fa n)) (.fn n)
  | pen {a : Addr} : g.pa = some a → RV (.ref a) .pen
  | lst {a : Addr} {vs : List V} {ds : List D} : FL O H a vs → RVs vs ds → RV (.ref a) (.lst ds)
  | tup {a : Addr} {vs : List V} {ds : List D} : FT K O H a vs → RVs vs ds → RV (.ref a) (.tup ds)
  | dic {a : Addr} {ks : List Key} {vs : List V} {ds : List D} : Rd H a (.dK (ks.zip vs)) → a ∉ O → ks.length = vs.length → RVs vs ds → RV (.ref a) (.dic ks ds)
  | obj {a dx : Addr} {C : Nat} {fs : List Str} {vs : List V} {ds : List D} : H a = some (.ins (g.cl C) dx (fs.zip vs)) → a ∉ O → fs.length = vs.length → RVs vs ds → RV (.ref a) (.obj C fs ds)
inductive RVs : List V → List D → Prop
  | nil : RVs [] []
  | cons {v : V} {vs : List V} {d : D} {ds : List D} : RV v d → RVs vs ds → RVs (v :: vs) (d :: ds)
end
end

/-- all but the pen is kept -/
def Kp (pa : Option Addr) (H H' : Hp) : Prop := ∀ a o, H a = some o → pa ≠ some a → H' a = some o
theorem Kp.refl {pa : Option Addr} {H : Hp} : Kp pa H H := fun _ _ h _ => h
theorem Kp.trans {pa : Option Addr} {H H1 H2 : Hp} (a : Kp pa H H1) (b : Kp pa H1 H2) : Kp pa H H2 := fun x o h n => b x o (a x o h n) n
theorem Kp.of {pa : Option Addr} {H H' : Hp} (s : Same H H') : Kp pa H H' := fun a o h _ => s a o h
/-- kept at all that is not in O -/
def KpO (O : List Addr) (H H' : Hp) : Prop := ∀ a o, H a = some o → a ∉ O → H' a = some o
theorem KpO.of {O : List Addr} {H H' : Hp} (s : Same H H') : KpO O H H' := fun a o h _ => s a o h

section
variable {g : Gh} {K : PySem.W.Frag} {O O' : List Addr} {H H' : Hp}
theorem KpO.rd {a : Addr} {u : HO} (k : KpO O H H') (n : a ∉ O) (h : Rd H a u) : Rd H' a u := by
  rcases h with h | ⟨o, h⟩
  · exact .inl (k a _ h n)
  · exact .inr ⟨o, k a _ h n⟩
theorem Rd.ne {a : Addr} {u : HO} (h : Rd H a u) : H a ≠ none := by
  rcases h with h | ⟨o, h⟩ <;> rw [h] <;> exact fun z => nomatch z
theorem notIn_of {a : Addr} {u : HO} (hs : ∀ a ∈ O', a ∈ O ∨ H a = none) (h : Rd H a u) (n : a ∉ O) : a ∉ O' := fun z =>
  (hs a z).elim n (Rd.ne h)
theorem FL.keep {a : Addr} {vs : List V} (k : KpO O H H') (hs : ∀ a ∈ O', a ∈ O ∨ H a = none) (h : FL O H a vs) : FL O' H' a vs :=
  ⟨k a _ h.1 h.2, notIn_of hs (.inl h.1) h.2⟩
theorem FT.keep {a : Addr} {vs : List V} (k : KpO O H H') (hs : ∀ a ∈ O', a ∈ O ∨ H a = none) (h : FT K O H a vs) : FT K O' H' a vs := by
  rcases h with ⟨h, n⟩ | h
  · exact .inl ⟨k _ _ h n, notIn_of hs (.inl h) n⟩
  · exact .inr h
theorem FL.sq {a : Addr} {vs : List V} (h : FL O H a vs) : SqL K H a vs := .inl (.inl h.1)
theorem FT.sq {a : Addr} {vs : List V} (h : FT K O H a vs) : SqT K H a vs := by
  rcases h with ⟨h, n⟩ | h
  · exact .inl (.inl h)
  · exact .inr h
mutual
theorem RV.keep (k : KpO O H H') (hs : ∀ a ∈ O', a ∈ O ∨ H a = none) : ∀ {v : V} {d : D}, RV g K O H v d → RV g K O' H' v d
  | _, _, .non => .non
  | _, _, .bl b => .bl b
  | _, _, .int i => .int i
  | _, _, .str x => .str x
  | _, _, .ty n => .ty n
  | _, _, .cls a => .cls a
  | _, _, .fn a => .fn a
  | _, _, .pen e => .pen e
  | _, _, .lst h r => .lst (h.keep k hs) (RVs.keep k hs r)
  | _, _, .tup h r => .tup (h.keep k hs) (RVs.keep k hs r)
  | _, _, .dic h n l r => .dic (k.rd n h) (notIn_of hs h n) l (RVs.keep k hs r)
  | _, _, .obj h n l r => .obj (k _ _ h n) (notIn_of hs (.inl h) n) l (RVs.keep k hs r)
theorem RVs.keep (k : KpO O H H') (hs : ∀ a ∈ O', a ∈ O ∨ H a = none) : ∀ {vs : List V} {ds : List D}, RVs g K O H vs ds → RVs g K O' H' vs ds
  | _, _, .nil => .nil
  | _, _, .cons h t => .cons (RV.keep k hs h) (RVs.keep k hs t)
end
theorem RVs.length : ∀ {vs : List V} {ds : List D}, RVs g K O H vs ds → vs.length = ds.length
  | _, _, .nil => rfl
  | _, _, .cons _ t => congrArg (· + 1) (RVs.length t)
theorem RVs.get : ∀ {vs : List V} {ds : List D} {i : Nat} {d : D}, RVs g K O H vs ds → ds[i]? = some d → ∃ v, vs[i]? = some v ∧ RV g K O H v d
  | _, _, i, d, .nil, e => by simp at e
  | _, _, 0, d, .cons h _, e => by simp at e; subst e; exact ⟨_, rfl, h⟩
  | _, _, i + 1, d, .cons _ t, e => by simpa using RVs.get t (by simpa using e)
theorem RVs.get' : ∀ {vs : List V} {ds : List D} {i : Nat} {v : V}, RVs g K O H vs ds → vs[i]? = some v → ∃ d, ds[i]? = some d ∧ RV g K O H v d
  | _, _, i, d, .nil, e => by simp at e
  | _, _, 0, d, .cons h _, e => by simp at e; subst e; exact ⟨_, rfl, h⟩
  | _, _, i + 1, d, .cons _ t, e => by simpa using RVs.get' t (by simpa using e)
theorem RVs.append : ∀ {vs ws : List V} {ds es : List D}, RVs g K O H vs ds → RVs g K O H ws es → RVs g K O H (vs ++ ws) (ds ++ es)
  | _, _, _, _, .nil, s => s
  | _, _, _, _, .cons h t, s => .cons h (RVs.append t s)
theorem RVs.drop : ∀ {vs : List V} {ds : List D} (n : Nat), RVs g K O H vs ds → RVs g K O H (vs.drop n) (ds.drop n)
  | _, _, 0, r => r
  | _, _, _ + 1, .nil => .nil
  | _, _, n + 1, .cons _ t => RVs.drop n t
theorem RVs.take : ∀ {vs : List V} {ds : List D} (n : Nat), RVs g K O H vs ds → RVs g K O H (vs.take n) (ds.take n)
  | _, _, 0, _ => .nil
  | _, _, _ + 1, .nil => .nil
  | _, _, n + 1, .cons h t => .cons h (RVs.take n t)
end

/-! ### the pen, the slots -/
def PenOk (pa : Option Addr) (O : List Addr) (H : Hp) (b : Nat) : Prop := ∀ a, pa = some a → a ∈ O ∧ ∃ (c : Addr) (t r : Int) (cells : List Int),
  H a = some (.lst [.ref c, .int t, .int r]) ∧ H c = some (.lst (cells.map V.int)) ∧ c ∉ O ∧ 0 ≤ t ∧ t + (b : Int) ≤ 4194304 ∧ 0 ≤ r

inductive Sl where
  | un | val (d : D) | own (ds : List D)
abbrev Env' := List Sl

/-- a body's run: what is known, the heap at its entry, what the callers own, what is wished of errors -/
structure Bd where
  g : Gh
  H0 : Hp
  O0 : List Addr
  Y : XP
structure Rep (B : Bd) (K : PySem.W.Frag) (ρ : List Sl) (O : List Addr) (b : Nat) (H : Hp) (σ : L2.St) : Prop where
  len : σ.length = ρ.length
  slot : ∀ (i : Nat) d, ρ[i]? = some (.val d) → ∃ v, σ[i]? = some (some v) ∧ RV B.g K O H v d
  own : ∀ (i : Nat) ds, ρ[i]? = some (.own ds) → ∃ a vs, σ[i]? = some (some (.ref a)) ∧ a ∈ O ∧ B.g.pa ≠ some a ∧ B.H0 a = none ∧ H a = some (.lst vs) ∧ RVs B.g K O H vs ds
  apart : ∀ (i j : Nat) ds es a, ρ[i]? = some (.own ds) → ρ[j]? = some (.own es) → σ[i]? = some (some (.ref a)) → σ[j]? = some (some (.ref a)) → i = j
  there : ∀ a ∈ O, H a ≠ none
  pen : PenOk B.g.pa O H b
  kept : Kp B.g.pa B.H0 H
  sub : ∀ a ∈ B.O0, a ∈ O
  pen0 : ∀ a, B.g.pa = some a → a ∈ B.O0
  base : ∀ a ∈ B.O0, B.H0 a = none → False

section
variable {B : Bd} {pa : Option Addr} {K : PySem.W.Frag} {O O' : List Addr} {H H' : Hp} {ρ : List Sl} {b b' : Nat} {σ : L2.St}
theorem Same.there (s : Same H H') (h : ∀ a ∈ O, H a ≠ none) : ∀ a ∈ O, H' a ≠ none := fun a ha z => by
  cases e : H a with
  | none => exact h a ha e
  | some o => rw [s a o e] at z; cases z
theorem PenOk.same (h : PenOk pa O H b) (s : Same H H') : PenOk pa O H' b := fun a e => by
  obtain ⟨m, c, t, r, cells, h1, h2, h3⟩ := h a e
  exact ⟨m, c, t, r, cells, s _ _ h1, s _ _ h2, h3⟩
theorem PenOk.less (h : PenOk pa O H b) (l : b' ≤ b) : PenOk pa O H b' := fun a e => by
  obtain ⟨m, c, t, r, cells, h1, h2, h3, h4, h5, h6⟩ := h a e
  exact ⟨m, c, t, r, cells, h1, h2, h3, h4, by omega, h6⟩
theorem PenOk.sub (h : PenOk pa O H b) (hs : ∀ a ∈ O', a ∈ O) (hp : ∀ a, pa = some a → a ∈ O') : PenOk pa O' H b := fun a e => by
  obtain ⟨m, c, t, r, cells, h1, h2, h3, h4⟩ := h a e
  exact ⟨hp a e, c, t, r, cells, h1, h2, fun z => h3 (hs c z), h4⟩
theorem hs_refl : ∀ a ∈ O, a ∈ O ∨ H a = none := fun _ h => .inl h
theorem hs_sub (hs : ∀ a ∈ O', a ∈ O) : ∀ a ∈ O', a ∈ O ∨ H a = none := fun a h => .inl (hs a h)
/-- all but the pen is kept; the pen is one still -/
theorem Rep.go (r : Rep B K ρ O b H σ) (k : Kp B.g.pa H H') (p : PenOk B.g.pa O H' b') : Rep B K ρ O b' H' σ := by
  have kO : KpO O H H' := fun a o e n => k a o e fun z => n (r.pen a z).1
  refine ⟨r.len, fun i d e => ?_, fun i ds e => ?_, r.apart, fun a ha z => ?_, p, r.kept.trans k, r.sub, r.pen0, r.base⟩
  · obtain ⟨v, h1, h2⟩ := r.slot i d e
    exact ⟨v, h1, h2.keep kO hs_refl⟩
  · obtain ⟨a, vs, h1, h2, h3, h4, h5, h6⟩ := r.own i ds e
    exact ⟨a, vs, h1, h2, h3, h4, k _ _ h5 h3, h6.keep kO hs_refl⟩
  · cases e : H a with
    | none => exact r.there a ha e
    | some o =>
      by_cases q : B.g.pa = some a
      · obtain ⟨_, _, _, _, _, h1, _⟩ := p a q
        rw [h1] at z; cases z
      · rw [k a o e q] at z; cases z
/-- a step that keeps all that was there -/
theorem Rep.same (r : Rep B K ρ O b H σ) (s : Same H H') : Rep B K ρ O b H' σ := r.go (.of s) (r.pen.same s)
theorem Rep.less (r : Rep B K ρ O b H σ) (l : b' ≤ b) : Rep B K ρ O b' H σ := r.go .refl (r.pen.less l)
end
end Z

set_option Elab.async false
set_option linter.all false
set_option maxRecDepth 100000
set_option maxHeartbeats 4000000
/-! Z2: expressions. -/
namespace Z
open PySem PySem.Spec PyProof.Rows L2

/-! ### readings -/
def tM (B : Bd) (K : PySem.W.Frag) (f : List Sl → T D) : TE := fun σ H Q => ∃ ρ O b, Rep B K ρ O b H σ ∧
  (f ρ).All b (fun d b' => ∀ v H', Kp B.g.pa H H' → Rep B K ρ O b' H' σ → RV B.g K O H' v d → Q v H') B.Y
def tK (B : Bd) (K : PySem.W.Frag) (f : List Sl → T Bool) : TT := fun σ H Q => ∃ ρ O b, Rep B K ρ O b H σ ∧
  (f ρ).All b (fun c b' => ∀ H', Kp B.g.pa H H' → Rep B K ρ O b' H' σ → Q c H') B.Y
def tL (B : Bd) (K : PySem.W.Frag) (f : List Sl → T (List D)) : TA := fun σ H Q => ∃ ρ O b, Rep B K ρ O b H σ ∧
  (f ρ).All b (fun ds b' => ∀ vs H', Kp B.g.pa H H' → Rep B K ρ O b' H' σ → RVs B.g K O H' vs ds → Q vs H') B.Y

theorem PEimp {X : Cx} {e : Expr} {t t' : TE} (h : PE X e t) (k : ∀ σ H Q, t' σ H Q → t σ H Q) : PE X e t' := ⟨fun pins s σ H Q I w => h.run pins s σ H Q I (k σ H Q w)⟩
theorem PTimp {X : Cx} {e : Expr} {t t' : TT} (h : PT X e t) (k : ∀ σ H Q, t' σ H Q → t σ H Q) : PT X e t' := ⟨fun pins s σ H Q I w => h.run pins s σ H Q I (k σ H Q w)⟩
theorem PWimp {X : Cx} {e : Expr} {t t' : TT} (h : PW X e t) (k : ∀ σ H Q, t' σ H Q → t σ H Q) : PW X e t' := ⟨fun wh pins s σ H Q I w => h.run wh pins s σ H Q I (k σ H Q w)⟩
theorem PAimp {X : Cx} {es : List Expr} {t t' : TA} (h : PA X es t) (k : ∀ σ H Q, t' σ H Q → t σ H Q) : PA X es t' := ⟨fun pos pins s σ H Q I w => h.run pos pins s σ H Q I (k σ H Q w)⟩

section
variable {B : Bd} {g : Gh} {K : PySem.W.Frag} {O : List Addr} {H H' : Hp} {ρ : List Sl} {b : Nat} {σ : L2.St}
theorem Rep.kpO (r : Rep B K ρ O b H σ) (k : Kp B.g.pa H H') : KpO O H H' := fun a o e n => k a o e fun z => n (r.pen a z).1
theorem Rep.kpO' {H1 : Hp} (r : Rep B K ρ O b H1 σ) (k : Kp B.g.pa H H') : KpO O H H' := fun a o e n => k a o e fun z => n (r.pen a z).1
theorem same_new {H : Hp} {p : Addr} {o : HO} (h : H p = none) : Same H (upd H p o) := fun b x e => by
  rw [upd_ne (ne_of_none e h)]; exact e
theorem notO {p : Addr} (hO : ∀ q ∈ O, H q ≠ none) (hp : H p = none) : p ∉ O := fun z => hO p z hp
theorem RV.same {v : V} {d : D} (h : RV g K O H v d) (s : Same H H') : RV g K O H' v d := h.keep (.of s) hs_refl
theorem RVs.same {vs : List V} {ds : List D} (h : RVs g K O H vs ds) (s : Same H H') : RVs g K O H' vs ds := h.keep (.of s) hs_refl
theorem new_lst {p : Addr} {vs : List V} {ds : List D} (hO : ∀ q ∈ O, H q ≠ none) (hp : H p = none) (r : RVs g K O H vs ds) : RV g K O (upd H p (.lst vs)) (.ref p) (.lst ds) :=
  .lst ⟨upd_same, notO hO hp⟩ (r.same (same_new hp))
theorem new_tup {p : Addr} {vs : List V} {ds : List D} (hO : ∀ q ∈ O, H q ≠ none) (hp : H p = none) (r : RVs g K O H vs ds) : RV g K O (upd H p (.tup vs)) (.ref p) (.tup ds) :=
  .tup (.inl ⟨upd_same, notO hO hp⟩) (r.same (same_new hp))
end

/-! ### operators by values -/
def VOp2 (K : PySem.W.Frag) (r : R2) (g : D → D → Option D) : Prop := ∀ (g0 : Gh) (O : List Addr) (H : Hp) (x y : V) (a b d : D) (Q : VK), (∀ q ∈ O, H q ≠ none) → RV g0 K O H x a → RV g0 K O H y b → g a b = some d →
  (∀ v H', Same H H' → RV g0 K O H' v d → Q v H') → r x y H Q
def VOp1 (K : PySem.W.Frag) (r : V → Hp → VK → Prop) (g : D → Option D) : Prop := ∀ (g0 : Gh) (O : List Addr) (H : Hp) (x : V) (a d : D) (Q : VK), (∀ q ∈ O, H q ≠ none) → RV g0 K O H x a → g a = some d →
  (∀ v H', Same H H' → RV g0 K O H' v d → Q v H') → r x H Q
def VCall (K : PySem.W.Frag) (r : List V → Hp → VK → Prop) (g : List D → Option D) : Prop := ∀ (g0 : Gh) (O : List Addr) (H : Hp) (xs : List V) (as : List D) (d : D) (Q : VK), (∀ q ∈ O, H q ≠ none) → RVs g0 K O H xs as → g as = some d →
  (∀ v H', Same H H' → RV g0 K O H' v d → Q v H') → r xs H Q
/-- first the one, then the other -/
def orE {α : Type} (a b : Option α) : Option α := match a with | some x => some x | none => b
theorem orE_some {α : Type} {a b : Option α} {x : α} (h : orE a b = some x) : a = some x ∨ b = some x := by
  cases a with
  | none => exact .inr h
  | some y => exact .inl h
theorem VOp2.or {K : PySem.W.Frag} {r r' : R2} {g g' : D → D → Option D} (h : VOp2 K r g) (h' : VOp2 K r' g') : VOp2 K (fun x y H Q => r x y H Q ∨ r' x y H Q) (fun a b => orE (g a b) (g' a b)) :=
  fun pa O H x y a b d Q hO ra rb e q => (orE_some e).elim (fun e => .inl (h pa O H x y a b d Q hO ra rb e q)) fun e => .inr (h' pa O H x y a b d Q hO ra rb e q)
theorem VCall.or {K : PySem.W.Frag} {r r' : List V → Hp → VK → Prop} {g g' : List D → Option D} (h : VCall K r g) (h' : VCall K r' g') : VCall K (fun xs H Q => r xs H Q ∨ r' xs H Q) (fun as => orE (g as) (g' as)) :=
  fun pa O H xs as d Q hO ra e q => (orE_some e).elim (fun e => .inl (h pa O H xs as d Q hO ra e q)) fun e => .inr (h' pa O H xs as d Q hO ra e q)

/-! ### the combinators -/
abbrev FE := List Sl → T D
abbrev FT' := List Sl → T Bool
abbrev FA := List Sl → T (List D)
def eVar (i : Nat) : FE := fun ρ => match ρ[i]? with
  | some (.val d) => .ret d
  | _ => .bad
def eC (d : D) : FE := fun _ => .ret d
def eOp2 (g : D → D → Option D) (f f' : FE) : FE := fun ρ => (f ρ).bind fun a => (f' ρ).bind fun b => T.ofO (g a b)
def eOp1 (g : D → Option D) (f : FE) : FE := fun ρ => (f ρ).bind fun a => T.ofO (g a)
def eCallB (g : List D → Option D) (fa : FA) : FE := fun ρ => (fa ρ).bind fun as => T.ofO (g as)
def eCallF (F : List D → T D) (fa : FA) : FE := fun ρ => (fa ρ).bind F
def eIf (c : FT') (f f' : FE) : FE := fun ρ => (c ρ).bind fun k => if k then f ρ else f' ρ
def aNil : FA := fun _ => .ret []
def aCons (f : FE) (fa : FA) : FA := fun ρ => (f ρ).bind fun a => (fa ρ).bind fun as => .ret (a :: as)
def seqOf : D → Option (List D)
  | .lst xs => some xs
  | .tup xs => some xs
  | _ => none
def aStar (f : FE) (fa : FA) : FA := fun ρ => (f ρ).bind fun a => (T.ofO (seqOf a)).bind fun xs => (fa ρ).bind fun as => .ret (xs ++ as)
def lim : Nat := 1000000
def eTup (fa : FA) : FE := fun ρ => (fa ρ).bind fun as => if as.length ≤ lim then .ret (.tup as) else .bad
def eLst (fa : FA) : FE := fun ρ => (fa ρ).bind fun as => if as.length ≤ lim then .ret (.lst as) else .bad
theorem lim_le {n : Nat} (h : n ≤ lim) : n ≤ sizeLine := Nat.le_trans h (by decide)

/-- truth -/
def truD : D → Option Bool
  | .non => some false
  | .bl b => some b
  | .int i => some (i != 0)
  | .str x => if x.length ≤ lim then some ((x.length : Int) != 0) else none
  | .lst xs => some (!xs.isEmpty)
  | .tup xs => some (!xs.isEmpty)
  | _ => none
def eAnd (f f' : FE) : FE := fun ρ => (f ρ).bind fun a => (T.ofO (truD a)).bind fun k => if k then f' ρ else .ret a
def eOr (f f' : FE) : FE := fun ρ => (f ρ).bind fun a => (T.ofO (truD a)).bind fun k => if k then .ret a else f' ρ
def eNot (f : FE) : FE := fun ρ => (f ρ).bind fun a => (T.ofO (truD a)).bind fun k => .ret (.bl !k)
def kTru (f : FE) : FT' := fun ρ => (f ρ).bind fun a => T.ofO (truD a)
def blOf : D → Option Bool
  | .bl b => some b
  | _ => none
def kBl (f : FE) : FT' := fun ρ => (f ρ).bind fun a => T.ofO (blOf a)
def kAnd (c c' : FT') : FT' := fun ρ => (c ρ).bind fun k => if k then c' ρ else .ret false
def kOr (c c' : FT') : FT' := fun ρ => (c ρ).bind fun k => if k then .ret true else c' ρ
def kNot (c : FT') : FT' := fun ρ => (c ρ).bind fun k => .ret !k
def eChain (g g' : D → D → Option D) (f f' f'' : FE) : FE := fun ρ => (f ρ).bind fun a => (f' ρ).bind fun b => (T.ofO (g a b)).bind fun z => (T.ofO (blOf z)).bind fun k => if k then (f'' ρ).bind fun c => T.ofO (g' b c) else .ret (.bl false)

theorem blV {g : Gh} {K : PySem.W.Frag} {O : List Addr} {H : Hp} {v : V} {d : D} {kk : Bool} (r : RV g K O H v d) (e : blOf d = some kk) : v = .bl kk := by
  cases r with
  | bl y => cases e; rfl
  | _ => exact nomatch e
section
variable {X : Cx} {B : Bd} {e a b c : Expr} {es rest : List Expr} {pos : Pos} {f f' f'' : FE} {fa : FA} {k k' : FT'}
theorem se_var (i : Nat) {x : Str} (hN : X.N[i]? = some x := by rfl) (hv : Vis X.env.scope x := by first | exact Or.inl rfl | exact Or.inr (Or.inl rfl) | exact Or.inr (Or.inr rfl)) (hd : (x == ("__debug__" : Str)) = false := by decide)
    (hcd : (x == ("__classdict__" : Str)) = false := by decide) : PE X (.Name x pos) (tM B X.K (eVar i)) := PEimp (pe_var hN hv hd hcd) fun σ H Q ⟨ρ, O, n, R, h⟩ => by
  unfold eVar at h
  cases e : ρ[i]? with
  | none => rw [e] at h; exact h.elim
  | some s =>
    rw [e] at h
    cases s with
    | un => exact h.elim
    | own ds => exact h.elim
    | val d =>
      obtain ⟨v, h1, h2⟩ := R.slot i d e
      exact ⟨v, h1, h v H .refl R h2⟩
theorem se_c {v : V} {d : D} (he : PE X e (tC v)) (r : ∀ O H, RV B.g X.K O H v d) : PE X e (tM B X.K (eC d)) := PEimp he fun σ H Q ⟨ρ, O, n, R, h⟩ => h v H .refl R (r O H)
theorem se_int {i j} : PE X (.Constant (.int i) j pos) (tM B X.K (eC (.int i))) := se_c pe_int fun _ _ => .int i
theorem se_str {x j} : PE X (.Constant (.str x) j pos) (tM B X.K (eC (.str x))) := se_c pe_str fun _ _ => .str x
theorem se_bl {x j} : PE X (.Constant (.bool x) j pos) (tM B X.K (eC (.bl x))) := se_c pe_bl fun _ _ => .bl x
theorem se_non {j} : PE X (.Constant .none j pos) (tM B X.K (eC .non)) := se_c pe_non fun _ _ => .non
/-- a name of the module: its value -/
structure GlV (K : PySem.W.Frag) (mg : Str → Option Value) (x : Str) (d : D) : Prop where
  h : ∃ (u : Value) (v : V), mg x = some u ∧ RelV v u ∧ ∀ g O H, RV g K O H v d
theorem se_glob {x : Str} {d : D} (g : GlV X.K X.mg x d) (hg : Gl X x := by rfl) (hd : (x == ("__debug__" : Str)) = false := by decide) : PE X (.Name x pos) (tM B X.K (eC d)) := by
  obtain ⟨u, v, h1, h2, h3⟩ := g.h
  exact se_c (pe_glob hg h1 h2 hd) fun O H => h3 B.g O H
theorem se_ty (n : Ty) {x : Str} (hm : X.mg x = none) (hv : bootBuiltins x = some (.type n.name) := by decide +kernel) (hg : Gl X x := by rfl) (hn : x ≠ "__name__" := by decide) (hd : (x == ("__debug__" : Str)) = false := by decide) : PE X (.Name x pos) (tM B X.K (eC (.ty n))) :=
  se_c (pe_bltn (v := .ty n.name) hg hm hv rfl hn hd) fun _ _ => .ty n

theorem op2_imp {r : R2} {g : D → D → Option D} (hv : VOp2 X.K r g) (σ : L2.St) (H : Hp) (Q : VK) (h : tM B X.K (eOp2 g f f') σ H Q) : tOp r (tM B X.K f) (tM B X.K f') σ H Q := by
  obtain ⟨ρ, O, n, R, h⟩ := h
  refine ⟨ρ, O, n, R, (T.All.bind h).mono fun d1 n1 h1 v1 H1 k1 R1 r1 => ⟨ρ, O, n1, R1, (T.All.bind h1).mono fun d2 n2 h2 v2 H2 k2 R2 r2 => ?_⟩⟩
  obtain ⟨d, e, q⟩ := T.All.ofO h2
  exact hv B.g O H2 v1 v2 d1 d2 d Q R2.there (r1.keep (R2.kpO' k2) hs_refl) r2 e fun v H' s rv => q v H' ((k1.trans k2).trans (.of s)) (R2.same s) rv
theorem se_op {op : Operator} {r : R2} {g : D → D → Option D} (ho : OpR X (binaryOp op) r) (hv : VOp2 X.K r g) (ha : PE X a (tM B X.K f)) (hb : PE X b (tM B X.K f')) : PE X (.BinOp a op b pos) (tM B X.K (eOp2 g f f')) :=
  PEimp (pe_op ho ha hb) (op2_imp hv)
theorem se_cmp {op : CmpOp} {r : R2} {g : D → D → Option D} (ho : OpR X (compareOp op) r) (hv : VOp2 X.K r g) (ha : PE X a (tM B X.K f)) (hb : PE X b (tM B X.K f')) (hm : behindInMarks op b = false := by first | exact nomark _ | rfl) :
    PE X (.Compare a [op] [b] pos) (tM B X.K (eOp2 g f f')) := PEimp (pe_cmpR ho ha hb hm) (op2_imp hv)
theorem se_un {op : UnaryOp} {r : V → Hp → VK → Prop} {g : D → Option D} (ho : UnR X (unaryOp op) r) (hv : VOp1 X.K r g) (ha : PE X a (tM B X.K f)) : PE X (.UnaryOp op a pos) (tM B X.K (eOp1 g f)) :=
  PEimp (pe_un ho ha) fun σ H Q ⟨ρ, O, n, R, h⟩ => ⟨ρ, O, n, R, (T.All.bind h).mono fun d1 n1 h1 v1 H1 k1 R1 r1 => by
    obtain ⟨d, e, q⟩ := T.All.ofO h1
    exact hv B.g O H1 v1 d1 d Q R1.there r1 e fun v H' s rv => q v H' (k1.trans (.of s)) (R1.same s) rv⟩
theorem se_ix {r : R2} {g : D → D → Option D} (hr : IxR X r) (hv : VOp2 X.K r g) (ha : PE X a (tM B X.K f)) (hb : PE X b (tM B X.K f')) (hs : PlainIx b := by exact fun _ _ => rfl) : PE X (.Subscript a b pos) (tM B X.K (eOp2 g f f')) :=
  PEimp (pe_ix hr ha hb hs) (op2_imp hv)
theorem se_chain {op op' : CmpOp} {r r' : R2} {g g' : D → D → Option D} (ho : OpR X (compareOp op) r) (hv : VOp2 X.K r g) (ho' : OpR X (compareOp op') r') (hv' : VOp2 X.K r' g')
    (ha : PE X a (tM B X.K f)) (hb : PE X b (tM B X.K f')) (hc : PE X c (tM B X.K f''))
    (hm : lastMarks [op, op'] [b, c] = false := by with_unfolding_all rfl) : PE X (.Compare a [op, op'] [b, c] pos) (tM B X.K (eChain g g' f f' f'')) :=
  PEimp (pe_chain ho ho' ha hb hc hm) fun σ H Q ⟨ρ, O, n, R, h⟩ => ⟨ρ, O, n, R, (T.All.bind h).mono fun d1 n1 h1 v1 H1 k1 R1 r1 => ⟨ρ, O, n1, R1, (T.All.bind h1).mono fun d2 n2 h2 v2 H2 k2 R2 r2 => by
    obtain ⟨z, e, h3⟩ := T.All.ofO (T.All.bind h2)
    refine hv B.g O H2 v1 v2 d1 d2 z _ R2.there (r1.keep (R2.kpO' k2) hs_refl) r2 e fun v H3 s rv => ?_
    have R3 := R2.same s
    have r2' := r2.same s
    obtain ⟨kk, e2, h4⟩ := T.All.ofO (T.All.bind h3)
    have ev := blV rv e2
    subst ev
    refine ⟨kk, rfl, ?_⟩
    cases kk with
    | false => exact iteF (h4 _ _ ((k1.trans k2).trans (.of s)) R3 (.bl _))
    | true =>
      refine iteT ⟨ρ, O, n2, R3, (T.All.bind h4).mono fun d5 n5 h5 v5 H5 k5 R5 r5 => ?_⟩
      obtain ⟨d, e, q⟩ := T.All.ofO h5
      exact hv' B.g O H5 v2 v5 d2 d5 d Q R5.there (r2'.keep (R5.kpO' k5) hs_refl) r5 e fun v6 H6 s6 rv6 => q v6 H6 ((((k1.trans k2).trans (.of s)).trans k5).trans (.of s6)) (R5.same s6) rv6⟩⟩
theorem truV_of {g : Gh} {K : PySem.W.Frag} {O : List Addr} {H : Hp} {v : V} {d : D} {kk : Bool} (r : RV g K O H v d) (e : truD d = some kk) : TruV K v H kk := by
  cases r with
  | non => exact (Option.some.inj e).symm
  | bl y => exact (Option.some.inj e).symm
  | int i => exact (Option.some.inj e).symm
  | str x =>
    have e : (if x.length ≤ lim then some ((x.length : Int) != 0) else none) = some kk := e
    by_cases hx : x.length ≤ lim
    · rw [if_pos hx] at e; exact ⟨lim_le hx, (Option.some.inj e).symm⟩
    · rw [if_neg hx] at e; exact nomatch e
  | @lst p vs ds h rs =>
    refine .inl ⟨_, h.sq, ?_⟩
    have e1 := Option.some.inj e
    rw [← e1]
    cases rs <;> rfl
  | @tup p vs ds h rs =>
    refine .inr (.inl ⟨_, h.sq, ?_⟩)
    have e1 := Option.some.inj e
    rw [← e1]
    cases rs <;> rfl
  | ty n => exact nomatch e
  | cls p => exact nomatch e
  | fn p => exact nomatch e
  | pen z => exact nomatch e
  | dic _ _ _ _ => exact nomatch e
  | obj _ _ _ _ => exact nomatch e
theorem se_and (ha : PE X a (tM B X.K f)) (hb : PE X (.BoolOp .And (b :: rest) pos) (tM B X.K f')) : PE X (.BoolOp .And (a :: b :: rest) pos) (tM B X.K (eAnd f f')) :=
  PEimp (pe_andT ha hb) fun σ H Q ⟨ρ, O, n, R, h⟩ => ⟨ρ, O, n, R, (T.All.bind h).mono fun d1 n1 h1 v1 H1 k1 R1 r1 => by
    obtain ⟨kk, e, h2⟩ := T.All.ofO (T.All.bind h1)
    refine ⟨kk, truV_of r1 e, ?_⟩
    cases kk with
    | true => exact iteT ⟨ρ, O, n1, R1, h2.mono fun d2 n2 h3 v2 H2 k2 R2 r2 => h3 v2 H2 (k1.trans k2) R2 r2⟩
    | false => exact iteF (h2 v1 H1 k1 R1 r1)⟩
theorem se_or (ha : PE X a (tM B X.K f)) (hb : PE X (.BoolOp .Or (b :: rest) pos) (tM B X.K f')) : PE X (.BoolOp .Or (a :: b :: rest) pos) (tM B X.K (eOr f f')) :=
  PEimp (pe_orT ha hb) fun σ H Q ⟨ρ, O, n, R, h⟩ => ⟨ρ, O, n, R, (T.All.bind h).mono fun d1 n1 h1 v1 H1 k1 R1 r1 => by
    obtain ⟨kk, e, h2⟩ := T.All.ofO (T.All.bind h1)
    refine ⟨kk, truV_of r1 e, ?_⟩
    cases kk with
    | false => exact iteF ⟨ρ, O, n1, R1, h2.mono fun d2 n2 h3 v2 H2 k2 R2 r2 => h3 v2 H2 (k1.trans k2) R2 r2⟩
    | true => exact iteT (h2 v1 H1 k1 R1 r1)⟩
theorem se_one {op} (ha : PE X a (tM B X.K f)) : PE X (.BoolOp op [a] pos) (tM B X.K f) := pe_one ha
theorem se_not (ha : PE X a (tM B X.K f)) : PE X (.UnaryOp .Not a pos) (tM B X.K (eNot f)) :=
  PEimp (pe_notT ha) fun σ H Q ⟨ρ, O, n, R, h⟩ => ⟨ρ, O, n, R, (T.All.bind h).mono fun d1 n1 h1 v1 H1 k1 R1 r1 => by
    obtain ⟨kk, e, h2⟩ := T.All.ofO (T.All.bind h1)
    exact ⟨kk, truV_of r1 e, h2 _ _ k1 R1 (.bl _)⟩⟩
theorem se_if (hc : PT X c (tK B X.K k)) (ha : PE X a (tM B X.K f)) (hb : PE X b (tM B X.K f')) : PE X (.IfExp c a b pos) (tM B X.K (eIf k f f')) :=
  PEimp (pe_ifExp hc ha hb) fun σ H Q ⟨ρ, O, n, R, h⟩ => ⟨ρ, O, n, R, (T.All.bind h).mono fun kk n1 h1 H1 k1 R1 => by
    cases kk with
    | true => exact iteT ⟨ρ, O, n1, R1, T.All.mono h1 fun d2 n2 h3 v2 H2 k2 R2 r2 => h3 v2 H2 (k1.trans k2) R2 r2⟩
    | false => exact iteF ⟨ρ, O, n1, R1, T.All.mono h1 fun d2 n2 h3 v2 H2 k2 R2 r2 => h3 v2 H2 (k1.trans k2) R2 r2⟩⟩

/-! tests -/
theorem sk_tru (ha : PE X a (tM B X.K f)) (he : ∀ whole, isTrue a X.env whole = (do let v ← whole; standAt a.pos; holding [v] (truthy v)) := by intro _; rfl) : PT X a (tK B X.K (kTru f)) :=
  PTimp (pt_truth ha he) fun σ H Q ⟨ρ, O, n, R, h⟩ => ⟨ρ, O, n, R, (T.All.bind h).mono fun d1 n1 h1 v1 H1 k1 R1 r1 => by
    obtain ⟨kk, e, h2⟩ := T.All.ofO h1
    exact ⟨kk, truV_of r1 e, h2 H1 k1 R1⟩⟩
theorem op2T_imp {r : R2} {g : D → D → Option D} (hv : VOp2 X.K r g) (σ : L2.St) (H : Hp) (Q : Bool → Hp → Prop) (h : tK B X.K (kBl (eOp2 g f f')) σ H Q) : tTest (tOp r (tM B X.K f) (tM B X.K f')) σ H Q := by
  obtain ⟨ρ, O, n, R, h⟩ := h
  refine op2_imp (f := f) (f' := f') hv σ H _ ⟨ρ, O, n, R, (T.All.bind h).mono fun d n1 h1 v H1 k1 R1 r1 => ?_⟩
  obtain ⟨kk, e, q⟩ := T.All.ofO h1
  exact ⟨kk, blV r1 e, q H1 k1 R1⟩
theorem sk_cmp {op : CmpOp} {r : R2} {g : D → D → Option D} (ho : OpR X (compareOp op) r) (hv : VOp2 X.K r g) (ha : PE X a (tM B X.K f)) (hb : PE X b (tM B X.K f')) (hm : behindInMarks op b = false := by first | exact nomark _ | rfl) :
    PT X (.Compare a [op] [b] pos) (tK B X.K (kBl (eOp2 g f f'))) := PTimp (pt_cmpR ho ha hb hm) (op2T_imp hv)
theorem sk_and1 (ha : PT X a (tK B X.K k)) : PW X (.BoolOp .And [a] pos) (tK B X.K k) := pw_and1 ha
theorem sk_or1 (ha : PT X a (tK B X.K k)) : PW X (.BoolOp .Or [a] pos) (tK B X.K k) := pw_or1 ha
theorem sk_and (ha : PT X a (tK B X.K k)) (hb : PW X (.BoolOp .And (b :: rest) pos) (tK B X.K k')) : PW X (.BoolOp .And (a :: b :: rest) pos) (tK B X.K (kAnd k k')) :=
  PWimp (pw_and ha hb) fun σ H Q ⟨ρ, O, n, R, h⟩ => ⟨ρ, O, n, R, (T.All.bind h).mono fun kk n1 h1 H1 k1 R1 => by
    cases kk with
    | true => exact iteT ⟨ρ, O, n1, R1, T.All.mono h1 fun c2 n2 h3 H2 k2 R2 => h3 H2 (k1.trans k2) R2⟩
    | false => exact iteF (h1 H1 k1 R1)⟩
theorem sk_or (ha : PT X a (tK B X.K k)) (hb : PW X (.BoolOp .Or (b :: rest) pos) (tK B X.K k')) : PW X (.BoolOp .Or (a :: b :: rest) pos) (tK B X.K (kOr k k')) :=
  PWimp (pw_or ha hb) fun σ H Q ⟨ρ, O, n, R, h⟩ => ⟨ρ, O, n, R, (T.All.bind h).mono fun kk n1 h1 H1 k1 R1 => by
    cases kk with
    | false => exact iteF ⟨ρ, O, n1, R1, T.All.mono h1 fun c2 n2 h3 H2 k2 R2 => h3 H2 (k1.trans k2) R2⟩
    | true => exact iteT (h1 H1 k1 R1)⟩
theorem sk_not (ha : PT X a (tK B X.K k)) : PT X (.UnaryOp .Not a pos) (tK B X.K (kNot k)) :=
  PTimp (pt_not ha) fun σ H Q ⟨ρ, O, n, R, h⟩ => ⟨ρ, O, n, R, (T.All.bind h).mono fun kk n1 h1 H1 k1 R1 => h1 H1 k1 R1⟩
theorem sk_chain {op op' : CmpOp} {r r' : R2} {g g' : D → D → Option D} (ho : OpR X (compareOp op) r) (hv : VOp2 X.K r g) (ho' : OpR X (compareOp op') r') (hv' : VOp2 X.K r' g')
    (ha : PE X a (tM B X.K f)) (hb : PE X b (tM B X.K f')) (hc : PE X c (tM B X.K f''))
    (hm : lastMarks [op, op'] [b, c] = false := by with_unfolding_all rfl) (he : ∀ whole, isTrue (.Compare a [op, op'] [b, c] pos) X.env whole = (do let v ← whole; standAt (Expr.Compare a [op, op'] [b, c] pos).pos; holding [v] (truthy v)) := by intro _; rfl) : PT X (.Compare a [op, op'] [b, c] pos) (tK B X.K (kTru (eChain g g' f f' f''))) :=
  sk_tru (se_chain ho hv ho' hv' ha hb hc hm) he

/-! displays -/
theorem sa_nil : PA X [] (tL B X.K aNil) := PAimp pa_nil fun σ H Q ⟨ρ, O, n, R, h⟩ => h [] H .refl R .nil
theorem sa_cons (ha : PE X e (tM B X.K f)) (hr : PA X es (tL B X.K fa)) (hs : starEach (e :: es) X.env = (false, eval e X.env) :: starEach es X.env := by rfl) : PA X (e :: es) (tL B X.K (aCons f fa)) :=
  PAimp (pa_cons ha hr hs) fun σ H Q ⟨ρ, O, n, R, h⟩ => ⟨ρ, O, n, R, (T.All.bind h).mono fun d1 n1 h1 v1 H1 k1 R1 r1 => ⟨ρ, O, n1, R1, (T.All.bind h1).mono fun ds n2 h2 vs H2 k2 R2 r2 =>
    h2 _ _ (k1.trans k2) R2 (.cons (r1.keep (R2.kpO' k2) hs_refl) r2)⟩⟩
theorem sa_star {p : Pos} (ha : PE X e (tM B X.K f)) (hr : PA X es (tL B X.K fa)) (hs : starEach (.Starred e p :: es) X.env = (true, eval e X.env) :: starEach es X.env := by rfl) : PA X (.Starred e p :: es) (tL B X.K (aStar f fa)) :=
  PAimp (StX.pa_star ha hr hs) fun σ H Q ⟨ρ, O, n, R, h⟩ => ⟨ρ, O, n, R, (T.All.bind h).mono fun d1 n1 h1 v1 H1 k1 R1 r1 => by
    obtain ⟨xs, e, h2⟩ := T.All.ofO (T.All.bind h1)
    have key : ∃ p vs, v1 = V.ref p ∧ (SqT X.K H1 p vs ∨ SqL X.K H1 p vs) ∧ RVs B.g X.K O H1 vs xs := by
      cases r1 with
      | lst h rs => cases e; exact ⟨_, _, rfl, .inr h.sq, rs⟩
      | tup h rs => cases e; exact ⟨_, _, rfl, .inl h.sq, rs⟩
      | _ => exact nomatch e
    obtain ⟨p, vs, e1, sq, rs⟩ := key
    exact ⟨p, vs, e1, sq, ρ, O, n1, R1, (T.All.bind h2).mono fun ds n2 h3 ws H2 k2 R2 r2 => h3 _ _ (k1.trans k2) R2 ((rs.keep (R2.kpO' k2) hs_refl).append r2)⟩⟩
theorem se_tup {x1} (ha : PA X es (tL B X.K fa)) : PE X (.Tuple es x1 pos) (tM B X.K (eTup fa)) :=
  PEimp (pe_tup ha) fun σ H Q ⟨ρ, O, n, R, h⟩ => ⟨ρ, O, n, R, (T.All.bind h).mono fun ds n1 h1 vs H1 k1 R1 r1 => by
    by_cases hl : ds.length ≤ lim
    · rw [if_pos hl] at h1
      exact ⟨by rw [r1.length]; exact lim_le hl, fun p hp => h1 _ _ (k1.trans (.of (same_new hp))) (R1.same (same_new hp)) (new_tup R1.there hp r1)⟩
    · rw [if_neg hl] at h1; exact h1.elim⟩
theorem se_lst (ha : PA X es (tL B X.K fa)) : PE X (.List es pos) (tM B X.K (eLst fa)) :=
  PEimp (pe_lst ha) fun σ H Q ⟨ρ, O, n, R, h⟩ => ⟨ρ, O, n, R, (T.All.bind h).mono fun ds n1 h1 vs H1 k1 R1 r1 => by
    by_cases hl : ds.length ≤ lim
    · rw [if_pos hl] at h1
      exact ⟨by rw [r1.length]; exact lim_le hl, fun p hp => h1 _ _ (k1.trans (.of (same_new hp))) (R1.same (same_new hp)) (new_lst R1.there hp r1)⟩
    · rw [if_neg hl] at h1; exact h1.elim⟩
/-! built-ins -/
theorem callB_imp {r : List V → Hp → VK → Prop} {g : List D → Option D} (hv : VCall X.K r g) (σ : L2.St) (H : Hp) (Q : VK) (h : tM B X.K (eCallB g fa) σ H Q) : tCB r (tL B X.K fa) σ H Q := by
  obtain ⟨ρ, O, n, R, h⟩ := h
  refine ⟨ρ, O, n, R, (T.All.bind h).mono fun ds n1 h1 vs H1 k1 R1 r1 => ?_⟩
  obtain ⟨d, e, q⟩ := T.All.ofO h1
  exact hv B.g O H1 vs ds d Q R1.there r1 e fun v H' s rv => q v H' (k1.trans (.of s)) (R1.same s) rv
theorem se_callB {x : Str} {p : Pos} {id : String} {r : List V → Hp → VK → Prop} {g : List D → Option D} (hc : CallR X (.builtin id) r) (hv : VCall X.K r g) (hm : X.mg x = none) (ha : PA X (e :: es) (tL B X.K fa)) (hb : bootBuiltins x = some (.builtin id) := by decide +kernel) (hg : Gl X x := by rfl) (hn : x ≠ "__name__" := by decide) (hdb : (x == ("__debug__" : Str)) = false := by decide)
    (he : starEach (e :: es) X.env = (false, eval e X.env) :: starEach es X.env := by rfl) (hpl : (backTo pos (starEach es X.env)).any (·.1) = false := by rfl) : PE X (.Call (.Name x p) (e :: es) [] pos) (tM B X.K (eCallB g fa)) :=
  PEimp (pe_callB hc hg hm hb ha hn hdb he hpl) (callB_imp hv)
theorem se_callTy {x : Str} {p : Pos} {id : String} {r : List V → Hp → VK → Prop} {g : List D → Option D} (hc : CallR X (.type id) r) (hv : VCall X.K r g) (hm : X.mg x = none) (ha : PA X (e :: es) (tL B X.K fa)) (hb : bootBuiltins x = some (.type id) := by decide +kernel) (hg : Gl X x := by rfl) (hn : x ≠ "__name__" := by decide) (hdb : (x == ("__debug__" : Str)) = false := by decide)
    (he : starEach (e :: es) X.env = (false, eval e X.env) :: starEach es X.env := by rfl) (hpl : (backTo pos (starEach es X.env)).any (·.1) = false := by rfl) : PE X (.Call (.Name x p) (e :: es) [] pos) (tM B X.K (eCallB g fa)) :=
  PEimp (pe_callTy hc hg hm hb ha hn hdb he hpl) (callB_imp hv)
end
end Z

set_option Elab.async false
set_option linter.all false
set_option maxRecDepth 100000
set_option maxHeartbeats 4000000
/-! Z3: operators on data. -/
namespace Z
open PySem PySem.Spec PyProof.Rows L2

theorem nos {α : Type} {x : α} (h : (none : Option α) = some x) : False := by cases h
/-! ### two ints, two texts, two lists -/
def i2 (g : Int → Int → D) : D → D → Option D
  | .int i, .int j => some (g i j)
  | _, _ => none
def i2c (C : Int → Int → Bool) (g : Int → Int → D) : D → D → Option D
  | .int i, .int j => if C i j then some (g i j) else none
  | _, _ => none
theorem v_i2 {K : PySem.W.Frag} {gv : Int → Int → V} {g : Int → Int → D} (h : ∀ g0 O H i j, RV g0 K O H (gv i j) (g i j)) : VOp2 K (rI0 gv) (i2 g) := fun pa O H x y a b d Q hO ra rb e q => by
  cases ra <;> cases rb <;> first
    | exact (nos e).elim
    | (cases e; exact ⟨_, _, rfl, rfl, q _ H (Same.refl H) (h _ O H _ _)⟩)
theorem v_i2c {K : PySem.W.Frag} {C : Int → Int → Prop} {Cb : Int → Int → Bool} {gv : Int → Int → V} {g : Int → Int → D} (hC : ∀ i j, Cb i j = true → C i j) (h : ∀ g0 O H i j, RV g0 K O H (gv i j) (g i j)) : VOp2 K (rI C gv) (i2c Cb g) := fun pa O H x y a b d Q hO ra rb e q => by
  cases ra <;> cases rb <;> try exact (nos e).elim
  rename_i i j
  have e : (if Cb i j = true then some (g i j) else none) = some d := e
  by_cases hc : Cb i j = true
  · rw [if_pos hc] at e; cases e; exact ⟨_, _, rfl, rfl, hC _ _ hc, q _ H (Same.refl H) (h _ O H _ _)⟩
  · rw [if_neg hc] at e; exact (nos e).elim
def s2 (C : Str → Str → Bool) (g : Str → Str → D) : D → D → Option D
  | .str i, .str j => if C i j then some (g i j) else none
  | _, _ => none
def l2 : D → D → Option D
  | .lst xs, .lst ys => if xs.length + ys.length ≤ lim then some (.lst (xs ++ ys)) else none
  | _, _ => none
def t2 : D → D → Option D
  | .tup xs, .tup ys => if xs.length + ys.length ≤ lim then some (.tup (xs ++ ys)) else none
  | _, _ => none
def opAdd (a b : D) : Option D := orE (i2 (fun i j => .int (i + j)) a b) (orE (s2 (fun x y => decide (x.length + y.length ≤ lim)) (fun x y => .str (x ++ y)) a b) (orE (l2 a b) (t2 a b)))
def o_add {X : Cx} := (op_add (X := X)).or (op_add_str.or (op_cat.or op_catA))
def v_add {K : PySem.W.Frag} := (v_i2 (K := K) (gv := fun i j => .int (i + j)) (g := fun i j => .int (i + j)) fun _ _ _ _ _ => .int _).or (VOp2.or (g := s2 (fun x y => decide (x.length + y.length ≤ lim)) (fun x y => .str (x ++ y)))
  (r := fun x y H Q => ∃ i j, x = .str i ∧ y = .str j ∧ i.length + j.length ≤ sizeLine ∧ Q (.str (i ++ j)) H) (fun pa O H x y a b d Q hO ra rb e q => by
    cases ra <;> cases rb <;> try exact (nos e).elim
    rename_i i j
    have e : (if decide (i.length + j.length ≤ lim) = true then some (D.str (i ++ j)) else none) = some d := e
    by_cases hc : decide (i.length + j.length ≤ lim) = true
    · rw [if_pos hc] at e; cases e; exact ⟨i, j, rfl, rfl, lim_le (of_decide_eq_true hc), q _ H (Same.refl H) (.str _)⟩
    · rw [if_neg hc] at e; exact (nos e).elim)
  (VOp2.or (r := rCat) (g := l2) (fun pa O H x y a b d Q hO ra rb e q => by
    cases ra <;> cases rb <;> try exact (nos e).elim
    rename_i p vs ds h1 r1 p2 vs2 ds2 h2 r2
    have e : (if ds.length + ds2.length ≤ lim then some (D.lst (ds ++ ds2)) else none) = some d := e
    by_cases hc : ds.length + ds2.length ≤ lim
    · rw [if_pos hc] at e; cases e
      exact ⟨p, p2, vs, vs2, rfl, rfl, h1.1, h2.1, by rw [r1.length, r2.length]; exact lim_le hc, fun z hz => q _ _ (same_new hz) (new_lst hO hz (r1.append r2))⟩
    · rw [if_neg hc] at e; exact (nos e).elim)
  (r' := rCatA K) (g' := t2) (fun pa O H x y a b d Q hO ra rb e q => by
    cases ra <;> cases rb <;> try exact (nos e).elim
    rename_i p vs ds h1 r1 p2 vs2 ds2 h2 r2
    have e : (if ds.length + ds2.length ≤ lim then some (D.tup (ds ++ ds2)) else none) = some d := e
    by_cases hc : ds.length + ds2.length ≤ lim
    · rw [if_pos hc] at e; cases e
      refine ⟨p, p2, vs, vs2, rfl, rfl, h1.sq, h2.sq, by rw [r1.length, r2.length]; exact lim_le hc, fun z => ?_, fun _ z => ?_, fun _ _ z hz => q _ _ (same_new hz) (new_tup hO hz (r1.append r2))⟩
      · subst z; cases r1; exact q _ H (Same.refl H) (.tup h2 r2)
      · subst z; cases r2; refine q _ H (Same.refl H) ?_; rw [List.append_nil]; exact .tup h1 r1
    · rw [if_neg hc] at e; exact (nos e).elim)))

def opSub : D → D → Option D := i2 fun i j => .int (i - j)
theorem v_sub {K : PySem.W.Frag} : VOp2 K (rI0 fun i j => .int (i - j)) opSub := v_i2 (gv := fun i j => .int (i - j)) fun _ _ _ _ _ => .int _
def small64 (i : Int) : Bool := decide (-(2 ^ 64) < i) && decide (i < 2 ^ 64)
theorem small64_iff {i : Int} (h : Z.small64 i = true) : -(2 ^ 64) < i ∧ i < 2 ^ 64 := by
  unfold Z.small64 at h
  rw [Bool.and_eq_true, decide_eq_true_eq, decide_eq_true_eq] at h
  exact h
def l2rep : D → D → Option D
  | .lst xs, .int k => if k ≤ 1000000 ∧ -1000000 ≤ k ∧ xs.length * k.toNat ≤ lim then some (.lst (List.replicate k.toNat xs).flatten) else none
  | _, _ => none
theorem rep_rvs {g : Gh} {K : PySem.W.Frag} {O : List Addr} {H : Hp} {vs : List V} {ds : List D} (r : RVs g K O H vs ds) : ∀ k : Nat, RVs g K O H (List.replicate k vs).flatten (List.replicate k ds).flatten
  | 0 => .nil
  | k + 1 => by rw [List.replicate_succ, List.replicate_succ, List.flatten_cons, List.flatten_cons]; exact r.append (rep_rvs r k)
def opMul (a b : D) : Option D := orE (i2c (fun i j => Z.small64 i || Z.small64 j) (fun i j => .int (i * j)) a b) (l2rep a b)
def o_mul {X : Cx} := (op_mul (X := X)).or op_rep
def v_mul {K : PySem.W.Frag} := VOp2.or (K := K) (v_i2c (g := fun i j => .int (i * j)) (Cb := fun i j => Z.small64 i || Z.small64 j) (C := CMul) (gv := fun i j => .int (i * j)) (fun i j h => by
    rw [Bool.or_eq_true] at h
    exact h.elim (fun z => .inl (small64_iff z)) fun z => .inr (small64_iff z)) fun _ _ _ _ _ => .int _)
  (r' := rRep) (g' := l2rep) (fun pa O H x y a b d Q hO ra rb e q => by
    cases ra <;> cases rb <;> try exact (nos e).elim
    rename_i p vs ds h1 r1 k
    have e : (if k ≤ 1000000 ∧ -1000000 ≤ k ∧ ds.length * k.toNat ≤ lim then some (D.lst (List.replicate k.toNat ds).flatten) else none) = some d := e
    by_cases hc : k ≤ 1000000 ∧ -1000000 ≤ k ∧ ds.length * k.toNat ≤ lim
    · rw [if_pos hc] at e; cases e
      exact ⟨p, k, vs, rfl, rfl, h1.1, by omega, by omega, by rw [r1.length]; exact lim_le hc.2.2, fun z hz => q _ _ (same_new hz) (new_lst hO hz (rep_rvs r1 _))⟩
    · rw [if_neg hc] at e; exact (nos e).elim)
def opMod : D → D → Option D := i2c (fun _ j => decide (j ≠ 0)) fun i j => .int (i.fmod j)
theorem v_mod {K : PySem.W.Frag} : VOp2 K (rI (fun _ j => j ≠ 0) fun i j => .int (i.fmod j)) opMod := v_i2c (C := fun _ j => j ≠ 0) (gv := fun i j => .int (i.fmod j)) (fun i j h => of_decide_eq_true h) fun _ _ _ _ _ => .int _
def opDiv : D → D → Option D := i2c (fun _ j => decide (j ≠ 0) && decide (j.natAbs < 1073741824)) fun i j => .int (i.fdiv j)
theorem v_div {K : PySem.W.Frag} : VOp2 K (rI CDivN fun i j => .int (i.fdiv j)) opDiv := v_i2c (C := CDivN) (gv := fun i j => .int (i.fdiv j)) (fun i j h => by
    rw [Bool.and_eq_true, decide_eq_true_eq, decide_eq_true_eq] at h; exact h) fun _ _ _ _ _ => .int _
def opNeg : D → Option D
  | .int i => some (.int (-i))
  | _ => none
theorem v_neg {K : PySem.W.Frag} : VOp1 K (rU fun i => .int (-i)) opNeg := fun pa O H x a d Q hO ra e q => by
  cases ra <;> try exact (nos e).elim
  cases e
  exact ⟨_, rfl, q _ H (Same.refl H) (.int _)⟩
/-! ### order of ints -/
def opLt : D → D → Option D := i2 fun i j => .bl (decide (i < j))
def opLe : D → D → Option D := i2 fun i j => .bl (decide (i ≤ j))
def opGt : D → D → Option D := i2 fun i j => .bl (decide (j < i))
def opGe : D → D → Option D := i2 fun i j => .bl (decide (j ≤ i))
theorem v_lt {K : PySem.W.Frag} : VOp2 K (rI0 fun i j => .bl (decide (i < j))) opLt := v_i2 (gv := fun i j => .bl (decide (i < j))) fun _ _ _ _ _ => .bl _
theorem v_le {K : PySem.W.Frag} : VOp2 K (rI0 fun i j => .bl (decide (i ≤ j))) opLe := v_i2 (gv := fun i j => .bl (decide (i ≤ j))) fun _ _ _ _ _ => .bl _
theorem v_gt {K : PySem.W.Frag} : VOp2 K (rI0 fun i j => .bl (decide (j < i))) opGt := v_i2 (gv := fun i j => .bl (decide (j < i))) fun _ _ _ _ _ => .bl _
theorem v_ge {K : PySem.W.Frag} : VOp2 K (rI0 fun i j => .bl (decide (j ≤ i))) opGe := v_i2 (gv := fun i j => .bl (decide (j ≤ i))) fun _ _ _ _ _ => .bl _
/-! ### is None -/
def isN : D → Bool
  | .non => true
  | _ => false
def opIsN : D → D → Option D
  | a, .non => some (.bl (isN a))
  | _, _ => none
def opNotN : D → D → Option D
  | a, .non => some (.bl (!isN a))
  | _, _ => none
theorem isN_iff {g : Gh} {K : PySem.W.Frag} {O : List Addr} {H : Hp} {x : V} {a : D} (r : RV g K O H x a) : decide (x = .non) = isN a := by
  cases r <;> first | rfl | (exact decide_eq_false (fun z => nomatch z))
theorem v_isN {K : PySem.W.Frag} : VOp2 K (fun x y H Q => y = .non ∧ Q (.bl (decide (x = .non))) H) opIsN := fun pa O H x y a b d Q hO ra rb e q => by
  cases rb <;> try exact (nos e).elim
  cases e
  exact ⟨rfl, by rw [isN_iff ra]; exact q _ H (Same.refl H) (.bl _)⟩
theorem v_notN {K : PySem.W.Frag} : VOp2 K (fun x y H Q => y = .non ∧ Q (.bl (!decide (x = .non))) H) opNotN := fun pa O H x y a b d Q hO ra rb e q => by
  cases rb <;> try exact (nos e).elim
  cases e
  exact ⟨rfl, by rw [isN_iff ra]; exact q _ H (Same.refl H) (.bl _)⟩
/-! ### equality of data -/
mutual
def pyOf : D → Option PyData
  | .non => some .none
  | .bl b => some (.bool b)
  | .int i => some (.int i)
  | .str x => some (.str x)
  | .lst xs => (pyOfs xs).map .list
  | .tup xs => (pyOfs xs).map .tuple
  | _ => none
def pyOfs : List D → Option (List PyData)
  | [] => some []
  | x :: xs => (pyOf x).bind fun p => (pyOfs xs).map fun ps => p :: ps
end
section
variable {g : Gh} {K : PySem.W.Frag} {O : List Addr} {H : Hp}
mutual
theorem dp_of : ∀ {d : D} {v : V} {p : PyData}, RV g K O H v d → pyOf d = some p → Dp K H v p
  | .non, _, _, r, e => by cases r; unfold pyOf at e; cases e; exact .non
  | .bl b, _, _, r, e => by cases r; unfold pyOf at e; cases e; exact .bl b
  | .int b, _, _, r, e => by cases r; unfold pyOf at e; cases e; exact .int b
  | .str b, _, _, r, e => by cases r; unfold pyOf at e; cases e; exact .str b
  | .lst xs, _, p, r, e => by
    cases r with
    | lst h rs =>
      unfold pyOf at e
      cases e2 : pyOfs xs with
      | none => rw [e2] at e; exact (nos e).elim
      | some ps => rw [e2] at e; cases e; exact .lst h.sq (dps_of rs e2)
  | .tup xs, _, p, r, e => by
    cases r with
    | tup h rs =>
      unfold pyOf at e
      cases e2 : pyOfs xs with
      | none => rw [e2] at e; exact (nos e).elim
      | some ps => rw [e2] at e; cases e; exact .tup h.sq (dps_of rs e2)
  | .dic _ _, _, _, _, e => by unfold pyOf at e; exact (nos e).elim
  | .obj _ _ _, _, _, _, e => by unfold pyOf at e; exact (nos e).elim
  | .ty _, _, _, _, e => by unfold pyOf at e; exact (nos e).elim
  | .cls _, _, _, _, e => by unfold pyOf at e; exact (nos e).elim
  | .fn _, _, _, _, e => by unfold pyOf at e; exact (nos e).elim
  | .pen, _, _, _, e => by unfold pyOf at e; exact (nos e).elim
theorem dps_of : ∀ {ds : List D} {vs : List V} {ps : List PyData}, RVs g K O H vs ds → pyOfs ds = some ps → DpAll K H vs ps
  | [], _, _, r, e => by cases r; unfold pyOfs at e; cases e; exact .nil
  | d :: ds, _, ps, r, e => by
    cases r with
    | cons r1 r2 =>
      unfold pyOfs at e
      cases e1 : pyOf d with
      | none => rw [e1] at e; exact (nos e).elim
      | some p =>
        rw [e1] at e
        cases e2 : pyOfs ds with
        | none => rw [e2] at e; exact (nos e).elim
        | some qs => rw [e2] at e; cases e; exact .cons (dp_of r1 e1) (dps_of r2 e2)
end
end
def scalEq : D → D → Option Bool
  | .int i, .int j => some (i == j)
  | .str x, .str y => some (x == y)
  | .bl x, .bl y => some (x == y)
  | .non, .non => some true
  | .str _, .non => some false
  | .non, .str _ => some false
  | _, _ => none
def dataEq (a b : D) : Option Bool := (pyOf a).bind fun p => (pyOf b).bind fun q => if SeqAt.shaped p && SeqAt.shaped q then some (PyData.eqv p q) else none
def eqD (a b : D) : Option Bool := orE (scalEq a b) (dataEq a b)
def opEq (a b : D) : Option D := (eqD a b).map .bl
def opNe (a b : D) : Option D := (eqD a b).map fun k => .bl !k
theorem scal_ok {g : Gh} {K : PySem.W.Frag} {O : List Addr} {H : Hp} {x y : V} {a b : D} {k : Bool} (ra : RV g K O H x a) (rb : RV g K O H y b) (e : scalEq a b = some k) : scal x y = true ∧ decide (x = y) = k := by
  cases ra <;> cases rb <;> first
    | exact (nos e).elim
    | (cases e; exact ⟨rfl, dec_int⟩)
    | (cases e; exact ⟨rfl, dec_str⟩)
    | (cases e; exact ⟨rfl, dec_bl⟩)
    | (cases e; exact ⟨rfl, by decide⟩)
    | (cases e; exact ⟨rfl, decide_eq_false (fun z => nomatch z)⟩)
theorem data_ok {g : Gh} {K : PySem.W.Frag} {O : List Addr} {H : Hp} {x y : V} {a b : D} {k : Bool} (ra : RV g K O H x a) (rb : RV g K O H y b) (e : dataEq a b = some k) :
    ∃ p q, Dp K H x p ∧ Dp K H y q ∧ SeqAt.shaped p = true ∧ SeqAt.shaped q = true ∧ PyData.eqv p q = k := by
  unfold dataEq at e
  cases e1 : pyOf a with
  | none => rw [e1] at e; exact (nos e).elim
  | some p =>
    rw [e1] at e
    cases e2 : pyOf b with
    | none => rw [e2] at e; exact (nos e).elim
    | some q =>
      rw [e2] at e
      have e : (if (SeqAt.shaped p && SeqAt.shaped q) = true then some (PyData.eqv p q) else none) = some k := e
      by_cases hc : (SeqAt.shaped p && SeqAt.shaped q) = true
      · rw [if_pos hc] at e
        rw [Bool.and_eq_true] at hc
        exact ⟨p, q, dp_of ra e1, dp_of rb e2, hc.1, hc.2, Option.some.inj e⟩
      · rw [if_neg hc] at e; exact (nos e).elim
def o_eq {X : Cx} (hu : X.A.units + 64 < cLine) := (op_eq (X := X)).or (op_eqD hu)
def o_ne {X : Cx} (hu : X.A.units + 64 < cLine) := (op_ne (X := X)).or (op_neD hu)
theorem v_eq {K : PySem.W.Frag} : VOp2 K (fun x y H Q => rEq x y H Q ∨ rEqD K x y H Q) opEq := fun pa O H x y a b d Q hO ra rb e q => by
  unfold opEq at e
  cases e1 : eqD a b with
  | none => rw [e1] at e; exact (nos e).elim
  | some k =>
    rw [e1] at e
    cases e
    rcases orE_some e1 with e2 | e2
    · obtain ⟨h1, h2⟩ := scal_ok ra rb e2
      exact .inl ⟨h1, by rw [h2]; exact q _ H (Same.refl H) (.bl _)⟩
    · obtain ⟨p, q', h1, h2, h3, h4, h5⟩ := data_ok ra rb e2
      exact .inr ⟨p, q', h1, h2, h3, h4, by rw [h5]; exact q _ H (Same.refl H) (.bl _)⟩
theorem v_ne {K : PySem.W.Frag} : VOp2 K (fun x y H Q => rNe x y H Q ∨ rNeD K x y H Q) opNe := fun pa O H x y a b d Q hO ra rb e q => by
  unfold opNe at e
  cases e1 : eqD a b with
  | none => rw [e1] at e; exact (nos e).elim
  | some k =>
    rw [e1] at e
    cases e
    rcases orE_some e1 with e2 | e2
    · obtain ⟨h1, h2⟩ := scal_ok ra rb e2
      exact .inl ⟨h1, by rw [h2]; exact q _ H (Same.refl H) (.bl _)⟩
    · obtain ⟨p, q', h1, h2, h3, h4, h5⟩ := data_ok ra rb e2
      exact .inr ⟨p, q', h1, h2, h3, h4, by rw [h5]; exact q _ H (Same.refl H) (.bl _)⟩
end Z

set_option Elab.async false
set_option linter.all false
set_option maxRecDepth 100000
set_option maxHeartbeats 4000000
/-! Z4: in, subscripts, slices, built-ins on data. -/
namespace Z
open PySem PySem.Spec PyProof.Rows L2

section
variable {g : Gh} {K : PySem.W.Frag} {O : List Addr} {H : Hp}
/-! ### in -/
def flatD : D → Bool
  | .non => true | .bl _ => true | .int _ => true | .str _ => true | _ => false
def eqFl : D → D → Bool
  | .non, .non => true
  | .bl a, .bl b => a == b
  | .bl a, .int b => (if a then 1 else 0) == b
  | .int a, .bl b => a == (if b then 1 else 0)
  | .int a, .int b => a == b
  | .str a, .str b => a == b
  | _, _ => false
theorem flat_iff {x : V} {a : D} (r : RV g K O H x a) : flatV x = flatD a := by cases r <;> rfl
theorem eqFl_ok {x y : V} {a b : D} (ra : RV g K O H x a) (rb : RV g K O H y b) (fa : flatD a = true) (fb : flatD b = true) : eqV x y = eqFl a b := by
  cases ra <;> cases rb <;> first
    | rfl
    | exact absurd (show false = true from fa) Bool.false_ne_true
    | exact absurd (show false = true from fb) Bool.false_ne_true
theorem allFlat : ∀ {vs : List V} {ds : List D}, RVs g K O H vs ds → vs.all flatV = ds.all flatD
  | _, _, .nil => rfl
  | _, _, .cons h t => by rw [List.all_cons, List.all_cons, flat_iff h, allFlat t]
theorem anyEq {x : V} {a : D} (ra : RV g K O H x a) (fa : flatD a = true) : ∀ {vs : List V} {ds : List D}, RVs g K O H vs ds → ds.all flatD = true → inV x vs = ds.any fun y => eqFl y a
  | _, _, .nil, _ => rfl
  | _, _, .cons h t, f => by
    rw [List.all_cons, Bool.and_eq_true] at f
    show (eqV _ x || inV x _) = _
    rw [List.any_cons, eqFl_ok h ra f.1 fa, anyEq ra fa t f.2]
end
def inSeq (a b : D) : Option Bool := (seqOf b).bind fun ds => if flatD a && ds.all flatD then some (ds.any fun y => eqFl y a) else none
def inSign : D → D → Option Bool
  | .str x, .str z => match x.cps.toList with
    | [c] => some (decide (c ∈ z.cps.toList))
    | _ => none
  | _, _ => none
def inD (a b : D) : Option Bool := orE (inSign a b) (inSeq a b)
def opIn (a b : D) : Option D := (inD a b).map .bl
def opNotIn (a b : D) : Option D := (inD a b).map fun k => .bl !k
def o_in {X : Cx} := (op_in_sign (X := X)).or op_in_seq
def o_notIn {X : Cx} := (op_notIn_sign (X := X)).or op_notIn_seq
theorem inSeq_ok {g : Gh} {K : PySem.W.Frag} {O : List Addr} {H : Hp} {x y : V} {a b : D} {k : Bool} (ra : RV g K O H x a) (rb : RV g K O H y b) (e : inSeq a b = some k) :
    ∃ p xs, y = .ref p ∧ (SqL K H p xs ∨ SqT K H p xs) ∧ flatV x = true ∧ xs.all flatV = true ∧ inV x xs = k := by
  unfold inSeq at e
  have key : ∃ p vs ds, seqOf b = some ds ∧ y = .ref p ∧ (SqL K H p vs ∨ SqT K H p vs) ∧ RVs g K O H vs ds := by
    cases rb with
    | lst h r => exact ⟨_, _, _, rfl, rfl, .inl h.sq, r⟩
    | tup h r => exact ⟨_, _, _, rfl, rfl, .inr h.sq, r⟩
    | _ => exact (nos e).elim
  obtain ⟨p, vs, ds, e1, e2, h, r⟩ := key
  rw [e1] at e
  have e : (if (flatD a && ds.all flatD) = true then some (ds.any fun y => eqFl y a) else none) = some k := e
  by_cases hc : (flatD a && ds.all flatD) = true
  · rw [if_pos hc] at e
    rw [Bool.and_eq_true] at hc
    exact ⟨p, vs, e2, h, by rw [flat_iff ra]; exact hc.1, by rw [allFlat r]; exact hc.2, by rw [anyEq ra hc.1 r hc.2]; exact Option.some.inj e⟩
  · rw [if_neg hc] at e; exact (nos e).elim
theorem inSign_ok {g : Gh} {K : PySem.W.Frag} {O : List Addr} {H : Hp} {x y : V} {a b : D} {k : Bool} (ra : RV g K O H x a) (rb : RV g K O H y b) (e : inSign a b = some k) :
    ∃ (c : Nat) (z : Str), x = .str ⟨#[c]⟩ ∧ y = .str z ∧ decide (c ∈ z.cps.toList) = k := by
  cases ra <;> cases rb <;> try exact (nos e).elim
  rename_i x z
  have e : (match x.cps.toList with | [c] => some (decide (c ∈ z.cps.toList)) | _ => none) = some k := e
  obtain ⟨⟨l⟩⟩ := x
  match l, e with
  | [], e => exact (nos e).elim
  | [c], e => exact ⟨c, z, rfl, rfl, Option.some.inj e⟩
  | _ :: _ :: _, e => exact (nos e).elim
theorem v_in {K : PySem.W.Frag} : VOp2 K (fun x y H Q => (∃ (c : Nat) (z : Str), x = .str ⟨#[c]⟩ ∧ y = .str z ∧ Q (.bl (decide (c ∈ z.cps.toList))) H) ∨ rIn K false x y H Q) opIn := fun pa O H x y a b d Q hO ra rb e q => by
  unfold opIn at e
  cases e1 : inD a b with
  | none => rw [e1] at e; exact (nos e).elim
  | some k =>
    rw [e1] at e
    cases e
    rcases orE_some e1 with e2 | e2
    · obtain ⟨c, z, h1, h2, h3⟩ := inSign_ok ra rb e2
      exact .inl ⟨c, z, h1, h2, by rw [h3]; exact q _ H (Same.refl H) (.bl _)⟩
    · obtain ⟨p, xs, h1, h2, h3, h4, h5⟩ := inSeq_ok ra rb e2
      exact .inr ⟨p, xs, h1, h2, h3, h4, by rw [h5]; exact q _ H (Same.refl H) (.bl _)⟩
theorem v_notIn {K : PySem.W.Frag} : VOp2 K (fun x y H Q => (∃ (c : Nat) (z : Str), x = .str ⟨#[c]⟩ ∧ y = .str z ∧ Q (.bl (!decide (c ∈ z.cps.toList))) H) ∨ rIn K true x y H Q) opNotIn := fun pa O H x y a b d Q hO ra rb e q => by
  unfold opNotIn at e
  cases e1 : inD a b with
  | none => rw [e1] at e; exact (nos e).elim
  | some k =>
    rw [e1] at e
    cases e
    rcases orE_some e1 with e2 | e2
    · obtain ⟨c, z, h1, h2, h3⟩ := inSign_ok ra rb e2
      exact .inl ⟨c, z, h1, h2, by rw [h3]; exact q _ H (Same.refl H) (.bl _)⟩
    · obtain ⟨p, xs, h1, h2, h3, h4, h5⟩ := inSeq_ok ra rb e2
      exact .inr ⟨p, xs, h1, h2, h3, h4, by show Q (.bl (!inV x xs)) H; rw [h5]; exact q _ H (Same.refl H) (.bl _)⟩

/-! ### subscripts, slices -/
def opIx : D → D → Option D
  | .lst xs, .int i => atI xs i
  | .tup xs, .int i => atI xs i
  | .str z, .int i => if z.length ≤ lim then (atI z.cps.toList i).map fun c => .str ⟨#[c]⟩ else none
  | _, _ => none
theorem atI_rv {g : Gh} {K : PySem.W.Frag} {O : List Addr} {H : Hp} {vs : List V} {ds : List D} {i : Int} {d : D} (r : RVs g K O H vs ds) (e : atI ds i = some d) : ∃ v, atI vs i = some v ∧ RV g K O H v d := by
  unfold atI at e ⊢
  rw [r.length]
  cases e1 : ixN ds.length i with
  | none => rw [e1] at e; exact (nos e).elim
  | some j =>
    rw [e1] at e
    exact r.get e
theorem v_ix {K : PySem.W.Frag} : VOp2 K (rIx K) opIx := fun pa O H x y a b d Q hO ra rb e q => by
  cases rb <;> try (cases ra <;> exact (nos e).elim)
  rename_i i
  cases ra <;> try exact (nos e).elim
  · rename_i z
    have e : (if z.length ≤ lim then (atI z.cps.toList i).map fun c => D.str ⟨#[c]⟩ else none) = some d := e
    by_cases hc : z.length ≤ lim
    · rw [if_pos hc] at e
      cases e1 : atI z.cps.toList i with
      | none => rw [e1] at e; exact (nos e).elim
      | some c => rw [e1] at e; cases e; exact .inr (.inr ⟨z, i, c, rfl, rfl, lim_le hc, e1, q _ H (Same.refl H) (.str _)⟩)
    · rw [if_neg hc] at e; exact (nos e).elim
  · rename_i p vs ds h r
    obtain ⟨v, h1, h2⟩ := atI_rv r e
    exact .inl ⟨p, vs, i, v, rfl, rfl, h.sq, h1, q v H (Same.refl H) h2⟩
  · rename_i p vs ds h r
    obtain ⟨v, h1, h2⟩ := atI_rv r e
    exact .inr (.inl ⟨p, vs, i, v, rfl, rfl, h.sq, h1, q v H (Same.refl H) h2⟩)
def cutD (xs : List D) (lo hi : Option Int) : List D := (xs.drop (HT.sIx xs.length 0 lo)).take (HT.sIx xs.length xs.length hi - HT.sIx xs.length 0 lo)
def slD (a : D) (lo hi : Option Int) : Option D := match a with
  | .lst xs => some (.lst (cutD xs lo hi))
  | .tup xs => some (.tup (cutD xs lo hi))
  | .str z => if z.length ≤ lim then some (.str (cutS z lo hi)) else none
  | _ => none
/-- a part of a slice -/
abbrev FO := List Sl → T (Option Int)
def oNo : FO := fun _ => .ret none
def intOf : D → Option Int
  | .int i => some i
  | _ => none
def oPt (f : FE) : FO := fun ρ => (f ρ).bind fun a => (T.ofO (intOf a)).bind fun i => .ret (some i)
def eSl (f : FE) (l h : FO) : FE := fun ρ => (f ρ).bind fun a => (l ρ).bind fun lo => (h ρ).bind fun hi => T.ofO (slD a lo hi)
def tO (B : Bd) (K : PySem.W.Frag) (f : FO) : TO := fun σ H Q => ∃ ρ O b, Rep B K ρ O b H σ ∧
  (f ρ).All b (fun o b' => ∀ H', Kp B.g.pa H H' → Rep B K ρ O b' H' σ → Q o H') B.Y
theorem intV {g : Gh} {K : PySem.W.Frag} {O : List Addr} {H : Hp} {v : V} {d : D} {i : Int} (r : RV g K O H v d) (e : intOf d = some i) : v = .int i := by
  cases r <;> first | exact (nos e).elim | (cases e; rfl)
section
variable {X : Cx} {B : Bd} {e : Expr} {lo hi : Option Expr} {pos p2 : Pos} {f : FE} {l h : FO}
theorem POimp {o : Option Expr} {t t' : TO} (h : PO X o t) (k : ∀ σ H Q, t' σ H Q → t σ H Q) : PO X o t' := ⟨fun pins s σ H Q I w => h.run pins s σ H Q I (k σ H Q w)⟩
theorem so_no : PO X none (tO B X.K oNo) := POimp po_none fun σ H Q ⟨ρ, O, n, R, h⟩ => h H .refl R
theorem so_pt (he : PE X e (tM B X.K f)) : PO X (some e) (tO B X.K (oPt f)) := POimp (po_some he) fun σ H Q ⟨ρ, O, n, R, h⟩ => ⟨ρ, O, n, R, (T.All.bind h).mono fun d1 n1 h1 v1 H1 k1 R1 r1 => by
  obtain ⟨i, e, h2⟩ := T.All.ofO (T.All.bind h1)
  exact ⟨i, intV r1 e, h2 H1 k1 R1⟩⟩
def sl_all := ((sl_list (X := X)).or sl_tupA).or sl_str
theorem cut_rvs {g : Gh} {K : PySem.W.Frag} {O : List Addr} {H : Hp} {vs : List V} {ds : List D} (r : RVs g K O H vs ds) (lo hi : Option Int) : RVs g K O H (cutV vs lo hi) (cutD ds lo hi) := by
  unfold cutV cutD
  rw [r.length]
  exact (r.drop _).take _
theorem cutD_whole {ds : List D} {lo hi : Option Int} (z : HT.sIx ds.length 0 lo = 0 ∧ HT.sIx ds.length ds.length hi = ds.length) : cutD ds lo hi = ds := by
  unfold cutD
  rw [z.1, z.2, Nat.sub_zero, List.drop_zero, List.take_length]
theorem se_sl (he : PE X e (tM B X.K f)) (hl : PO X lo (tO B X.K l)) (hh : PO X hi (tO B X.K h)) : PE X (.Subscript e (.Slice lo hi none p2) pos) (tM B X.K (eSl f l h)) :=
  PEimp (pe_slice sl_all he hl hh) fun σ H Q ⟨ρ, O, n, R, h⟩ => ⟨ρ, O, n, R, (T.All.bind h).mono fun d1 n1 h1 v1 H1 k1 R1 r1 => ⟨ρ, O, n1, R1, (T.All.bind h1).mono fun lo n2 h2 H2 k2 R2 => ⟨ρ, O, n2, R2, (T.All.bind h2).mono fun hi n3 h3 H3 k3 R3 => by
    obtain ⟨d, e, q⟩ := T.All.ofO h3
    have r3 := r1.keep (R3.kpO' (k2.trans k3)) hs_refl
    have kk := (k1.trans k2).trans k3
    cases r3 with
    | lst h r =>
      cases e
      exact .inl (.inl ⟨_, _, rfl, h.sq, fun p hp => q _ _ (kk.trans (.of (same_new hp))) (R3.same (same_new hp)) (new_lst R3.there hp (cut_rvs r lo hi))⟩)
    | @tup a vs ds h r =>
      cases e
      refine .inl (.inr ⟨_, _, rfl, h.sq, fun z => ?_, fun z p hp => q _ _ (kk.trans (.of (same_new hp))) (R3.same (same_new hp)) (new_tup R3.there hp (cut_rvs r lo hi))⟩)
      rw [r.length] at z
      have e2 := cutD_whole z
      refine q _ H3 kk R3 ?_
      rw [e2]
      exact .tup h r
    | str z =>
      have e : (if z.length ≤ lim then some (D.str (cutS z lo hi)) else none) = some d := e
      by_cases hc : z.length ≤ lim
      · rw [if_pos hc] at e; cases e; exact .inr ⟨z, rfl, lim_le hc, q _ H3 kk R3 (.str _)⟩
      · rw [if_neg hc] at e; exact (nos e).elim
    | _ => exact (nos e).elim⟩⟩⟩
end

/-! ### isinstance -/
def tyOf : D → Option Ty
  | .non => some .none | .bl _ => some .bool | .int _ => some .int | .str _ => some .str | .lst _ => some .list | .tup _ => some .tuple | .dic _ _ => some .dict
  | _ => none
def isiTy (a b : Ty) : Bool := decide (a = b) || (decide (a = .bool) && decide (b = .int))
theorem kit_all (a b : Ty) : kitB a.name b.name = some (isiTy a b) := by cases a <;> cases b <;> decide +kernel
def tysOf : List D → Option (List Ty)
  | [] => some []
  | .ty t :: r => (tysOf r).map fun l => t :: l
  | _ :: _ => none
def isi2 (x : D) : D → Option D
  | .ty c => (tyOf x).map fun t => .bl (isiTy t c)
  | .tup cs => (tyOf x).bind fun t => (tysOf cs).map fun l => .bl (l.any fun c => isiTy t c)
  | _ => none
def opIsi : List D → Option D
  | [x, c] => isi2 x c
  | _ => none
theorem tyX_of {g : Gh} {K : PySem.W.Frag} {O : List Addr} {H : Hp} {x : V} {a : D} {t : Ty} (r : RV g K O H x a) (e : tyOf a = some t) : TyX K H x (.type t.name) := by
  cases r with
  | non => cases e; exact .base .non
  | bl b => cases e; exact .base (.bl b)
  | int b => cases e; exact .base (.int b)
  | str b => cases e; exact .base (.str b)
  | lst h r => cases e; exact .base (.lst h.1)
  | tup h r =>
    cases e
    rcases h with ⟨h, _⟩ | ⟨o, its, n, h1, h2, _⟩
    · exact .base (.tup h)
    · exact .kTuple h1 h2
  | dic h n l r =>
    cases e
    rcases h with h | ⟨o, h⟩
    · exact .base (.dK h)
    · exact .fDict h
  | _ => exact (nos e).elim
theorem tys_of {g : Gh} {K : PySem.W.Frag} {O : List Addr} {H : Hp} : ∀ {cs : List D} {vs : List V} {l : List Ty}, RVs g K O H vs cs → tysOf cs = some l → vs = l.map fun t => V.ty t.name
  | [], _, _, r, e => by cases r; cases e; rfl
  | c :: cs, _, l, r, e => by
    cases r with
    | cons r1 r2 =>
      cases r1 <;> try exact (nos e).elim
      rename_i t
      have e : (tysOf cs).map (fun l => t :: l) = some l := e
      cases e1 : tysOf cs with
      | none => rw [e1] at e; exact (nos e).elim
      | some l' => rw [e1] at e; cases e; rw [tys_of r2 e1]; rfl
theorem kitAny_all {K : PySem.W.Frag} (t : Ty) : ∀ l : List Ty, PySem.W.kitAny K (.type t.name) (l.map fun c => Value.type c.name) = some (l.any fun c => isiTy t c)
  | [] => rfl
  | c :: l => kitAny_cons (kit_ty (kit_all t c)) (fun e => by rw [List.any_cons, e, Bool.false_or]; exact kitAny_all t l) fun e => by rw [List.any_cons, e, Bool.true_or]
theorem cls_all : ∀ l : List Ty, Paired ClsV (l.map fun t => V.ty t.name) (l.map fun t => Value.type t.name)
  | [] => .nil
  | t :: l => .cons (.ty _) (cls_all l)
def c_isi {X : Cx} := (call_isi (X := X)).or (call_isiT.or call_isiK)
theorem vc_isi {K : PySem.W.Frag} : VCall K (fun xs H Q => rIsi K xs H Q ∨ rIsiT K xs H Q ∨ rIsiK K xs H Q) opIsi := fun pa O H xs as d Q hO rs e q => by
  match xs, as, rs, e with
  | _, [], _, e => exact (nos e).elim
  | _, [_], _, e => exact (nos e).elim
  | _, _ :: _ :: _ :: _, _, e => exact (nos e).elim
  | _, [x, c], .cons r1 (.cons r2 .nil), e =>
    replace e : isi2 x c = some d := e
    cases r2 <;> try exact (nos e).elim
    · rename_i c
      have e : (tyOf x).map (fun t => D.bl (isiTy t c)) = some d := e
      cases e1 : tyOf x with
      | none => rw [e1] at e; exact (nos e).elim
      | some t => rw [e1] at e; cases e; exact .inl ⟨_, _, .type t.name, .type c.name, _, rfl, .ty _, tyX_of r1 e1, kit_ty (kit_all t c), q _ H (Same.refl H) (.bl _)⟩
    · rename_i p vs cs h r
      have e : ((tyOf x).bind fun t => (tysOf cs).map fun l => D.bl (l.any fun c => isiTy t c)) = some d := e
      cases e1 : tyOf x with
      | none => rw [e1] at e; exact (nos e).elim
      | some t =>
        rw [e1] at e
        have e : (tysOf cs).map (fun l => D.bl (l.any fun c => isiTy t c)) = some d := e
        cases e2 : tysOf cs with
        | none => rw [e2] at e; exact (nos e).elim
        | some l =>
          rw [e2] at e
          cases e
          have ev := tys_of r e2
          subst ev
          rcases h with ⟨h, _⟩ | ⟨o, its, n, h1, h2, h3, _, rv⟩
          · exact .inr (.inl ⟨_, p, _, .type t.name, _, _, rfl, h, cls_all l, tyX_of r1 e1, kitAny_all t l, q _ H (Same.refl H) (.bl _)⟩)
          · have eu := ClsV.all (cls_all l) rv
            obtain ⟨oc, od, dt, sl⟩ := o
            simp only at h2 h3
            subst h2 h3
            have ei : its = (l.map fun t => Value.type t.name).toArray := by rw [← eu]
            subst ei
            exact .inr (.inr ⟨_, p, od, _, n, sl, .type t.name, _, rfl, h1, tyX_of r1 e1, kitAny_all t l, q _ H (Same.refl H) (.bl _)⟩)

/-! ### len, all, any, int, abs, list, tuple -/
def lenD : D → Option Nat
  | .str z => if z.length ≤ lim then some z.length else none
  | .lst xs => some xs.length
  | .tup xs => some xs.length
  | _ => none
def op1 (g : D → Option D) : List D → Option D
  | [x] => g x
  | _ => none
def opLen : List D → Option D := op1 fun x => (lenD x).map fun n => .int (n : Int)
theorem vc_one {K : PySem.W.Frag} {r : List V → Hp → VK → Prop} {g : D → Option D} (h : ∀ (g0 : Gh) (O : List Addr) (H : Hp) (x : V) (a d : D) (Q : VK), (∀ q ∈ O, H q ≠ none) → RV g0 K O H x a → g a = some d →
    (∀ v H', Same H H' → RV g0 K O H' v d → Q v H') → r [x] H Q) : VCall K r (op1 g) := fun pa O H xs as d Q hO rs e q => by
  match xs, as, rs, e with
  | _, [], _, e => exact (nos e).elim
  | _, _ :: _ :: _, _, e => exact (nos e).elim
  | _, [x], .cons r1 .nil, e => exact h pa O H _ x d Q hO r1 e q
theorem vc_len {K : PySem.W.Frag} : VCall K (fun xs H Q => ∃ x n, xs = [x] ∧ LenV K x H n ∧ Q (.int n) H) opLen := vc_one fun pa O H x a d Q hO ra e q => by
  cases e1 : lenD a with
  | none => rw [e1] at e; exact (nos e).elim
  | some n =>
    rw [e1] at e
    cases e
    refine ⟨x, n, rfl, ?_, q _ H (Same.refl H) (.int _)⟩
    cases ra with
    | str z =>
      have e1 : (if z.length ≤ lim then some z.length else none) = some n := e1
      by_cases hc : z.length ≤ lim
      · rw [if_pos hc] at e1; exact ⟨lim_le hc, (Option.some.inj e1).symm⟩
      · rw [if_neg hc] at e1; exact (nos e1).elim
    | lst h r => exact .inl ⟨_, h.sq, by rw [r.length]; exact (Option.some.inj e1).symm⟩
    | tup h r => exact .inr ⟨_, h.sq, by rw [r.length]; exact (Option.some.inj e1).symm⟩
    | _ => exact (nos e1).elim
def blsOf : List D → Option (List Bool)
  | [] => some []
  | .bl b :: r => (blsOf r).map fun l => b :: l
  | _ :: _ => none
theorem bls_of {g : Gh} {K : PySem.W.Frag} {O : List Addr} {H : Hp} : ∀ {ds : List D} {vs : List V} {l : List Bool}, RVs g K O H vs ds → blsOf ds = some l → vs = l.map V.bl
  | [], _, _, r, e => by cases r; cases e; rfl
  | c :: cs, _, l, r, e => by
    cases r with
    | cons r1 r2 =>
      cases r1 <;> try exact (nos e).elim
      rename_i t
      have e : (blsOf cs).map (fun l => t :: l) = some l := e
      cases e1 : blsOf cs with
      | none => rw [e1] at e; exact (nos e).elim
      | some l' => rw [e1] at e; cases e; rw [bls_of r2 e1]; rfl
def lstOf : D → Option (List D)
  | .lst xs => some xs
  | _ => none
def opAll : List D → Option D := op1 fun x => (lstOf x).bind fun ds => (blsOf ds).map fun l => .bl (l.all id)
def opAny : List D → Option D := op1 fun x => (lstOf x).bind fun ds => (blsOf ds).map fun l => .bl (l.any id)
theorem bls_key {g : Gh} {K : PySem.W.Frag} {O : List Addr} {H : Hp} {x : V} {a d : D} {u : List Bool → Bool} (ra : RV g K O H x a) (e : ((lstOf a).bind fun ds => (blsOf ds).map fun l => D.bl (u l)) = some d) :
    ∃ (p : Addr) (l : List Bool), x = .ref p ∧ SqL K H p (l.map V.bl) ∧ d = .bl (u l) := by
  cases ra <;> try exact (nos e).elim
  rename_i p vs ds h r
  have e : (blsOf ds).map (fun l => D.bl (u l)) = some d := e
  cases e1 : blsOf ds with
  | none => rw [e1] at e; exact (nos e).elim
  | some l =>
    rw [e1] at e
    cases e
    have ev := bls_of r e1
    subst ev
    exact ⟨p, l, rfl, h.sq, rfl⟩
theorem vc_all {K : PySem.W.Frag} : VCall K (rAll K) opAll := vc_one fun pa O H x a d Q hO ra e q => by
  obtain ⟨p, l, rfl, h, rfl⟩ := bls_key (u := fun l => l.all id) ra e
  exact ⟨p, l, rfl, h, q _ H (Same.refl H) (.bl _)⟩
theorem vc_any {K : PySem.W.Frag} : VCall K (rAny K) opAny := vc_one fun pa O H x a d Q hO ra e q => by
  obtain ⟨p, l, rfl, h, rfl⟩ := bls_key (u := fun l => l.any id) ra e
  exact ⟨p, l, rfl, h, q _ H (Same.refl H) (.bl _)⟩
def opInt : List D → Option D := op1 fun x => match x with
  | .int i => some (.int i)
  | .bl k => some (.int (if k then 1 else 0))
  | _ => none
theorem vc_int {K : PySem.W.Frag} : VCall K (fun xs H Q => (∃ i, xs = [.int i] ∧ Q (.int i) H) ∨ ∃ k, xs = [.bl k] ∧ Q (.int (if k then 1 else 0)) H) opInt := vc_one fun pa O H x a d Q hO ra e q => by
  cases ra <;> try exact (nos e).elim
  · cases e; exact .inr ⟨_, rfl, q _ H (Same.refl H) (.int _)⟩
  · cases e; exact .inl ⟨_, rfl, q _ H (Same.refl H) (.int _)⟩
def opAbs : List D → Option D := op1 fun x => match x with
  | .int i => some (.int (if i < 0 then -i else i))
  | _ => none
theorem vc_abs {K : PySem.W.Frag} : VCall K (fun xs H Q => ∃ i, xs = [.int i] ∧ Q (.int (if i < 0 then -i else i)) H) opAbs := vc_one fun pa O H x a d Q hO ra e q => by
  cases ra <;> try exact (nos e).elim
  cases e; exact ⟨_, rfl, q _ H (Same.refl H) (.int _)⟩
def opList : List D → Option D := op1 fun x => (seqOf x).map .lst
theorem vc_list {K : PySem.W.Frag} : VCall K (fun xs H Q => ∃ p ys, xs = [.ref p] ∧ (SqL K H p ys ∨ SqT K H p ys) ∧ ∀ l, H l = none → Q (.ref l) (upd H l (.lst ys))) opList := vc_one fun pa O H x a d Q hO ra e q => by
  cases ra <;> try exact (nos e).elim
  · rename_i p vs ds h r
    cases e; exact ⟨p, vs, rfl, .inl h.sq, fun z hz => q _ _ (same_new hz) (new_lst hO hz r)⟩
  · rename_i p vs ds h r
    cases e; exact ⟨p, vs, rfl, .inr h.sq, fun z hz => q _ _ (same_new hz) (new_lst hO hz r)⟩
def opTuple : List D → Option D := op1 fun x => (seqOf x).map .tup
theorem vc_tuple {K : PySem.W.Frag} : VCall K (fun xs H Q => ∃ p ys, xs = [.ref p] ∧ ((SqL K H p ys ∧ ∀ l, H l = none → Q (.ref l) (upd H l (.tup ys))) ∨ (SqT K H p ys ∧ Q (.ref p) H))) opTuple := vc_one fun pa O H x a d Q hO ra e q => by
  cases ra <;> try exact (nos e).elim
  · rename_i p vs ds h r
    cases e; exact ⟨p, vs, rfl, .inl ⟨h.sq, fun z hz => q _ _ (same_new hz) (new_tup hO hz r)⟩⟩
  · rename_i p vs ds h r
    cases e; exact ⟨p, vs, rfl, .inr ⟨h.sq, q _ H (Same.refl H) (.tup h r)⟩⟩
end Z

set_option Elab.async false
set_option linter.all false
set_option maxRecDepth 100000
set_option maxHeartbeats 4000000
/-! Z5: calls of the text's own defs. -/
namespace Z
open PySem PySem.Spec PyProof.Rows L2

structure Rm (k : Nat) (A : Around) : Prop where
  room : Room k A
  gd : A.guards = some []
theorem Rm.mono {j k : Nat} {A : Around} (r : Rm k A) (h : j ≤ k) : Rm j A := ⟨r.room.mono h, r.gd⟩

/-- an error's data as it lies -/
structure ExAt (g : Gh) (K : PySem.W.Frag) (H0 : Hp) (O0 : List Addr) (d : Addr) (fs : List Str) (ds : List D) (H' : Hp) : Prop where
  at_ : ∃ vs, H' d = some (.xd (fs.zip vs)) ∧ fs.length = vs.length ∧ RVs g K O0 H' vs ds
  new : H0 d = none
/-- the promise of a def that is the function F of data -/
def spD (K : PySem.W.Frag) (n : Nat) (F : List D → T D) : Sp := fun vs H Q E => vs.length = n ∧ ∃ (g : Gh) (O : List Addr) (b : Nat) (ds : List D), (∀ a ∈ O, H a ≠ none) ∧ PenOk g.pa O H b ∧ RVs g K O H vs ds ∧
  (F ds).All b (fun d b' => ∀ v H', Kp g.pa H H' → PenOk g.pa O H' b' → (∀ a ∈ O, H' a ≠ none) → RV g K O H' v d → Q v H')
    (fun C fs es b' => ∀ d H', Kp g.pa H H' → PenOk g.pa O H' b' → (∀ a ∈ O, H' a ≠ none) → ExAt g K H O d fs es H' → E (.ref (g.cl C)) (some d) H')

/-- as FnOk, with the guards known -/
structure FnG (P : Program) (w : World) (K : PySem.W.Frag) (mg : Str → Option Value) (base : Heap) (k : Nat) (f : Addr) (fd : FuncData) (ps : List Str) (sp : Sp) : Prop where
  len : ∀ vs H Q E, sp vs H Q E → vs.length = ps.length
  run : ∀ (A : Around) (outer : List Env) (s : Shared) (H : Hp) (args : Args) (us : List Value) (vs : List V) (Q : VK) (E : XK), Rm k A → Env0 P w K mg base A outer s H → BindsTo s fd args (ps.zip us) → Vals vs us → sp vs H Q E →
    codeAny (model P w) A (.call (.ref f) args) (CR (L2.CX P w) outer P w H s Q E) s
theorem FnG.mono {P : Program} {w : World} {K : PySem.W.Frag} {mg : Str → Option Value} {base : Heap} {j k : Nat} {f : Addr} {fd : FuncData} {ps : List Str} {sp : Sp} (F : FnG P w K mg base j f fd ps sp) (h : j ≤ k) : FnG P w K mg base k f fd ps sp :=
  ⟨F.len, fun A o s H a us vs Q E hr => F.run A o s H a us vs Q E (hr.mono h)⟩

section
variable {X : Cx} {k : Nat} {f : Addr} {fd : FuncData} {ps : List Str} {sp : Sp} {E : XK}
theorem runG {pins : List (Addr × Obj)} {σ : L2.St} {H : Hp} {s : Shared} {Q : VK} {us : List Value} {vs : List V} (F : FnG X.prog X.w X.K X.mg X.base k f fd ps sp) (hr : Rm k X.A) (hb : Binds X.K fd ps []) (hx : Passes (L2.CX X.prog X.w) X E)
    (I : Inv X pins σ H s) (r : Vals vs us) (h : sp vs H Q E) : wpAny (model X.prog X.w) X.A (call (.ref f) us) (EP X pins σ Q) X.xe s := by
  have hl : us.length = ps.length := r.length.symm.trans (F.len _ _ _ _ h)
  have hb2 := hb s us I.kIn (by rw [List.append_nil]; exact hl)
  rw [List.append_nil] at hb2
  refine wpAny_call (codeAny_mono (F.run X.A X.stack s H ⟨us, []⟩ us vs Q E hr I.env0 hb2 r h) fun res s' got => ?_)
  match res, got with
  | .error e, got => exact hx pins σ H s e s' I got
  | .ok (.ret u), got => exact I.after got
  | .ok .next, got => exact got.elim
  | .ok .brk, got => exact got.elim
  | .ok .cont, got => exact got.elim
theorem pe_callG {e : Expr} {es : List Expr} {x : Str} {p pos : Pos} {t : TA} (F : FnG X.prog X.w X.K X.mg X.base k f fd ps sp) (hr : Rm k X.A) (hm : X.mg x = some (.ref f)) (hk : PySem.W.keepIn X.K (.ref f) = true) (hb : Binds X.K fd ps []) (hx : Passes (L2.CX X.prog X.w) X E)
    (ha : PA X (e :: es) t) (hg : Gl X x := by rfl) (hdb : (x == ("__debug__" : Str)) = false := by decide) (he : starEach (e :: es) X.env = (false, eval e X.env) :: starEach es X.env := by rfl) (hpl : (backTo pos (starEach es X.env)).any (·.1) = false := by rfl) :
    PE X (.Call (.Name x p) (e :: es) [] pos) (fun σ H Q => t σ H fun vs H1 => sp vs H1 Q E) := by
  refine ⟨fun pins s σ H Q I h => wpAny_Call_Name_kw (ld_glob I hg hm ?_ hdb)⟩
  exact PySem.W.callWith_K (h₀ := X.base) I.ok.mod.kin hk (thn (ha.run pos pins s σ H _ I h) fun us s1 ⟨vs, H1, I1, r, q⟩ => ⟨I1.kIn, runG F hr hb hx I1 r q⟩) he hpl
/-- how keywords alone bind: places of the parameters -/
structure KwB (K : PySem.W.Frag) (fd : FuncData) (ps ks : List Str) (perm : List Nat) : Prop where
  b : ∀ (s : Shared) (us ws : List Value), K.In s.heap → ws.length = ks.length → us.length + ws.length = ps.length → BindsTo s fd ⟨us, ks.zip ws⟩ (ps.zip (us ++ perm.filterMap (ws[·]?)))
end

/-- which errors may leave -/
def Lets (X : Cx) (B : Bd) : Prop := ∃ E : XK, Passes (L2.CX X.prog X.w) X E ∧ ∀ (C : Nat) (fs : List Str) (ds : List D) (b : Nat) (d : Addr) (H' : Hp), B.Y C fs ds b → Kp B.g.pa B.H0 H' → PenOk B.g.pa B.O0 H' b → (∀ a ∈ B.O0, H' a ≠ none) →
  ExAt B.g X.K B.H0 B.O0 d fs ds H' → E (.ref (B.g.cl C)) (some d) H'
theorem Lets.no {X : Cx} {B : Bd} (h : ∀ C fs ds b, ¬ B.Y C fs ds b) : Lets X B := ⟨E0, passL, fun C fs ds b _ _ y => (h C fs ds b y).elim⟩

/-- a def of the text, known by its name -/
structure Fn (P : Program) (w : World) (K : PySem.W.Frag) (mg : Str → Option Value) (base : Heap) (k : Nat) (x : Str) (n : Nat) (F : List D → T D) : Prop where
  h : ∃ (f : Addr) (fd : FuncData) (ps : List Str), mg x = some (.ref f) ∧ PySem.W.keepIn K (.ref f) = true ∧ Binds K fd ps [] ∧ ps.length = n ∧ FnG P w K mg base k f fd ps (spD K n F)
section
variable {X : Cx} {B : Bd} {k j : Nat} {x : Str} {n : Nat} {F : List D → T D} {e : Expr} {es : List Expr} {fa : FA} {p pos : Pos}
theorem call_imp {E : XK} (hx : ∀ (C : Nat) (fs : List Str) (ds : List D) (b : Nat) (d : Addr) (H' : Hp), B.Y C fs ds b → Kp B.g.pa B.H0 H' → PenOk B.g.pa B.O0 H' b → (∀ a ∈ B.O0, H' a ≠ none) → ExAt B.g X.K B.H0 B.O0 d fs ds H' → E (.ref (B.g.cl C)) (some d) H')
    (hn : ∀ vs ds H O, RVs B.g X.K O H vs ds → vs.length = n ∨ ∀ b P Y, ¬ (F ds).All b P Y) (σ : L2.St) (H : Hp) (Q : VK) (h : tM B X.K (eCallF F fa) σ H Q) : tL B X.K fa σ H fun vs H1 => spD X.K n F vs H1 Q E := by
  obtain ⟨ρ, O, b, R, h⟩ := h
  refine ⟨ρ, O, b, R, (T.All.bind h).mono fun ds n1 h1 vs H1 k1 R1 r1 => ?_⟩
  refine ⟨(hn vs ds H1 O r1).elim id fun z => (z _ _ _ h1).elim, B.g, O, n1, ds, R1.there, R1.pen, r1, T.All.mono2 h1 (fun d b' q v H' kk pk th rv => q v H' (k1.trans kk) (R1.go kk pk) rv) fun C fs es b' y d H' kk pk th ex => ?_⟩
  have R2 := R1.go kk pk
  obtain ⟨⟨ws, e1, e2, e3⟩, e4⟩ := ex
  refine hx C fs es b' d H' y R2.kept (pk.sub R2.sub R2.pen0) (fun a ha => th a (R2.sub a ha)) ⟨⟨ws, e1, e2, e3.keep (fun _ _ e _ => e) (hs_sub R2.sub)⟩, ?_⟩
  cases z : B.H0 d with
  | none => rfl
  | some o =>
    by_cases q : B.g.pa = some d
    · obtain ⟨_, _, _, _, _, h1, _⟩ := R1.pen d q
      rw [e4] at h1; cases h1
    · have := R1.kept d o z q
      rw [e4] at this; cases this
/-- F says nothing of other numbers of arguments -/
def Ar (n : Nat) (F : List D → T D) : Prop := ∀ ds, ds.length ≠ n → F ds = .bad
theorem se_call (h : Fn X.prog X.w X.K X.mg X.base j x n F) (hn : Ar n F) (hr : Rm k X.A) (hj : j ≤ k) (hx : Lets X B) (ha : PA X (e :: es) (tL B X.K fa)) (hg : Gl X x := by rfl) (hdb : (x == ("__debug__" : Str)) = false := by decide)
    (he : starEach (e :: es) X.env = (false, eval e X.env) :: starEach es X.env := by rfl) (hpl : (backTo pos (starEach es X.env)).any (·.1) = false := by rfl) : PE X (.Call (.Name x p) (e :: es) [] pos) (tM B X.K (eCallF F fa)) := by
  obtain ⟨f, fd, ps, h1, h2, h3, h4, h5⟩ := h.h
  obtain ⟨E, hp, hE⟩ := hx
  refine PEimp (pe_callG (h5.mono hj) hr h1 h2 h3 hp ha hg hdb he hpl) (call_imp hE fun vs ds H O r => ?_)
  by_cases z : ds.length = n
  · exact .inl (r.length.trans z)
  · exact .inr fun b P Y hh => by rw [hn ds z] at hh; exact hh
end
end Z

set_option Elab.async false
set_option linter.all false
set_option maxRecDepth 100000
set_option maxHeartbeats 4000000
/-! Z6: what is walked, comprehensions. -/
namespace Z
open PySem PySem.Spec PyProof.Rows L2

/-- from (O, H) on to (O', H'): all is kept but what is owned; what is newly owned was not there -/
structure Ext (O : List Addr) (H : Hp) (O' : List Addr) (H' : Hp) : Prop where
  kp : KpO O H H'
  hs : ∀ a ∈ O', a ∈ O ∨ H a = none
theorem Ext.refl {O : List Addr} {H : Hp} : Ext O H O H := ⟨fun _ _ h _ => h, fun _ h => .inl h⟩
theorem Ext.trans {O O' O'' : List Addr} {H H' H'' : Hp} (a : Ext O H O' H') (b : Ext O' H' O'' H'') : Ext O H O'' H'' := by
  refine ⟨fun p o e n => b.kp p o (a.kp p o e n) fun z => ?_, fun p hp => ?_⟩
  · rcases a.hs p z with q | q
    · exact n q
    · rw [q] at e; cases e
  · rcases b.hs p hp with q | q
    · exact a.hs p q
    · cases e : H p with
      | none => exact .inr rfl
      | some o =>
        by_cases n : p ∈ O
        · exact .inl n
        · rw [a.kp p o e n] at q; cases q
theorem Ext.of {B : Bd} {K : PySem.W.Frag} {ρ : List Sl} {O : List Addr} {b : Nat} {H H' : Hp} {σ : L2.St} (r : Rep B K ρ O b H σ) (k : Kp B.g.pa H H') : Ext O H O H' := ⟨r.kpO k, fun _ h => .inl h⟩
theorem Ext.same {O : List Addr} {H H' : Hp} (s : Same H H') : Ext O H O H' := ⟨.of s, fun _ h => .inl h⟩

/-! ### what an iterator yields -/
structure Yl (g : Gh) (K : PySem.W.Frag) (O : List Addr) (H : Hp) (J : It) (xs : List D) : Prop where
  go : ∀ (i : Nat) O' H', Ext O H O' H' → i < xs.length → J.go i H'
  stop : ∀ (i : Nat) O' H', Ext O H O' H' → xs.length ≤ i → J.stop i H'
  yld : ∀ (i : Nat) O' H' (x : V) H'' (d : D), Ext O H O' H' → (∀ q ∈ O', H' q ≠ none) → xs[i]? = some d → J.yld i H' x H'' → Same H' H'' ∧ RV g K O' H'' x d
theorem Yl.ext {g : Gh} {K : PySem.W.Frag} {O O1 : List Addr} {H H1 : Hp} {J : It} {xs : List D} (y : Yl g K O H J xs) (e : Ext O H O1 H1) : Yl g K O1 H1 J xs :=
  ⟨fun i O' H' x => y.go i O' H' (e.trans x), fun i O' H' x => y.stop i O' H' (e.trans x), fun i O' H' x H'' d ex => y.yld i O' H' x H'' d (e.trans ex)⟩
def tI (B : Bd) (K : PySem.W.Frag) (f : FA) : TI := fun σ H R => ∃ ρ O b, Rep B K ρ O b H σ ∧
  (f ρ).All b (fun xs b' => ∀ J H', Kp B.g.pa H H' → Rep B K ρ O b' H' σ → Yl B.g K O H' J xs → R J H') B.Y
theorem PIimp {X : Cx} {tg e : Expr} {t t' : TI} (h : PI X tg e t) (k : ∀ σ H Q, t' σ H Q → t σ H Q) : PI X tg e t' := ⟨fun pins s σ H Q I w => h.run pins s σ H Q I (k σ H Q w)⟩
theorem yl_list {g : Gh} {K : PySem.W.Frag} {O : List Addr} {H : Hp} {a : Addr} {vs : List V} {ds : List D} (h : FL O H a vs) (r : RVs g K O H vs ds) : Yl g K O H (Itl K a) ds := by
  refine ⟨fun i O' H' e hi => ?_, fun i O' H' e hi => ?_, fun i O' H' x H'' d e hO hd y => ?_⟩
  · have h' := h.keep e.kp e.hs
    exact ⟨vs, vs[i]'(by rw [r.length]; exact hi), h'.sq, List.getElem?_eq_getElem _⟩
  · exact ⟨vs, (h.keep e.kp e.hs).sq, by rw [r.length]; exact hi⟩
  · obtain ⟨rfl, y⟩ := y
    have h' := h.keep e.kp e.hs
    obtain ⟨d', e1, e2⟩ := (r.keep e.kp e.hs).get' (y vs h'.sq)
    rw [hd] at e1; cases e1
    exact ⟨Same.refl _, e2⟩
theorem yl_tup {g : Gh} {K : PySem.W.Frag} {O : List Addr} {H : Hp} {a : Addr} {vs : List V} {ds : List D} (h : FT K O H a vs) (r : RVs g K O H vs ds) : Yl g K O H (Itt K a) ds := by
  refine ⟨fun i O' H' e hi => ?_, fun i O' H' e hi => ?_, fun i O' H' x H'' d e hO hd y => ?_⟩
  · have h' := h.keep e.kp e.hs
    exact ⟨vs, vs[i]'(by rw [r.length]; exact hi), h'.sq, List.getElem?_eq_getElem _⟩
  · exact ⟨vs, (h.keep e.kp e.hs).sq, by rw [r.length]; exact hi⟩
  · obtain ⟨rfl, y⟩ := y
    have h' := h.keep e.kp e.hs
    obtain ⟨d', e1, e2⟩ := (r.keep e.kp e.hs).get' (y vs h'.sq)
    rw [hd] at e1; cases e1
    exact ⟨Same.refl _, e2⟩
/-- a list or a tuple -/
def iSeq (K : PySem.W.Frag) (tl : TE) : TI := fun σ H R => tl σ H fun x H1 => ∃ a, x = .ref a ∧ (((∃ xs, SqL K H1 a xs) ∧ R (Itl K a) H1) ∨ ((∃ xs, SqT K H1 a xs) ∧ R (Itt K a) H1))
theorem pi_seq {X : Cx} {tg l : Expr} {tl : TE} (hl : PE X l tl) : PI X tg l (iSeq X.K tl) := by
  refine ⟨fun pins s σ H R I h => thn (hl.run pins s σ H _ I h) fun v s1 got => ?_⟩
  obtain ⟨x, H1, I1, r1, a, ex, q⟩ := got
  subst ex
  cases r1
  rcases q with ⟨⟨xs, hq⟩, q⟩ | ⟨⟨xs, hq⟩, q⟩
  · obtain ⟨its, rv, pl, hz⟩ := I1.list hq
    refine wpAny_pyIter_list pl.isList ⟨s1.heap.objs.size, [s1.heap.objs.size], _, _, H1, rfl, I1.kept (t' := s1.toks) fun b o e => Heap.get?_push_of_some _ e, turn_list a _, ⟨_, Heap.get?_push_size _ rfl, rfl, rfl⟩, fun b hb => ?_, q⟩
    obtain rfl : b = s1.heap.objs.size := by simpa using hb
    exact I1.fpOk (Nat.le_refl _) (I1.hok.fresh (Nat.le_refl _))
  · obtain ⟨its, rv, pl, hz⟩ := I1.tuple hq
    refine wpAny_pyIter_tuple (show s1.heap.IsTuple a its.toArray from pl) ⟨s1.heap.objs.size, [s1.heap.objs.size], _, _, H1, rfl, I1.kept (t' := s1.toks) fun b o e => Heap.get?_push_of_some _ e, turn_tuple a _, ⟨_, Heap.get?_push_size _ rfl, rfl, rfl⟩, fun b hb => ?_, q⟩
    obtain rfl : b = s1.heap.objs.size := by simpa using hb
    exact I1.fpOk (Nat.le_refl _) (I1.hok.fresh (Nat.le_refl _))
def aSeq (f : FE) : FA := fun ρ => (f ρ).bind fun a => T.ofO (seqOf a)
def signs (x : Str) : List D := x.cps.toList.map fun c => .str ⟨#[c]⟩
def signsOf : D → Option (List D)
  | .str x => some (signs x)
  | _ => none
def aStr (f : FE) : FA := fun ρ => (f ρ).bind fun a => T.ofO (signsOf a)
def rangeOf (n : Int) : List D := (List.range n.toNat).map fun i : Nat => .int (i : Int)
def range2Of (a n : Int) : List D := (List.range (n - a).toNat).map fun i : Nat => .int (a + (i : Int))
def rng1 : D → Option (List D)
  | .int n => if -1000000000 ≤ n ∧ n ≤ 1000000000 then some (rangeOf n) else none
  | _ => none
def rngOf : List D → Option (List D)
  | [d] => rng1 d
  | _ => none
def aRng (fa : FA) : FA := fun ρ => (fa ρ).bind fun as => T.ofO (rngOf as)
section
variable {X : Cx} {B : Bd} {tg l a : Expr} {f : FE} {fa : FA} {p pos : Pos}
theorem si_seq (hl : PE X l (tM B X.K f)) : PI X tg l (tI B X.K (aSeq f)) := PIimp (pi_seq hl) fun σ H R ⟨ρ, O, b, Rp, h⟩ => ⟨ρ, O, b, Rp, (T.All.bind h).mono fun d n1 h1 v H1 k1 R1 r1 => by
  obtain ⟨xs, e, q⟩ := T.All.ofO h1
  cases r1 with
  | lst h r => cases e; exact ⟨_, rfl, .inl ⟨⟨_, h.sq⟩, q _ H1 k1 R1 (yl_list h r)⟩⟩
  | tup h r => cases e; exact ⟨_, rfl, .inr ⟨⟨_, h.sq⟩, q _ H1 k1 R1 (yl_tup h r)⟩⟩
  | _ => exact (nos e).elim⟩
theorem yl_str {g : Gh} {K : PySem.W.Frag} {O : List Addr} {H : Hp} {x : Str} : Yl g K O H (Its x) (signs x) := by
  have hl : (signs x).length = x.cps.size := by unfold signs; rw [List.length_map, Array.length_toList]
  refine ⟨fun i O' H' e hi => by rw [hl] at hi; exact hi, fun i O' H' e hi => by rw [hl] at hi; exact hi, fun i O' H' v H'' d e hO hd y => ?_⟩
  obtain ⟨rfl, c, hc, rfl⟩ := y
  unfold signs at hd
  rw [List.getElem?_map, Array.getElem?_toList, hc] at hd
  cases hd
  exact ⟨Same.refl _, .str _⟩
theorem si_str (hl : PE X l (tM B X.K f)) : PI X tg l (tI B X.K (aStr f)) := PIimp (pi_str hl) fun σ H R ⟨ρ, O, b, Rp, h⟩ => ⟨ρ, O, b, Rp, (T.All.bind h).mono fun d n1 h1 v H1 k1 R1 r1 => by
  obtain ⟨xs, e, q⟩ := T.All.ofO h1
  cases r1 with
  | str x => cases e; exact ⟨x, rfl, q _ H1 k1 R1 yl_str⟩
  | _ => exact (nos e).elim⟩
theorem yl_rng {g : Gh} {K : PySem.W.Frag} {O : List Addr} {H : Hp} {n : Int} : Yl g K O H (Itr 0 n.toNat) (rangeOf n) := by
  have hl : (rangeOf n).length = n.toNat := by unfold rangeOf; rw [List.length_map, List.length_range]
  refine ⟨fun i O' H' e hi => by rw [hl] at hi; exact hi, fun i O' H' e hi => by rw [hl] at hi; exact hi, fun i O' H' v H'' d e hO hd y => ?_⟩
  obtain ⟨rfl, rfl⟩ := y
  unfold rangeOf at hd
  rw [List.getElem?_map] at hd
  by_cases hi : i < n.toNat
  · rw [List.getElem?_range hi] at hd
    cases hd
    exact ⟨Same.refl _, by rw [Int.zero_add]; exact .int _⟩
  · rw [List.getElem?_eq_none (by rw [List.length_range]; omega)] at hd; cases hd
theorem si_rng (hm : X.mg "range" = none) (ha : PA X [a] (tL B X.K fa)) (hg : Gl X "range" := by rfl) (hs : starEach [a] X.env = [(false, eval a X.env)] := by rfl) : PI X tg (.Call (.Name "range" p) [a] [] pos) (tI B X.K (aRng fa)) :=
  PIimp (pi_range1 hg hm ha hs) fun σ H R ⟨ρ, O, b, Rp, h⟩ => ⟨ρ, O, b, Rp, (T.All.bind h).mono fun ds n1 h1 vs H1 k1 R1 r1 => by
    obtain ⟨xs, e, q⟩ := T.All.ofO h1
    match ds, vs, r1, e with
    | [], _, _, e => exact (nos e).elim
    | _ :: _ :: _, _, _, e => exact (nos e).elim
    | [d], _, .cons r .nil, e =>
      cases r <;> try exact (nos e).elim
      rename_i n
      have e' : (if -1000000000 ≤ n ∧ n ≤ 1000000000 then some (rangeOf n) else none) = some xs := e
      by_cases hc : -1000000000 ≤ n ∧ n ≤ 1000000000
      · rw [if_pos hc] at e'
        cases e'
        exact ⟨n, rfl, by omega, by omega, q _ H1 k1 R1 yl_rng⟩
      · rw [if_neg hc] at e'; exact (nos e').elim⟩
end

end Z

set_option Elab.async false
set_option linter.all false
set_option maxRecDepth 100000
set_option maxHeartbeats 400000
namespace Z
open PySem PySem.Spec PyProof.Rows L2
/-! ### comprehensions -/
def T.noX {α : Type} : T α → T α
  | .ret a => .ret a
  | .ask m k => .ask m fun c => T.noX (k c)
  | .exc _ _ _ => .bad
  | .bad => .bad
theorem T.All.noX {α : Type} {P : α → Nat → Prop} {Y : XP} : ∀ {t : T α} {b : Nat}, T.All (T.noX t) b P Y → T.All t b P fun _ _ _ _ => False
  | .ret a, b, h => h
  | .ask m k, b, ⟨b', e, h⟩ => ⟨b', e, fun c hc => T.All.noX (h c hc)⟩
  | .exc _ _ _, b, h => h.elim
  | .bad, b, h => h.elim
/-- targets: places -/
def setAll : List Nat → List D → List Sl → List Sl
  | i :: is, d :: ds, ρ => setAll is ds (ρ.set i (.val d))
  | _, _, ρ => ρ
/-- what a target makes of an item -/
inductive Tg where
  | one (i : Nat) | two (i j : Nat)
def put2 (i j : Nat) (ρ : List Sl) : List D → Option (List Sl)
  | [a, b] => some ((ρ.set i (.val a)).set j (.val b))
  | _ => none
def Tg.put : Tg → D → List Sl → Option (List Sl)
  | .one i, d, ρ => some (ρ.set i (.val d))
  | .two i j, .tup ds, ρ => put2 i j ρ ds
  | .two _ _, _, _ => none
def compL (tg : Tg) (c : FT') (f : FE) (ρ : List Sl) : List D → T (List D)
  | [] => .ret []
  | x :: xs => (T.ofO (tg.put x ρ)).bind fun ρ' => (T.noX (c ρ')).bind fun k => if k then (T.noX (f ρ')).bind fun d => (compL tg c f ρ xs).bind fun ds => .ret (d :: ds) else compL tg c f ρ xs
def kYes : FT' := fun _ => .ret true
def eComp (tg : Tg) (src : FA) (c : FT') (f : FE) : FE := fun ρ => (src ρ).bind fun xs => if xs.length ≤ lim then (compL tg c f ρ xs).bind fun ds => .ret (.lst ds) else .bad
def Bd.nox (B : Bd) : Bd := { B with Y := fun _ _ _ _ => False }
theorem Rep.nox {B : Bd} {K : PySem.W.Frag} {ρ : List Sl} {O : List Addr} {b : Nat} {H : Hp} {σ : L2.St} (r : Rep B K ρ O b H σ) : Rep B.nox K ρ O b H σ :=
  ⟨r.len, r.slot, r.own, r.apart, r.there, r.pen, r.kept, r.sub, r.pen0, r.base⟩
theorem set_get {α : Type} {l : List α} {i j : Nat} {x y : α} (h : (l.set i x)[j]? = some y) : (i = j ∧ y = x) ∨ (i ≠ j ∧ l[j]? = some y) := by
  by_cases e : i = j
  · subst e
    by_cases hi : i < l.length
    · rw [List.getElem?_set_self hi] at h; exact .inl ⟨rfl, (Option.some.inj h).symm⟩
    · rw [List.getElem?_eq_none (by rw [List.length_set]; omega)] at h; cases h
  · rw [List.getElem?_set_ne e] at h; exact .inr ⟨e, h⟩
theorem get_lt {α : Type} {l : List α} {i : Nat} {x : α} (h : l[i]? = some x) : i < l.length := (List.getElem?_eq_some_iff.mp h).1
theorem Rep.put {B : Bd} {K : PySem.W.Frag} {ρ : List Sl} {O : List Addr} {b : Nat} {H : Hp} {σ : L2.St} {v : V} {d : D} (r : Rep B K ρ O b H σ) (i : Nat) (rv : RV B.g K O H v d) : Rep B K (ρ.set i (.val d)) O b H (σ.set i (some v)) where
  len := by rw [List.length_set, List.length_set, r.len]
  slot := fun j d' e => by
    rcases set_get e with ⟨rfl, q⟩ | ⟨n, e⟩
    · cases q
      have hi : i < σ.length := by have := get_lt e; rw [List.length_set] at this; rw [r.len]; exact this
      exact ⟨v, List.getElem?_set_self hi, rv⟩
    · obtain ⟨u, h1, h2⟩ := r.slot j d' e
      exact ⟨u, by rw [List.getElem?_set_ne n]; exact h1, h2⟩
  own := fun j ds e => by
    rcases set_get e with ⟨rfl, q⟩ | ⟨n, e⟩
    · cases q
    · obtain ⟨a, vs, h1, h2⟩ := r.own j ds e
      exact ⟨a, vs, by rw [List.getElem?_set_ne n]; exact h1, h2⟩
  apart := fun j k ds es a e1 e2 e3 e4 => by
    rcases set_get e1 with ⟨rfl, q⟩ | ⟨n1, e1⟩
    · cases q
    rcases set_get e2 with ⟨rfl, q⟩ | ⟨n2, e2⟩
    · cases q
    rw [List.getElem?_set_ne n1] at e3
    rw [List.getElem?_set_ne n2] at e4
    exact r.apart j k ds es a e1 e2 e3 e4
  there := r.there
  pen := r.pen
  kept := r.kept
  sub := r.sub
  pen0 := r.pen0
  base := r.base
/-- a slot forgotten -/
theorem Rep.un {B : Bd} {K : PySem.W.Frag} {ρ : List Sl} {O : List Addr} {b : Nat} {H : Hp} {σ : L2.St} (r : Rep B K ρ O b H σ) (i : Nat) (x : Option V) : Rep B K (ρ.set i .un) O b H (σ.set i x) where
  len := by rw [List.length_set, List.length_set, r.len]
  slot := fun j d' e => by
    rcases set_get e with ⟨rfl, q⟩ | ⟨n, e⟩
    · cases q
    · obtain ⟨u, h1, h2⟩ := r.slot j d' e
      exact ⟨u, by rw [List.getElem?_set_ne n]; exact h1, h2⟩
  own := fun j ds e => by
    rcases set_get e with ⟨rfl, q⟩ | ⟨n, e⟩
    · cases q
    · obtain ⟨a, vs, h1, h2⟩ := r.own j ds e
      exact ⟨a, vs, by rw [List.getElem?_set_ne n]; exact h1, h2⟩
  apart := fun j k ds es a e1 e2 e3 e4 => by
    rcases set_get e1 with ⟨rfl, q⟩ | ⟨n1, e1⟩
    · cases q
    rcases set_get e2 with ⟨rfl, q⟩ | ⟨n2, e2⟩
    · cases q
    rw [List.getElem?_set_ne n1] at e3
    rw [List.getElem?_set_ne n2] at e4
    exact r.apart j k ds es a e1 e2 e3 e4
  there := r.there
  pen := r.pen
  kept := r.kept
  sub := r.sub
  pen0 := r.pen0
  base := r.base
def Tg.places : Tg → List Nat
  | .one i => [i]
  | .two i j => [i, j]
def gOf (K : PySem.W.Frag) : Tg → TG
  | .one i => gName i
  | .two i j => gTup K 2 (gCons (gName i) (gCons (gName j) gNil))
/-- the slots behind a target -/
def Tg.putV : Tg → List V → L2.St → L2.St
  | .one i, [v], σ => σ.set i (some v)
  | .two i j, [v, u], σ => (σ.set i (some v)).set j (some u)
  | _, _, σ => σ
theorem put2_some {i j : Nat} {ρ ρ' : List Sl} : ∀ {ds : List D}, put2 i j ρ ds = some ρ' → ∃ a b, ds = [a, b] ∧ ρ' = (ρ.set i (.val a)).set j (.val b)
  | [], e => (nos e).elim
  | [_], e => (nos e).elim
  | [a, b], e => ⟨a, b, rfl, (Option.some.inj e).symm⟩
  | _ :: _ :: _ :: _, e => (nos e).elim
theorem rvs_two {g : Gh} {K : PySem.W.Frag} {O : List Addr} {H : Hp} {vs : List V} {a b : D} (r : RVs g K O H vs [a, b]) : ∃ v u, vs = [v, u] ∧ RV g K O H v a ∧ RV g K O H u b := by
  cases r with
  | cons r1 r2 => cases r2 with
    | cons r2 r3 => cases r3; exact ⟨_, _, rfl, r1, r2⟩
theorem put_ok {B : Bd} {K : PySem.W.Frag} {ρ ρ' : List Sl} {O : List Addr} {b : Nat} {H : Hp} {σ : L2.St} {v : V} {d : D} {tg : Tg} {Q : L2.St → Hp → Prop} (r : Rep B K ρ O b H σ) (rv : RV B.g K O H v d) (e : tg.put d ρ = some ρ')
    (k : ∀ vs, Rep B K ρ' O b H (tg.putV vs σ) → Q (tg.putV vs σ) H) : gOf K tg v σ H Q := by
  cases tg with
  | one i => cases e; exact k [v] (r.put i rv)
  | two i j =>
    cases rv <;> try exact (nos e).elim
    rename_i a vs ds h rs
    obtain ⟨d1, d2, rfl, rfl⟩ := put2_some e
    obtain ⟨v1, v2, rfl, r1, r2⟩ := rvs_two rs
    exact ⟨a, _, rfl, h.sq, rfl, v1, [v2], rfl, v2, [], rfl, rfl, k [v1, v2] ((r.put i r1).put j r2)⟩
theorem set_set_none {σ : L2.St} {i : Nat} {x : Option V} : (σ.set i x).set i none = σ.set i none := List.set_set ..
theorem wipe_put (tg : Tg) (vs : List V) (σ : L2.St) : wipe (tg.putV vs σ) tg.places = wipe σ tg.places := by
  cases tg with
  | one i =>
    match vs with
    | [] => rfl
    | [v] => show (σ.set i (some v)).set i none = σ.set i none; exact set_set_none
    | _ :: _ :: _ => rfl
  | two i j =>
    match vs with
    | [] => rfl
    | [_] => rfl
    | _ :: _ :: _ :: _ => rfl
    | [v, u] =>
      show (((σ.set i (some v)).set j (some u)).set j none).set i none = (σ.set j none).set i none
      rw [set_set_none]
      by_cases e : i = j
      · subst e; rw [set_set_none, set_set_none, set_set_none]
      · rw [List.set_comm _ _ e, set_set_none, List.set_comm _ _ (Ne.symm e)]
theorem wipe_wipe (tg : Tg) (σ : L2.St) : wipe (wipe σ tg.places) tg.places = wipe σ tg.places := by
  cases tg with
  | one i => show (σ.set i none).set i none = σ.set i none; exact set_set_none
  | two i j =>
    show ((((σ.set j none).set i none).set j none).set i none) = (σ.set j none).set i none
    by_cases e : i = j
    · subst e; rw [set_set_none, set_set_none, set_set_none]
    · rw [List.set_comm (i := i) (j := j) _ _ e, set_set_none, set_set_none]
def Tg.wipeD : Tg → List Sl → List Sl
  | .one i, ρ => ρ.set i .un
  | .two i j, ρ => (ρ.set j .un).set i .un
theorem Rep.wiped {B : Bd} {K : PySem.W.Frag} {ρ : List Sl} {O : List Addr} {b : Nat} {H : Hp} {σ : L2.St} (r : Rep B K ρ O b H σ) (tg : Tg) : Rep B K (tg.wipeD ρ) O b H (wipe σ tg.places) := by
  cases tg with
  | one i => exact r.un i none
  | two i j => exact (r.un j none).un i none
theorem put_wiped {tg : Tg} {d : D} {ρ ρ' : List Sl} (e : tg.put d ρ = some ρ') (hd : match tg with | .one _ => True | .two i j => i ≠ j) : tg.put d (tg.wipeD ρ) = some ρ' := by
  cases tg with
  | one i => cases e; show some ((ρ.set i .un).set i (.val d)) = _; rw [List.set_set]
  | two i j =>
    cases d <;> try exact (nos e).elim
    rename_i xs
    obtain ⟨a, b, rfl, rfl⟩ := put2_some e
    show some (((((ρ.set j .un).set i .un).set i (.val a)).set j (.val b))) = some ((ρ.set i (.val a)).set j (.val b))
    rw [List.set_set, List.set_comm _ _ (Ne.symm hd), List.set_set]
/-- one thing more is owned -/
theorem Rep.also {B : Bd} {K : PySem.W.Frag} {ρ : List Sl} {O : List Addr} {b : Nat} {H : Hp} {σ : L2.St} {p : Addr} {o : HO} (r : Rep B K ρ O b H σ) (hp : H p = none) : Rep B K ρ (p :: O) b (upd H p o) σ := by
  have s : Same H (upd H p o) := same_new hp
  have hs : ∀ a ∈ p :: O, a ∈ O ∨ H a = none := fun a ha => by
    rcases List.mem_cons.mp ha with rfl | q
    · exact .inr hp
    · exact .inl q
  refine ⟨r.len, fun i d e => ?_, fun i ds e => ?_, r.apart, fun a ha => ?_, fun a e => ?_, r.kept.trans (.of s), fun a ha => List.mem_cons_of_mem _ (r.sub a ha), r.pen0, r.base⟩
  · obtain ⟨v, h1, h2⟩ := r.slot i d e
    exact ⟨v, h1, h2.keep (.of s) hs⟩
  · obtain ⟨a, vs, h1, h2, h3, h4, h5, h6⟩ := r.own i ds e
    exact ⟨a, vs, h1, List.mem_cons_of_mem _ h2, h3, h4, s _ _ h5, h6.keep (.of s) hs⟩
  · rcases List.mem_cons.mp ha with rfl | q
    · rw [upd_same]; exact fun z => nomatch z
    · exact Same.there s r.there a q
  · obtain ⟨m, c, t, rr, cells, h1, h2, h3, h4⟩ := r.pen a e
    exact ⟨List.mem_cons_of_mem _ m, c, t, rr, cells, s _ _ h1, s _ _ h2, fun z => by
      rcases List.mem_cons.mp z with rfl | q
      · rw [hp] at h2; cases h2
      · exact h3 q, h4⟩
end Z

set_option Elab.async false
set_option linter.all false
set_option maxRecDepth 100000
set_option maxHeartbeats 1000000
namespace Z
open PySem PySem.Spec PyProof.Rows L2
/-! Z6c: the comprehension. -/
theorem mem_ne {a p : Addr} {O : List Addr} (n : a ∉ p :: O) : a ≠ p := fun z => n (by rw [z]; exact List.mem_cons_self)
theorem pa_ne {a p : Addr} {o : Option Addr} (h : o ≠ some p) (e : o = some a) : a ≠ p := fun z => h (by rw [e, z])

theorem Rep.owned {B : Bd} {K : PySem.W.Frag} {ρ : List Sl} {O : List Addr} {b : Nat} {H : Hp} {σ : L2.St} {p : Addr} {o : HO} (r : Rep B K ρ (p :: O) b H σ) (hp : ∀ (i : Nat) ds, ρ[i]? = some (.own ds) → σ[i]? ≠ some (some (.ref p))) (h0 : B.H0 p = none) (hpa : B.g.pa ≠ some p) :
    Rep B K ρ (p :: O) b (upd H p o) σ := by
  have k : KpO (p :: O) H (upd H p o) := fun a u e n => by
    rw [upd_ne (mem_ne n)]; exact e
  refine ⟨r.len, fun i d e => ?_, fun i ds e => ?_, r.apart, fun a ha => ?_, fun a e => ?_, fun a u e n => ?_, r.sub, r.pen0, r.base⟩
  · obtain ⟨v, h1, h2⟩ := r.slot i d e
    exact ⟨v, h1, h2.keep k hs_refl⟩
  · obtain ⟨a, vs, h1, h2, h3, h4, h5, h6⟩ := r.own i ds e
    exact ⟨a, vs, h1, h2, h3, h4, by rw [upd_ne (show a ≠ p from fun z => hp i ds e (by rw [← z]; exact h1))]; exact h5, h6.keep k hs_refl⟩
  · by_cases q : a = p
    · subst q; rw [upd_same]; exact fun z => nomatch z
    · rw [upd_ne q]; exact r.there a ha
  · obtain ⟨m, c, t, rr, cells, h1, h2, h3, h4⟩ := r.pen a e
    have n1 : a ≠ p := pa_ne hpa e
    have n2 : c ≠ p := mem_ne h3
    exact ⟨m, c, t, rr, cells, by rw [upd_ne n1]; exact h1, by rw [upd_ne n2]; exact h2, h3, h4⟩
  · have q := r.kept a u e n
    by_cases z : a = p
    · subst z; rw [h0] at e; cases e
    · rw [upd_ne z]; exact q
/-- p is owned no longer -/
theorem Rep.drop {B : Bd} {K : PySem.W.Frag} {ρ : List Sl} {O : List Addr} {b : Nat} {H : Hp} {σ : L2.St} {p : Addr} (r : Rep B K ρ (p :: O) b H σ) (hp : ∀ (i : Nat) ds, ρ[i]? = some (.own ds) → σ[i]? ≠ some (some (.ref p))) (h0 : p ∉ B.O0) (hpa : B.g.pa ≠ some p) :
    Rep B K ρ O b H σ := by
  have hs : ∀ a ∈ O, a ∈ p :: O ∨ H a = none := fun a h => .inl (List.mem_cons_of_mem _ h)
  have kk : KpO (p :: O) H H := fun _ _ e _ => e
  refine ⟨r.len, fun i d e => ?_, fun i ds e => ?_, r.apart, fun a ha => r.there a (List.mem_cons_of_mem _ ha), fun a e => ?_, r.kept, fun a ha => ?_, r.pen0, r.base⟩
  · obtain ⟨v, h1, h2⟩ := r.slot i d e
    exact ⟨v, h1, h2.keep kk hs⟩
  · obtain ⟨a, vs, h1, h2, h3, h4, h5, h6⟩ := r.own i ds e
    refine ⟨a, vs, h1, ?_, h3, h4, h5, h6.keep kk hs⟩
    rcases List.mem_cons.mp h2 with z | z
    · exact (hp i ds e (by rw [← z]; exact h1)).elim
    · exact z
  · obtain ⟨m, c, t, rr, cells, h1, h2, h3, h4⟩ := r.pen a e
    refine ⟨?_, c, t, rr, cells, h1, h2, fun z => h3 (List.mem_cons_of_mem _ z), h4⟩
    rcases List.mem_cons.mp m with z | z
    · exact (pa_ne hpa e z).elim
    · exact z
  · rcases List.mem_cons.mp (r.sub a ha) with z | z
    · exact (h0 (by rw [← z]; exact ha)).elim
    · exact z
def Tg.apart : Tg → Prop
  | .one _ => True
  | .two i j => i ≠ j
section
variable {X : Cx} {B : Bd} {elt te iter : Expr} {ifs : List Expr} {scope : Scope} {own : List (Str × Nat)} {pos : Pos} {src : FA} {c : FT'} {f : FE} {tg : Tg} {tt : TT}
/-- the tests of a comprehension -/
def TT_ok (B : Bd) (K : PySem.W.Frag) (tt : TT) (c : FT') : Prop := ∀ σ H Q, tK B K c σ H Q → tt σ H Q
theorem tt_yes {K : PySem.W.Frag} : TT_ok B K tYes kYes := fun σ H Q ⟨ρ, O, b, R, h⟩ => h H .refl R
theorem tt_one {K : PySem.W.Frag} : TT_ok B K (tK B K c) c := fun _ _ _ h => h
theorem comp_imp {K : PySem.W.Frag} (hap : tg.apart) (htt : TT_ok B.nox K tt c) (σ : L2.St) (H : Hp) (Q : VK) (h : tM B K (eComp tg src c f) σ H Q) :
    tLc (tI B K src) (gOf K tg) tt (tM B.nox K f) tg.places σ H Q := by
  obtain ⟨ρ, O, b, R, h⟩ := h
  refine ⟨ρ, O, b, R, (T.All.bind h).mono fun xs n1 h1 J H1 k1 R1 yl => ?_⟩
  by_cases hl : xs.length ≤ lim
  · rw [if_pos hl] at h1
    intro Dl hD
    have hDO : Dl ∉ O := notO R1.there hD
    have hpa : B.g.pa ≠ some Dl := fun z => hDO (R1.pen Dl z).1
    have h0 : B.H0 Dl = none := by
      cases e : B.H0 Dl with
      | none => rfl
      | some o => rw [R1.kept Dl o e hpa] at hD; cases hD
    have hO0 : Dl ∉ B.O0 := fun z => hDO (R1.sub Dl z)
    -- the slots never hold Dl
    have free : ∀ (τ : L2.St) (ρ2 : List Sl) (O2 : List Addr) (b2 : Nat) (H2 : Hp), True := fun _ _ _ _ _ => True.intro
    refine ⟨fun i m H' => ∃ (b' : Nat) (acc : List D) (vacc : List V), m = xs.length - i ∧ i ≤ xs.length ∧ acc.length ≤ i ∧ Kp B.g.pa H1 H' ∧ H' Dl = some (.lst vacc) ∧ RVs B.g K (Dl :: O) H' vacc acc ∧ PenOk B.g.pa (Dl :: O) H' b' ∧
        (compL tg c f ρ (xs.drop i)).All b' (fun ds b2 => ∀ v H2, Kp B.g.pa H H2 → Rep B K ρ O b2 H2 σ → RV B.g K O H2 v (.lst (acc ++ ds)) → Q v H2) B.Y, ⟨xs.length, n1, [], [], by simp, Nat.zero_le _, Nat.zero_le _, .of (same_new hD), upd_same, .nil, (R1.also (o := .lst []) hD).pen, ?_⟩, ?_⟩
    · rw [List.drop_zero]
      refine (T.All.bind h1).mono fun ds b2 q => ?_
      rw [List.nil_append]
      exact q
    · rintro i m H' ⟨b', acc, vacc, rfl, hi, ha, kk, hDl, racc, pen, hall⟩
      have pen0 : PenOk B.g.pa O H' b' := pen.sub (fun a h => List.mem_cons_of_mem _ h) fun a e => (R1.pen a e).1
      have R2 : Rep B K ρ O b' H' σ := R1.go kk pen0
      have kkO : KpO (Dl :: O) H' H' := fun _ _ e _ => e
      have drp : ∀ a ∈ O, a ∈ Dl :: O ∨ H' a = none := fun a h => .inl (List.mem_cons_of_mem _ h)
      have ex : Ext O H1 (Dl :: O) H' := ⟨R1.kpO kk, fun a h => (List.mem_cons.mp h).elim (fun z => .inr (by rw [z]; exact hD)) .inl⟩
      by_cases hlt : i < xs.length
      · refine .inr ⟨yl.go i _ _ ex hlt, fun H2 => ∃ (b' : Nat) (acc : List D) (vacc : List V), i + 1 ≤ xs.length ∧ acc.length ≤ i + 1 ∧ Kp B.g.pa H1 H2 ∧ H2 Dl = some (.lst vacc) ∧ RVs B.g K (Dl :: O) H2 vacc acc ∧ PenOk B.g.pa (Dl :: O) H2 b' ∧
          (compL tg c f ρ (xs.drop (i + 1))).All b' (fun ds b2 => ∀ v H2, Kp B.g.pa H H2 → Rep B K ρ O b2 H2 σ → RV B.g K O H2 v (.lst (acc ++ ds)) → Q v H2) B.Y, fun H2 ⟨b2, acc2, vacc2, q1, q2⟩ => ⟨xs.length - (i + 1), by omega, b2, acc2, vacc2, rfl, q1, q2⟩, fun x H2 hy => ?_⟩
        -- the item
        have hO2 : ∀ q ∈ Dl :: O, H' q ≠ none := fun q hq => by
          rcases List.mem_cons.mp hq with rfl | z
          · rw [hDl]; exact fun z => nomatch z
          · exact R2.there q z
        obtain ⟨s2, rx⟩ := yl.yld i (Dl :: O) H' x H2 _ ex hO2 (List.getElem?_eq_getElem hlt) hy
        rw [List.drop_eq_getElem_cons hlt] at hall
        obtain ⟨ρ', eput, hall⟩ := T.All.ofO (T.All.bind hall)
        -- the frame with Dl owned
        have R3 : Rep B K ρ (Dl :: O) b' H2 σ := by
          have Rg := R2.same s2
          refine ⟨Rg.len, fun j d e => ?_, fun j ds e => ?_, Rg.apart, Same.there s2 hO2, pen.same s2, Rg.kept, fun a h => List.mem_cons_of_mem _ (Rg.sub a h), Rg.pen0, Rg.base⟩
          · -- a slot's data was there ahead of Dl
            obtain ⟨v, e1, e2⟩ := R1.slot j d e
            refine ⟨v, e1, e2.keep ((ex.trans (Ext.same s2)).kp) ((ex.trans (Ext.same s2)).hs)⟩
          · obtain ⟨a, vs, e1, e2, e3, e4, e5, e6⟩ := R1.own j ds e
            exact ⟨a, vs, e1, List.mem_cons_of_mem _ e2, e3, e4, s2 _ _ (kk _ _ e5 e3), e6.keep ((ex.trans (Ext.same s2)).kp) ((ex.trans (Ext.same s2)).hs)⟩
        have R4 := R3.nox.wiped tg
        have ep2 : tg.put xs[i] (tg.wipeD ρ) = some ρ' := put_wiped eput (by cases tg with | one _ => exact True.intro | two _ _ => exact hap)
        refine put_ok R4 rx ep2 fun vs R5 => ⟨by rw [wipe_put, wipe_wipe], htt _ _ _ ⟨ρ', _, b', R5, (T.All.noX (T.All.bind hall)).mono fun kc b3 h3 H3 k3 R6 => ?_⟩⟩
        have hD3 : H3 Dl = some (.lst vacc) := k3 _ _ (s2 _ _ hDl) hpa
        have r3 : RVs B.g K (Dl :: O) H3 vacc acc := (racc.same s2).keep (R6.kpO' k3) hs_refl
        cases kc with
        | false =>
          refine iteF ⟨b3, acc, vacc, hlt, by omega, (kk.trans (.of s2)).trans k3, hD3, r3, R6.pen, h3⟩
        | true =>
          refine iteT ⟨ρ', _, b3, R6, (T.All.noX (T.All.bind h3)).mono fun d b4 h4 y H4 k4 R7 ry => ?_⟩
          have hD4 : H4 Dl = some (.lst vacc) := k4 _ _ hD3 hpa
          have r4 : RVs B.g K (Dl :: O) H4 vacc acc := r3.keep (R7.kpO' k4) hs_refl
          have kU : KpO (Dl :: O) H4 (upd H4 Dl (.lst (vacc ++ [y]))) := fun a u e n => by
            rw [upd_ne (mem_ne n)]; exact e
          refine ⟨vacc, hD4, ?_, b4, acc ++ [d], vacc ++ [y], hlt, by rw [List.length_append, List.length_singleton]; omega, fun a u e n => ?_, upd_same, (r4.append (.cons ry .nil)).keep kU hs_refl, fun a e => ?_, (T.All.bind h4).mono fun ds b5 q v H5 k5 R8 rv => q v H5 k5 R8 (by rw [List.append_assoc] at rv; exact rv)⟩
          · rw [r4.length]
            exact Nat.lt_of_le_of_lt ha (Nat.lt_of_lt_of_le (Nat.lt_of_lt_of_le hlt hl) (by decide))
          · have q := k4 _ _ (k3 _ _ (s2 _ _ (kk a u e n)) n) n
            by_cases z : a = Dl
            · subst z; rw [hD] at e; cases e
            · rw [upd_ne z]; exact q
          · obtain ⟨m, cc, t, rr, cells, g1, g2, g3, g4⟩ := R7.pen a e
            exact ⟨m, cc, t, rr, cells, by rw [upd_ne (pa_ne hpa e)]; exact g1, by rw [upd_ne (mem_ne g3)]; exact g2, g3, g4⟩
      · have e : i = xs.length := by omega
        subst e
        rw [List.drop_length] at hall
        refine .inl ⟨yl.stop _ _ _ ex (Nat.le_refl _), ?_⟩
        refine hall _ H' (k1.trans kk) R2 ?_
        rw [List.append_nil]
        exact .lst ⟨hDl, hDO⟩ (racc.keep kkO drp)
  · rw [if_neg hl] at h1; exact h1.elim
theorem se_comp {tgE : Expr} (hc : X.calm = true) (hN : X.N.Nodup) (hi : PI X tgE iter (tI B X.K src)) (ok : BlkOk X.N X.env.scope scope own) (hap : tg.apart) (hpl : own.map (·.2) = tg.places)
    (hg : ∀ (s : Shared) (H : Hp) (C : Addr) (cl : List (Str × Addr)) (fp : List Addr), PG (X.blk s H scope (compEnvC scope cl C X.env) fp) tgE (gOf X.K tg))
    (ht : ∀ (s : Shared) (H : Hp) (C : Addr) (cl : List (Str × Addr)) (fp : List Addr), PTs (X.blk s H scope (compEnvC scope cl C X.env) fp) ifs tt) (htt : TT_ok B.nox X.K tt c)
    (he : ∀ (s : Shared) (H : Hp) (C : Addr) (cl : List (Str × Addr)) (fp : List Addr), PE (X.blk s H scope (compEnvC scope cl C X.env) fp) elt (tM B.nox X.K f)) (hs : ∀ x, foldedSetIterable iter X.env x = pure x := by intro _; rfl) :
    PE X (.ListComp elt [⟨tgE, iter, ifs, 0⟩] scope pos) (tM B X.K (eComp tg src c f)) :=
  PEimp (pe_lc hc hN hi ok hg ht he hs) fun σ H Q h => by rw [hpl]; exact comp_imp hap htt σ H Q h
end
end Z

set_option Elab.async false
set_option linter.all false
set_option maxRecDepth 100000
set_option maxHeartbeats 1000000
/-! Z7: statements, bodies. -/
namespace Z
open PySem PySem.Spec PyProof.Rows L2

inductive Fl where
  | nx (ρ : List Sl) | rt (d : D) | bk (ρ : List Sl) | ct (ρ : List Sl)
abbrev FS := List Sl → T Fl
/-- what is wished behind a statement -/
def Post (B : Bd) (K : PySem.W.Frag) (Dn : Ends) (O : List Addr) (H : Hp) (r : Fl) (b : Nat) : Prop := match r with
  | .nx ρ => ∀ σ' H' O', Ext O H O' H' → Rep B K ρ O' b H' σ' → Dn.nx σ' H'
  | .bk ρ => ∀ σ' H' O', Ext O H O' H' → Rep B K ρ O' b H' σ' → Dn.bk σ' H'
  | .ct ρ => ∀ σ' H' O', Ext O H O' H' → Rep B K ρ O' b H' σ' → Dn.ct σ' H'
  | .rt d => ∀ v H', Kp B.g.pa B.H0 H' → PenOk B.g.pa B.O0 H' b → (∀ a ∈ B.O0, H' a ≠ none) → RV B.g K B.O0 H' v d → Dn.rt v H'
theorem Post.ext {B : Bd} {K : PySem.W.Frag} {Dn : Ends} {O O' : List Addr} {H H' : Hp} {r : Fl} {b : Nat} (p : Post B K Dn O H r b) (e : Ext O H O' H') : Post B K Dn O' H' r b := by
  cases r with
  | nx ρ => exact fun σ2 H2 O2 e2 R => p σ2 H2 O2 (e.trans e2) R
  | bk ρ => exact fun σ2 H2 O2 e2 R => p σ2 H2 O2 (e.trans e2) R
  | ct ρ => exact fun σ2 H2 O2 e2 R => p σ2 H2 O2 (e.trans e2) R
  | rt d => exact p
def tS (B : Bd) (K : PySem.W.Frag) (f : FS) : TS := fun Dn σ H => ∃ ρ O b, Rep B K ρ O b H σ ∧ (f ρ).All b (Post B K Dn O H) B.Y
theorem PSimp {X : Cx} {s : Stmt} {t t' : TS} (h : PS X s t) (k : ∀ Dn σ H, t' Dn σ H → t Dn σ H) : PS X s t' := ⟨fun pins s σ H Dn I w => h.run pins s σ H Dn I (k Dn σ H w)⟩
theorem PSsimp {X : Cx} {s : List Stmt} {t t' : TS} (h : PSs X s t) (k : ∀ Dn σ H, t' Dn σ H → t Dn σ H) : PSs X s t' := ⟨fun pins s σ H Dn I w => h.run pins s σ H Dn I (k Dn σ H w)⟩

def sNext : FS := fun ρ => .ret (.nx ρ)
def sSeq (f h : FS) : FS := fun ρ => (f ρ).bind fun r => match r with
  | .nx ρ' => h ρ'
  | r => .ret r
def sRet (fe : FE) : FS := fun ρ => (fe ρ).bind fun d => .ret (.rt d)
def sRetN : FS := fun _ => .ret (.rt .non)
def sSet (i : Nat) (fe : FE) : FS := fun ρ => (fe ρ).bind fun d => .ret (.nx (ρ.set i (.val d)))
def sSet2 (i j : Nat) (f1 f2 : FE) : FS := fun ρ => (f1 ρ).bind fun a => (f2 ρ).bind fun b => .ret (.nx ((ρ.set i (.val a)).set j (.val b)))
def sIf (c : FT') (f h : FS) : FS := fun ρ => (c ρ).bind fun k => if k then f ρ else h ρ
def sDrop (fe : FE) : FS := fun ρ => (fe ρ).bind fun _ => .ret (.nx ρ)
def sBrk : FS := fun ρ => .ret (.bk ρ)
def sCnt : FS := fun ρ => .ret (.ct ρ)
/-- a new list, owned by a name -/
def sOwn (i : Nat) (fa : FA) : FS := fun ρ => (fa ρ).bind fun ds => if ds.length ≤ lim then .ret (.nx (ρ.set i (.own ds))) else .bad
def ownAt (ρ : List Sl) (i : Nat) : Option (List D) := match ρ[i]? with
  | some (.own ds) => some ds
  | _ => none
def sApp (i : Nat) (fe : FE) : FS := fun ρ => (T.ofO (ownAt ρ i)).bind fun ds => (fe ρ).bind fun d => if ds.length ≤ lim then .ret (.nx (ρ.set i (.own (ds ++ [d])))) else .bad
def sFrz (i : Nat) (f : FS) : FS := fun ρ => match ρ[i]? with
  | some (.own ds) => f (ρ.set i (.val (.lst ds)))
  | _ => .bad
def loop (tg : Tg) (body : FS) : List D → FS
  | [], ρ => .ret (.nx ρ)
  | x :: xs, ρ => (T.ofO (tg.put x ρ)).bind fun ρ' => (body ρ').bind fun r => match r with
    | .nx ρ2 => loop tg body xs ρ2
    | .ct ρ2 => loop tg body xs ρ2
    | .bk ρ2 => .ret (.nx ρ2)
    | .rt d => .ret (.rt d)
def sFor (tg : Tg) (src : FA) (body : FS) : FS := fun ρ => (src ρ).bind fun xs => loop tg body xs ρ
def whl (c : FT') (body : FS) : Nat → FS
  | 0, _ => .bad
  | n + 1, ρ => (c ρ).bind fun k => if k then (body ρ).bind fun r => match r with
    | .nx ρ2 => whl c body n ρ2
    | .ct ρ2 => whl c body n ρ2
    | .bk ρ2 => .ret (.nx ρ2)
    | .rt d => .ret (.rt d) else .ret (.nx ρ)

section
variable {X : Cx} {B : Bd} {st : Stmt} {rest : List Stmt} {pos pos' : Pos} {e a b c : Expr} {fe f1 f2 : FE} {fa : FA} {k : FT'} {f h : FS}
theorem sss_nil : PSs X [] (tS B X.K sNext) := PSsimp pss_nil fun Dn σ H ⟨ρ, O, b, R, w⟩ => w σ H O .refl R
theorem sss_cons (h1 : PS X st (tS B X.K f)) (h2 : PSs X rest (tS B X.K h)) : PSs X (st :: rest) (tS B X.K (sSeq f h)) :=
  PSsimp (pss_cons h1 h2) fun Dn σ H ⟨ρ, O, b, R, w⟩ => ⟨ρ, O, b, R, (T.All.bind w).mono fun r b1 w1 => by
    cases r with
    | nx ρ1 => exact fun σ1 H1 O1 e1 R1 => ⟨ρ1, O1, b1, R1, T.All.mono w1 fun r2 b2 p => p.ext e1⟩
    | bk ρ1 => exact w1
    | ct ρ1 => exact w1
    | rt d => exact w1⟩
theorem sss_one (h1 : PS X st (tS B X.K f)) : PSs X [st] (tS B X.K f) := pss_one h1
theorem ss_ret (he : PE X e (tM B X.K fe)) : PS X (.Return (some e) pos) (tS B X.K (sRet fe)) :=
  PSimp (ps_ret he) fun Dn σ H ⟨ρ, O, b, R, w⟩ => ⟨ρ, O, b, R, (T.All.bind w).mono fun d b1 w1 v H1 k1 R1 rv => w1 v H1 R1.kept (R1.pen.sub R1.sub R1.pen0) (fun a ha => R1.there a (R1.sub a ha)) (rv.keep (fun _ _ e _ => e) (hs_sub R1.sub))⟩
theorem ss_set (i : Nat) {x : Str} (hN : X.N.Nodup) (he : PE X e (tM B X.K fe)) (hi : X.N[i]? = some x := by rfl) (hx : Loc X.env.scope x := by first | exact Or.inl rfl | exact Or.inr rfl) (hs : swapsWith e (some (.Name x pos')) pos.line X.env = pure false := by rfl)
    (hf : X.fn x = true ∨ X.env.scope.names.lookup x = some .local := by first | exact .inl rfl | exact .inr rfl) : PS X (.Assign [.Name x pos'] e pos) (tS B X.K (sSet i fe)) :=
  PSimp (ps_set hN hi hx he hs hf) fun Dn σ H ⟨ρ, O, b, R, w⟩ => ⟨ρ, O, b, R, (T.All.bind w).mono fun d b1 w1 v H1 k1 R1 rv => w1 _ H1 O (.of R k1) (R1.put i rv)⟩
theorem ss_set2 (i j : Nat) {x y : Str} {px py pt : Pos} {kt k2 : Nat} {pt2 : Pos} (hc : X.calm = true) (hN : X.N.Nodup) (ha : PE X a (tM B X.K f1)) (hb : PE X b (tM B X.K f2)) (hij : i ≠ j := by decide) (hi : X.N[i]? = some x := by rfl) (hj : X.N[j]? = some y := by rfl)
    (hx : X.env.scope.names.lookup x = some .local := by rfl) (hy : X.env.scope.names.lookup y = some .local := by rfl) (hw : swappedStores [.Tuple [.Name x px, .Name y py] kt pt] (.Tuple [a, b] k2 pt2) X.env = pure (some [x, y]) := by rfl)
    (hs : swapsWithSole [.Tuple [.Name x px, .Name y py] kt pt] (.Tuple [a, b] k2 pt2) pos.line X.env = pure false := by rfl) (h1 : starEach [a, b] X.env = (false, eval a X.env) :: starEach [b] X.env := by rfl) (h2 : starEach [b] X.env = (false, eval b X.env) :: starEach [] X.env := by rfl) :
    PS X (.Assign [.Tuple [.Name x px, .Name y py] kt pt] (.Tuple [a, b] k2 pt2) pos) (tS B X.K (sSet2 i j f1 f2)) :=
  PSimp (ps_par hc hN hi hj hij hx hy (pa_cons ha (pa_cons hb pa_nil h2) h1) hw hs) fun Dn σ H ⟨ρ, O, b, R, w⟩ => ⟨ρ, O, b, R, (T.All.bind w).mono fun d1 b1 w1 v1 H1 k1 R1 r1 => ⟨ρ, O, b1, R1, (T.All.bind w1).mono fun d2 b2 w2 v2 H2 k2 R2 r2 =>
    ⟨v1, v2, rfl, w2 _ H2 O (.of R (k1.trans k2)) ((R2.put i (r1.keep (R2.kpO' k2) hs_refl)).put j r2)⟩⟩⟩
theorem ss_if (hc : PT X c (tK B X.K k)) {as bs : List Stmt} (ha : PSs X as (tS B X.K f)) (hb : PSs X bs (tS B X.K h)) : PS X (.If c as bs pos) (tS B X.K (sIf k f h)) :=
  PSimp (ps_if hc ha hb) fun Dn σ H ⟨ρ, O, b, R, w⟩ => ⟨ρ, O, b, R, (T.All.bind w).mono fun kk b1 w1 H1 k1 R1 => by
    cases kk with
    | true => exact iteT ⟨ρ, O, b1, R1, T.All.mono w1 fun r2 b2 p => p.ext (.of R k1)⟩
    | false => exact iteF ⟨ρ, O, b1, R1, T.All.mono w1 fun r2 b2 p => p.ext (.of R k1)⟩⟩
theorem ss_drop (he : PE X e (tM B X.K fe)) (hs : swapsWith e none pos.line X.env = pure false := by rfl) : PS X (.Expr e pos) (tS B X.K (sDrop fe)) :=
  PSimp (ps_expr he hs) fun Dn σ H ⟨ρ, O, b, R, w⟩ => ⟨ρ, O, b, R, (T.All.bind w).mono fun d b1 w1 v H1 k1 R1 rv => w1 σ H1 O (.of R k1) R1⟩
theorem ss_pass : PS X (.Pass pos) (tS B X.K sNext) := PSimp ps_pass fun Dn σ H ⟨ρ, O, b, R, w⟩ => w σ H O .refl R
theorem ss_brk : PS X (.Break pos) (tS B X.K sBrk) := PSimp ps_break fun Dn σ H ⟨ρ, O, b, R, w⟩ => w σ H O .refl R
theorem ss_cnt : PS X (.Continue pos) (tS B X.K sCnt) := PSimp ps_continue fun Dn σ H ⟨ρ, O, b, R, w⟩ => w σ H O .refl R
/-! owned lists -/
theorem h0_of {K : PySem.W.Frag} {ρ : List Sl} {O : List Addr} {b : Nat} {H : Hp} {σ : L2.St} {p : Addr} (R : Rep B K ρ O b H σ) (hp : H p = none) : p ∉ O ∧ B.g.pa ≠ some p ∧ B.H0 p = none := by
  have hO : p ∉ O := notO R.there hp
  have hpa : B.g.pa ≠ some p := fun z => hO (R.pen p z).1
  refine ⟨hO, hpa, ?_⟩
  cases e : B.H0 p with
  | none => rfl
  | some o => rw [R.kept p o e hpa] at hp; cases hp
theorem Rep.putOwn {K : PySem.W.Frag} {ρ : List Sl} {O : List Addr} {b : Nat} {H : Hp} {σ : L2.St} {p : Addr} {vs : List V} {ds : List D} (R : Rep B K ρ O b H σ) (hp : H p = none) (i : Nat) (r : RVs B.g K O H vs ds) :
    Rep B K (ρ.set i (.own ds)) (p :: O) b (upd H p (.lst vs)) (σ.set i (some (.ref p))) := by
  obtain ⟨hO, hpa, h0⟩ := h0_of R hp
  have R1 := (R.also (o := .lst vs) hp).un i (some (.ref p))
  have hs : ∀ a ∈ p :: O, a ∈ O ∨ H a = none := fun a ha => (List.mem_cons.mp ha).elim (fun z => .inr (by rw [z]; exact hp)) .inl
  refine ⟨by rw [List.length_set, List.length_set, R.len], fun j d e => ?_, fun j es e => ?_, fun j k es es2 a e1 e2 e3 e4 => ?_, R1.there, R1.pen, R1.kept, R1.sub, R1.pen0, R1.base⟩
  · rcases set_get e with ⟨rfl, q⟩ | ⟨n, q⟩
    · cases q
    · exact R1.slot j d (by rw [List.getElem?_set_ne n]; exact q)
  · rcases set_get e with ⟨rfl, q⟩ | ⟨n, q⟩
    · cases q
      have hi : i < σ.length := by have := get_lt e; rw [List.length_set] at this; rw [R.len]; exact this
      exact ⟨p, vs, List.getElem?_set_self hi, List.mem_cons_self, hpa, h0, upd_same, r.keep (.of (same_new hp)) hs⟩
    · exact R1.own j es (by rw [List.getElem?_set_ne n]; exact q)
  · -- an owned slot of before does not hold p
    have old : ∀ (j : Nat) es a, ρ[j]? = some (.own es) → i ≠ j → (σ.set i (some (.ref p)))[j]? = some (some (.ref a)) → a ≠ p := fun j es a q n s z => by
      rw [List.getElem?_set_ne n] at s
      obtain ⟨a', _, s', m, _⟩ := R.own j es q
      rw [s'] at s
      cases s
      exact hO (by rw [← z]; exact m)
    have self : ∀ a, i < σ.length → (σ.set i (some (.ref p)))[i]? = some (some (.ref a)) → a = p := fun a hi s => by
      rw [List.getElem?_set_self hi] at s; cases s; rfl
    rcases set_get e1 with ⟨rfl, q1⟩ | ⟨n1, q1⟩
    · rcases set_get e2 with ⟨rfl, q2⟩ | ⟨n2, q2⟩
      · rfl
      · have hi : i < σ.length := by have := get_lt e1; rw [List.length_set] at this; rw [R.len]; exact this
        exact (old k es2 a q2 n2 e4 (self a hi e3)).elim
    · rcases set_get e2 with ⟨rfl, q2⟩ | ⟨n2, q2⟩
      · have hi : i < σ.length := by have := get_lt e2; rw [List.length_set] at this; rw [R.len]; exact this
        exact (old j es a q1 n1 e3 (self a hi e4)).elim
      · rw [List.getElem?_set_ne n1] at e3
        rw [List.getElem?_set_ne n2] at e4
        exact R.apart j k es es2 a q1 q2 e3 e4
theorem ss_own (i : Nat) {x : Str} {es : List Expr} {lpos : Pos} (hN : X.N.Nodup) (ha : PA X es (tL B X.K fa)) (hi : X.N[i]? = some x := by rfl) (hx : Loc X.env.scope x := by first | exact Or.inl rfl | exact Or.inr rfl) (hs : swapsWith (.List es lpos) (some (.Name x pos')) pos.line X.env = pure false := by rfl)
    (hf : X.fn x = true ∨ X.env.scope.names.lookup x = some .local := by first | exact .inl rfl | exact .inr rfl) : PS X (.Assign [.Name x pos'] (.List es lpos) pos) (tS B X.K (sOwn i fa)) :=
  PSimp (ps_set hN hi hx (pe_lst ha) hs hf) fun Dn σ H ⟨ρ, O, b, R, w⟩ => ⟨ρ, O, b, R, (T.All.bind w).mono fun ds b1 w1 vs H1 k1 R1 rv => by
    by_cases hl : ds.length ≤ lim
    · rw [if_pos hl] at w1
      refine ⟨by rw [rv.length]; exact lim_le hl, fun p hp => w1 _ _ (p :: O) ?_ (R1.putOwn hp i rv)⟩
      exact (Ext.of R k1).trans ⟨.of (same_new hp), fun a ha => (List.mem_cons.mp ha).elim (fun z => .inr (by rw [z]; exact hp)) .inl⟩
    · rw [if_neg hl] at w1; exact w1.elim⟩
theorem Rep.setOwn {K : PySem.W.Frag} {ρ : List Sl} {O : List Addr} {b : Nat} {H : Hp} {σ : L2.St} {p : Addr} {ws : List V} {ds es : List D} {i : Nat} (R : Rep B K ρ O b H σ) (ho : ρ[i]? = some (.own ds)) (hs : σ[i]? = some (some (.ref p))) (hp : p ∈ O) (hpa : B.g.pa ≠ some p) (h0 : B.H0 p = none)
    (r : RVs B.g K O H ws es) : Rep B K (ρ.set i (.own es)) O b (upd H p (.lst ws)) σ := by
  have k : KpO O H (upd H p (.lst ws)) := fun a u e n => by
    rw [upd_ne (show a ≠ p from fun z => n (by rw [z]; exact hp))]; exact e
  have hset : σ.set i (some (.ref p)) = σ := by
    apply List.ext_getElem?
    intro j
    by_cases q : i = j
    · subst q; rw [List.getElem?_set_self (get_lt hs), hs]
    · rw [List.getElem?_set_ne q]
  refine ⟨by rw [List.length_set]; exact R.len, fun j d e => ?_, fun j es2 e => ?_, fun j k2 es2 es3 a e1 e2 e3 e4 => ?_, fun a ha => ?_, fun a e => ?_, fun a u e n => ?_, R.sub, R.pen0, R.base⟩
  · rcases set_get e with ⟨rfl, q⟩ | ⟨n, q⟩
    · cases q
    · obtain ⟨v, g1, g2⟩ := R.slot j d q
      exact ⟨v, g1, g2.keep k hs_refl⟩
  · rcases set_get e with ⟨rfl, q⟩ | ⟨n, q⟩
    · cases q; exact ⟨p, ws, hs, hp, hpa, h0, upd_same, r.keep k hs_refl⟩
    · obtain ⟨a, vs, g1, g2, g3, g4, g5, g6⟩ := R.own j es2 q
      have na : a ≠ p := fun z => n (R.apart i j ds es2 p ho q hs (by rw [← z]; exact g1))
      exact ⟨a, vs, g1, g2, g3, g4, by rw [upd_ne na]; exact g5, g6.keep k hs_refl⟩
  · have own' : ∀ (j : Nat) es2, (ρ.set i (.own es))[j]? = some (.own es2) → ∃ es4, ρ[j]? = some (.own es4) := fun j es2 e => by
      rcases set_get e with ⟨rfl, q⟩ | ⟨n, q⟩
      · exact ⟨ds, ho⟩
      · exact ⟨es2, q⟩
    obtain ⟨x1, q1⟩ := own' j es2 e1
    obtain ⟨x2, q2⟩ := own' k2 es3 e2
    exact R.apart j k2 x1 x2 a q1 q2 e3 e4
  · by_cases q : a = p
    · subst q; rw [upd_same]; exact fun z => nomatch z
    · rw [upd_ne q]; exact R.there a ha
  · obtain ⟨m, cc, t, rr, cells, g1, g2, g3, g4⟩ := R.pen a e
    exact ⟨m, cc, t, rr, cells, by rw [upd_ne (pa_ne hpa e)]; exact g1, by rw [upd_ne (show cc ≠ p from fun z => g3 (by rw [z]; exact hp))]; exact g2, g3, g4⟩
  · have q := R.kept a u e n
    by_cases z : a = p
    · subst z; rw [h0] at e; cases e
    · rw [upd_ne z]; exact q
theorem ownAt_some {ρ : List Sl} {i : Nat} {ds : List D} (h : ownAt ρ i = some ds) : ρ[i]? = some (.own ds) := by
  unfold ownAt at h
  split at h
  · rename_i es e; cases h; exact e
  · cases h
theorem ss_app (i : Nat) {x : Str} {p1 apos cpos : Pos} (ha : PE X e (tM B X.K fe)) (hN : X.N[i]? = some x := by rfl) (hv : Vis X.env.scope x := by first | exact Or.inl rfl | exact Or.inr (Or.inl rfl) | exact Or.inr (Or.inr rfl)) (hd : (x == ("__debug__" : Str)) = false := by decide) (hcd : (x == ("__classdict__" : Str)) = false := by decide)
    (hs0 : starEach [e] X.env = (false, eval e X.env) :: starEach [] X.env := by rfl)
    (hbase : attributeBase (.Name x p1) "append" X.env (eval (.Name x p1) X.env) = eval (.Name x p1) X.env := by rfl)
    (hfew : ((backTo cpos (starEach [e] X.env)).all (fun x => !x.1) && (backToKw cpos (keywordEach [] X.env)).all (fun x => x.1.isSome) && decide (([e] : List Expr).length + ([] : List Keyword).length + (if ([] : List Keyword).isEmpty then 0 else 1) < 30)) = true := by rfl)
    (hline : (apos.endLine == cpos.line) = true := by rfl) (hplain : (backTo cpos (starEach [] X.env)).any (·.1) = false := by rfl)
    (hs : swapsWith (.Call (.Attribute (.Name x p1) "append" apos) [e] [] cpos) none pos.line X.env = pure false := by rfl) :
    PS X (.Expr (.Call (.Attribute (.Name x p1) "append" apos) [e] [] cpos) pos) (tS B X.K (sApp i fe)) :=
  PSimp (ps_expr (pe_bm PySem.F.plainAttrs_list PySem.F.slot_list_append PySem.F.type_list_append mt_append (pe_var hN hv hd hcd) (pa_cons ha pa_nil hs0) hbase hfew hline hs0 hplain) hs) fun Dn σ H ⟨ρ, O, b, R, w⟩ => by
    obtain ⟨ds, q, w⟩ := T.All.ofO (T.All.bind w)
    have ho := ownAt_some q
    obtain ⟨p, vs, g1, g2, g3, g4, g5, g6⟩ := R.own i ds ho
    refine ⟨.ref p, g1, .inl ⟨rfl, vs, .inl (.inl g5)⟩, ρ, O, b, R, (T.All.bind w).mono fun d b1 w1 v H1 k1 R1 rv => ?_⟩
    by_cases hl : ds.length ≤ lim
    · rw [if_pos hl] at w1
      have g5' := k1 _ _ g5 g3
      have g6' : RVs B.g X.K O H1 vs ds := g6.keep (R1.kpO' k1) hs_refl
      refine ⟨p, vs, v, rfl, rfl, g5', ?_, w1 σ _ O ?_ (R1.setOwn ho g1 g2 g3 g4 (g6'.append (.cons rv .nil)))⟩
      · rw [g6.length]; exact Nat.lt_of_le_of_lt hl (by decide)
      · exact (Ext.of R k1).trans ⟨fun a u e n => by rw [upd_ne (show a ≠ p from fun z => n (by rw [z]; exact g2))]; exact e, fun a h => .inl h⟩
    · rw [if_neg hl] at w1; exact w1.elim
/-- an owned list stays as it is from now on -/
theorem sss_frz (i : Nat) {sts : List Stmt} (hh : PSs X sts (tS B X.K f)) : PSs X sts (tS B X.K (sFrz i f)) :=
  PSsimp hh fun Dn σ H ⟨ρ, O, b, R, w⟩ => by
    unfold sFrz at w
    split at w
    · rename_i ds ho
      obtain ⟨p, vs, g1, g2, g3, g4, g5, g6⟩ := R.own i ds ho
      have sub : ∀ a ∈ O.filter (fun a => decide (a ≠ p)), a ∈ O := fun a ha => (List.mem_filter.mp ha).1
      have hs : ∀ a ∈ O.filter (fun a => decide (a ≠ p)), a ∈ O ∨ H a = none := fun a ha => .inl (sub a ha)
      have np : p ∉ O.filter (fun a => decide (a ≠ p)) := fun z => of_decide_eq_true (List.mem_filter.mp z).2 rfl
      have mk : ∀ a, a ∈ O → a ≠ p → a ∈ O.filter (fun a => decide (a ≠ p)) := fun a h n => List.mem_filter.mpr ⟨h, decide_eq_true n⟩
      have kk : KpO O H H := fun _ _ e _ => e
      have p0 : p ∉ B.O0 ∨ True := .inr True.intro
      refine ⟨ρ.set i (.val (.lst ds)), O.filter (fun a => decide (a ≠ p)), b, ⟨?_, fun j d e => ?_, fun j es e => ?_, fun j k2 es es2 a e1 e2 e3 e4 => ?_, fun a ha => R.there a (sub a ha), fun a e => ?_, R.kept, fun a ha => ?_, R.pen0, R.base⟩, T.All.mono w fun r b1 q => q.ext ⟨kk, hs⟩⟩
      · rw [List.length_set]; exact R.len
      · rcases set_get e with ⟨rfl, q⟩ | ⟨n, q⟩
        · cases q; exact ⟨.ref p, g1, .lst ⟨g5, np⟩ (g6.keep kk hs)⟩
        · obtain ⟨v, h1, h2⟩ := R.slot j d q
          exact ⟨v, h1, h2.keep kk hs⟩
      · rcases set_get e with ⟨rfl, q⟩ | ⟨n, q⟩
        · cases q
        · obtain ⟨a, vs', h1, h2, h3, h4, h5, h6⟩ := R.own j es q
          exact ⟨a, vs', h1, mk a h2 (fun z => n (R.apart i j ds es p ho q g1 (by rw [← z]; exact h1))), h3, h4, h5, h6.keep kk hs⟩
      · rcases set_get e1 with ⟨rfl, q⟩ | ⟨n, q1⟩
        · cases q
        · rcases set_get e2 with ⟨rfl, q⟩ | ⟨n, q2⟩
          · cases q
          · exact R.apart j k2 es es2 a q1 q2 e3 e4
      · obtain ⟨m, cc, t, rr, cells, h1, h2, h3, h4⟩ := R.pen a e
        exact ⟨mk a m (pa_ne g3 e), cc, t, rr, cells, h1, h2, fun z => h3 (sub cc z), h4⟩
      · refine mk a (R.sub a ha) fun z => ?_
        subst z
        -- what the callers own was there
        exact R.base a ha g4
    · exact w.elim
end
end Z

set_option Elab.async false
set_option linter.all false
set_option maxRecDepth 100000
set_option maxHeartbeats 1000000
/-! Z8: loops, bodies of defs. -/
namespace Z
open PySem PySem.Spec PyProof.Rows L2
section
variable {X : Cx} {B : Bd} {tgE iter c : Expr} {body rest : List Stmt} {pos : Pos} {src : FA} {f : FS} {tg : Tg} {k : FT'}
theorem for_imp {K : PySem.W.Frag} {tb : TS} (hb : ∀ Dn σ H, tS B K f Dn σ H → tb Dn σ H) (Dn : Ends) (σ : L2.St) (H : Hp) (h : tS B K (sFor tg src f) Dn σ H) : tFor (tI B K src) (gOf K tg) tb Dn σ H := by
  obtain ⟨ρ, O, b, R, w⟩ := h
  refine ⟨ρ, O, b, R, (T.All.bind w).mono fun xs n1 w1 J H1 k1 R1 yl => ?_⟩
  refine ⟨fun i m τ H' => ∃ ρ' O' b', m = xs.length - i ∧ i ≤ xs.length ∧ Ext O H1 O' H' ∧ Rep B K ρ' O' b' H' τ ∧ (loop tg f (xs.drop i) ρ').All b' (Post B K Dn O H1) B.Y,
    ⟨xs.length, ρ, O, n1, by simp, Nat.zero_le _, .refl, R1, by rw [List.drop_zero]; exact T.All.mono w1 fun r b q => q.ext (.of R k1)⟩, ?_⟩
  rintro i m τ H' ⟨ρ', O', b', rfl, hi, ex, R2, hall⟩
  by_cases hlt : i < xs.length
  · refine .inr ⟨yl.go i _ _ ex hlt, fun τ' H2 => ∃ ρ' O' b', i + 1 ≤ xs.length ∧ Ext O H1 O' H2 ∧ Rep B K ρ' O' b' H2 τ' ∧ (loop tg f (xs.drop (i + 1)) ρ').All b' (Post B K Dn O H1) B.Y,
      fun τ' H2 ⟨ρ2, O2, b2, q1, q2⟩ => ⟨xs.length - (i + 1), by omega, ρ2, O2, b2, rfl, q1, q2⟩, fun x H2 hy => ?_⟩
    obtain ⟨s2, rx⟩ := yl.yld i O' H' x H2 _ ex R2.there (List.getElem?_eq_getElem hlt) hy
    rw [List.drop_eq_getElem_cons hlt] at hall
    obtain ⟨ρ2, ep, hall⟩ := T.All.ofO (T.All.bind hall)
    refine put_ok (R2.same s2) rx ep fun vs R3 => hb _ _ _ ⟨ρ2, O', b', R3, (T.All.bind hall).mono fun r b3 w3 => ?_⟩
    have e2 : Ext O H1 O' H2 := ex.trans (.same s2)
    cases r with
    | nx ρ3 => exact fun σ3 H3 O3 e3 R4 => ⟨ρ3, O3, b3, hlt, e2.trans e3, R4, w3⟩
    | ct ρ3 => exact fun σ3 H3 O3 e3 R4 => ⟨ρ3, O3, b3, hlt, e2.trans e3, R4, w3⟩
    | bk ρ3 => exact fun σ3 H3 O3 e3 R4 => w3 σ3 H3 O3 (e2.trans e3) R4
    | rt d => exact w3
  · have e : i = xs.length := by omega
    subst e
    rw [List.drop_length] at hall
    exact .inl ⟨yl.stop _ _ _ ex (Nat.le_refl _), hall τ H' O' ex R2⟩
theorem ss_for (hp : PassesOwn (model X.prog X.w) X.A X.env X.xe) (hc : X.calm = true) (hi : PI X tgE iter (tI B X.K src)) (hg : PG X tgE (gOf X.K tg)) (hb : PSs X body (tS B X.K f))
    (hs : ∀ x, foldedSetIterable iter X.env x = pure x := by intro _; rfl) : PS X (.For tgE iter body [] pos) (tS B X.K (sFor tg src f)) :=
  PSimp (ps_for hp hc hi hg hb hs) (for_imp fun _ _ _ h => h)
/-- a while, n turns at most -/
theorem ss_while (n : List Sl → Nat) (hp : PassesOwn (model X.prog X.w) X.A X.env X.xe) (hc : PT X c (tK B X.K k)) (hb : PSs X body (tS B X.K f)) : PS X (.While c body [] pos) (tS B X.K fun ρ => whl k f (n ρ) ρ) :=
  PSimp (ps_while hp hc hb) fun Dn σ H ⟨ρ, O, b, R, w⟩ => by
    refine ⟨fun m τ H' => ∃ ρ' O' b', Ext O H O' H' ∧ Rep B X.K ρ' O' b' H' τ ∧ (whl k f m ρ').All b' (Post B X.K Dn O H) B.Y, ⟨n ρ, ρ, O, b, .refl, R, w⟩, ?_⟩
    rintro m τ H' ⟨ρ', O', b', ex, R2, hall⟩
    cases m with
    | zero => exact hall.elim
    | succ m =>
      refine ⟨ρ', O', b', R2, (T.All.bind hall).mono fun kk b1 w1 H1 k1 R3 => ?_⟩
      have e1 : Ext O H O' H1 := ex.trans (.of R2 k1)
      cases kk with
      | false => exact iteF (w1 τ H1 O' e1 R3)
      | true =>
        refine iteT ⟨fun τ' H2 => ∃ ρ' O' b', Ext O H O' H2 ∧ Rep B X.K ρ' O' b' H2 τ' ∧ (whl k f m ρ').All b' (Post B X.K Dn O H) B.Y, fun τ' H2 q => ⟨m, Nat.lt_succ_self m, q⟩, ρ', O', b1, R3, (T.All.bind w1).mono fun r b3 w3 => ?_⟩
        cases r with
        | nx ρ3 => exact fun σ3 H3 O3 e3 R4 => ⟨ρ3, O3, b3, e1.trans e3, R4, w3⟩
        | ct ρ3 => exact fun σ3 H3 O3 e3 R4 => ⟨ρ3, O3, b3, e1.trans e3, R4, w3⟩
        | bk ρ3 => exact fun σ3 H3 O3 e3 R4 => w3 σ3 H3 O3 (e1.trans e3) R4
        | rt d => exact w3
/-! targets -/
theorem sg_one (i : Nat) {x : Str} (hN : X.N.Nodup) (hi : X.N[i]? = some x := by rfl) (hx : Loc X.env.scope x := by first | exact Or.inl rfl | exact Or.inr rfl) (hf : X.fn x = true ∨ X.env.scope.names.lookup x = some .local := by first | exact .inl rfl | exact .inr rfl) : PG X (.Name x pos) (gOf X.K (.one i)) := pg_name hN hi hx hf
theorem sg_two (i j : Nat) {x y : Str} {p1 p2 : Pos} {kk : Nat} (hc : X.calm = true) (hN : X.N.Nodup) (hi : X.N[i]? = some x := by rfl) (hj : X.N[j]? = some y := by rfl) (hx : Loc X.env.scope x := by first | exact Or.inl rfl | exact Or.inr rfl) (hy : Loc X.env.scope y := by first | exact Or.inl rfl | exact Or.inr rfl)
    (hf : X.fn x = true ∨ X.env.scope.names.lookup x = some .local := by first | exact .inl rfl | exact .inr rfl) (hf2 : X.fn y = true ∨ X.env.scope.names.lookup y = some .local := by first | exact .inl rfl | exact .inr rfl) : PG X (.Tuple [.Name x p1, .Name y p2] kk pos) (gOf X.K (.two i j)) :=
  pg_tup hc (pgs_cons (pg_name hN hi hx hf) (pgs_cons (pg_name hN hj hy hf2) pgs_nil))
end

/-! ### bodies -/
/-- the slots at the entry -/
def ini (n : Nat) (ds : List D) : List Sl := ds.map .val ++ List.replicate (n - ds.length) .un
def fin (r : Fl) : T D := match r with
  | .nx _ => .ret .non
  | .rt d => .ret d
  | _ => .bad
/-- the function of a body: N slots, n parameters -/
def fnD (N n : Nat) (f : FS) : List D → T D := fun ds => if ds.length = n then (f (ini N ds)).bind fin else .bad
theorem ar_fnD {N n : Nat} {f : FS} : Ar n (fnD N n f) := fun ds h => by unfold fnD; rw [if_neg h]
theorem ini_rep {g : Gh} {K : PySem.W.Frag} {O : List Addr} {H : Hp} {Y : XP} {b : Nat} {N : List Str} {vs : List V} {ds : List D} (r : RVs g K O H vs ds) (th : ∀ a ∈ O, H a ≠ none) (pen : PenOk g.pa O H b) (hl : vs.length ≤ N.length) :
    Rep ⟨g, H, O, Y⟩ K (ini N.length ds) O b H (start N vs) := by
  have e0 : ∀ (i : Nat) s, (ini N.length ds)[i]? = some s → s ≠ .un → ∃ d, ds[i]? = some d ∧ s = .val d := fun i s e n => by
    unfold ini at e
    by_cases hi : i < ds.length
    · rw [List.getElem?_append_left (by rw [List.length_map]; exact hi), List.getElem?_map] at e
      cases q : ds[i]? with
      | none => rw [q] at e; cases e
      | some d => rw [q] at e; exact ⟨d, rfl, (Option.some.inj e).symm⟩
    · rw [List.getElem?_append_right (by rw [List.length_map]; omega), List.getElem?_replicate] at e
      split at e
      · exact (n (Option.some.inj e).symm).elim
      · cases e
  refine ⟨?_, fun i d e => ?_, fun i es e => ?_, fun i j es es2 a e1 => ?_, th, pen, .refl, fun _ h => h, fun a e => (pen a e).1, th⟩
  · unfold L2.start ini
    rw [List.length_append, List.length_append, List.length_map, List.length_map, List.length_replicate, List.length_replicate, r.length]
  · obtain ⟨d', h1, h2⟩ := e0 i _ e (fun z => nomatch z)
    cases h2
    obtain ⟨v, h3, h4⟩ := r.get h1
    refine ⟨v, ?_, h4⟩
    unfold L2.start
    rw [List.getElem?_append_left (by rw [List.length_map]; exact get_lt h3), List.getElem?_map, h3]
    rfl
  · obtain ⟨d', h1, h2⟩ := e0 i _ e (fun z => nomatch z)
    cases h2
  · obtain ⟨d', h1, h2⟩ := e0 i _ e1 (fun z => nomatch z)
    cases h2
section
variable {P : Program} {w : World} {K : PySem.W.Frag} {mg : Str → Option Value} {base : Heap}
/-- a def by its body's walk -/
theorem fnG_raw {x qual : Str} {st : Stmt} {f : Addr} {fd : FuncData} {N ps : List Str} {k : Nat} {sp : Sp} (F : Fun K x qual st f fd) (S : FnScope N ps (defScope st)) (len : ∀ vs H Q E, sp vs H Q E → vs.length = ps.length)
    (hbody : ∀ (cdv : Value) (A : Around) (outer : List Env) (s : Shared) (H : Hp) (vs : List V) (Q : VK) (E : XK), Rm k (A.deeper (envOfC qual (defScope st) s.heap.objs.size f cdv)) → sp vs H Q E →
      ∃ t, PSs (cxOf (L2.CX P w) P w K mg base N qual (defScope st) f cdv A outer s H E) (defBody st) t ∧ t { nx := fun _ H' => Q .non H', rt := Q } (start N vs) H) : FnG P w K mg base (k + 1) f fd ps sp := by
  obtain ⟨oc, od, kV, doc, pm, an, cdv, ct, osl, rfl, lk, hcd⟩ := F.ex
  refine ⟨len, fun A outer s H args us vs Q E hr e0 hb r hsp => ?_⟩
  have KX : K.In s.heap := e0.mod.kin.keeps fun b o e => (e0.bs b o e).1
  have lim0 : s.heap.NoLimit := e0.mod.nolimit.keeps fun b o e => (e0.bs b o e).1
  have hkind : ∀ y ∈ ps.zip us, (defScope st).names.lookup y.1 = some .local ∨ ((defScope st).names.lookup y.1 = some .cell ∧ ((cellsFrom (s.heap.objs.size + 1) (defScope st).names []).lookup y.1).isSome = true) := by
    rintro ⟨n, v⟩ hy
    exact (S.par n (List.of_mem_zip hy).1).imp id fun q => ⟨q, PySem.W.cellsFrom_some _ _ _ (.inl q)⟩
  refine codeAny_call_function hr.room.depth (KX _ _ lk) rfl S.co S.gen rfl (PySem.W.codeRec_of KX hcd) (hb _ _ _ _ (wpAny_newFunctionEnv_cells S.kind hkind fun env he s1 xx => ?_))
  subst he
  refine ⟨lim0.keeps xx.toInCall.keep, codeAny_func ?_⟩
  obtain ⟨t, ht, hq⟩ := hbody cdv A outer s H vs Q E ⟨hr.room.deeper _, hr.gd⟩ hsp
  have I : Inv (cxOf (L2.CX P w) P w K mg base N qual (defScope st) f cdv A outer s H E) [] (start N vs) H s1 := inv_start S hr.room.hd e0 (len _ _ _ _ hsp) r xx
  refine wpAny_mono (ht.run [] s1 (start N vs) H _ I hq) (fun fl s' hs => ?_) fun e s' hs => hs
  match fl, hs with
  | .ret u, ⟨v, σ', H', J, rv, q⟩ => exact ⟨v, H', J.os, J.bare, J.base, J.hok, rv, q⟩
  | .next, ⟨σ', H', J, q⟩ => exact ⟨.non, H', J.os, J.bare, J.base, J.hok, rfl, q⟩
  | .brk, ⟨_, _, _, q⟩ => exact q.elim
  | .cont, ⟨_, _, _, q⟩ => exact q.elim
/-- a def that is the function of its body; errors are let out as they come -/
theorem fnG_of {x qual : Str} {st : Stmt} {f : Addr} {fd : FuncData} {N ps : List Str} {k : Nat} {fs : FS} (F : Fun K x qual st f fd) (S : FnScope N ps (defScope st))
    (hbody : ∀ (cdv : Value) (A : Around) (outer : List Env) (s : Shared) (H : Hp) (E : XK) (B : Bd), Rm k (A.deeper (envOfC qual (defScope st) s.heap.objs.size f cdv)) → Lets (cxOf (L2.CX P w) P w K mg base N qual (defScope st) f cdv A outer s H E) B →
      PSs (cxOf (L2.CX P w) P w K mg base N qual (defScope st) f cdv A outer s H E) (defBody st) (tS B K fs)) : FnG P w K mg base (k + 1) f fd ps (spD K ps.length (fnD N.length ps.length fs)) := by
  refine fnG_raw F S (fun vs H Q E h => h.1) fun cdv A outer s H vs Q E hr h => ?_
  obtain ⟨hl, g, O, b, ds, th, pen, rv, hall⟩ := h
  have hpl : vs.length ≤ N.length := by
    have := congrArg List.length S.pre
    rw [List.length_take] at this; omega
  have hdl : ds.length = ps.length := rv.length.symm.trans hl
  have tk : Takes (cxOf (L2.CX P w) P w K mg base N qual (defScope st) f cdv A outer s H E) (fun cls d _ H => E cls d H) := takes_of rfl rfl rfl rfl
  refine ⟨_, hbody cdv A outer s H E ⟨g, H, O, fun C fs es b' => ∀ d H', Kp g.pa H H' → PenOk g.pa O H' b' → (∀ a ∈ O, H' a ≠ none) → ExAt g K H O d fs es H' → E (.ref (g.cl C)) (some d) H'⟩ hr ⟨E, passes_call tk fun _ _ _ _ h => h, fun C fs es b' d H' y k1 p1 t1 x1 => y d H' k1 p1 t1 x1⟩, ini N.length ds, O, b, ini_rep rv th pen hpl, ?_⟩
  unfold fnD at hall
  rw [if_pos hdl] at hall
  refine (T.All.bind hall).mono fun r b1 q => ?_
  cases r with
  | nx ρ => exact fun σ' H' O' e R => q .non H' R.kept (R.pen.sub R.sub R.pen0) (fun a ha => R.there a (R.sub a ha)) .non
  | rt d => exact fun v H' k1 p1 t1 rv => q v H' k1 p1 t1 rv
  | bk ρ => exact q.elim
  | ct ρ => exact q.elim
theorem fn_mk {x qual : Str} {st : Stmt} {f : Addr} {fd : FuncData} {N ps : List Str} {k n : Nat} {fs : FS} (F : Fun K x qual st f fd) (hn : ps.length = n) (hm : mg x = some (.ref f)) (hb : Binds K fd ps []) (G : FnG P w K mg base k f fd ps (spD K ps.length (fnD N.length ps.length fs))) : Fn P w K mg base k x n (fnD N.length n fs) := by
  subst hn
  exact ⟨f, fd, ps, hm, F.kp, hb, rfl, G⟩
end
end Z

set_option Elab.async false
set_option linter.all false
set_option maxRecDepth 100000
set_option maxHeartbeats 1000000
/-! ZP: what the drawing of a law's pen is: any choice. -/
namespace Z
open PySem PySem.Spec PyProof.Rows L2
def draw2 : D → D → T D
  | .pen, .int n => if 0 < n ∧ n < 1000000 then .ask n.toNat fun c => .ret (.int (c : Int)) else .bad
  | _, _ => .bad
def drawD : List D → T D
  | [p, n] => draw2 p n
  | _ => .bad
theorem ar_drawD : Ar 2 drawD := fun ds h => by
  match ds, h with
  | [], _ => rfl
  | [_], _ => rfl
  | [_, _], h => exact (h rfl).elim
  | _ :: _ :: _ :: _, _ => rfl
/-- what a draw may assume and has to show -/
theorem draw_open {K : PySem.W.Frag} {vs : List V} {H : Hp} {Q : VK} {E : XK} (h : spD K 2 drawD vs H Q E) : ∃ (a c : Addr) (t r n : Int) (cells : List Int), vs = [.ref a, .int n] ∧ 0 < n ∧ n < 1000000 ∧
    H a = some (.lst [.ref c, .int t, .int r]) ∧ H c = some (.lst (cells.map V.int)) ∧ c ≠ a ∧ 0 ≤ t ∧ t < 4194304 ∧ 0 ≤ r ∧
    ∀ (H' : Hp) (t' r' z : Int), (∀ x o, H x = some o → x ≠ a → H' x = some o) → H' a = some (.lst [.ref c, .int t', .int r']) → 0 ≤ t' → t' ≤ t + 1 → 0 ≤ r' → 0 ≤ z → z < n → Q (.int z) H' := by
  obtain ⟨hl, g, O, b, ds, th, pen, rv, hall⟩ := h
  have hdl : ds.length = 2 := rv.length.symm.trans hl
  match ds, hdl, rv, hall with
  | [p, n], _, rv, hall =>
    obtain ⟨v1, v2, rfl, r1, r2⟩ := rvs_two rv
    replace hall : T.All (draw2 p n) b _ _ := hall
    cases r1 with
    | @pen a ha =>
      cases r2 with
      | int n =>
        replace hall : T.All (if 0 < n ∧ n < 1000000 then T.ask n.toNat fun c => T.ret (D.int (c : Int)) else .bad) b _ _ := hall
        by_cases hc : 0 < n ∧ n < 1000000
        · rw [if_pos hc] at hall
          obtain ⟨b', eb, hk⟩ := hall
          obtain ⟨m, c, t, r, cells, h1, h2, h3, h4, h5, h6⟩ := pen a ha
          have hca : c ≠ a := fun z => h3 (by rw [z]; exact m)
          refine ⟨a, c, t, r, n, cells, rfl, hc.1, hc.2, h1, h2, hca, h4, by omega, h6, fun H' t' r' z k hp ht ht2 hr hz hzn => ?_⟩
          have q := hk z.toNat (by omega)
          have ez : ((z.toNat : Nat) : Int) = z := Int.toNat_of_nonneg hz
          replace q := (show (T.ret (D.int ((z.toNat : Nat) : Int))).All b' _ _ from q)
          rw [ez] at q
          refine q (.int z) H' (fun x o e ne => k x o e fun w => ne (by rw [w]; exact ha)) (fun a' e' => ?_) (fun x hx e' => ?_) (.int z)
          · have : a' = a := Option.some.inj (e'.symm.trans ha)
            subst this
            exact ⟨m, c, t', r', cells, hp, k c _ h2 hca, h3, ht, by omega, hr⟩
          · by_cases w : x = a
            · subst w; rw [hp] at e'; cases e'
            · cases e2 : H x with
              | none => exact th x hx e2
              | some o => rw [k x o e2 w] at e'; cases e'
        · rw [if_neg hc] at hall; exact hall.elim
      | _ => exact hall.elim
    | _ => exact hall.elim
theorem cells_shaped (cells : List Int) : SeqAt.shaped (.list (cells.map PyData.int)) = true := by
  have h1 : ∀ l : List Int, PyData.canLayAll0 (l.map PyData.int) = true := fun l => by
    induction l with
    | nil => rfl
    | cons x l ih => show (PyData.canLay0 (.int x) && PyData.canLayAll0 (l.map PyData.int)) = true; rw [ih]; rfl
  have h2 : ∀ l : List Int, PyData.depthAll (l.map PyData.int) = 0 := fun l => by
    induction l with
    | nil => rfl
    | cons x l ih => show max (PyData.depth (.int x)) (PyData.depthAll (l.map PyData.int)) = 0; rw [ih]; rfl
  unfold SeqAt.shaped
  rw [show PyData.canLay0 (.list (cells.map PyData.int)) = PyData.canLayAll0 (cells.map PyData.int) by simp only [PyData.canLay0], h1,
    show PyData.depth (.list (cells.map PyData.int)) = PyData.depthAll (cells.map PyData.int) + 1 by simp only [PyData.depth], h2]
  rfl
theorem cells_dp {K : PySem.W.Frag} {H : Hp} (cells : List Int) : DpAll K H (cells.map V.int) (cells.map PyData.int) := by
  induction cells with
  | nil => exact .nil
  | cons x l ih => exact .cons (.int x) ih
theorem cells_eqv (cells : List Int) : PyData.eqv (.list (cells.map PyData.int)) (.list []) = cells.isEmpty := by
  cases cells with
  | nil => simp only [PyData.eqv, PyData.eqvAll, List.map_nil, List.isEmpty_nil]
  | cons x l => simp only [PyData.eqv, PyData.eqvAll, List.map_cons, List.isEmpty_cons]
theorem fmod_lt {a n : Int} (hn : 0 < n) : 0 ≤ a.fmod n ∧ a.fmod n < n := by
  rw [Int.fmod_eq_emod_of_nonneg _ (by omega)]
  exact ⟨Int.emod_nonneg _ (by omega), Int.emod_lt_of_pos _ hn⟩
theorem fdiv_nn {a n : Int} (ha : 0 ≤ a) (hn : 0 < n) : 0 ≤ a.fdiv n := by
  rw [Int.fdiv_eq_ediv_of_nonneg _ (by omega)]
  exact Int.ediv_nonneg ha (by omega)
theorem draw_bound {m t k : Int} (h1 : 0 ≤ m) (h2 : m < 2147483648) (h3 : 0 ≤ t) (h4 : t < 4194304) (h5 : 0 ≤ k) (h6 : k < 131072) : (m * (2 * t + 4021) + k * t * t + 41017).natAbs < 2 ^ 64 := by
  have a1 : m * (2 * t + 4021) ≤ 2147483648 * (2 * 4194304 + 4021) := Int.mul_le_mul (by omega) (by omega) (by omega) (by omega)
  have a0 : 0 ≤ m * (2 * t + 4021) := Int.mul_nonneg h1 (by omega)
  have b1 : k * t ≤ 131072 * 4194304 := Int.mul_le_mul (by omega) (by omega) h3 (by omega)
  have b0 : 0 ≤ k * t := Int.mul_nonneg h5 h3
  have c1 : k * t * t ≤ (131072 * 4194304) * 4194304 := Int.mul_le_mul b1 (by omega) h3 (by omega)
  have c0 : 0 ≤ k * t * t := Int.mul_nonneg b0 h3
  generalize m * (2 * t + 4021) = x at *
  generalize k * t * t = y at *
  omega
theorem draw_bound1 {z t k k3 : Int} (h3 : 0 ≤ t) (h4 : t < 4194304) (h5 : 0 ≤ k) (h6 : k < 131072) (h7 : 0 ≤ k3) (h8 : k3 < 131072) : (z.fmod 2147483563 + k * t + k3).natAbs < 2 ^ 64 := by
  have hz := fmod_lt (a := z) (n := 2147483563) (by decide)
  have b1 : k * t ≤ 131072 * 4194304 := Int.mul_le_mul (by omega) (by omega) h3 (by omega)
  have b0 : 0 ≤ k * t := Int.mul_nonneg h5 h3
  generalize k * t = y at *
  generalize z.fmod 2147483563 = x at *
  omega
end Z

set_option Elab.async false
set_option linter.all false
set_option maxRecDepth 100000
set_option maxHeartbeats 1000000
/-! Z9: keywords, tables, displays of dicts, repr. -/
namespace Z
open PySem PySem.Spec PyProof.Rows L2

/-! ### keywords -/
def pick {α : Type} : List Nat → List α → List α
  | [], _ => []
  | i :: r, xs => match xs[i]? with
    | some x => x :: pick r xs
    | none => pick r xs
theorem pick_vals {vs : List V} {us : List Value} (r : Vals vs us) : ∀ p : List Nat, Vals (pick p vs) (pick p us)
  | [] => .nil
  | i :: p => by
    unfold pick
    cases e : vs[i]? with
    | none =>
      have hu : us[i]? = none := by
        rw [List.getElem?_eq_none_iff] at e ⊢
        rw [← r.length]; exact e
      rw [hu]; exact pick_vals r p
    | some v =>
      have hu : ∃ u, us[i]? = some u ∧ RelV v u := by
        clear pick_vals
        induction r generalizing i with
        | nil => simp at e
        | @cons a b as bs h t ih =>
          cases i with
          | zero => simp at e; subst e; exact ⟨b, rfl, h⟩
          | succ i => simp at e; obtain ⟨u, h1, h2⟩ := ih i e; exact ⟨u, by simpa using h1, h2⟩
      obtain ⟨u, h1, h2⟩ := hu
      rw [h1]; exact .cons h2 (pick_vals r p)
theorem RVs.pick {g : Gh} {K : PySem.W.Frag} {O : List Addr} {H : Hp} {vs : List V} {ds : List D} (r : RVs g K O H vs ds) : ∀ p : List Nat, RVs g K O H (Z.pick p vs) (Z.pick p ds)
  | [] => .nil
  | i :: p => by
    unfold Z.pick
    cases e : ds[i]? with
    | none =>
      have hu : vs[i]? = none := by
        rw [List.getElem?_eq_none_iff] at e ⊢
        rw [r.length]; exact e
      rw [hu]; exact RVs.pick r p
    | some d =>
      obtain ⟨v, h1, h2⟩ := r.get e
      rw [h1]; exact .cons h2 (RVs.pick r p)
def aPick (m : Nat) (p : List Nat) (fa : FA) : FA := fun ρ => (fa ρ).bind fun as => if as.length = m then .ret (pick p as) else .bad
/-- a def of the text, called with m values and keywords ks -/
structure FnK (P : Program) (w : World) (K : PySem.W.Frag) (mg : Str → Option Value) (base : Heap) (k : Nat) (x : Str) (n : Nat) (ks : List Str) (p : List Nat) (F : List D → T D) : Prop where
  h : ∃ (f : Addr) (fd : FuncData) (ps : List Str), mg x = some (.ref f) ∧ PySem.W.keepIn K (.ref f) = true ∧ (∀ (s : Shared) (ws : List Value), K.In s.heap → ws.length = ks.length → BindsTo s fd ⟨[], ks.zip ws⟩ (ps.zip (pick p ws))) ∧ ps.length = n ∧ FnG P w K mg base k f fd ps (spD K n F)
theorem PKimp {X : Cx} {kws : List Keyword} {t t' : TA} (h : PK X kws t) (k : ∀ σ H Q, t' σ H Q → t σ H Q) : PK X kws t' := ⟨fun pos pins s σ H Q I w => h.run pos pins s σ H Q I (k σ H Q w)⟩
section
variable {X : Cx} {B : Bd} {k j : Nat} {x : Str} {n : Nat} {F : List D → T D} {e : Expr} {kws : List Keyword} {f : FE} {fa : FA} {p : List Nat} {np pos kpos : Pos} {ks : List Str} {nm : Option Str}
theorem sn_nil : PK X [] (tL B X.K aNil) := PKimp pk_nil fun σ H Q ⟨ρ, O, n, R, h⟩ => h [] H .refl R .nil
theorem sn_cons (ha : PE X e (tM B X.K f)) (hr : PK X kws (tL B X.K fa)) : PK X (⟨nm, e, kpos⟩ :: kws) (tL B X.K (aCons f fa)) :=
  PKimp (pk_cons ha hr) fun σ H Q ⟨ρ, O, n, R, h⟩ => ⟨ρ, O, n, R, (T.All.bind h).mono fun d1 n1 h1 v1 H1 k1 R1 r1 => ⟨ρ, O, n1, R1, (T.All.bind h1).mono fun ds n2 h2 vs H2 k2 R2 r2 =>
    h2 _ _ (k1.trans k2) R2 (.cons (r1.keep (R2.kpO' k2) hs_refl) r2)⟩⟩
theorem se_callK0 (h : FnK X.prog X.w X.K X.mg X.base j x n ks p F) (hn : Ar n F) (hr : Rm k X.A) (hj : j ≤ k) (hx : Lets X B) (hkw : PK X kws (tL B X.K fa)) (hg : Gl X x := by rfl) (hdb : (x == ("__debug__" : Str)) = false := by decide)
    (hall : (backToKw pos (keywordEach kws X.env)).all (·.1.isSome) = true := by rfl) (hks : (backToKw pos (keywordEach kws X.env)).filterMap (·.1) = ks := by rfl)
    (hpl : ((backTo pos (starEach [] X.env)).any (·.1) || (backToKw pos (keywordEach kws X.env)).any (·.1.isNone)) = false := by rfl) : PE X (.Call (.Name x np) [] kws pos) (tM B X.K (eCallF F (aPick ks.length p fa))) := by
  obtain ⟨f, fd, ps, h1, h2, h3, h4, h5⟩ := h.h
  obtain ⟨E, hp, hE⟩ := hx
  refine ⟨fun pins s σ H Q I q => ?_⟩
  have q2 := call_imp (fa := aPick ks.length p fa) hE (fun vs ds H O r => by
    by_cases z : ds.length = n
    · exact .inl (r.length.trans z)
    · exact .inr fun b P Y hh => by rw [hn ds z] at hh; exact hh) σ H Q q
  have q3 : tL B X.K fa σ H fun vs H1 => vs.length = ks.length ∧ spD X.K n F (pick p vs) H1 Q E := by
    obtain ⟨ρ, O, b, R, h⟩ := q2
    refine ⟨ρ, O, b, R, (T.All.bind h).mono fun ds n1 g1 vs H1 k1 R1 r1 => ?_⟩
    by_cases z : ds.length = ks.length
    · rw [if_pos z] at g1
      exact ⟨r1.length.trans z, g1 _ H1 k1 R1 (r1.pick p)⟩
    · rw [if_neg z] at g1; exact g1.elim
  refine wpAny_Call_Name_kw (ld_glob I hg h1 ?_ hdb)
  refine PySem.W.callWith_KW0 (h₀ := X.base) I.ok.mod.kin h2 hall ?_ hpl
  refine thn (hkw.run pos pins s σ H _ I q3) fun ws s2 ⟨zs, H2, I2, rz, l2, q4⟩ => ⟨I2.kIn, ?_⟩
  rw [hks]
  refine wpAny_call (codeAny_mono ((h5.mono hj).run X.A X.stack s2 H2 ⟨[], ks.zip ws⟩ (pick p ws) (pick p zs) Q E hr I2.env0 (h3 s2 ws I2.kIn (rz.length.symm.trans l2)) (pick_vals rz p) q4) fun res s' got => ?_)
  match res, got with
  | .error e, got => exact hp pins σ H2 s2 e s' I2 got
  | .ok (.ret u), got => exact I2.after got
  | .ok .next, got => exact got.elim
  | .ok .brk, got => exact got.elim
  | .ok .cont, got => exact got.elim
end

/-! ### tables of the module -/
def tabAt : List (Str × D) → Str → Option D
  | [], _ => none
  | (k, d) :: r, z => if k = z then some d else tabAt r z
structure KTab (K : PySem.W.Frag) (w : World) (mg : Str → Option Value) (x : Str) (tab : List (Str × D)) : Prop where
  h : ∃ d es n, mg x = some (.ref d) ∧ KDict K w d es n ∧ PySem.W.keepIn K (.ref d) = PySem.W.keepIn K (.ref d) ∧
    ∀ z, ∃ r, PySem.W.nsIn K d z = some r ∧ (match tabAt tab z with | some dd => ∃ u v, r = some u ∧ RelV v u ∧ ∀ g O H, RV g K O H v dd | none => r = none)
def opTabGet (tab : List (Str × D)) : D → Option D
  | .str z => some ((tabAt tab z).getD .non)
  | _ => none
def opTabIn (tab : List (Str × D)) : D → Option D
  | .str z => some (.bl (tabAt tab z).isSome)
  | _ => none
def opTabNotIn (tab : List (Str × D)) : D → Option D
  | .str z => some (.bl !(tabAt tab z).isSome)
  | _ => none
def opTabIx (tab : List (Str × D)) : D → Option D
  | .str z => tabAt tab z
  | _ => none
section
variable {X : Cx} {B : Bd} {x : Str} {tab : List (Str × D)} {e : Expr} {f : FE} {np pos apos : Pos}
theorem op1_imp {K : PySem.W.Frag} {r : V → Hp → VK → Prop} {g : D → Option D} (hv : VOp1 K r g) (σ : L2.St) (H : Hp) (Q : VK) (h : tM B K (eOp1 g f) σ H Q) : tM B K f σ H fun v H1 => r v H1 Q := by
  obtain ⟨ρ, O, n, R, h⟩ := h
  refine ⟨ρ, O, n, R, (T.All.bind h).mono fun d1 n1 h1 v1 H1 k1 R1 r1 => ?_⟩
  obtain ⟨d, e, q⟩ := T.All.ofO h1
  exact hv B.g O H1 v1 d1 d Q R1.there r1 e fun v H' s rv => q v H' (k1.trans (.of s)) (R1.same s) rv
theorem se_tabIn (t : KTab X.K X.w X.mg x tab) (ha : PE X e (tM B X.K f)) (hg : Gl X x := by rfl) (hdb : (x == ("__debug__" : Str)) = false := by decide) (hm : behindInMarks .In (.Name x np) = false := by first | exact nomark _ | rfl) :
    PE X (.Compare e [.In] [.Name x np] pos) (tM B X.K (eOp1 (opTabIn tab) f)) := by
  obtain ⟨d, es, n, h1, h2, _, h3⟩ := t.h
  refine PEimp (pe_cmpR (op_in_kd h2) ha (pe_glob hg h1 (v := .ref d) rfl hdb) hm) (op1_imp fun g0 O H y a dd Q hO ra ea q => ?_)
  cases ra <;> try exact (nos ea).elim
  rename_i z
  cases ea
  obtain ⟨r, e1, e2⟩ := h3 z
  refine ⟨z, r, rfl, rfl, e1, ?_⟩
  have e3 : r.isSome = (tabAt tab z).isSome := by
    revert e2
    cases tabAt tab z with
    | none => intro e2; have e2 : r = none := e2; subst e2; rfl
    | some dd => intro ⟨u, v, e2, _⟩; subst e2; rfl
  rw [e3]
  exact q _ H (Same.refl H) (.bl _)
theorem se_tabNotIn (t : KTab X.K X.w X.mg x tab) (ha : PE X e (tM B X.K f)) (hg : Gl X x := by rfl) (hdb : (x == ("__debug__" : Str)) = false := by decide) (hm : behindInMarks .NotIn (.Name x np) = false := by first | exact nomark _ | rfl) :
    PE X (.Compare e [.NotIn] [.Name x np] pos) (tM B X.K (eOp1 (opTabNotIn tab) f)) := by
  obtain ⟨d, es, n, h1, h2, _, h3⟩ := t.h
  refine PEimp (pe_cmpR (op_notIn_kd h2) ha (pe_glob hg h1 (v := .ref d) rfl hdb) hm) (op1_imp fun g0 O H y a dd Q hO ra ea q => ?_)
  cases ra <;> try exact (nos ea).elim
  rename_i z
  cases ea
  obtain ⟨r, e1, e2⟩ := h3 z
  refine ⟨z, r, rfl, rfl, e1, ?_⟩
  have e3 : r.isSome = (tabAt tab z).isSome := by
    revert e2
    cases tabAt tab z with
    | none => intro e2; have e2 : r = none := e2; subst e2; rfl
    | some dd => intro ⟨u, v, e2, _⟩; subst e2; rfl
  rw [e3]
  exact q _ H (Same.refl H) (.bl _)
theorem tab_sk {kk : FE} (h : PE X e (tM B X.K kk)) (he : ∀ whole, isTrue e X.env whole = (do let v ← whole; standAt e.pos; holding [v] (truthy v)) := by intro _; rfl) : PT X e (tK B X.K (kTru kk)) := sk_tru h he
/-- TABLE.get(key) -/
theorem se_tabGet (t : KTab X.K X.w X.mg x tab) (ha : PE X e (tM B X.K f)) (m : M1 X (.Name x np) "get" apos e pos) (hg : Gl X x := by rfl) (hdb : (x == ("__debug__" : Str)) = false := by decide) :
    PE X (.Call (.Attribute (.Name x np) "get" apos) [e] [] pos) (tM B X.K (eOp1 (opTabGet tab) f)) := by
  obtain ⟨d, es, n, h1, h2, _, h3⟩ := t.h
  refine ⟨fun pins s σ H Q I h => ?_⟩
  refine wpAny_Call_method m.base m.few m.line PySem.F.plainAttrs_dict PySem.F.slot_dict_get PySem.F.type_dict_get ?_
  refine ld_glob I hg h1 ⟨kd_type h2 I, fun b q => ?_, ?_⟩ hdb
  · cases q
    exact ⟨_, I.kIn _ _ h2.at_, rfl⟩
  rw [m.trees]
  refine Calls.callWith_builtin rfl (Calls.evalArgs_plain (Calls.spliced_cons (thn (ha.run pins s σ H _ I (op1_imp (K := X.K) (r := fun y H2 Q => ∃ z, y = .str z ∧ ∀ v, (∀ g O H, RV g X.K O H v ((tabAt tab z).getD .non)) → Q v H2) (fun g0 O H y a dd Q hO ra ea q => ?_) σ H Q h)) fun iv s2 ⟨y, H2, I2, ry, z, ey, q2⟩ => Calls.spliced_nil ?_)))
  · cases ra <;> try exact (nos ea).elim
    rename_i z
    cases ea
    exact ⟨z, rfl, fun v rv => q v H (Same.refl H) (rv _ _ _)⟩
  subst ey
  obtain ⟨tk, rfl⟩ := ry
  refine call_meetsIn PySem.F.slot_dict_get (kd_type h2 I2) PySem.F.entry_dict_get (PySem.F.args_dict_get_2 _ _) (meets_dict_get (strKind X.prog X.w) d (PySem.strKind_is X.prog X.w z tk) h2.low) ⟨_, PySem.W.mapOf_K (prog := X.prog) I2.kIn h2.at_ h2.lit, ?_⟩
  obtain ⟨r, e1, e2⟩ := h3 z
  rw [PySem.W.find_K h2.at_ e1]
  revert e2
  cases e3 : tabAt tab z with
  | none => intro e2; have e2 : r = none := e2; subst e2; exact ⟨.non, H2, I2.tok _, rfl, q2 _ fun g O H => by rw [e3]; exact .non⟩
  | some dd => intro ⟨u, v, e2, rv, e4⟩; subst e2; exact ⟨v, H2, I2.tok _, rv, q2 v fun g O H => by rw [e3]; exact e4 g O H⟩
end
end Z

set_option Elab.async false
set_option linter.all false
set_option maxRecDepth 100000
set_option maxHeartbeats 1000000
/-! Z10: displays of dicts, repr. -/
namespace Z
open PySem PySem.Spec PyProof.Rows L2

theorem merge_nodup : ∀ (more acc : List (Key × V)), (∀ p ∈ more, valV acc p.1 = none) → (more.map (·.1)).Nodup → mergeK acc more = acc ++ more
  | [], acc, _, _ => (List.append_nil acc).symm
  | p :: r, acc, h, nd => by
    have hp := h p List.mem_cons_self
    rw [List.map_cons, List.nodup_cons] at nd
    show mergeK (putK acc p.1 p.2) r = _
    rw [putK_new p.2 hp, merge_nodup r (acc ++ [(p.1, p.2)]) (fun q hq => ?_) nd.2, List.append_assoc]; rfl
    rw [valV_snoc p.1 q.1 p.2 acc hp, if_neg, h q (List.mem_cons_of_mem _ hq)]
    intro z
    exact nd.1 (by rw [← z]; exact List.mem_map_of_mem hq)
theorem zip_map_fst : ∀ {ks : List Key} {vs : List V}, ks.length = vs.length → (ks.zip vs).map (·.1) = ks
  | [], [], _ => rfl
  | k :: ks, v :: vs, h => by
    show k :: (ks.zip vs).map (·.1) = _
    rw [zip_map_fst (by simpa using h)]
  | [], _ :: _, h => by cases h
  | _ :: _, [], h => by cases h
theorem zip_map_kV : ∀ (ks : List Key) (vs : List V), (ks.map kV).zip vs = (ks.zip vs).map fun kv => (kV kv.1, kv.2)
  | [], _ => rfl
  | _ :: _, [] => rfl
  | k :: ks, v :: vs => by
    exact congrArg ((kV k, v) :: ·) (zip_map_kV ks vs)
/-- the pairs of a display with written keys -/
structure SPs (X : Cx) (B : Bd) (pos : Pos) (keys : List (Option Expr)) (values : List Expr) (ks : List Key) (fa : FA) : Prop where
  h : ∃ trs, PPs X pos keys values trs ∧ ∀ σ H Q, tL B X.K fa σ H (fun vs H' => Q ((ks.map kV).zip vs) H') → tPairs trs σ H Q
section
variable {X : Cx} {B : Bd} {pos kpos : Pos} {keys : List (Option Expr)} {values : List Expr} {ks : List Key} {fa : FA} {f : FE} {e ek : Expr} {kd : Key}
theorem sp_nil : SPs X B pos [] [] [] aNil := ⟨[], pps_nil, fun σ H Q ⟨ρ, O, n, R, h⟩ => h [] H .refl R .nil⟩
theorem sp_cons (hk : PE X ek (tC (kV kd))) (hv : PE X e (tM B X.K f)) (hr : SPs X B pos keys values ks fa) : SPs X B pos (some ek :: keys) (e :: values) (kd :: ks) (aCons f fa) := by
  obtain ⟨trs, h1, h2⟩ := hr.h
  exact ⟨(_, _) :: trs, pps_cons hk hv h1, fun σ H Q ⟨ρ, O, n, R, h⟩ => ⟨ρ, O, n, R, (T.All.bind h).mono fun d1 n1 g1 v1 H1 k1 R1 r1 => h2 σ H1 _ ⟨ρ, O, n1, R1, (T.All.bind g1).mono fun ds n2 g2 vs H2 k2 R2 r2 =>
    g2 _ _ (k1.trans k2) R2 (.cons (r1.keep (R2.kpO' k2) hs_refl) r2)⟩⟩⟩
def eDic (ks : List Key) (fa : FA) : FE := fun ρ => (fa ρ).bind fun as => if ks.length = as.length then .ret (.dic ks as) else .bad
theorem se_dic (h : SPs X B pos keys values ks fa) (nd : ks.Nodup) (hall : keys.all (·.isSome) = true) (hl : keys.length = values.length) (h0 : keys ≠ []) (h15 : keys.length ≤ 15) (hk15 : ks.length ≤ 15) :
    PE X (.Dict keys values pos) (tM B X.K (eDic ks fa)) := by
  obtain ⟨trs, h1, h2⟩ := h.h
  refine PEimp (pe_disp h1 hall hl h0 h15) fun σ H Q ⟨ρ, O, n, R, hh⟩ => fun p hp => h2 σ _ _ ⟨ρ, p :: O, n, R.also hp, (T.All.bind hh).mono fun ds n2 g2 vs H2 k2 R2 r2 => ?_⟩
  by_cases hz : ks.length = ds.length
  · rw [if_pos hz] at g2
    have hpO : p ∉ O := notO R.there hp
    have hpa : B.g.pa ≠ some p := fun z => hpO (R.pen p z).1
    have hp0 : B.H0 p = none := by
      cases e : B.H0 p with
      | none => rfl
      | some o => rw [R.kept p o e hpa] at hp; cases hp
    have hpO0 : p ∉ B.O0 := fun z => hpO (R.sub p z)
    have hne : ∀ (i : Nat) ds, ρ[i]? = some (.own ds) → σ[i]? ≠ some (some (.ref p)) := fun i ds e z => by
      obtain ⟨a, ws, e1, e2, _⟩ := R.own i ds e
      rw [e1] at z; cases z
      exact hpO e2
    have hlen : ks.length = vs.length := hz.trans r2.length.symm
    refine ⟨k2 _ _ upd_same hpa, ks.zip vs, zip_map_kV ks vs, ?_, ?_⟩
    · rw [List.length_zip]; omega
    rw [merge_nodup (ks.zip vs) [] (fun _ _ => rfl) (by rw [zip_map_fst hlen]; exact nd), List.nil_append]
    have kU : KpO (p :: O) H2 (upd H2 p (.dK (ks.zip vs))) := fun a u e n => by
      rw [upd_ne (mem_ne n)]; exact e
    have R3 := (R2.owned (o := .dK (ks.zip vs)) hne hp0 hpa).drop hne hpO0 hpa
    refine g2 _ _ (fun a o e ne => ?_) R3 (.dic (.inl upd_same) hpO hlen ((r2.keep kU hs_refl).keep (fun _ _ e _ => e) (hs_sub fun a h => List.mem_cons_of_mem _ h)))
    have q : a ≠ p := fun z => by subst z; rw [hp] at e; cases e
    rw [upd_ne q]
    exact k2 a o (by rw [upd_ne q]; exact e) ne
  · rw [if_neg hz] at g2; exact g2.elim
end
/-! d[k] -/
def keyOf : D → Option Key
  | .int i => some (.inl i)
  | .str x => some (.inr x)
  | _ => none
def dicAt : List Key → List D → Key → Option D
  | k :: ks, d :: ds, z => if k = z then some d else dicAt ks ds z
  | _, _, _ => none
def opDix : D → D → Option D
  | .dic ks ds, y => (keyOf y).bind fun z => dicAt ks ds z
  | _, _ => none
theorem dic_at {g : Gh} {K : PySem.W.Frag} {O : List Addr} {H : Hp} : ∀ {ks : List Key} {vs : List V} {ds : List D} {z : Key} {d : D}, RVs g K O H vs ds → dicAt ks ds z = some d → ∃ v, valV (ks.zip vs) z = some v ∧ RV g K O H v d
  | [], _, _, _, _, _, e => by unfold dicAt at e; exact (nos e).elim
  | _ :: _, _, _, _, _, .nil, e => by unfold dicAt at e; exact (nos e).elim
  | k :: ks, _, _, z, d, .cons h t, e => by
    unfold dicAt at e
    by_cases q : k = z
    · rw [if_pos q] at e; cases e
      exact ⟨_, valV_pos (p := (k, _)) q, h⟩
    · rw [if_neg q] at e
      obtain ⟨v, e1, e2⟩ := dic_at t e
      exact ⟨v, (valV_neg (p := (k, _)) q).trans e1, e2⟩
theorem keyOf_kV {g : Gh} {K : PySem.W.Frag} {O : List Addr} {H : Hp} {y : V} {b : D} {z : Key} (r : RV g K O H y b) (e : keyOf b = some z) : y = kV z := by
  cases r <;> first | exact (nos e).elim | (cases e; rfl)
theorem se_dix {X : Cx} {B : Bd} {o i : Expr} {f f' : FE} {pos : Pos} (hu : X.A.units + 1 < cLine) (ho : PE X o (tM B X.K f)) (hi : PE X i (tM B X.K f')) (hs : NoSl i := by exact fun _ _ => rfl) : PE X (.Subscript o i pos) (tM B X.K (eOp2 opDix f f')) :=
  PEimp (pe_dget hu ho hi hs) (op2_imp (r := fun x y H Q => ∃ a v, x = .ref a ∧ DGet H a y (some v) ∧ Q v H) fun g0 O H x y a b d Q hO ra rb e q => by
    cases ra <;> try exact (nos e).elim
    rename_i p ks vs ds h1 h2 h3 rs
    have e : ((keyOf b).bind fun z => dicAt ks ds z) = some d := e
    cases ek : keyOf b with
    | none => rw [ek] at e; exact (nos e).elim
    | some z =>
      rw [ek] at e
      obtain ⟨v, e1, e2⟩ := dic_at rs (show dicAt ks ds z = some d from e)
      exact ⟨p, v, rfl, .inl ⟨_, z, h1, keyOf_kV rb ek, e1.symm⟩, q v H (Same.refl H) e2⟩)

/-! ### repr -/
def okShow (p : PyData) : Bool := isDisplay p && (p.showable && !p.hasDict && (decide (p.depth ≤ 50) && decide (p.shown.length ≤ lim)))
def opRepr : D → Option D := fun a => (pyOf a).bind fun p => if okShow p then some (.str p.shown) else none
def rRepr (K : PySem.W.Frag) (xs : List V) (H : Hp) (Q : VK) : Prop := ∃ x p, xs = [x] ∧ Dp K H x p ∧ okShow p = true ∧ Q (.str p.shown) H
theorem call_repr {X : Cx} (hg : X.A.guards = some []) (hu : X.A.units + 200 < cLine) : CallR X (.builtin "repr") (rRepr X.K) := by
  intro pins s σ H xs us Q I rx h
  obtain ⟨x, p, rfl, hd, ok, q⟩ := h
  cases rx with
  | @cons _ u _ us r1 r2 =>
    cases r2
    unfold okShow at ok
    rw [Bool.and_eq_true, Bool.and_eq_true, Bool.and_eq_true, Bool.and_eq_true, decide_eq_true_eq, decide_eq_true_eq, Bool.not_eq_true'] at ok
    obtain ⟨h1, ⟨h2, h3⟩, h4, h5⟩ := ok
    obtain ⟨as, rd⟩ := Dp.reads I p x u hd r1
    obtain ⟨a, rfl⟩ := isRef_of_reads rd h1
    exact repr_of_reads' rd h2 (PyData.noDict_hsm h3) hg (by omega) (fun _ _ e => e) (fun h' u tk hk => ⟨.str p.shown, H, I.kept hk, ⟨u, rfl⟩, q⟩) (lim_le h5)
theorem vc_repr {K : PySem.W.Frag} : VCall K (rRepr K) (op1 opRepr) := vc_one fun g0 O H x a d Q hO ra e q => by
  unfold opRepr at e
  cases e1 : pyOf a with
  | none => rw [e1] at e; exact (nos e).elim
  | some p =>
    rw [e1] at e
    have e : (if okShow p = true then some (D.str p.shown) else none) = some d := e
    by_cases hc : okShow p = true
    · rw [if_pos hc] at e; cases e
      exact ⟨x, p, rfl, dp_of ra e1, hc, q _ H (Same.refl H) (.str _)⟩
    · rw [if_neg hc] at e; exact (nos e).elim
end Z

set_option Elab.async false
set_option linter.all false
set_option maxRecDepth 100000
set_option maxHeartbeats 1000000
/-! ZE: the law's own call. -/
namespace Z
open PySem PySem.Spec PyProof.Rows L2
section
variable {P : Program} {w : World} {K : PySem.W.Frag} {mg mb : Str → Option Value} {k : Nat} {fa a : Addr} {fd : FuncData} {x : Str} {sp : Sp} {s1 : Shared} {vals : List Value} {ns : List Int}
/-- from an abstract heap that knows the script alone, or nothing -/
theorem law_from (T : Hp) (kin : K.In s1.heap) (nsG : s1.heap.Ns mainGlobals mg) (nsB : s1.heap.Ns builtinsNs mb) (isB : ∀ y : Str, y ≠ "__name__" → mb y = bootBuiltins y) (nolim : s1.heap.NoLimit) (ngen : s1.gens = #[])
    (hscr : s1.heap.get? a = some { cls := .type "list", data := .seq vals.toArray }) (room : Rm k callerA) (F : ∀ base : Heap, K.In base → base.Ns mainGlobals mg → FnG P w K mg base k fa fd [x] sp) (bnd : ∀ (s : Shared) (u : Value), BindsTo s fd ⟨[u], []⟩ [(x, u)])
    (only : Only T) (hok : HOk P w T s1.heap) (atA : ∀ b, T b ≠ none → b = a) (notK : T a ≠ none → K.lookup a = none) (prom : sp [.ref a] T (fun v _ => v = .bl true) fun _ _ _ => False) :
    codeAny (model P w) callerA (.call (.ref fa) ⟨[.ref a], []⟩) (fun r s' => r = .ok (.ret (.bool true)) ∧ OldK s1.heap s'.heap ∧ s'.os = s1.os ∧ AllBare s'.gens) s1 := by
  have bare : ∀ {b : Addr} {o : Obj}, s1.heap.get? b = some o → T b = none → (hidT s1.heap T).get? b = some o := fun h1 h2 => hidT_get h1 h2
  have away : ∀ {b : Addr} {o : Obj} {es : Array DictEntry} {ep : Nat}, s1.heap.get? b = some o → o.data = .dict es ep → T b = none := by
    intro b o es ep h1 h2
    cases hb : T b with
    | none => rfl
    | some u =>
      obtain rfl : b = a := atA b (by rw [hb]; exact fun z => nomatch z)
      rw [hscr] at h1
      cases h1
      exact nomatch (show Data.seq vals.toArray _ = Data.dict es ep from h2)
  have carry : ∀ {b : Addr} {m : Str → Option Value}, s1.heap.Ns b m → (hidT s1.heap T).Ns b m := fun {b m} hn => by
    obtain ⟨o, es, ep, h1, h2, h3⟩ := hn
    exact ⟨o, es, ep, bare h1 (away h1 h2), h2, h3⟩
  have kinB : K.In (hidT s1.heap T) := by
    intro b o hl
    refine bare (kin b o hl) ?_
    cases hb : T b with
    | none => rfl
    | some u =>
      obtain rfl : b = a := atA b (by rw [hb]; exact fun z => nomatch z)
      have := notK (by rw [hb]; exact fun z => nomatch z)
      rw [this] at hl
      cases hl
  have md : Mod K mg (hidT s1.heap T) := by
    obtain ⟨mc, l1, l2⟩ := nolim
    exact ⟨kinB, carry nsG, ⟨mb, carry nsB, isB⟩, ⟨mc, carry l1, l2⟩⟩
  have entry : Env0 P w K mg (hidT s1.heap T) callerA [] s1 T := ⟨rfl, md, fun _ _ => of_hidT, Nat.le_of_eq (hidT_size _ _), trivial, fun _ hb => (List.not_mem_nil hb).elim, hok, .of_eq ngen⟩
  refine codeAny_mono ((F _ kinB (carry nsG)).run callerA [] s1 T ⟨[.ref a], []⟩ [.ref a] [.ref a] _ _ room entry (bnd s1 (.ref a)) (.cons rfl .nil) prom) fun res s' got => ?_
  match res, got with
  | .error e, got =>
    obtain ⟨_, _, _, _, _, _, _, _, _, _, _, _, z⟩ := got
    exact z.elim
  | .ok .next, got => exact got.elim
  | .ok .brk, got => exact got.elim
  | .ok .cont, got => exact got.elim
  | .ok (.ret u), got =>
    obtain ⟨v, T', eos, egens, un, hok', rv, ev⟩ := got
    replace ev : v = .bl true := ev
    subst ev
    obtain rfl : u = Value.bool true := rv
    refine ⟨rfl, OldK.of_keep fun b o h1 => ?_, eos, egens⟩
    rcases only b with hb | ⟨ob, xs, hb⟩
    · exact un.keep b o h1 hb (fun z => (List.not_mem_nil z).elim) (fun z => (List.not_mem_nil z).elim)
    · have g1 := (hok b _ hb).1
      have g2 := (hok' b _ (un.frzs b ob _ hb)).1
      rw [h1] at g1
      cases g1
      exact g2
theorem law_whole (kin : K.In s1.heap) (nsG : s1.heap.Ns mainGlobals mg) (nsB : s1.heap.Ns builtinsNs mb) (isB : ∀ y : Str, y ≠ "__name__" → mb y = bootBuiltins y) (nolim : s1.heap.NoLimit) (ngen : s1.gens = #[])
    (hscr : s1.heap.get? a = some { cls := .type "list", data := .seq vals.toArray }) (hnt : IntsAre vals ns) (few : ns.length ≤ sizeLine) (room : Rm k callerA) (F : ∀ base : Heap, K.In base → base.Ns mainGlobals mg → FnG P w K mg base k fa fd [x] sp) (bnd : ∀ (s : Shared) (u : Value), BindsTo s fd ⟨[u], []⟩ [(x, u)])
    (prom : ∀ T : Hp, Only T → SqL K T a (ns.map V.int) → sp [.ref a] T (fun v _ => v = .bl true) fun _ _ _ => False) :
    codeAny (model P w) callerA (.call (.ref fa) ⟨[.ref a], []⟩) (fun r s' => r = .ok (.ret (.bool true)) ∧ OldK s1.heap s'.heap ∧ s'.os = s1.os ∧ AllBare s'.gens) s1 := by
  have vv := vals_ints hnt
  cases hk : K.lookup a with
  | some o =>
    have same := kin a o hk
    rw [hscr] at same
    cases same
    have none0 : Only (fun _ => none) := fun _ => .inl rfl
    refine law_from (fun _ => none) kin nsG nsB isB nolim ngen hscr room F bnd none0 (fun b u z => nomatch z) (fun b z => (z rfl).elim) (fun z => (z rfl).elim) (prom _ none0 (.inr ⟨_, vals.toArray, _, hk, rfl, rfl, rfl, ?_, ?_⟩))
    · rw [List.size_toArray, hnt.length]; exact few
    · simpa using vv
  | none =>
    let T : Hp := fun b => if b = a then some (.frz { cls := .type "list", data := .seq vals.toArray } (.lst (ns.map V.int))) else none
    have hit : T a = some (.frz { cls := .type "list", data := .seq vals.toArray } (.lst (ns.map V.int))) := if_pos rfl
    have miss : ∀ {b}, b ≠ a → T b = none := fun h => if_neg h
    have only : Only T := fun b => by
      by_cases hb : b = a
      · subst hb; exact .inr ⟨_, _, hit⟩
      · exact .inl (miss hb)
    refine law_from T kin nsG nsB isB nolim ngen hscr room F bnd only (fun b u z => ?_) (fun b z => ?_) (fun _ => hk) (prom T only (.inl (.inr ⟨_, hit⟩)))
    · by_cases hb : b = a
      · subst hb
        rw [hit] at z
        cases z
        exact ⟨hscr, by rw [List.length_map]; exact few, vals, _, vv, hscr⟩
      · rw [miss hb] at z; cases z
    · by_cases hb : b = a
      · exact hb
      · exact (z (miss hb)).elim
end
/-- what the head leaves to be shown -/
theorem walkG {l : PySem.W.OpenLaw} {n k : Nat} {q : Program} {loose : List Str} {XP : (Str → Option Value) → Heap → Prop} {YP : World → Heap → Prop} {d : DefRec} {K : Params → PySem.W.Frag} {sp : World → Sp} {x : Str}
    (hn : l.most = some n) (hn2 : n ≤ sizeLine) (hdf : d.params.defaults = []) (room : Rm k callerA) (hY : ∀ (w : World) (h : Heap), YP w h → (K w.params).In h)
    (F : ∀ (w : World) (mg : Str → Option Value) (fa : Addr) (h : Heap), (K w.params).In h → h.Ns mainGlobals mg → mg d.name = some (.ref fa) →
      ∃ fd : FuncData, (∀ (s : Shared) (u : Value), BindsTo s fd ⟨[u], []⟩ [(x, u)]) ∧ ∀ base : Heap, (K w.params).In base → base.Ns mainGlobals mg → FnG l.prog w (K w.params) mg base k fa fd [x] (sp w))
    (prom : ∀ (w : World) (H : Hp) (a : Addr) (ns : List Int), ns.length ≤ n → Only H → SqL (K w.params) H a (ns.map V.int) → sp w [.ref a] H (fun v _ => v = .bl true) fun _ _ _ => False) :
    PySem.W.WalkO q loose XP YP l.row.toRowW d [] (fun f vs => PySem.call f vs) := by
  refine Att.attach_call hn hdf fun w s₀ s₁ mg mb fa o pm cd doc a vs ns G Y ho hd hcd hmg hobj hints hlen hg => ?_
  have kin := hY w _ Y
  obtain ⟨fd, hb, hF⟩ := F w mg fa _ kin G.T.g hmg
  exact law_whole kin G.T.g G.T.b G.T.builtins G.T.nolimit hg hobj hints (Nat.le_trans hlen hn2) room hF hb fun H hO hS => prom w H a ns hlen hO hS
end Z

set_option Elab.async false
set_option linter.all false
set_option maxRecDepth 100000
set_option maxHeartbeats 1000000
/-! ZF: some forms more; the finite check of choices. -/
namespace Z
open PySem PySem.Spec PyProof.Rows L2
section
variable {X : Cx} {B : Bd} {x : Str} {tab : List (Str × D)} {e ea eb : Expr} {f f' : FE} {np pos : Pos}
/-- name = [.. for ..] -/
theorem ss_setLc (i : Nat) {y : Str} {py spos : Pos} {elt iter : Expr} {ifs : List Expr} {scope : Scope} {own : List (Str × Nat)} {src : FA} {c : FT'} {tg : Tg} {tt : TT} {tgE : Expr} (hc : X.calm = true) (hN : X.N.Nodup) (hi : PI X tgE iter (tI B X.K src)) (ok : BlkOk X.N X.env.scope scope own) (hap : tg.apart) (hpl : own.map (·.2) = tg.places)
    (hg : ∀ (s : Shared) (H : Hp) (C : Addr) (cl : List (Str × Addr)) (fp : List Addr), PG (X.blk s H scope (compEnvC scope cl C X.env) fp) tgE (gOf X.K tg))
    (ht : ∀ (s : Shared) (H : Hp) (C : Addr) (cl : List (Str × Addr)) (fp : List Addr), PTs (X.blk s H scope (compEnvC scope cl C X.env) fp) ifs tt) (htt : TT_ok B.nox X.K tt c)
    (he : ∀ (s : Shared) (H : Hp) (C : Addr) (cl : List (Str × Addr)) (fp : List Addr), PE (X.blk s H scope (compEnvC scope cl C X.env) fp) elt (tM B.nox X.K f))
    (hy : X.N[i]? = some y := by rfl) (hyl : X.env.scope.names.lookup y = some .local := by rfl) (hsw : swapsWith (.ListComp elt [⟨tgE, iter, ifs, 0⟩] scope pos) (some (.Name y py)) spos.line X.env = pure true := by first | exact sw_true rfl rfl rfl rfl | rfl)
    (hs : ∀ x, foldedSetIterable iter X.env x = pure x := by intro _; rfl) :
    PS X (.Assign [.Name y py] (.ListComp elt [⟨tgE, iter, ifs, 0⟩] scope pos) spos) (tS B X.K (sSet i (eComp tg src c f))) :=
  PSimp (ps_setLc hc hN hy hyl hsw hi ok hg ht he hs) fun Dn σ H ⟨ρ, O, b, R, w⟩ => by
    refine Eq.mp (by rw [hpl]; rfl) (comp_imp (tt := tt) hap htt σ H (fun v H1 => gName i v σ H1 Dn.nx) ⟨ρ, O, b, R, (T.All.bind w).mono fun d b1 w1 v H1 k1 R1 rv => ?_⟩)
    exact w1 _ H1 O (.of R k1) (R1.put i rv)
theorem kbl_imp {K : PySem.W.Frag} {fe : FE} (σ : L2.St) (H : Hp) (Q : Bool → Hp → Prop) (h : tK B K (kBl fe) σ H Q) : tTest (tM B K fe) σ H Q := by
  obtain ⟨ρ, O, n, R, h⟩ := h
  refine ⟨ρ, O, n, R, (T.All.bind h).mono fun d n1 h1 v H1 k1 R1 r1 => ?_⟩
  obtain ⟨kk, e, q⟩ := T.All.ofO h1
  exact ⟨kk, blV r1 e, q H1 k1 R1⟩
theorem tab_r {r : R2} {g : D → Option D} {d : Addr} (h : VOp1 X.K (fun y H Q => r y (.ref d) H Q) g) (σ : L2.St) (H : Hp) (Q : Bool → Hp → Prop) (q : tK B X.K (kBl (eOp1 g f)) σ H Q) : tTest (tOp r (tM B X.K f) (tC (.ref d))) σ H Q := by
  obtain ⟨ρ, O, n, R, w⟩ := q
  refine op1_imp (f := f) (r := fun y H2 Q => r y (.ref d) H2 Q) h σ H _ ⟨ρ, O, n, R, (T.All.bind w).mono fun d n1 h1 v H1 k1 R1 r1 => ?_⟩
  obtain ⟨kk, e, q⟩ := T.All.ofO h1
  exact ⟨kk, blV r1 e, q H1 k1 R1⟩
theorem tab_in_v {d : Addr} {es : Array DictEntry} {n : Nat} (h3 : ∀ z, ∃ r, PySem.W.nsIn X.K d z = some r ∧ (match tabAt tab z with | some dd => ∃ u v, r = some u ∧ RelV v u ∧ ∀ g O H, RV g X.K O H v dd | none => r = none)) :
    VOp1 X.K (fun x H Q => (∃ (z : Str) (r : Option Value), x = .str z ∧ V.ref d = .ref d ∧ PySem.W.nsIn X.K d z = some r ∧ Q (.bl r.isSome) H)) (opTabIn tab) := fun g0 O H y a dd Q hO ra ea q => by
  cases ra <;> try exact (nos ea).elim
  rename_i z
  cases ea
  obtain ⟨r, e1, e2⟩ := h3 z
  refine ⟨z, r, rfl, rfl, e1, ?_⟩
  have e3 : r.isSome = (tabAt tab z).isSome := by
    revert e2
    cases tabAt tab z with
    | none => intro e2; have e2 : r = none := e2; subst e2; rfl
    | some dd => intro ⟨u, v, e2, _⟩; subst e2; rfl
  rw [e3]
  exact q _ H (Same.refl H) (.bl _)
theorem sk_tabIn (t : KTab X.K X.w X.mg x tab) (ha : PE X e (tM B X.K f)) (hg : Gl X x := by rfl) (hdb : (x == ("__debug__" : Str)) = false := by decide) (hm : behindInMarks .In (.Name x np) = false := by first | exact nomark _ | rfl) :
    PT X (.Compare e [.In] [.Name x np] pos) (tK B X.K (kBl (eOp1 (opTabIn tab) f))) := by
  obtain ⟨d, es, n, h1, h2, _, h3⟩ := t.h
  exact PTimp (pt_cmpR (op_in_kd h2) ha (pe_glob hg h1 (v := .ref d) rfl hdb) hm) (tab_r (r := fun x y H Q => ∃ (z : Str) (r : Option Value), x = .str z ∧ y = .ref d ∧ PySem.W.nsIn X.K d z = some r ∧ Q (.bl r.isSome) H) (tab_in_v (es := es) (n := n) h3))
/-! repr(a) != repr(b) -/
def okD (a : D) : Bool := (opRepr a).isSome
def sameD (a b : D) : Bool := match pyOf a, pyOf b with
  | some p, some q => decide (p.shown = q.shown)
  | _, _ => false
end
/-- a written dict's entries -/
inductive EntAre (K : PySem.W.Frag) : List DictEntry → List (Str × D) → Prop
  | nil : EntAre K [] []
  | cons {en : DictEntry} {es : List DictEntry} {k : Str} {t : Tok} {d : D} {v : V} {r : List (Str × D)} : en.key = .str k t → RelV v en.val → (∀ g O H, RV g K O H v d) → EntAre K es r → EntAre K (en :: es) ((k, d) :: r)
theorem isStr_str (k z : Str) (t : Tok) : (Value.str k t).isStr z = decide (k = z) := by
  show (k == z) = _
  rw [Bool.eq_iff_iff, beq_iff_eq, decide_eq_true_eq]
theorem ent_find {K : PySem.W.Frag} (z : Str) : ∀ {es : List DictEntry} {tab : List (Str × D)}, EntAre K es tab →
    (match tabAt tab z with | some dd => ∃ en v, es.find? (·.key.isStr z) = some en ∧ RelV v en.val ∧ ∀ g O H, RV g K O H v dd | none => es.find? (·.key.isStr z) = none) ∧ es.any (·.refKey) = false
  | [], _, .nil => ⟨rfl, rfl⟩
  | en :: es, (k, d) :: r, @EntAre.cons _ _ _ _ t _ v _ hk hv hr h => by
    obtain ⟨h1, h2⟩ := ent_find z h
    have hs : en.key.isStr z = decide (k = z) := by rw [hk]; exact isStr_str k z t
    refine ⟨?_, ?_⟩
    · unfold tabAt
      by_cases q : k = z
      · rw [if_pos q]
        exact ⟨en, v, by rw [List.find?_cons, hs, decide_eq_true q], hv, hr⟩
      · rw [if_neg q]
        have e0 : (en :: es).find? (·.key.isStr z) = es.find? (·.key.isStr z) := by rw [List.find?_cons, hs, decide_eq_false q]
        rw [e0]; exact h1
    · rw [List.any_cons, h2, Bool.or_false]
      unfold DictEntry.refKey; rw [hk]
theorem ktab_mk {K : PySem.W.Frag} {w : World} {mg : Str → Option Value} {x : Str} {d : Addr} {es : Array DictEntry} {n : Nat} {tab : List (Str × D)} (hm : mg x = some (.ref d)) (hl : K.lookup d = some ⟨.type "dict", none, .dict es n, #[]⟩) (hk : PySem.W.KeysLit w.params es.toList) (hd : (d == sysModules) = false)
    (he : EntAre K es.toList tab) : KTab K w mg x tab := by
  refine ⟨d, es, n, hm, ⟨hl, hk, hd⟩, rfl, fun z => ?_⟩
  obtain ⟨h1, h2⟩ := ent_find z he
  unfold PySem.W.nsIn
  rw [hl]
  dsimp only
  revert h1
  cases tabAt tab z with
  | none => intro h1; have h1 : es.toList.find? (·.key.isStr z) = none := h1; rw [h1]; dsimp only; rw [h2]; exact ⟨none, rfl, rfl⟩
  | some dd =>
    intro ⟨en, v, h1, h3, h4⟩
    rw [h1]
    exact ⟨some en.val, rfl, en.val, v, rfl, h3, h4⟩
theorem glv_of {K : PySem.W.Frag} {mg : Str → Option Value} {x : Str} {u : Value} {v : V} {d : D} (hm : mg x = some u) (r : RelV v u) (h : ∀ g O H, RV g K O H v d) : GlV K mg x d := ⟨u, v, hm, r, h⟩

theorem fnG_by {P : Program} {w : World} {K : PySem.W.Frag} {mg : Str → Option Value} {base : Heap} (N ps : List Str) (n m k : Nat) {x qual : Str} {st : Stmt} {f : Addr} {fd : FuncData} {fs : FS} {F0 : List D → T D} (hF : F0 = fnD n m fs) (hn : N.length = n) (hm : ps.length = m) (F : Fun K x qual st f fd) (S : FnScope N ps (defScope st))
    (hbody : ∀ (cdv : Value) (A : Around) (outer : List Env) (s : Shared) (H : Hp) (E : XK) (B : Bd), Rm k (A.deeper (envOfC qual (defScope st) s.heap.objs.size f cdv)) → Lets (cxOf (L2.CX P w) P w K mg base N qual (defScope st) f cdv A outer s H E) B →
      PSs (cxOf (L2.CX P w) P w K mg base N qual (defScope st) f cdv A outer s H E) (defBody st) (tS B K fs)) : FnG P w K mg base (k + 1) f fd ps (spD K m F0) := by
  subst hn; subst hm; subst hF
  exact fnG_of F S hbody

theorem Rm.u1 {k : Nat} {A : Around} (h : Rm k A) : A.units + 1 < cLine := by have := h.room.un; omega
theorem Rm.u200 {k : Nat} {A : Around} (h : Rm k A) : A.units + 200 < cLine := by have := h.room.un; omega
section
variable {X : Cx} {B : Bd} {a b c : Expr} {f f' f'' : FE} {pos : Pos}
theorem chain_imp {K : PySem.W.Frag} {r r' : R2} {g g' : D → D → Option D} (hv : VOp2 K r g) (hv' : VOp2 K r' g') (σ : L2.St) (H : Hp) (Q : VK) (h : tM B K (eChain g g' f f' f'') σ H Q) : tChain r r' (tM B K f) (tM B K f') (tM B K f'') σ H Q := by
  obtain ⟨ρ, O, n, R, h⟩ := h
  refine ⟨ρ, O, n, R, (T.All.bind h).mono fun d1 n1 h1 v1 H1 k1 R1 r1 => ⟨ρ, O, n1, R1, (T.All.bind h1).mono fun d2 n2 h2 v2 H2 k2 R2 r2 => ?_⟩⟩
  obtain ⟨z, e, h3⟩ := T.All.ofO (T.All.bind h2)
  refine hv B.g O H2 v1 v2 d1 d2 z _ R2.there (r1.keep (R2.kpO' k2) hs_refl) r2 e fun v H3 s rv => ?_
  have R3 := R2.same s
  have r2' := r2.same s
  obtain ⟨kk, e2, h4⟩ := T.All.ofO (T.All.bind h3)
  have ev := blV rv e2
  subst ev
  refine ⟨kk, rfl, ?_⟩
  cases kk with
  | false => exact iteF (h4 _ _ ((k1.trans k2).trans (.of s)) R3 (.bl _))
  | true =>
    refine iteT ⟨ρ, O, n2, R3, (T.All.bind h4).mono fun d5 n5 h5 v5 H5 k5 R5 r5 => ?_⟩
    obtain ⟨d, e, q⟩ := T.All.ofO h5
    exact hv' B.g O H5 v2 v5 d2 d5 d Q R5.there (r2'.keep (R5.kpO' k5) hs_refl) r5 e fun v6 H6 s6 rv6 => q v6 H6 ((((k1.trans k2).trans (.of s)).trans k5).trans (.of s6)) (R5.same s6) rv6
theorem sk_ch {op op' : CmpOp} {r r' : R2} {g g' : D → D → Option D} (ho : OpR X (compareOp op) r) (hv : VOp2 X.K r g) (ho' : OpR X (compareOp op') r') (hv' : VOp2 X.K r' g')
    (ha : PE X a (tM B X.K f)) (hb : PE X b (tM B X.K f')) (hc : PE X c (tM B X.K f''))
    (hm : lastMarks [op, op'] [b, c] = false := by with_unfolding_all rfl) : PT X (.Compare a [op, op'] [b, c] pos) (tK B X.K (kBl (eChain g g' f f' f''))) :=
  PTimp (pt_chain ho ho' ha hb hc hm) fun σ H Q h => chain_imp hv hv' σ H _ (kbl_imp σ H Q h)
theorem se_callK {k j : Nat} {x : Str} {n : Nat} {F : List D → T D} {kws : List Keyword} {fa : FA} {np : Pos} {ks : List Str} (m : Nat) (p : List Nat) (h : FnK X.prog X.w X.K X.mg X.base j x n ks p F) (hm : ks.length = m) (hn : Ar n F) (hr : Rm k X.A) (hj : j ≤ k) (hx : Lets X B) (hkw : PK X kws (tL B X.K fa)) (hg : Gl X x := by rfl) (hdb : (x == ("__debug__" : Str)) = false := by decide)
    (hall : (backToKw pos (keywordEach kws X.env)).all (·.1.isSome) = true := by rfl) (hks : (backToKw pos (keywordEach kws X.env)).filterMap (·.1) = ks := by rfl)
    (hpl : ((backTo pos (starEach [] X.env)).any (·.1) || (backToKw pos (keywordEach kws X.env)).any (·.1.isNone)) = false := by rfl) : PE X (.Call (.Name x np) [] kws pos) (tM B X.K (eCallF F (aPick m p fa))) := by
  subst hm
  exact se_callK0 h hn hr hj hx hkw hg hdb hall hks hpl
def eDic0 : FE := fun _ => .ret (.dic [] [])
theorem se_dic0 : PE X (.Dict [] [] pos) (tM B X.K eDic0) := PEimp pe_dnewK fun σ H Q ⟨ρ, O, n, R, h⟩ => fun p hp => h _ _ (.of (same_new hp)) (R.same (same_new hp)) (.dic (ks := []) (vs := []) (.inl upd_same) (notO R.there hp) rfl .nil)
end
/-! the built-ins' names -/
theorem bt_len : bootBuiltins "len" = some (.builtin "len") := by decide +kernel
theorem bt_all : bootBuiltins "all" = some (.builtin "all") := by decide +kernel
theorem bt_any : bootBuiltins "any" = some (.builtin "any") := by decide +kernel
theorem bt_abs : bootBuiltins "abs" = some (.builtin "abs") := by decide +kernel
theorem bt_isinstance : bootBuiltins "isinstance" = some (.builtin "isinstance") := by decide +kernel
theorem bt_repr : bootBuiltins "repr" = some (.builtin "repr") := by decide +kernel
theorem bt_sorted : bootBuiltins "sorted" = some (.builtin "sorted") := by decide +kernel
theorem bt_sum : bootBuiltins "sum" = some (.builtin "sum") := by decide +kernel
theorem bt_max : bootBuiltins "max" = some (.builtin "max") := by decide +kernel
theorem bt_min : bootBuiltins "min" = some (.builtin "min") := by decide +kernel
theorem bt_int : bootBuiltins "int" = some (.type "int") := by decide +kernel
theorem bt_bool : bootBuiltins "bool" = some (.type "bool") := by decide +kernel
theorem bt_str : bootBuiltins "str" = some (.type "str") := by decide +kernel
theorem bt_list : bootBuiltins "list" = some (.type "list") := by decide +kernel
theorem bt_tuple : bootBuiltins "tuple" = some (.type "tuple") := by decide +kernel
theorem bt_dict : bootBuiltins "dict" = some (.type "dict") := by decide +kernel

/-! ### all choices, by trying -/
def chk {α : Type} (p : α → Bool) : Nat → T α → Bool
  | _, .ret a => p a
  | n + 1, .ask m k => (List.range m).all fun c => chk p n (k c)
  | _, _ => false
theorem chk_all {α : Type} {p : α → Bool} {Y : XP} : ∀ {n : Nat} {t : T α} {b : Nat}, chk p n t = true → n ≤ b → t.All b (fun a b' => p a = true ∧ b ≤ b' + n) Y
  | _, .ret a, b, h, l => by unfold chk at h; exact ⟨h, by omega⟩
  | n + 1, .ask m k, b, h, l => by
    unfold chk at h
    rw [List.all_eq_true] at h
    refine ⟨b - 1, by omega, fun c hc => T.All.mono (chk_all (n := n) (b := b - 1) (h c (List.mem_range.mpr hc)) (by omega)) fun a b' q => ⟨q.1, by omega⟩⟩
  | 0, .ask m k, _, h, _ => by unfold chk at h; cases h
  | 0, .exc _ _ _, _, h, _ => by unfold chk at h; cases h
  | n + 1, .exc _ _ _, _, h, _ => by unfold chk at h; cases h
  | 0, .bad, _, h, _ => by unfold chk at h; cases h
  | n + 1, .bad, _, h, _ => by unfold chk at h; cases h

/-! ### the law: behind the pen's making the pen is one; loops by trying -/
theorem rest_any {X : Cx} {sts : List Stmt} {fs : FS} (h : ∀ B : Bd, Lets X B → PSs X sts (tS B X.K fs)) : PSs X sts (fun Dn σ H => ∃ B, Lets X B ∧ tS B X.K fs Dn σ H) :=
  ⟨fun pins s σ H Dn I ⟨B, hl, w⟩ => (h B hl).run pins s σ H Dn I w⟩
def penEnv (n : Nat) : List Sl := (List.replicate n .un).set 1 (.val .pen)
theorem penEnv_get {n i : Nat} {s : Sl} (h : (penEnv n)[i]? = some s) (hn : s ≠ .un) : i = 1 ∧ s = .val .pen := by
  unfold penEnv at h
  rcases set_get h with ⟨h1, h2⟩ | ⟨h1, h2⟩
  · exact ⟨h1.symm, h2⟩
  · rw [List.getElem?_replicate] at h2
    split at h2
    · exact (hn (Option.some.inj h2).symm).elim
    · cases h2
theorem pen_rep {K : PySem.W.Frag} {H : Hp} {σ : L2.St} {a c : Addr} {cells : List Int} {n : Nat} {cl fa : Nat → Addr} {Y : XP} (hl : σ.length = n) (h1 : σ[1]? = some (some (.ref a))) (hca : c ≠ a) (hA : H a = some (.lst [.ref c, .int 0, .int 0])) (hC : H c = some (.lst (cells.map V.int))) :
    Rep ⟨⟨some a, cl, fa⟩, H, [a], Y⟩ K (penEnv n) [a] 4194304 H σ := by
  have hin : ∀ b ∈ [a], H b ≠ none := fun b hb => by
    rw [List.mem_singleton.mp hb, hA]; exact fun z => nomatch z
  refine ⟨?_, fun i d e => ?_, fun i ds e => ?_, fun i j ds es b e => ?_, hin, fun b e => ?_, .refl, fun _ h => h, fun b e => ?_, hin⟩
  · unfold penEnv; rw [List.length_set, List.length_replicate]; exact hl
  · obtain ⟨rfl, e2⟩ := penEnv_get e (fun z => nomatch z)
    cases e2
    exact ⟨_, h1, .pen rfl⟩
  · obtain ⟨_, e2⟩ := penEnv_get e (fun z => nomatch z); cases e2
  · obtain ⟨_, e2⟩ := penEnv_get e (fun z => nomatch z); cases e2
  · cases e
    exact ⟨List.mem_singleton.mpr rfl, c, 0, 0, cells, hA, hC, fun z => hca (List.mem_singleton.mp z), Int.le_refl _, by decide, Int.le_refl _⟩
  · cases e; exact List.mem_singleton.mpr rfl
def isPenSl : Option Sl → Bool
  | some (.val .pen) => true
  | _ => false
def okPen (n : Nat) (ρ : List Sl) : Bool := decide (ρ.length = n) && isPenSl ρ[1]?
def goodFl (n : Nat) : Fl → Bool
  | .nx ρ => okPen n ρ
  | .ct ρ => okPen n ρ
  | _ => false
theorem loop_pen {n m i : Nat} {body : FS} {Y : XP} (hb : ∀ (x : D) (ρ : List Sl), okPen n ρ = true → chk (goodFl n) m (body (ρ.set i (.val x))) = true) :
    ∀ (xs : List D) (ρ : List Sl) (b : Nat), okPen n ρ = true → m * xs.length ≤ b → (loop (.one i) body xs ρ).All b (fun r _ => ∃ ρ2, r = .nx ρ2 ∧ okPen n ρ2 = true) Y
  | [], ρ, b, h, _ => ⟨ρ, rfl, h⟩
  | x :: xs, ρ, b, h, l => by
    rw [List.length_cons, Nat.mul_succ] at l
    show T.All (T.bind (body (ρ.set i (.val x))) _) b _ _
    refine T.All.of_bind ((chk_all (hb x ρ h) (by omega)).mono fun r b' ⟨q, l2⟩ => ?_)
    cases r with
    | nx ρ2 => exact loop_pen hb xs ρ2 b' q (by omega)
    | ct ρ2 => exact loop_pen hb xs ρ2 b' q (by omega)
    | bk ρ2 => cases q
    | rt d => cases q
end Z

set_option Elab.async false
set_option linter.all false
set_option maxRecDepth 100000
set_option maxHeartbeats 4000000
namespace W00
open PySem PySem.Spec PyProof.Rows L2 Z
def top (i : Nat) : Stmt := PySem.Challenge.pw_wallorplot_k00_values_are_told_from_what.main.body.getD i (.Pass ⟨0, 0, 0, 0⟩)
section
variable {P : Program} {w : World} {K : PySem.W.Frag} {mg : Str → Option Value} {base : Heap}
abbrev s_law_draw : Stmt := top 27
theorem sc_law_draw : FnScope ["pen", "many", "rest", "turn", "cell", "mixed"] ["pen", "many"] (defScope s_law_draw) := ⟨rfl, rfl, rfl, by decide +kernel, rfl, by decide +kernel, by decide +kernel⟩
theorem ok_law_draw {f : Addr} {fd : FuncData} (F : Fun K "_law_draw" "_law_draw" s_law_draw f fd) (mint : mg "int" = none) (mlen : mg "len" = none) (mabs : mg "abs" = none) : FnG P w K mg base 1 f fd ["pen", "many"] (spD K 2 drawD) := by
  refine fnG_raw F sc_law_draw (fun vs H Q E h => h.1) fun cdv A outer s H vs Q E hr h => ?_
  obtain ⟨a, c, t, r, n, cells, rfl, hn, hn2, hA, hC, hca, ht, ht2, hr0, fin⟩ := draw_open h
  have nd := sc_law_draw.nd
  have hd1 : n ≠ 0 ∧ n.natAbs < 1073741824 := by omega
  refine ⟨_, pss_cons (ps_if (pt_cmpR op_gt (pe_ix ix_list (pv 0) pe_int (fun _ _ => rfl)) pe_int (nomark _))
      (pss_cons (ps_set (i := 2) nd rfl (.inl rfl) (pe_callTy call_int1 (by rfl) mint (by decide +kernel) (pa_cons (pe_ix ix_list (pv 0) pe_int (fun _ _ => rfl)) pa_nil)))
      (pss_cons (ps_asg (pe_op op_fdivN (pv 2) (pv 1)) (pg_sub (pv 0) pe_int set_list))
      (pss_one (ps_ret (pe_op op_modN (pe_callTy call_int1 (by rfl) mint (by decide +kernel) (pa_cons (pv 2) pa_nil)) (pv 1)))))) pss_nil)
    (pss_cons (ps_set (i := 3) nd rfl (.inl rfl) (pe_ix ix_list (pv 0) pe_int (fun _ _ => rfl)))
    (pss_cons (ps_asg (pe_op op_add (pv 3) pe_int) (pg_sub (pv 0) pe_int set_list))
    (pss_cons (ps_set (i := 4) nd rfl (.inl rfl) (pe_op op_add (pe_op op_mul pe_int (pv 3)) pe_int))
    (pss_cons (ps_if (pt_cmpR (op_neD hr.room.units) (pe_ix ix_list (pv 0) pe_int (fun _ _ => rfl)) (pe_lst pa_nil) (nomark _))
      (pss_one (ps_set (i := 4) nd rfl (.inl rfl) (pe_ix ix_list (pe_ix ix_list (pv 0) pe_int (fun _ _ => rfl)) (pe_op op_modN (pe_callTy call_int1 (by rfl) mint (by decide +kernel) (pa_cons (pv 3) pa_nil)) (pe_callB call_len_seq (by rfl) mlen (by decide +kernel) (pa_cons (pe_ix ix_list (pv 0) pe_int (fun _ _ => rfl)) pa_nil))) (fun _ _ => rfl)))) pss_nil)
    (pss_cons (ps_if (PW.pt (pw_and (pt_cmpR op_lt (pv 3) (pe_callB call_len_seq (by rfl) mlen (by decide +kernel) (pa_cons (pe_ix ix_list (pv 0) pe_int (fun _ _ => rfl)) pa_nil)) (nomark _)) (pw_and1 (pt_cmpR op_ge (pe_callB call_abs (by rfl) mabs (by decide +kernel) (pa_cons (pv 4) pa_nil)) (pe_op op_pow pe_int pe_int) (nomark _)))))
      (pss_cons (ps_set (i := 2) nd rfl (.inl rfl) (pe_op op_add (pe_op op_mul pe_int (pe_op op_sub (pe_callB call_abs (by rfl) mabs (by decide +kernel) (pa_cons (pv 4) pa_nil)) (pe_op op_pow pe_int pe_int))) (pe_callTy call_int1 (by rfl) mint (by decide +kernel) (pa_cons (pe_cmpR op_lt (pv 4) pe_int (nomark _)) pa_nil))))
      (pss_cons (ps_asg (pe_op op_fdivN (pe_callTy call_int1 (by rfl) mint (by decide +kernel) (pa_cons (pv 2) pa_nil)) (pv 1)) (pg_sub (pv 0) pe_int set_list))
      (pss_one (ps_ret (pe_op op_modN (pe_callTy call_int1 (by rfl) mint (by decide +kernel) (pa_cons (pv 2) pa_nil)) (pv 1)))))) pss_nil)
    (pss_cons (ps_set (i := 5) nd rfl (.inl rfl) (pe_op op_modN (pe_callTy call_int1 (by rfl) mint (by decide +kernel) (pa_cons (pe_op op_pow (pe_op op_add (pe_op op_add (pe_op op_modN (pe_callTy call_int1 (by rfl) mint (by decide +kernel) (pa_cons (pv 4) pa_nil)) pe_int) (pe_op op_mul pe_int (pv 3))) pe_int) pe_int) pa_nil)) pe_int))
    (pss_cons (ps_set (i := 5) nd rfl (.inl rfl) (pe_op op_modN (pe_callTy call_int1 (by rfl) mint (by decide +kernel) (pa_cons (pe_op op_pow (pe_op op_add (pe_op op_add (pe_op op_mul (pv 5) (pe_op op_add (pe_op op_mul pe_int (pv 3)) pe_int)) (pe_op op_mul (pe_op op_mul pe_int (pv 3)) (pv 3))) pe_int) pe_int) pa_nil)) pe_int))
    (pss_one (ps_ret (pe_op op_modN (pe_callTy call_int1 (by rfl) mint (by decide +kernel) (pa_cons (pe_op op_fdivN (pv 5) pe_int) pa_nil)) (pv 1))))))))))), ?_⟩
  have hn0 : n ≠ 0 := by omega
  -- if pen[2] > 0
  refine ⟨.ref a, rfl, a, _, 2, .int r, rfl, rfl, SqL.of hA, rfl, r, 0, rfl, rfl, _, rfl, ite2 (fun _ => ?_) (fun _ => ?_)⟩
  · refine ⟨.ref a, rfl, a, _, 2, .int r, rfl, rfl, SqL.of hA, rfl, .inl ⟨r, rfl, ?_⟩⟩
    refine ⟨.int r, rfl, .int n, rfl, r, n, rfl, rfl, hd1, .ref a, rfl, a, _, 2, 2, rfl, rfl, hA, rfl, ?_⟩
    refine ⟨.int r, rfl, .inl ⟨r, rfl, .int n, rfl, r, n, rfl, rfl, hn0, ?_⟩⟩
    exact fin _ t (r.fdiv n) _ (fun x o e ne => by rw [upd_ne ne]; exact e) upd_same ht (by omega) (fdiv_nn hr0 hn) (fmod_lt hn).1 (fmod_lt hn).2
  · -- turn, cell
    refine ⟨.ref a, rfl, a, _, 1, .int t, rfl, rfl, SqL.of hA, rfl, ?_⟩
    refine ⟨.int t, rfl, t, 1, rfl, rfl, .ref a, rfl, a, _, 1, 1, rfl, rfl, hA, rfl, ?_⟩
    have hA1 : (upd H a (.lst [.ref c, .int (t + 1), .int r])) a = some (.lst [.ref c, .int (t + 1), .int r]) := upd_same
    have hC1 : (upd H a (.lst [.ref c, .int (t + 1), .int r])) c = some (.lst (cells.map V.int)) := by rw [upd_ne hca]; exact hC
    have k1 : ∀ x o, H x = some o → x ≠ a → (upd H a (.lst [.ref c, .int (t + 1), .int r])) x = some o := fun x o e ne => by rw [upd_ne ne]; exact e
    refine ⟨.int t, rfl, _, t, rfl, rfl, .inl (by decide), _, _, rfl, rfl, ?_⟩
    refine ⟨.ref a, rfl, a, _, 0, .ref c, rfl, rfl, SqL.of hA1, rfl, Nat.zero_le _, fun p hp => ?_⟩
    have hA2 := same_new (o := .lst []) hp _ _ hA1
    have hC2 := same_new (o := .lst []) hp _ _ hC1
    have k2 : ∀ x o, H x = some o → x ≠ a → (upd (upd H a (.lst [.ref c, .int (t + 1), .int r])) p (.lst [])) x = some o := fun x o e ne => same_new hp _ _ (k1 x o e ne)
    refine ⟨.list (cells.map PyData.int), .list [], .lst (SqL.of hC2) (cells_dp cells), .lst (SqL.of upd_same) .nil, cells_shaped cells, by decide +kernel, _, rfl, ?_⟩
    have hpow : (0 : Int) ≤ 18 ∧ (18 : Int) ≤ 1000000 ∧ (10 : Int).natAbs < 2 ^ 64 := by decide
    refine ite2 (fun hne => ?_) (fun _ => ?_)
    · -- a cell of the script
      have hne2 : (!cells.isEmpty) = true := by rw [← cells_eqv]; exact hne
      have hlen : 0 < cells.length := by
        cases cells with
        | nil => cases hne2
        | cons _ _ => exact Nat.zero_lt_succ _
      have hix : ∃ z, atI (cells.map V.int) (t.fmod (((cells.map V.int).length : Nat) : Int)) = some (.int z) := by
        have hb := fmod_lt (a := t) (n := ((cells.length : Nat) : Int)) (by omega)
        rw [List.length_map]
        have e : t.fmod (cells.length : Int) = (((t.fmod (cells.length : Int)).toNat : Nat) : Int) := (Int.toNat_of_nonneg hb.1).symm
        have hl : (t.fmod (cells.length : Int)).toNat < cells.length := by omega
        refine ⟨cells[(t.fmod (cells.length : Int)).toNat], ?_⟩
        refine (congrArg (atI (cells.map V.int)) e).trans (atI_nat ?_)
        rw [List.getElem?_map, List.getElem?_eq_getElem hl]; rfl
      obtain ⟨z0, hz0⟩ := hix
      refine ⟨.ref a, rfl, a, _, 0, .ref c, rfl, rfl, SqL.of hA2, rfl, .int t, rfl, .inl ⟨t, rfl, .ref a, rfl, a, _, 0, .ref c, rfl, rfl, SqL.of hA2, rfl, c, _, rfl, .inl (SqL.of hC2), t, _, rfl, rfl, ?_, c, _, _, .int z0, rfl, rfl, SqL.of hC2, hz0, ?_⟩⟩
      · rw [List.length_map]; omega
      refine ⟨.int t, rfl, .ref a, rfl, a, _, 0, .ref c, rfl, rfl, SqL.of hA2, rfl, c, _, rfl, .inl (SqL.of hC2), t, _, rfl, rfl, _, rfl, ite2 (fun _ => ?_) (fun _ => iteF ?_)⟩
      · refine ⟨.int z0, rfl, z0, rfl, 10, 18, rfl, rfl, hpow, _, _, rfl, rfl, _, rfl, ite2 (fun hge => ?_) (fun _ => ?_)⟩
        · refine ⟨.int z0, rfl, z0, rfl, 10, 18, rfl, rfl, hpow, _, _, rfl, rfl, 2, _, rfl, rfl, .inl (by decide), .int z0, rfl, z0, 0, rfl, rfl, .inr ⟨_, rfl, _, _, rfl, rfl, ?_⟩⟩
          refine ⟨_, rfl, .inl ⟨_, rfl, .int n, rfl, _, n, rfl, rfl, hd1, .ref a, rfl, a, _, 2, 2, rfl, rfl, hA2, rfl, ?_⟩⟩
          refine ⟨_, rfl, .inl ⟨_, rfl, .int n, rfl, _, n, rfl, rfl, hn0, ?_⟩⟩
          refine fin _ (t + 1) _ _ (fun x o e ne => by rw [upd_ne ne]; exact k2 x o e ne) upd_same (by omega) (by omega) (fdiv_nn ?_ hn) (fmod_lt hn).1 (fmod_lt hn).2
          have hg2 := of_decide_eq_true hge
          have e18 : (10 : Int) ^ (18 : Int).toNat = 1000000000000000000 := by decide
          rw [e18] at hg2 ⊢
          have hb : (0 : Int) ≤ (if decide (z0 < 0) = true then 1 else 0) := by split <;> decide
          omega
        · refine ⟨.int z0, rfl, .inl ⟨z0, rfl, z0, _, rfl, rfl, (by show (_ : Int) ≠ 0; decide), .int t, rfl, _, t, rfl, rfl, .inl (by decide), _, _, rfl, rfl, _, _, rfl, rfl, _, _, rfl, rfl, ⟨by decide, by decide, draw_bound1 ht ht2 (by decide) (by decide) (by decide) (by decide)⟩, .inl ⟨_, rfl, _, _, rfl, rfl, (by show (_ : Int) ≠ 0; decide), ?_⟩⟩⟩
          refine ⟨_, rfl, .int t, rfl, _, t, rfl, rfl, .inl (by decide), _, _, rfl, rfl, _, _, rfl, rfl, .inl ?_, .int t, rfl, _, t, rfl, rfl, .inl (by decide), .int t, rfl, _, t, rfl, rfl, .inl ?_, _, _, rfl, rfl, _, _, rfl, rfl, _, _, rfl, rfl, ⟨by decide, by decide, draw_bound (fmod_lt (by decide)).1 (Int.lt_trans (fmod_lt (by decide)).2 (by decide)) ht ht2 (by decide) (by decide)⟩, .inl ⟨_, rfl, _, _, rfl, rfl, (by show (_ : Int) ≠ 0; decide), ?_⟩⟩
          · have hm := fmod_lt (a := (z0.fmod 2147483563 + 71233 * t + 9173) ^ (5 : Int).toNat) (n := 2147483629) (by decide)
            exact ⟨Int.lt_of_lt_of_le (by decide) hm.1, Int.lt_trans hm.2 (by decide)⟩
          · omega
          refine ⟨_, rfl, _, _, rfl, rfl, ⟨by decide, by decide⟩, .inl ⟨_, rfl, .int n, rfl, _, n, rfl, rfl, hn0, ?_⟩⟩
          exact fin _ (t + 1) r _ k2 hA2 (by omega) (by omega) hr0 (fmod_lt hn).1 (fmod_lt hn).2
      · refine ⟨.int z0, rfl, .inl ⟨z0, rfl, z0, _, rfl, rfl, (by show (_ : Int) ≠ 0; decide), .int t, rfl, _, t, rfl, rfl, .inl (by decide), _, _, rfl, rfl, _, _, rfl, rfl, _, _, rfl, rfl, ⟨by decide, by decide, draw_bound1 ht ht2 (by decide) (by decide) (by decide) (by decide)⟩, .inl ⟨_, rfl, _, _, rfl, rfl, (by show (_ : Int) ≠ 0; decide), ?_⟩⟩⟩
        refine ⟨_, rfl, .int t, rfl, _, t, rfl, rfl, .inl (by decide), _, _, rfl, rfl, _, _, rfl, rfl, .inl ?_, .int t, rfl, _, t, rfl, rfl, .inl (by decide), .int t, rfl, _, t, rfl, rfl, .inl ?_, _, _, rfl, rfl, _, _, rfl, rfl, _, _, rfl, rfl, ⟨by decide, by decide, draw_bound (fmod_lt (by decide)).1 (Int.lt_trans (fmod_lt (by decide)).2 (by decide)) ht ht2 (by decide) (by decide)⟩, .inl ⟨_, rfl, _, _, rfl, rfl, (by show (_ : Int) ≠ 0; decide), ?_⟩⟩
        · have hm := fmod_lt (a := (z0.fmod 2147483563 + 71233 * t + 9173) ^ (5 : Int).toNat) (n := 2147483629) (by decide)
          exact ⟨Int.lt_of_lt_of_le (by decide) hm.1, Int.lt_trans hm.2 (by decide)⟩
        · omega
        refine ⟨_, rfl, _, _, rfl, rfl, ⟨by decide, by decide⟩, .inl ⟨_, rfl, .int n, rfl, _, n, rfl, rfl, hn0, ?_⟩⟩
        exact fin _ (t + 1) r _ k2 hA2 (by omega) (by omega) hr0 (fmod_lt hn).1 (fmod_lt hn).2
    · skip
      refine ⟨.int t, rfl, .ref a, rfl, a, _, 0, .ref c, rfl, rfl, SqL.of hA2, rfl, c, _, rfl, .inl (SqL.of hC2), t, _, rfl, rfl, _, rfl, ite2 (fun _ => ?_) (fun _ => iteF ?_)⟩
      · refine ⟨.int (71233 * t + 9173), rfl, (71233 * t + 9173), rfl, 10, 18, rfl, rfl, hpow, _, _, rfl, rfl, _, rfl, ite2 (fun hge => ?_) (fun _ => ?_)⟩
        · refine ⟨.int (71233 * t + 9173), rfl, (71233 * t + 9173), rfl, 10, 18, rfl, rfl, hpow, _, _, rfl, rfl, 2, _, rfl, rfl, .inl (by decide), .int (71233 * t + 9173), rfl, (71233 * t + 9173), 0, rfl, rfl, .inr ⟨_, rfl, _, _, rfl, rfl, ?_⟩⟩
          refine ⟨_, rfl, .inl ⟨_, rfl, .int n, rfl, _, n, rfl, rfl, hd1, .ref a, rfl, a, _, 2, 2, rfl, rfl, hA2, rfl, ?_⟩⟩
          refine ⟨_, rfl, .inl ⟨_, rfl, .int n, rfl, _, n, rfl, rfl, hn0, ?_⟩⟩
          refine fin _ (t + 1) _ _ (fun x o e ne => by rw [upd_ne ne]; exact k2 x o e ne) upd_same (by omega) (by omega) (fdiv_nn ?_ hn) (fmod_lt hn).1 (fmod_lt hn).2
          have hg2 := of_decide_eq_true hge
          have e18 : (10 : Int) ^ (18 : Int).toNat = 1000000000000000000 := by decide
          rw [e18] at hg2 ⊢
          have hb : (0 : Int) ≤ (if decide ((71233 * t + 9173) < 0) = true then 1 else 0) := by split <;> decide
          omega
        · refine ⟨.int (71233 * t + 9173), rfl, .inl ⟨(71233 * t + 9173), rfl, (71233 * t + 9173), _, rfl, rfl, (by show (_ : Int) ≠ 0; decide), .int t, rfl, _, t, rfl, rfl, .inl (by decide), _, _, rfl, rfl, _, _, rfl, rfl, _, _, rfl, rfl, ⟨by decide, by decide, draw_bound1 ht ht2 (by decide) (by decide) (by decide) (by decide)⟩, .inl ⟨_, rfl, _, _, rfl, rfl, (by show (_ : Int) ≠ 0; decide), ?_⟩⟩⟩
          refine ⟨_, rfl, .int t, rfl, _, t, rfl, rfl, .inl (by decide), _, _, rfl, rfl, _, _, rfl, rfl, .inl ?_, .int t, rfl, _, t, rfl, rfl, .inl (by decide), .int t, rfl, _, t, rfl, rfl, .inl ?_, _, _, rfl, rfl, _, _, rfl, rfl, _, _, rfl, rfl, ⟨by decide, by decide, draw_bound (fmod_lt (by decide)).1 (Int.lt_trans (fmod_lt (by decide)).2 (by decide)) ht ht2 (by decide) (by decide)⟩, .inl ⟨_, rfl, _, _, rfl, rfl, (by show (_ : Int) ≠ 0; decide), ?_⟩⟩
          · have hm := fmod_lt (a := ((71233 * t + 9173).fmod 2147483563 + 71233 * t + 9173) ^ (5 : Int).toNat) (n := 2147483629) (by decide)
            exact ⟨Int.lt_of_lt_of_le (by decide) hm.1, Int.lt_trans hm.2 (by decide)⟩
          · omega
          refine ⟨_, rfl, _, _, rfl, rfl, ⟨by decide, by decide⟩, .inl ⟨_, rfl, .int n, rfl, _, n, rfl, rfl, hn0, ?_⟩⟩
          exact fin _ (t + 1) r _ k2 hA2 (by omega) (by omega) hr0 (fmod_lt hn).1 (fmod_lt hn).2
      · refine ⟨.int (71233 * t + 9173), rfl, .inl ⟨(71233 * t + 9173), rfl, (71233 * t + 9173), _, rfl, rfl, (by show (_ : Int) ≠ 0; decide), .int t, rfl, _, t, rfl, rfl, .inl (by decide), _, _, rfl, rfl, _, _, rfl, rfl, _, _, rfl, rfl, ⟨by decide, by decide, draw_bound1 ht ht2 (by decide) (by decide) (by decide) (by decide)⟩, .inl ⟨_, rfl, _, _, rfl, rfl, (by show (_ : Int) ≠ 0; decide), ?_⟩⟩⟩
        refine ⟨_, rfl, .int t, rfl, _, t, rfl, rfl, .inl (by decide), _, _, rfl, rfl, _, _, rfl, rfl, .inl ?_, .int t, rfl, _, t, rfl, rfl, .inl (by decide), .int t, rfl, _, t, rfl, rfl, .inl ?_, _, _, rfl, rfl, _, _, rfl, rfl, _, _, rfl, rfl, ⟨by decide, by decide, draw_bound (fmod_lt (by decide)).1 (Int.lt_trans (fmod_lt (by decide)).2 (by decide)) ht ht2 (by decide) (by decide)⟩, .inl ⟨_, rfl, _, _, rfl, rfl, (by show (_ : Int) ≠ 0; decide), ?_⟩⟩
        · have hm := fmod_lt (a := ((71233 * t + 9173).fmod 2147483563 + 71233 * t + 9173) ^ (5 : Int).toNat) (n := 2147483629) (by decide)
          exact ⟨Int.lt_of_lt_of_le (by decide) hm.1, Int.lt_trans hm.2 (by decide)⟩
        · omega
        refine ⟨_, rfl, _, _, rfl, rfl, ⟨by decide, by decide⟩, .inl ⟨_, rfl, .int n, rfl, _, n, rfl, rfl, hn0, ?_⟩⟩
        exact fin _ (t + 1) r _ k2 hA2 (by omega) (by omega) hr0 (fmod_lt hn).1 (fmod_lt hn).2
end
end W00

set_option Elab.async false
set_option linter.all false
set_option maxRecDepth 100000
set_option maxHeartbeats 4000000
namespace W00
open PySem PySem.Spec PyProof.Rows L2 Z
section
variable {P : Program} {w : World} {K : PySem.W.Frag} {mg : Str → Option Value} {base : Heap}
abbrev s_law_pen : Stmt := top 26
theorem sc_law_pen : FnScope ["script", "cell"] ["script"] (defScope s_law_pen) := ⟨rfl, rfl, rfl, by decide +kernel, rfl, by decide +kernel, by decide +kernel⟩
def spPen (K : PySem.W.Frag) : Sp := fun vs H Q E => ∃ (s : Addr) (ns : List Int), vs = [.ref s] ∧ SqL K H s (ns.map V.int) ∧ ns.length ≤ 63 ∧ ∀ (a c : Addr) (cells : List Int) (H' : Hp), Same H H' → H a = none → H c = none → c ≠ a →
  H' a = some (.lst [.ref c, .int 0, .int 0]) → H' c = some (.lst (cells.map V.int)) → Q (.ref a) H'
theorem ok_law_pen {f : Addr} {fd : FuncData} (F : Fun K "_law_pen" "_law_pen" s_law_pen f fd) (mint : mg "int" = none) : FnG P w K mg base 1 f fd ["script"] (spPen K) := by
  have S := sc_law_pen
  refine fnG_raw F S (fun vs H Q E h => by obtain ⟨s, ns, rfl, _⟩ := h; rfl) fun cdv A outer s0 H vs Q E hr h => ?_
  obtain ⟨s, ns, rfl, hS, hl, fin⟩ := h
  refine ⟨_, pss_one (ps_ret (pe_lst (pa_cons (pe_lc (own := [("cell", 1)]) rfl S.nd (pi_list (pe_slice sl_list (pv 0) po_none (po_some pe_int))) (blkOk_by rfl) (fun _ _ _ _ _ => pg_name (i := 1) S.nd rfl (Or.inl rfl)) (fun _ _ _ _ _ => pts_nil) (fun _ _ _ _ _ => pe_callTy call_int1 (by rfl) mint bt_int (pa_cons (pv 1) pa_nil))) (pa_cons pe_int (pa_cons pe_int pa_nil))))), ?_⟩
  have ecut : ∃ cells : List Int, cutV (ns.map V.int) none (some 63) = cells.map V.int ∧ cells.length ≤ 63 := by
    unfold cutV
    rw [← List.map_drop, ← List.map_take]
    refine ⟨_, rfl, ?_⟩
    rw [List.length_take, List.length_drop]; omega
  obtain ⟨cells, ec, el⟩ := ecut
  refine ⟨.ref s, rfl, 63, rfl, s, _, rfl, hS, fun l hL => ⟨l, rfl, ⟨_, SqL.of upd_same⟩, fun c hc => ?_⟩⟩
  rw [ec] at hc ⊢
  have s1 : Same H (upd H l (.lst (cells.map V.int))) := same_new hL
  have cl : c ≠ l := fun z => by rw [z, upd_same] at hc; cases hc
  have hc0 : H c = none := by rw [upd_ne cl] at hc; exact hc
  refine lc_list (K := K) (a := l) (xs := cells.map V.int) (fun i H' => H' c = some (.lst ((cells.take i).map V.int)) ∧ Same H H' ∧ H' l = some (.lst (cells.map V.int))) ⟨?_, ?_, ?_⟩ (fun i H' _ q => SqL.of q.2.2) ?_ ?_
  · rw [upd_same]; rfl
  · exact s1.trans (same_new hc)
  · rw [upd_ne cl.symm, upd_same]
  · rintro i x H' hi ⟨q1, q2, q3⟩
    have hi2 : i < cells.length := by
      have := (List.getElem?_eq_some_iff.mp hi).1
      rw [List.length_map] at this; exact this
    obtain rfl : x = .int cells[i] := by
      rw [List.getElem?_map, List.getElem?_eq_getElem hi2] at hi
      exact (Option.some.inj hi).symm
    refine ⟨rfl, ?_⟩
    simp only [tYes, reduceIte]
    refine ⟨.int cells[i], rfl, .inl ⟨_, rfl, _, q1, ?_, ?_, ?_, ?_⟩⟩
    · rw [List.length_map, List.length_take]
      exact Nat.lt_of_le_of_lt (Nat.le_trans (Nat.min_le_left _ _) (Nat.le_trans (Nat.le_of_lt hi2) el)) (by decide)
    · rw [upd_same, List.take_succ, List.getElem?_eq_getElem hi2, List.map_append]; rfl
    · intro b o e
      rw [upd_ne (ne_of_none e hc0)]; exact q2 b o e
    · rw [upd_ne cl.symm]; exact q3
  · rintro H' ⟨q1, q2, q3⟩
    rw [List.length_map, List.take_length] at q1
    refine ⟨by show 3 ≤ sizeLine; decide, fun a ha => ?_⟩
    have ca : c ≠ a := fun z => by rw [← z, q1] at ha; cases ha
    refine fin a c cells _ (q2.trans (same_new ha)) ?_ hc0 ca upd_same (by rw [upd_ne ca]; exact q1)
    cases e : H a with
    | none => rfl
    | some o => rw [q2 a o e] at ha; cases ha
end
end W00

set_option Elab.async false
set_option linter.all false
set_option maxRecDepth 100000
set_option maxHeartbeats 4000000
namespace W00
open PySem PySem.Spec PyProof.Rows L2 Z
def tab_MADE_NAMES : List (Str × D) := [("made", (.int 2)), ("own", (.int 1))]
def tab_PLAIN_NAMES : List (Str × D) := [("mark", (.int 1)), ("to", (.int 2)), ("maker", (.int 1))]
structure Txt (K : PySem.W.Frag) (w : World) (mg : Str → Option Value) : Prop where
  m_all : mg "all" = none
  m_bool : mg "bool" = none
  m_int : mg "int" = none
  m_isinstance : mg "isinstance" = none
  m_len : mg "len" = none
  m_list : mg "list" = none
  m_range : mg "range" = none
  m_repr : mg "repr" = none
  m_str : mg "str" = none
  m_tuple : mg "tuple" = none
  g_LETTERS : GlV K mg "LETTERS" (.str "abcdefghijklmnopqrstuvwxyz")
  g_MADE : GlV K mg "MADE" (.str "made")
  g_MOST_LETTERS : GlV K mg "MOST_LETTERS" (.int 8)
  g_MOST_NUMBER : GlV K mg "MOST_NUMBER" (.int 999999)
  g_OWN : GlV K mg "OWN" (.str "own")
  g_TO : GlV K mg "TO" (.str "to")
  t_MADE_NAMES : KTab K w mg "MADE_NAMES" tab_MADE_NAMES
  t_PLAIN_NAMES : KTab K w mg "PLAIN_NAMES" tab_PLAIN_NAMES
section
variable {P : Program} {w : World} {K : PySem.W.Frag} {mg : Str → Option Value} {base : Heap}
abbrev f__law_draw : List D → T D := drawD
theorem ar__law_draw : Ar 2 f__law_draw := ar_drawD
/-! is_integer -/
abbrev s_is_integer : Stmt := top 3
theorem sc_is_integer : FnScope ["value"] ["value"] (defScope s_is_integer) := ⟨rfl, rfl, rfl, by decide +kernel, rfl, by decide +kernel, by decide +kernel⟩
def b_is_integer : FS := sRet (eAnd (eCallB opIsi (aCons (eVar 0) (aCons (eC (.ty .int)) (aNil)))) (eNot (eCallB opIsi (aCons (eVar 0) (aCons (eC (.ty .bool)) (aNil))))))
def f_is_integer : List D → T D := fnD 1 1 b_is_integer
theorem ar_is_integer : Ar 1 f_is_integer := ar_fnD
theorem ok_is_integer {f : Addr} {fd : FuncData} (F : Fun K "is_integer" "is_integer" s_is_integer f fd) (T : Txt K w mg) : FnG P w K mg base 1 f fd ["value"] (spD K 1 f_is_integer) := by
  have S := sc_is_integer
  refine fnG_by ["value"] ["value"] 1 1 0 (fs := b_is_integer) rfl rfl rfl F S ?_
  intro cdv A outer s H E B hr hx
  exact sss_one (ss_ret (se_and (se_callB c_isi vc_isi T.m_isinstance (sa_cons (se_var 0) (sa_cons (se_ty .int T.m_int (hv := bt_int)) (sa_nil))) (hb := bt_isinstance)) (se_one (se_not (se_callB c_isi vc_isi T.m_isinstance (sa_cons (se_var 0) (sa_cons (se_ty .bool T.m_bool (hv := bt_bool)) (sa_nil))) (hb := bt_isinstance))))))
/-! is_within -/
abbrev s_is_within : Stmt := top 4
theorem sc_is_within : FnScope ["value", "least", "most"] ["value", "least", "most"] (defScope s_is_within) := ⟨rfl, rfl, rfl, by decide +kernel, rfl, by decide +kernel, by decide +kernel⟩
def b_is_within : FS := sRet (eAnd (eCallF f_is_integer (aCons (eVar 0) (aNil))) (eChain opLe opLe (eVar 1) (eVar 0) (eVar 2)))
def f_is_within : List D → T D := fnD 3 3 b_is_within
theorem ar_is_within : Ar 3 f_is_within := ar_fnD
theorem ok_is_within {f : Addr} {fd : FuncData} (F : Fun K "is_within" "is_within" s_is_within f fd) (T : Txt K w mg) (c_is_integer : Fn P w K mg base 1 "is_integer" 1 f_is_integer) : FnG P w K mg base 2 f fd ["value", "least", "most"] (spD K 3 f_is_within) := by
  have S := sc_is_within
  refine fnG_by ["value", "least", "most"] ["value", "least", "most"] 3 3 1 (fs := b_is_within) rfl rfl rfl F S ?_
  intro cdv A outer s H E B hr hx
  exact sss_one (ss_ret (se_and (se_call c_is_integer ar_is_integer hr (by decide) hx (sa_cons (se_var 0) (sa_nil))) (se_one (se_chain op_le v_le op_le v_le (se_var 1) (se_var 0) (se_var 2)))))
/-! is_listed -/
abbrev s_is_listed : Stmt := top 5
theorem sc_is_listed : FnScope ["value"] ["value"] (defScope s_is_listed) := ⟨rfl, rfl, rfl, by decide +kernel, rfl, by decide +kernel, by decide +kernel⟩
def b_is_listed : FS := sRet (eCallB opIsi (aCons (eVar 0) (aCons (eTup (aCons (eC (.ty .list)) (aCons (eC (.ty .tuple)) (aNil)))) (aNil))))
def f_is_listed : List D → T D := fnD 1 1 b_is_listed
theorem ar_is_listed : Ar 1 f_is_listed := ar_fnD
theorem ok_is_listed {f : Addr} {fd : FuncData} (F : Fun K "is_listed" "is_listed" s_is_listed f fd) (T : Txt K w mg) : FnG P w K mg base 1 f fd ["value"] (spD K 1 f_is_listed) := by
  have S := sc_is_listed
  refine fnG_by ["value"] ["value"] 1 1 0 (fs := b_is_listed) rfl rfl rfl F S ?_
  intro cdv A outer s H E B hr hx
  exact sss_one (ss_ret (se_callB c_isi vc_isi T.m_isinstance (sa_cons (se_var 0) (sa_cons (se_tup (sa_cons (se_ty .list T.m_list (hv := bt_list)) (sa_cons (se_ty .tuple T.m_tuple (hv := bt_tuple)) (sa_nil)))) (sa_nil))) (hb := bt_isinstance)))
/-! is_row -/
abbrev s_is_row : Stmt := top 6
theorem sc_is_row : FnScope ["value", "many"] ["value", "many"] (defScope s_is_row) := ⟨rfl, rfl, rfl, by decide +kernel, rfl, by decide +kernel, by decide +kernel⟩
def b_is_row : FS := sRet (eAnd (eCallF f_is_listed (aCons (eVar 0) (aNil))) (eOp2 opEq (eCallB opLen (aCons (eVar 0) (aNil))) (eVar 1)))
def f_is_row : List D → T D := fnD 2 2 b_is_row
theorem ar_is_row : Ar 2 f_is_row := ar_fnD
theorem ok_is_row {f : Addr} {fd : FuncData} (F : Fun K "is_row" "is_row" s_is_row f fd) (T : Txt K w mg) (c_is_listed : Fn P w K mg base 1 "is_listed" 1 f_is_listed) : FnG P w K mg base 2 f fd ["value", "many"] (spD K 2 f_is_row) := by
  have S := sc_is_row
  refine fnG_by ["value", "many"] ["value", "many"] 2 2 1 (fs := b_is_row) rfl rfl rfl F S ?_
  intro cdv A outer s H E B hr hx
  exact sss_one (ss_ret (se_and (se_call c_is_listed ar_is_listed hr (by decide) hx (sa_cons (se_var 0) (sa_nil))) (se_one (se_cmp (o_eq hr.room.units) v_eq (se_callB call_len vc_len T.m_len (sa_cons (se_var 0) (sa_nil)) (hb := bt_len)) (se_var 1)))))
/-! is_name -/
abbrev s_is_name : Stmt := top 7
theorem sc_is_name : FnScope ["value", "sign"] ["value"] (defScope s_is_name) := ⟨rfl, rfl, rfl, by decide +kernel, rfl, by decide +kernel, by decide +kernel⟩
def b_is_name : FS := sSeq (sIf (kOr (kNot (kTru (eCallB opIsi (aCons (eVar 0) (aCons (eC (.ty .str)) (aNil)))))) (kNot (kBl (eChain opLe opLe (eC (.int 1)) (eCallB opLen (aCons (eVar 0) (aNil))) (eC (.int 8)))))) (sRet (eC (.bl false))) (sNext)) (sRet (eCallB opAll (aCons (eComp (.one 1) (aStr (eVar 0)) (kYes) (eOp2 opIn (eVar 1) (eC (.str "abcdefghijklmnopqrstuvwxyz")))) (aNil))))
def f_is_name : List D → T D := fnD 2 1 b_is_name
theorem ar_is_name : Ar 1 f_is_name := ar_fnD
theorem ok_is_name {f : Addr} {fd : FuncData} (F : Fun K "is_name" "is_name" s_is_name f fd) (T : Txt K w mg) : FnG P w K mg base 1 f fd ["value"] (spD K 1 f_is_name) := by
  have S := sc_is_name
  refine fnG_by ["value", "sign"] ["value"] 2 1 0 (fs := b_is_name) rfl rfl rfl F S ?_
  intro cdv A outer s H E B hr hx
  exact sss_cons (ss_if (PW.pt (sk_or (sk_not (sk_tru (se_callB c_isi vc_isi T.m_isinstance (sa_cons (se_var 0) (sa_cons (se_ty .str T.m_str (hv := bt_str)) (sa_nil))) (hb := bt_isinstance)))) (sk_or1 (sk_not (sk_ch op_le v_le op_le v_le (se_int) (se_callB call_len vc_len T.m_len (sa_cons (se_var 0) (sa_nil)) (hb := bt_len)) (se_glob T.g_MOST_LETTERS)))))) (sss_one (ss_ret (se_bl))) (sss_nil)) (sss_one (ss_ret (se_callB (cr_all rfl) vc_all T.m_all (sa_cons (se_comp (tg := .one 1) (own := [("sign", 1)]) rfl S.nd (si_str (se_var 0)) (blkOk_by rfl) trivial rfl (fun _ _ _ _ _ => sg_one 1 S.nd) (fun _ _ _ _ _ => pts_nil) tt_yes (fun _ _ _ _ _ => se_cmp o_in v_in (se_var 1) (se_glob T.g_LETTERS))) (sa_nil)) (hb := bt_all))))
/-! has_names -/
abbrev s_has_names : Stmt := top 17
theorem sc_has_names : FnScope ["value", "many", "part"] ["value", "many"] (defScope s_has_names) := ⟨rfl, rfl, rfl, by decide +kernel, rfl, by decide +kernel, by decide +kernel⟩
def b_has_names : FS := sRet (eCallB opAll (aCons (eComp (.one 2) (aSeq (eSl (eVar 0) (oPt (eC (.int 1))) (oPt (eOp2 opAdd (eC (.int 1)) (eVar 1))))) (kYes) (eCallF f_is_name (aCons (eVar 2) (aNil)))) (aNil)))
def f_has_names : List D → T D := fnD 3 2 b_has_names
theorem ar_has_names : Ar 2 f_has_names := ar_fnD
theorem ok_has_names {f : Addr} {fd : FuncData} (F : Fun K "has_names" "has_names" s_has_names f fd) (T : Txt K w mg) (c_is_name : Fn P w K mg base 1 "is_name" 1 f_is_name) : FnG P w K mg base 2 f fd ["value", "many"] (spD K 2 f_has_names) := by
  have S := sc_has_names
  refine fnG_by ["value", "many", "part"] ["value", "many"] 3 2 1 (fs := b_has_names) rfl rfl rfl F S ?_
  intro cdv A outer s H E B hr hx
  exact sss_one (ss_ret (se_callB (cr_all rfl) vc_all T.m_all (sa_cons (se_comp (tg := .one 2) (own := [("part", 2)]) rfl S.nd (si_seq (se_sl (se_var 0) (so_pt (se_int)) (so_pt (se_op o_add v_add (se_int) (se_var 1))))) (blkOk_by rfl) trivial rfl (fun _ _ _ _ _ => sg_one 2 S.nd) (fun _ _ _ _ _ => pts_nil) tt_yes (fun _ _ _ _ _ => se_call c_is_name ar_is_name hr (by decide) (Lets.no fun _ _ _ _ h => h) (sa_cons (se_var 2) (sa_nil)))) (sa_nil)) (hb := bt_all)))
/-! is_plain -/
abbrev s_is_plain : Stmt := top 18
theorem sc_is_plain : FnScope ["value", "many"] ["value"] (defScope s_is_plain) := ⟨rfl, rfl, rfl, by decide +kernel, rfl, by decide +kernel, by decide +kernel⟩
def b_is_plain : FS := sSeq (sIf (kOr (kNot (kTru (eCallB opIsi (aCons (eVar 0) (aCons (eTup (aCons (eC (.ty .list)) (aCons (eC (.ty .tuple)) (aNil)))) (aNil)))))) (kOr (kBl (eOp2 opEq (eCallB opLen (aCons (eVar 0) (aNil))) (eC (.int 0)))) (kNot (kTru (eCallB opIsi (aCons (eOp2 opIx (eVar 0) (eC (.int 0))) (aCons (eC (.ty .str)) (aNil)))))))) (sRet (eC (.bl false))) (sNext)) (sSeq (sSet 1 (eOp1 (opTabGet tab_PLAIN_NAMES) (eOp2 opIx (eVar 0) (eC (.int 0))))) (sRet (eAnd (eOp2 opNotN (eVar 1) (eC .non)) (eAnd (eOp2 opEq (eCallB opLen (aCons (eVar 0) (aNil))) (eOp2 opAdd (eC (.int 1)) (eVar 1))) (eCallF f_has_names (aCons (eVar 0) (aCons (eVar 1) (aNil))))))))
def f_is_plain : List D → T D := fnD 2 1 b_is_plain
theorem ar_is_plain : Ar 1 f_is_plain := ar_fnD
theorem ok_is_plain {f : Addr} {fd : FuncData} (F : Fun K "is_plain" "is_plain" s_is_plain f fd) (T : Txt K w mg) (c_has_names : Fn P w K mg base 2 "has_names" 2 f_has_names) : FnG P w K mg base 3 f fd ["value"] (spD K 1 f_is_plain) := by
  have S := sc_is_plain
  refine fnG_by ["value", "many"] ["value"] 2 1 2 (fs := b_is_plain) rfl rfl rfl F S ?_
  intro cdv A outer s H E B hr hx
  exact sss_cons (ss_if (PW.pt (sk_or (sk_not (sk_tru (se_callB c_isi vc_isi T.m_isinstance (sa_cons (se_var 0) (sa_cons (se_tup (sa_cons (se_ty .list T.m_list (hv := bt_list)) (sa_cons (se_ty .tuple T.m_tuple (hv := bt_tuple)) (sa_nil)))) (sa_nil))) (hb := bt_isinstance)))) (sk_or (sk_cmp (o_eq hr.room.units) v_eq (se_callB call_len vc_len T.m_len (sa_cons (se_var 0) (sa_nil)) (hb := bt_len)) (se_int)) (sk_or1 (sk_not (sk_tru (se_callB c_isi vc_isi T.m_isinstance (sa_cons (se_ix ix_seq v_ix (se_var 0) (se_int)) (sa_cons (se_ty .str T.m_str (hv := bt_str)) (sa_nil))) (hb := bt_isinstance)))))))) (sss_one (ss_ret (se_bl))) (sss_nil)) (sss_cons (ss_set 1 S.nd (se_tabGet T.t_PLAIN_NAMES (se_ix ix_seq v_ix (se_var 0) (se_int)) ⟨rfl, rfl, rfl, rfl⟩)) (sss_one (ss_ret (se_and (se_cmp op_notN v_notN (se_var 1) (se_non)) (se_and (se_cmp (o_eq hr.room.units) v_eq (se_callB call_len vc_len T.m_len (sa_cons (se_var 0) (sa_nil)) (hb := bt_len)) (se_op o_add v_add (se_int) (se_var 1))) (se_one (se_call c_has_names ar_has_names hr (by decide) hx (sa_cons (se_var 0) (sa_cons (se_var 1) (sa_nil))))))))))
/-! is_spoken -/
abbrev s_is_spoken : Stmt := top 19
theorem sc_is_spoken : FnScope ["value", "many"] ["value"] (defScope s_is_spoken) := ⟨rfl, rfl, rfl, by decide +kernel, rfl, by decide +kernel, by decide +kernel⟩
def b_is_spoken : FS := sSeq (sIf (kOr (kNot (kTru (eCallB opIsi (aCons (eVar 0) (aCons (eTup (aCons (eC (.ty .list)) (aCons (eC (.ty .tuple)) (aNil)))) (aNil)))))) (kOr (kBl (eOp2 opEq (eCallB opLen (aCons (eVar 0) (aNil))) (eC (.int 0)))) (kNot (kTru (eCallB opIsi (aCons (eOp2 opIx (eVar 0) (eC (.int 0))) (aCons (eC (.ty .str)) (aNil)))))))) (sRet (eC (.bl false))) (sNext)) (sSeq (sSet 1 (eOp1 (opTabGet tab_MADE_NAMES) (eOp2 opIx (eVar 0) (eC (.int 0))))) (sSeq (sIf (kOr (kBl (eOp2 opIsN (eVar 1) (eC .non))) (kOr (kNot (kTru (eCallF f_is_row (aCons (eVar 0) (aCons (eOp2 opAdd (eC (.int 2)) (eVar 1)) (aNil)))))) (kNot (kTru (eCallF f_has_names (aCons (eVar 0) (aCons (eVar 1) (aNil)))))))) (sRet (eC (.bl false))) (sNext)) (sRet (eCallF f_is_within (aCons (eOp2 opIx (eVar 0) (eOp1 opNeg (eC (.int 1)))) (aCons (eC (.int 1)) (aCons (eC (.int 999999)) (aNil))))))))
def f_is_spoken : List D → T D := fnD 2 1 b_is_spoken
theorem ar_is_spoken : Ar 1 f_is_spoken := ar_fnD
theorem ok_is_spoken {f : Addr} {fd : FuncData} (F : Fun K "is_spoken" "is_spoken" s_is_spoken f fd) (T : Txt K w mg) (c_has_names : Fn P w K mg base 2 "has_names" 2 f_has_names) (c_is_row : Fn P w K mg base 2 "is_row" 2 f_is_row) (c_is_within : Fn P w K mg base 2 "is_within" 3 f_is_within) : FnG P w K mg base 3 f fd ["value"] (spD K 1 f_is_spoken) := by
  have S := sc_is_spoken
  refine fnG_by ["value", "many"] ["value"] 2 1 2 (fs := b_is_spoken) rfl rfl rfl F S ?_
  intro cdv A outer s H E B hr hx
  exact sss_cons (ss_if (PW.pt (sk_or (sk_not (sk_tru (se_callB c_isi vc_isi T.m_isinstance (sa_cons (se_var 0) (sa_cons (se_tup (sa_cons (se_ty .list T.m_list (hv := bt_list)) (sa_cons (se_ty .tuple T.m_tuple (hv := bt_tuple)) (sa_nil)))) (sa_nil))) (hb := bt_isinstance)))) (sk_or (sk_cmp (o_eq hr.room.units) v_eq (se_callB call_len vc_len T.m_len (sa_cons (se_var 0) (sa_nil)) (hb := bt_len)) (se_int)) (sk_or1 (sk_not (sk_tru (se_callB c_isi vc_isi T.m_isinstance (sa_cons (se_ix ix_seq v_ix (se_var 0) (se_int)) (sa_cons (se_ty .str T.m_str (hv := bt_str)) (sa_nil))) (hb := bt_isinstance)))))))) (sss_one (ss_ret (se_bl))) (sss_nil)) (sss_cons (ss_set 1 S.nd (se_tabGet T.t_MADE_NAMES (se_ix ix_seq v_ix (se_var 0) (se_int)) ⟨rfl, rfl, rfl, rfl⟩)) (sss_cons (ss_if (PW.pt (sk_or (sk_cmp op_isN v_isN (se_var 1) (se_non)) (sk_or (sk_not (sk_tru (se_call c_is_row ar_is_row hr (by decide) hx (sa_cons (se_var 0) (sa_cons (se_op o_add v_add (se_int) (se_var 1)) (sa_nil)))))) (sk_or1 (sk_not (sk_tru (se_call c_has_names ar_has_names hr (by decide) hx (sa_cons (se_var 0) (sa_cons (se_var 1) (sa_nil)))))))))) (sss_one (ss_ret (se_bl))) (sss_nil)) (sss_one (ss_ret (se_call c_is_within ar_is_within hr (by decide) hx (sa_cons (se_ix ix_seq v_ix (se_var 0) (se_un un_neg v_neg (se_int))) (sa_cons (se_int) (sa_cons (se_glob T.g_MOST_NUMBER) (sa_nil)))))))))
/-! is_value -/
abbrev s_is_value : Stmt := top 20
theorem sc_is_value : FnScope ["value"] ["value"] (defScope s_is_value) := ⟨rfl, rfl, rfl, by decide +kernel, rfl, by decide +kernel, by decide +kernel⟩
def b_is_value : FS := sRet (eOr (eCallF f_is_plain (aCons (eVar 0) (aNil))) (eCallF f_is_spoken (aCons (eVar 0) (aNil))))
def f_is_value : List D → T D := fnD 1 1 b_is_value
theorem ar_is_value : Ar 1 f_is_value := ar_fnD
theorem ok_is_value {f : Addr} {fd : FuncData} (F : Fun K "is_value" "is_value" s_is_value f fd) (T : Txt K w mg) (c_is_plain : Fn P w K mg base 3 "is_plain" 1 f_is_plain) (c_is_spoken : Fn P w K mg base 3 "is_spoken" 1 f_is_spoken) : FnG P w K mg base 4 f fd ["value"] (spD K 1 f_is_value) := by
  have S := sc_is_value
  refine fnG_by ["value"] ["value"] 1 1 3 (fs := b_is_value) rfl rfl rfl F S ?_
  intro cdv A outer s H E B hr hx
  exact sss_one (ss_ret (se_or (se_call c_is_plain ar_is_plain hr (by decide) hx (sa_cons (se_var 0) (sa_nil))) (se_one (se_call c_is_spoken ar_is_spoken hr (by decide) hx (sa_cons (se_var 0) (sa_nil))))))
/-! is_right -/
abbrev s_is_right : Stmt := top 21
theorem sc_is_right : FnScope ["value"] ["value"] (defScope s_is_right) := ⟨rfl, rfl, rfl, by decide +kernel, rfl, by decide +kernel, by decide +kernel⟩
def b_is_right : FS := sRet (eAnd (eCallF f_is_value (aCons (eVar 0) (aNil))) (eOp2 opIn (eOp2 opIx (eVar 0) (eC (.int 0))) (eTup (aCons (eC (.str "to")) (aCons (eC (.str "made")) (aCons (eC (.str "own")) (aNil)))))))
def f_is_right : List D → T D := fnD 1 1 b_is_right
theorem ar_is_right : Ar 1 f_is_right := ar_fnD
theorem ok_is_right {f : Addr} {fd : FuncData} (F : Fun K "is_right" "is_right" s_is_right f fd) (T : Txt K w mg) (c_is_value : Fn P w K mg base 4 "is_value" 1 f_is_value) : FnG P w K mg base 5 f fd ["value"] (spD K 1 f_is_right) := by
  have S := sc_is_right
  refine fnG_by ["value"] ["value"] 1 1 4 (fs := b_is_right) rfl rfl rfl F S ?_
  intro cdv A outer s H E B hr hx
  exact sss_one (ss_ret (se_and (se_call c_is_value ar_is_value hr (by decide) hx (sa_cons (se_var 0) (sa_nil))) (se_one (se_cmp o_in v_in (se_ix ix_seq v_ix (se_var 0) (se_int)) (se_tup (sa_cons (se_glob T.g_TO) (sa_cons (se_glob T.g_MADE) (sa_cons (se_glob T.g_OWN) (sa_nil)))))))))
/-! number_of -/
abbrev s_number_of : Stmt := top 22
theorem sc_number_of : FnScope ["value"] ["value"] (defScope s_number_of) := ⟨rfl, rfl, rfl, by decide +kernel, rfl, by decide +kernel, by decide +kernel⟩
def b_number_of : FS := sRet (eIf (kAnd (kBl (eOp2 opNotN (eVar 0) (eC .non))) (kBl (eOp1 (opTabIn tab_MADE_NAMES) (eOp2 opIx (eVar 0) (eC (.int 0)))))) (eOp2 opIx (eVar 0) (eOp1 opNeg (eC (.int 1)))) (eC .non))
def f_number_of : List D → T D := fnD 1 1 b_number_of
theorem ar_number_of : Ar 1 f_number_of := ar_fnD
theorem ok_number_of {f : Addr} {fd : FuncData} (F : Fun K "number_of" "number_of" s_number_of f fd) (T : Txt K w mg) : FnG P w K mg base 1 f fd ["value"] (spD K 1 f_number_of) := by
  have S := sc_number_of
  refine fnG_by ["value"] ["value"] 1 1 0 (fs := b_number_of) rfl rfl rfl F S ?_
  intro cdv A outer s H E B hr hx
  exact sss_one (ss_ret (se_if (PW.pt (sk_and (sk_cmp op_notN v_notN (se_var 0) (se_non)) (sk_and1 (sk_tabIn T.t_MADE_NAMES (se_ix ix_seq v_ix (se_var 0) (se_int)))))) (se_ix ix_seq v_ix (se_var 0) (se_un un_neg v_neg (se_int))) (se_non)))
/-! with_number -/
abbrev s_with_number : Stmt := top 23
theorem sc_with_number : FnScope ["value", "number"] ["value", "number"] (defScope s_with_number) := ⟨rfl, rfl, rfl, by decide +kernel, rfl, by decide +kernel, by decide +kernel⟩
def b_with_number : FS := sRet (eIf (kBl (eOp2 opIsN (eCallF f_number_of (aCons (eVar 0) (aNil))) (eC .non))) (eVar 0) (eTup (aStar (eSl (eVar 0) (oNo) (oPt (eOp1 opNeg (eC (.int 1))))) (aCons (eVar 1) (aNil)))))
def f_with_number : List D → T D := fnD 2 2 b_with_number
theorem ar_with_number : Ar 2 f_with_number := ar_fnD
theorem ok_with_number {f : Addr} {fd : FuncData} (F : Fun K "with_number" "with_number" s_with_number f fd) (T : Txt K w mg) (c_number_of : Fn P w K mg base 1 "number_of" 1 f_number_of) : FnG P w K mg base 2 f fd ["value", "number"] (spD K 2 f_with_number) := by
  have S := sc_with_number
  refine fnG_by ["value", "number"] ["value", "number"] 2 2 1 (fs := b_with_number) rfl rfl rfl F S ?_
  intro cdv A outer s H E B hr hx
  exact sss_one (ss_ret (se_if (sk_cmp op_isN v_isN (se_call c_number_of ar_number_of hr (by decide) hx (sa_cons (se_var 0) (sa_nil))) (se_non)) (se_var 0) (se_tup (sa_star (se_sl (se_var 0) (so_no) (so_pt (se_un un_neg v_neg (se_int)))) (sa_cons (se_var 1) (sa_nil))))))
/-! can_go -/
abbrev s_can_go : Stmt := top 24
theorem sc_can_go : FnScope ["right", "argument", "mine", "its"] ["right", "argument"] (defScope s_can_go) := ⟨rfl, rfl, rfl, by decide +kernel, rfl, by decide +kernel, by decide +kernel⟩
def b_can_go : FS := sSeq (sSet2 2 3 (eCallF f_number_of (aCons (eVar 0) (aNil))) (eCallF f_number_of (aCons (eVar 1) (aNil)))) (sRet (eOr (eOp2 opIsN (eVar 2) (eC .non)) (eOr (eOp2 opIsN (eVar 3) (eC .non)) (eOp2 opEq (eVar 2) (eVar 3)))))
def f_can_go : List D → T D := fnD 4 2 b_can_go
theorem ar_can_go : Ar 2 f_can_go := ar_fnD
theorem ok_can_go {f : Addr} {fd : FuncData} (F : Fun K "can_go" "can_go" s_can_go f fd) (T : Txt K w mg) (c_number_of : Fn P w K mg base 1 "number_of" 1 f_number_of) : FnG P w K mg base 2 f fd ["right", "argument"] (spD K 2 f_can_go) := by
  have S := sc_can_go
  refine fnG_by ["right", "argument", "mine", "its"] ["right", "argument"] 4 2 1 (fs := b_can_go) rfl rfl rfl F S ?_
  intro cdv A outer s H E B hr hx
  exact sss_cons (ss_set2 2 3 rfl S.nd (se_call c_number_of ar_number_of hr (by decide) hx (sa_cons (se_var 0) (sa_nil))) (se_call c_number_of ar_number_of hr (by decide) hx (sa_cons (se_var 1) (sa_nil)))) (sss_one (ss_ret (se_or (se_cmp op_isN v_isN (se_var 2) (se_non)) (se_or (se_cmp op_isN v_isN (se_var 3) (se_non)) (se_one (se_cmp (o_eq hr.room.units) v_eq (se_var 2) (se_var 3)))))))
/-! _law_pick -/
abbrev s__law_pick : Stmt := top 28
theorem sc__law_pick : FnScope ["pen", "some"] ["pen", "some"] (defScope s__law_pick) := ⟨rfl, rfl, rfl, by decide +kernel, rfl, by decide +kernel, by decide +kernel⟩
def b__law_pick : FS := sRet (eOp2 opIx (eVar 1) (eCallF f__law_draw (aCons (eVar 0) (aCons (eCallB opLen (aCons (eVar 1) (aNil))) (aNil)))))
def f__law_pick : List D → T D := fnD 2 2 b__law_pick
theorem ar__law_pick : Ar 2 f__law_pick := ar_fnD
theorem ok__law_pick {f : Addr} {fd : FuncData} (F : Fun K "_law_pick" "_law_pick" s__law_pick f fd) (T : Txt K w mg) (c__law_draw : Fn P w K mg base 1 "_law_draw" 2 f__law_draw) : FnG P w K mg base 2 f fd ["pen", "some"] (spD K 2 f__law_pick) := by
  have S := sc__law_pick
  refine fnG_by ["pen", "some"] ["pen", "some"] 2 2 1 (fs := b__law_pick) rfl rfl rfl F S ?_
  intro cdv A outer s H E B hr hx
  exact sss_one (ss_ret (se_ix ix_seq v_ix (se_var 1) (se_call c__law_draw ar__law_draw hr (by decide) hx (sa_cons (se_var 0) (sa_cons (se_callB call_len vc_len T.m_len (sa_cons (se_var 1) (sa_nil)) (hb := bt_len)) (sa_nil))))))
/-! _law_number -/
abbrev s__law_number : Stmt := top 29
theorem sc__law_number : FnScope ["value"] ["value"] (defScope s__law_number) := ⟨rfl, rfl, rfl, by decide +kernel, rfl, by decide +kernel, by decide +kernel⟩
def b__law_number : FS := sRet (eIf (kAnd (kBl (eOp2 opNotN (eVar 0) (eC .non))) (kBl (eOp2 opIn (eOp2 opIx (eVar 0) (eC (.int 0))) (eTup (aCons (eC (.str "made")) (aCons (eC (.str "own")) (aNil))))))) (eOp2 opIx (eVar 0) (eOp1 opNeg (eC (.int 1)))) (eC .non))
def f__law_number : List D → T D := fnD 1 1 b__law_number
theorem ar__law_number : Ar 1 f__law_number := ar_fnD
theorem ok__law_number {f : Addr} {fd : FuncData} (F : Fun K "_law_number" "_law_number" s__law_number f fd) (T : Txt K w mg) : FnG P w K mg base 1 f fd ["value"] (spD K 1 f__law_number) := by
  have S := sc__law_number
  refine fnG_by ["value"] ["value"] 1 1 0 (fs := b__law_number) rfl rfl rfl F S ?_
  intro cdv A outer s H E B hr hx
  exact sss_one (ss_ret (se_if (PW.pt (sk_and (sk_cmp op_notN v_notN (se_var 0) (se_non)) (sk_and1 (sk_cmp o_in v_in (se_ix ix_seq v_ix (se_var 0) (se_int)) (se_tup (sa_cons (se_str) (sa_cons (se_str) (sa_nil)))))))) (se_ix ix_seq v_ix (se_var 0) (se_un un_neg v_neg (se_int))) (se_non)))
/-! _law_goes -/
abbrev s__law_goes : Stmt := top 30
theorem sc__law_goes : FnScope ["right", "argument", "mine", "its"] ["right", "argument"] (defScope s__law_goes) := ⟨rfl, rfl, rfl, by decide +kernel, rfl, by decide +kernel, by decide +kernel⟩
def b__law_goes : FS := sSeq (sIf (kOr (kBl (eOp2 opIsN (eVar 0) (eC .non))) (kBl (eOp2 opNotIn (eOp2 opIx (eVar 0) (eC (.int 0))) (eTup (aCons (eC (.str "to")) (aCons (eC (.str "made")) (aCons (eC (.str "own")) (aNil)))))))) (sRet (eC (.bl false))) (sNext)) (sSeq (sSet2 2 3 (eCallF f__law_number (aCons (eVar 0) (aNil))) (eCallF f__law_number (aCons (eVar 1) (aNil)))) (sRet (eOr (eOp2 opIsN (eVar 2) (eC .non)) (eOr (eOp2 opIsN (eVar 3) (eC .non)) (eOp2 opEq (eVar 2) (eVar 3))))))
def f__law_goes : List D → T D := fnD 4 2 b__law_goes
theorem ar__law_goes : Ar 2 f__law_goes := ar_fnD
theorem ok__law_goes {f : Addr} {fd : FuncData} (F : Fun K "_law_goes" "_law_goes" s__law_goes f fd) (T : Txt K w mg) (c__law_number : Fn P w K mg base 1 "_law_number" 1 f__law_number) : FnG P w K mg base 2 f fd ["right", "argument"] (spD K 2 f__law_goes) := by
  have S := sc__law_goes
  refine fnG_by ["right", "argument", "mine", "its"] ["right", "argument"] 4 2 1 (fs := b__law_goes) rfl rfl rfl F S ?_
  intro cdv A outer s H E B hr hx
  exact sss_cons (ss_if (PW.pt (sk_or (sk_cmp op_isN v_isN (se_var 0) (se_non)) (sk_or1 (sk_cmp o_notIn v_notIn (se_ix ix_seq v_ix (se_var 0) (se_int)) (se_tup (sa_cons (se_str) (sa_cons (se_str) (sa_cons (se_str) (sa_nil))))))))) (sss_one (ss_ret (se_bl))) (sss_nil)) (sss_cons (ss_set2 2 3 rfl S.nd (se_call c__law_number ar__law_number hr (by decide) hx (sa_cons (se_var 0) (sa_nil))) (se_call c__law_number ar__law_number hr (by decide) hx (sa_cons (se_var 1) (sa_nil)))) (sss_one (ss_ret (se_or (se_cmp op_isN v_isN (se_var 2) (se_non)) (se_or (se_cmp op_isN v_isN (se_var 3) (se_non)) (se_one (se_cmp (o_eq hr.room.units) v_eq (se_var 2) (se_var 3))))))))
/-! _law_wild -/
abbrev s__law_wild : Stmt := top 31
theorem sc__law_wild : FnScope ["pen", "some"] ["pen"] (defScope s__law_wild) := ⟨rfl, rfl, rfl, by decide +kernel, rfl, by decide +kernel, by decide +kernel⟩
def b__law_wild : FS := sSeq (sSet 1 (eLst (aCons (eC .non) (aCons (eC (.int 5)) (aCons (eC (.bl true)) (aCons (eC (.str "mark")) (aCons (eC (.str "")) (aCons (eC (.str "to")) (aCons (eTup (aNil)) (aCons (eLst (aNil)) (aCons (eDic0) (aCons (eTup (aCons (eC (.str "mark")) (aNil))) (aCons (eTup (aCons (eC (.str "mark")) (aCons (eC (.str "A")) (aNil)))) (aCons (eTup (aCons (eC (.str "mark")) (aCons (eC (.str "abcdefghi")) (aNil)))) (aCons (eTup (aCons (eC (.str "mark")) (aCons (eC (.str "")) (aNil)))) (aCons (eTup (aCons (eC (.str "to")) (aCons (eC (.str "p")) (aNil)))) (aCons (eTup (aCons (eC (.str "to")) (aCons (eC (.str "p")) (aCons (eC (.str "u")) (aCons (eC (.str "v")) (aNil)))))) (aCons (eTup (aCons (eC (.str "made")) (aCons (eC (.str "t")) (aCons (eC (.str "u")) (aCons (eC (.int 0)) (aNil)))))) (aNil))))))))))))))))))) (sSeq (sSet 1 (eOp2 opAdd (eVar 1) (eLst (aCons (eTup (aCons (eC (.str "made")) (aCons (eC (.str "t")) (aCons (eC (.str "u")) (aCons (eC (.bl true)) (aNil)))))) (aCons (eTup (aCons (eC (.str "made")) (aCons (eC (.str "t")) (aCons (eC (.str "u")) (aCons (eC (.int 1000000)) (aNil)))))) (aCons (eTup (aCons (eC (.str "own")) (aCons (eC (.str "s")) (aCons (eC (.str "1")) (aNil))))) (aCons (eTup (aCons (eC (.str "own")) (aCons (eC (.str "s")) (aNil)))) (aCons (eTup (aCons (eC (.str "maker")) (aCons (eC (.int 5)) (aNil)))) (aCons (eTup (aCons (eC (.str "arg")) (aNil))) (aCons (eTup (aCons (eC (.str "mark")) (aCons (eTup (aCons (eC (.str "m")) (aNil))) (aNil)))) (aCons (eTup (aCons (eC (.str "any")) (aNil))) (aCons (eTup (aCons (eC (.str "plain")) (aNil))) (aNil))))))))))))) (sRet (eCallF f__law_pick (aCons (eVar 0) (aCons (eOp2 opAdd (eVar 1) (eLst (aCons (eLst (aCons (eLst (aCons (eC (.str "mark")) (aCons (eC (.str "m")) (aNil)))) (aNil))) (aCons (eTup (aCons (eC (.str "own")) (aCons (eC (.str "s")) (aCons (eOp1 opNeg (eC (.int 1))) (aNil))))) (aCons (eTup (aCons (eC (.str "made")) (aCons (eC (.str "t")) (aCons (eC (.int 1)) (aNil))))) (aCons (eTup (aCons (eC (.str "mark")) (aCons (eC (.str "m1")) (aNil)))) (aCons (eTup (aCons (eC (.str "mark")) (aCons (eC .non) (aNil)))) (aNil)))))))) (aNil))))))
def f__law_wild : List D → T D := fnD 2 1 b__law_wild
theorem ar__law_wild : Ar 1 f__law_wild := ar_fnD
theorem ok__law_wild {f : Addr} {fd : FuncData} (F : Fun K "_law_wild" "_law_wild" s__law_wild f fd) (T : Txt K w mg) (c__law_pick : Fn P w K mg base 2 "_law_pick" 2 f__law_pick) : FnG P w K mg base 3 f fd ["pen"] (spD K 1 f__law_wild) := by
  have S := sc__law_wild
  refine fnG_by ["pen", "some"] ["pen"] 2 1 2 (fs := b__law_wild) rfl rfl rfl F S ?_
  intro cdv A outer s H E B hr hx
  exact sss_cons (ss_set 1 S.nd (se_lst (sa_cons (se_non) (sa_cons (se_int) (sa_cons (se_bl) (sa_cons (se_str) (sa_cons (se_str) (sa_cons (se_str) (sa_cons (se_tup (sa_nil)) (sa_cons (se_lst (sa_nil)) (sa_cons (se_dic0) (sa_cons (se_tup (sa_cons (se_str) (sa_nil))) (sa_cons (se_tup (sa_cons (se_str) (sa_cons (se_str) (sa_nil)))) (sa_cons (se_tup (sa_cons (se_str) (sa_cons (se_str) (sa_nil)))) (sa_cons (se_tup (sa_cons (se_str) (sa_cons (se_str) (sa_nil)))) (sa_cons (se_tup (sa_cons (se_str) (sa_cons (se_str) (sa_nil)))) (sa_cons (se_tup (sa_cons (se_str) (sa_cons (se_str) (sa_cons (se_str) (sa_cons (se_str) (sa_nil)))))) (sa_cons (se_tup (sa_cons (se_str) (sa_cons (se_str) (sa_cons (se_str) (sa_cons (se_int) (sa_nil)))))) (sa_nil))))))))))))))))))) (sss_cons (ss_set 1 S.nd (se_op o_add v_add (se_var 1) (se_lst (sa_cons (se_tup (sa_cons (se_str) (sa_cons (se_str) (sa_cons (se_str) (sa_cons (se_bl) (sa_nil)))))) (sa_cons (se_tup (sa_cons (se_str) (sa_cons (se_str) (sa_cons (se_str) (sa_cons (se_int) (sa_nil)))))) (sa_cons (se_tup (sa_cons (se_str) (sa_cons (se_str) (sa_cons (se_str) (sa_nil))))) (sa_cons (se_tup (sa_cons (se_str) (sa_cons (se_str) (sa_nil)))) (sa_cons (se_tup (sa_cons (se_str) (sa_cons (se_int) (sa_nil)))) (sa_cons (se_tup (sa_cons (se_str) (sa_nil))) (sa_cons (se_tup (sa_cons (se_str) (sa_cons (se_tup (sa_cons (se_str) (sa_nil))) (sa_nil)))) (sa_cons (se_tup (sa_cons (se_str) (sa_nil))) (sa_cons (se_tup (sa_cons (se_str) (sa_nil))) (sa_nil))))))))))))) (sss_one (ss_ret (se_call c__law_pick ar__law_pick hr (by decide) hx (sa_cons (se_var 0) (sa_cons (se_op o_add v_add (se_var 1) (se_lst (sa_cons (se_lst (sa_cons (se_lst (sa_cons (se_str) (sa_cons (se_str) (sa_nil)))) (sa_nil))) (sa_cons (se_tup (sa_cons (se_str) (sa_cons (se_str) (sa_cons (se_un un_neg v_neg (se_int)) (sa_nil))))) (sa_cons (se_tup (sa_cons (se_str) (sa_cons (se_str) (sa_cons (se_int) (sa_nil))))) (sa_cons (se_tup (sa_cons (se_str) (sa_cons (se_str) (sa_nil)))) (sa_cons (se_tup (sa_cons (se_str) (sa_cons (se_non) (sa_nil)))) (sa_nil)))))))) (sa_nil)))))))
/-! _law_some_value -/
abbrev s__law_some_value : Stmt := top 32
theorem sc__law_some_value : FnScope ["pen", "some"] ["pen"] (defScope s__law_some_value) := ⟨rfl, rfl, rfl, by decide +kernel, rfl, by decide +kernel, by decide +kernel⟩
def b__law_some_value : FS := sSeq (sSet 1 (eLst (aCons (eTup (aCons (eC (.str "mark")) (aCons (eC (.str "m")) (aNil)))) (aCons (eTup (aCons (eC (.str "mark")) (aCons (eC (.str "zzzzzzzz")) (aNil)))) (aCons (eTup (aCons (eC (.str "to")) (aCons (eC (.str "p")) (aCons (eC (.str "u")) (aNil))))) (aCons (eTup (aCons (eC (.str "to")) (aCons (eC (.str "s")) (aCons (eC (.str "take")) (aNil))))) (aCons (eTup (aCons (eC (.str "maker")) (aCons (eC (.str "t")) (aNil)))) (aCons (eTup (aCons (eC (.str "own")) (aCons (eC (.str "s")) (aCons (eC (.int 1)) (aNil))))) (aCons (eTup (aCons (eC (.str "own")) (aCons (eC (.str "s")) (aCons (eC (.int 999999)) (aNil))))) (aCons (eTup (aCons (eC (.str "made")) (aCons (eC (.str "t")) (aCons (eC (.str "u")) (aCons (eC (.int 1)) (aNil)))))) (aNil))))))))))) (sRet (eCallF f__law_pick (aCons (eVar 0) (aCons (eOp2 opAdd (eVar 1) (eLst (aCons (eTup (aCons (eC (.str "made")) (aCons (eC (.str "t")) (aCons (eC (.str "u")) (aCons (eC (.int 7)) (aNil)))))) (aCons (eTup (aCons (eC (.str "made")) (aCons (eC (.str "box")) (aCons (eC (.str "open")) (aCons (eC (.int 7)) (aNil)))))) (aCons (eLst (aCons (eC (.str "own")) (aCons (eC (.str "s")) (aCons (eC (.int 7)) (aNil))))) (aCons (eLst (aCons (eC (.str "to")) (aCons (eC (.str "p")) (aCons (eC (.str "v")) (aNil))))) (aNil))))))) (aNil)))))
def f__law_some_value : List D → T D := fnD 2 1 b__law_some_value
theorem ar__law_some_value : Ar 1 f__law_some_value := ar_fnD
theorem ok__law_some_value {f : Addr} {fd : FuncData} (F : Fun K "_law_some_value" "_law_some_value" s__law_some_value f fd) (T : Txt K w mg) (c__law_pick : Fn P w K mg base 2 "_law_pick" 2 f__law_pick) : FnG P w K mg base 3 f fd ["pen"] (spD K 1 f__law_some_value) := by
  have S := sc__law_some_value
  refine fnG_by ["pen", "some"] ["pen"] 2 1 2 (fs := b__law_some_value) rfl rfl rfl F S ?_
  intro cdv A outer s H E B hr hx
  exact sss_cons (ss_set 1 S.nd (se_lst (sa_cons (se_tup (sa_cons (se_str) (sa_cons (se_str) (sa_nil)))) (sa_cons (se_tup (sa_cons (se_str) (sa_cons (se_str) (sa_nil)))) (sa_cons (se_tup (sa_cons (se_str) (sa_cons (se_str) (sa_cons (se_str) (sa_nil))))) (sa_cons (se_tup (sa_cons (se_str) (sa_cons (se_str) (sa_cons (se_str) (sa_nil))))) (sa_cons (se_tup (sa_cons (se_str) (sa_cons (se_str) (sa_nil)))) (sa_cons (se_tup (sa_cons (se_str) (sa_cons (se_str) (sa_cons (se_int) (sa_nil))))) (sa_cons (se_tup (sa_cons (se_str) (sa_cons (se_str) (sa_cons (se_int) (sa_nil))))) (sa_cons (se_tup (sa_cons (se_str) (sa_cons (se_str) (sa_cons (se_str) (sa_cons (se_int) (sa_nil)))))) (sa_nil))))))))))) (sss_one (ss_ret (se_call c__law_pick ar__law_pick hr (by decide) hx (sa_cons (se_var 0) (sa_cons (se_op o_add v_add (se_var 1) (se_lst (sa_cons (se_tup (sa_cons (se_str) (sa_cons (se_str) (sa_cons (se_str) (sa_cons (se_int) (sa_nil)))))) (sa_cons (se_tup (sa_cons (se_str) (sa_cons (se_str) (sa_cons (se_str) (sa_cons (se_int) (sa_nil)))))) (sa_cons (se_lst (sa_cons (se_str) (sa_cons (se_str) (sa_cons (se_int) (sa_nil))))) (sa_cons (se_lst (sa_cons (se_str) (sa_cons (se_str) (sa_cons (se_str) (sa_nil))))) (sa_nil))))))) (sa_nil))))))
/-! _law_is_name -/
abbrev s__law_is_name : Stmt := top 33
theorem sc__law_is_name : FnScope ["value", "sign"] ["value"] (defScope s__law_is_name) := ⟨rfl, rfl, rfl, by decide +kernel, rfl, by decide +kernel, by decide +kernel⟩
def b__law_is_name : FS := sRet (eAnd (eCallB opIsi (aCons (eVar 0) (aCons (eC (.ty .str)) (aNil)))) (eAnd (eChain opLe opLe (eC (.int 1)) (eCallB opLen (aCons (eVar 0) (aNil))) (eC (.int 8))) (eOp2 opEq (eComp (.one 1) (aStr (eVar 0)) (kBl (eOp2 opNotIn (eVar 1) (eC (.str "abcdefghijklmnopqrstuvwxyz")))) (eVar 1)) (eLst (aNil)))))
def f__law_is_name : List D → T D := fnD 2 1 b__law_is_name
theorem ar__law_is_name : Ar 1 f__law_is_name := ar_fnD
theorem ok__law_is_name {f : Addr} {fd : FuncData} (F : Fun K "_law_is_name" "_law_is_name" s__law_is_name f fd) (T : Txt K w mg) : FnG P w K mg base 1 f fd ["value"] (spD K 1 f__law_is_name) := by
  have S := sc__law_is_name
  refine fnG_by ["value", "sign"] ["value"] 2 1 0 (fs := b__law_is_name) rfl rfl rfl F S ?_
  intro cdv A outer s H E B hr hx
  exact sss_one (ss_ret (se_and (se_callB c_isi vc_isi T.m_isinstance (sa_cons (se_var 0) (sa_cons (se_ty .str T.m_str (hv := bt_str)) (sa_nil))) (hb := bt_isinstance)) (se_and (se_chain op_le v_le op_le v_le (se_int) (se_callB call_len vc_len T.m_len (sa_cons (se_var 0) (sa_nil)) (hb := bt_len)) (se_int)) (se_one (se_cmp (o_eq hr.room.units) v_eq (se_comp (tg := .one 1) (own := [("sign", 1)]) rfl S.nd (si_str (se_var 0)) (blkOk_by rfl) trivial rfl (fun _ _ _ _ _ => sg_one 1 S.nd) (fun _ _ _ _ _ => pts_one (sk_cmp o_notIn v_notIn (se_var 1) (se_str))) tt_one (fun _ _ _ _ _ => se_var 1)) (se_lst (sa_nil)))))))
/-! _law_is_value -/
abbrev s__law_is_value : Stmt := top 34
theorem sc__law_is_value : FnScope ["value", "words", "names", "part"] ["value", "words"] (defScope s__law_is_value) := ⟨rfl, rfl, rfl, by decide +kernel, rfl, by decide +kernel, by decide +kernel⟩
def b__law_is_value : FS := sSeq (sIf (kOr (kNot (kTru (eCallB opIsi (aCons (eVar 0) (aCons (eTup (aCons (eC (.ty .list)) (aCons (eC (.ty .tuple)) (aNil)))) (aNil)))))) (kOr (kBl (eOp2 opEq (eCallB opLen (aCons (eVar 0) (aNil))) (eC (.int 0)))) (kOr (kNot (kTru (eCallB opIsi (aCons (eOp2 opIx (eVar 0) (eC (.int 0))) (aCons (eC (.ty .str)) (aNil)))))) (kBl (eOp2 opNotIn (eOp2 opIx (eVar 0) (eC (.int 0))) (eVar 1)))))) (sRet (eC (.bl false))) (sNext)) (sSeq (sSet 2 (eOp2 opDix (eDic [.inr "mark", .inr "to", .inr "maker", .inr "made", .inr "own"] (aCons (eC (.int 1)) (aCons (eC (.int 2)) (aCons (eC (.int 1)) (aCons (eC (.int 2)) (aCons (eC (.int 1)) (aNil))))))) (eOp2 opIx (eVar 0) (eC (.int 0))))) (sSeq (sIf (kBl (eOp2 opIn (eOp2 opIx (eVar 0) (eC (.int 0))) (eTup (aCons (eC (.str "mark")) (aCons (eC (.str "to")) (aCons (eC (.str "maker")) (aNil))))))) (sRet (eAnd (eOp2 opEq (eCallB opLen (aCons (eVar 0) (aNil))) (eOp2 opAdd (eC (.int 1)) (eVar 2))) (eOp2 opEq (eComp (.one 3) (aSeq (eSl (eVar 0) (oPt (eC (.int 1))) (oNo))) (kNot (kTru (eCallF f__law_is_name (aCons (eVar 3) (aNil))))) (eVar 3)) (eLst (aNil))))) (sNext)) (sSeq (sIf (kOr (kBl (eOp2 opNe (eCallB opLen (aCons (eVar 0) (aNil))) (eOp2 opAdd (eC (.int 2)) (eVar 2)))) (kBl (eOp2 opNe (eComp (.one 3) (aSeq (eSl (eVar 0) (oPt (eC (.int 1))) (oPt (eOp1 opNeg (eC (.int 1)))))) (kNot (kTru (eCallF f__law_is_name (aCons (eVar 3) (aNil))))) (eVar 3)) (eLst (aNil))))) (sRet (eC (.bl false))) (sNext)) (sRet (eAnd (eCallB opIsi (aCons (eOp2 opIx (eVar 0) (eOp1 opNeg (eC (.int 1)))) (aCons (eC (.ty .int)) (aNil)))) (eAnd (eNot (eCallB opIsi (aCons (eOp2 opIx (eVar 0) (eOp1 opNeg (eC (.int 1)))) (aCons (eC (.ty .bool)) (aNil))))) (eChain opLe opLe (eC (.int 1)) (eOp2 opIx (eVar 0) (eOp1 opNeg (eC (.int 1)))) (eC (.int 999999)))))))))
def f__law_is_value : List D → T D := fnD 4 2 b__law_is_value
theorem ar__law_is_value : Ar 2 f__law_is_value := ar_fnD
theorem ok__law_is_value {f : Addr} {fd : FuncData} (F : Fun K "_law_is_value" "_law_is_value" s__law_is_value f fd) (T : Txt K w mg) (c__law_is_name : Fn P w K mg base 1 "_law_is_name" 1 f__law_is_name) : FnG P w K mg base 2 f fd ["value", "words"] (spD K 2 f__law_is_value) := by
  have S := sc__law_is_value
  refine fnG_by ["value", "words", "names", "part"] ["value", "words"] 4 2 1 (fs := b__law_is_value) rfl rfl rfl F S ?_
  intro cdv A outer s H E B hr hx
  exact sss_cons (ss_if (PW.pt (sk_or (sk_not (sk_tru (se_callB c_isi vc_isi T.m_isinstance (sa_cons (se_var 0) (sa_cons (se_tup (sa_cons (se_ty .list T.m_list (hv := bt_list)) (sa_cons (se_ty .tuple T.m_tuple (hv := bt_tuple)) (sa_nil)))) (sa_nil))) (hb := bt_isinstance)))) (sk_or (sk_cmp (o_eq hr.room.units) v_eq (se_callB call_len vc_len T.m_len (sa_cons (se_var 0) (sa_nil)) (hb := bt_len)) (se_int)) (sk_or (sk_not (sk_tru (se_callB c_isi vc_isi T.m_isinstance (sa_cons (se_ix ix_seq v_ix (se_var 0) (se_int)) (sa_cons (se_ty .str T.m_str (hv := bt_str)) (sa_nil))) (hb := bt_isinstance)))) (sk_or1 (sk_cmp o_notIn v_notIn (se_ix ix_seq v_ix (se_var 0) (se_int)) (se_var 1))))))) (sss_one (ss_ret (se_bl))) (sss_nil)) (sss_cons (ss_set 2 S.nd (se_dix hr.u1 (se_dic (sp_cons (kd := .inr "mark") pe_str (se_int) (sp_cons (kd := .inr "to") pe_str (se_int) (sp_cons (kd := .inr "maker") pe_str (se_int) (sp_cons (kd := .inr "made") pe_str (se_int) (sp_cons (kd := .inr "own") pe_str (se_int) (sp_nil)))))) (by decide) rfl rfl (by exact fun z => nomatch z) (by decide) (by decide)) (se_ix ix_seq v_ix (se_var 0) (se_int)))) (sss_cons (ss_if (sk_cmp o_in v_in (se_ix ix_seq v_ix (se_var 0) (se_int)) (se_tup (sa_cons (se_str) (sa_cons (se_str) (sa_cons (se_str) (sa_nil)))))) (sss_one (ss_ret (se_and (se_cmp (o_eq hr.room.units) v_eq (se_callB call_len vc_len T.m_len (sa_cons (se_var 0) (sa_nil)) (hb := bt_len)) (se_op o_add v_add (se_int) (se_var 2))) (se_one (se_cmp (o_eq hr.room.units) v_eq (se_comp (tg := .one 3) (own := [("part", 3)]) rfl S.nd (si_seq (se_sl (se_var 0) (so_pt (se_int)) (so_no))) (blkOk_by rfl) trivial rfl (fun _ _ _ _ _ => sg_one 3 S.nd) (fun _ _ _ _ _ => pts_one (sk_not (sk_tru (se_call c__law_is_name ar__law_is_name hr (by decide) (Lets.no fun _ _ _ _ h => h) (sa_cons (se_var 3) (sa_nil)))))) tt_one (fun _ _ _ _ _ => se_var 3)) (se_lst (sa_nil))))))) (sss_nil)) (sss_cons (ss_if (PW.pt (sk_or (sk_cmp (o_ne hr.room.units) v_ne (se_callB call_len vc_len T.m_len (sa_cons (se_var 0) (sa_nil)) (hb := bt_len)) (se_op o_add v_add (se_int) (se_var 2))) (sk_or1 (sk_cmp (o_ne hr.room.units) v_ne (se_comp (tg := .one 3) (own := [("part", 3)]) rfl S.nd (si_seq (se_sl (se_var 0) (so_pt (se_int)) (so_pt (se_un un_neg v_neg (se_int))))) (blkOk_by rfl) trivial rfl (fun _ _ _ _ _ => sg_one 3 S.nd) (fun _ _ _ _ _ => pts_one (sk_not (sk_tru (se_call c__law_is_name ar__law_is_name hr (by decide) (Lets.no fun _ _ _ _ h => h) (sa_cons (se_var 3) (sa_nil)))))) tt_one (fun _ _ _ _ _ => se_var 3)) (se_lst (sa_nil)))))) (sss_one (ss_ret (se_bl))) (sss_nil)) (sss_one (ss_ret (se_and (se_callB c_isi vc_isi T.m_isinstance (sa_cons (se_ix ix_seq v_ix (se_var 0) (se_un un_neg v_neg (se_int))) (sa_cons (se_ty .int T.m_int (hv := bt_int)) (sa_nil))) (hb := bt_isinstance)) (se_and (se_not (se_callB c_isi vc_isi T.m_isinstance (sa_cons (se_ix ix_seq v_ix (se_var 0) (se_un un_neg v_neg (se_int))) (sa_cons (se_ty .bool T.m_bool (hv := bt_bool)) (sa_nil))) (hb := bt_isinstance))) (se_one (se_chain op_le v_le op_le v_le (se_int) (se_ix ix_seq v_ix (se_var 0) (se_un un_neg v_neg (se_int))) (se_int))))))))))

end
end W00

set_option Elab.async false
set_option linter.all false
set_option maxRecDepth 100000
set_option maxHeartbeats 4000000
namespace W00
open PySem PySem.Spec PyProof.Rows L2 Z
section
variable {P : Program} {w : World} {K : PySem.W.Frag} {mg : Str → Option Value} {base : Heap}
abbrev s_law : Stmt := top 35
theorem sc_law : FnScope ["script", "pen", "turn", "value", "due", "told", "number", "later", "other", "words"] ["script"] (defScope s_law) := ⟨rfl, rfl, rfl, by decide +kernel, rfl, by decide +kernel, by decide +kernel⟩
def turnB : FS := sSeq (sSet 3 (eIf (kBl (eOp2 opEq (eCallF f__law_draw (aCons (eVar 1) (aCons (eC (.int 2)) (aNil)))) (eC (.int 0)))) (eCallF f__law_wild (aCons (eVar 1) (aNil))) (eCallF f__law_some_value (aCons (eVar 1) (aNil))))) (sSeq (sSet 4 (eComp (.one 9) (aSeq (eTup (aCons (eTup (aCons (eC (.str "mark")) (aCons (eC (.str "to")) (aCons (eC (.str "maker")) (aNil))))) (aCons (eTup (aCons (eC (.str "made")) (aCons (eC (.str "own")) (aNil)))) (aCons (eTup (aCons (eC (.str "mark")) (aCons (eC (.str "to")) (aCons (eC (.str "maker")) (aCons (eC (.str "made")) (aCons (eC (.str "own")) (aNil))))))) (aCons (eTup (aCons (eC (.str "to")) (aCons (eC (.str "made")) (aCons (eC (.str "own")) (aNil))))) (aNil))))))) (kYes) (eCallF f__law_is_value (aCons (eVar 3) (aCons (eVar 9) (aNil)))))) (sSeq (sSet 5 (eLst (aCons (eCallF f_is_plain (aCons (eVar 3) (aNil))) (aCons (eCallF f_is_spoken (aCons (eVar 3) (aNil))) (aCons (eCallF f_is_value (aPick 1 [0] (aCons (eVar 3) (aNil)))) (aCons (eCallF f_is_right (aCons (eVar 3) (aNil))) (aNil))))))) (sSeq (sIf (kOr (kBl (eOp2 opNe (eCallB (op1 opRepr) (aCons (eVar 5) (aNil))) (eCallB (op1 opRepr) (aCons (eVar 4) (aNil))))) (kBl (eOp2 opNe (eCallB (op1 opRepr) (aCons (eLst (aCons (eCallF f_is_plain (aPick 1 [0] (aCons (eVar 3) (aNil)))) (aCons (eCallF f_is_spoken (aPick 1 [0] (aCons (eVar 3) (aNil)))) (aCons (eCallF f_is_right (aPick 1 [0] (aCons (eVar 3) (aNil)))) (aNil))))) (aNil))) (eCallB (op1 opRepr) (aCons (eLst (aCons (eOp2 opIx (eVar 4) (eC (.int 0))) (aCons (eOp2 opIx (eVar 4) (eC (.int 1))) (aCons (eOp2 opIx (eVar 4) (eC (.int 3))) (aNil))))) (aNil)))))) (sRet (eC (.bl false))) (sNext)) (sSeq (sIf (kOr (kNot (kTru (eOp2 opIx (eVar 4) (eC (.int 2))))) (kTru (eCallB opIsi (aCons (eVar 3) (aCons (eC (.ty .list)) (aNil)))))) (sCnt) (sNext)) (sSeq (sSet 6 (eOp2 opAdd (eC (.int 1)) (eCallF f__law_draw (aCons (eVar 1) (aCons (eC (.int 9)) (aNil)))))) (sSeq (sIf (kBl (eOp2 opNe (eCallB (op1 opRepr) (aCons (eLst (aCons (eCallF f_number_of (aCons (eVar 3) (aNil))) (aCons (eCallF f_number_of (aPick 1 [0] (aCons (eVar 3) (aNil)))) (aNil)))) (aNil))) (eCallB (op1 opRepr) (aCons (eOp2 opMul (eLst (aCons (eCallF f__law_number (aCons (eVar 3) (aNil))) (aNil))) (eC (.int 2))) (aNil))))) (sRet (eC (.bl false))) (sNext)) (sSeq (sSet 7 (eIf (kBl (eOp2 opIsN (eCallF f__law_number (aCons (eVar 3) (aNil))) (eC .non))) (eVar 3) (eOp2 opAdd (eSl (eVar 3) (oNo) (oPt (eOp1 opNeg (eC (.int 1))))) (eTup (aCons (eVar 6) (aNil)))))) (sSeq (sIf (kOr (kBl (eOp2 opNe (eCallF f_with_number (aCons (eVar 3) (aCons (eVar 6) (aNil)))) (eVar 7))) (kBl (eOp2 opNe (eCallF f_with_number (aPick 2 [1, 0] (aCons (eVar 6) (aCons (eVar 3) (aNil))))) (eVar 7)))) (sRet (eC (.bl false))) (sNext)) (sSeq (sSet 8 (eCallF f__law_pick (aCons (eVar 1) (aCons (eLst (aCons (eC .non) (aCons (eTup (aCons (eC (.str "mark")) (aCons (eC (.str "m")) (aNil)))) (aCons (eTup (aCons (eC (.str "own")) (aCons (eC (.str "s")) (aCons (eC (.int 1)) (aNil))))) (aCons (eTup (aCons (eC (.str "made")) (aCons (eC (.str "t")) (aCons (eC (.str "u")) (aCons (eC (.int 7)) (aNil)))))) (aCons (eTup (aCons (eC (.str "own")) (aCons (eC (.str "s")) (aCons (eC (.int 7)) (aNil))))) (aNil))))))) (aNil))))) (sIf (kAnd (kTru (eOp2 opIx (eVar 4) (eC (.int 3)))) (kOr (kBl (eOp2 opNe (eCallF f_can_go (aCons (eVar 3) (aCons (eVar 8) (aNil)))) (eCallF f__law_goes (aCons (eVar 3) (aCons (eVar 8) (aNil)))))) (kBl (eOp2 opNe (eCallF f_can_go (aPick 2 [1, 0] (aCons (eVar 8) (aCons (eVar 3) (aNil))))) (eCallF f__law_goes (aCons (eVar 3) (aCons (eVar 8) (aNil)))))))) (sRet (eC (.bl false))) (sNext)))))))))))
def endB : FS := sRet (eAnd (eOp2 opIsN (eCallF f_number_of (aCons (eC .non) (aNil))) (eC .non)) (eAnd (eCallF f_can_go (aCons (eTup (aCons (eC (.str "own")) (aCons (eC (.str "s")) (aCons (eC (.int 2)) (aNil))))) (aCons (eTup (aCons (eC (.str "own")) (aCons (eC (.str "s")) (aCons (eC (.int 2)) (aNil))))) (aNil)))) (eNot (eCallF f_can_go (aCons (eTup (aCons (eC (.str "own")) (aCons (eC (.str "s")) (aCons (eC (.int 2)) (aNil))))) (aCons (eTup (aCons (eC (.str "own")) (aCons (eC (.str "s")) (aCons (eC (.int 3)) (aNil))))) (aNil)))))))
def b_law : FS := sSeq (sFor (.one 2) (aRng (aCons (eC (.int 60)) (aNil))) turnB) (endB)
def spLaw (K : PySem.W.Frag) : Sp := fun vs H Q _ => ∃ (s : Addr) (ns : List Int), vs = [.ref s] ∧ SqL K H s (ns.map V.int) ∧ ns.length ≤ 63 ∧ ∀ H2, Q (.bl true) H2
theorem ok_law (plain : (b_law (penEnv 10)).All 4194304 (fun r _ => r = .rt (.bl true)) (fun _ _ _ _ => False)) {f fp : Addr} {fd fdp : FuncData} (F : Fun K "law" "law" s_law f fd) (T : Txt K w mg) (mp : mg "_law_pen" = some (.ref fp)) (FP : Fun K "_law_pen" "_law_pen" s_law_pen fp fdp) (bp : Binds K fdp ["script"] []) (c__law_draw : Fn P w K mg base 1 "_law_draw" 2 f__law_draw) (c__law_goes : Fn P w K mg base 2 "_law_goes" 2 f__law_goes) (c__law_is_value : Fn P w K mg base 2 "_law_is_value" 2 f__law_is_value) (c__law_number : Fn P w K mg base 1 "_law_number" 1 f__law_number) (c__law_pick : Fn P w K mg base 2 "_law_pick" 2 f__law_pick) (c__law_some_value : Fn P w K mg base 3 "_law_some_value" 1 f__law_some_value) (c__law_wild : Fn P w K mg base 3 "_law_wild" 1 f__law_wild) (c_can_go : Fn P w K mg base 2 "can_go" 2 f_can_go) (c_is_plain : Fn P w K mg base 3 "is_plain" 1 f_is_plain) (c_is_right : Fn P w K mg base 5 "is_right" 1 f_is_right) (c_is_spoken : Fn P w K mg base 3 "is_spoken" 1 f_is_spoken) (c_number_of : Fn P w K mg base 1 "number_of" 1 f_number_of) (c_with_number : Fn P w K mg base 2 "with_number" 2 f_with_number) (k_can_go__argument_right : FnK P w K mg base 2 "can_go" 2 ["argument", "right"] [1, 0] f_can_go) (k_is_plain__value : FnK P w K mg base 3 "is_plain" 1 ["value"] [0] f_is_plain) (k_is_right__value : FnK P w K mg base 5 "is_right" 1 ["value"] [0] f_is_right) (k_is_spoken__value : FnK P w K mg base 3 "is_spoken" 1 ["value"] [0] f_is_spoken) (k_is_value__value : FnK P w K mg base 4 "is_value" 1 ["value"] [0] f_is_value) (k_number_of__value : FnK P w K mg base 1 "number_of" 1 ["value"] [0] f_number_of) (k_with_number__number_value : FnK P w K mg base 2 "with_number" 2 ["number", "value"] [1, 0] f_with_number) : FnG P w K mg base 6 f fd ["script"] (spLaw K) := by
  have S := sc_law
  refine fnG_raw F S (fun vs H Q E h => by obtain ⟨s, ns, rfl, _⟩ := h; rfl) fun cdv A outer s0 H vs Q E hr h => ?_
  obtain ⟨s, ns, rfl, hS, hl, fin⟩ := h
  have G := ok_law_pen (P := P) (w := w) (base := base) FP T.m_int
  refine ⟨_, pss_cons (ps_set (i := 1) S.nd rfl (Or.inl rfl) (pe_callG G (hr.mono (by decide)) mp FP.kp bp passL (pa_cons (pv 0) pa_nil))) (rest_any (fs := b_law) fun B hx => ?D), ?_⟩
  case D => exact sss_cons (ss_for (passes_of rfl) rfl (si_rng T.m_range (sa_cons (se_int) (sa_nil))) (sg_one 2 S.nd) (sss_cons (ss_set 3 S.nd (se_if (sk_cmp (o_eq hr.room.units) v_eq (se_call c__law_draw ar__law_draw hr (by decide) hx (sa_cons (se_var 1) (sa_cons (se_int) (sa_nil)))) (se_int)) (se_call c__law_wild ar__law_wild hr (by decide) hx (sa_cons (se_var 1) (sa_nil))) (se_call c__law_some_value ar__law_some_value hr (by decide) hx (sa_cons (se_var 1) (sa_nil))))) (sss_cons (ss_setLc 4 (tg := .one 9) (own := [("words", 9)]) rfl S.nd (si_seq (se_tup (sa_cons (se_tup (sa_cons (se_str) (sa_cons (se_str) (sa_cons (se_str) (sa_nil))))) (sa_cons (se_tup (sa_cons (se_str) (sa_cons (se_str) (sa_nil)))) (sa_cons (se_tup (sa_cons (se_str) (sa_cons (se_str) (sa_cons (se_str) (sa_cons (se_str) (sa_cons (se_str) (sa_nil))))))) (sa_cons (se_tup (sa_cons (se_str) (sa_cons (se_str) (sa_cons (se_str) (sa_nil))))) (sa_nil))))))) (blkOk_by rfl) trivial rfl (fun _ _ _ _ _ => sg_one 9 S.nd) (fun _ _ _ _ _ => pts_nil) tt_yes (fun _ _ _ _ _ => se_call c__law_is_value ar__law_is_value hr (by decide) (Lets.no fun _ _ _ _ h => h) (sa_cons (se_var 3) (sa_cons (se_var 9) (sa_nil))))) (sss_cons (ss_set 5 S.nd (se_lst (sa_cons (se_call c_is_plain ar_is_plain hr (by decide) hx (sa_cons (se_var 3) (sa_nil))) (sa_cons (se_call c_is_spoken ar_is_spoken hr (by decide) hx (sa_cons (se_var 3) (sa_nil))) (sa_cons (se_callK 1 [0] k_is_value__value rfl ar_is_value hr (by decide) hx (sn_cons (se_var 3) (sn_nil))) (sa_cons (se_call c_is_right ar_is_right hr (by decide) hx (sa_cons (se_var 3) (sa_nil))) (sa_nil))))))) (sss_cons (ss_if (PW.pt (sk_or (sk_cmp (o_ne hr.room.units) v_ne (se_callB (call_repr hr.gd hr.u200) vc_repr T.m_repr (sa_cons (se_var 5) (sa_nil)) (hb := bt_repr)) (se_callB (call_repr hr.gd hr.u200) vc_repr T.m_repr (sa_cons (se_var 4) (sa_nil)) (hb := bt_repr))) (sk_or1 (sk_cmp (o_ne hr.room.units) v_ne (se_callB (call_repr hr.gd hr.u200) vc_repr T.m_repr (sa_cons (se_lst (sa_cons (se_callK 1 [0] k_is_plain__value rfl ar_is_plain hr (by decide) hx (sn_cons (se_var 3) (sn_nil))) (sa_cons (se_callK 1 [0] k_is_spoken__value rfl ar_is_spoken hr (by decide) hx (sn_cons (se_var 3) (sn_nil))) (sa_cons (se_callK 1 [0] k_is_right__value rfl ar_is_right hr (by decide) hx (sn_cons (se_var 3) (sn_nil))) (sa_nil))))) (sa_nil)) (hb := bt_repr)) (se_callB (call_repr hr.gd hr.u200) vc_repr T.m_repr (sa_cons (se_lst (sa_cons (se_ix ix_seq v_ix (se_var 4) (se_int)) (sa_cons (se_ix ix_seq v_ix (se_var 4) (se_int)) (sa_cons (se_ix ix_seq v_ix (se_var 4) (se_int)) (sa_nil))))) (sa_nil)) (hb := bt_repr)))))) (sss_one (ss_ret (se_bl))) (sss_nil)) (sss_cons (ss_if (PW.pt (sk_or (sk_not (sk_tru (se_ix ix_seq v_ix (se_var 4) (se_int)))) (sk_or1 (sk_tru (se_callB c_isi vc_isi T.m_isinstance (sa_cons (se_var 3) (sa_cons (se_ty .list T.m_list (hv := bt_list)) (sa_nil))) (hb := bt_isinstance)))))) (sss_one (ss_cnt)) (sss_nil)) (sss_cons (ss_set 6 S.nd (se_op o_add v_add (se_int) (se_call c__law_draw ar__law_draw hr (by decide) hx (sa_cons (se_var 1) (sa_cons (se_int) (sa_nil)))))) (sss_cons (ss_if (sk_cmp (o_ne hr.room.units) v_ne (se_callB (call_repr hr.gd hr.u200) vc_repr T.m_repr (sa_cons (se_lst (sa_cons (se_call c_number_of ar_number_of hr (by decide) hx (sa_cons (se_var 3) (sa_nil))) (sa_cons (se_callK 1 [0] k_number_of__value rfl ar_number_of hr (by decide) hx (sn_cons (se_var 3) (sn_nil))) (sa_nil)))) (sa_nil)) (hb := bt_repr)) (se_callB (call_repr hr.gd hr.u200) vc_repr T.m_repr (sa_cons (se_op o_mul v_mul (se_lst (sa_cons (se_call c__law_number ar__law_number hr (by decide) hx (sa_cons (se_var 3) (sa_nil))) (sa_nil))) (se_int)) (sa_nil)) (hb := bt_repr))) (sss_one (ss_ret (se_bl))) (sss_nil)) (sss_cons (ss_set 7 S.nd (se_if (sk_cmp op_isN v_isN (se_call c__law_number ar__law_number hr (by decide) hx (sa_cons (se_var 3) (sa_nil))) (se_non)) (se_var 3) (se_op o_add v_add (se_sl (se_var 3) (so_no) (so_pt (se_un un_neg v_neg (se_int)))) (se_tup (sa_cons (se_var 6) (sa_nil)))))) (sss_cons (ss_if (PW.pt (sk_or (sk_cmp (o_ne hr.room.units) v_ne (se_call c_with_number ar_with_number hr (by decide) hx (sa_cons (se_var 3) (sa_cons (se_var 6) (sa_nil)))) (se_var 7)) (sk_or1 (sk_cmp (o_ne hr.room.units) v_ne (se_callK 2 [1, 0] k_with_number__number_value rfl ar_with_number hr (by decide) hx (sn_cons (se_var 6) (sn_cons (se_var 3) (sn_nil)))) (se_var 7))))) (sss_one (ss_ret (se_bl))) (sss_nil)) (sss_cons (ss_set 8 S.nd (se_call c__law_pick ar__law_pick hr (by decide) hx (sa_cons (se_var 1) (sa_cons (se_lst (sa_cons (se_non) (sa_cons (se_tup (sa_cons (se_str) (sa_cons (se_str) (sa_nil)))) (sa_cons (se_tup (sa_cons (se_str) (sa_cons (se_str) (sa_cons (se_int) (sa_nil))))) (sa_cons (se_tup (sa_cons (se_str) (sa_cons (se_str) (sa_cons (se_str) (sa_cons (se_int) (sa_nil)))))) (sa_cons (se_tup (sa_cons (se_str) (sa_cons (se_str) (sa_cons (se_int) (sa_nil))))) (sa_nil))))))) (sa_nil))))) (sss_one (ss_if (PW.pt (sk_and (sk_tru (se_ix ix_seq v_ix (se_var 4) (se_int))) (sk_and1 (PW.pt (sk_or (sk_cmp (o_ne hr.room.units) v_ne (se_call c_can_go ar_can_go hr (by decide) hx (sa_cons (se_var 3) (sa_cons (se_var 8) (sa_nil)))) (se_call c__law_goes ar__law_goes hr (by decide) hx (sa_cons (se_var 3) (sa_cons (se_var 8) (sa_nil))))) (sk_or1 (sk_cmp (o_ne hr.room.units) v_ne (se_callK 2 [1, 0] k_can_go__argument_right rfl ar_can_go hr (by decide) hx (sn_cons (se_var 8) (sn_cons (se_var 3) (sn_nil)))) (se_call c__law_goes ar__law_goes hr (by decide) hx (sa_cons (se_var 3) (sa_cons (se_var 8) (sa_nil))))))))))) (sss_one (ss_ret (se_bl))) (sss_nil)))))))))))))) (sss_one (ss_ret (se_and (se_cmp op_isN v_isN (se_call c_number_of ar_number_of hr (by decide) hx (sa_cons (se_non) (sa_nil))) (se_non)) (se_and (se_call c_can_go ar_can_go hr (by decide) hx (sa_cons (se_tup (sa_cons (se_str) (sa_cons (se_str) (sa_cons (se_int) (sa_nil))))) (sa_cons (se_tup (sa_cons (se_str) (sa_cons (se_str) (sa_cons (se_int) (sa_nil))))) (sa_nil)))) (se_one (se_not (se_call c_can_go ar_can_go hr (by decide) hx (sa_cons (se_tup (sa_cons (se_str) (sa_cons (se_str) (sa_cons (se_int) (sa_nil))))) (sa_cons (se_tup (sa_cons (se_str) (sa_cons (se_str) (sa_cons (se_int) (sa_nil))))) (sa_nil))))))))))
  refine ⟨.ref s, rfl, s, ns, rfl, hS, hl, fun a c cells H1 sm ha hc hca hA hC => ?_⟩
  refine ⟨⟨⟨some a, fun _ => 0, fun _ => 0⟩, H1, [a], fun _ _ _ _ => False⟩, Lets.no fun _ _ _ _ h => h, penEnv 10, [a], 4194304, pen_rep rfl rfl hca hA hC, plain.mono fun r b e => ?_⟩
  subst e
  intro v H' _ _ _ rv
  cases rv
  exact fin H'
end
theorem pen_is {ρ : List Sl} (h : okPen 10 ρ = true) : ∃ s0 s2 s3 s4 s5 s6 s7 s8 s9 : Sl, ρ = [s0, .val .pen, s2, s3, s4, s5, s6, s7, s8, s9] := by
  unfold okPen at h
  rw [Bool.and_eq_true, decide_eq_true_eq] at h
  obtain ⟨h1, h2⟩ := h
  match ρ, h1 with
  | [s0, s1, s2, s3, s4, s5, s6, s7, s8, s9], _ =>
    cases s1 with
    | un => cases h2
    | own ds => cases h2
    | val d =>
      cases d with
      | pen => exact ⟨s0, s2, s3, s4, s5, s6, s7, s8, s9, rfl⟩
      | _ => cases h2
end W00

set_option Elab.async false
set_option linter.all false
set_option maxRecDepth 100000
set_option maxHeartbeats 4000000
namespace W00
open PySem PySem.Spec PyProof.Rows L2 Z
set_option maxHeartbeats 0 in
theorem turn_try (s0 s3 s4 s5 s6 s7 s8 s9 : Sl) (x : D) : chk (goodFl 10) 4 (turnB [s0, .val .pen, .val x, s3, s4, s5, s6, s7, s8, s9]) = true := by kernel_rfl
theorem turn_ok (x : D) (ρ : List Sl) (h : okPen 10 ρ = true) : chk (goodFl 10) 4 (turnB (ρ.set 2 (.val x))) = true := by
  obtain ⟨s0, s2, s3, s4, s5, s6, s7, s8, s9, rfl⟩ := pen_is h
  exact turn_try s0 s3 s4 s5 s6 s7 s8 s9 x
theorem end_try (s0 s2 s3 s4 s5 s6 s7 s8 s9 : Sl) : ∃ (n : Nat), endB [s0, .val .pen, s2, s3, s4, s5, s6, s7, s8, s9] = .ret (.rt (.bl true)) := ⟨0, by kernel_rfl⟩
theorem plain : (b_law (penEnv 10)).All 4194304 (fun r _ => r = .rt (.bl true)) (fun _ _ _ _ => False) := by
  refine T.All.of_bind ?_
  have e : (sFor (.one 2) (aRng (aCons (eC (.int 60)) aNil)) turnB) (penEnv 10) = loop (.one 2) turnB (rangeOf 60) (penEnv 10) := rfl
  rw [e]
  refine (loop_pen turn_ok (rangeOf 60) (penEnv 10) 4194304 rfl (by decide)).mono fun r b ⟨ρ2, e2, h2⟩ => ?_
  subst e2
  obtain ⟨s0, s2, s3, s4, s5, s6, s7, s8, s9, rfl⟩ := pen_is h2
  obtain ⟨_, e3⟩ := end_try s0 s2 s3 s4 s5 s6 s7 s8 s9
  show T.All (endB _) b _ _
  rw [e3]
  rfl
end W00

set_option Elab.async false
set_option linter.all false
set_option maxRecDepth 100000
set_option maxHeartbeats 4000000
namespace W00
open PySem PySem.Spec PyProof.Rows L2 Z
theorem all_mk {l : PySem.W.OpenLaw} {w : World} {K : PySem.W.Frag} {h : Heap} {mg : Str → Option Value} {fa f0 f1 f2 f3 f4 f5 f6 f7 f8 f9 f10 f11 f12 f13 f14 f15 f16 f17 f18 f19 f20 f21 f22 d_MADE_NAMES d_PLAIN_NAMES : Addr} {oc0 kV0 dc0 pm0 cd0 ct0 oc1 kV1 dc1 pm1 cd1 ct1 oc2 kV2 dc2 pm2 cd2 ct2 oc3 kV3 dc3 pm3 cd3 ct3 oc4 kV4 dc4 pm4 cd4 ct4 oc5 kV5 dc5 pm5 cd5 ct5 oc6 kV6 dc6 pm6 cd6 ct6 oc7 kV7 dc7 pm7 cd7 ct7 oc8 kV8 dc8 pm8 cd8 ct8 oc9 kV9 dc9 pm9 cd9 ct9 oc10 kV10 dc10 pm10 cd10 ct10 oc11 kV11 dc11 pm11 cd11 ct11 oc12 kV12 dc12 pm12 cd12 ct12 oc13 kV13 dc13 pm13 cd13 ct13 oc14 kV14 dc14 pm14 cd14 ct14 oc15 kV15 dc15 pm15 cd15 ct15 oc16 kV16 dc16 pm16 cd16 ct16 oc17 kV17 dc17 pm17 cd17 ct17 oc18 kV18 dc18 pm18 cd18 ct18 oc19 kV19 dc19 pm19 cd19 ct19 oc20 kV20 dc20 pm20 cd20 ct20 oc21 kV21 dc21 pm21 cd21 ct21 oc22 kV22 dc22 pm22 cd22 ct22 : Value} {od0 an0 od1 an1 od2 an2 od3 an3 od4 an4 od5 an5 od6 an6 od7 an7 od8 an8 od9 an9 od10 an10 od11 an11 od12 an12 od13 an13 od14 an14 od15 an15 od16 an16 od17 an17 od18 an18 od19 an19 od20 an20 od21 an21 od22 an22 : Option Addr} {sl0 sl1 sl2 sl3 sl4 sl5 sl6 sl7 sl8 sl9 sl10 sl11 sl12 sl13 sl14 sl15 sl16 sl17 sl18 sl19 sl20 sl21 sl22 : Array (Option Value)} {t_LETTERS t_MADE t_MOST_LETTERS t_MOST_NUMBER t_OWN t_TO : Tok} {es_MADE_NAMES es_PLAIN_NAMES : Array DictEntry} {m_MADE_NAMES m_PLAIN_NAMES : Nat} (X : K.In h) (G : h.Ns mainGlobals mg) (hfa : mg "law" = some (.ref fa))
    (a0 : PySem.W.nsIn K mainGlobals "is_integer" = some (some (.ref f0)))
    (l0 : K.lookup f0 = some ⟨oc0, od0, .func (PySem.W.fnOf "is_integer" "is_integer" (defArgs s_is_integer) (defBody s_is_integer) (defScope s_is_integer) .none kV0 dc0 pm0 an0 cd0 ct0), sl0⟩)
    (c0 : PySem.W.codeIn K cd0 "is_integer" = true)
    (k0 : PySem.W.keepIn K (.ref f0) = true)
    (a1 : PySem.W.nsIn K mainGlobals "is_within" = some (some (.ref f1)))
    (l1 : K.lookup f1 = some ⟨oc1, od1, .func (PySem.W.fnOf "is_within" "is_within" (defArgs s_is_within) (defBody s_is_within) (defScope s_is_within) .none kV1 dc1 pm1 an1 cd1 ct1), sl1⟩)
    (c1 : PySem.W.codeIn K cd1 "is_within" = true)
    (k1 : PySem.W.keepIn K (.ref f1) = true)
    (a2 : PySem.W.nsIn K mainGlobals "is_listed" = some (some (.ref f2)))
    (l2 : K.lookup f2 = some ⟨oc2, od2, .func (PySem.W.fnOf "is_listed" "is_listed" (defArgs s_is_listed) (defBody s_is_listed) (defScope s_is_listed) .none kV2 dc2 pm2 an2 cd2 ct2), sl2⟩)
    (c2 : PySem.W.codeIn K cd2 "is_listed" = true)
    (k2 : PySem.W.keepIn K (.ref f2) = true)
    (a3 : PySem.W.nsIn K mainGlobals "is_row" = some (some (.ref f3)))
    (l3 : K.lookup f3 = some ⟨oc3, od3, .func (PySem.W.fnOf "is_row" "is_row" (defArgs s_is_row) (defBody s_is_row) (defScope s_is_row) .none kV3 dc3 pm3 an3 cd3 ct3), sl3⟩)
    (c3 : PySem.W.codeIn K cd3 "is_row" = true)
    (k3 : PySem.W.keepIn K (.ref f3) = true)
    (a4 : PySem.W.nsIn K mainGlobals "is_name" = some (some (.ref f4)))
    (l4 : K.lookup f4 = some ⟨oc4, od4, .func (PySem.W.fnOf "is_name" "is_name" (defArgs s_is_name) (defBody s_is_name) (defScope s_is_name) .none kV4 dc4 pm4 an4 cd4 ct4), sl4⟩)
    (c4 : PySem.W.codeIn K cd4 "is_name" = true)
    (k4 : PySem.W.keepIn K (.ref f4) = true)
    (a5 : PySem.W.nsIn K mainGlobals "has_names" = some (some (.ref f5)))
    (l5 : K.lookup f5 = some ⟨oc5, od5, .func (PySem.W.fnOf "has_names" "has_names" (defArgs s_has_names) (defBody s_has_names) (defScope s_has_names) .none kV5 dc5 pm5 an5 cd5 ct5), sl5⟩)
    (c5 : PySem.W.codeIn K cd5 "has_names" = true)
    (k5 : PySem.W.keepIn K (.ref f5) = true)
    (a6 : PySem.W.nsIn K mainGlobals "is_plain" = some (some (.ref f6)))
    (l6 : K.lookup f6 = some ⟨oc6, od6, .func (PySem.W.fnOf "is_plain" "is_plain" (defArgs s_is_plain) (defBody s_is_plain) (defScope s_is_plain) .none kV6 dc6 pm6 an6 cd6 ct6), sl6⟩)
    (c6 : PySem.W.codeIn K cd6 "is_plain" = true)
    (k6 : PySem.W.keepIn K (.ref f6) = true)
    (a7 : PySem.W.nsIn K mainGlobals "is_spoken" = some (some (.ref f7)))
    (l7 : K.lookup f7 = some ⟨oc7, od7, .func (PySem.W.fnOf "is_spoken" "is_spoken" (defArgs s_is_spoken) (defBody s_is_spoken) (defScope s_is_spoken) .none kV7 dc7 pm7 an7 cd7 ct7), sl7⟩)
    (c7 : PySem.W.codeIn K cd7 "is_spoken" = true)
    (k7 : PySem.W.keepIn K (.ref f7) = true)
    (a8 : PySem.W.nsIn K mainGlobals "is_value" = some (some (.ref f8)))
    (l8 : K.lookup f8 = some ⟨oc8, od8, .func (PySem.W.fnOf "is_value" "is_value" (defArgs s_is_value) (defBody s_is_value) (defScope s_is_value) .none kV8 dc8 pm8 an8 cd8 ct8), sl8⟩)
    (c8 : PySem.W.codeIn K cd8 "is_value" = true)
    (k8 : PySem.W.keepIn K (.ref f8) = true)
    (a9 : PySem.W.nsIn K mainGlobals "is_right" = some (some (.ref f9)))
    (l9 : K.lookup f9 = some ⟨oc9, od9, .func (PySem.W.fnOf "is_right" "is_right" (defArgs s_is_right) (defBody s_is_right) (defScope s_is_right) .none kV9 dc9 pm9 an9 cd9 ct9), sl9⟩)
    (c9 : PySem.W.codeIn K cd9 "is_right" = true)
    (k9 : PySem.W.keepIn K (.ref f9) = true)
    (a10 : PySem.W.nsIn K mainGlobals "number_of" = some (some (.ref f10)))
    (l10 : K.lookup f10 = some ⟨oc10, od10, .func (PySem.W.fnOf "number_of" "number_of" (defArgs s_number_of) (defBody s_number_of) (defScope s_number_of) .none kV10 dc10 pm10 an10 cd10 ct10), sl10⟩)
    (c10 : PySem.W.codeIn K cd10 "number_of" = true)
    (k10 : PySem.W.keepIn K (.ref f10) = true)
    (a11 : PySem.W.nsIn K mainGlobals "with_number" = some (some (.ref f11)))
    (l11 : K.lookup f11 = some ⟨oc11, od11, .func (PySem.W.fnOf "with_number" "with_number" (defArgs s_with_number) (defBody s_with_number) (defScope s_with_number) .none kV11 dc11 pm11 an11 cd11 ct11), sl11⟩)
    (c11 : PySem.W.codeIn K cd11 "with_number" = true)
    (k11 : PySem.W.keepIn K (.ref f11) = true)
    (a12 : PySem.W.nsIn K mainGlobals "can_go" = some (some (.ref f12)))
    (l12 : K.lookup f12 = some ⟨oc12, od12, .func (PySem.W.fnOf "can_go" "can_go" (defArgs s_can_go) (defBody s_can_go) (defScope s_can_go) .none kV12 dc12 pm12 an12 cd12 ct12), sl12⟩)
    (c12 : PySem.W.codeIn K cd12 "can_go" = true)
    (k12 : PySem.W.keepIn K (.ref f12) = true)
    (a13 : PySem.W.nsIn K mainGlobals "_law_pen" = some (some (.ref f13)))
    (l13 : K.lookup f13 = some ⟨oc13, od13, .func (PySem.W.fnOf "_law_pen" "_law_pen" (defArgs s_law_pen) (defBody s_law_pen) (defScope s_law_pen) .none kV13 dc13 pm13 an13 cd13 ct13), sl13⟩)
    (c13 : PySem.W.codeIn K cd13 "_law_pen" = true)
    (k13 : PySem.W.keepIn K (.ref f13) = true)
    (a14 : PySem.W.nsIn K mainGlobals "_law_draw" = some (some (.ref f14)))
    (l14 : K.lookup f14 = some ⟨oc14, od14, .func (PySem.W.fnOf "_law_draw" "_law_draw" (defArgs s_law_draw) (defBody s_law_draw) (defScope s_law_draw) .none kV14 dc14 pm14 an14 cd14 ct14), sl14⟩)
    (c14 : PySem.W.codeIn K cd14 "_law_draw" = true)
    (k14 : PySem.W.keepIn K (.ref f14) = true)
    (a15 : PySem.W.nsIn K mainGlobals "_law_pick" = some (some (.ref f15)))
    (l15 : K.lookup f15 = some ⟨oc15, od15, .func (PySem.W.fnOf "_law_pick" "_law_pick" (defArgs s__law_pick) (defBody s__law_pick) (defScope s__law_pick) .none kV15 dc15 pm15 an15 cd15 ct15), sl15⟩)
    (c15 : PySem.W.codeIn K cd15 "_law_pick" = true)
    (k15 : PySem.W.keepIn K (.ref f15) = true)
    (a16 : PySem.W.nsIn K mainGlobals "_law_number" = some (some (.ref f16)))
    (l16 : K.lookup f16 = some ⟨oc16, od16, .func (PySem.W.fnOf "_law_number" "_law_number" (defArgs s__law_number) (defBody s__law_number) (defScope s__law_number) .none kV16 dc16 pm16 an16 cd16 ct16), sl16⟩)
    (c16 : PySem.W.codeIn K cd16 "_law_number" = true)
    (k16 : PySem.W.keepIn K (.ref f16) = true)
    (a17 : PySem.W.nsIn K mainGlobals "_law_goes" = some (some (.ref f17)))
    (l17 : K.lookup f17 = some ⟨oc17, od17, .func (PySem.W.fnOf "_law_goes" "_law_goes" (defArgs s__law_goes) (defBody s__law_goes) (defScope s__law_goes) .none kV17 dc17 pm17 an17 cd17 ct17), sl17⟩)
    (c17 : PySem.W.codeIn K cd17 "_law_goes" = true)
    (k17 : PySem.W.keepIn K (.ref f17) = true)
    (a18 : PySem.W.nsIn K mainGlobals "_law_wild" = some (some (.ref f18)))
    (l18 : K.lookup f18 = some ⟨oc18, od18, .func (PySem.W.fnOf "_law_wild" "_law_wild" (defArgs s__law_wild) (defBody s__law_wild) (defScope s__law_wild) .none kV18 dc18 pm18 an18 cd18 ct18), sl18⟩)
    (c18 : PySem.W.codeIn K cd18 "_law_wild" = true)
    (k18 : PySem.W.keepIn K (.ref f18) = true)
    (a19 : PySem.W.nsIn K mainGlobals "_law_some_value" = some (some (.ref f19)))
    (l19 : K.lookup f19 = some ⟨oc19, od19, .func (PySem.W.fnOf "_law_some_value" "_law_some_value" (defArgs s__law_some_value) (defBody s__law_some_value) (defScope s__law_some_value) .none kV19 dc19 pm19 an19 cd19 ct19), sl19⟩)
    (c19 : PySem.W.codeIn K cd19 "_law_some_value" = true)
    (k19 : PySem.W.keepIn K (.ref f19) = true)
    (a20 : PySem.W.nsIn K mainGlobals "_law_is_name" = some (some (.ref f20)))
    (l20 : K.lookup f20 = some ⟨oc20, od20, .func (PySem.W.fnOf "_law_is_name" "_law_is_name" (defArgs s__law_is_name) (defBody s__law_is_name) (defScope s__law_is_name) .none kV20 dc20 pm20 an20 cd20 ct20), sl20⟩)
    (c20 : PySem.W.codeIn K cd20 "_law_is_name" = true)
    (k20 : PySem.W.keepIn K (.ref f20) = true)
    (a21 : PySem.W.nsIn K mainGlobals "_law_is_value" = some (some (.ref f21)))
    (l21 : K.lookup f21 = some ⟨oc21, od21, .func (PySem.W.fnOf "_law_is_value" "_law_is_value" (defArgs s__law_is_value) (defBody s__law_is_value) (defScope s__law_is_value) .none kV21 dc21 pm21 an21 cd21 ct21), sl21⟩)
    (c21 : PySem.W.codeIn K cd21 "_law_is_value" = true)
    (k21 : PySem.W.keepIn K (.ref f21) = true)
    (a22 : PySem.W.nsIn K mainGlobals "law" = some (some (.ref f22)))
    (l22 : K.lookup f22 = some ⟨oc22, od22, .func (PySem.W.fnOf "law" "law" (defArgs s_law) (defBody s_law) (defScope s_law) .none kV22 dc22 pm22 an22 cd22 ct22), sl22⟩)
    (c22 : PySem.W.codeIn K cd22 "law" = true)
    (k22 : PySem.W.keepIn K (.ref f22) = true)
    (z_abs : PySem.W.nsIn K mainGlobals "abs" = some none)
    (z_all : PySem.W.nsIn K mainGlobals "all" = some none)
    (z_bool : PySem.W.nsIn K mainGlobals "bool" = some none)
    (z_int : PySem.W.nsIn K mainGlobals "int" = some none)
    (z_isinstance : PySem.W.nsIn K mainGlobals "isinstance" = some none)
    (z_len : PySem.W.nsIn K mainGlobals "len" = some none)
    (z_list : PySem.W.nsIn K mainGlobals "list" = some none)
    (z_range : PySem.W.nsIn K mainGlobals "range" = some none)
    (z_repr : PySem.W.nsIn K mainGlobals "repr" = some none)
    (z_str : PySem.W.nsIn K mainGlobals "str" = some none)
    (z_tuple : PySem.W.nsIn K mainGlobals "tuple" = some none)
    (q_LETTERS : PySem.W.nsIn K mainGlobals "LETTERS" = some (some (.str "abcdefghijklmnopqrstuvwxyz" t_LETTERS)))
    (q_MADE : PySem.W.nsIn K mainGlobals "MADE" = some (some (.str "made" t_MADE)))
    (q_MOST_LETTERS : PySem.W.nsIn K mainGlobals "MOST_LETTERS" = some (some (.int 8 t_MOST_LETTERS)))
    (q_MOST_NUMBER : PySem.W.nsIn K mainGlobals "MOST_NUMBER" = some (some (.int 999999 t_MOST_NUMBER)))
    (q_OWN : PySem.W.nsIn K mainGlobals "OWN" = some (some (.str "own" t_OWN)))
    (q_TO : PySem.W.nsIn K mainGlobals "TO" = some (some (.str "to" t_TO)))
    (n_MADE_NAMES : PySem.W.nsIn K mainGlobals "MADE_NAMES" = some (some (.ref d_MADE_NAMES)))
    (o_MADE_NAMES : K.lookup d_MADE_NAMES = some ⟨.type "dict", none, .dict es_MADE_NAMES m_MADE_NAMES, #[]⟩)
    (p_MADE_NAMES : PySem.W.KeysLit w.params es_MADE_NAMES.toList)
    (r_MADE_NAMES : (d_MADE_NAMES == sysModules) = false)
    (e_MADE_NAMES : EntAre K es_MADE_NAMES.toList tab_MADE_NAMES)
    (n_PLAIN_NAMES : PySem.W.nsIn K mainGlobals "PLAIN_NAMES" = some (some (.ref d_PLAIN_NAMES)))
    (o_PLAIN_NAMES : K.lookup d_PLAIN_NAMES = some ⟨.type "dict", none, .dict es_PLAIN_NAMES m_PLAIN_NAMES, #[]⟩)
    (p_PLAIN_NAMES : PySem.W.KeysLit w.params es_PLAIN_NAMES.toList)
    (r_PLAIN_NAMES : (d_PLAIN_NAMES == sysModules) = false)
    (e_PLAIN_NAMES : EntAre K es_PLAIN_NAMES.toList tab_PLAIN_NAMES)
    : ∃ fd : FuncData, (∀ (s : Shared) (v : Value), BindsTo s fd ⟨[v], []⟩ [("script", v)]) ∧ ∀ base : Heap, K.In base → base.Ns mainGlobals mg → FnG l.prog w K mg base 6 fa fd ["script"] (spLaw K) := by
  have e := hfa.symm.trans (PySem.W.mg_of X G a22)
  cases e
  have T : Txt K w mg := { m_all := PySem.W.mg_none_of X G z_all, m_bool := PySem.W.mg_none_of X G z_bool, m_int := PySem.W.mg_none_of X G z_int, m_isinstance := PySem.W.mg_none_of X G z_isinstance, m_len := PySem.W.mg_none_of X G z_len, m_list := PySem.W.mg_none_of X G z_list, m_range := PySem.W.mg_none_of X G z_range, m_repr := PySem.W.mg_none_of X G z_repr, m_str := PySem.W.mg_none_of X G z_str, m_tuple := PySem.W.mg_none_of X G z_tuple, g_LETTERS := glv_of (v := (.str "abcdefghijklmnopqrstuvwxyz")) (PySem.W.mg_of X G q_LETTERS) ⟨_, rfl⟩ (fun _ _ _ => .str _), g_MADE := glv_of (v := (.str "made")) (PySem.W.mg_of X G q_MADE) ⟨_, rfl⟩ (fun _ _ _ => .str _), g_MOST_LETTERS := glv_of (v := (.int 8)) (PySem.W.mg_of X G q_MOST_LETTERS) ⟨_, rfl⟩ (fun _ _ _ => .int _), g_MOST_NUMBER := glv_of (v := (.int 999999)) (PySem.W.mg_of X G q_MOST_NUMBER) ⟨_, rfl⟩ (fun _ _ _ => .int _), g_OWN := glv_of (v := (.str "own")) (PySem.W.mg_of X G q_OWN) ⟨_, rfl⟩ (fun _ _ _ => .str _), g_TO := glv_of (v := (.str "to")) (PySem.W.mg_of X G q_TO) ⟨_, rfl⟩ (fun _ _ _ => .str _), t_MADE_NAMES := ktab_mk (PySem.W.mg_of X G n_MADE_NAMES) o_MADE_NAMES p_MADE_NAMES r_MADE_NAMES e_MADE_NAMES, t_PLAIN_NAMES := ktab_mk (PySem.W.mg_of X G n_PLAIN_NAMES) o_PLAIN_NAMES p_PLAIN_NAMES r_PLAIN_NAMES e_PLAIN_NAMES }
  have F0 := fun_mk (st := s_is_integer) l0 c0 k0
  have F1 := fun_mk (st := s_is_within) l1 c1 k1
  have F2 := fun_mk (st := s_is_listed) l2 c2 k2
  have F3 := fun_mk (st := s_is_row) l3 c3 k3
  have F4 := fun_mk (st := s_is_name) l4 c4 k4
  have F5 := fun_mk (st := s_has_names) l5 c5 k5
  have F6 := fun_mk (st := s_is_plain) l6 c6 k6
  have F7 := fun_mk (st := s_is_spoken) l7 c7 k7
  have F8 := fun_mk (st := s_is_value) l8 c8 k8
  have F9 := fun_mk (st := s_is_right) l9 c9 k9
  have F10 := fun_mk (st := s_number_of) l10 c10 k10
  have F11 := fun_mk (st := s_with_number) l11 c11 k11
  have F12 := fun_mk (st := s_can_go) l12 c12 k12
  have F13 := fun_mk (st := s_law_pen) l13 c13 k13
  have F14 := fun_mk (st := s_law_draw) l14 c14 k14
  have F15 := fun_mk (st := s__law_pick) l15 c15 k15
  have F16 := fun_mk (st := s__law_number) l16 c16 k16
  have F17 := fun_mk (st := s__law_goes) l17 c17 k17
  have F18 := fun_mk (st := s__law_wild) l18 c18 k18
  have F19 := fun_mk (st := s__law_some_value) l19 c19 k19
  have F20 := fun_mk (st := s__law_is_name) l20 c20 k20
  have F21 := fun_mk (st := s__law_is_value) l21 c21 k21
  have F22 := fun_mk (st := s_law) l22 c22 k22
  refine ⟨PySem.W.fnOf "law" "law" (defArgs s_law) (defBody s_law) (defScope s_law) .none kV22 dc22 pm22 an22 cd22 ct22, fun s v => .of_eq rfl, fun base _ _ => ?_⟩
  have b0 := F0.binds (ps := ["value"]) fun _ _ _ _ _ _ us hl => match us, hl with | [_], _ => rfl
  have G0 := ok_is_integer (P := l.prog) (base := base) F0 T
  have c_is_integer : Fn l.prog w K mg base 1 "is_integer" 1 f_is_integer := ⟨_, _, _, PySem.W.mg_of X G a0, F0.kp, b0, rfl, G0⟩
  have b1 := F1.binds (ps := ["value", "least", "most"]) fun _ _ _ _ _ _ us hl => match us, hl with | [_, _, _], _ => rfl
  have G1 := ok_is_within (P := l.prog) (base := base) F1 T c_is_integer
  have c_is_within : Fn l.prog w K mg base 2 "is_within" 3 f_is_within := ⟨_, _, _, PySem.W.mg_of X G a1, F1.kp, b1, rfl, G1⟩
  have b2 := F2.binds (ps := ["value"]) fun _ _ _ _ _ _ us hl => match us, hl with | [_], _ => rfl
  have G2 := ok_is_listed (P := l.prog) (base := base) F2 T
  have c_is_listed : Fn l.prog w K mg base 1 "is_listed" 1 f_is_listed := ⟨_, _, _, PySem.W.mg_of X G a2, F2.kp, b2, rfl, G2⟩
  have b3 := F3.binds (ps := ["value", "many"]) fun _ _ _ _ _ _ us hl => match us, hl with | [_, _], _ => rfl
  have G3 := ok_is_row (P := l.prog) (base := base) F3 T c_is_listed
  have c_is_row : Fn l.prog w K mg base 2 "is_row" 2 f_is_row := ⟨_, _, _, PySem.W.mg_of X G a3, F3.kp, b3, rfl, G3⟩
  have b4 := F4.binds (ps := ["value"]) fun _ _ _ _ _ _ us hl => match us, hl with | [_], _ => rfl
  have G4 := ok_is_name (P := l.prog) (base := base) F4 T
  have c_is_name : Fn l.prog w K mg base 1 "is_name" 1 f_is_name := ⟨_, _, _, PySem.W.mg_of X G a4, F4.kp, b4, rfl, G4⟩
  have b5 := F5.binds (ps := ["value", "many"]) fun _ _ _ _ _ _ us hl => match us, hl with | [_, _], _ => rfl
  have G5 := ok_has_names (P := l.prog) (base := base) F5 T c_is_name
  have c_has_names : Fn l.prog w K mg base 2 "has_names" 2 f_has_names := ⟨_, _, _, PySem.W.mg_of X G a5, F5.kp, b5, rfl, G5⟩
  have b6 := F6.binds (ps := ["value"]) fun _ _ _ _ _ _ us hl => match us, hl with | [_], _ => rfl
  have G6 := ok_is_plain (P := l.prog) (base := base) F6 T c_has_names
  have c_is_plain : Fn l.prog w K mg base 3 "is_plain" 1 f_is_plain := ⟨_, _, _, PySem.W.mg_of X G a6, F6.kp, b6, rfl, G6⟩
  have k_is_plain__value : FnK l.prog w K mg base 3 "is_plain" 1 ["value"] [0] f_is_plain := ⟨_, _, _, PySem.W.mg_of X G a6, F6.kp, fun s ws _ hl => match ws, hl with | [_], _ => .of_eq rfl, rfl, G6⟩
  have b7 := F7.binds (ps := ["value"]) fun _ _ _ _ _ _ us hl => match us, hl with | [_], _ => rfl
  have G7 := ok_is_spoken (P := l.prog) (base := base) F7 T c_has_names c_is_row c_is_within
  have c_is_spoken : Fn l.prog w K mg base 3 "is_spoken" 1 f_is_spoken := ⟨_, _, _, PySem.W.mg_of X G a7, F7.kp, b7, rfl, G7⟩
  have k_is_spoken__value : FnK l.prog w K mg base 3 "is_spoken" 1 ["value"] [0] f_is_spoken := ⟨_, _, _, PySem.W.mg_of X G a7, F7.kp, fun s ws _ hl => match ws, hl with | [_], _ => .of_eq rfl, rfl, G7⟩
  have b8 := F8.binds (ps := ["value"]) fun _ _ _ _ _ _ us hl => match us, hl with | [_], _ => rfl
  have G8 := ok_is_value (P := l.prog) (base := base) F8 T c_is_plain c_is_spoken
  have c_is_value : Fn l.prog w K mg base 4 "is_value" 1 f_is_value := ⟨_, _, _, PySem.W.mg_of X G a8, F8.kp, b8, rfl, G8⟩
  have k_is_value__value : FnK l.prog w K mg base 4 "is_value" 1 ["value"] [0] f_is_value := ⟨_, _, _, PySem.W.mg_of X G a8, F8.kp, fun s ws _ hl => match ws, hl with | [_], _ => .of_eq rfl, rfl, G8⟩
  have b9 := F9.binds (ps := ["value"]) fun _ _ _ _ _ _ us hl => match us, hl with | [_], _ => rfl
  have G9 := ok_is_right (P := l.prog) (base := base) F9 T c_is_value
  have c_is_right : Fn l.prog w K mg base 5 "is_right" 1 f_is_right := ⟨_, _, _, PySem.W.mg_of X G a9, F9.kp, b9, rfl, G9⟩
  have k_is_right__value : FnK l.prog w K mg base 5 "is_right" 1 ["value"] [0] f_is_right := ⟨_, _, _, PySem.W.mg_of X G a9, F9.kp, fun s ws _ hl => match ws, hl with | [_], _ => .of_eq rfl, rfl, G9⟩
  have b10 := F10.binds (ps := ["value"]) fun _ _ _ _ _ _ us hl => match us, hl with | [_], _ => rfl
  have G10 := ok_number_of (P := l.prog) (base := base) F10 T
  have c_number_of : Fn l.prog w K mg base 1 "number_of" 1 f_number_of := ⟨_, _, _, PySem.W.mg_of X G a10, F10.kp, b10, rfl, G10⟩
  have k_number_of__value : FnK l.prog w K mg base 1 "number_of" 1 ["value"] [0] f_number_of := ⟨_, _, _, PySem.W.mg_of X G a10, F10.kp, fun s ws _ hl => match ws, hl with | [_], _ => .of_eq rfl, rfl, G10⟩
  have b11 := F11.binds (ps := ["value", "number"]) fun _ _ _ _ _ _ us hl => match us, hl with | [_, _], _ => rfl
  have G11 := ok_with_number (P := l.prog) (base := base) F11 T c_number_of
  have c_with_number : Fn l.prog w K mg base 2 "with_number" 2 f_with_number := ⟨_, _, _, PySem.W.mg_of X G a11, F11.kp, b11, rfl, G11⟩
  have k_with_number__number_value : FnK l.prog w K mg base 2 "with_number" 2 ["number", "value"] [1, 0] f_with_number := ⟨_, _, _, PySem.W.mg_of X G a11, F11.kp, fun s ws _ hl => match ws, hl with | [_, _], _ => .of_eq rfl, rfl, G11⟩
  have b12 := F12.binds (ps := ["right", "argument"]) fun _ _ _ _ _ _ us hl => match us, hl with | [_, _], _ => rfl
  have G12 := ok_can_go (P := l.prog) (base := base) F12 T c_number_of
  have c_can_go : Fn l.prog w K mg base 2 "can_go" 2 f_can_go := ⟨_, _, _, PySem.W.mg_of X G a12, F12.kp, b12, rfl, G12⟩
  have k_can_go__argument_right : FnK l.prog w K mg base 2 "can_go" 2 ["argument", "right"] [1, 0] f_can_go := ⟨_, _, _, PySem.W.mg_of X G a12, F12.kp, fun s ws _ hl => match ws, hl with | [_, _], _ => .of_eq rfl, rfl, G12⟩
  have b13 := F13.binds (ps := ["script"]) fun _ _ _ _ _ _ us hl => match us, hl with | [_], _ => rfl
  have b14 := F14.binds (ps := ["pen", "many"]) fun _ _ _ _ _ _ us hl => match us, hl with | [_, _], _ => rfl
  have c__law_draw : Fn l.prog w K mg base 1 "_law_draw" 2 f__law_draw := ⟨_, _, _, PySem.W.mg_of X G a14, F14.kp, b14, rfl, ok_law_draw F14 T.m_int T.m_len (PySem.W.mg_none_of X G z_abs)⟩
  have b15 := F15.binds (ps := ["pen", "some"]) fun _ _ _ _ _ _ us hl => match us, hl with | [_, _], _ => rfl
  have G15 := ok__law_pick (P := l.prog) (base := base) F15 T c__law_draw
  have c__law_pick : Fn l.prog w K mg base 2 "_law_pick" 2 f__law_pick := ⟨_, _, _, PySem.W.mg_of X G a15, F15.kp, b15, rfl, G15⟩
  have b16 := F16.binds (ps := ["value"]) fun _ _ _ _ _ _ us hl => match us, hl with | [_], _ => rfl
  have G16 := ok__law_number (P := l.prog) (base := base) F16 T
  have c__law_number : Fn l.prog w K mg base 1 "_law_number" 1 f__law_number := ⟨_, _, _, PySem.W.mg_of X G a16, F16.kp, b16, rfl, G16⟩
  have b17 := F17.binds (ps := ["right", "argument"]) fun _ _ _ _ _ _ us hl => match us, hl with | [_, _], _ => rfl
  have G17 := ok__law_goes (P := l.prog) (base := base) F17 T c__law_number
  have c__law_goes : Fn l.prog w K mg base 2 "_law_goes" 2 f__law_goes := ⟨_, _, _, PySem.W.mg_of X G a17, F17.kp, b17, rfl, G17⟩
  have b18 := F18.binds (ps := ["pen"]) fun _ _ _ _ _ _ us hl => match us, hl with | [_], _ => rfl
  have G18 := ok__law_wild (P := l.prog) (base := base) F18 T c__law_pick
  have c__law_wild : Fn l.prog w K mg base 3 "_law_wild" 1 f__law_wild := ⟨_, _, _, PySem.W.mg_of X G a18, F18.kp, b18, rfl, G18⟩
  have b19 := F19.binds (ps := ["pen"]) fun _ _ _ _ _ _ us hl => match us, hl with | [_], _ => rfl
  have G19 := ok__law_some_value (P := l.prog) (base := base) F19 T c__law_pick
  have c__law_some_value : Fn l.prog w K mg base 3 "_law_some_value" 1 f__law_some_value := ⟨_, _, _, PySem.W.mg_of X G a19, F19.kp, b19, rfl, G19⟩
  have b20 := F20.binds (ps := ["value"]) fun _ _ _ _ _ _ us hl => match us, hl with | [_], _ => rfl
  have G20 := ok__law_is_name (P := l.prog) (base := base) F20 T
  have c__law_is_name : Fn l.prog w K mg base 1 "_law_is_name" 1 f__law_is_name := ⟨_, _, _, PySem.W.mg_of X G a20, F20.kp, b20, rfl, G20⟩
  have b21 := F21.binds (ps := ["value", "words"]) fun _ _ _ _ _ _ us hl => match us, hl with | [_, _], _ => rfl
  have G21 := ok__law_is_value (P := l.prog) (base := base) F21 T c__law_is_name
  have c__law_is_value : Fn l.prog w K mg base 2 "_law_is_value" 2 f__law_is_value := ⟨_, _, _, PySem.W.mg_of X G a21, F21.kp, b21, rfl, G21⟩
  exact ok_law plain F22 T (PySem.W.mg_of X G a13) F13 b13 c__law_draw c__law_goes c__law_is_value c__law_number c__law_pick c__law_some_value c__law_wild c_can_go c_is_plain c_is_right c_is_spoken c_number_of c_with_number k_can_go__argument_right k_is_plain__value k_is_right__value k_is_spoken__value k_is_value__value k_number_of__value k_with_number__number_value
theorem walk {l : PySem.W.OpenLaw} {q : Program} {loose : List Str} {XP : (Str → Option Value) → Heap → Prop} {YP : World → Heap → Prop} {d : DefRec} {K : Params → PySem.W.Frag} (hn : l.most = some 63) (hdf : d.params.defaults = [])
    (hY : ∀ (w : World) (h : Heap), YP w h → (K w.params).In h)
    (F : ∀ (w : World) (mg : Str → Option Value) (fa : Addr) (h : Heap), (K w.params).In h → h.Ns mainGlobals mg → mg d.name = some (.ref fa) →
      ∃ fd : FuncData, (∀ (s : Shared) (u : Value), BindsTo s fd ⟨[u], []⟩ [("script", u)]) ∧ ∀ base : Heap, (K w.params).In base → base.Ns mainGlobals mg → FnG l.prog w (K w.params) mg base 6 fa fd ["script"] (spLaw (K w.params))) :
    PySem.W.WalkO q loose XP YP l.row.toRowW d [] (fun f vs => PySem.call f vs) :=
  walkG (n := 63) (k := 6) (x := "script") (sp := fun w => spLaw (K w.params)) hn (by decide) hdf ⟨⟨rfl, by decide, by decide⟩, rfl⟩ hY F fun w H a ns hl _ hS => ⟨a, ns, rfl, hS, hl, fun _ => rfl⟩
end W00

open PySem PySem.W PyProof.Rows in
set_option maxRecDepth 100000 in
set_option maxHeartbeats 0 in
theorem PySem.Challenge.cw_wallorplot_k00_values_are_told_from_what_holds : PySem.Challenge.rw_wallorplot_k00_values_are_told_from_what.Holds := by
  w_on; o_law; k_head; (case hw => w_witness2)
  k_fill
  refine W00.walk (l := PySem.Challenge.rw_wallorplot_k00_values_are_told_from_what) rfl rfl (fun w h Y => PySem.W.kIn_of Y) ?F
  case F =>
    intro w mg fa h KX G hmg
    refine' W00.all_mk KX G hmg ?a0 ?l0 ?c0 ?k0 ?a1 ?l1 ?c1 ?k1 ?a2 ?l2 ?c2 ?k2 ?a3 ?l3 ?c3 ?k3 ?a4 ?l4 ?c4 ?k4 ?a5 ?l5 ?c5 ?k5 ?a6 ?l6 ?c6 ?k6 ?a7 ?l7 ?c7 ?k7 ?a8 ?l8 ?c8 ?k8 ?a9 ?l9 ?c9 ?k9 ?a10 ?l10 ?c10 ?k10 ?a11 ?l11 ?c11 ?k11 ?a12 ?l12 ?c12 ?k12 ?a13 ?l13 ?c13 ?k13 ?a14 ?l14 ?c14 ?k14 ?a15 ?l15 ?c15 ?k15 ?a16 ?l16 ?c16 ?k16 ?a17 ?l17 ?c17 ?k17 ?a18 ?l18 ?c18 ?k18 ?a19 ?l19 ?c19 ?k19 ?a20 ?l20 ?c20 ?k20 ?a21 ?l21 ?c21 ?k21 ?a22 ?l22 ?c22 ?k22 ?z_abs ?z_all ?z_bool ?z_int ?z_isinstance ?z_len ?z_list ?z_range ?z_repr ?z_str ?z_tuple ?q_LETTERS ?q_MADE ?q_MOST_LETTERS ?q_MOST_NUMBER ?q_OWN ?q_TO ?n_MADE_NAMES ?o_MADE_NAMES ?p_MADE_NAMES ?r_MADE_NAMES ?e_MADE_NAMES ?n_PLAIN_NAMES ?o_PLAIN_NAMES ?p_PLAIN_NAMES ?r_PLAIN_NAMES ?e_PLAIN_NAMES
    (case a0 => k_is)
    (case l0 => k_is)
    (case c0 => k_is)
    (case k0 => k_is)
    (case a1 => k_is)
    (case l1 => k_is)
    (case c1 => k_is)
    (case k1 => k_is)
    (case a2 => k_is)
    (case l2 => k_is)
    (case c2 => k_is)
    (case k2 => k_is)
    (case a3 => k_is)
    (case l3 => k_is)
    (case c3 => k_is)
    (case k3 => k_is)
    (case a4 => k_is)
    (case l4 => k_is)
    (case c4 => k_is)
    (case k4 => k_is)
    (case a5 => k_is)
    (case l5 => k_is)
    (case c5 => k_is)
    (case k5 => k_is)
    (case a6 => k_is)
    (case l6 => k_is)
    (case c6 => k_is)
    (case k6 => k_is)
    (case a7 => k_is)
    (case l7 => k_is)
    (case c7 => k_is)
    (case k7 => k_is)
    (case a8 => k_is)
    (case l8 => k_is)
    (case c8 => k_is)
    (case k8 => k_is)
    (case a9 => k_is)
    (case l9 => k_is)
    (case c9 => k_is)
    (case k9 => k_is)
    (case a10 => k_is)
    (case l10 => k_is)
    (case c10 => k_is)
    (case k10 => k_is)
    (case a11 => k_is)
    (case l11 => k_is)
    (case c11 => k_is)
    (case k11 => k_is)
    (case a12 => k_is)
    (case l12 => k_is)
    (case c12 => k_is)
    (case k12 => k_is)
    (case a13 => k_is)
    (case l13 => k_is)
    (case c13 => k_is)
    (case k13 => k_is)
    (case a14 => k_is)
    (case l14 => k_is)
    (case c14 => k_is)
    (case k14 => k_is)
    (case a15 => k_is)
    (case l15 => k_is)
    (case c15 => k_is)
    (case k15 => k_is)
    (case a16 => k_is)
    (case l16 => k_is)
    (case c16 => k_is)
    (case k16 => k_is)
    (case a17 => k_is)
    (case l17 => k_is)
    (case c17 => k_is)
    (case k17 => k_is)
    (case a18 => k_is)
    (case l18 => k_is)
    (case c18 => k_is)
    (case k18 => k_is)
    (case a19 => k_is)
    (case l19 => k_is)
    (case c19 => k_is)
    (case k19 => k_is)
    (case a20 => k_is)
    (case l20 => k_is)
    (case c20 => k_is)
    (case k20 => k_is)
    (case a21 => k_is)
    (case l21 => k_is)
    (case c21 => k_is)
    (case k21 => k_is)
    (case a22 => k_is)
    (case l22 => k_is)
    (case c22 => k_is)
    (case k22 => k_is)
    (case z_abs => k_is)
    (case z_all => k_is)
    (case z_bool => k_is)
    (case z_int => k_is)
    (case z_isinstance => k_is)
    (case z_len => k_is)
    (case z_list => k_is)
    (case z_range => k_is)
    (case z_repr => k_is)
    (case z_str => k_is)
    (case z_tuple => k_is)
    (case q_LETTERS => k_is)
    (case q_MADE => k_is)
    (case q_MOST_LETTERS => k_is)
    (case q_MOST_NUMBER => k_is)
    (case q_OWN => k_is)
    (case q_TO => k_is)
    (case n_MADE_NAMES => k_is)
    (case o_MADE_NAMES => k_is)
    (case p_MADE_NAMES => exact ⟨⟨_, _, rfl, rfl⟩, ⟨⟨_, _, rfl, rfl⟩, trivial⟩⟩)
    (case r_MADE_NAMES => first | rfl | decide)
    (case e_MADE_NAMES => exact .cons (v := (.int 2)) rfl ⟨_, rfl⟩ (fun _ _ _ => .int _) (.cons (v := (.int 1)) rfl ⟨_, rfl⟩ (fun _ _ _ => .int _) (.nil)))
    (case n_PLAIN_NAMES => k_is)
    (case o_PLAIN_NAMES => k_is)
    (case p_PLAIN_NAMES => exact ⟨⟨_, _, rfl, rfl⟩, ⟨⟨_, _, rfl, rfl⟩, ⟨⟨_, _, rfl, rfl⟩, trivial⟩⟩⟩)
    (case r_PLAIN_NAMES => first | rfl | decide)
    (case e_PLAIN_NAMES => exact .cons (v := (.int 1)) rfl ⟨_, rfl⟩ (fun _ _ _ => .int _) (.cons (v := (.int 2)) rfl ⟨_, rfl⟩ (fun _ _ _ => .int _) (.cons (v := (.int 1)) rfl ⟨_, rfl⟩ (fun _ _ _ => .int _) (.nil))))

