import PyProof.Rows.All
import Wide.All
import OpenK.AllK
import Wide.FinOn
import HandS.ForMost
import HandS.IsInst
import HandS.Deep
import HandS.Star
import HandS.TupAny
import HandS.Flow
import HandS.More
import HandS.Lambda
import HandS.WordsExc
import PyProof.ReprRoads
import HandS.ExcInit
import KE.KExcSuper
import HandS.ExcField
import HandS.ExcIs
import HandS.Zip
import HandS.SortInts
import OpenK.KWalk
import HandS.Records
import PyProof.InstNe
import HandS.SetFor
import HandS.Strs
import HandS.Style
import HandS.EndTab
import KE.KNestM
import PyProof.P3Eq
import HandS.OwnEq
import HandS.TupSets
import KE.SortData
import KE.KTypeName
import HandS.DictEq
import PyProof.EqKinds
import HandS.Nested
import HandS.ClsMeth
import KE.KSuper
import HandS.NoneIn
import PySem.Challenge.RW_wallorplot_k23_papers_and_errors
set_option Elab.async false
set_option linter.all false
set_option maxRecDepth 100000
set_option maxHeartbeats 4000000
/-! Y1: data as trees, a store of what changes, choices, what represents what. -/
namespace Y
open PySem PySem.Spec PyProof.Rows L2

inductive Ty where
  | none | bool | int | str | list | tuple | dict
  deriving DecidableEq
def Ty.name : Ty → String
  | .none => "NoneType" | .bool => "bool" | .int => "int" | .str => "str" | .list => "list" | .tuple => "tuple" | .dict => "dict"
/-- data that does not change -/
inductive D where
  | non | bl (b : Bool) | int (i : Int) | str (x : Str)
  | lst (xs : List D) | tup (xs : List D)
  | dic (ks : List Key) (vs : List D)
  | obj (C : Nat) (fs : List Str) (vs : List D)
  | err (C : Nat) (fs : List Str) (vs : List D)
  | ty (n : Ty) | cls (n : Nat) | fn (n : Nat) | pen
/-- data, or the thing n of the store -/
inductive Vd where
  | t (d : D) | r (n : Nat)
/-- a thing of the store: it changes -/
inductive Ce where
  | lst (ds : List D) | dic (ks : List Key) (ds : List D) | obj (C : Nat) (fs : List Str) (xs : List Vd) | dead
abbrev Mu := List Ce
abbrev Env' := List (Option Vd)

/-- a run with open choices -/
inductive T (α : Type) where
  | ret (a : α) | ask (m : Nat) (k : Nat → T α) | exc (C : Nat) (fs : List Str) (vs : List D) | bad

abbrev XP := Nat → List Str → List D → Nat → Prop
namespace T
def bind {α β : Type} : T α → (α → T β) → T β
  | ret a, f => f a
  | ask m k, f => ask m fun c => bind (k c) f
  | exc C fs vs, _ => exc C fs vs
  | bad, _ => bad
def ofO {α : Type} : Option α → T α
  | some a => ret a
  | none => bad
/-- all ways end, in P, or by an error, in Y; at most b choices -/
def All {α : Type} : T α → Nat → (α → Nat → Prop) → XP → Prop
  | ret a, b, P, _ => P a b
  | ask m k, b, P, Y => ∃ b', b = b' + 1 ∧ ∀ c, c < m → All (k c) b' P Y
  | exc C fs vs, b, _, Y => Y C fs vs b
  | bad, _, _, _ => False
theorem All.mono2 {α : Type} : ∀ {t : T α} {b : Nat} {P Q : α → Nat → Prop} {Y Z : XP}, All t b P Y → (∀ a b, P a b → Q a b) → (∀ C fs vs b, Y C fs vs b → Z C fs vs b) → All t b Q Z
  | ret a, b, P, Q, Y, Z, h, k, k2 => k a b h
  | ask m f, b, P, Q, Y, Z, ⟨b', e, h⟩, k, k2 => ⟨b', e, fun c hc => All.mono2 (h c hc) k k2⟩
  | exc C fs vs, b, P, Q, Y, Z, h, k, k2 => k2 C fs vs b h
  | bad, _, _, _, _, _, h, k, k2 => h.elim
theorem All.mono {α : Type} {t : T α} {b : Nat} {P Q : α → Nat → Prop} {Y : XP} (h : All t b P Y) (k : ∀ a b, P a b → Q a b) : All t b Q Y := All.mono2 h k fun _ _ _ _ x => x
theorem All.bind {α β : Type} {f : α → T β} {P : β → Nat → Prop} {Y : XP} : ∀ {t : T α} {b : Nat}, All (T.bind t f) b P Y → All t b (fun a b' => All (f a) b' P Y) Y
  | ret a, b, h => h
  | ask m k, b, ⟨b', e, h⟩ => ⟨b', e, fun c hc => All.bind (h c hc)⟩
  | exc C fs vs, b, h => h
  | bad, _, h => h.elim
theorem All.of_bind {α β : Type} {f : α → T β} {P : β → Nat → Prop} {Y : XP} : ∀ {t : T α} {b : Nat}, All t b (fun a b' => All (f a) b' P Y) Y → All (T.bind t f) b P Y
  | ret a, b, h => h
  | ask m k, b, ⟨b', e, h⟩ => ⟨b', e, fun c hc => All.of_bind (h c hc)⟩
  | exc C fs vs, b, h => h
  | bad, _, h => h.elim
theorem All.ofO {α : Type} {o : Option α} {b : Nat} {P : α → Nat → Prop} {Y : XP} (h : All (T.ofO o) b P Y) : ∃ a, o = some a ∧ P a b := by
  cases o with
  | none => exact h.elim
  | some a => exact ⟨a, rfl, h⟩
/-- more choices may be left -/
theorem All.more {α : Type} : ∀ {t : T α} {b c : Nat} {P : α → Nat → Prop} {Y : XP}, All t b P Y → b ≤ c → (∀ a b c, b ≤ c → P a b → P a c) → (∀ C fs vs b c, b ≤ c → Y C fs vs b → Y C fs vs c) → All t c P Y
  | ret a, b, c, P, Y, h, l, k, k2 => k a b c l h
  | ask m f, b, c, P, Y, ⟨b', e, h⟩, l, k, k2 => ⟨c - 1, by omega, fun x hx => All.more (h x hx) (by omega) k k2⟩
  | exc C fs vs, b, c, P, Y, h, l, k, k2 => k2 C fs vs b c l h
  | bad, _, _, _, _, h, _, _, _ => h.elim
@[simp] theorem bind_ret {α β : Type} (a : α) (f : α → T β) : bind (ret a) f = f a := rfl
theorem bind_assoc {α β γ : Type} (f : α → T β) (g : β → T γ) : ∀ t : T α, bind (bind t f) g = bind t fun a => bind (f a) g
  | ret a => rfl
  | ask m k => congrArg (ask m) (funext fun c => bind_assoc f g (k c))
  | exc .. => rfl
  | bad => rfl
end T

/-- what is known of the run: the pen, the classes, the defs, tables of code -/
structure Gh where
  pa : Option Addr
  cl : Nat → Addr
  fa : Nat → Addr
  tb : List (Addr × Str)
/-- at a: an error that is kept, of the class cls, its dict at d -/
def xo (a : Addr) (cls : Value) (d : Option Addr) : HO := .ext fun h => ∃ (oe : Obj) (vs : Array Value), h.get? a = some oe ∧ Zc cls d oe ∧ oe.data = .fields vs
/-- an error of the class C at a, its fields at dd -/
structure XoAt (g : Gh) (H : Hp) (a dd : Addr) (C : Nat) (fs : List Str) (vs : List V) : Prop where
  at_ : H a = some (xo a (.ref (g.cl C)) (some dd))
  fl : H dd = some (.xd (fs.zip vs))
  len : fs.length = vs.length
/-- a list, a tuple that is read and stays: not one of O, or of the written part -/
def FL (O : List Addr) (H : Hp) (a : Addr) (vs : List V) : Prop := H a = some (.lst vs) ∧ a ∉ O
/-- a tuple of the written part -/
def KT (K : PySem.W.Frag) (a : Addr) (vs : List V) : Prop := ∃ (o : Obj) (its : Array Value) (n : Nat), K.lookup a = some o ∧ o.cls = .type "tuple" ∧ o.data = .seq its n ∧ its.size ≤ sizeLine ∧ Vals vs its.toList
def FT (K : PySem.W.Frag) (O : List Addr) (H : Hp) (a : Addr) (vs : List V) : Prop := (H a = some (.tup vs) ∧ a ∉ O) ∨ KT K a vs
section
variable (g : Gh) (K : PySem.W.Frag) (O : List Addr) (H : Hp)
mutual
/-- v stands for d; no list of it is one of O -/
inductive RV : V → D → Prop
  | non : RV .non .non
  | bl (b : Bool) : RV (.bl b) (.bl b)
  | int (i : Int) : RV (.int i) (.int i)
  | str (x : Str) : RV (.str x) (.str x)
  | ty (n : Ty) : RV (.ty n.name) (.ty n)
  | cls (n : Nat) : RV (.ref (g.cl n)) (.cls n)
  | fn (n : Nat) : RV (.ref (g.fa n)) (.fn n)
  | pen {a : Addr} : g.pa = some a → RV (.ref a) .pen
  | lst {a : Addr} {vs : List V} {ds : List D} : FL O H a vs → RVs vs ds → RV (.ref a) (.lst ds)
  | tup {a : Addr} {vs : List V} {ds : List D} : FT K O H a vs → RVs vs ds → RV (.ref a) (.tup ds)
  | dic {a : Addr} {ks : List Key} {vs : List V} {ds : List D} : Rd H a (.dK (ks.zip vs)) → a ∉ O → ks.length = vs.length → RVs vs ds → RV (.ref a) (.dic ks ds)
  | obj {a dx : Addr} {C : Nat} {fs : List Str} {vs : List V} {ds : List D} : H a = some (.ins (g.cl C) dx (fs.zip vs)) → a ∉ O → fs.length = vs.length → RVs vs ds → RV (.ref a) (.obj C fs ds)
  | err {a dd : Addr} {C : Nat} {fs : List Str} {vs : List V} {ds : List D} : XoAt g H a dd C fs vs → a ∉ O → dd ∉ O → RVs vs ds → RV (.ref a) (.err C fs ds)
inductive RVs : List V → List D → Prop
  | nil : RVs [] []
  | cons {v : V} {vs : List V} {d : D} {ds : List D} : RV v d → RVs vs ds → RVs (v :: vs) (d :: ds)
end
end

/-- no table -/
def nTb (o : HO) : Prop := ∀ ps, o ≠ .tbl ps
theorem nTb.lst {vs : List V} : nTb (.lst vs) := fun _ z => nomatch z
theorem nTb.tup {vs : List V} : nTb (.tup vs) := fun _ z => nomatch z
theorem nTb.dK {vs : List (Key × V)} : nTb (.dK vs) := fun _ z => nomatch z
theorem nTb.ins {c d : Addr} {vs : List (Str × V)} : nTb (.ins c d vs) := fun _ z => nomatch z
theorem nTb.xd {vs : List (Str × V)} : nTb (.xd vs) := fun _ z => nomatch z
theorem nTb.xo {a : Addr} {c : Value} {d : Option Addr} : nTb (xo a c d) := fun ps z => by
  have z' : HO.ext _ = HO.tbl ps := z
  cases z'
theorem nTb.frz {o : Obj} {u : HO} : nTb (.frz o u) := fun _ z => nomatch z
/-- a thing is there, and no table -/
def NT (H : Hp) (a : Addr) : Prop := ∃ o, H a = some o ∧ nTb o
theorem NT.ne {H : Hp} {a : Addr} (h : NT H a) : H a ≠ none := by
  obtain ⟨o, q, _⟩ := h
  rw [q]; exact fun z => nomatch z
theorem nnt {H : Hp} {a : Addr} (h : H a = none) : ¬ NT H a := fun ⟨_, q, _⟩ => by rw [h] at q; cases q
theorem Same.nt {H H' : Hp} (s : Same H H') : ∀ a, NT H a → NT H' a := fun a ⟨o, h, t⟩ => ⟨o, s a o h, t⟩
theorem Rd.nt {H : Hp} {a : Addr} {u : HO} (h : Rd H a u) (t : nTb u) : NT H a := by
  rcases h with h | ⟨o, h⟩
  · exact ⟨_, h, t⟩
  · exact ⟨_, h, .frz⟩
/-- all but the pen, and tables, is kept -/
def Kp (pa : Option Addr) (H H' : Hp) : Prop := ∀ a o, H a = some o → pa ≠ some a → nTb o → H' a = some o
theorem Kp.refl {pa : Option Addr} {H : Hp} : Kp pa H H := fun _ _ h _ _ => h
theorem Kp.trans {pa : Option Addr} {H H1 H2 : Hp} (a : Kp pa H H1) (b : Kp pa H1 H2) : Kp pa H H2 := fun x o h n t => b x o (a x o h n t) n t
theorem Kp.of {pa : Option Addr} {H H' : Hp} (s : Same H H') : Kp pa H H' := fun a o h _ _ => s a o h
/-- kept at all that is not in O -/
def KpO (O : List Addr) (H H' : Hp) : Prop := ∀ a o, H a = some o → a ∉ O → nTb o → H' a = some o
theorem KpO.of {O : List Addr} {H H' : Hp} (s : Same H H') : KpO O H H' := fun a o h _ _ => s a o h
theorem KpO.refl {O : List Addr} {H : Hp} : KpO O H H := fun a o h _ _ => h

section
variable {g : Gh} {K : PySem.W.Frag} {O O' : List Addr} {H H' : Hp}
theorem KpO.rd {a : Addr} {u : HO} (k : KpO O H H') (n : a ∉ O) (t : nTb u) (h : Rd H a u) : Rd H' a u := by
  rcases h with h | ⟨o, h⟩
  · exact .inl (k a _ h n t)
  · exact .inr ⟨o, k a _ h n .frz⟩
theorem Rd.ne {a : Addr} {u : HO} (h : Rd H a u) : H a ≠ none := by
  rcases h with h | ⟨o, h⟩ <;> rw [h] <;> exact fun z => nomatch z
theorem notIn_of {a : Addr} (hs : ∀ a ∈ O', a ∈ O ∨ ¬ NT H a) (h : NT H a) (n : a ∉ O) : a ∉ O' := fun z => (hs a z).elim n (fun q => q h)
theorem FL.keep {a : Addr} {vs : List V} (k : KpO O H H') (hs : ∀ a ∈ O', a ∈ O ∨ ¬ NT H a) (h : FL O H a vs) : FL O' H' a vs :=
  ⟨k a _ h.1 h.2 .lst, notIn_of hs ⟨_, h.1, .lst⟩ h.2⟩
theorem FT.keep {a : Addr} {vs : List V} (k : KpO O H H') (hs : ∀ a ∈ O', a ∈ O ∨ ¬ NT H a) (h : FT K O H a vs) : FT K O' H' a vs := by
  rcases h with ⟨h, n⟩ | h
  · exact .inl ⟨k _ _ h n .tup, notIn_of hs ⟨_, h, .tup⟩ n⟩
  · exact .inr h
theorem FL.sq {a : Addr} {vs : List V} (h : FL O H a vs) : SqL K H a vs := .inl (.inl h.1)
theorem FT.sq {a : Addr} {vs : List V} (h : FT K O H a vs) : SqT K H a vs := by
  rcases h with ⟨h, n⟩ | h
  · exact .inl (.inl h)
  · exact .inr h
theorem XoAt.keep {a dd : Addr} {C : Nat} {fs : List Str} {vs : List V} (k : KpO O H H') (x : XoAt g H a dd C fs vs) (n1 : a ∉ O) (n2 : dd ∉ O) : XoAt g H' a dd C fs vs := ⟨k _ _ x.at_ n1 .xo, k _ _ x.fl n2 .xd, x.len⟩
mutual
theorem RV.keep (k : KpO O H H') (hs : ∀ a ∈ O', a ∈ O ∨ ¬ NT H a) : ∀ {v : V} {d : D}, RV g K O H v d → RV g K O' H' v d
  | _, _, .non => .non
  | _, _, .bl b => .bl b
  | _, _, .int i => .int i
  | _, _, .str x => .str x
  | _, _, .ty n => .ty n
  | _, _, .cls a => .cls a
  | _, _, .fn a => .fn a
  | _, _, .pen e => .pen e
  | _, _, .lst h r => .lst (h.keep k hs) (RVs.keep k hs r)
  | _, _, .tup h r => .tup (h.keep k hs) (RVs.keep k hs r)
  | _, _, .dic h n l r => .dic (k.rd n .dK h) (notIn_of hs (Rd.nt h .dK) n) l (RVs.keep k hs r)
  | _, _, .obj h n l r => .obj (k _ _ h n .ins) (notIn_of hs ⟨_, h, .ins⟩ n) l (RVs.keep k hs r)
  | _, _, .err h n1 n2 r => .err (h.keep k n1 n2) (notIn_of hs ⟨_, h.at_, .xo⟩ n1) (notIn_of hs ⟨_, h.fl, .xd⟩ n2) (RVs.keep k hs r)
theorem RVs.keep (k : KpO O H H') (hs : ∀ a ∈ O', a ∈ O ∨ ¬ NT H a) : ∀ {vs : List V} {ds : List D}, RVs g K O H vs ds → RVs g K O' H' vs ds
  | _, _, .nil => .nil
  | _, _, .cons h t => .cons (RV.keep k hs h) (RVs.keep k hs t)
end
theorem RVs.length : ∀ {vs : List V} {ds : List D}, RVs g K O H vs ds → vs.length = ds.length
  | _, _, .nil => rfl
  | _, _, .cons _ t => congrArg (· + 1) (RVs.length t)
theorem RVs.get : ∀ {vs : List V} {ds : List D} {i : Nat} {d : D}, RVs g K O H vs ds → ds[i]? = some d → ∃ v, vs[i]? = some v ∧ RV g K O H v d
  | _, _, i, d, .nil, e => by simp at e
  | _, _, 0, d, .cons h _, e => by simp at e; subst e; exact ⟨_, rfl, h⟩
  | _, _, i + 1, d, .cons _ t, e => by simpa using RVs.get t (by simpa using e)
theorem RVs.get' : ∀ {vs : List V} {ds : List D} {i : Nat} {v : V}, RVs g K O H vs ds → vs[i]? = some v → ∃ d, ds[i]? = some d ∧ RV g K O H v d
  | _, _, i, d, .nil, e => by simp at e
  | _, _, 0, d, .cons h _, e => by simp at e; subst e; exact ⟨_, rfl, h⟩
  | _, _, i + 1, d, .cons _ t, e => by simpa using RVs.get' t (by simpa using e)
theorem RVs.append : ∀ {vs ws : List V} {ds es : List D}, RVs g K O H vs ds → RVs g K O H ws es → RVs g K O H (vs ++ ws) (ds ++ es)
  | _, _, _, _, .nil, s => s
  | _, _, _, _, .cons h t, s => .cons h (RVs.append t s)
theorem RVs.drop : ∀ {vs : List V} {ds : List D} (n : Nat), RVs g K O H vs ds → RVs g K O H (vs.drop n) (ds.drop n)
  | _, _, 0, r => r
  | _, _, _ + 1, .nil => .nil
  | _, _, n + 1, .cons _ t => RVs.drop n t
theorem RVs.set : ∀ {vs : List V} {ds : List D} (n : Nat) {v : V} {d : D}, RVs g K O H vs ds → RV g K O H v d → RVs g K O H (vs.set n v) (ds.set n d)
  | _, _, _, _, _, .nil, _ => .nil
  | _, _, 0, _, _, .cons _ t, r => .cons r t
  | _, _, n + 1, _, _, .cons h t, r => .cons h (RVs.set n t r)
theorem RVs.reverse : ∀ {vs : List V} {ds : List D}, RVs g K O H vs ds → RVs g K O H vs.reverse ds.reverse
  | _, _, .nil => .nil
  | _, _, .cons h t => by rw [List.reverse_cons, List.reverse_cons]; exact (RVs.reverse t).append (.cons h .nil)
theorem RVs.take : ∀ {vs : List V} {ds : List D} (n : Nat), RVs g K O H vs ds → RVs g K O H (vs.take n) (ds.take n)
  | _, _, 0, _ => .nil
  | _, _, _ + 1, .nil => .nil
  | _, _, n + 1, .cons h t => .cons h (RVs.take n t)
end

/-! ### the store -/
/-- what may change: the store's addresses, and all that trees keep away from -/
structure Ow where
  o : List Addr
  c : List (Option Addr)
section
variable (g : Gh) (K : PySem.W.Frag) (W : Ow) (H : Hp)
/-- v stands for x -/
inductive RW : V → Vd → Prop
  | t {v : V} {d : D} : RV g K W.o H v d → RW v (.t d)
  | r {a : Addr} {n : Nat} : W.c[n]? = some (some a) → RW (.ref a) (.r n)
  | z {v : V} {n : Nat} : W.c[n]? = some none → RW v (.r n)
inductive RWs : List V → List Vd → Prop
  | nil : RWs [] []
  | cons {v : V} {vs : List V} {x : Vd} {xs : List Vd} : RW g K W H v x → RWs vs xs → RWs (v :: vs) (x :: xs)
end
/-- from (W, H) on to (W', H'): all is kept but the store, the pen, tables; what is new was not there -/
structure Ext (pa : Option Addr) (W : Ow) (H : Hp) (W' : Ow) (H' : Hp) : Prop where
  kp : ∀ a o, H a = some o → some a ∉ W.c → pa ≠ some a → nTb o → H' a = some o
  pre : ∀ (n : Nat) x, W.c[n]? = some x → W'.c[n]? = some x ∨ W'.c[n]? = some none
  hs : ∀ a ∈ W'.o, a ∈ W.o ∨ ¬ NT H a
  hc : ∀ (n : Nat) a, W'.c[n]? = some (some a) → W.c[n]? = some (some a) ∨ (W.c.length ≤ n ∧ ¬ NT H a)
  al : ∀ a, NT H a → NT H' a
  ow : ∀ a ∈ W.o, NT H a → some a ∉ W.c → a ∈ W'.o
section
variable {g : Gh} {K : PySem.W.Frag} {W W' W'' : Ow} {H H' H'' : Hp} {pa : Option Addr}
theorem mem_get {α : Type} {l : List α} {x : α} (h : x ∈ l) : ∃ n : Nat, l[n]? = some x := by
  obtain ⟨n, hn, e⟩ := List.getElem_of_mem h
  exact ⟨n, by rw [List.getElem?_eq_getElem hn, e]⟩
theorem get_mem {α : Type} {l : List α} {x : α} {n : Nat} (h : l[n]? = some x) : x ∈ l := List.mem_of_getElem? h
theorem get_lt {α : Type} {l : List α} {i : Nat} {x : α} (h : l[i]? = some x) : i < l.length := (List.getElem?_eq_some_iff.mp h).1
theorem set_get {α : Type} {l : List α} {i j : Nat} {x y : α} (h : (l.set i x)[j]? = some y) : (i = j ∧ y = x) ∨ (i ≠ j ∧ l[j]? = some y) := by
  by_cases e : i = j
  · subst e
    by_cases hi : i < l.length
    · rw [List.getElem?_set_self hi] at h; exact .inl ⟨rfl, (Option.some.inj h).symm⟩
    · rw [List.getElem?_eq_none (by rw [List.length_set]; omega)] at h; cases h
  · rw [List.getElem?_set_ne e] at h; exact .inr ⟨e, h⟩
theorem Ext.len (e : Ext pa W H W' H') : W.c.length ≤ W'.c.length := by
  by_cases h : W.c.length = 0
  · omega
  · have hx : W.c[W.c.length - 1]? = some (W.c[W.c.length - 1]'(by omega)) := List.getElem?_eq_getElem (by omega)
    rcases e.pre _ _ hx with q | q
    · have := get_lt q; omega
    · have := get_lt q; omega
theorem Ext.refl : Ext pa W H W H := ⟨fun _ _ h _ _ _ => h, fun _ _ h => .inl h, fun _ h => .inl h, fun _ _ h => .inl h, fun _ h => h, fun _ h _ _ => h⟩
theorem Same.al (s : Same H H') : ∀ a, H a ≠ none → H' a ≠ none := fun a h z => by
  cases e : H a with
  | none => exact h e
  | some o => rw [s a o e] at z; cases z
theorem Ext.same (s : Same H H') : Ext pa W H W H' := ⟨fun a o e _ _ _ => s a o e, fun _ _ h => .inl h, fun _ h => .inl h, fun _ _ h => .inl h, Same.nt s, fun _ h _ _ => h⟩
theorem Ext.trans (a : Ext pa W H W' H') (b : Ext pa W' H' W'' H'') : Ext pa W H W'' H'' := by
  refine ⟨fun p o e n np nt => ?_, fun n x h => ?_, fun p hp => ?_, fun n p hp => ?_, fun p h => b.al p (a.al p h), fun p hp hn hc => b.ow p (a.ow p hp hn hc) (a.al p hn) fun z => ?_⟩
  · refine b.kp p o (a.kp p o e n np nt) (fun z => ?_) np nt
    obtain ⟨i, hi⟩ := mem_get z
    rcases a.hc i p hi with q | ⟨_, q⟩
    · exact n (get_mem q)
    · exact q ⟨_, e, nt⟩
  · rcases a.pre n x h with q | q
    · exact b.pre n x q
    · exact (b.pre n none q).elim .inr .inr
  · rcases b.hs p hp with q | q
    · exact a.hs p q
    · exact .inr fun h => q (a.al p h)
  · rcases b.hc n p hp with q | ⟨l, q⟩
    · exact a.hc n p q
    · exact .inr ⟨Nat.le_trans a.len l, fun h => q (a.al p h)⟩
  · obtain ⟨i, hi⟩ := mem_get z
    rcases a.hc i p hi with q | ⟨_, q⟩
    · exact hc (get_mem q)
    · exact q hn
theorem RW.keep {v : V} {x : Vd} (k : KpO W.o H H') (hs : ∀ a ∈ W'.o, a ∈ W.o ∨ ¬ NT H a) (pre : ∀ (n : Nat) x, W.c[n]? = some x → W'.c[n]? = some x ∨ W'.c[n]? = some none) : RW g K W H v x → RW g K W' H' v x
  | .t q => .t (q.keep k hs)
  | .r e => (pre _ _ e).elim .r .z
  | .z e => .z ((pre _ _ e).elim id id)
theorem RWs.keep (k : KpO W.o H H') (hs : ∀ a ∈ W'.o, a ∈ W.o ∨ ¬ NT H a) (pre : ∀ (n : Nat) x, W.c[n]? = some x → W'.c[n]? = some x ∨ W'.c[n]? = some none) : ∀ {vs : List V} {xs : List Vd}, RWs g K W H vs xs → RWs g K W' H' vs xs
  | _, _, .nil => .nil
  | _, _, .cons r t => .cons (r.keep k hs pre) (RWs.keep k hs pre t)
theorem RWs.length : ∀ {vs : List V} {ds : List Vd}, RWs g K W H vs ds → vs.length = ds.length
  | _, _, .nil => rfl
  | _, _, .cons _ t => congrArg (· + 1) (RWs.length t)
theorem RWs.get : ∀ {vs : List V} {ds : List Vd} {i : Nat} {d : Vd}, RWs g K W H vs ds → ds[i]? = some d → ∃ v, vs[i]? = some v ∧ RW g K W H v d
  | _, _, i, d, .nil, e => by simp at e
  | _, _, 0, d, .cons h _, e => by simp at e; subst e; exact ⟨_, rfl, h⟩
  | _, _, i + 1, d, .cons _ t, e => by simpa using RWs.get t (by simpa using e)
theorem RWs.append : ∀ {vs ws : List V} {ds es : List Vd}, RWs g K W H vs ds → RWs g K W H ws es → RWs g K W H (vs ++ ws) (ds ++ es)
  | _, _, _, _, .nil, s => s
  | _, _, _, _, .cons h t, s => .cons h (RWs.append t s)
theorem RWs.set : ∀ {vs : List V} {ds : List Vd} (n : Nat) {v : V} {d : Vd}, RWs g K W H vs ds → RW g K W H v d → RWs g K W H (vs.set n v) (ds.set n d)
  | _, _, _, _, _, .nil, _ => .nil
  | _, _, 0, _, _, .cons _ t, r => .cons r t
  | _, _, n + 1, _, _, .cons h t, r => .cons h (RWs.set n t r)
theorem RVs.ws : ∀ {vs : List V} {ds : List D}, RVs g K W.o H vs ds → RWs g K W H vs (ds.map .t)
  | _, _, .nil => .nil
  | _, _, .cons h t => .cons (.t h) (RVs.ws t)
/-- what lies at a is the thing of the store -/
inductive RC (g : Gh) (K : PySem.W.Frag) (W : Ow) (H : Hp) (a : Addr) : Ce → Prop
  | lst {vs : List V} {ds : List D} : H a = some (.lst vs) → RVs g K W.o H vs ds → RC g K W H a (.lst ds)
  | dic {ks : List Key} {vs : List V} {ds : List D} : H a = some (.dK (ks.zip vs)) → ks.length = vs.length → RVs g K W.o H vs ds → RC g K W H a (.dic ks ds)
  | obj {C : Nat} {dx : Addr} {fs : List Str} {vs : List V} {xs : List Vd} : H a = some (.ins (g.cl C) dx (fs.zip vs)) → fs.length = vs.length → RWs g K W H vs xs → RC g K W H a (.obj C fs xs)
theorem RC.move {a : Addr} (e : H a ≠ none → H' a = H a) (k : KpO W.o H H') (hs : ∀ a ∈ W'.o, a ∈ W.o ∨ ¬ NT H a) (pre : ∀ (n : Nat) x, W.c[n]? = some x → W'.c[n]? = some x ∨ W'.c[n]? = some none) {c : Ce} : RC g K W H a c → RC g K W' H' a c
  | .lst h r => .lst ((e (by rw [h]; exact fun z => nomatch z)).trans h) (r.keep k hs)
  | .dic h l r => .dic ((e (by rw [h]; exact fun z => nomatch z)).trans h) l (r.keep k hs)
  | .obj h l r => .obj ((e (by rw [h]; exact fun z => nomatch z)).trans h) l (r.keep k hs pre)
theorem RC.at_ {a : Addr} {c : Ce} : RC g K W H a c → ∃ o, H a = some o ∧ nTb o
  | .lst h _ => ⟨_, h, .lst⟩
  | .dic h _ _ => ⟨_, h, .dK⟩
  | .obj h _ _ => ⟨_, h, .ins⟩
def PenOk (pa : Option Addr) (W : Ow) (H : Hp) (b : Nat) : Prop := ∀ a, pa = some a → a ∈ W.o ∧ some a ∉ W.c ∧ ∃ (c : Addr) (t r : Int) (cells : List Int),
  H a = some (.lst [.ref c, .int t, .int r]) ∧ H c = some (.lst (cells.map V.int)) ∧ c ∉ W.o ∧ 0 ≤ t ∧ t + (b : Int) ≤ 4194304 ∧ 0 ≤ r
structure StOk (g : Gh) (K : PySem.W.Frag) (W : Ow) (μ : Mu) (b : Nat) (H : Hp) : Prop where
  sub : ∀ a, some a ∈ W.c → a ∈ W.o
  nd : ∀ (i j : Nat) (a : Addr), W.c[i]? = some (some a) → W.c[j]? = some (some a) → i = j
  len : W.c.length = μ.length
  cell : ∀ (i : Nat) (c : Ce) (a : Addr), μ[i]? = some c → W.c[i]? = some (some a) → RC g K W H a c
  there : ∀ a ∈ W.o, H a ≠ none
  pen : PenOk g.pa W H b
  tabs : LamX.Tabs g.tb H
  dd : ∀ (n : Nat) c, W.c[n]? = some none → μ[n]? = some c → c = .dead
  nt : ∀ a ∈ W.o, ∀ ps, H a ≠ some (.tbl ps)
theorem Same.there {O : List Addr} (s : Same H H') (h : ∀ a ∈ O, H a ≠ none) : ∀ a ∈ O, H' a ≠ none := fun a ha => Same.al s a (h a ha)
theorem PenOk.same {b : Nat} (h : PenOk pa W H b) (s : Same H H') : PenOk pa W H' b := fun a e => by
  obtain ⟨m, n, c, t, r, cells, h1, h2, h3⟩ := h a e
  exact ⟨m, n, c, t, r, cells, s _ _ h1, s _ _ h2, h3⟩
theorem PenOk.less {b b' : Nat} (h : PenOk pa W H b) (l : b' ≤ b) : PenOk pa W H b' := fun a e => by
  obtain ⟨m, n, c, t, r, cells, h1, h2, h3, h4, h5, h6⟩ := h a e
  exact ⟨m, n, c, t, r, cells, h1, h2, h3, h4, by omega, h6⟩
variable {μ μ' : Mu} {b b' : Nat}
theorem nt_of {O : List Addr} (th : ∀ a ∈ O, H a ≠ none) (nt : ∀ a ∈ O, ∀ ps, H a ≠ some (.tbl ps)) : ∀ a ∈ O, NT H a := fun a ha => by
  cases e : H a with
  | none => exact (th a ha e).elim
  | some o => exact ⟨o, e, fun ps z => nt a ha ps (by rw [e, z])⟩
theorem StOk.NTo (s : StOk g K W μ b H) : ∀ a ∈ W.o, NT H a := nt_of s.there s.nt
theorem StOk.less (s : StOk g K W μ b H) (l : b' ≤ b) : StOk g K W μ b' H := ⟨s.sub, s.nd, s.len, s.cell, s.there, s.pen.less l, s.tabs, s.dd, s.nt⟩
theorem StOk.same (s : StOk g K W μ b H) (h : Same H H') : StOk g K W μ b H' where
  sub := s.sub
  nd := s.nd
  len := s.len
  cell := fun i c a e1 e2 => (s.cell i c a e1 e2).move (fun z => by
    cases e : H a with
    | none => exact (z e).elim
    | some o => exact h a o e) (.of h) (fun _ h => .inl h) fun _ _ h => .inl h
  there := Same.there h s.there
  pen := s.pen.same h
  tabs := s.tabs.ext h
  dd := s.dd
  nt := fun a ha ps z => by
    cases e : H a with
    | none => exact s.there a ha e
    | some o => rw [h a o e] at z; exact s.nt a ha ps (by rw [e, z])
theorem StOk.kO (s : StOk g K W μ b H) (e : Ext g.pa W H W' H') : KpO W.o H H' := fun a u h n nt =>
  e.kp a u h (fun z => n (s.sub a z)) (fun z => n (s.pen a z).1) nt
theorem RV.ext {v : V} {d : D} (r : RV g K W.o H v d) (s : StOk g K W μ b H) (e : Ext g.pa W H W' H') : RV g K W'.o H' v d := r.keep (s.kO e) e.hs
theorem RVs.ext {vs : List V} {ds : List D} (r : RVs g K W.o H vs ds) (s : StOk g K W μ b H) (e : Ext g.pa W H W' H') : RVs g K W'.o H' vs ds := r.keep (s.kO e) e.hs
theorem RW.ext {v : V} {d : Vd} (r : RW g K W H v d) (s : StOk g K W μ b H) (e : Ext g.pa W H W' H') : RW g K W' H' v d := r.keep (s.kO e) e.hs e.pre
theorem RWs.ext {vs : List V} {ds : List Vd} (r : RWs g K W H vs ds) (s : StOk g K W μ b H) (e : Ext g.pa W H W' H') : RWs g K W' H' vs ds := r.keep (s.kO e) e.hs e.pre
/-- a call that keeps all but the pen keeps the store -/
theorem StOk.pure (s : StOk g K W μ b H) (k : Kp g.pa H H') (p : PenOk g.pa ⟨W.o, []⟩ H' b') (th : ∀ a ∈ W.o, H' a ≠ none) (tb : LamX.Tabs g.tb H') : StOk g K W μ b' H' where
  sub := s.sub
  nd := s.nd
  len := s.len
  cell := fun i c a e1 e2 => by
    have q := s.cell i c a e1 e2
    refine q.move (fun _ => ?_) (fun a u h n nt => k a u h (fun z => n (s.pen a z).1) nt) (fun _ h => .inl h) fun _ _ h => .inl h
    obtain ⟨o, h1, h2⟩ := q.at_
    rw [h1]
    exact k a o h1 (fun z => (s.pen a z).2.1 (get_mem e2)) h2
  there := th
  pen := fun a e => by
    obtain ⟨m, _, q⟩ := p a e
    exact ⟨m, (s.pen a e).2.1, q⟩
  tabs := tb
  dd := s.dd
  nt := fun a ha ps z => by
    by_cases q : g.pa = some a
    · obtain ⟨_, _, c, t, r, cells, h1, _⟩ := p a q
      rw [h1] at z; cases z
    · cases e : H a with
      | none => exact s.there a ha e
      | some o => rw [k a o e q (fun qs y => s.nt a ha qs (by rw [e, y]))] at z; exact s.nt a ha ps (by rw [e, z])
theorem Ext.pure (k : Kp pa H H') (al : ∀ a, NT H a → NT H' a) : Ext pa W H W H' := ⟨fun a o e _ n t => k a o e n t, fun _ _ h => .inl h, fun _ h => .inl h, fun _ _ h => .inl h, al, fun _ h _ _ => h⟩
end

/-! ### frames -/
/-- a body's run: what is known, the heap and the store's addresses at its entry, what is wished of errors -/
structure Bd where
  g : Gh
  H0 : Hp
  W0 : Ow
  Y : XP
structure Rep (B : Bd) (K : PySem.W.Frag) (ρ : Env') (μ : Mu) (W : Ow) (b : Nat) (H : Hp) (σ : L2.St) : Prop where
  len : σ.length = ρ.length
  slot : ∀ (i : Nat) x, ρ[i]? = some (some x) → ∃ v, σ[i]? = some (some v) ∧ RW B.g K W H v x
  st : StOk B.g K W μ b H
  ext : Ext B.g.pa B.W0 B.H0 W H
  mono : ∀ a ∈ B.W0.o, a ∈ W.o
  base : ∀ a ∈ B.W0.o, NT B.H0 a
  pen0 : ∀ a, B.g.pa = some a → a ∈ B.W0.o ∧ some a ∉ B.W0.c
section
variable {B : Bd} {K : PySem.W.Frag} {W W' : Ow} {H H' : Hp} {ρ : Env'} {μ μ' : Mu} {b b' : Nat} {σ : L2.St}
/-- the store goes on -/
theorem Rep.go (r : Rep B K ρ μ W b H σ) (e : Ext B.g.pa W H W' H') (s : StOk B.g K W' μ' b' H') (m : ∀ a ∈ B.W0.o, a ∈ W'.o) : Rep B K ρ μ' W' b' H' σ :=
  ⟨r.len, fun i d h => by
    obtain ⟨v, h1, h2⟩ := r.slot i d h
    exact ⟨v, h1, h2.ext r.st e⟩, s, r.ext.trans e, m, r.base, r.pen0⟩
theorem Rep.same (r : Rep B K ρ μ W b H σ) (s : Same H H') : Rep B K ρ μ W b H' σ := r.go (.same s) (r.st.same s) r.mono
theorem Rep.less (r : Rep B K ρ μ W b H σ) (l : b' ≤ b) : Rep B K ρ μ W b' H σ := ⟨r.len, r.slot, r.st.less l, r.ext, r.mono, r.base, r.pen0⟩
theorem Rep.put {v : V} {d : Vd} (r : Rep B K ρ μ W b H σ) (i : Nat) (rv : RW B.g K W H v d) : Rep B K (ρ.set i (some d)) μ W b H (σ.set i (some v)) where
  len := by rw [List.length_set, List.length_set, r.len]
  slot := fun j d' e => by
    rcases set_get e with ⟨rfl, q⟩ | ⟨n, e⟩
    · cases q
      have hi : i < σ.length := by have := get_lt e; rw [List.length_set] at this; rw [r.len]; exact this
      exact ⟨v, List.getElem?_set_self hi, rv⟩
    · obtain ⟨u, h1, h2⟩ := r.slot j d' e
      exact ⟨u, by rw [List.getElem?_set_ne n]; exact h1, h2⟩
  st := r.st
  ext := r.ext
  mono := r.mono
  base := r.base
  pen0 := r.pen0
/-- a slot forgotten -/
theorem Rep.un (r : Rep B K ρ μ W b H σ) (i : Nat) (x : Option V) : Rep B K (ρ.set i none) μ W b H (σ.set i x) where
  len := by rw [List.length_set, List.length_set, r.len]
  slot := fun j d' e => by
    rcases set_get e with ⟨rfl, q⟩ | ⟨n, e⟩
    · cases q
    · obtain ⟨u, h1, h2⟩ := r.slot j d' e
      exact ⟨u, by rw [List.getElem?_set_ne n]; exact h1, h2⟩
  st := r.st
  ext := r.ext
  mono := r.mono
  base := r.base
  pen0 := r.pen0
/-- slots forgotten, the places as they are -/
theorem Rep.drop {ρ' : Env'} (r : Rep B K ρ μ W b H σ) (hl : ρ'.length = ρ.length) (h : ∀ (i : Nat) d, ρ'[i]? = some (some d) → ρ[i]? = some (some d)) : Rep B K ρ' μ W b H σ :=
  ⟨by rw [r.len, hl], fun i d e => r.slot i d (h i d e), r.st, r.ext, r.mono, r.base, r.pen0⟩
end
end Y

set_option Elab.async false
set_option linter.all false
set_option maxRecDepth 100000
set_option maxHeartbeats 4000000
/-! Y2: what is done to the store; what is read of it. -/
namespace Y
open PySem PySem.Spec PyProof.Rows L2

theorem same_new {H : Hp} {p : Addr} {o : HO} (h : H p = none) : Same H (upd H p o) := fun b x e => by
  rw [upd_ne (ne_of_none e h)]; exact e
theorem notO {O : List Addr} {H : Hp} {p : Addr} (hO : ∀ q ∈ O, H q ≠ none) (hp : H p = none) : p ∉ O := fun z => hO p z hp
theorem hs_refl {O : List Addr} {H : Hp} : ∀ a ∈ O, a ∈ O ∨ ¬ NT H a := fun _ h => .inl h
theorem hs_sub {O O' : List Addr} {H : Hp} (h : ∀ a ∈ O', a ∈ O) : ∀ a ∈ O', a ∈ O ∨ ¬ NT H a := fun a ha => .inl (h a ha)
theorem hs_new {O : List Addr} {H : Hp} {p : Addr} (hp : H p = none) : ∀ a ∈ p :: O, a ∈ O ∨ ¬ NT H a := fun a ha => (List.mem_cons.mp ha).elim (fun z => .inr (by rw [z]; exact nnt hp)) .inl
theorem nos {α : Type} {x : α} (h : (none : Option α) = some x) : False := by cases h
section
variable {g : Gh} {K : PySem.W.Frag} {O : List Addr} {H H' : Hp}
theorem RV.same {v : V} {d : D} (h : RV g K O H v d) (s : Same H H') : RV g K O H' v d := h.keep (.of s) hs_refl
theorem RVs.same {vs : List V} {ds : List D} (h : RVs g K O H vs ds) (s : Same H H') : RVs g K O H' vs ds := h.keep (.of s) hs_refl
theorem new_lst {p : Addr} {vs : List V} {ds : List D} (hO : ∀ q ∈ O, H q ≠ none) (hp : H p = none) (r : RVs g K O H vs ds) : RV g K O (upd H p (.lst vs)) (.ref p) (.lst ds) :=
  .lst ⟨upd_same, notO hO hp⟩ (r.same (same_new hp))
theorem new_tup {p : Addr} {vs : List V} {ds : List D} (hO : ∀ q ∈ O, H q ≠ none) (hp : H p = none) (r : RVs g K O H vs ds) : RV g K O (upd H p (.tup vs)) (.ref p) (.tup ds) :=
  .tup (.inl ⟨upd_same, notO hO hp⟩) (r.same (same_new hp))
end
/-- no table, no code -/
def plO (o : HO) : Prop := nTb o ∧ ∀ f, o ≠ .ext f
theorem tabs_upd {T : List (Addr × Str)} {H : Hp} {a : Addr} {ob : HO} (t : LamX.Tabs T H) (h : ∀ o, H a = some o → plO o) : LamX.Tabs T (upd H a ob) := fun p hp => by
  obtain ⟨ps, h1, h2, h3⟩ := t p hp
  have n1 : p.1 ≠ a := fun z => (h _ (by rw [← z]; exact h1)).1 ps rfl
  refine ⟨ps, by rw [upd_ne n1]; exact h1, h2, fun pos cv hc => ?_⟩
  obtain ⟨c, e1, e2⟩ := h3 pos cv hc
  have n2 : c ≠ a := fun z => (h _ (by rw [← z]; exact e2)).2 _ rfl
  exact ⟨c, e1, by rw [upd_ne n2]; exact e2⟩
section
variable {g : Gh} {K : PySem.W.Frag} {W W' : Ow} {μ : Mu} {b : Nat} {H H' : Hp} {pa : Option Addr}
theorem RC.pl {a : Addr} {c : Ce} : RC g K W H a c → ∃ o, H a = some o ∧ plO o
  | .lst h _ => ⟨_, h, .lst, fun _ z => nomatch z⟩
  | .dic h _ _ => ⟨_, h, .dK, fun _ z => nomatch z⟩
  | .obj h _ _ => ⟨_, h, .ins, fun _ z => nomatch z⟩
theorem StOk.paNe (s : StOk g K W μ b H) {p : Addr} (hp : H p = none) : g.pa ≠ some p := fun z => s.there p (s.pen p z).1 hp
theorem StOk.notC (s : StOk g K W μ b H) {p : Addr} (hp : H p = none) : some p ∉ W.c := fun z => s.there p (s.sub p z) hp
theorem get_app {α : Type} {l : List α} {x y : α} {n : Nat} (h : (l ++ [x])[n]? = some y) : l[n]? = some y ∨ (n = l.length ∧ y = x) := by
  by_cases q : n < l.length
  · rw [List.getElem?_append_left q] at h; exact .inl h
  · rw [List.getElem?_append_right (by omega)] at h
    by_cases q2 : n = l.length
    · subst q2; rw [Nat.sub_self] at h; exact .inr ⟨rfl, (Option.some.inj h).symm⟩
    · rw [List.getElem?_eq_none (by simp; omega)] at h; cases h
theorem app_get {α : Type} {l : List α} {x y : α} {n : Nat} (h : l[n]? = some y) : (l ++ [x])[n]? = some y := by
  rw [List.getElem?_append_left (get_lt h)]; exact h
def Ow.new (W : Ow) (p : Addr) : Ow := ⟨p :: W.o, W.c ++ [some p]⟩
theorem pre_new {p : Addr} : ∀ (n : Nat) x, W.c[n]? = some x → (W.new p).c[n]? = some x ∨ (W.new p).c[n]? = some none := fun _ _ h => .inl (app_get h)
theorem ext_new {p : Addr} {ob : HO} (hp : H p = none) : Ext pa W H (W.new p) (upd H p ob) := by
  refine ⟨fun a o e _ _ _ => same_new hp a o e, pre_new, hs_new hp, fun n a h => ?_, Same.nt (same_new hp), fun _ h _ _ => List.mem_cons_of_mem _ h⟩
  rcases get_app h with q | ⟨q, r⟩
  · exact .inl q
  · cases r; exact .inr ⟨by omega, nnt hp⟩
theorem st_new {p : Addr} {ob : HO} {c : Ce} (s : StOk g K W μ b H) (hp : H p = none) (rc : RC g K (W.new p) (upd H p ob) p c) : StOk g K (W.new p) (μ ++ [c]) b (upd H p ob) := by
  refine ⟨fun a ha => ?_, fun i j a h1 h2 => ?_, by simp [Ow.new, s.len], fun i c' a h1 h2 => ?_, fun a ha => ?_, fun a e => ?_, tabs_upd s.tabs (fun o e => by rw [hp] at e; cases e), fun n x h1 h2 => ?_, fun a ha ps z => ?_⟩
  · rcases List.mem_append.mp ha with q | q
    · exact List.mem_cons_of_mem _ (s.sub a q)
    · cases List.mem_singleton.mp q; exact List.mem_cons_self
  · rcases get_app h1 with q | ⟨q, r⟩
    · rcases get_app h2 with q2 | ⟨q2, r2⟩
      · exact s.nd i j a q q2
      · cases r2; exact (s.notC hp (get_mem q)).elim
    · cases r
      rcases get_app h2 with q2 | ⟨q2, r2⟩
      · exact (s.notC hp (get_mem q2)).elim
      · omega
  · rcases get_app h2 with q | ⟨q, r⟩
    · rcases get_app h1 with q1 | ⟨q1, r1⟩
      · have z := s.cell i c' a q1 q
        refine z.move (fun n => ?_) (.of (same_new hp)) (hs_new hp) pre_new
        exact upd_ne (fun e => n (by rw [e]; exact hp))
      · have := get_lt q; rw [s.len] at this; omega
    · cases r
      rcases get_app h1 with q1 | ⟨q1, r1⟩
      · have := get_lt q1; rw [← s.len] at this; omega
      · rw [r1]; exact rc
  · rcases List.mem_cons.mp ha with rfl | q
    · rw [upd_same]; exact fun z => nomatch z
    · exact Same.there (same_new hp) s.there a q
  · obtain ⟨m, n, c, t, r, cells, h1, h2, h3, h4⟩ := s.pen a e
    have na : a ≠ p := fun z => s.paNe hp (by rw [← z]; exact e)
    refine ⟨List.mem_cons_of_mem _ m, fun z => ?_, c, t, r, cells, same_new hp _ _ h1, same_new hp _ _ h2, fun z => ?_, h4⟩
    · rcases List.mem_append.mp z with q | q
      · exact n q
      · cases List.mem_singleton.mp q; exact na rfl
    · rcases List.mem_cons.mp z with rfl | q
      · rw [hp] at h2; cases h2
      · exact h3 q
  · rcases get_app h1 with q | ⟨q, r⟩
    · rcases get_app h2 with q2 | ⟨q2, r2⟩
      · exact s.dd n x q q2
      · have := get_lt q; rw [s.len] at this; omega
    · cases r
  · rcases List.mem_cons.mp ha with rfl | q
    · obtain ⟨o, h1, h2⟩ := rc.at_
      rw [h1] at z; cases z; exact h2 ps rfl
    · exact s.nt a q ps (by rw [← z, upd_ne (fun y => s.there a q (by rw [y]; exact hp))])
/-- a thing is written anew -/
theorem ext_set {n : Nat} {a : Addr} {ob : HO} (e1 : W.c[n]? = some (some a)) (hno : nTb ob) : Ext pa W H W (upd H a ob) := by
  refine ⟨fun x o e m _ _ => ?_, fun _ _ h => .inl h, fun _ h => .inl h, fun _ _ h => .inl h, fun x h => ?_, fun _ h _ _ => h⟩
  · rw [upd_ne (fun z => m (by rw [z]; exact get_mem e1))]; exact e
  · by_cases q : x = a
    · subst q; exact ⟨_, upd_same, hno⟩
    · obtain ⟨o, h1, h2⟩ := h
      exact ⟨o, by rw [upd_ne q]; exact h1, h2⟩
theorem st_set {n : Nat} {a : Addr} {ob : HO} {c c0 : Ce} (s : StOk g K W μ b H) (e1 : W.c[n]? = some (some a)) (e2 : μ[n]? = some c0) (rc : RC g K W (upd H a ob) a c) : StOk g K W (μ.set n c) b (upd H a ob) := by
  have hO : a ∈ W.o := s.sub a (get_mem e1)
  refine ⟨s.sub, s.nd, by rw [List.length_set]; exact s.len, fun i c' x h1 h2 => ?_, fun x hx => ?_, fun x e => ?_, tabs_upd s.tabs (fun o e => ?_), fun i x h1 h2 => ?_, fun x hx ps z => ?_⟩
  · rcases set_get h1 with ⟨rfl, q⟩ | ⟨q, h1⟩
    · rw [e1] at h2; cases h2; rw [q]; exact rc
    · have nx : x ≠ a := fun z => q (s.nd n i a e1 (by rw [← z]; exact h2))
      refine (s.cell i c' x h1 h2).move (fun _ => upd_ne nx) (fun y u e m _ => ?_) (fun _ h => .inl h) fun _ _ h => .inl h
      rw [upd_ne (fun z => m (by rw [z]; exact hO))]; exact e
  · by_cases q : x = a
    · subst q; rw [upd_same]; exact fun z => nomatch z
    · rw [upd_ne q]; exact s.there x hx
  · obtain ⟨m, nn, c, t, r, cells, h1, h2, h3, h4⟩ := s.pen x e
    exact ⟨m, nn, c, t, r, cells, by rw [upd_ne (fun z => nn (by rw [z]; exact get_mem e1))]; exact h1, by rw [upd_ne (fun z => h3 (by rw [z]; exact hO))]; exact h2, h3, h4⟩
  · obtain ⟨o', h1, h2⟩ := (s.cell n c0 a e2 e1).pl
    rw [h1] at e; cases e; exact h2
  · rcases set_get h2 with ⟨rfl, q⟩ | ⟨_, q⟩
    · rw [e1] at h1; cases h1
    · exact s.dd i x h1 q
  · by_cases q : x = a
    · obtain ⟨o, h1, h2⟩ := rc.at_
      rw [q, h1] at z; cases z; exact h2 ps rfl
    · rw [upd_ne q] at z; exact s.nt x hx ps z
/-- what keeps as a step of the store keeps trees -/
theorem kO_set {n : Nat} {a : Addr} {ob : HO} (s : StOk g K W μ b H) (e1 : W.c[n]? = some (some a)) : KpO W.o H (upd H a ob) := fun x u h m _ => by
  rw [upd_ne (fun z => m (by rw [z]; exact s.sub a (get_mem e1)))]; exact h

/-! a thing that changes no longer -/
def tOf : Vd → Option D
  | .t d => some d
  | .r _ => none
def tsOf : List Vd → Option (List D)
  | [] => some []
  | .t d :: xs => (tsOf xs).map fun ds => d :: ds
  | .r _ :: _ => none
def ceD : Ce → Option D
  | .lst ds => some (.lst ds)
  | .dic ks ds => some (.dic ks ds)
  | .obj C fs xs => (tsOf xs).map fun ds => .obj C fs ds
  | .dead => none
theorem ts_rv : ∀ {vs : List V} {xs : List Vd} {ds : List D}, RWs g K W H vs xs → tsOf xs = some ds → RVs g K W.o H vs ds
  | _, [], _, .nil, e => by cases e; exact .nil
  | _, .t d :: xs, ds, .cons (.t r) t, e => by
    have e : (tsOf xs).map (fun ds => d :: ds) = some ds := e
    cases e1 : tsOf xs with
    | none => rw [e1] at e; cases e
    | some ds' => rw [e1] at e; cases e; exact .cons r (ts_rv t e1)
  | _, .r _ :: xs, ds, .cons _ t, e => by cases e
theorem ce_rv {O' : List Addr} {a : Addr} {c : Ce} {d : D} (rc : RC g K W H a c) (e : ceD c = some d) (hO : ∀ x ∈ O', x ∈ W.o) (n : a ∉ O') : RV g K O' H (.ref a) d := by
  cases rc with
  | lst h r => cases e; exact .lst ⟨h, n⟩ (r.keep .refl (hs_sub hO))
  | dic h l r => cases e; exact .dic (.inl h) n l (r.keep .refl (hs_sub hO))
  | @obj C dx fs vs xs h l r =>
    have e : (tsOf xs).map (fun ds => D.obj C fs ds) = some d := e
    cases e1 : tsOf xs with
    | none => rw [e1] at e; cases e
    | some ds => rw [e1] at e; cases e; exact .obj h n l ((ts_rv r e1).keep .refl (hs_sub hO))
def Ow.frz (W : Ow) (n : Nat) (a : Addr) : Ow := ⟨W.o.filter fun x => decide (x ≠ a), W.c.set n none⟩
theorem mem_fil {O : List Addr} {a x : Addr} : x ∈ O.filter (fun x => decide (x ≠ a)) ↔ x ∈ O ∧ x ≠ a := by
  rw [List.mem_filter, decide_eq_true_eq]
theorem pre_frz {n : Nat} {a : Addr} : ∀ (i : Nat) x, W.c[i]? = some x → (W.frz n a).c[i]? = some x ∨ (W.frz n a).c[i]? = some none := fun i x h => by
  by_cases q : n = i
  · subst q; exact .inr (List.getElem?_set_self (get_lt h))
  · exact .inl (by show (W.c.set n none)[i]? = some x; rw [List.getElem?_set_ne q]; exact h)
theorem ext_frz {n : Nat} {a : Addr} (e1 : W.c[n]? = some (some a)) : Ext pa W H (W.frz n a) H := by
  refine ⟨fun x o e _ _ _ => e, pre_frz, fun x h => .inl (mem_fil.mp h).1, fun i x h => ?_, fun x h => h, fun x h _ hc => mem_fil.mpr ⟨h, fun z => hc (by rw [z]; exact get_mem e1)⟩⟩
  rcases set_get (show (W.c.set n none)[i]? = some (some x) from h) with ⟨_, q⟩ | ⟨_, q⟩
  · cases q
  · exact .inl q
theorem st_frz {n : Nat} {a : Addr} (s : StOk g K W μ b H) (e1 : W.c[n]? = some (some a)) : StOk g K (W.frz n a) (μ.set n .dead) b H := by
  have live : ∀ i x, (W.frz n a).c[i]? = some (some x) → n ≠ i ∧ W.c[i]? = some (some x) := fun i x h => by
    rcases set_get (show (W.c.set n none)[i]? = some (some x) from h) with ⟨_, q⟩ | q
    · cases q
    · exact q
  refine ⟨fun x hx => ?_, fun i j x h1 h2 => s.nd i j x (live i x h1).2 (live j x h2).2, by show (W.c.set n none).length = (μ.set n Ce.dead).length; rw [List.length_set, List.length_set]; exact s.len, fun i c x h1 h2 => ?_, fun x hx => s.there x (mem_fil.mp hx).1, fun x e => ?_, s.tabs, fun i x h1 h2 => ?_, fun x hx => s.nt x (mem_fil.mp hx).1⟩
  · obtain ⟨i, hi⟩ := mem_get hx
    obtain ⟨q1, q2⟩ := live i x hi
    exact mem_fil.mpr ⟨s.sub x (get_mem q2), fun z => q1 (s.nd n i a e1 (by rw [← z]; exact q2))⟩
  · obtain ⟨q1, q2⟩ := live i x h2
    rcases set_get h1 with ⟨z, _⟩ | ⟨_, q3⟩
    · exact (q1 z).elim
    · exact (s.cell i c x q3 q2).move (fun _ => rfl) .refl (fun y h => .inl (mem_fil.mp h).1) pre_frz
  · obtain ⟨m, nn, c, t, r, cells, h1, h2, h3, h4⟩ := s.pen x e
    refine ⟨mem_fil.mpr ⟨m, fun z => nn (by rw [z]; exact get_mem e1)⟩, fun z => ?_, c, t, r, cells, h1, h2, fun z => h3 (mem_fil.mp z).1, h4⟩
    obtain ⟨i, hi⟩ := mem_get z
    exact nn (get_mem (live i x hi).2)
  · rcases set_get h2 with ⟨_, q⟩ | ⟨q1, q⟩
    · exact q
    · rcases set_get h1 with ⟨z, _⟩ | ⟨_, z⟩
      · exact (q1 z).elim
      · exact s.dd i x z q
/-! freezing all that is reached, as a body ends -/
def mapO (f : Vd → Option D) : List Vd → Option (List D)
  | [] => some []
  | x :: xs => (f x).bind fun d => (mapO f xs).map fun ds => d :: ds
def frz (μ : Mu) : Nat → Vd → Option D
  | 0, x => tOf x
  | k + 1, x => match x with
    | .t d => some d
    | .r n => match μ[n]? with
      | some (.lst ds) => some (.lst ds)
      | some (.dic ks ds) => some (.dic ks ds)
      | some (.obj C fs xs) => (mapO (frz μ k) xs).map fun ds => .obj C fs ds
      | _ => none
theorem mapO_rv {O' : List Addr} {f : Vd → Option D} (h : ∀ (x : Vd) (v : V) (d : D), RW g K W H v x → f x = some d → RV g K O' H v d) : ∀ (xs : List Vd) {vs : List V} {ds : List D}, RWs g K W H vs xs → mapO f xs = some ds → RVs g K O' H vs ds
  | [], _, ds, .nil, e => by cases e; exact .nil
  | x :: xs, _, ds, .cons r t, e => by
    unfold mapO at e
    cases e1 : f x with
    | none => rw [e1] at e; cases e
    | some d =>
      rw [e1] at e
      have e : (mapO f xs).map (fun ds => d :: ds) = some ds := e
      cases e2 : mapO f xs with
      | none => rw [e2] at e; cases e
      | some ds' => rw [e2] at e; cases e; exact .cons (h _ _ _ r e1) (mapO_rv h xs t e2)
theorem frz_rv {O' : List Addr} (s : StOk g K W μ b H) (hO : ∀ x ∈ O', x ∈ W.o) (hn : ∀ x, some x ∈ W.c → x ∉ O') : ∀ (k : Nat) (x : Vd) {v : V} {d : D}, RW g K W H v x → frz μ k x = some d → RV g K O' H v d
  | 0, .t d', v, d, .t r, e => by cases e; exact r.keep .refl (hs_sub hO)
  | 0, .r n, v, d, _, e => by cases e
  | k + 1, .t d', v, d, .t r, e => by cases e; exact r.keep .refl (hs_sub hO)
  | k + 1, .r n, v, d, rw_, e => by
    cases h1 : μ[n]? with
    | none => unfold frz at e; simp only [h1] at e; cases e
    | some c =>
      have key : ∀ a, W.c[n]? = some (some a) → RV g K O' H (.ref a) d := fun a e2 => by
        have na := hn a (get_mem e2)
        have rc := s.cell n c a h1 e2
        unfold frz at e
        simp only [h1] at e
        cases rc with
        | lst h r => cases e; exact .lst ⟨h, na⟩ (r.keep .refl (hs_sub hO))
        | dic h l r => cases e; exact .dic (.inl h) na l (r.keep .refl (hs_sub hO))
        | @obj C dx fs vs xs h l r =>
          have e : (mapO (frz μ k) xs).map (fun ds => D.obj C fs ds) = some d := e
          cases e3 : mapO (frz μ k) xs with
          | none => rw [e3] at e; cases e
          | some ds => rw [e3] at e; cases e; exact .obj h na l (mapO_rv (fun x v d rx ex => frz_rv s hO hn k x rx ex) xs r e3)
      cases rw_ with
      | r e2 => exact key _ e2
      | z e2 =>
        have := s.dd n c e2 h1
        subst this
        unfold frz at e; simp only [h1] at e; cases e
end
end Y

set_option Elab.async false
set_option linter.all false
set_option maxRecDepth 100000
set_option maxHeartbeats 4000000
/-! Y3: reading; expressions. -/
namespace Y
open PySem PySem.Spec PyProof.Rows L2

/-! ### what a value reads as: the data that it is, or what a thing of the store holds -/
structure FLd (H : Hp) (a : Addr) (vs : List V) : Prop where
  h1 : H a = some (.lst vs)
theorem FLd.sq {K : PySem.W.Frag} {H : Hp} {a : Addr} {vs : List V} (h : FLd H a vs) : SqL K H a vs := .inl (.inl h.h1)
section
variable (g : Gh) (K : PySem.W.Frag) (O : List Addr) (H : Hp)
inductive RD : V → D → Prop
  | non : RD .non .non
  | bl (b : Bool) : RD (.bl b) (.bl b)
  | int (i : Int) : RD (.int i) (.int i)
  | str (x : Str) : RD (.str x) (.str x)
  | ty (n : Ty) : RD (.ty n.name) (.ty n)
  | cls (n : Nat) : RD (.ref (g.cl n)) (.cls n)
  | fn (n : Nat) : RD (.ref (g.fa n)) (.fn n)
  | pen {a : Addr} : g.pa = some a → RD (.ref a) .pen
  | lst {a : Addr} {vs : List V} {ds : List D} : FLd H a vs → RVs g K O H vs ds → RD (.ref a) (.lst ds)
  | tup {a : Addr} {vs : List V} {ds : List D} : FT K O H a vs → RVs g K O H vs ds → RD (.ref a) (.tup ds)
  | dic {a : Addr} {ks : List Key} {vs : List V} {ds : List D} : Rd H a (.dK (ks.zip vs)) → True → ks.length = vs.length → RVs g K O H vs ds → RD (.ref a) (.dic ks ds)
  | obj {a dx : Addr} {C : Nat} {fs : List Str} {vs : List V} {ds : List D} : H a = some (.ins (g.cl C) dx (fs.zip vs)) → True → fs.length = vs.length → RVs g K O H vs ds → RD (.ref a) (.obj C fs ds)
  | err {a dd : Addr} {C : Nat} {fs : List Str} {vs : List V} {ds : List D} : XoAt g H a dd C fs vs → a ∉ O → dd ∉ O → RVs g K O H vs ds → RD (.ref a) (.err C fs ds)
inductive RDs : List V → List D → Prop
  | nil : RDs [] []
  | cons {v : V} {vs : List V} {d : D} {ds : List D} : RD g K O H v d → RDs vs ds → RDs (v :: vs) (d :: ds)
end
section
variable {g : Gh} {K : PySem.W.Frag} {O O' : List Addr} {H H' : Hp} {W W' : Ow} {μ : Mu} {b : Nat}
theorem RV.rd {v : V} {d : D} : RV g K O H v d → RD g K O H v d
  | .non => .non
  | .bl b => .bl b
  | .int i => .int i
  | .str x => .str x
  | .ty n => .ty n
  | .cls a => .cls a
  | .fn a => .fn a
  | .pen e => .pen e
  | .lst h r => .lst ⟨h.1⟩ r
  | .tup h r => .tup h r
  | .dic h n l r => .dic h trivial l r
  | .obj h n l r => .obj h trivial l r
  | .err h n1 n2 r => .err h n1 n2 r
theorem RVs.rds : ∀ {vs : List V} {ds : List D}, RVs g K O H vs ds → RDs g K O H vs ds
  | _, _, .nil => .nil
  | _, _, .cons h t => .cons h.rd (RVs.rds t)
theorem RD.same {v : V} {d : D} (s : Same H H') : RD g K O H v d → RD g K O H' v d
  | .non => .non
  | .bl b => .bl b
  | .int i => .int i
  | .str x => .str x
  | .ty n => .ty n
  | .cls a => .cls a
  | .fn a => .fn a
  | .pen e => .pen e
  | .lst h r => .lst ⟨s _ _ h.1⟩ (r.same s)
  | .tup h r => .tup (h.keep (.of s) hs_refl) (r.same s)
  | .dic h n l r => .dic (h.elim (fun h => .inl (s _ _ h)) fun ⟨o, h⟩ => .inr ⟨o, s _ _ h⟩) n l (r.same s)
  | .obj h n l r => .obj (s _ _ h) n l (r.same s)
  | .err h n1 n2 r => .err ⟨s _ _ h.at_, s _ _ h.fl, h.len⟩ n1 n2 (r.same s)
theorem RDs.length : ∀ {vs : List V} {ds : List D}, RDs g K O H vs ds → vs.length = ds.length
  | _, _, .nil => rfl
  | _, _, .cons _ t => congrArg (· + 1) (RDs.length t)
def drf (μ : Mu) : Vd → Option D
  | .t d => some d
  | .r n => μ[n]?.bind ceD
def drfs (μ : Mu) : List Vd → Option (List D)
  | [] => some []
  | x :: xs => (drf μ x).bind fun d => (drfs μ xs).map fun ds => d :: ds
theorem ce_rd {a : Addr} {c : Ce} {d : D} (rc : RC g K W H a c) (e : ceD c = some d) : RD g K W.o H (.ref a) d := by
  cases rc with
  | lst h r => cases e; exact .lst ⟨h⟩ r
  | dic h l r => cases e; exact .dic (.inl h) trivial l r
  | @obj C dx fs vs xs h l r =>
    have e : (tsOf xs).map (fun ds => D.obj C fs ds) = some d := e
    cases e1 : tsOf xs with
    | none => rw [e1] at e; cases e
    | some ds => rw [e1] at e; cases e; exact .obj h trivial l (ts_rv r e1)
theorem drf_rd {v : V} {x : Vd} {d : D} (s : StOk g K W μ b H) (r : RW g K W H v x) (e : drf μ x = some d) : RD g K W.o H v d := by
  cases r with
  | t r => cases e; exact r.rd
  | @r a n h =>
    have e : μ[n]?.bind ceD = some d := e
    cases e1 : μ[n]? with
    | none => rw [e1] at e; cases e
    | some c => rw [e1] at e; exact ce_rd (s.cell n c a e1 h) e
  | @z v n h =>
    have e : μ[n]?.bind ceD = some d := e
    cases e1 : μ[n]? with
    | none => rw [e1] at e; cases e
    | some c => rw [e1] at e; rw [s.dd n c h e1] at e; cases e
theorem drfs_rd (s : StOk g K W μ b H) : ∀ {vs : List V} {xs : List Vd} {ds : List D}, RWs g K W H vs xs → drfs μ xs = some ds → RDs g K W.o H vs ds
  | _, [], _, .nil, e => by cases e; exact .nil
  | _, x :: xs, ds, .cons r t, e => by
    unfold drfs at e
    cases e1 : drf μ x with
    | none => rw [e1] at e; cases e
    | some d =>
      rw [e1] at e
      have e : (drfs μ xs).map (fun ds => d :: ds) = some ds := e
      cases e2 : drfs μ xs with
      | none => rw [e2] at e; cases e
      | some ds' => rw [e2] at e; cases e; exact .cons (drf_rd s r e1) (drfs_rd s t e2)
end

/-! ### readings -/
abbrev FE := Env' → Mu → T (Vd × Mu)
abbrev FT' := Env' → Mu → T (Bool × Mu)
abbrev FA := Env' → Mu → T (List Vd × Mu)
def tM (B : Bd) (K : PySem.W.Frag) (f : FE) : TE := fun σ H Q => ∃ ρ μ W b, Rep B K ρ μ W b H σ ∧
  (f ρ μ).All b (fun p b' => ∀ v W' H', Ext B.g.pa W H W' H' → Rep B K ρ p.2 W' b' H' σ → RW B.g K W' H' v p.1 → Q v H') B.Y
def tK (B : Bd) (K : PySem.W.Frag) (f : FT') : TT := fun σ H Q => ∃ ρ μ W b, Rep B K ρ μ W b H σ ∧
  (f ρ μ).All b (fun p b' => ∀ W' H', Ext B.g.pa W H W' H' → Rep B K ρ p.2 W' b' H' σ → Q p.1 H') B.Y
def tL (B : Bd) (K : PySem.W.Frag) (f : FA) : TA := fun σ H Q => ∃ ρ μ W b, Rep B K ρ μ W b H σ ∧
  (f ρ μ).All b (fun p b' => ∀ vs W' H', Ext B.g.pa W H W' H' → Rep B K ρ p.2 W' b' H' σ → RWs B.g K W' H' vs p.1 → Q vs H') B.Y

theorem PEimp {X : Cx} {e : Expr} {t t' : TE} (h : PE X e t) (k : ∀ σ H Q, t' σ H Q → t σ H Q) : PE X e t' := ⟨fun pins s σ H Q I w => h.run pins s σ H Q I (k σ H Q w)⟩
theorem PTimp {X : Cx} {e : Expr} {t t' : TT} (h : PT X e t) (k : ∀ σ H Q, t' σ H Q → t σ H Q) : PT X e t' := ⟨fun pins s σ H Q I w => h.run pins s σ H Q I (k σ H Q w)⟩
theorem PWimp {X : Cx} {e : Expr} {t t' : TT} (h : PW X e t) (k : ∀ σ H Q, t' σ H Q → t σ H Q) : PW X e t' := ⟨fun wh pins s σ H Q I w => h.run wh pins s σ H Q I (k σ H Q w)⟩
theorem PAimp {X : Cx} {es : List Expr} {t t' : TA} (h : PA X es t) (k : ∀ σ H Q, t' σ H Q → t σ H Q) : PA X es t' := ⟨fun pos pins s σ H Q I w => h.run pos pins s σ H Q I (k σ H Q w)⟩

/-! ### operators by values -/
def VOp2 (K : PySem.W.Frag) (r : R2) (g : D → D → Option D) : Prop := ∀ (g0 : Gh) (O : List Addr) (H : Hp) (x y : V) (a b d : D) (Q : VK), (∀ q ∈ O, H q ≠ none) → RD g0 K O H x a → RD g0 K O H y b → g a b = some d →
  (∀ v H', Same H H' → RV g0 K O H' v d → Q v H') → r x y H Q
def VOp1 (K : PySem.W.Frag) (r : V → Hp → VK → Prop) (g : D → Option D) : Prop := ∀ (g0 : Gh) (O : List Addr) (H : Hp) (x : V) (a d : D) (Q : VK), (∀ q ∈ O, H q ≠ none) → RD g0 K O H x a → g a = some d →
  (∀ v H', Same H H' → RV g0 K O H' v d → Q v H') → r x H Q
def VCall (K : PySem.W.Frag) (r : List V → Hp → VK → Prop) (g : List D → Option D) : Prop := ∀ (g0 : Gh) (O : List Addr) (H : Hp) (xs : List V) (as : List D) (d : D) (Q : VK), (∀ q ∈ O, H q ≠ none) → RDs g0 K O H xs as → g as = some d →
  (∀ v H', Same H H' → RV g0 K O H' v d → Q v H') → r xs H Q
/-- first the one, then the other -/
def orE {α : Type} (a b : Option α) : Option α := match a with | some x => some x | none => b
theorem orE_some {α : Type} {a b : Option α} {x : α} (h : orE a b = some x) : a = some x ∨ b = some x := by
  cases a with
  | none => exact .inr h
  | some y => exact .inl h
theorem VOp2.or {K : PySem.W.Frag} {r r' : R2} {g g' : D → D → Option D} (h : VOp2 K r g) (h' : VOp2 K r' g') : VOp2 K (fun x y H Q => r x y H Q ∨ r' x y H Q) (fun a b => orE (g a b) (g' a b)) :=
  fun pa O H x y a b d Q hO ra rb e q => (orE_some e).elim (fun e => .inl (h pa O H x y a b d Q hO ra rb e q)) fun e => .inr (h' pa O H x y a b d Q hO ra rb e q)
theorem VCall.or {K : PySem.W.Frag} {r r' : List V → Hp → VK → Prop} {g g' : List D → Option D} (h : VCall K r g) (h' : VCall K r' g') : VCall K (fun xs H Q => r xs H Q ∨ r' xs H Q) (fun as => orE (g as) (g' as)) :=
  fun pa O H xs as d Q hO ra e q => (orE_some e).elim (fun e => .inl (h pa O H xs as d Q hO ra e q)) fun e => .inr (h' pa O H xs as d Q hO ra e q)

/-! ### the combinators -/
def eVar (i : Nat) : FE := fun ρ μ => match ρ[i]? with
  | some (some x) => .ret (x, μ)
  | _ => .bad
def eC (d : D) : FE := fun _ μ => .ret (.t d, μ)
def rO (o : Option D) (μ : Mu) : T (Vd × Mu) := (T.ofO o).bind fun d => .ret (.t d, μ)
def ap2 (g : D → D → Option D) (μ : Mu) (x y : Vd) : Option D := (drf μ x).bind fun a => (drf μ y).bind fun b => g a b
def ap1 (g : D → Option D) (μ : Mu) (x : Vd) : Option D := (drf μ x).bind g
theorem ap2_some {g : D → D → Option D} {μ : Mu} {x y : Vd} {d : D} (h : ap2 g μ x y = some d) : ∃ a b, drf μ x = some a ∧ drf μ y = some b ∧ g a b = some d := by
  unfold ap2 at h
  cases e1 : drf μ x with
  | none => rw [e1] at h; cases h
  | some a =>
    rw [e1] at h
    cases e2 : drf μ y with
    | none => rw [e2] at h; cases h
    | some b => rw [e2] at h; exact ⟨a, b, rfl, rfl, h⟩
theorem bind_some {α β : Type} {o : Option α} {f : α → Option β} {d : β} (h : o.bind f = some d) : ∃ a, o = some a ∧ f a = some d := by
  cases o with
  | none => cases h
  | some a => exact ⟨a, rfl, h⟩
def eOp2 (g : D → D → Option D) (f f' : FE) : FE := fun ρ μ => (f ρ μ).bind fun p => (f' ρ p.2).bind fun q => rO (ap2 g q.2 p.1 q.1) q.2
def eOp1 (g : D → Option D) (f : FE) : FE := fun ρ μ => (f ρ μ).bind fun p => rO (ap1 g p.2 p.1) p.2
def eCallB (g : List D → Option D) (fa : FA) : FE := fun ρ μ => (fa ρ μ).bind fun p => rO ((drfs p.2 p.1).bind g) p.2
/-- a call of a function of data -/
def eCallF (F : List D → T D) (fa : FA) : FE := fun ρ μ => (fa ρ μ).bind fun p => (T.ofO (tsOf p.1)).bind fun as => (F as).bind fun d => .ret (.t d, p.2)
/-- a call of a function that changes the store -/
def eCallS (F : List Vd → Mu → T (Vd × Mu)) (fa : FA) : FE := fun ρ μ => (fa ρ μ).bind fun p => F p.1 p.2
def eIf (c : FT') (f f' : FE) : FE := fun ρ μ => (c ρ μ).bind fun k => if k.1 then f ρ k.2 else f' ρ k.2
def aNil : FA := fun _ μ => .ret ([], μ)
def aCons (f : FE) (fa : FA) : FA := fun ρ μ => (f ρ μ).bind fun p => (fa ρ p.2).bind fun q => .ret (p.1 :: q.1, q.2)
def seqOf : D → Option (List D)
  | .lst xs => some xs
  | .tup xs => some xs
  | _ => none
def aStar (f : FE) (fa : FA) : FA := fun ρ μ => (f ρ μ).bind fun p => (T.ofO ((drf p.2 p.1).bind seqOf)).bind fun xs => (fa ρ p.2).bind fun q => .ret (xs.map .t ++ q.1, q.2)
def lim : Nat := 1000000
def eTup (fa : FA) : FE := fun ρ μ => (fa ρ μ).bind fun p => (T.ofO (tsOf p.1)).bind fun as => if as.length ≤ lim then .ret (.t (.tup as), p.2) else .bad
def eLst (fa : FA) : FE := fun ρ μ => (fa ρ μ).bind fun p => (T.ofO (tsOf p.1)).bind fun as => if as.length ≤ lim then .ret (.t (.lst as), p.2) else .bad
/-- a list that will change -/
def eNewL (fa : FA) : FE := fun ρ μ => (fa ρ μ).bind fun p => (T.ofO (tsOf p.1)).bind fun as => if as.length ≤ lim then .ret (.r p.2.length, p.2 ++ [.lst as]) else .bad
theorem lim_le {n : Nat} (h : n ≤ lim) : n ≤ sizeLine := Nat.le_trans h (by decide)

/-- truth -/
def truD : D → Option Bool
  | .non => some false
  | .bl b => some b
  | .int i => some (i != 0)
  | .str x => if x.length ≤ lim then some ((x.length : Int) != 0) else none
  | .lst xs => some (!xs.isEmpty)
  | .tup xs => some (!xs.isEmpty)
  | _ => none
def tru (μ : Mu) (x : Vd) : Option Bool := (drf μ x).bind truD
def eAnd (f f' : FE) : FE := fun ρ μ => (f ρ μ).bind fun p => (T.ofO (tru p.2 p.1)).bind fun k => if k then f' ρ p.2 else .ret p
def eOr (f f' : FE) : FE := fun ρ μ => (f ρ μ).bind fun p => (T.ofO (tru p.2 p.1)).bind fun k => if k then .ret p else f' ρ p.2
def eNot (f : FE) : FE := fun ρ μ => (f ρ μ).bind fun p => (T.ofO (tru p.2 p.1)).bind fun k => .ret (.t (.bl !k), p.2)
def kTru (f : FE) : FT' := fun ρ μ => (f ρ μ).bind fun p => (T.ofO (tru p.2 p.1)).bind fun k => .ret (k, p.2)
def blOf : Vd → Option Bool
  | .t (.bl b) => some b
  | _ => none
def kBl (f : FE) : FT' := fun ρ μ => (f ρ μ).bind fun p => (T.ofO (blOf p.1)).bind fun k => .ret (k, p.2)
def kAnd (c c' : FT') : FT' := fun ρ μ => (c ρ μ).bind fun k => if k.1 then c' ρ k.2 else .ret (false, k.2)
def kOr (c c' : FT') : FT' := fun ρ μ => (c ρ μ).bind fun k => if k.1 then .ret (true, k.2) else c' ρ k.2
def kNot (c : FT') : FT' := fun ρ μ => (c ρ μ).bind fun k => .ret (!k.1, k.2)
def blD : D → Option Bool
  | .bl b => some b
  | _ => none
def eChain (g g' : D → D → Option D) (f f' f'' : FE) : FE := fun ρ μ => (f ρ μ).bind fun p => (f' ρ p.2).bind fun q => (T.ofO ((ap2 g q.2 p.1 q.1).bind blD)).bind fun k => if k then (f'' ρ q.2).bind fun r => rO (ap2 g' r.2 q.1 r.1) r.2 else .ret (.t (.bl false), q.2)

theorem blV {g : Gh} {K : PySem.W.Frag} {W : Ow} {H : Hp} {v : V} {d : Vd} {kk : Bool} (r : RW g K W H v d) (e : blOf d = some kk) : v = .bl kk := by
  cases r with
  | t r =>
    cases r with
    | bl y => cases e; rfl
    | _ => exact nomatch e
  | r _ => exact nomatch e
  | z _ => exact nomatch e
theorem truV_of {g : Gh} {K : PySem.W.Frag} {O : List Addr} {H : Hp} {v : V} {d : D} {kk : Bool} (r : RD g K O H v d) (e : truD d = some kk) : TruV K v H kk := by
  cases r with
  | non => exact (Option.some.inj e).symm
  | bl y => exact (Option.some.inj e).symm
  | int i => exact (Option.some.inj e).symm
  | str x =>
    have e : (if x.length ≤ lim then some ((x.length : Int) != 0) else none) = some kk := e
    by_cases hx : x.length ≤ lim
    · rw [if_pos hx] at e; exact ⟨lim_le hx, (Option.some.inj e).symm⟩
    · rw [if_neg hx] at e; exact nomatch e
  | @lst p vs ds h rs =>
    refine .inl ⟨_, h.sq, ?_⟩
    have e1 := Option.some.inj e
    rw [← e1]
    cases rs <;> rfl
  | @tup p vs ds h rs =>
    refine .inr (.inl ⟨_, h.sq, ?_⟩)
    have e1 := Option.some.inj e
    rw [← e1]
    cases rs <;> rfl
  | ty n => exact nomatch e
  | cls p => exact nomatch e
  | fn p => exact nomatch e
  | pen z => exact nomatch e
  | dic _ _ _ _ => exact nomatch e
  | obj _ _ _ _ => exact nomatch e
  | err _ _ _ _ => exact nomatch e
theorem tru_of {g : Gh} {K : PySem.W.Frag} {W : Ow} {μ : Mu} {b : Nat} {H : Hp} {v : V} {x : Vd} {kk : Bool} (s : StOk g K W μ b H) (r : RW g K W H v x) (e : tru μ x = some kk) : TruV K v H kk := by
  obtain ⟨d, e1, e2⟩ := bind_some e
  exact truV_of (drf_rd s r e1) e2
section
variable {X : Cx} {B : Bd} {e a b c : Expr} {es rest : List Expr} {pos : Pos} {f f' f'' : FE} {fa : FA} {k k' : FT'}
theorem se_var (i : Nat) {x : Str} (hN : X.N[i]? = some x := by rfl) (hv : Vis X.env.scope x := by first | exact Or.inl rfl | exact Or.inr (Or.inl rfl) | exact Or.inr (Or.inr rfl)) (hd : (x == ("__debug__" : Str)) = false := by decide)
    (hcd : (x == ("__classdict__" : Str)) = false := by decide) : PE X (.Name x pos) (tM B X.K (eVar i)) := PEimp (pe_var hN hv hd hcd) fun σ H Q ⟨ρ, μ, W, n, R, h⟩ => by
  unfold eVar at h
  cases e : ρ[i]? with
  | none => rw [e] at h; exact h.elim
  | some s =>
    rw [e] at h
    cases s with
    | none => exact h.elim
    | some x =>
      obtain ⟨v, h1, h2⟩ := R.slot i x e
      exact ⟨v, h1, h v W H .refl R h2⟩
theorem se_c {v : V} {d : D} (he : PE X e (tC v)) (r : ∀ O H, RV B.g X.K O H v d) : PE X e (tM B X.K (eC d)) := PEimp he fun σ H Q ⟨ρ, μ, W, n, R, h⟩ => h v W H .refl R (.t (r W.o H))
theorem se_int {i j} : PE X (.Constant (.int i) j pos) (tM B X.K (eC (.int i))) := se_c pe_int fun _ _ => .int i
theorem se_str {x j} : PE X (.Constant (.str x) j pos) (tM B X.K (eC (.str x))) := se_c pe_str fun _ _ => .str x
theorem se_bl {x j} : PE X (.Constant (.bool x) j pos) (tM B X.K (eC (.bl x))) := se_c pe_bl fun _ _ => .bl x
theorem se_non {j} : PE X (.Constant .none j pos) (tM B X.K (eC .non)) := se_c pe_non fun _ _ => .non
/-- a name of the module: its value -/
structure GlV (K : PySem.W.Frag) (mg : Str → Option Value) (x : Str) (d : D) : Prop where
  h : ∃ (u : Value) (v : V), mg x = some u ∧ RelV v u ∧ ∀ g O H, RV g K O H v d
theorem se_glob {x : Str} {d : D} (g : GlV X.K X.mg x d) (hg : Gl X x := by rfl) (hd : (x == ("__debug__" : Str)) = false := by decide) : PE X (.Name x pos) (tM B X.K (eC d)) := by
  obtain ⟨u, v, h1, h2, h3⟩ := g.h
  exact se_c (pe_glob hg h1 h2 hd) fun O H => h3 B.g O H
theorem se_ty (n : Ty) {x : Str} (hm : X.mg x = none) (hv : bootBuiltins x = some (.type n.name) := by decide +kernel) (hg : Gl X x := by rfl) (hn : x ≠ "__name__" := by decide) (hd : (x == ("__debug__" : Str)) = false := by decide) : PE X (.Name x pos) (tM B X.K (eC (.ty n))) :=
  se_c (pe_bltn (v := .ty n.name) hg hm hv rfl hn hd) fun _ _ => .ty n

theorem rO_all {o : Option D} {μ : Mu} {b : Nat} {P : Vd × Mu → Nat → Prop} {Y : XP} (h : (rO o μ).All b P Y) : ∃ d, o = some d ∧ P (.t d, μ) b := by
  obtain ⟨d, e, q⟩ := T.All.ofO (T.All.bind h)
  exact ⟨d, e, q⟩
theorem op2_imp {K : PySem.W.Frag} {r : R2} {g : D → D → Option D} (hv : VOp2 K r g) (σ : L2.St) (H : Hp) (Q : VK) (h : tM B K (eOp2 g f f') σ H Q) : tOp r (tM B K f) (tM B K f') σ H Q := by
  obtain ⟨ρ, μ, W, n, R, h⟩ := h
  refine ⟨ρ, μ, W, n, R, (T.All.bind h).mono fun p n1 h1 v1 W1 H1 k1 R1 r1 => ⟨ρ, p.2, W1, n1, R1, (T.All.bind h1).mono fun q n2 h2 v2 W2 H2 k2 R2 r2 => ?_⟩⟩
  obtain ⟨d, e, hq⟩ := rO_all h2
  obtain ⟨a, b, ea, eb, eg⟩ := ap2_some e
  exact hv B.g W2.o H2 v1 v2 a b d Q R2.st.there (drf_rd R2.st (r1.ext R1.st k2) ea) (drf_rd R2.st r2 eb) eg fun v H' s rv => hq v W2 H' ((k1.trans k2).trans (.same s)) (R2.same s) (.t rv)
theorem op1_imp {K : PySem.W.Frag} {r : V → Hp → VK → Prop} {g : D → Option D} (hv : VOp1 K r g) (σ : L2.St) (H : Hp) (Q : VK) (h : tM B K (eOp1 g f) σ H Q) : tM B K f σ H fun v H1 => r v H1 Q := by
  obtain ⟨ρ, μ, W, n, R, h⟩ := h
  refine ⟨ρ, μ, W, n, R, (T.All.bind h).mono fun p n1 h1 v1 W1 H1 k1 R1 r1 => ?_⟩
  obtain ⟨d, e, hq⟩ := rO_all h1
  obtain ⟨a, ea, eg⟩ := bind_some e
  exact hv B.g W1.o H1 v1 a d Q R1.st.there (drf_rd R1.st r1 ea) eg fun v H' s rv => hq v W1 H' (k1.trans (.same s)) (R1.same s) (.t rv)
theorem se_op {op : Operator} {r : R2} {g : D → D → Option D} (ho : OpR X (binaryOp op) r) (hv : VOp2 X.K r g) (ha : PE X a (tM B X.K f)) (hb : PE X b (tM B X.K f')) : PE X (.BinOp a op b pos) (tM B X.K (eOp2 g f f')) :=
  PEimp (pe_op ho ha hb) (op2_imp hv)
theorem se_cmp {op : CmpOp} {r : R2} {g : D → D → Option D} (ho : OpR X (compareOp op) r) (hv : VOp2 X.K r g) (ha : PE X a (tM B X.K f)) (hb : PE X b (tM B X.K f')) (hm : behindInMarks op b = false := by first | exact nomark _ | rfl) :
    PE X (.Compare a [op] [b] pos) (tM B X.K (eOp2 g f f')) := PEimp (pe_cmpR ho ha hb hm) (op2_imp hv)
theorem se_un {op : UnaryOp} {r : V → Hp → VK → Prop} {g : D → Option D} (ho : UnR X (unaryOp op) r) (hv : VOp1 X.K r g) (ha : PE X a (tM B X.K f)) : PE X (.UnaryOp op a pos) (tM B X.K (eOp1 g f)) :=
  PEimp (pe_un ho ha) (op1_imp hv)
theorem se_ix {r : R2} {g : D → D → Option D} (hr : IxR X r) (hv : VOp2 X.K r g) (ha : PE X a (tM B X.K f)) (hb : PE X b (tM B X.K f')) (hs : PlainIx b := by exact fun _ _ => rfl) : PE X (.Subscript a b pos) (tM B X.K (eOp2 g f f')) :=
  PEimp (pe_ix hr ha hb hs) (op2_imp hv)
theorem blD_rv {g : Gh} {K : PySem.W.Frag} {O : List Addr} {H : Hp} {v : V} {d : D} {kk : Bool} (r : RV g K O H v d) (e : blD d = some kk) : v = .bl kk := by
  cases r with
  | bl y => cases e; rfl
  | _ => exact nomatch e
theorem chain_imp {K : PySem.W.Frag} {r r' : R2} {g g' : D → D → Option D} (hv : VOp2 K r g) (hv' : VOp2 K r' g') (σ : L2.St) (H : Hp) (Q : VK) (h : tM B K (eChain g g' f f' f'') σ H Q) : tChain r r' (tM B K f) (tM B K f') (tM B K f'') σ H Q := by
  obtain ⟨ρ, μ, W, n, R, h⟩ := h
  refine ⟨ρ, μ, W, n, R, (T.All.bind h).mono fun p n1 h1 v1 W1 H1 k1 R1 r1 => ⟨ρ, p.2, W1, n1, R1, (T.All.bind h1).mono fun q n2 h2 v2 W2 H2 k2 R2 r2 => ?_⟩⟩
  obtain ⟨kk, e, h3⟩ := T.All.ofO (T.All.bind h2)
  obtain ⟨z, e, e2⟩ := bind_some e
  obtain ⟨a, b, ea, eb, eg⟩ := ap2_some e
  refine hv B.g W2.o H2 v1 v2 a b z _ R2.st.there (drf_rd R2.st (r1.ext R1.st k2) ea) (drf_rd R2.st r2 eb) eg fun v H3 s rv => ?_
  have R3 := R2.same s
  have ev := blD_rv rv e2
  subst ev
  refine ⟨kk, rfl, ?_⟩
  cases kk with
  | false => exact iteF (h3 _ W2 _ ((k1.trans k2).trans (.same s)) R3 (.t (.bl _)))
  | true =>
    refine iteT ⟨ρ, q.2, W2, n2, R3, (T.All.bind h3).mono fun q5 n5 h5 v5 W5 H5 k5 R5 r5 => ?_⟩
    obtain ⟨d, e, hq⟩ := rO_all h5
    obtain ⟨a, b, ea, eb, eg⟩ := ap2_some e
    exact hv' B.g W5.o H5 v2 v5 a b d Q R5.st.there (drf_rd R5.st ((r2.ext R2.st (.same s)).ext R3.st k5) ea) (drf_rd R5.st r5 eb) eg fun v6 H6 s6 rv6 => hq v6 W5 H6 ((((k1.trans k2).trans (.same s)).trans k5).trans (.same s6)) (R5.same s6) (.t rv6)
theorem se_chain {op op' : CmpOp} {r r' : R2} {g g' : D → D → Option D} (ho : OpR X (compareOp op) r) (hv : VOp2 X.K r g) (ho' : OpR X (compareOp op') r') (hv' : VOp2 X.K r' g')
    (ha : PE X a (tM B X.K f)) (hb : PE X b (tM B X.K f')) (hc : PE X c (tM B X.K f''))
    (hm : lastMarks [op, op'] [b, c] = false := by with_unfolding_all rfl) : PE X (.Compare a [op, op'] [b, c] pos) (tM B X.K (eChain g g' f f' f'')) :=
  PEimp (pe_chain ho ho' ha hb hc hm) (chain_imp hv hv')
theorem se_and (ha : PE X a (tM B X.K f)) (hb : PE X (.BoolOp .And (b :: rest) pos) (tM B X.K f')) : PE X (.BoolOp .And (a :: b :: rest) pos) (tM B X.K (eAnd f f')) :=
  PEimp (pe_andT ha hb) fun σ H Q ⟨ρ, μ, W, n, R, h⟩ => ⟨ρ, μ, W, n, R, (T.All.bind h).mono fun p n1 h1 v1 W1 H1 k1 R1 r1 => by
    obtain ⟨kk, e, h2⟩ := T.All.ofO (T.All.bind h1)
    refine ⟨kk, tru_of R1.st r1 e, ?_⟩
    cases kk with
    | true => exact iteT ⟨ρ, p.2, W1, n1, R1, T.All.mono h2 fun d2 n2 h3 v2 W2 H2 k2 R2 r2 => h3 v2 W2 H2 (k1.trans k2) R2 r2⟩
    | false => exact iteF (h2 v1 W1 H1 k1 R1 r1)⟩
theorem se_or (ha : PE X a (tM B X.K f)) (hb : PE X (.BoolOp .Or (b :: rest) pos) (tM B X.K f')) : PE X (.BoolOp .Or (a :: b :: rest) pos) (tM B X.K (eOr f f')) :=
  PEimp (pe_orT ha hb) fun σ H Q ⟨ρ, μ, W, n, R, h⟩ => ⟨ρ, μ, W, n, R, (T.All.bind h).mono fun p n1 h1 v1 W1 H1 k1 R1 r1 => by
    obtain ⟨kk, e, h2⟩ := T.All.ofO (T.All.bind h1)
    refine ⟨kk, tru_of R1.st r1 e, ?_⟩
    cases kk with
    | false => exact iteF ⟨ρ, p.2, W1, n1, R1, T.All.mono h2 fun d2 n2 h3 v2 W2 H2 k2 R2 r2 => h3 v2 W2 H2 (k1.trans k2) R2 r2⟩
    | true => exact iteT (h2 v1 W1 H1 k1 R1 r1)⟩
theorem se_one {op} (ha : PE X a (tM B X.K f)) : PE X (.BoolOp op [a] pos) (tM B X.K f) := pe_one ha
theorem se_not (ha : PE X a (tM B X.K f)) : PE X (.UnaryOp .Not a pos) (tM B X.K (eNot f)) :=
  PEimp (pe_notT ha) fun σ H Q ⟨ρ, μ, W, n, R, h⟩ => ⟨ρ, μ, W, n, R, (T.All.bind h).mono fun p n1 h1 v1 W1 H1 k1 R1 r1 => by
    obtain ⟨kk, e, h2⟩ := T.All.ofO (T.All.bind h1)
    exact ⟨kk, tru_of R1.st r1 e, h2 _ _ _ k1 R1 (.t (.bl _))⟩⟩
theorem se_if (hc : PT X c (tK B X.K k)) (ha : PE X a (tM B X.K f)) (hb : PE X b (tM B X.K f')) : PE X (.IfExp c a b pos) (tM B X.K (eIf k f f')) :=
  PEimp (pe_ifExp hc ha hb) fun σ H Q ⟨ρ, μ, W, n, R, h⟩ => ⟨ρ, μ, W, n, R, (T.All.bind h).mono fun p n1 h1 W1 H1 k1 R1 => by
    obtain ⟨kk, μ1⟩ := p
    cases kk with
    | true => exact iteT ⟨ρ, μ1, W1, n1, R1, T.All.mono h1 fun d2 n2 h3 v2 W2 H2 k2 R2 r2 => h3 v2 W2 H2 (k1.trans k2) R2 r2⟩
    | false => exact iteF ⟨ρ, μ1, W1, n1, R1, T.All.mono h1 fun d2 n2 h3 v2 W2 H2 k2 R2 r2 => h3 v2 W2 H2 (k1.trans k2) R2 r2⟩⟩

/-! tests -/
theorem sk_tru (ha : PE X a (tM B X.K f)) (he : ∀ whole, isTrue a X.env whole = (do let v ← whole; standAt a.pos; holding [v] (truthy v)) := by intro _; rfl) : PT X a (tK B X.K (kTru f)) :=
  PTimp (pt_truth ha he) fun σ H Q ⟨ρ, μ, W, n, R, h⟩ => ⟨ρ, μ, W, n, R, (T.All.bind h).mono fun p n1 h1 v1 W1 H1 k1 R1 r1 => by
    obtain ⟨kk, e, h2⟩ := T.All.ofO (T.All.bind h1)
    exact ⟨kk, tru_of R1.st r1 e, h2 W1 H1 k1 R1⟩⟩
theorem kbl_imp {K : PySem.W.Frag} {fe : FE} (σ : L2.St) (H : Hp) (Q : Bool → Hp → Prop) (h : tK B K (kBl fe) σ H Q) : tTest (tM B K fe) σ H Q := by
  obtain ⟨ρ, μ, W, n, R, h⟩ := h
  refine ⟨ρ, μ, W, n, R, (T.All.bind h).mono fun d n1 h1 v W1 H1 k1 R1 r1 => ?_⟩
  obtain ⟨kk, e, q⟩ := T.All.ofO (T.All.bind h1)
  exact ⟨kk, blV r1 e, q W1 H1 k1 R1⟩
theorem op2T_imp {K : PySem.W.Frag} {r : R2} {g : D → D → Option D} (hv : VOp2 K r g) (σ : L2.St) (H : Hp) (Q : Bool → Hp → Prop) (h : tK B K (kBl (eOp2 g f f')) σ H Q) : tTest (tOp r (tM B K f) (tM B K f')) σ H Q :=
  op2_imp (f := f) (f' := f') hv σ H _ (kbl_imp σ H Q h)
theorem sk_cmp {op : CmpOp} {r : R2} {g : D → D → Option D} (ho : OpR X (compareOp op) r) (hv : VOp2 X.K r g) (ha : PE X a (tM B X.K f)) (hb : PE X b (tM B X.K f')) (hm : behindInMarks op b = false := by first | exact nomark _ | rfl) :
    PT X (.Compare a [op] [b] pos) (tK B X.K (kBl (eOp2 g f f'))) := PTimp (pt_cmpR ho ha hb hm) (op2T_imp hv)
theorem sk_and1 (ha : PT X a (tK B X.K k)) : PW X (.BoolOp .And [a] pos) (tK B X.K k) := pw_and1 ha
theorem sk_or1 (ha : PT X a (tK B X.K k)) : PW X (.BoolOp .Or [a] pos) (tK B X.K k) := pw_or1 ha
theorem sk_and (ha : PT X a (tK B X.K k)) (hb : PW X (.BoolOp .And (b :: rest) pos) (tK B X.K k')) : PW X (.BoolOp .And (a :: b :: rest) pos) (tK B X.K (kAnd k k')) :=
  PWimp (pw_and ha hb) fun σ H Q ⟨ρ, μ, W, n, R, h⟩ => ⟨ρ, μ, W, n, R, (T.All.bind h).mono fun p n1 h1 W1 H1 k1 R1 => by
    obtain ⟨kk, μ1⟩ := p
    cases kk with
    | true => exact iteT ⟨ρ, μ1, W1, n1, R1, T.All.mono h1 fun c2 n2 h3 W2 H2 k2 R2 => h3 W2 H2 (k1.trans k2) R2⟩
    | false => exact iteF (h1 W1 H1 k1 R1)⟩
theorem sk_or (ha : PT X a (tK B X.K k)) (hb : PW X (.BoolOp .Or (b :: rest) pos) (tK B X.K k')) : PW X (.BoolOp .Or (a :: b :: rest) pos) (tK B X.K (kOr k k')) :=
  PWimp (pw_or ha hb) fun σ H Q ⟨ρ, μ, W, n, R, h⟩ => ⟨ρ, μ, W, n, R, (T.All.bind h).mono fun p n1 h1 W1 H1 k1 R1 => by
    obtain ⟨kk, μ1⟩ := p
    cases kk with
    | false => exact iteF ⟨ρ, μ1, W1, n1, R1, T.All.mono h1 fun c2 n2 h3 W2 H2 k2 R2 => h3 W2 H2 (k1.trans k2) R2⟩
    | true => exact iteT (h1 W1 H1 k1 R1)⟩
theorem sk_not (ha : PT X a (tK B X.K k)) : PT X (.UnaryOp .Not a pos) (tK B X.K (kNot k)) :=
  PTimp (pt_not ha) fun σ H Q ⟨ρ, μ, W, n, R, h⟩ => ⟨ρ, μ, W, n, R, (T.All.bind h).mono fun kk n1 h1 W1 H1 k1 R1 => h1 W1 H1 k1 R1⟩
theorem sk_ch {op op' : CmpOp} {r r' : R2} {g g' : D → D → Option D} (ho : OpR X (compareOp op) r) (hv : VOp2 X.K r g) (ho' : OpR X (compareOp op') r') (hv' : VOp2 X.K r' g')
    (ha : PE X a (tM B X.K f)) (hb : PE X b (tM B X.K f')) (hc : PE X c (tM B X.K f''))
    (hm : lastMarks [op, op'] [b, c] = false := by with_unfolding_all rfl) : PT X (.Compare a [op, op'] [b, c] pos) (tK B X.K (kBl (eChain g g' f f' f''))) :=
  PTimp (pt_chain ho ho' ha hb hc hm) fun σ H Q h => chain_imp hv hv' σ H _ (kbl_imp σ H Q h)

/-! displays -/
theorem sa_nil : PA X [] (tL B X.K aNil) := PAimp pa_nil fun σ H Q ⟨ρ, μ, W, n, R, h⟩ => h [] W H .refl R .nil
theorem sa_cons (ha : PE X e (tM B X.K f)) (hr : PA X es (tL B X.K fa)) (hs : starEach (e :: es) X.env = (false, eval e X.env) :: starEach es X.env := by rfl) : PA X (e :: es) (tL B X.K (aCons f fa)) :=
  PAimp (pa_cons ha hr hs) fun σ H Q ⟨ρ, μ, W, n, R, h⟩ => ⟨ρ, μ, W, n, R, (T.All.bind h).mono fun p n1 h1 v1 W1 H1 k1 R1 r1 => ⟨ρ, p.2, W1, n1, R1, (T.All.bind h1).mono fun q n2 h2 vs W2 H2 k2 R2 r2 =>
    h2 _ W2 _ (k1.trans k2) R2 (.cons (r1.ext R1.st k2) r2)⟩⟩
theorem sa_star {p : Pos} (ha : PE X e (tM B X.K f)) (hr : PA X es (tL B X.K fa)) (hs : starEach (.Starred e p :: es) X.env = (true, eval e X.env) :: starEach es X.env := by rfl) : PA X (.Starred e p :: es) (tL B X.K (aStar f fa)) :=
  PAimp (StX.pa_star ha hr hs) fun σ H Q ⟨ρ, μ, W, n, R, h⟩ => ⟨ρ, μ, W, n, R, (T.All.bind h).mono fun p1 n1 h1 v1 W1 H1 k1 R1 r1 => by
    obtain ⟨xs, e, h2⟩ := T.All.ofO (T.All.bind h1)
    obtain ⟨d, e1, e⟩ := bind_some e
    have key : ∃ p vs, v1 = V.ref p ∧ (SqT X.K H1 p vs ∨ SqL X.K H1 p vs) ∧ RVs B.g X.K W1.o H1 vs xs := by
      cases drf_rd R1.st r1 e1 with
      | lst h rs => cases e; exact ⟨_, _, rfl, .inr h.sq, rs⟩
      | tup h rs => cases e; exact ⟨_, _, rfl, .inl h.sq, rs⟩
      | _ => exact nomatch e
    obtain ⟨p, vs, e1, sq, rs⟩ := key
    exact ⟨p, vs, e1, sq, ρ, p1.2, W1, n1, R1, (T.All.bind h2).mono fun ds n2 h3 ws W2 H2 k2 R2 r2 => h3 _ W2 _ (k1.trans k2) R2 ((rs.ws.ext R1.st k2).append r2)⟩⟩
theorem se_tup {x1} (ha : PA X es (tL B X.K fa)) : PE X (.Tuple es x1 pos) (tM B X.K (eTup fa)) :=
  PEimp (pe_tup ha) fun σ H Q ⟨ρ, μ, W, n, R, h⟩ => ⟨ρ, μ, W, n, R, (T.All.bind h).mono fun p n1 h1 vs W1 H1 k1 R1 r1 => by
    obtain ⟨ds, e, h1⟩ := T.All.ofO (T.All.bind h1)
    have r1 := ts_rv r1 e
    by_cases hl : ds.length ≤ lim
    · rw [if_pos hl] at h1
      exact ⟨by rw [r1.length]; exact lim_le hl, fun p hp => h1 _ W1 _ (k1.trans (.same (same_new hp))) (R1.same (same_new hp)) (.t (new_tup R1.st.there hp r1))⟩
    · rw [if_neg hl] at h1; exact h1.elim⟩
theorem se_lst (ha : PA X es (tL B X.K fa)) : PE X (.List es pos) (tM B X.K (eLst fa)) :=
  PEimp (pe_lst ha) fun σ H Q ⟨ρ, μ, W, n, R, h⟩ => ⟨ρ, μ, W, n, R, (T.All.bind h).mono fun p n1 h1 vs W1 H1 k1 R1 r1 => by
    obtain ⟨ds, e, h1⟩ := T.All.ofO (T.All.bind h1)
    have r1 := ts_rv r1 e
    by_cases hl : ds.length ≤ lim
    · rw [if_pos hl] at h1
      exact ⟨by rw [r1.length]; exact lim_le hl, fun p hp => h1 _ W1 _ (k1.trans (.same (same_new hp))) (R1.same (same_new hp)) (.t (new_lst R1.st.there hp r1))⟩
    · rw [if_neg hl] at h1; exact h1.elim⟩
/-- a frame with a new thing of the store -/
theorem Rep.newC {K : PySem.W.Frag} {ρ : Env'} {μ : Mu} {W : Ow} {b : Nat} {H : Hp} {σ : L2.St} {p : Addr} {ob : HO} {c : Ce} (R : Rep B K ρ μ W b H σ) (hp : H p = none) (rc : RC B.g K (W.new p) (upd H p ob) p c) :
    Rep B K ρ (μ ++ [c]) (W.new p) b (upd H p ob) σ ∧ Ext B.g.pa W H (W.new p) (upd H p ob) ∧ RW B.g K (W.new p) (upd H p ob) (.ref p) (.r μ.length) :=
  ⟨R.go (ext_new hp) (st_new R.st hp rc) (fun a h => List.mem_cons_of_mem _ (R.mono a h)), ext_new hp, .r (by
    show (W.c ++ [some p])[μ.length]? = some (some p)
    rw [← R.st.len, List.getElem?_append_right (Nat.le_refl _), Nat.sub_self]; rfl)⟩
theorem se_newL (ha : PA X es (tL B X.K fa)) : PE X (.List es pos) (tM B X.K (eNewL fa)) :=
  PEimp (pe_lst ha) fun σ H Q ⟨ρ, μ, W, n, R, h⟩ => ⟨ρ, μ, W, n, R, (T.All.bind h).mono fun p n1 h1 vs W1 H1 k1 R1 r1 => by
    obtain ⟨ds, e, h1⟩ := T.All.ofO (T.All.bind h1)
    have r1 := ts_rv r1 e
    by_cases hl : ds.length ≤ lim
    · rw [if_pos hl] at h1
      refine ⟨by rw [r1.length]; exact lim_le hl, fun a hp => ?_⟩
      obtain ⟨R2, e2, r2⟩ := R1.newC (ob := .lst vs) (c := .lst ds) hp (.lst upd_same (r1.keep (.of (same_new hp)) (hs_new hp)))
      exact h1 _ _ _ (k1.trans e2) R2 r2
    · rw [if_neg hl] at h1; exact h1.elim⟩
/-! built-ins -/
theorem callB_imp {K : PySem.W.Frag} {r : List V → Hp → VK → Prop} {g : List D → Option D} (hv : VCall K r g) (σ : L2.St) (H : Hp) (Q : VK) (h : tM B K (eCallB g fa) σ H Q) : tCB r (tL B K fa) σ H Q := by
  obtain ⟨ρ, μ, W, n, R, h⟩ := h
  refine ⟨ρ, μ, W, n, R, (T.All.bind h).mono fun p n1 h1 vs W1 H1 k1 R1 r1 => ?_⟩
  obtain ⟨d, e, q⟩ := rO_all h1
  obtain ⟨ds, e1, e2⟩ := bind_some e
  exact hv B.g W1.o H1 vs ds d Q R1.st.there (drfs_rd R1.st r1 e1) e2 fun v H' s rv => q v W1 H' (k1.trans (.same s)) (R1.same s) (.t rv)
theorem se_callB {x : Str} {p : Pos} {id : String} {r : List V → Hp → VK → Prop} {g : List D → Option D} (hc : CallR X (.builtin id) r) (hv : VCall X.K r g) (hm : X.mg x = none) (ha : PA X (e :: es) (tL B X.K fa)) (hb : bootBuiltins x = some (.builtin id) := by decide +kernel) (hg : Gl X x := by rfl) (hn : x ≠ "__name__" := by decide) (hdb : (x == ("__debug__" : Str)) = false := by decide)
    (he : starEach (e :: es) X.env = (false, eval e X.env) :: starEach es X.env := by rfl) (hpl : (backTo pos (starEach es X.env)).any (·.1) = false := by rfl) : PE X (.Call (.Name x p) (e :: es) [] pos) (tM B X.K (eCallB g fa)) :=
  PEimp (pe_callB hc hg hm hb ha hn hdb he hpl) (callB_imp hv)
theorem se_callTy {x : Str} {p : Pos} {id : String} {r : List V → Hp → VK → Prop} {g : List D → Option D} (hc : CallR X (.type id) r) (hv : VCall X.K r g) (hm : X.mg x = none) (ha : PA X (e :: es) (tL B X.K fa)) (hb : bootBuiltins x = some (.type id) := by decide +kernel) (hg : Gl X x := by rfl) (hn : x ≠ "__name__" := by decide) (hdb : (x == ("__debug__" : Str)) = false := by decide)
    (he : starEach (e :: es) X.env = (false, eval e X.env) :: starEach es X.env := by rfl) (hpl : (backTo pos (starEach es X.env)).any (·.1) = false := by rfl) : PE X (.Call (.Name x p) (e :: es) [] pos) (tM B X.K (eCallB g fa)) :=
  PEimp (pe_callTy hc hg hm hb ha hn hdb he hpl) (callB_imp hv)
end
end Y

set_option Elab.async false
set_option linter.all false
set_option maxRecDepth 100000
set_option maxHeartbeats 4000000
/-! Y4: operators on data. -/
namespace Y
open PySem PySem.Spec PyProof.Rows L2

/-! ### two ints, two texts, two lists -/
def i2 (g : Int → Int → D) : D → D → Option D
  | .int i, .int j => some (g i j)
  | _, _ => none
def i2c (C : Int → Int → Bool) (g : Int → Int → D) : D → D → Option D
  | .int i, .int j => if C i j then some (g i j) else none
  | _, _ => none
theorem v_i2 {K : PySem.W.Frag} {gv : Int → Int → V} {g : Int → Int → D} (h : ∀ g0 O H i j, RV g0 K O H (gv i j) (g i j)) : VOp2 K (rI0 gv) (i2 g) := fun pa O H x y a b d Q hO ra rb e q => by
  cases ra <;> cases rb <;> first
    | exact (nos e).elim
    | (cases e; exact ⟨_, _, rfl, rfl, q _ H (Same.refl H) (h _ O H _ _)⟩)
theorem v_i2c {K : PySem.W.Frag} {C : Int → Int → Prop} {Cb : Int → Int → Bool} {gv : Int → Int → V} {g : Int → Int → D} (hC : ∀ i j, Cb i j = true → C i j) (h : ∀ g0 O H i j, RV g0 K O H (gv i j) (g i j)) : VOp2 K (rI C gv) (i2c Cb g) := fun pa O H x y a b d Q hO ra rb e q => by
  cases ra <;> cases rb <;> try exact (nos e).elim
  rename_i i j
  have e : (if Cb i j = true then some (g i j) else none) = some d := e
  by_cases hc : Cb i j = true
  · rw [if_pos hc] at e; cases e; exact ⟨_, _, rfl, rfl, hC _ _ hc, q _ H (Same.refl H) (h _ O H _ _)⟩
  · rw [if_neg hc] at e; exact (nos e).elim
def s2 (C : Str → Str → Bool) (g : Str → Str → D) : D → D → Option D
  | .str i, .str j => if C i j then some (g i j) else none
  | _, _ => none
def l2 : D → D → Option D
  | .lst xs, .lst ys => if xs.length + ys.length ≤ lim then some (.lst (xs ++ ys)) else none
  | _, _ => none
def t2 : D → D → Option D
  | .tup xs, .tup ys => if xs.length + ys.length ≤ lim then some (.tup (xs ++ ys)) else none
  | _, _ => none
def opAdd (a b : D) : Option D := orE (i2 (fun i j => .int (i + j)) a b) (orE (s2 (fun x y => decide (x.length + y.length ≤ lim)) (fun x y => .str (x ++ y)) a b) (orE (l2 a b) (t2 a b)))
def o_add {X : Cx} := (op_add (X := X)).or (op_add_str.or (op_cat.or op_catA))
def v_add {K : PySem.W.Frag} := (v_i2 (K := K) (gv := fun i j => .int (i + j)) (g := fun i j => .int (i + j)) fun _ _ _ _ _ => .int _).or (VOp2.or (g := s2 (fun x y => decide (x.length + y.length ≤ lim)) (fun x y => .str (x ++ y)))
  (r := fun x y H Q => ∃ i j, x = .str i ∧ y = .str j ∧ i.length + j.length ≤ sizeLine ∧ Q (.str (i ++ j)) H) (fun pa O H x y a b d Q hO ra rb e q => by
    cases ra <;> cases rb <;> try exact (nos e).elim
    rename_i i j
    have e : (if decide (i.length + j.length ≤ lim) = true then some (D.str (i ++ j)) else none) = some d := e
    by_cases hc : decide (i.length + j.length ≤ lim) = true
    · rw [if_pos hc] at e; cases e; exact ⟨i, j, rfl, rfl, lim_le (of_decide_eq_true hc), q _ H (Same.refl H) (.str _)⟩
    · rw [if_neg hc] at e; exact (nos e).elim)
  (VOp2.or (r := rCat) (g := l2) (fun pa O H x y a b d Q hO ra rb e q => by
    cases ra <;> cases rb <;> try exact (nos e).elim
    rename_i p vs ds h1 r1 p2 vs2 ds2 h2 r2
    have e : (if ds.length + ds2.length ≤ lim then some (D.lst (ds ++ ds2)) else none) = some d := e
    by_cases hc : ds.length + ds2.length ≤ lim
    · rw [if_pos hc] at e; cases e
      exact ⟨p, p2, vs, vs2, rfl, rfl, h1.1, h2.1, by rw [r1.length, r2.length]; exact lim_le hc, fun z hz => q _ _ (same_new hz) (new_lst hO hz (r1.append r2))⟩
    · rw [if_neg hc] at e; exact (nos e).elim)
  (r' := rCatA K) (g' := t2) (fun pa O H x y a b d Q hO ra rb e q => by
    cases ra <;> cases rb <;> try exact (nos e).elim
    rename_i p vs ds h1 r1 p2 vs2 ds2 h2 r2
    have e : (if ds.length + ds2.length ≤ lim then some (D.tup (ds ++ ds2)) else none) = some d := e
    by_cases hc : ds.length + ds2.length ≤ lim
    · rw [if_pos hc] at e; cases e
      refine ⟨p, p2, vs, vs2, rfl, rfl, h1.sq, h2.sq, by rw [r1.length, r2.length]; exact lim_le hc, fun z => ?_, fun _ z => ?_, fun _ _ z hz => q _ _ (same_new hz) (new_tup hO hz (r1.append r2))⟩
      · subst z; cases r1; exact q _ H (Same.refl H) (.tup h2 r2)
      · subst z; cases r2; refine q _ H (Same.refl H) ?_; rw [List.append_nil]; exact .tup h1 r1
    · rw [if_neg hc] at e; exact (nos e).elim)))

def opSub : D → D → Option D := i2 fun i j => .int (i - j)
theorem v_sub {K : PySem.W.Frag} : VOp2 K (rI0 fun i j => .int (i - j)) opSub := v_i2 (gv := fun i j => .int (i - j)) fun _ _ _ _ _ => .int _
def small64 (i : Int) : Bool := decide (-(2 ^ 64) < i) && decide (i < 2 ^ 64)
theorem small64_iff {i : Int} (h : Y.small64 i = true) : -(2 ^ 64) < i ∧ i < 2 ^ 64 := by
  unfold Y.small64 at h
  rw [Bool.and_eq_true, decide_eq_true_eq, decide_eq_true_eq] at h
  exact h
def l2rep : D → D → Option D
  | .lst xs, .int k => if k ≤ 1000000 ∧ -1000000 ≤ k ∧ xs.length * k.toNat ≤ lim then some (.lst (List.replicate k.toNat xs).flatten) else none
  | _, _ => none
theorem rep_rvs {g : Gh} {K : PySem.W.Frag} {O : List Addr} {H : Hp} {vs : List V} {ds : List D} (r : RVs g K O H vs ds) : ∀ k : Nat, RVs g K O H (List.replicate k vs).flatten (List.replicate k ds).flatten
  | 0 => .nil
  | k + 1 => by rw [List.replicate_succ, List.replicate_succ, List.flatten_cons, List.flatten_cons]; exact r.append (rep_rvs r k)
def opMul (a b : D) : Option D := orE (i2c (fun i j => Y.small64 i || Y.small64 j) (fun i j => .int (i * j)) a b) (l2rep a b)
def o_mul {X : Cx} := (op_mul (X := X)).or op_rep
def v_mul {K : PySem.W.Frag} := VOp2.or (K := K) (v_i2c (g := fun i j => .int (i * j)) (Cb := fun i j => Y.small64 i || Y.small64 j) (C := CMul) (gv := fun i j => .int (i * j)) (fun i j h => by
    rw [Bool.or_eq_true] at h
    exact h.elim (fun z => .inl (small64_iff z)) fun z => .inr (small64_iff z)) fun _ _ _ _ _ => .int _)
  (r' := rRep) (g' := l2rep) (fun pa O H x y a b d Q hO ra rb e q => by
    cases ra <;> cases rb <;> try exact (nos e).elim
    rename_i p vs ds h1 r1 k
    have e : (if k ≤ 1000000 ∧ -1000000 ≤ k ∧ ds.length * k.toNat ≤ lim then some (D.lst (List.replicate k.toNat ds).flatten) else none) = some d := e
    by_cases hc : k ≤ 1000000 ∧ -1000000 ≤ k ∧ ds.length * k.toNat ≤ lim
    · rw [if_pos hc] at e; cases e
      exact ⟨p, k, vs, rfl, rfl, h1.1, by omega, by omega, by rw [r1.length]; exact lim_le hc.2.2, fun z hz => q _ _ (same_new hz) (new_lst hO hz (rep_rvs r1 _))⟩
    · rw [if_neg hc] at e; exact (nos e).elim)
def opMod : D → D → Option D := i2c (fun _ j => decide (j ≠ 0)) fun i j => .int (i.fmod j)
theorem v_mod {K : PySem.W.Frag} : VOp2 K (rI (fun _ j => j ≠ 0) fun i j => .int (i.fmod j)) opMod := v_i2c (C := fun _ j => j ≠ 0) (gv := fun i j => .int (i.fmod j)) (fun i j h => of_decide_eq_true h) fun _ _ _ _ _ => .int _
def opDiv : D → D → Option D := i2c (fun _ j => decide (j ≠ 0) && decide (j.natAbs < 1073741824)) fun i j => .int (i.fdiv j)
theorem v_div {K : PySem.W.Frag} : VOp2 K (rI CDivN fun i j => .int (i.fdiv j)) opDiv := v_i2c (C := CDivN) (gv := fun i j => .int (i.fdiv j)) (fun i j h => by
    rw [Bool.and_eq_true, decide_eq_true_eq, decide_eq_true_eq] at h; exact h) fun _ _ _ _ _ => .int _
def opNeg : D → Option D
  | .int i => some (.int (-i))
  | _ => none
theorem v_neg {K : PySem.W.Frag} : VOp1 K (rU fun i => .int (-i)) opNeg := fun pa O H x a d Q hO ra e q => by
  cases ra <;> try exact (nos e).elim
  cases e
  exact ⟨_, rfl, q _ H (Same.refl H) (.int _)⟩
/-! ### order of ints -/
def opLt : D → D → Option D := i2 fun i j => .bl (decide (i < j))
def opLe : D → D → Option D := i2 fun i j => .bl (decide (i ≤ j))
def opGt : D → D → Option D := i2 fun i j => .bl (decide (j < i))
def opGe : D → D → Option D := i2 fun i j => .bl (decide (j ≤ i))
theorem v_lt {K : PySem.W.Frag} : VOp2 K (rI0 fun i j => .bl (decide (i < j))) opLt := v_i2 (gv := fun i j => .bl (decide (i < j))) fun _ _ _ _ _ => .bl _
theorem v_le {K : PySem.W.Frag} : VOp2 K (rI0 fun i j => .bl (decide (i ≤ j))) opLe := v_i2 (gv := fun i j => .bl (decide (i ≤ j))) fun _ _ _ _ _ => .bl _
theorem v_gt {K : PySem.W.Frag} : VOp2 K (rI0 fun i j => .bl (decide (j < i))) opGt := v_i2 (gv := fun i j => .bl (decide (j < i))) fun _ _ _ _ _ => .bl _
theorem v_ge {K : PySem.W.Frag} : VOp2 K (rI0 fun i j => .bl (decide (j ≤ i))) opGe := v_i2 (gv := fun i j => .bl (decide (j ≤ i))) fun _ _ _ _ _ => .bl _
/-! ### is None -/
def isN : D → Bool
  | .non => true
  | _ => false
def opIsN : D → D → Option D
  | a, .non => some (.bl (isN a))
  | _, _ => none
def opNotN : D → D → Option D
  | a, .non => some (.bl (!isN a))
  | _, _ => none
theorem isN_iff {g : Gh} {K : PySem.W.Frag} {O : List Addr} {H : Hp} {x : V} {a : D} (r : RD g K O H x a) : decide (x = .non) = isN a := by
  cases r <;> first | rfl | (exact decide_eq_false (fun z => nomatch z))
theorem v_isN {K : PySem.W.Frag} : VOp2 K (fun x y H Q => y = .non ∧ Q (.bl (decide (x = .non))) H) opIsN := fun pa O H x y a b d Q hO ra rb e q => by
  cases rb <;> try exact (nos e).elim
  cases e
  exact ⟨rfl, by rw [isN_iff ra]; exact q _ H (Same.refl H) (.bl _)⟩
theorem v_notN {K : PySem.W.Frag} : VOp2 K (fun x y H Q => y = .non ∧ Q (.bl (!decide (x = .non))) H) opNotN := fun pa O H x y a b d Q hO ra rb e q => by
  cases rb <;> try exact (nos e).elim
  cases e
  exact ⟨rfl, by rw [isN_iff ra]; exact q _ H (Same.refl H) (.bl _)⟩
/-! ### equality of data -/
mutual
def pyOf : D → Option PyData
  | .non => some .none
  | .bl b => some (.bool b)
  | .int i => some (.int i)
  | .str x => some (.str x)
  | .lst xs => (pyOfs xs).map .list
  | .tup xs => (pyOfs xs).map .tuple
  | _ => none
def pyOfs : List D → Option (List PyData)
  | [] => some []
  | x :: xs => (pyOf x).bind fun p => (pyOfs xs).map fun ps => p :: ps
end
section
variable {g : Gh} {K : PySem.W.Frag} {O : List Addr} {H : Hp}
mutual
theorem dp_of : ∀ {d : D} {v : V} {p : PyData}, RV g K O H v d → pyOf d = some p → Dp K H v p
  | .non, _, _, r, e => by cases r; unfold pyOf at e; cases e; exact .non
  | .bl b, _, _, r, e => by cases r; unfold pyOf at e; cases e; exact .bl b
  | .int b, _, _, r, e => by cases r; unfold pyOf at e; cases e; exact .int b
  | .str b, _, _, r, e => by cases r; unfold pyOf at e; cases e; exact .str b
  | .lst xs, _, p, r, e => by
    cases r with
    | lst h rs =>
      unfold pyOf at e
      cases e2 : pyOfs xs with
      | none => rw [e2] at e; exact (nos e).elim
      | some ps => rw [e2] at e; cases e; exact .lst h.sq (dps_of rs e2)
  | .tup xs, _, p, r, e => by
    cases r with
    | tup h rs =>
      unfold pyOf at e
      cases e2 : pyOfs xs with
      | none => rw [e2] at e; exact (nos e).elim
      | some ps => rw [e2] at e; cases e; exact .tup h.sq (dps_of rs e2)
  | .dic _ _, _, _, _, e => by unfold pyOf at e; exact (nos e).elim
  | .obj _ _ _, _, _, _, e => by unfold pyOf at e; exact (nos e).elim
  | .err _ _ _, _, _, _, e => by unfold pyOf at e; exact (nos e).elim
  | .ty _, _, _, _, e => by unfold pyOf at e; exact (nos e).elim
  | .cls _, _, _, _, e => by unfold pyOf at e; exact (nos e).elim
  | .fn _, _, _, _, e => by unfold pyOf at e; exact (nos e).elim
  | .pen, _, _, _, e => by unfold pyOf at e; exact (nos e).elim
theorem dps_of : ∀ {ds : List D} {vs : List V} {ps : List PyData}, RVs g K O H vs ds → pyOfs ds = some ps → DpAll K H vs ps
  | [], _, _, r, e => by cases r; unfold pyOfs at e; cases e; exact .nil
  | d :: ds, _, ps, r, e => by
    cases r with
    | cons r1 r2 =>
      unfold pyOfs at e
      cases e1 : pyOf d with
      | none => rw [e1] at e; exact (nos e).elim
      | some p =>
        rw [e1] at e
        cases e2 : pyOfs ds with
        | none => rw [e2] at e; exact (nos e).elim
        | some qs => rw [e2] at e; cases e; exact .cons (dp_of r1 e1) (dps_of r2 e2)
end
theorem dp_rd {d : D} {v : V} {p : PyData} (r : RD g K O H v d) (e : pyOf d = some p) : Dp K H v p := by
  cases r with
  | non => exact dp_of (g := g) (O := O) .non e
  | bl b => exact dp_of (g := g) (O := O) (.bl b) e
  | int b => exact dp_of (g := g) (O := O) (.int b) e
  | str b => exact dp_of (g := g) (O := O) (.str b) e
  | tup h r => exact dp_of (.tup h r) e
  | @lst a vs ds h r =>
    unfold pyOf at e
    cases e2 : pyOfs ds with
    | none => rw [e2] at e; exact (nos e).elim
    | some ps => rw [e2] at e; cases e; exact .lst h.sq (dps_of r e2)
  | _ => unfold pyOf at e; exact (nos e).elim
end
def scalEq : D → D → Option Bool
  | .int i, .int j => some (i == j)
  | .str x, .str y => some (x == y)
  | .bl x, .bl y => some (x == y)
  | .non, .non => some true
  | .str _, .non => some false
  | .non, .str _ => some false
  | _, _ => none
def dataEq (a b : D) : Option Bool := (pyOf a).bind fun p => (pyOf b).bind fun q => if SeqAt.shaped p && SeqAt.shaped q then some (PyData.eqv p q) else none
def eqD (a b : D) : Option Bool := orE (scalEq a b) (dataEq a b)
def opEq (a b : D) : Option D := (eqD a b).map .bl
def opNe (a b : D) : Option D := (eqD a b).map fun k => .bl !k
theorem scal_ok {g : Gh} {K : PySem.W.Frag} {O : List Addr} {H : Hp} {x y : V} {a b : D} {k : Bool} (ra : RD g K O H x a) (rb : RD g K O H y b) (e : scalEq a b = some k) : scal x y = true ∧ decide (x = y) = k := by
  cases ra <;> cases rb <;> first
    | exact (nos e).elim
    | (cases e; exact ⟨rfl, dec_int⟩)
    | (cases e; exact ⟨rfl, dec_str⟩)
    | (cases e; exact ⟨rfl, dec_bl⟩)
    | (cases e; exact ⟨rfl, by decide⟩)
    | (cases e; exact ⟨rfl, decide_eq_false (fun z => nomatch z)⟩)
theorem data_ok {g : Gh} {K : PySem.W.Frag} {O : List Addr} {H : Hp} {x y : V} {a b : D} {k : Bool} (ra : RD g K O H x a) (rb : RD g K O H y b) (e : dataEq a b = some k) :
    ∃ p q, Dp K H x p ∧ Dp K H y q ∧ SeqAt.shaped p = true ∧ SeqAt.shaped q = true ∧ PyData.eqv p q = k := by
  unfold dataEq at e
  cases e1 : pyOf a with
  | none => rw [e1] at e; exact (nos e).elim
  | some p =>
    rw [e1] at e
    cases e2 : pyOf b with
    | none => rw [e2] at e; exact (nos e).elim
    | some q =>
      rw [e2] at e
      have e : (if (SeqAt.shaped p && SeqAt.shaped q) = true then some (PyData.eqv p q) else none) = some k := e
      by_cases hc : (SeqAt.shaped p && SeqAt.shaped q) = true
      · rw [if_pos hc] at e
        rw [Bool.and_eq_true] at hc
        exact ⟨p, q, dp_rd ra e1, dp_rd rb e2, hc.1, hc.2, Option.some.inj e⟩
      · rw [if_neg hc] at e; exact (nos e).elim
def o_eq {X : Cx} (hu : X.A.units + 64 < cLine) := (op_eq (X := X)).or (op_eqD hu)
def o_ne {X : Cx} (hu : X.A.units + 64 < cLine) := (op_ne (X := X)).or (op_neD hu)
theorem v_eq {K : PySem.W.Frag} : VOp2 K (fun x y H Q => rEq x y H Q ∨ rEqD K x y H Q) opEq := fun pa O H x y a b d Q hO ra rb e q => by
  unfold opEq at e
  cases e1 : eqD a b with
  | none => rw [e1] at e; exact (nos e).elim
  | some k =>
    rw [e1] at e
    cases e
    rcases orE_some e1 with e2 | e2
    · obtain ⟨h1, h2⟩ := scal_ok ra rb e2
      exact .inl ⟨h1, by rw [h2]; exact q _ H (Same.refl H) (.bl _)⟩
    · obtain ⟨p, q', h1, h2, h3, h4, h5⟩ := data_ok ra rb e2
      exact .inr ⟨p, q', h1, h2, h3, h4, by rw [h5]; exact q _ H (Same.refl H) (.bl _)⟩
theorem v_ne {K : PySem.W.Frag} : VOp2 K (fun x y H Q => rNe x y H Q ∨ rNeD K x y H Q) opNe := fun pa O H x y a b d Q hO ra rb e q => by
  unfold opNe at e
  cases e1 : eqD a b with
  | none => rw [e1] at e; exact (nos e).elim
  | some k =>
    rw [e1] at e
    cases e
    rcases orE_some e1 with e2 | e2
    · obtain ⟨h1, h2⟩ := scal_ok ra rb e2
      exact .inl ⟨h1, by rw [h2]; exact q _ H (Same.refl H) (.bl _)⟩
    · obtain ⟨p, q', h1, h2, h3, h4, h5⟩ := data_ok ra rb e2
      exact .inr ⟨p, q', h1, h2, h3, h4, by rw [h5]; exact q _ H (Same.refl H) (.bl _)⟩
end Y

set_option Elab.async false
set_option linter.all false
set_option maxRecDepth 100000
set_option maxHeartbeats 4000000
/-! Y5: in, subscripts, slices, built-ins on data. -/
namespace Y
open PySem PySem.Spec PyProof.Rows L2

section
variable {g : Gh} {K : PySem.W.Frag} {O : List Addr} {H : Hp}
/-! ### in -/
def flatD : D → Bool
  | .non => true | .bl _ => true | .int _ => true | .str _ => true | _ => false
def eqFl : D → D → Bool
  | .non, .non => true
  | .bl a, .bl b => a == b
  | .bl a, .int b => (if a then 1 else 0) == b
  | .int a, .bl b => a == (if b then 1 else 0)
  | .int a, .int b => a == b
  | .str a, .str b => a == b
  | _, _ => false
theorem flat_iff {x : V} {a : D} (r : RD g K O H x a) : flatV x = flatD a := by cases r <;> rfl
theorem eqFl_ok {x y : V} {a b : D} (ra : RD g K O H x a) (rb : RD g K O H y b) (fa : flatD a = true) (fb : flatD b = true) : eqV x y = eqFl a b := by
  cases ra <;> cases rb <;> first
    | rfl
    | exact absurd (show false = true from fa) Bool.false_ne_true
    | exact absurd (show false = true from fb) Bool.false_ne_true
theorem allFlat : ∀ {vs : List V} {ds : List D}, RVs g K O H vs ds → vs.all flatV = ds.all flatD
  | _, _, .nil => rfl
  | _, _, .cons h t => by rw [List.all_cons, List.all_cons, flat_iff h.rd, allFlat t]
theorem anyEq {x : V} {a : D} (ra : RD g K O H x a) (fa : flatD a = true) : ∀ {vs : List V} {ds : List D}, RVs g K O H vs ds → ds.all flatD = true → inV x vs = ds.any fun y => eqFl y a
  | _, _, .nil, _ => rfl
  | _, _, .cons h t, f => by
    rw [List.all_cons, Bool.and_eq_true] at f
    show (eqV _ x || inV x _) = _
    rw [List.any_cons, eqFl_ok h.rd ra f.1 fa, anyEq ra fa t f.2]
end
def inSeq (a b : D) : Option Bool := (seqOf b).bind fun ds => if flatD a && ds.all flatD then some (ds.any fun y => eqFl y a) else none
def inSign : D → D → Option Bool
  | .str x, .str z => match x.cps.toList with
    | [c] => some (decide (c ∈ z.cps.toList))
    | _ => none
  | _, _ => none
def inD (a b : D) : Option Bool := orE (inSign a b) (inSeq a b)
def opIn (a b : D) : Option D := (inD a b).map .bl
def opNotIn (a b : D) : Option D := (inD a b).map fun k => .bl !k
def o_in {X : Cx} := (op_in_sign (X := X)).or op_in_seq
def o_notIn {X : Cx} := (op_notIn_sign (X := X)).or op_notIn_seq
theorem inSeq_ok {g : Gh} {K : PySem.W.Frag} {O : List Addr} {H : Hp} {x y : V} {a b : D} {k : Bool} (ra : RD g K O H x a) (rb : RD g K O H y b) (e : inSeq a b = some k) :
    ∃ p xs, y = .ref p ∧ (SqL K H p xs ∨ SqT K H p xs) ∧ flatV x = true ∧ xs.all flatV = true ∧ inV x xs = k := by
  unfold inSeq at e
  have key : ∃ p vs ds, seqOf b = some ds ∧ y = .ref p ∧ (SqL K H p vs ∨ SqT K H p vs) ∧ RVs g K O H vs ds := by
    cases rb with
    | lst h r => exact ⟨_, _, _, rfl, rfl, .inl h.sq, r⟩
    | tup h r => exact ⟨_, _, _, rfl, rfl, .inr h.sq, r⟩
    | _ => exact (nos e).elim
  obtain ⟨p, vs, ds, e1, e2, h, r⟩ := key
  rw [e1] at e
  have e : (if (flatD a && ds.all flatD) = true then some (ds.any fun y => eqFl y a) else none) = some k := e
  by_cases hc : (flatD a && ds.all flatD) = true
  · rw [if_pos hc] at e
    rw [Bool.and_eq_true] at hc
    exact ⟨p, vs, e2, h, by rw [flat_iff ra]; exact hc.1, by rw [allFlat r]; exact hc.2, by rw [anyEq ra hc.1 r hc.2]; exact Option.some.inj e⟩
  · rw [if_neg hc] at e; exact (nos e).elim
theorem inSign_ok {g : Gh} {K : PySem.W.Frag} {O : List Addr} {H : Hp} {x y : V} {a b : D} {k : Bool} (ra : RD g K O H x a) (rb : RD g K O H y b) (e : inSign a b = some k) :
    ∃ (c : Nat) (z : Str), x = .str ⟨#[c]⟩ ∧ y = .str z ∧ decide (c ∈ z.cps.toList) = k := by
  cases ra <;> cases rb <;> try exact (nos e).elim
  rename_i x z
  have e : (match x.cps.toList with | [c] => some (decide (c ∈ z.cps.toList)) | _ => none) = some k := e
  obtain ⟨⟨l⟩⟩ := x
  match l, e with
  | [], e => exact (nos e).elim
  | [c], e => exact ⟨c, z, rfl, rfl, Option.some.inj e⟩
  | _ :: _ :: _, e => exact (nos e).elim
theorem v_in {K : PySem.W.Frag} : VOp2 K (fun x y H Q => (∃ (c : Nat) (z : Str), x = .str ⟨#[c]⟩ ∧ y = .str z ∧ Q (.bl (decide (c ∈ z.cps.toList))) H) ∨ rIn K false x y H Q) opIn := fun pa O H x y a b d Q hO ra rb e q => by
  unfold opIn at e
  cases e1 : inD a b with
  | none => rw [e1] at e; exact (nos e).elim
  | some k =>
    rw [e1] at e
    cases e
    rcases orE_some e1 with e2 | e2
    · obtain ⟨c, z, h1, h2, h3⟩ := inSign_ok ra rb e2
      exact .inl ⟨c, z, h1, h2, by rw [h3]; exact q _ H (Same.refl H) (.bl _)⟩
    · obtain ⟨p, xs, h1, h2, h3, h4, h5⟩ := inSeq_ok ra rb e2
      exact .inr ⟨p, xs, h1, h2, h3, h4, by rw [h5]; exact q _ H (Same.refl H) (.bl _)⟩
theorem v_notIn {K : PySem.W.Frag} : VOp2 K (fun x y H Q => (∃ (c : Nat) (z : Str), x = .str ⟨#[c]⟩ ∧ y = .str z ∧ Q (.bl (!decide (c ∈ z.cps.toList))) H) ∨ rIn K true x y H Q) opNotIn := fun pa O H x y a b d Q hO ra rb e q => by
  unfold opNotIn at e
  cases e1 : inD a b with
  | none => rw [e1] at e; exact (nos e).elim
  | some k =>
    rw [e1] at e
    cases e
    rcases orE_some e1 with e2 | e2
    · obtain ⟨c, z, h1, h2, h3⟩ := inSign_ok ra rb e2
      exact .inl ⟨c, z, h1, h2, by rw [h3]; exact q _ H (Same.refl H) (.bl _)⟩
    · obtain ⟨p, xs, h1, h2, h3, h4, h5⟩ := inSeq_ok ra rb e2
      exact .inr ⟨p, xs, h1, h2, h3, h4, by show Q (.bl (!inV x xs)) H; rw [h5]; exact q _ H (Same.refl H) (.bl _)⟩

/-! ### subscripts, slices -/
def opIx : D → D → Option D
  | .lst xs, .int i => atI xs i
  | .tup xs, .int i => atI xs i
  | .str z, .int i => if z.length ≤ lim then (atI z.cps.toList i).map fun c => .str ⟨#[c]⟩ else none
  | _, _ => none
theorem atI_rv {g : Gh} {K : PySem.W.Frag} {O : List Addr} {H : Hp} {vs : List V} {ds : List D} {i : Int} {d : D} (r : RVs g K O H vs ds) (e : atI ds i = some d) : ∃ v, atI vs i = some v ∧ RV g K O H v d := by
  unfold atI at e ⊢
  rw [r.length]
  cases e1 : ixN ds.length i with
  | none => rw [e1] at e; exact (nos e).elim
  | some j =>
    rw [e1] at e
    exact r.get e
theorem v_ix {K : PySem.W.Frag} : VOp2 K (rIx K) opIx := fun pa O H x y a b d Q hO ra rb e q => by
  cases rb <;> try (cases ra <;> exact (nos e).elim)
  rename_i i
  cases ra <;> try exact (nos e).elim
  · rename_i z
    have e : (if z.length ≤ lim then (atI z.cps.toList i).map fun c => D.str ⟨#[c]⟩ else none) = some d := e
    by_cases hc : z.length ≤ lim
    · rw [if_pos hc] at e
      cases e1 : atI z.cps.toList i with
      | none => rw [e1] at e; exact (nos e).elim
      | some c => rw [e1] at e; cases e; exact .inr (.inr ⟨z, i, c, rfl, rfl, lim_le hc, e1, q _ H (Same.refl H) (.str _)⟩)
    · rw [if_neg hc] at e; exact (nos e).elim
  · rename_i p vs ds h r
    obtain ⟨v, h1, h2⟩ := atI_rv r e
    exact .inl ⟨p, vs, i, v, rfl, rfl, h.sq, h1, q v H (Same.refl H) h2⟩
  · rename_i p vs ds h r
    obtain ⟨v, h1, h2⟩ := atI_rv r e
    exact .inr (.inl ⟨p, vs, i, v, rfl, rfl, h.sq, h1, q v H (Same.refl H) h2⟩)
def cutD (xs : List D) (lo hi : Option Int) : List D := (xs.drop (HT.sIx xs.length 0 lo)).take (HT.sIx xs.length xs.length hi - HT.sIx xs.length 0 lo)
def slD (a : D) (lo hi : Option Int) : Option D := match a with
  | .lst xs => some (.lst (cutD xs lo hi))
  | .tup xs => some (.tup (cutD xs lo hi))
  | .str z => if z.length ≤ lim then some (.str (cutS z lo hi)) else none
  | _ => none
/-- a part of a slice -/
abbrev FO := Env' → Mu → T (Option Int × Mu)
def oNo : FO := fun _ μ => .ret (none, μ)
def intOf : D → Option Int
  | .int i => some i
  | _ => none
def oPt (f : FE) : FO := fun ρ μ => (f ρ μ).bind fun p => (T.ofO ((drf p.2 p.1).bind intOf)).bind fun i => .ret (some i, p.2)
def eSl (f : FE) (l h : FO) : FE := fun ρ μ => (f ρ μ).bind fun p => (l ρ p.2).bind fun lo => (h ρ lo.2).bind fun hi => rO ((drf hi.2 p.1).bind fun a => slD a lo.1 hi.1) hi.2
def tO (B : Bd) (K : PySem.W.Frag) (f : FO) : TO := fun σ H Q => ∃ ρ μ W b, Rep B K ρ μ W b H σ ∧
  (f ρ μ).All b (fun p b' => ∀ W' H', Ext B.g.pa W H W' H' → Rep B K ρ p.2 W' b' H' σ → Q p.1 H') B.Y
theorem intV {g : Gh} {K : PySem.W.Frag} {O : List Addr} {H : Hp} {v : V} {d : D} {i : Int} (r : RD g K O H v d) (e : intOf d = some i) : v = .int i := by
  cases r <;> first | exact (nos e).elim | (cases e; rfl)
section
variable {X : Cx} {B : Bd} {e : Expr} {lo hi : Option Expr} {pos p2 : Pos} {f : FE} {l h : FO}
theorem POimp {o : Option Expr} {t t' : TO} (h : PO X o t) (k : ∀ σ H Q, t' σ H Q → t σ H Q) : PO X o t' := ⟨fun pins s σ H Q I w => h.run pins s σ H Q I (k σ H Q w)⟩
theorem so_no : PO X none (tO B X.K oNo) := POimp po_none fun σ H Q ⟨ρ, μ, W, n, R, h⟩ => h W H .refl R
theorem so_pt (he : PE X e (tM B X.K f)) : PO X (some e) (tO B X.K (oPt f)) := POimp (po_some he) fun σ H Q ⟨ρ, μ, W, n, R, h⟩ => ⟨ρ, μ, W, n, R, (T.All.bind h).mono fun p n1 h1 v1 W1 H1 k1 R1 r1 => by
  obtain ⟨i, e, h2⟩ := T.All.ofO (T.All.bind h1)
  obtain ⟨d, e1, e2⟩ := bind_some e
  exact ⟨i, intV (drf_rd R1.st r1 e1) e2, h2 W1 H1 k1 R1⟩⟩
def sl_all := ((sl_list (X := X)).or sl_tupA).or sl_str
theorem cut_rvs {g : Gh} {K : PySem.W.Frag} {O : List Addr} {H : Hp} {vs : List V} {ds : List D} (r : RVs g K O H vs ds) (lo hi : Option Int) : RVs g K O H (cutV vs lo hi) (cutD ds lo hi) := by
  unfold cutV cutD
  rw [r.length]
  exact (r.drop _).take _
theorem cutD_whole {ds : List D} {lo hi : Option Int} (z : HT.sIx ds.length 0 lo = 0 ∧ HT.sIx ds.length ds.length hi = ds.length) : cutD ds lo hi = ds := by
  unfold cutD
  rw [z.1, z.2, Nat.sub_zero, List.drop_zero, List.take_length]
theorem se_sl (he : PE X e (tM B X.K f)) (hl : PO X lo (tO B X.K l)) (hh : PO X hi (tO B X.K h)) : PE X (.Subscript e (.Slice lo hi none p2) pos) (tM B X.K (eSl f l h)) :=
  PEimp (pe_slice sl_all he hl hh) fun σ H Q ⟨ρ, μ, W, n, R, h⟩ => ⟨ρ, μ, W, n, R, (T.All.bind h).mono fun p n1 h1 v1 W1 H1 k1 R1 r1 => ⟨ρ, p.2, W1, n1, R1, (T.All.bind h1).mono fun lo n2 h2 W2 H2 k2 R2 => ⟨ρ, lo.2, W2, n2, R2, (T.All.bind h2).mono fun hi n3 h3 W3 H3 k3 R3 => by
    obtain ⟨d, e, q⟩ := rO_all h3
    obtain ⟨a, ea, e⟩ := bind_some e
    have r3 := drf_rd R3.st ((r1.ext R1.st k2).ext R2.st k3) ea
    have kk := (k1.trans k2).trans k3
    have hO := R3.st.there
    cases r3 with
    | lst h r =>
      cases e
      exact .inl (.inl ⟨_, _, rfl, h.sq, fun p hp => q _ _ _ (kk.trans (.same (same_new hp))) (R3.same (same_new hp)) (.t (new_lst hO hp (cut_rvs r lo.1 hi.1)))⟩)
    | @tup a vs ds h r =>
      cases e
      refine .inl (.inr ⟨_, _, rfl, h.sq, fun z => ?_, fun z p hp => q _ _ _ (kk.trans (.same (same_new hp))) (R3.same (same_new hp)) (.t (new_tup hO hp (cut_rvs r lo.1 hi.1)))⟩)
      rw [r.length] at z
      have e2 := cutD_whole z
      refine q _ W3 H3 kk R3 ?_
      rw [e2]
      exact .t (.tup h r)
    | str z =>
      have e : (if z.length ≤ lim then some (D.str (cutS z lo.1 hi.1)) else none) = some d := e
      by_cases hc : z.length ≤ lim
      · rw [if_pos hc] at e; cases e; exact .inr ⟨z, rfl, lim_le hc, q _ W3 H3 kk R3 (.t (.str _))⟩
      · rw [if_neg hc] at e; exact (nos e).elim
    | _ => exact (nos e).elim⟩⟩⟩
end

/-! ### isinstance -/
def tyOf : D → Option Ty
  | .non => some .none | .bl _ => some .bool | .int _ => some .int | .str _ => some .str | .lst _ => some .list | .tup _ => some .tuple | .dic _ _ => some .dict
  | _ => none
def isiTy (a b : Ty) : Bool := decide (a = b) || (decide (a = .bool) && decide (b = .int))
theorem kit_all (a b : Ty) : kitB a.name b.name = some (isiTy a b) := by cases a <;> cases b <;> decide +kernel
def tysOf : List D → Option (List Ty)
  | [] => some []
  | .ty t :: r => (tysOf r).map fun l => t :: l
  | _ :: _ => none
def isi2 (x : D) : D → Option D
  | .ty c => (tyOf x).map fun t => .bl (isiTy t c)
  | .tup cs => (tyOf x).bind fun t => (tysOf cs).map fun l => .bl (l.any fun c => isiTy t c)
  | _ => none
def opIsi : List D → Option D
  | [x, c] => isi2 x c
  | _ => none
theorem tyX_of {g : Gh} {K : PySem.W.Frag} {O : List Addr} {H : Hp} {x : V} {a : D} {t : Ty} (r : RD g K O H x a) (e : tyOf a = some t) : TyX K H x (.type t.name) := by
  cases r with
  | non => cases e; exact .base .non
  | bl b => cases e; exact .base (.bl b)
  | int b => cases e; exact .base (.int b)
  | str b => cases e; exact .base (.str b)
  | lst h r => cases e; exact .base (.lst h.1)
  | tup h r =>
    cases e
    rcases h with ⟨h, _⟩ | ⟨o, its, n, h1, h2, _⟩
    · exact .base (.tup h)
    · exact .kTuple h1 h2
  | dic h n l r =>
    cases e
    rcases h with h | ⟨o, h⟩
    · exact .base (.dK h)
    · exact .fDict h
  | _ => exact (nos e).elim
theorem tys_of {g : Gh} {K : PySem.W.Frag} {O : List Addr} {H : Hp} : ∀ {cs : List D} {vs : List V} {l : List Ty}, RVs g K O H vs cs → tysOf cs = some l → vs = l.map fun t => V.ty t.name
  | [], _, _, r, e => by cases r; cases e; rfl
  | c :: cs, _, l, r, e => by
    cases r with
    | cons r1 r2 =>
      cases r1 <;> try exact (nos e).elim
      rename_i t
      have e : (tysOf cs).map (fun l => t :: l) = some l := e
      cases e1 : tysOf cs with
      | none => rw [e1] at e; exact (nos e).elim
      | some l' => rw [e1] at e; cases e; rw [tys_of r2 e1]; rfl
theorem kitAny_all {K : PySem.W.Frag} (t : Ty) : ∀ l : List Ty, PySem.W.kitAny K (.type t.name) (l.map fun c => Value.type c.name) = some (l.any fun c => isiTy t c)
  | [] => rfl
  | c :: l => kitAny_cons (kit_ty (kit_all t c)) (fun e => by rw [List.any_cons, e, Bool.false_or]; exact kitAny_all t l) fun e => by rw [List.any_cons, e, Bool.true_or]
theorem cls_all : ∀ l : List Ty, Paired ClsV (l.map fun t => V.ty t.name) (l.map fun t => Value.type t.name)
  | [] => .nil
  | t :: l => .cons (.ty _) (cls_all l)
def c_isi {X : Cx} := (call_isi (X := X)).or (call_isiT.or call_isiK)
theorem vc_isi {K : PySem.W.Frag} : VCall K (fun xs H Q => rIsi K xs H Q ∨ rIsiT K xs H Q ∨ rIsiK K xs H Q) opIsi := fun pa O H xs as d Q hO rs e q => by
  cases rs with
  | nil => exact (nos e).elim
  | @cons _ _ x _ r1 r2 =>
  cases r2 with
  | nil => exact (nos e).elim
  | @cons _ _ c _ r2 r3 =>
  cases r3 with
  | cons _ _ => exact (nos e).elim
  | nil =>
    replace e : isi2 x c = some d := e
    cases r2 <;> try exact (nos e).elim
    · rename_i c
      have e : (tyOf x).map (fun t => D.bl (isiTy t c)) = some d := e
      cases e1 : tyOf x with
      | none => rw [e1] at e; exact (nos e).elim
      | some t => rw [e1] at e; cases e; exact .inl ⟨_, _, .type t.name, .type c.name, _, rfl, .ty _, tyX_of r1 e1, kit_ty (kit_all t c), q _ H (Same.refl H) (.bl _)⟩
    · rename_i p vs cs h r
      have e : ((tyOf x).bind fun t => (tysOf cs).map fun l => D.bl (l.any fun c => isiTy t c)) = some d := e
      cases e1 : tyOf x with
      | none => rw [e1] at e; exact (nos e).elim
      | some t =>
        rw [e1] at e
        have e : (tysOf cs).map (fun l => D.bl (l.any fun c => isiTy t c)) = some d := e
        cases e2 : tysOf cs with
        | none => rw [e2] at e; exact (nos e).elim
        | some l =>
          rw [e2] at e
          cases e
          have ev := tys_of r e2
          subst ev
          rcases h with ⟨h, _⟩ | ⟨o, its, n, h1, h2, h3, _, rv⟩
          · exact .inr (.inl ⟨_, p, _, .type t.name, _, _, rfl, h, cls_all l, tyX_of r1 e1, kitAny_all t l, q _ H (Same.refl H) (.bl _)⟩)
          · have eu := ClsV.all (cls_all l) rv
            obtain ⟨oc, od, dt, sl⟩ := o
            simp only at h2 h3
            subst h2 h3
            have ei : its = (l.map fun t => Value.type t.name).toArray := by rw [← eu]
            subst ei
            exact .inr (.inr ⟨_, p, od, _, n, sl, .type t.name, _, rfl, h1, tyX_of r1 e1, kitAny_all t l, q _ H (Same.refl H) (.bl _)⟩)

/-! ### len, all, any, int, abs, list, tuple -/
def lenD : D → Option Nat
  | .str z => if z.length ≤ lim then some z.length else none
  | .lst xs => some xs.length
  | .tup xs => some xs.length
  | _ => none
def op1 (g : D → Option D) : List D → Option D
  | [x] => g x
  | _ => none
def opLen : List D → Option D := op1 fun x => (lenD x).map fun n => .int (n : Int)
theorem vc_one {K : PySem.W.Frag} {r : List V → Hp → VK → Prop} {g : D → Option D} (h : ∀ (g0 : Gh) (O : List Addr) (H : Hp) (x : V) (a d : D) (Q : VK), (∀ q ∈ O, H q ≠ none) → RD g0 K O H x a → g a = some d →
    (∀ v H', Same H H' → RV g0 K O H' v d → Q v H') → r [x] H Q) : VCall K r (op1 g) := fun pa O H xs as d Q hO rs e q => by
  cases rs with
  | nil => exact (nos e).elim
  | cons r1 r2 =>
    cases r2 with
    | nil => exact h pa O H _ _ d Q hO r1 e q
    | cons _ _ => exact (nos e).elim
theorem vc_len {K : PySem.W.Frag} : VCall K (fun xs H Q => ∃ x n, xs = [x] ∧ LenV K x H n ∧ Q (.int n) H) opLen := vc_one fun pa O H x a d Q hO ra e q => by
  cases e1 : lenD a with
  | none => rw [e1] at e; exact (nos e).elim
  | some n =>
    rw [e1] at e
    cases e
    refine ⟨x, n, rfl, ?_, q _ H (Same.refl H) (.int _)⟩
    cases ra with
    | str z =>
      have e1 : (if z.length ≤ lim then some z.length else none) = some n := e1
      by_cases hc : z.length ≤ lim
      · rw [if_pos hc] at e1; exact ⟨lim_le hc, (Option.some.inj e1).symm⟩
      · rw [if_neg hc] at e1; exact (nos e1).elim
    | lst h r => exact .inl ⟨_, h.sq, by rw [r.length]; exact (Option.some.inj e1).symm⟩
    | tup h r => exact .inr ⟨_, h.sq, by rw [r.length]; exact (Option.some.inj e1).symm⟩
    | _ => exact (nos e1).elim
def blsOf : List D → Option (List Bool)
  | [] => some []
  | .bl b :: r => (blsOf r).map fun l => b :: l
  | _ :: _ => none
theorem bls_of {g : Gh} {K : PySem.W.Frag} {O : List Addr} {H : Hp} : ∀ {ds : List D} {vs : List V} {l : List Bool}, RVs g K O H vs ds → blsOf ds = some l → vs = l.map V.bl
  | [], _, _, r, e => by cases r; cases e; rfl
  | c :: cs, _, l, r, e => by
    cases r with
    | cons r1 r2 =>
      cases r1 <;> try exact (nos e).elim
      rename_i t
      have e : (blsOf cs).map (fun l => t :: l) = some l := e
      cases e1 : blsOf cs with
      | none => rw [e1] at e; exact (nos e).elim
      | some l' => rw [e1] at e; cases e; rw [bls_of r2 e1]; rfl
def lstOf : D → Option (List D)
  | .lst xs => some xs
  | _ => none
def opAll : List D → Option D := op1 fun x => (lstOf x).bind fun ds => (blsOf ds).map fun l => .bl (l.all id)
def opAny : List D → Option D := op1 fun x => (lstOf x).bind fun ds => (blsOf ds).map fun l => .bl (l.any id)
theorem bls_key {g : Gh} {K : PySem.W.Frag} {O : List Addr} {H : Hp} {x : V} {a d : D} {u : List Bool → Bool} (ra : RD g K O H x a) (e : ((lstOf a).bind fun ds => (blsOf ds).map fun l => D.bl (u l)) = some d) :
    ∃ (p : Addr) (l : List Bool), x = .ref p ∧ SqL K H p (l.map V.bl) ∧ d = .bl (u l) := by
  cases ra <;> try exact (nos e).elim
  rename_i p vs ds h r
  have e : (blsOf ds).map (fun l => D.bl (u l)) = some d := e
  cases e1 : blsOf ds with
  | none => rw [e1] at e; exact (nos e).elim
  | some l =>
    rw [e1] at e
    cases e
    have ev := bls_of r e1
    subst ev
    exact ⟨p, l, rfl, h.sq, rfl⟩
theorem vc_all {K : PySem.W.Frag} : VCall K (rAll K) opAll := vc_one fun pa O H x a d Q hO ra e q => by
  obtain ⟨p, l, rfl, h, rfl⟩ := bls_key (u := fun l => l.all id) ra e
  exact ⟨p, l, rfl, h, q _ H (Same.refl H) (.bl _)⟩
theorem vc_any {K : PySem.W.Frag} : VCall K (rAny K) opAny := vc_one fun pa O H x a d Q hO ra e q => by
  obtain ⟨p, l, rfl, h, rfl⟩ := bls_key (u := fun l => l.any id) ra e
  exact ⟨p, l, rfl, h, q _ H (Same.refl H) (.bl _)⟩
def opInt : List D → Option D := op1 fun x => match x with
  | .int i => some (.int i)
  | .bl k => some (.int (if k then 1 else 0))
  | _ => none
theorem vc_int {K : PySem.W.Frag} : VCall K (fun xs H Q => (∃ i, xs = [.int i] ∧ Q (.int i) H) ∨ ∃ k, xs = [.bl k] ∧ Q (.int (if k then 1 else 0)) H) opInt := vc_one fun pa O H x a d Q hO ra e q => by
  cases ra <;> try exact (nos e).elim
  · cases e; exact .inr ⟨_, rfl, q _ H (Same.refl H) (.int _)⟩
  · cases e; exact .inl ⟨_, rfl, q _ H (Same.refl H) (.int _)⟩
def opAbs : List D → Option D := op1 fun x => match x with
  | .int i => some (.int (if i < 0 then -i else i))
  | _ => none
theorem vc_abs {K : PySem.W.Frag} : VCall K (fun xs H Q => ∃ i, xs = [.int i] ∧ Q (.int (if i < 0 then -i else i)) H) opAbs := vc_one fun pa O H x a d Q hO ra e q => by
  cases ra <;> try exact (nos e).elim
  cases e; exact ⟨_, rfl, q _ H (Same.refl H) (.int _)⟩
def opList : List D → Option D := op1 fun x => (seqOf x).map .lst
theorem vc_list {K : PySem.W.Frag} : VCall K (fun xs H Q => ∃ p ys, xs = [.ref p] ∧ (SqL K H p ys ∨ SqT K H p ys) ∧ ∀ l, H l = none → Q (.ref l) (upd H l (.lst ys))) opList := vc_one fun pa O H x a d Q hO ra e q => by
  cases ra <;> try exact (nos e).elim
  · rename_i p vs ds h r
    cases e; exact ⟨p, vs, rfl, .inl h.sq, fun z hz => q _ _ (same_new hz) (new_lst hO hz r)⟩
  · rename_i p vs ds h r
    cases e; exact ⟨p, vs, rfl, .inr h.sq, fun z hz => q _ _ (same_new hz) (new_lst hO hz r)⟩
def opTuple : List D → Option D := op1 fun x => (seqOf x).map .tup
theorem vc_tuple {K : PySem.W.Frag} : VCall K (fun xs H Q => ∃ p ys, xs = [.ref p] ∧ ((SqL K H p ys ∧ ∀ l, H l = none → Q (.ref l) (upd H l (.tup ys))) ∨ (SqT K H p ys ∧ Q (.ref p) H))) opTuple := vc_one fun pa O H x a d Q hO ra e q => by
  cases ra <;> try exact (nos e).elim
  · rename_i p vs ds h r
    cases e; exact ⟨p, vs, rfl, .inl ⟨h.sq, fun z hz => q _ _ (same_new hz) (new_tup hO hz r)⟩⟩
  · rename_i p vs ds h r
    cases e; exact ⟨p, vs, rfl, .inr ⟨h.sq, q _ H (Same.refl H) (.tup h r)⟩⟩
end Y

set_option Elab.async false
set_option linter.all false
set_option maxRecDepth 100000
set_option maxHeartbeats 4000000
/-! Y6: calls of the text's own defs. -/
namespace Y
open PySem PySem.Spec PyProof.Rows L2

structure Rm (k : Nat) (A : Around) : Prop where
  room : Room k A
  gd : A.guards = some []
theorem Rm.mono {j k : Nat} {A : Around} (r : Rm k A) (h : j ≤ k) : Rm j A := ⟨r.room.mono h, r.gd⟩

/-- an error's data as it lies -/
structure ExAt (g : Gh) (K : PySem.W.Frag) (H0 : Hp) (O0 : List Addr) (d : Addr) (fs : List Str) (ds : List D) (H' : Hp) : Prop where
  at_ : ∃ vs, H' d = some (.xd (fs.zip vs)) ∧ fs.length = vs.length ∧ RVs g K O0 H' vs ds
  new : ¬ NT H0 d
/-- what a call keeps: all but the store, the pen, tables -/
structure PK (g : Gh) (W : Ow) (b' : Nat) (H H' : Hp) : Prop where
  kp : ∀ a o, H a = some o → some a ∉ W.c → g.pa ≠ some a → nTb o → H' a = some o
  pen : PenOk g.pa W H' b'
  al : ∀ a, NT H a → NT H' a
  tb : LamX.Tabs g.tb H'
def pureW (O : List Addr) : Ow := ⟨O, []⟩
theorem PK.all {g : Gh} {O : List Addr} {b' : Nat} {H H' : Hp} (p : PK g (pureW O) b' H H') : Kp g.pa H H' := fun a o h n t => p.kp a o h (fun z => nomatch z) n t
/-- the promise of a def that is the function F of data -/
def spD (CL : Nat → Addr) (K : PySem.W.Frag) (n : Nat) (F : List D → T D) : Sp := fun vs H Q E => vs.length = n ∧ ∃ (g : Gh) (O : List Addr) (b : Nat) (ds : List D), g.cl = CL ∧ (∀ a ∈ O, H a ≠ none) ∧ (∀ a ∈ O, ∀ ps, H a ≠ some (.tbl ps)) ∧ PenOk g.pa (pureW O) H b ∧ LamX.Tabs g.tb H ∧ RVs g K O H vs ds ∧
  (F ds).All b (fun d b' => ∀ v H', PK g (pureW O) b' H H' → RV g K O H' v d → Q v H')
    (fun C fs es b' => ∀ d H', PK g (pureW O) b' H H' → ExAt g K H O d fs es H' → E (.ref (g.cl C)) (some d) H')
/-- the promise of a def that is the function F of data and the store -/
def spS (CL : Nat → Addr) (K : PySem.W.Frag) (n : Nat) (F : List Vd → Mu → T (Vd × Mu)) : Sp := fun vs H Q E => vs.length = n ∧ ∃ (g : Gh) (W : Ow) (μ : Mu) (b : Nat) (xs : List Vd), g.cl = CL ∧ StOk g K W μ b H ∧ RWs g K W H vs xs ∧
  (F xs μ).All b (fun p b' => ∀ v W' H', Ext g.pa W H W' H' → StOk g K W' p.2 b' H' → (∀ a ∈ W.o, a ∈ W'.o) → RW g K W' H' v p.1 → Q v H')
    (fun C fs es b' => ∀ d H', PK g W b' H H' → ExAt g K H W.o d fs es H' → E (.ref (g.cl C)) (some d) H')

/-- as FnOk, with the guards known -/
structure FnG (P : Program) (w : World) (K : PySem.W.Frag) (mg : Str → Option Value) (base : Heap) (k : Nat) (f : Addr) (fd : FuncData) (ps : List Str) (sp : Sp) : Prop where
  len : ∀ vs H Q E, sp vs H Q E → vs.length = ps.length
  run : ∀ (A : Around) (outer : List Env) (s : Shared) (H : Hp) (args : Args) (us : List Value) (vs : List V) (Q : VK) (E : XK), Rm k A → Env0 P w K mg base A outer s H → BindsTo s fd args (ps.zip us) → Vals vs us → sp vs H Q E →
    codeAny (model P w) A (.call (.ref f) args) (CR (L2.CX P w) outer P w H s Q E) s
theorem FnG.mono {P : Program} {w : World} {K : PySem.W.Frag} {mg : Str → Option Value} {base : Heap} {j k : Nat} {f : Addr} {fd : FuncData} {ps : List Str} {sp : Sp} (F : FnG P w K mg base j f fd ps sp) (h : j ≤ k) : FnG P w K mg base k f fd ps sp :=
  ⟨F.len, fun A o s H a us vs Q E hr => F.run A o s H a us vs Q E (hr.mono h)⟩

section
variable {X : Cx} {k : Nat} {f : Addr} {fd : FuncData} {ps : List Str} {sp : Sp} {E : XK}
theorem runG {pins : List (Addr × Obj)} {σ : L2.St} {H : Hp} {s : Shared} {Q : VK} {us : List Value} {vs : List V} (F : FnG X.prog X.w X.K X.mg X.base k f fd ps sp) (hr : Rm k X.A) (hb : Binds X.K fd ps []) (hx : Passes (L2.CX X.prog X.w) X E)
    (I : Inv X pins σ H s) (r : Vals vs us) (h : sp vs H Q E) : wpAny (model X.prog X.w) X.A (call (.ref f) us) (EP X pins σ Q) X.xe s := by
  have hl : us.length = ps.length := r.length.symm.trans (F.len _ _ _ _ h)
  have hb2 := hb s us I.kIn (by rw [List.append_nil]; exact hl)
  rw [List.append_nil] at hb2
  refine wpAny_call (codeAny_mono (F.run X.A X.stack s H ⟨us, []⟩ us vs Q E hr I.env0 hb2 r h) fun res s' got => ?_)
  match res, got with
  | .error e, got => exact hx pins σ H s e s' I got
  | .ok (.ret u), got => exact I.after got
  | .ok .next, got => exact got.elim
  | .ok .brk, got => exact got.elim
  | .ok .cont, got => exact got.elim
theorem pe_callG {e : Expr} {es : List Expr} {x : Str} {p pos : Pos} {t : TA} (F : FnG X.prog X.w X.K X.mg X.base k f fd ps sp) (hr : Rm k X.A) (hm : X.mg x = some (.ref f)) (hk : PySem.W.keepIn X.K (.ref f) = true) (hb : Binds X.K fd ps []) (hx : Passes (L2.CX X.prog X.w) X E)
    (ha : PA X (e :: es) t) (hg : Gl X x := by rfl) (hdb : (x == ("__debug__" : Str)) = false := by decide) (he : starEach (e :: es) X.env = (false, eval e X.env) :: starEach es X.env := by rfl) (hpl : (backTo pos (starEach es X.env)).any (·.1) = false := by rfl) :
    PE X (.Call (.Name x p) (e :: es) [] pos) (fun σ H Q => t σ H fun vs H1 => sp vs H1 Q E) := by
  refine ⟨fun pins s σ H Q I h => wpAny_Call_Name_kw (ld_glob I hg hm ?_ hdb)⟩
  exact PySem.W.callWith_K (h₀ := X.base) I.ok.mod.kin hk (thn (ha.run pos pins s σ H _ I h) fun us s1 ⟨vs, H1, I1, r, q⟩ => ⟨I1.kIn, runG F hr hb hx I1 r q⟩) he hpl
end

/-- what an error that leaves a body may be assumed to have kept -/
def LetE (X : Cx) (B : Bd) (E : XK) : Prop := ∀ (C : Nat) (fs : List Str) (ds : List D) (b : Nat) (d : Addr) (H' : Hp), B.Y C fs ds b → PK B.g B.W0 b B.H0 H' → ExAt B.g X.K B.H0 B.W0.o d fs ds H' → E (.ref (B.g.cl C)) (some d) H'
/-- which errors may leave -/
def Lets (X : Cx) (B : Bd) : Prop := ∃ E : XK, Passes (L2.CX X.prog X.w) X E ∧ LetE X B E
/-- errors that leave a def's body, raised in it or in what it calls -/
def LetsT (X : Cx) (B : Bd) : Prop := ∃ E : XK, Takes X (fun cls d _ H => E cls d H) ∧ LetE X B E
theorem LetsT.lets {X : Cx} {B : Bd} (h : LetsT X B) : Lets X B := by
  obtain ⟨E, tk, hE⟩ := h
  exact ⟨E, passes_call tk (fun _ _ _ _ h => h), hE⟩
theorem Lets.no {X : Cx} {B : Bd} (h : ∀ C fs ds b, ¬ B.Y C fs ds b) : Lets X B := ⟨E0, passL, fun C fs ds b _ _ y => (h C fs ds b y).elim⟩

/-- a def of the text, known by its name -/
structure Fn (P : Program) (w : World) (K : PySem.W.Frag) (mg : Str → Option Value) (base : Heap) (CL : Nat → Addr) (k : Nat) (x : Str) (n : Nat) (F : List D → T D) : Prop where
  h : ∃ (f : Addr) (fd : FuncData) (ps : List Str), mg x = some (.ref f) ∧ PySem.W.keepIn K (.ref f) = true ∧ Binds K fd ps [] ∧ ps.length = n ∧ FnG P w K mg base k f fd ps (spD CL K n F)
structure FnS (P : Program) (w : World) (K : PySem.W.Frag) (mg : Str → Option Value) (base : Heap) (CL : Nat → Addr) (k : Nat) (x : Str) (n : Nat) (F : List Vd → Mu → T (Vd × Mu)) : Prop where
  h : ∃ (f : Addr) (fd : FuncData) (ps : List Str), mg x = some (.ref f) ∧ PySem.W.keepIn K (.ref f) = true ∧ Binds K fd ps [] ∧ ps.length = n ∧ FnG P w K mg base k f fd ps (spS CL K n F)
/-- F says nothing of other numbers of arguments -/
def Ar (n : Nat) (F : List D → T D) : Prop := ∀ ds, ds.length ≠ n → F ds = .bad
def ArS (n : Nat) (F : List Vd → Mu → T (Vd × Mu)) : Prop := ∀ ds μ, ds.length ≠ n → F ds μ = .bad
section
variable {B : Bd} {K : PySem.W.Frag} {ρ : Env'} {μ μ' : Mu} {W W' : Ow} {b b' : Nat} {H H' : Hp} {σ : L2.St}
theorem PenOk.pure (p : PenOk B.g.pa W H b) : PenOk B.g.pa (pureW W.o) H b := fun a e => by
  obtain ⟨m, _, q⟩ := p a e
  exact ⟨m, (fun z => nomatch z), q⟩
/-- behind a call of a function of data -/
theorem Rep.pure (R : Rep B K ρ μ W b H σ) (p : PK B.g (pureW W.o) b' H H') : Rep B K ρ μ W b' H' σ ∧ Ext B.g.pa W H W H' := by
  have e : Ext B.g.pa W H W H' := Ext.pure p.all p.al
  exact ⟨R.go e (R.st.pure p.all p.pen (fun a ha => (p.al a (R.st.NTo a ha)).ne) p.tb) R.mono, e⟩
theorem Rep.out0 (R : Rep B K ρ μ W b H σ) (kp : ∀ a o, H a = some o → some a ∉ W.c → B.g.pa ≠ some a → nTb o → H' a = some o) (pen : ∀ a, B.g.pa = some a → ∃ (c : Addr) (t r : Int) (cells : List Int), H' a = some (.lst [.ref c, .int t, .int r]) ∧ H' c = some (.lst (cells.map V.int)) ∧ c ∉ W.o ∧ 0 ≤ t ∧ t + (b' : Int) ≤ 4194304 ∧ 0 ≤ r)
    (al : ∀ a, NT H a → NT H' a) (tb : LamX.Tabs B.g.tb H') : PK B.g B.W0 b' B.H0 H' := by
  refine ⟨fun a o h n np nt => kp a o (R.ext.kp a o h n np nt) (fun z => ?_) np nt, fun a e => ?_, fun a h => al a (R.ext.al a h), tb⟩
  · obtain ⟨i, hi⟩ := mem_get z
    rcases R.ext.hc i a hi with q | ⟨_, q⟩
    · exact n (get_mem q)
    · exact q ⟨_, h, nt⟩
  · obtain ⟨c, t, r, cells, h1, h2, h3, h4⟩ := pen a e
    exact ⟨(R.pen0 a e).1, (R.pen0 a e).2, c, t, r, cells, h1, h2, fun z => h3 (R.mono c z), h4⟩
/-- an error from a call of a function of data, seen from the entry -/
theorem Rep.outP (R : Rep B K ρ μ W b H σ) (p : PK B.g (pureW W.o) b' H H') : PK B.g B.W0 b' B.H0 H' :=
  R.out0 (fun a o h _ n t => p.all a o h n t) (fun a e => (p.pen a e).2.2) p.al p.tb
theorem Rep.outS (R : Rep B K ρ μ W b H σ) (p : PK B.g W b' H H') : PK B.g B.W0 b' B.H0 H' :=
  R.out0 p.kp (fun a e => (p.pen a e).2.2) p.al p.tb
theorem Rep.exat (R : Rep B K ρ μ W b H σ) {d : Addr} {fs : List Str} {es : List D} (x : ExAt B.g K H W.o d fs es H') : ExAt B.g K B.H0 B.W0.o d fs es H' := by
  obtain ⟨⟨ws, e1, e2, e3⟩, e4⟩ := x
  exact ⟨⟨ws, e1, e2, e3.keep .refl (hs_sub R.mono)⟩, fun h => e4 (R.ext.al d h)⟩
end
section
variable {X : Cx} {B : Bd} {k j : Nat} {x : Str} {n : Nat} {e : Expr} {es : List Expr} {fa : FA} {p pos : Pos}
theorem call_imp {F : List D → T D} {CL : Nat → Addr} {E : XK} (hcl : B.g.cl = CL) (hx : LetE X B E) (hn : Ar n F) (σ : L2.St) (H : Hp) (Q : VK) (h : tM B X.K (eCallF F fa) σ H Q) : tL B X.K fa σ H fun vs H1 => spD CL X.K n F vs H1 Q E := by
  obtain ⟨ρ, μ, W, b, R, h⟩ := h
  refine ⟨ρ, μ, W, b, R, (T.All.bind h).mono fun p n1 h1 vs W1 H1 k1 R1 r1 => ?_⟩
  obtain ⟨ds, e, h2⟩ := T.All.ofO (T.All.bind h1)
  have r1 := ts_rv r1 e
  have h2 := T.All.bind h2
  by_cases z : ds.length = n
  · exact ⟨r1.length.trans z, B.g, W1.o, n1, ds, hcl, R1.st.there, R1.st.nt, R1.st.pen.pure, R1.st.tabs, r1, T.All.mono2 h2 (fun d b' q v H' pk rv => by
      obtain ⟨R2, e2⟩ := R1.pure pk
      exact q v W1 H' (k1.trans e2) R2 (.t rv)) fun C fs es b' y d H' pk ex => hx C fs es b' d H' y (R1.outP pk) (R1.exat ex)⟩
  · rw [hn ds z] at h2; exact h2.elim
theorem callS_imp {F : List Vd → Mu → T (Vd × Mu)} {CL : Nat → Addr} {E : XK} (hcl : B.g.cl = CL) (hx : LetE X B E) (hn : ArS n F) (σ : L2.St) (H : Hp) (Q : VK) (h : tM B X.K (eCallS F fa) σ H Q) : tL B X.K fa σ H fun vs H1 => spS CL X.K n F vs H1 Q E := by
  obtain ⟨ρ, μ, W, b, R, h⟩ := h
  refine ⟨ρ, μ, W, b, R, (T.All.bind h).mono fun p n1 h1 vs W1 H1 k1 R1 r1 => ?_⟩
  by_cases z : p.1.length = n
  · exact ⟨r1.length.trans z, B.g, W1, p.2, n1, p.1, hcl, R1.st, r1, T.All.mono2 h1 (fun q b' hq v W' H' ex st mo rv => hq v W' H' (k1.trans ex) (R1.go ex st fun a h => mo a (R1.mono a h)) rv) fun C fs es b' y d H' pk ex => hx C fs es b' d H' y (R1.outS pk) (R1.exat ex)⟩
  · rw [hn p.1 p.2 z] at h1; exact h1.elim
theorem se_call {F : List D → T D} {CL : Nat → Addr} (h : Fn X.prog X.w X.K X.mg X.base CL j x n F) (hn : Ar n F) (hr : Rm k X.A) (hj : j ≤ k) (hx : Lets X B) (hcl : B.g.cl = CL) (ha : PA X (e :: es) (tL B X.K fa)) (hg : Gl X x := by rfl) (hdb : (x == ("__debug__" : Str)) = false := by decide)
    (he : starEach (e :: es) X.env = (false, eval e X.env) :: starEach es X.env := by rfl) (hpl : (backTo pos (starEach es X.env)).any (·.1) = false := by rfl) : PE X (.Call (.Name x p) (e :: es) [] pos) (tM B X.K (eCallF F fa)) := by
  obtain ⟨f, fd, ps, h1, h2, h3, h4, h5⟩ := h.h
  obtain ⟨E, hp, hE⟩ := hx
  exact PEimp (pe_callG (h5.mono hj) hr h1 h2 h3 hp ha hg hdb he hpl) (call_imp hcl hE hn)
theorem se_callS {F : List Vd → Mu → T (Vd × Mu)} {CL : Nat → Addr} (h : FnS X.prog X.w X.K X.mg X.base CL j x n F) (hn : ArS n F) (hr : Rm k X.A) (hj : j ≤ k) (hx : Lets X B) (hcl : B.g.cl = CL) (ha : PA X (e :: es) (tL B X.K fa)) (hg : Gl X x := by rfl) (hdb : (x == ("__debug__" : Str)) = false := by decide)
    (he : starEach (e :: es) X.env = (false, eval e X.env) :: starEach es X.env := by rfl) (hpl : (backTo pos (starEach es X.env)).any (·.1) = false := by rfl) : PE X (.Call (.Name x p) (e :: es) [] pos) (tM B X.K (eCallS F fa)) := by
  obtain ⟨f, fd, ps, h1, h2, h3, h4, h5⟩ := h.h
  obtain ⟨E, hp, hE⟩ := hx
  exact PEimp (pe_callG (h5.mono hj) hr h1 h2 h3 hp ha hg hdb he hpl) (callS_imp hcl hE hn)
end
end Y

set_option Elab.async false
set_option linter.all false
set_option maxRecDepth 100000
set_option maxHeartbeats 1000000
/-! Y7: what is walked, comprehensions. -/
namespace Y
open PySem PySem.Spec PyProof.Rows L2

/-- from (O, H) on to (O', H'), for trees -/
structure Ek (O : List Addr) (H : Hp) (O' : List Addr) (H' : Hp) : Prop where
  kp : KpO O H H'
  hs : ∀ a ∈ O', a ∈ O ∨ ¬ NT H a
  al : ∀ a, NT H a → NT H' a
theorem Ek.refl {O : List Addr} {H : Hp} : Ek O H O H := ⟨.refl, fun _ h => .inl h, fun _ h => h⟩
theorem Ek.trans {O O' O'' : List Addr} {H H' H'' : Hp} (a : Ek O H O' H') (b : Ek O' H' O'' H'') : Ek O H O'' H'' := by
  refine ⟨fun p o e n t => b.kp p o (a.kp p o e n t) (fun z => ?_) t, fun p hp => ?_, fun p h => b.al p (a.al p h)⟩
  · rcases a.hs p z with q | q
    · exact n q
    · exact q ⟨_, e, t⟩
  · rcases b.hs p hp with q | q
    · exact a.hs p q
    · exact .inr fun h => q (a.al p h)
theorem Ek.same {O : List Addr} {H H' : Hp} (s : Same H H') : Ek O H O H' := ⟨.of s, fun _ h => .inl h, Same.nt s⟩
theorem StOk.ek {g : Gh} {K : PySem.W.Frag} {W W' : Ow} {μ : Mu} {b : Nat} {H H' : Hp} (s : StOk g K W μ b H) (e : Ext g.pa W H W' H') : Ek W.o H W'.o H' := ⟨s.kO e, e.hs, e.al⟩
/-! ### what an iterator yields -/
structure Yl (g : Gh) (K : PySem.W.Frag) (O : List Addr) (H : Hp) (J : It) (xs : List D) : Prop where
  go : ∀ (i : Nat) O' H', Ek O H O' H' → i < xs.length → J.go i H'
  stop : ∀ (i : Nat) O' H', Ek O H O' H' → xs.length ≤ i → J.stop i H'
  yld : ∀ (i : Nat) O' H' (x : V) H'' (d : D), Ek O H O' H' → (∀ q ∈ O', H' q ≠ none) → xs[i]? = some d → J.yld i H' x H'' → Same H' H'' ∧ RV g K O' H'' x d
theorem Yl.ext {g : Gh} {K : PySem.W.Frag} {O O1 : List Addr} {H H1 : Hp} {J : It} {xs : List D} (y : Yl g K O H J xs) (e : Ek O H O1 H1) : Yl g K O1 H1 J xs :=
  ⟨fun i O' H' x => y.go i O' H' (e.trans x), fun i O' H' x => y.stop i O' H' (e.trans x), fun i O' H' x H'' d ex => y.yld i O' H' x H'' d (e.trans ex)⟩
abbrev FI := Env' → Mu → T (List D × Mu)
def tI (B : Bd) (K : PySem.W.Frag) (f : FI) : TI := fun σ H R => ∃ ρ μ W b, Rep B K ρ μ W b H σ ∧
  (f ρ μ).All b (fun p b' => ∀ J W' H', Ext B.g.pa W H W' H' → Rep B K ρ p.2 W' b' H' σ → Yl B.g K W'.o H' J p.1 → R J H') B.Y
theorem PIimp {X : Cx} {tg e : Expr} {t t' : TI} (h : PI X tg e t) (k : ∀ σ H Q, t' σ H Q → t σ H Q) : PI X tg e t' := ⟨fun pins s σ H Q I w => h.run pins s σ H Q I (k σ H Q w)⟩
theorem yl_list {g : Gh} {K : PySem.W.Frag} {O : List Addr} {H : Hp} {a : Addr} {vs : List V} {ds : List D} (h : FL O H a vs) (r : RVs g K O H vs ds) : Yl g K O H (Itl K a) ds := by
  refine ⟨fun i O' H' e hi => ?_, fun i O' H' e hi => ?_, fun i O' H' x H'' d e hO hd y => ?_⟩
  · have h' := h.keep e.kp e.hs
    exact ⟨vs, vs[i]'(by rw [r.length]; exact hi), h'.sq, List.getElem?_eq_getElem _⟩
  · exact ⟨vs, (h.keep e.kp e.hs).sq, by rw [r.length]; exact hi⟩
  · obtain ⟨rfl, y⟩ := y
    have h' := h.keep e.kp e.hs
    obtain ⟨d', e1, e2⟩ := (r.keep e.kp e.hs).get' (y vs h'.sq)
    rw [hd] at e1; cases e1
    exact ⟨Same.refl _, e2⟩
theorem yl_tup {g : Gh} {K : PySem.W.Frag} {O : List Addr} {H : Hp} {a : Addr} {vs : List V} {ds : List D} (h : FT K O H a vs) (r : RVs g K O H vs ds) : Yl g K O H (Itt K a) ds := by
  refine ⟨fun i O' H' e hi => ?_, fun i O' H' e hi => ?_, fun i O' H' x H'' d e hO hd y => ?_⟩
  · have h' := h.keep e.kp e.hs
    exact ⟨vs, vs[i]'(by rw [r.length]; exact hi), h'.sq, List.getElem?_eq_getElem _⟩
  · exact ⟨vs, (h.keep e.kp e.hs).sq, by rw [r.length]; exact hi⟩
  · obtain ⟨rfl, y⟩ := y
    have h' := h.keep e.kp e.hs
    obtain ⟨d', e1, e2⟩ := (r.keep e.kp e.hs).get' (y vs h'.sq)
    rw [hd] at e1; cases e1
    exact ⟨Same.refl _, e2⟩
/-- a list or a tuple -/
def iSeq (K : PySem.W.Frag) (tl : TE) : TI := fun σ H R => tl σ H fun x H1 => ∃ a, x = .ref a ∧ (((∃ xs, SqL K H1 a xs) ∧ R (Itl K a) H1) ∨ ((∃ xs, SqT K H1 a xs) ∧ R (Itt K a) H1))
theorem pi_seq {X : Cx} {tg l : Expr} {tl : TE} (hl : PE X l tl) : PI X tg l (iSeq X.K tl) := by
  refine ⟨fun pins s σ H R I h => thn (hl.run pins s σ H _ I h) fun v s1 got => ?_⟩
  obtain ⟨x, H1, I1, r1, a, ex, q⟩ := got
  subst ex
  cases r1
  rcases q with ⟨⟨xs, hq⟩, q⟩ | ⟨⟨xs, hq⟩, q⟩
  · obtain ⟨its, rv, pl, hz⟩ := I1.list hq
    refine wpAny_pyIter_list pl.isList ⟨s1.heap.objs.size, [s1.heap.objs.size], _, _, H1, rfl, I1.kept (t' := s1.toks) fun b o e => Heap.get?_push_of_some _ e, turn_list a _, ⟨_, Heap.get?_push_size _ rfl, rfl, rfl⟩, fun b hb => ?_, q⟩
    obtain rfl : b = s1.heap.objs.size := by simpa using hb
    exact I1.fpOk (Nat.le_refl _) (I1.hok.fresh (Nat.le_refl _))
  · obtain ⟨its, rv, pl, hz⟩ := I1.tuple hq
    refine wpAny_pyIter_tuple (show s1.heap.IsTuple a its.toArray from pl) ⟨s1.heap.objs.size, [s1.heap.objs.size], _, _, H1, rfl, I1.kept (t' := s1.toks) fun b o e => Heap.get?_push_of_some _ e, turn_tuple a _, ⟨_, Heap.get?_push_size _ rfl, rfl, rfl⟩, fun b hb => ?_, q⟩
    obtain rfl : b = s1.heap.objs.size := by simpa using hb
    exact I1.fpOk (Nat.le_refl _) (I1.hok.fresh (Nat.le_refl _))
def aSeq (f : FE) : FI := fun ρ μ => (f ρ μ).bind fun p => (T.ofO ((tOf p.1).bind seqOf)).bind fun xs => .ret (xs, p.2)
def signs (x : Str) : List D := x.cps.toList.map fun c => .str ⟨#[c]⟩
def signsOf : D → Option (List D)
  | .str x => some (signs x)
  | _ => none
def aStr (f : FE) : FI := fun ρ μ => (f ρ μ).bind fun p => (T.ofO ((tOf p.1).bind signsOf)).bind fun xs => .ret (xs, p.2)
def rangeOf (n : Int) : List D := (List.range n.toNat).map fun i : Nat => .int (i : Int)
def range2Of (a n : Int) : List D := (List.range (n - a).toNat).map fun i : Nat => .int (a + (i : Int))
def rng1 : D → Option (List D)
  | .int n => if -1000000000 ≤ n ∧ n ≤ 1000000000 then some (rangeOf n) else none
  | _ => none
def rngOf : List D → Option (List D)
  | [d] => rng1 d
  | _ => none
def aRng (fa : FA) : FI := fun ρ μ => (fa ρ μ).bind fun p => (T.ofO ((tsOf p.1).bind rngOf)).bind fun xs => .ret (xs, p.2)
theorem tof {g : Gh} {K : PySem.W.Frag} {W : Ow} {H : Hp} {v : V} {x : Vd} {d : D} (r : RW g K W H v x) (e : tOf x = some d) : RV g K W.o H v d := by
  cases r with
  | t r => cases e; exact r
  | r _ => cases e
  | z _ => cases e
section
variable {X : Cx} {B : Bd} {tg l a : Expr} {f : FE} {fa : FA} {p pos : Pos}
theorem si_seq (hl : PE X l (tM B X.K f)) : PI X tg l (tI B X.K (aSeq f)) := PIimp (pi_seq hl) fun σ H R ⟨ρ, μ, W, b, Rp, h⟩ => ⟨ρ, μ, W, b, Rp, (T.All.bind h).mono fun p n1 h1 v W1 H1 k1 R1 r1 => by
  obtain ⟨xs, e, q⟩ := T.All.ofO (T.All.bind h1)
  obtain ⟨d, e1, e⟩ := bind_some e
  cases tof r1 e1 with
  | lst h r => cases e; exact ⟨_, rfl, .inl ⟨⟨_, h.sq⟩, q _ W1 H1 k1 R1 (yl_list h r)⟩⟩
  | tup h r => cases e; exact ⟨_, rfl, .inr ⟨⟨_, h.sq⟩, q _ W1 H1 k1 R1 (yl_tup h r)⟩⟩
  | _ => exact (nos e).elim⟩
theorem yl_str {g : Gh} {K : PySem.W.Frag} {O : List Addr} {H : Hp} {x : Str} : Yl g K O H (Its x) (signs x) := by
  have hl : (signs x).length = x.cps.size := by unfold signs; rw [List.length_map, Array.length_toList]
  refine ⟨fun i O' H' e hi => by rw [hl] at hi; exact hi, fun i O' H' e hi => by rw [hl] at hi; exact hi, fun i O' H' v H'' d e hO hd y => ?_⟩
  obtain ⟨rfl, c, hc, rfl⟩ := y
  unfold signs at hd
  rw [List.getElem?_map, Array.getElem?_toList, hc] at hd
  cases hd
  exact ⟨Same.refl _, .str _⟩
theorem si_str (hl : PE X l (tM B X.K f)) : PI X tg l (tI B X.K (aStr f)) := PIimp (pi_str hl) fun σ H R ⟨ρ, μ, W, b, Rp, h⟩ => ⟨ρ, μ, W, b, Rp, (T.All.bind h).mono fun p n1 h1 v W1 H1 k1 R1 r1 => by
  obtain ⟨xs, e, q⟩ := T.All.ofO (T.All.bind h1)
  obtain ⟨d, e1, e⟩ := bind_some e
  cases tof r1 e1 with
  | str x => cases e; exact ⟨x, rfl, q _ W1 H1 k1 R1 yl_str⟩
  | _ => exact (nos e).elim⟩
theorem yl_rng {g : Gh} {K : PySem.W.Frag} {O : List Addr} {H : Hp} {n : Int} : Yl g K O H (Itr 0 n.toNat) (rangeOf n) := by
  have hl : (rangeOf n).length = n.toNat := by unfold rangeOf; rw [List.length_map, List.length_range]
  refine ⟨fun i O' H' e hi => by rw [hl] at hi; exact hi, fun i O' H' e hi => by rw [hl] at hi; exact hi, fun i O' H' v H'' d e hO hd y => ?_⟩
  obtain ⟨rfl, rfl⟩ := y
  unfold rangeOf at hd
  rw [List.getElem?_map] at hd
  by_cases hi : i < n.toNat
  · rw [List.getElem?_range hi] at hd
    cases hd
    exact ⟨Same.refl _, by rw [Int.zero_add]; exact .int _⟩
  · rw [List.getElem?_eq_none (by rw [List.length_range]; omega)] at hd; cases hd
theorem si_rng (hm : X.mg "range" = none) (ha : PA X [a] (tL B X.K fa)) (hg : Gl X "range" := by rfl) (hs : starEach [a] X.env = [(false, eval a X.env)] := by rfl) : PI X tg (.Call (.Name "range" p) [a] [] pos) (tI B X.K (aRng fa)) :=
  PIimp (pi_range1 hg hm ha hs) fun σ H R ⟨ρ, μ, W, b, Rp, h⟩ => ⟨ρ, μ, W, b, Rp, (T.All.bind h).mono fun q0 n1 h1 vs W1 H1 k1 R1 r1 => by
    obtain ⟨xs, e, q⟩ := T.All.ofO (T.All.bind h1)
    obtain ⟨ds, e1, e⟩ := bind_some e
    have r1 := ts_rv r1 e1
    cases r1 with
    | nil => exact (nos e).elim
    | @cons v vs d ds r r2 =>
    cases r2 with
    | cons _ _ => exact (nos e).elim
    | nil =>
      cases r <;> try exact (nos e).elim
      rename_i n
      have e' : (if -1000000000 ≤ n ∧ n ≤ 1000000000 then some (rangeOf n) else none) = some xs := e
      by_cases hc : -1000000000 ≤ n ∧ n ≤ 1000000000
      · rw [if_pos hc] at e'
        cases e'
        exact ⟨n, rfl, by omega, by omega, q _ W1 H1 k1 R1 yl_rng⟩
      · rw [if_neg hc] at e'; exact (nos e').elim⟩
end

/-! ### comprehensions -/
def T.noX {α : Type} : T α → T α
  | .ret a => .ret a
  | .ask m k => .ask m fun c => T.noX (k c)
  | .exc _ _ _ => .bad
  | .bad => .bad
theorem T.All.noX {α : Type} {P : α → Nat → Prop} {Y : XP} : ∀ {t : T α} {b : Nat}, T.All (T.noX t) b P Y → T.All t b P fun _ _ _ _ => False
  | .ret a, b, h => h
  | .ask m k, b, ⟨b', e, h⟩ => ⟨b', e, fun c hc => T.All.noX (h c hc)⟩
  | .exc _ _ _, b, h => h.elim
  | .bad, b, h => h.elim
/-- what a target makes of an item -/
inductive Tg where
  | one (i : Nat) | tup (is : List Nat)
def putN : List Nat → List D → Env' → Option Env'
  | [], [], ρ => some ρ
  | i :: is, d :: ds, ρ => putN is ds (ρ.set i (some (.t d)))
  | _, _, _ => none
def Tg.put : Tg → D → Env' → Option Env'
  | .one i, d, ρ => some (ρ.set i (some (.t d)))
  | .tup is, .tup ds, ρ => putN is ds ρ
  | .tup _, _, _ => none
def compL (tg : Tg) (c : FT') (f : FE) (ρ : Env') : List D → Mu → T (List D × Mu)
  | [], μ => .ret ([], μ)
  | x :: xs, μ => (T.ofO (tg.put x ρ)).bind fun ρ' => (T.noX (c ρ' μ)).bind fun k => if k.1 then (T.noX (f ρ' k.2)).bind fun d => (T.ofO (tOf d.1)).bind fun d1 => (compL tg c f ρ xs d.2).bind fun ds => .ret (d1 :: ds.1, ds.2) else compL tg c f ρ xs k.2
def kYes : FT' := fun _ μ => .ret (true, μ)
def eComp (tg : Tg) (src : FI) (c : FT') (f : FE) : FE := fun ρ μ => (src ρ μ).bind fun p => if p.1.length ≤ lim then (compL tg c f ρ p.1 p.2).bind fun q => .ret (.t (.lst q.1), q.2) else .bad
def Bd.nox (B : Bd) : Bd := { B with Y := fun _ _ _ _ => False }
theorem Rep.nox {B : Bd} {K : PySem.W.Frag} {ρ : Env'} {μ : Mu} {W : Ow} {b : Nat} {H : Hp} {σ : L2.St} (r : Rep B K ρ μ W b H σ) : Rep B.nox K ρ μ W b H σ :=
  ⟨r.len, r.slot, r.st, r.ext, r.mono, r.base, r.pen0⟩
end Y

set_option Elab.async false
set_option linter.all false
set_option maxRecDepth 100000
set_option maxHeartbeats 1000000
/-! Y8: targets, the comprehension. -/
namespace Y
open PySem PySem.Spec PyProof.Rows L2

def Tg.places : Tg → List Nat
  | .one i => [i]
  | .tup is => is
def gsOf : List Nat → TGs
  | [] => gNil
  | i :: is => gCons (gName i) (gsOf is)
def gOf (K : PySem.W.Frag) : Tg → TG
  | .one i => gName i
  | .tup is => gTup K is.length (gsOf is)
/-- the slots behind a target -/
def putVs : List Nat → List V → L2.St → L2.St
  | i :: is, v :: vs, σ => putVs is vs (σ.set i (some v))
  | _, _, σ => σ
def Tg.putV : Tg → List V → L2.St → L2.St
  | .one i, [v], σ => σ.set i (some v)
  | .one _, _, σ => σ
  | .tup is, vs, σ => putVs is vs σ
section
variable {B : Bd} {K : PySem.W.Frag} {ρ ρ' : Env'} {μ : Mu} {W : Ow} {b : Nat} {H : Hp} {σ : L2.St}
theorem putN_ok {Q : L2.St → Hp → Prop} : ∀ {is : List Nat} {ds : List D} {vs : List V} {ρ : Env'} {σ : L2.St}, Rep B K ρ μ W b H σ → RVs B.g K W.o H vs ds → putN is ds ρ = some ρ' → (Rep B K ρ' μ W b H (putVs is vs σ) → Q (putVs is vs σ) H) → gsOf is vs σ H Q
  | [], _, _, ρ, σ, R, .nil, e, k => by
    have e : some ρ = some ρ' := e
    cases e
    exact ⟨rfl, k R⟩
  | [], _, _, ρ, σ, R, .cons _ _, e, k => by cases e
  | i :: is, _, _, ρ, σ, R, .nil, e, k => by cases e
  | i :: is, _, _, ρ, σ, R, .cons r t, e, k => ⟨_, _, rfl, putN_ok (R.put i (.t r)) t e k⟩
theorem gsLen {Q : L2.St → Hp → Prop} : ∀ {is : List Nat} {ds : List D} {ρ : Env'}, putN is ds ρ = some ρ' → ds.length = is.length
  | [], [], _, e => rfl
  | [], _ :: _, _, e => by cases e
  | _ :: _, [], _, e => by cases e
  | i :: is, d :: ds, ρ, e => congrArg (· + 1) (gsLen (Q := Q) (show putN is ds _ = some ρ' from e))
theorem put_ok {v : V} {d : D} {tg : Tg} {Q : L2.St → Hp → Prop} (R : Rep B K ρ μ W b H σ) (rv : RV B.g K W.o H v d) (e : tg.put d ρ = some ρ')
    (k : ∀ vs, Rep B K ρ' μ W b H (tg.putV vs σ) → Q (tg.putV vs σ) H) : gOf K tg v σ H Q := by
  cases tg with
  | one i => cases e; exact k [v] (R.put i (.t rv))
  | tup is =>
    cases rv <;> try exact (nos e).elim
    rename_i a vs ds h rs
    exact ⟨a, vs, rfl, h.sq, by rw [rs.length]; exact gsLen (Q := Q) e, putN_ok R rs e (k vs)⟩
theorem wipe_get (σ : L2.St) (k : Nat) : ∀ is : List Nat, (wipe σ is)[k]? = if k ∈ is ∧ k < σ.length then some none else σ[k]?
  | [] => by simp [wipe]
  | i :: is => by
    show ((wipe σ is).set i none)[k]? = _
    by_cases h : i = k
    · subst h
      by_cases hl : i < σ.length
      · rw [List.getElem?_set_self (by rw [wipe_length]; exact hl), if_pos ⟨List.mem_cons_self, hl⟩]
      · rw [List.getElem?_eq_none (by rw [List.length_set, wipe_length]; omega), if_neg (fun z => hl z.2), List.getElem?_eq_none (by omega)]
    · rw [List.getElem?_set_ne h, wipe_get σ k is]
      have : (k ∈ i :: is) ↔ k ∈ is := by rw [List.mem_cons]; exact ⟨fun z => z.elim (fun z => (h z.symm).elim) id, .inr⟩
      simp only [this]
theorem putVs_get (k : Nat) : ∀ (is : List Nat) (vs : List V) (σ : L2.St), (putVs is vs σ).length = σ.length ∧ (k ∉ is → (putVs is vs σ)[k]? = σ[k]?)
  | [], vs, σ => by cases vs <;> exact ⟨rfl, fun _ => rfl⟩
  | i :: is, [], σ => ⟨rfl, fun _ => rfl⟩
  | i :: is, v :: vs, σ => by
    obtain ⟨h1, h2⟩ := putVs_get k is vs (σ.set i (some v))
    refine ⟨h1.trans (List.length_set ..), fun n => ?_⟩
    rw [List.mem_cons, not_or] at n
    show (putVs is vs (σ.set i (some v)))[k]? = _
    rw [h2 n.2, List.getElem?_set_ne (Ne.symm n.1)]
theorem wipe_put (tg : Tg) (vs : List V) (σ : L2.St) : wipe (tg.putV vs σ) tg.places = wipe σ tg.places := by
  apply List.ext_getElem?
  intro k
  cases tg with
  | one i =>
    match vs with
    | [] => rfl
    | _ :: _ :: _ => rfl
    | [v] =>
      show (wipe (σ.set i (some v)) [i])[k]? = (wipe σ [i])[k]?
      rw [wipe_get, wipe_get, List.length_set]
      by_cases h : k ∈ [i]
      · by_cases hl : k < σ.length
        · rw [if_pos ⟨h, hl⟩, if_pos ⟨h, hl⟩]
        · rw [if_neg (fun z => hl z.2), if_neg (fun z => hl z.2), List.getElem?_eq_none (by rw [List.length_set]; omega), List.getElem?_eq_none (by omega)]
      · rw [if_neg (fun z => h z.1), if_neg (fun z => h z.1), List.getElem?_set_ne (fun z => h (by rw [z]; exact List.mem_singleton_self _))]
  | tup is =>
    show (wipe (putVs is vs σ) is)[k]? = (wipe σ is)[k]?
    obtain ⟨h1, h2⟩ := putVs_get k is vs σ
    rw [wipe_get, wipe_get, h1]
    by_cases h : k ∈ is
    · by_cases hl : k < σ.length
      · rw [if_pos ⟨h, hl⟩, if_pos ⟨h, hl⟩]
      · rw [if_neg (fun z => hl z.2), if_neg (fun z => hl z.2), List.getElem?_eq_none (by rw [h1]; omega), List.getElem?_eq_none (by omega)]
    · rw [if_neg (fun z => h z.1), if_neg (fun z => h z.1), h2 h]
theorem wipe_wipe (is : List Nat) (σ : L2.St) : wipe (wipe σ is) is = wipe σ is := by
  apply List.ext_getElem?
  intro k
  rw [wipe_get, wipe_get, wipe_length]
  by_cases h : k ∈ is ∧ k < σ.length
  · rw [if_pos h, if_pos h]
  · rw [if_neg h, if_neg h]
def wipeE (ρ : Env') : List Nat → Env'
  | [] => ρ
  | i :: is => (wipeE ρ is).set i none
theorem wipeE_len (ρ : Env') : ∀ is, (wipeE ρ is).length = ρ.length
  | [] => rfl
  | i :: is => (List.length_set ..).trans (wipeE_len ρ is)
theorem wipeE_get {k : Nat} (ρ : Env') : ∀ is : List Nat, k ∉ is → (wipeE ρ is)[k]? = ρ[k]?
  | [], _ => rfl
  | i :: is, n => by
    rw [List.mem_cons, not_or] at n
    show ((wipeE ρ is).set i none)[k]? = _
    rw [List.getElem?_set_ne (Ne.symm n.1), wipeE_get ρ is n.2]
theorem Rep.wiped (R : Rep B K ρ μ W b H σ) : ∀ is : List Nat, Rep B K (wipeE ρ is) μ W b H (wipe σ is)
  | [] => R
  | i :: is => (R.wiped is).un i none
theorem putN_eq : ∀ {is : List Nat} {ds : List D} {ρ1 ρ2 : Env'}, ρ1.length = ρ2.length → (∀ k : Nat, k ∉ is → ρ1[k]? = ρ2[k]?) → putN is ds ρ1 = putN is ds ρ2
  | [], [], ρ1, ρ2, hl, h => congrArg some (List.ext_getElem? fun k => h k (List.not_mem_nil))
  | [], _ :: _, _, _, _, _ => rfl
  | _ :: _, [], _, _, _, _ => rfl
  | i :: is, d :: ds, ρ1, ρ2, hl, h => by
    show putN is ds (ρ1.set i _) = putN is ds (ρ2.set i _)
    refine putN_eq (by rw [List.length_set, List.length_set, hl]) fun k n => ?_
    by_cases q : i = k
    · subst q
      by_cases hi : i < ρ1.length
      · rw [List.getElem?_set_self hi, List.getElem?_set_self (by rw [← hl]; exact hi)]
      · rw [List.getElem?_eq_none (by rw [List.length_set]; omega), List.getElem?_eq_none (by rw [List.length_set]; omega)]
    · rw [List.getElem?_set_ne q, List.getElem?_set_ne q, h k (fun z => (List.mem_cons.mp z).elim (fun z => q z.symm) n)]
theorem put_wiped {tg : Tg} {d : D} (e : tg.put d ρ = some ρ') : tg.put d (wipeE ρ tg.places) = some ρ' := by
  cases tg with
  | one i => cases e; show some ((ρ.set i none).set i _) = _; rw [List.set_set]
  | tup is =>
    cases d <;> try exact (nos e).elim
    rename_i xs
    exact (putN_eq (wipeE_len ρ is) fun k n => wipeE_get ρ is n).trans e
/-- one thing more is kept away from -/
def Ow.also (W : Ow) (p : Addr) : Ow := ⟨p :: W.o, W.c⟩
def Ow.less (W : Ow) (p : Addr) : Ow := ⟨W.o.filter fun x => decide (x ≠ p), W.c⟩
theorem ext_also {pa : Option Addr} {p : Addr} {o : HO} (hp : H p = none) : Ext pa W H (W.also p) (upd H p o) :=
  ⟨fun a u e _ _ _ => same_new hp a u e, fun _ _ h => .inl h, hs_new hp, fun _ _ h => .inl h, Same.nt (same_new hp), fun _ h _ _ => List.mem_cons_of_mem _ h⟩
theorem st_also {g : Gh} {p : Addr} {o : HO} (s : StOk g K W μ b H) (hp : H p = none) (hno : nTb o) : StOk g K (W.also p) μ b (upd H p o) := by
  refine ⟨fun a h => List.mem_cons_of_mem _ (s.sub a h), s.nd, s.len, fun i c a h1 h2 => ?_, fun a ha => ?_, fun a e => ?_, tabs_upd s.tabs (fun o e => by rw [hp] at e; cases e), s.dd, fun a ha ps z => ?_⟩
  · refine (s.cell i c a h1 h2).move (W' := W.also p) (fun z => upd_ne (fun q => z (by rw [q]; exact hp))) (.of (same_new hp)) (hs_new hp) fun _ _ h => .inl h
  · rcases List.mem_cons.mp ha with rfl | q
    · rw [upd_same]; exact fun z => nomatch z
    · exact Same.there (same_new hp) s.there a q
  · obtain ⟨m, n, c, t, r, cells, h1, h2, h3, h4⟩ := s.pen a e
    refine ⟨List.mem_cons_of_mem _ m, n, c, t, r, cells, same_new hp _ _ h1, same_new hp _ _ h2, fun z => ?_, h4⟩
    rcases List.mem_cons.mp z with rfl | q
    · rw [hp] at h2; cases h2
    · exact h3 q
  · rcases List.mem_cons.mp ha with rfl | q
    · rw [upd_same] at z; cases z; exact hno ps rfl
    · exact s.nt a q ps (by rw [← z, upd_ne (fun y => s.there a q (by rw [y]; exact hp))])
/-- p, kept away from, is written -/
theorem st_upd {g : Gh} {p : Addr} {o : HO} (s : StOk g K W μ b H) (hO : p ∈ W.o) (hc : some p ∉ W.c) (hpa : g.pa ≠ some p) (hno : nTb o) (hpl : ∀ o, H p = some o → plO o) : StOk g K W μ b (upd H p o) := by
  refine ⟨s.sub, s.nd, s.len, fun i c a h1 h2 => ?_, fun a ha => ?_, fun a e => ?_, tabs_upd s.tabs hpl, s.dd, fun a ha ps z => ?_⟩
  · have na : a ≠ p := fun z => hc (by rw [← z]; exact get_mem h2)
    refine (s.cell i c a h1 h2).move (fun _ => upd_ne na) (fun y u e m _ => ?_) (fun _ h => .inl h) fun _ _ h => .inl h
    rw [upd_ne (fun z => m (by rw [z]; exact hO))]; exact e
  · by_cases q : a = p
    · subst q; rw [upd_same]; exact fun z => nomatch z
    · rw [upd_ne q]; exact s.there a ha
  · obtain ⟨m, n, c, t, r, cells, h1, h2, h3, h4⟩ := s.pen a e
    exact ⟨m, n, c, t, r, cells, by rw [upd_ne (fun z => hpa (by rw [← z]; exact e))]; exact h1, by rw [upd_ne (fun z => h3 (by rw [z]; exact hO))]; exact h2, h3, h4⟩
  · by_cases q : a = p
    · subst q; rw [upd_same] at z; cases z; exact hno ps rfl
    · rw [upd_ne q] at z; exact s.nt a ha ps z
theorem ext_upd {pa : Option Addr} {W0 : Ow} {H0 : Hp} {p : Addr} {o : HO} (e : Ext pa W0 H0 W H) (h0 : H0 p = none) : Ext pa W0 H0 W (upd H p o) :=
  ⟨fun a u q n1 n2 t => by rw [upd_ne (ne_of_none q h0)]; exact e.kp a u q n1 n2 t, e.pre, e.hs, e.hc, fun a h => by
    have na : a ≠ p := fun z => nnt h0 (by rw [← z]; exact h)
    obtain ⟨o, q1, q2⟩ := e.al a h
    exact ⟨o, by rw [upd_ne na]; exact q1, q2⟩, e.ow⟩
/-- p is kept away from no longer -/
theorem st_less {g : Gh} {p : Addr} (s : StOk g K W μ b H) (hc : some p ∉ W.c) (hpa : g.pa ≠ some p) : StOk g K (W.less p) μ b H := by
  refine ⟨fun a h => mem_fil.mpr ⟨s.sub a h, fun z => hc (by rw [← z]; exact h)⟩, s.nd, s.len, fun i c a h1 h2 => (s.cell i c a h1 h2).move (W' := W.less p) (fun _ => rfl) .refl (fun y h => .inl (mem_fil.mp h).1) fun _ _ h => .inl h, fun a h => s.there a (mem_fil.mp h).1, fun a e => ?_, s.tabs, s.dd, fun a h => s.nt a (mem_fil.mp h).1⟩
  obtain ⟨m, n, c, t, r, cells, h1, h2, h3, h4⟩ := s.pen a e
  exact ⟨mem_fil.mpr ⟨m, fun z => hpa (by rw [← z]; exact e)⟩, n, c, t, r, cells, h1, h2, fun z => h3 (mem_fil.mp z).1, h4⟩
theorem ext_less {pa : Option Addr} {W0 : Ow} {H0 : Hp} {p : Addr} (e : Ext pa W0 H0 W H) (h0 : H0 p = none) : Ext pa W0 H0 (W.less p) H :=
  ⟨e.kp, e.pre, fun a h => e.hs a (mem_fil.mp h).1, e.hc, e.al, fun a h hn hc => mem_fil.mpr ⟨e.ow a h hn hc, fun z => nnt h0 (by rw [← z]; exact hn)⟩⟩
theorem Rep.h0 (R : Rep B K ρ μ W b H σ) {p : Addr} (hp : H p = none) : ¬ NT B.H0 p := fun h => nnt hp (R.ext.al p h)
end
section
variable {X : Cx} {B : Bd} {elt te iter : Expr} {ifs : List Expr} {scope : Scope} {own : List (Str × Nat)} {pos : Pos} {src : FI} {c : FT'} {f : FE} {tg : Tg} {tt : TT}
/-- the tests of a comprehension -/
def TT_ok (B : Bd) (K : PySem.W.Frag) (tt : TT) (c : FT') : Prop := ∀ σ H Q, tK B K c σ H Q → tt σ H Q
theorem tt_yes {K : PySem.W.Frag} : TT_ok B K tYes kYes := fun σ H Q ⟨ρ, μ, W, b, R, h⟩ => h W H .refl R
theorem tt_one {K : PySem.W.Frag} : TT_ok B K (tK B K c) c := fun _ _ _ h => h
theorem comp_imp {K : PySem.W.Frag} (htt : TT_ok B.nox K tt c) (σ : L2.St) (H : Hp) (Q : VK) (h : tM B K (eComp tg src c f) σ H Q) :
    tLc (tI B K src) (gOf K tg) tt (tM B.nox K f) tg.places σ H Q := by
  obtain ⟨ρ, μ, W, b, R, h⟩ := h
  refine ⟨ρ, μ, W, b, R, (T.All.bind h).mono fun p n1 h1 J W1 H1 k1 R1 yl => ?_⟩
  obtain ⟨xs, μ1⟩ := p
  by_cases hl : xs.length ≤ lim
  · rw [if_pos hl] at h1
    intro Dl hD
    have hDO : Dl ∉ W1.o := notO R1.st.there hD
    have hDc : some Dl ∉ W1.c := R1.st.notC hD
    have hpa : B.g.pa ≠ some Dl := R1.st.paNe hD
    have h0 : ¬ NT B.H0 Dl := R1.h0 hD
    refine ⟨fun i m H' => ∃ (b' : Nat) (acc : List D) (vacc : List V) (μ' : Mu) (W' : Ow), m = xs.length - i ∧ i ≤ xs.length ∧ acc.length ≤ i ∧ Ext B.g.pa W1 H1 W' H' ∧ Rep B K ρ μ' W' b' H' σ ∧ Dl ∈ W'.o ∧ some Dl ∉ W'.c ∧ H' Dl = some (.lst vacc) ∧ RVs B.g K W'.o H' vacc acc ∧
        (compL tg c f ρ (xs.drop i) μ').All b' (fun q b2 => ∀ v W2 H2, Ext B.g.pa W H W2 H2 → Rep B K ρ q.2 W2 b2 H2 σ → RV B.g K W2.o H2 v (.lst (acc ++ q.1)) → Q v H2) B.Y,
      ⟨xs.length, n1, [], [], μ1, W1.also Dl, by simp, Nat.zero_le _, Nat.zero_le _, ext_also hD, R1.go (ext_also hD) (st_also R1.st hD .lst) (fun a h => List.mem_cons_of_mem _ (R1.mono a h)), List.mem_cons_self, hDc, upd_same, .nil, ?_⟩, ?_⟩
    · rw [List.drop_zero]
      refine (T.All.bind h1).mono fun q b2 hq v W2 H2 e2 R2 rv => hq v W2 H2 e2 R2 (.t ?_)
      rw [List.nil_append] at rv; exact rv
    · rintro i m H' ⟨b', acc, vacc, μ', W', rfl, hi, ha, ex, R2, hDo', hDc', hDl, racc, hall⟩
      by_cases hlt : i < xs.length
      · refine .inr ⟨yl.go i _ _ (R1.st.ek ex) hlt, fun H2 => ∃ (b' : Nat) (acc : List D) (vacc : List V) (μ' : Mu) (W' : Ow), i + 1 ≤ xs.length ∧ acc.length ≤ i + 1 ∧ Ext B.g.pa W1 H1 W' H2 ∧ Rep B K ρ μ' W' b' H2 σ ∧ Dl ∈ W'.o ∧ some Dl ∉ W'.c ∧ H2 Dl = some (.lst vacc) ∧ RVs B.g K W'.o H2 vacc acc ∧
          (compL tg c f ρ (xs.drop (i + 1)) μ').All b' (fun q b2 => ∀ v W2 H2, Ext B.g.pa W H W2 H2 → Rep B K ρ q.2 W2 b2 H2 σ → RV B.g K W2.o H2 v (.lst (acc ++ q.1)) → Q v H2) B.Y, fun H2 ⟨b2, acc2, vacc2, μ2, W2, q1, q2⟩ => ⟨xs.length - (i + 1), by omega, b2, acc2, vacc2, μ2, W2, rfl, q1, q2⟩, fun x H2 hy => ?_⟩
        obtain ⟨s2, rx⟩ := yl.yld i W'.o H' x H2 _ (R1.st.ek ex) R2.st.there (List.getElem?_eq_getElem hlt) hy
        rw [List.drop_eq_getElem_cons hlt] at hall
        obtain ⟨ρ', eput, hall⟩ := T.All.ofO (T.All.bind hall)
        have R3 : Rep B K ρ μ' W' b' H2 σ := R2.same s2
        have ex3 : Ext B.g.pa W1 H1 W' H2 := ex.trans (.same s2)
        have R4 := R3.nox.wiped tg.places
        refine put_ok R4 rx (put_wiped eput) fun vs R5 => ⟨by rw [wipe_put, wipe_wipe], htt _ _ _ ⟨ρ', μ', W', b', R5, (T.All.noX (T.All.bind hall)).mono fun kc b3 h3 W3 H3 k3 R6 => ?_⟩⟩
        obtain ⟨kc, μ3⟩ := kc
        have hD3 : H3 Dl = some (.lst vacc) := k3.kp _ _ (s2 _ _ hDl) hDc' hpa .lst
        have hDo3 : Dl ∈ W3.o := k3.ow Dl hDo' ⟨_, s2 _ _ hDl, .lst⟩ hDc'
        have hDc3 : some Dl ∉ W3.c := fun z => by
          obtain ⟨n, hn⟩ := mem_get z
          rcases k3.hc n Dl hn with q | ⟨_, q⟩
          · exact hDc' (get_mem q)
          · exact q ⟨_, s2 _ _ hDl, .lst⟩
        have r3 : RVs B.g K W3.o H3 vacc acc := (racc.same s2).ext R3.st k3
        have R7 : Rep B K ρ μ3 W3 b3 H3 σ := R3.go k3 R6.st R6.mono
        cases kc with
        | false =>
          exact iteF ⟨b3, acc, vacc, μ3, W3, hlt, by omega, ex3.trans k3, R7, hDo3, hDc3, hD3, r3, h3⟩
        | true =>
          refine iteT ⟨ρ', μ3, W3, b3, R6, (T.All.noX (T.All.bind h3)).mono fun q b4 h4 y W4 H4 k4 R8 ry => ?_⟩
          obtain ⟨d, ed, h4⟩ := T.All.ofO (T.All.bind h4)
          have ry := tof ry ed
          have hD4 : H4 Dl = some (.lst vacc) := k4.kp _ _ hD3 hDc3 hpa .lst
          have hDo4 : Dl ∈ W4.o := k4.ow Dl hDo3 ⟨_, hD3, .lst⟩ hDc3
          have hDc4 : some Dl ∉ W4.c := fun z => by
            obtain ⟨n, hn⟩ := mem_get z
            rcases k4.hc n Dl hn with q | ⟨_, q⟩
            · exact hDc3 (get_mem q)
            · exact q ⟨_, hD3, .lst⟩
          have r4 : RVs B.g K W4.o H4 vacc acc := r3.ext R7.st k4
          have R9 : Rep B K ρ q.2 W4 b4 H4 σ := R7.go k4 R8.st R8.mono
          have kU : KpO W4.o H4 (upd H4 Dl (.lst (vacc ++ [y]))) := fun a u e n _ => by
            rw [upd_ne (fun z => n (by rw [z]; exact hDo4))]; exact e
          have ex4 : Ext B.g.pa W1 H1 W4 (upd H4 Dl (.lst (vacc ++ [y]))) := ext_upd ((ex3.trans k3).trans k4) hD
          have st4 : StOk B.g K W4 q.2 b4 (upd H4 Dl (.lst (vacc ++ [y]))) := st_upd R9.st hDo4 hDc4 hpa .lst fun o e => by
            rw [hD4] at e; cases e; exact ⟨.lst, fun _ z => nomatch z⟩
          refine ⟨vacc, hD4, ?_, b4, acc ++ [d], vacc ++ [y], q.2, W4, hlt, by rw [List.length_append, List.length_singleton]; omega, ex4, R1.go ex4 st4 R9.mono, hDo4, hDc4, upd_same, (r4.append (.cons ry .nil)).keep kU hs_refl, (T.All.bind h4).mono fun q2 b5 hq v W5 H5 k5 R10 rv => hq v W5 H5 k5 R10 (by rw [List.append_assoc] at rv; exact rv)⟩
          rw [r4.length]
          exact Nat.lt_of_le_of_lt ha (Nat.lt_of_lt_of_le (Nat.lt_of_lt_of_le hlt hl) (by decide))
      · have e : i = xs.length := by omega
        subst e
        rw [List.drop_length] at hall
        refine .inl ⟨yl.stop _ _ _ (R1.st.ek ex) (Nat.le_refl _), ?_⟩
        have ex2 : Ext B.g.pa W1 H1 (W'.less Dl) H' := ext_less ex hD
        have R3 : Rep B K ρ μ' (W'.less Dl) b' H' σ := R1.go ex2 (st_less R2.st hDc' hpa) fun a ha => mem_fil.mpr ⟨R2.mono a ha, fun z => h0 (by rw [← z]; exact R2.base a ha)⟩
        refine hall _ (W'.less Dl) H' (k1.trans ex2) R3 ?_
        rw [List.append_nil]
        exact .lst ⟨hDl, fun z => (mem_fil.mp z).2 rfl⟩ (racc.keep .refl (hs_sub fun a h => (mem_fil.mp h).1))
  · rw [if_neg hl] at h1; exact h1.elim
theorem se_comp {tgE : Expr} (hc : X.calm = true) (hN : X.N.Nodup) (hi : PI X tgE iter (tI B X.K src)) (ok : BlkOk X.N X.env.scope scope own) (hpl : own.map (·.2) = tg.places)
    (hg : ∀ (s : Shared) (H : Hp) (C : Addr) (cl : List (Str × Addr)) (fp : List Addr), PG (X.blk s H scope (compEnvC scope cl C X.env) fp) tgE (gOf X.K tg))
    (ht : ∀ (s : Shared) (H : Hp) (C : Addr) (cl : List (Str × Addr)) (fp : List Addr), PTs (X.blk s H scope (compEnvC scope cl C X.env) fp) ifs tt) (htt : TT_ok B.nox X.K tt c)
    (he : ∀ (s : Shared) (H : Hp) (C : Addr) (cl : List (Str × Addr)) (fp : List Addr), PE (X.blk s H scope (compEnvC scope cl C X.env) fp) elt (tM B.nox X.K f)) (hs : ∀ x, foldedSetIterable iter X.env x = pure x := by intro _; rfl) :
    PE X (.ListComp elt [⟨tgE, iter, ifs, 0⟩] scope pos) (tM B X.K (eComp tg src c f)) :=
  PEimp (pe_lc hc hN hi ok hg ht he hs) fun σ H Q h => by rw [hpl]; exact comp_imp htt σ H Q h
end
end Y

set_option Elab.async false
set_option linter.all false
set_option maxRecDepth 100000
set_option maxHeartbeats 1000000
/-! Y9: statements. -/
namespace Y
open PySem PySem.Spec PyProof.Rows L2

inductive Fl where
  | nx (ρ : Env') (μ : Mu) | rt (x : Vd) (μ : Mu) | bk (ρ : Env') (μ : Mu) | ct (ρ : Env') (μ : Mu)
abbrev FS := Env' → Mu → T Fl
/-- what is wished behind a statement -/
def Post (B : Bd) (K : PySem.W.Frag) (Dn : Ends) (W : Ow) (H : Hp) (r : Fl) (b : Nat) : Prop := match r with
  | .nx ρ μ => ∀ σ' H' W', Ext B.g.pa W H W' H' → Rep B K ρ μ W' b H' σ' → Dn.nx σ' H'
  | .bk ρ μ => ∀ σ' H' W', Ext B.g.pa W H W' H' → Rep B K ρ μ W' b H' σ' → Dn.bk σ' H'
  | .ct ρ μ => ∀ σ' H' W', Ext B.g.pa W H W' H' → Rep B K ρ μ W' b H' σ' → Dn.ct σ' H'
  | .rt x μ => ∀ v W' H', Ext B.g.pa B.W0 B.H0 W' H' → StOk B.g K W' μ b H' → (∀ a ∈ B.W0.o, a ∈ W'.o) → RW B.g K W' H' v x → Dn.rt v H'
theorem Post.ext {B : Bd} {K : PySem.W.Frag} {Dn : Ends} {W W' : Ow} {H H' : Hp} {r : Fl} {b : Nat} (p : Post B K Dn W H r b) (e : Ext B.g.pa W H W' H') : Post B K Dn W' H' r b := by
  cases r with
  | nx ρ => exact fun σ2 H2 O2 e2 R => p σ2 H2 O2 (e.trans e2) R
  | bk ρ => exact fun σ2 H2 O2 e2 R => p σ2 H2 O2 (e.trans e2) R
  | ct ρ => exact fun σ2 H2 O2 e2 R => p σ2 H2 O2 (e.trans e2) R
  | rt d => exact p
def tS (B : Bd) (K : PySem.W.Frag) (f : FS) : TS := fun Dn σ H => ∃ ρ μ W b, Rep B K ρ μ W b H σ ∧ (f ρ μ).All b (Post B K Dn W H) B.Y
theorem PSimp {X : Cx} {s : Stmt} {t t' : TS} (h : PS X s t) (k : ∀ Dn σ H, t' Dn σ H → t Dn σ H) : PS X s t' := ⟨fun pins s σ H Dn I w => h.run pins s σ H Dn I (k Dn σ H w)⟩
theorem PSsimp {X : Cx} {s : List Stmt} {t t' : TS} (h : PSs X s t) (k : ∀ Dn σ H, t' Dn σ H → t Dn σ H) : PSs X s t' := ⟨fun pins s σ H Dn I w => h.run pins s σ H Dn I (k Dn σ H w)⟩

def sNext : FS := fun ρ μ => .ret (.nx ρ μ)
def seqK (h : FS) : Fl → T Fl
  | .nx ρ μ => h ρ μ
  | r => .ret r
def sSeq (f h : FS) : FS := fun ρ μ => (f ρ μ).bind (seqK h)
def sRet (fe : FE) : FS := fun ρ μ => (fe ρ μ).bind fun p => .ret (.rt p.1 p.2)
def sSet (i : Nat) (fe : FE) : FS := fun ρ μ => (fe ρ μ).bind fun p => .ret (.nx (ρ.set i (some p.1)) p.2)
def sSet2 (i j : Nat) (f1 f2 : FE) : FS := fun ρ μ => (f1 ρ μ).bind fun p => (f2 ρ p.2).bind fun q => .ret (.nx ((ρ.set i (some p.1)).set j (some q.1)) q.2)
def sIf (c : FT') (f h : FS) : FS := fun ρ μ => (c ρ μ).bind fun k => if k.1 then f ρ k.2 else h ρ k.2
def sDrop (fe : FE) : FS := fun ρ μ => (fe ρ μ).bind fun p => .ret (.nx ρ p.2)
def sBrk : FS := fun ρ μ => .ret (.bk ρ μ)
def sCnt : FS := fun ρ μ => .ret (.ct ρ μ)
/-- what is never come to -/
def sBad : FS := fun _ _ => .bad
/-- the thing in slot i stays as it is from now on -/
def frzAt (ρ : Env') (μ : Mu) (i : Nat) : Option (Nat × D) := match ρ[i]? with
  | some (some (.r n)) => (μ[n]?.bind ceD).map fun d => (n, d)
  | _ => none
def sFrz (i : Nat) (f : FS) : FS := fun ρ μ => (T.ofO (frzAt ρ μ i)).bind fun p => f (ρ.set i (some (.t p.2))) (μ.set p.1 .dead)
def loopK (lp : FS) : Fl → T Fl
  | .nx ρ μ => lp ρ μ
  | .ct ρ μ => lp ρ μ
  | .bk ρ μ => .ret (.nx ρ μ)
  | .rt x μ => .ret (.rt x μ)
def loop (tg : Tg) (body : FS) : List D → FS
  | [], ρ, μ => .ret (.nx ρ μ)
  | x :: xs, ρ, μ => (T.ofO (tg.put x ρ)).bind fun ρ' => (body ρ' μ).bind (loopK (loop tg body xs))
def sFor (tg : Tg) (src : FI) (body : FS) : FS := fun ρ μ => (src ρ μ).bind fun p => loop tg body p.1 ρ p.2
def whl (c : FT') (body : FS) : Nat → FS
  | 0, _, _ => .bad
  | n + 1, ρ, μ => (c ρ μ).bind fun k => if k.1 then (body ρ k.2).bind (loopK (whl c body n)) else .ret (.nx ρ k.2)

section
variable {X : Cx} {B : Bd} {st : Stmt} {rest : List Stmt} {pos pos' : Pos} {e a b c : Expr} {fe f1 f2 : FE} {fa : FA} {k : FT'} {f h : FS}
theorem sss_nil : PSs X [] (tS B X.K sNext) := PSsimp pss_nil fun Dn σ H ⟨ρ, μ, W, b, R, w⟩ => w σ H W .refl R
theorem sss_cons (h1 : PS X st (tS B X.K f)) (h2 : PSs X rest (tS B X.K h)) : PSs X (st :: rest) (tS B X.K (sSeq f h)) :=
  PSsimp (pss_cons h1 h2) fun Dn σ H ⟨ρ, μ, W, b, R, w⟩ => ⟨ρ, μ, W, b, R, (T.All.bind w).mono fun r b1 w1 => by
    cases r with
    | nx ρ1 μ1 => exact fun σ1 H1 W1 e1 R1 => ⟨ρ1, μ1, W1, b1, R1, T.All.mono w1 fun r2 b2 p => p.ext e1⟩
    | bk ρ1 => exact w1
    | ct ρ1 => exact w1
    | rt d => exact w1⟩
theorem sss_one (h1 : PS X st (tS B X.K f)) : PSs X [st] (tS B X.K f) := pss_one h1
theorem ss_ret (he : PE X e (tM B X.K fe)) : PS X (.Return (some e) pos) (tS B X.K (sRet fe)) :=
  PSimp (ps_ret he) fun Dn σ H ⟨ρ, μ, W, b, R, w⟩ => ⟨ρ, μ, W, b, R, (T.All.bind w).mono fun d b1 w1 v W1 H1 k1 R1 rv => w1 v W1 H1 R1.ext R1.st R1.mono rv⟩
theorem ss_set (i : Nat) {x : Str} (hN : X.N.Nodup) (he : PE X e (tM B X.K fe)) (hi : X.N[i]? = some x := by rfl) (hx : Loc X.env.scope x := by first | exact Or.inl rfl | exact Or.inr rfl) (hs : swapsWith e (some (.Name x pos')) pos.line X.env = pure false := by rfl)
    (hf : X.fn x = true ∨ X.env.scope.names.lookup x = some .local := by first | exact .inl rfl | exact .inr rfl) : PS X (.Assign [.Name x pos'] e pos) (tS B X.K (sSet i fe)) :=
  PSimp (ps_set hN hi hx he hs hf) fun Dn σ H ⟨ρ, μ, W, b, R, w⟩ => ⟨ρ, μ, W, b, R, (T.All.bind w).mono fun d b1 w1 v W1 H1 k1 R1 rv => w1 _ H1 W1 k1 (R1.put i rv)⟩
theorem ss_set2 (i j : Nat) {x y : Str} {px py pt : Pos} {kt k2 : Nat} {pt2 : Pos} (hc : X.calm = true) (hN : X.N.Nodup) (ha : PE X a (tM B X.K f1)) (hb : PE X b (tM B X.K f2)) (hij : i ≠ j := by decide) (hi : X.N[i]? = some x := by rfl) (hj : X.N[j]? = some y := by rfl)
    (hx : X.env.scope.names.lookup x = some .local := by rfl) (hy : X.env.scope.names.lookup y = some .local := by rfl) (hw : swappedStores [.Tuple [.Name x px, .Name y py] kt pt] (.Tuple [a, b] k2 pt2) X.env = pure (some [x, y]) := by rfl)
    (hs : swapsWithSole [.Tuple [.Name x px, .Name y py] kt pt] (.Tuple [a, b] k2 pt2) pos.line X.env = pure false := by rfl) (h1 : starEach [a, b] X.env = (false, eval a X.env) :: starEach [b] X.env := by rfl) (h2 : starEach [b] X.env = (false, eval b X.env) :: starEach [] X.env := by rfl) :
    PS X (.Assign [.Tuple [.Name x px, .Name y py] kt pt] (.Tuple [a, b] k2 pt2) pos) (tS B X.K (sSet2 i j f1 f2)) :=
  PSimp (ps_par hc hN hi hj hij hx hy (pa_cons ha (pa_cons hb pa_nil h2) h1) hw hs) fun Dn σ H ⟨ρ, μ, W, b, R, w⟩ => ⟨ρ, μ, W, b, R, (T.All.bind w).mono fun d1 b1 w1 v1 W1 H1 k1 R1 r1 => ⟨ρ, _, W1, b1, R1, (T.All.bind w1).mono fun d2 b2 w2 v2 W2 H2 k2 R2 r2 =>
    ⟨v1, v2, rfl, w2 _ H2 W2 (k1.trans k2) ((R2.put i (r1.ext R1.st k2)).put j r2)⟩⟩⟩
theorem ss_if (hc : PT X c (tK B X.K k)) {as bs : List Stmt} (ha : PSs X as (tS B X.K f)) (hb : PSs X bs (tS B X.K h)) : PS X (.If c as bs pos) (tS B X.K (sIf k f h)) :=
  PSimp (ps_if hc ha hb) fun Dn σ H ⟨ρ, μ, W, b, R, w⟩ => ⟨ρ, μ, W, b, R, (T.All.bind w).mono fun p b1 w1 W1 H1 k1 R1 => by
    obtain ⟨kk, μ1⟩ := p
    cases kk with
    | true => exact iteT ⟨ρ, μ1, W1, b1, R1, T.All.mono w1 fun r2 b2 p => p.ext k1⟩
    | false => exact iteF ⟨ρ, μ1, W1, b1, R1, T.All.mono w1 fun r2 b2 p => p.ext k1⟩⟩
theorem ss_drop (he : PE X e (tM B X.K fe)) (hs : swapsWith e none pos.line X.env = pure false := by rfl) : PS X (.Expr e pos) (tS B X.K (sDrop fe)) :=
  PSimp (ps_expr he hs) fun Dn σ H ⟨ρ, μ, W, b, R, w⟩ => ⟨ρ, μ, W, b, R, (T.All.bind w).mono fun d b1 w1 v W1 H1 k1 R1 rv => w1 σ H1 W1 k1 R1⟩
theorem ss_pass : PS X (.Pass pos) (tS B X.K sNext) := PSimp ps_pass fun Dn σ H ⟨ρ, μ, W, b, R, w⟩ => w σ H W .refl R
theorem ss_brk : PS X (.Break pos) (tS B X.K sBrk) := PSimp ps_break fun Dn σ H ⟨ρ, μ, W, b, R, w⟩ => w σ H W .refl R
theorem ss_cnt : PS X (.Continue pos) (tS B X.K sCnt) := PSimp ps_continue fun Dn σ H ⟨ρ, μ, W, b, R, w⟩ => w σ H W .refl R
/-- what is never come to may be any statements -/
theorem sss_bad {sts : List Stmt} {t : TS} (h : PSs X sts t) : PSs X sts (tS B X.K sBad) := PSsimp h fun Dn σ H ⟨ρ, μ, W, b, R, w⟩ => w.elim
theorem ss_bad {s : Stmt} {t : TS} (h : PS X s t) : PS X s (tS B X.K sBad) := PSimp h fun Dn σ H ⟨ρ, μ, W, b, R, w⟩ => w.elim
/-- a thing of the store stays as it is from now on -/
theorem sss_frz (i : Nat) {sts : List Stmt} (hn : ∀ (ρ : Env') (μ : Mu) (W : Ow) (b : Nat) (H : Hp) (σ : L2.St), Rep B X.K ρ μ W b H σ → B.W0.c = []) (hh : PSs X sts (tS B X.K f)) : PSs X sts (tS B X.K (sFrz i f)) :=
  PSsimp hh fun Dn σ H ⟨ρ, μ, W, b, R, w⟩ => by
    obtain ⟨⟨n, d⟩, e, w⟩ := T.All.ofO (T.All.bind w)
    unfold frzAt at e
    split at e
    · rename_i n' hi
      cases e1 : μ[n']?.bind ceD with
      | none => rw [e1] at e; exact (nos e).elim
      | some d' =>
        rw [e1] at e
        cases e
        obtain ⟨c, ec, ed⟩ := bind_some e1
        obtain ⟨v, h1, h2⟩ := R.slot i _ hi
        cases h2 with
        | z h2 => rw [R.st.dd _ c h2 ec] at ed; exact (nos ed).elim
        | @r a _ h2 =>
          have ex : Ext B.g.pa W H (W.frz n a) H := ext_frz h2
          have h0 : ¬ NT B.H0 a := by
            rcases R.ext.hc n a h2 with q | ⟨_, q⟩
            · have := hn ρ μ W b H σ R
              rw [this] at q; exact nomatch q
            · exact q
          have R2 : Rep B X.K ρ (μ.set n .dead) (W.frz n a) b H σ := R.go ex (st_frz R.st h2) fun x hx => mem_fil.mpr ⟨R.mono x hx, fun z => h0 (by rw [← z]; exact R.base x hx)⟩
          have rv : RV B.g X.K (W.frz n a).o H (.ref a) d := ce_rv (R.st.cell n c a ec h2) ed (fun x hx => (mem_fil.mp hx).1) fun z => (mem_fil.mp z).2 rfl
          have R3 := R2.put i (.t rv)
          have hset : σ.set i (some (.ref a)) = σ := by
            apply List.ext_getElem?
            intro j
            by_cases q : i = j
            · subst q; rw [List.getElem?_set_self (get_lt h1), h1]
            · rw [List.getElem?_set_ne q]
          rw [hset] at R3
          exact ⟨_, _, _, b, R3, T.All.mono w fun r b1 q => q.ext ex⟩
    · exact (nos e).elim

/-! ### what is done to things of the store -/
def refOf : Vd → Option Nat
  | .r n => some n
  | _ => none
def lstAt (μ : Mu) (n : Nat) : Option (List D) := match μ[n]? with
  | some (.lst ds) => some ds
  | _ => none
theorem lstAt_some {μ : Mu} {n : Nat} {ds : List D} (h : lstAt μ n = some ds) : μ[n]? = some (.lst ds) := by
  unfold lstAt at h
  split at h
  · rename_i ds' e; cases h; exact e
  · cases h
theorem refOf_some {x : Vd} {n : Nat} (h : refOf x = some n) : x = .r n := by
  cases x with
  | t d => cases h
  | r m => cases h; rfl
theorem live {g : Gh} {K : PySem.W.Frag} {W : Ow} {μ : Mu} {b : Nat} {H : Hp} {v : V} {n : Nat} {c : Ce} (s : StOk g K W μ b H) (r : RW g K W H v (.r n)) (e : μ[n]? = some c) (hd : c ≠ .dead) : ∃ a, v = .ref a ∧ W.c[n]? = some (some a) ∧ RC g K W H a c := by
  cases r with
  | r h => exact ⟨_, rfl, h, s.cell n c _ e h⟩
  | z h => exact (hd (s.dd n c h e)).elim
theorem live2 {g : Gh} {K : PySem.W.Frag} {W W1 : Ow} {μ : Mu} {b : Nat} {H H1 : Hp} {a : Addr} {n : Nat} {c : Ce} (s : StOk g K W1 μ b H1) (h : W.c[n]? = some (some a)) (k : Ext g.pa W H W1 H1) (e : μ[n]? = some c) (hd : c ≠ .dead) : W1.c[n]? = some (some a) ∧ RC g K W1 H1 a c := by
  rcases k.pre n _ h with q | q
  · exact ⟨q, s.cell n c _ e q⟩
  · exact (hd (s.dd n c q e)).elim
def eApp (fo f : FE) : FE := fun ρ μ => (fo ρ μ).bind fun o => (T.ofO (refOf o.1)).bind fun n => (T.ofO (lstAt o.2 n)).bind fun _ => (f ρ o.2).bind fun p => (T.ofO (tOf p.1)).bind fun d => (T.ofO (lstAt p.2 n)).bind fun ds =>
  if ds.length ≤ lim then .ret (.t .non, p.2.set n (.lst (ds ++ [d]))) else .bad
theorem se_app {o : Expr} {fo f : FE} {apos cpos : Pos} (ho : PE X o (tM B X.K fo)) (ha : PE X e (tM B X.K f))
    (hs0 : starEach [e] X.env = (false, eval e X.env) :: starEach [] X.env := by rfl)
    (hbase : attributeBase o "append" X.env (eval o X.env) = eval o X.env := by rfl)
    (hfew : ((backTo cpos (starEach [e] X.env)).all (fun x => !x.1) && (backToKw cpos (keywordEach [] X.env)).all (fun x => x.1.isSome) && decide (([e] : List Expr).length + ([] : List Keyword).length + (if ([] : List Keyword).isEmpty then 0 else 1) < 30)) = true := by rfl)
    (hline : (apos.endLine == cpos.line) = true := by rfl) (hplain : (backTo cpos (starEach [] X.env)).any (·.1) = false := by rfl) :
    PE X (.Call (.Attribute o "append" apos) [e] [] cpos) (tM B X.K (eApp fo f)) :=
  PEimp (pe_bm PySem.F.plainAttrs_list PySem.F.slot_list_append PySem.F.type_list_append mt_append ho (pa_cons ha pa_nil hs0) hbase hfew hline hs0 hplain) fun σ H Q ⟨ρ, μ, W, b, R, w⟩ => ⟨ρ, μ, W, b, R, (T.All.bind w).mono fun p1 b1 w1 v1 W1 H1 k1 R1 r1 => by
    obtain ⟨n, en, w1⟩ := T.All.ofO (T.All.bind w1)
    obtain ⟨ds0, el, w1⟩ := T.All.ofO (T.All.bind w1)
    rw [refOf_some en] at r1
    obtain ⟨a, rfl, hc, rc⟩ := live R1.st r1 (lstAt_some el) (fun z => nomatch z)
    cases rc with
    | @lst vs ds0 g5 _ =>
    refine ⟨.inl ⟨rfl, vs, .inl (.inl g5)⟩, ρ, _, W1, b1, R1, (T.All.bind w1).mono fun p2 b2 w2 v2 W2 H2 k2 R2 r2 => ?_⟩
    obtain ⟨d, ed, w2⟩ := T.All.ofO (T.All.bind w2)
    obtain ⟨ds, el2, w2⟩ := T.All.ofO (T.All.bind w2)
    obtain ⟨hc2, rc2⟩ := live2 R2.st hc k2 (lstAt_some el2) (fun z => nomatch z)
    cases rc2 with
    | @lst vs2 ds g6 rs =>
    have rd := tof r2 ed
    by_cases hl : ds.length ≤ lim
    · rw [if_pos hl] at w2
      have kk : KpO W2.o H2 (upd H2 a (.lst (vs2 ++ [v2]))) := kO_set R2.st hc2
      have st2 := st_set (ob := .lst (vs2 ++ [v2])) (c := .lst (ds ++ [d])) R2.st hc2 (lstAt_some el2) (.lst upd_same ((rs.append (.cons rd .nil)).keep kk hs_refl))
      have ex2 : Ext B.g.pa W2 H2 W2 (upd H2 a (.lst (vs2 ++ [v2]))) := ext_set hc2 .lst
      refine ⟨a, vs2, v2, rfl, rfl, g6, ?_, w2 _ W2 _ ((k1.trans k2).trans ex2) (R2.go ex2 st2 R2.mono) (.t .non)⟩
      rw [rs.length]; exact Nat.lt_of_le_of_lt hl (by decide)
    · rw [if_neg hl] at w2; exact w2.elim⟩
end
end Y

set_option Elab.async false
set_option linter.all false
set_option maxRecDepth 100000
set_option maxHeartbeats 1000000
/-! Y10: loops, bodies of defs. -/
namespace Y
open PySem PySem.Spec PyProof.Rows L2
section
variable {X : Cx} {B : Bd} {tgE iter c : Expr} {body rest : List Stmt} {pos : Pos} {src : FI} {f : FS} {tg : Tg} {k : FT'}
theorem for_imp {K : PySem.W.Frag} {tb : TS} (hb : ∀ Dn σ H, tS B K f Dn σ H → tb Dn σ H) (Dn : Ends) (σ : L2.St) (H : Hp) (h : tS B K (sFor tg src f) Dn σ H) : tFor (tI B K src) (gOf K tg) tb Dn σ H := by
  obtain ⟨ρ, μ, W, b, R, w⟩ := h
  refine ⟨ρ, μ, W, b, R, (T.All.bind w).mono fun p n1 w1 J W1 H1 k1 R1 yl => ?_⟩
  obtain ⟨xs, μ1⟩ := p
  refine ⟨fun i m τ H' => ∃ ρ' μ' W' b', m = xs.length - i ∧ i ≤ xs.length ∧ Ext B.g.pa W1 H1 W' H' ∧ Rep B K ρ' μ' W' b' H' τ ∧ (loop tg f (xs.drop i) ρ' μ').All b' (Post B K Dn W1 H1) B.Y,
    ⟨xs.length, ρ, μ1, W1, n1, by simp, Nat.zero_le _, .refl, R1, by rw [List.drop_zero]; exact T.All.mono w1 fun r b q => q.ext k1⟩, ?_⟩
  rintro i m τ H' ⟨ρ', μ', W', b', rfl, hi, ex, R2, hall⟩
  by_cases hlt : i < xs.length
  · refine .inr ⟨yl.go i _ _ (R1.st.ek ex) hlt, fun τ' H2 => ∃ ρ' μ' W' b', i + 1 ≤ xs.length ∧ Ext B.g.pa W1 H1 W' H2 ∧ Rep B K ρ' μ' W' b' H2 τ' ∧ (loop tg f (xs.drop (i + 1)) ρ' μ').All b' (Post B K Dn W1 H1) B.Y,
      fun τ' H2 ⟨ρ2, μ2, W2, b2, q1, q2⟩ => ⟨xs.length - (i + 1), by omega, ρ2, μ2, W2, b2, rfl, q1, q2⟩, fun x H2 hy => ?_⟩
    obtain ⟨s2, rx⟩ := yl.yld i W'.o H' x H2 _ (R1.st.ek ex) R2.st.there (List.getElem?_eq_getElem hlt) hy
    rw [List.drop_eq_getElem_cons hlt] at hall
    obtain ⟨ρ2, ep, hall⟩ := T.All.ofO (T.All.bind hall)
    refine put_ok (R2.same s2) rx ep fun vs R3 => hb _ _ _ ⟨ρ2, μ', W', b', R3, (T.All.bind hall).mono fun r b3 w3 => ?_⟩
    have e2 : Ext B.g.pa W1 H1 W' H2 := ex.trans (.same s2)
    cases r with
    | nx ρ3 μ3 => exact fun σ3 H3 W3 e3 R4 => ⟨ρ3, μ3, W3, b3, hlt, e2.trans e3, R4, w3⟩
    | ct ρ3 μ3 => exact fun σ3 H3 W3 e3 R4 => ⟨ρ3, μ3, W3, b3, hlt, e2.trans e3, R4, w3⟩
    | bk ρ3 μ3 => exact fun σ3 H3 W3 e3 R4 => w3 σ3 H3 W3 (e2.trans e3) R4
    | rt d => exact w3
  · have e : i = xs.length := by omega
    subst e
    rw [List.drop_length] at hall
    exact .inl ⟨yl.stop _ _ _ (R1.st.ek ex) (Nat.le_refl _), hall τ H' W' ex R2⟩
theorem ss_for (hp : PassesOwn (model X.prog X.w) X.A X.env X.xe) (hc : X.calm = true) (hi : PI X tgE iter (tI B X.K src)) (hg : PG X tgE (gOf X.K tg)) (hb : PSs X body (tS B X.K f))
    (hs : ∀ x, foldedSetIterable iter X.env x = pure x := by intro _; rfl) : PS X (.For tgE iter body [] pos) (tS B X.K (sFor tg src f)) :=
  PSimp (ps_for hp hc hi hg hb hs) (for_imp fun _ _ _ h => h)
/-- a while, n turns at most -/
theorem ss_while (n : Env' → Mu → Nat) (hp : PassesOwn (model X.prog X.w) X.A X.env X.xe) (hc : PT X c (tK B X.K k)) (hb : PSs X body (tS B X.K f)) : PS X (.While c body [] pos) (tS B X.K fun ρ μ => whl k f (n ρ μ) ρ μ) :=
  PSimp (ps_while hp hc hb) fun Dn σ H ⟨ρ, μ, W, b, R, w⟩ => by
    refine ⟨fun m τ H' => ∃ ρ' μ' W' b', Ext B.g.pa W H W' H' ∧ Rep B X.K ρ' μ' W' b' H' τ ∧ (whl k f m ρ' μ').All b' (Post B X.K Dn W H) B.Y, ⟨n ρ μ, ρ, μ, W, b, .refl, R, w⟩, ?_⟩
    rintro m τ H' ⟨ρ', μ', W', b', ex, R2, hall⟩
    cases m with
    | zero => exact hall.elim
    | succ m =>
      refine ⟨ρ', μ', W', b', R2, (T.All.bind hall).mono fun p b1 w1 W1 H1 k1 R3 => ?_⟩
      obtain ⟨kk, μ1⟩ := p
      have e1 : Ext B.g.pa W H W1 H1 := ex.trans k1
      cases kk with
      | false => exact iteF (w1 τ H1 W1 e1 R3)
      | true =>
        refine iteT ⟨fun τ' H2 => ∃ ρ' μ' W' b', Ext B.g.pa W H W' H2 ∧ Rep B X.K ρ' μ' W' b' H2 τ' ∧ (whl k f m ρ' μ').All b' (Post B X.K Dn W H) B.Y, fun τ' H2 q => ⟨m, Nat.lt_succ_self m, q⟩, ρ', μ1, W1, b1, R3, (T.All.bind w1).mono fun r b3 w3 => ?_⟩
        cases r with
        | nx ρ3 μ3 => exact fun σ3 H3 W3 e3 R4 => ⟨ρ3, μ3, W3, b3, e1.trans e3, R4, w3⟩
        | ct ρ3 μ3 => exact fun σ3 H3 W3 e3 R4 => ⟨ρ3, μ3, W3, b3, e1.trans e3, R4, w3⟩
        | bk ρ3 μ3 => exact fun σ3 H3 W3 e3 R4 => w3 σ3 H3 W3 (e1.trans e3) R4
        | rt d => exact w3
/-! targets -/
theorem sg_one (i : Nat) {x : Str} (hN : X.N.Nodup) (hi : X.N[i]? = some x := by rfl) (hx : Loc X.env.scope x := by first | exact Or.inl rfl | exact Or.inr rfl) (hf : X.fn x = true ∨ X.env.scope.names.lookup x = some .local := by first | exact .inl rfl | exact .inr rfl) : PG X (.Name x pos) (gOf X.K (.one i)) := pg_name hN hi hx hf
theorem sg_nil : PGs X [] (gsOf []) := pgs_nil
theorem sg_cons {es : List Expr} {is : List Nat} (i : Nat) {x : Str} {p1 : Pos} (hN : X.N.Nodup) (h : PGs X es (gsOf is)) (hi : X.N[i]? = some x := by rfl) (hx : Loc X.env.scope x := by first | exact Or.inl rfl | exact Or.inr rfl) (hf : X.fn x = true ∨ X.env.scope.names.lookup x = some .local := by first | exact .inl rfl | exact .inr rfl)
    (hs : ∀ e ∈ ([.Name x p1] : List Expr), True := by intro _ _; trivial) : PGs X (.Name x p1 :: es) (gsOf (i :: is)) := pgs_cons (pg_name hN hi hx hf) h
theorem sg_tup {es : List Expr} {is : List Nat} {kk : Nat} (hc : X.calm = true) (h : PGs X es (gsOf is)) (hn : (assignEach es X.env).length = is.length := by rfl) (hst : (assignEach es X.env).findIdx? (·.1) = none := by rfl) : PG X (.Tuple es kk pos) (gOf X.K (.tup is)) :=
  pg_tup hc h hn hst
end

/-! ### bodies -/
/-- the slots at the entry -/
def ini (n : Nat) (xs : List Vd) : Env' := xs.map some ++ List.replicate (n - xs.length) none
def finS (r : Fl) : T (Vd × Mu) := match r with
  | .nx _ μ => .ret (.t .non, μ)
  | .rt x μ => .ret (x, μ)
  | _ => .bad
def finP (r : Fl) : T D := match r with
  | .nx _ _ => .ret .non
  | .rt x μ => T.ofO (frz μ 6 x)
  | _ => .bad
/-- the function of a body: N slots, n parameters -/
def fnS (N n : Nat) (f : FS) : List Vd → Mu → T (Vd × Mu) := fun xs μ => if xs.length = n then (f (ini N xs) μ).bind finS else .bad
def fnP (N n : Nat) (f : FS) : List D → T D := fun ds => if ds.length = n then (f (ini N (ds.map .t)) []).bind finP else .bad
theorem ar_fnS {N n : Nat} {f : FS} : ArS n (fnS N n f) := fun ds μ h => by unfold fnS; rw [if_neg h]
theorem ar_fnP {N n : Nat} {f : FS} : Ar n (fnP N n f) := fun ds h => by unfold fnP; rw [if_neg h]
theorem ini_rep {g : Gh} {K : PySem.W.Frag} {W : Ow} {μ : Mu} {H : Hp} {Y : XP} {b : Nat} {N : List Str} {vs : List V} {xs : List Vd} (r : RWs g K W H vs xs) (s : StOk g K W μ b H) (hl : vs.length ≤ N.length) :
    Rep ⟨g, H, W, Y⟩ K (ini N.length xs) μ W b H (start N vs) := by
  refine ⟨?_, fun i d e => ?_, s, .refl, fun _ h => h, s.NTo, fun a e => ⟨(s.pen a e).1, (s.pen a e).2.1⟩⟩
  · unfold L2.start ini
    rw [List.length_append, List.length_append, List.length_map, List.length_map, List.length_replicate, List.length_replicate, r.length]
  · have e0 : xs[i]? = some d := by
      unfold ini at e
      by_cases hi : i < xs.length
      · rw [List.getElem?_append_left (by rw [List.length_map]; exact hi), List.getElem?_map] at e
        cases q : xs[i]? with
        | none => rw [q] at e; cases e
        | some d' => rw [q] at e; exact Option.some.inj e
      · rw [List.getElem?_append_right (by rw [List.length_map]; omega), List.getElem?_replicate] at e
        split at e
        · exact nomatch e
        · cases e
    obtain ⟨v, h3, h4⟩ := r.get e0
    refine ⟨v, ?_, h4⟩
    unfold L2.start
    rw [List.getElem?_append_left (by rw [List.length_map]; exact get_lt h3), List.getElem?_map, h3]
    rfl
section
variable {P : Program} {w : World} {K : PySem.W.Frag} {mg : Str → Option Value} {base : Heap}
/-- a def by its body's walk -/
theorem fnG_raw {x qual : Str} {st : Stmt} {f : Addr} {fd : FuncData} {N ps : List Str} {k : Nat} {sp : Sp} (F : Fun K x qual st f fd) (S : FnScope N ps (defScope st)) (len : ∀ vs H Q E, sp vs H Q E → vs.length = ps.length)
    (hbody : ∀ (cdv : Value) (A : Around) (outer : List Env) (s : Shared) (H : Hp) (vs : List V) (Q : VK) (E : XK), Rm k (A.deeper (envOfC qual (defScope st) s.heap.objs.size f cdv)) → sp vs H Q E →
      ∃ t, PSs (cxOf (L2.CX P w) P w K mg base N qual (defScope st) f cdv A outer s H E) (defBody st) t ∧ t { nx := fun _ H' => Q .non H', rt := Q } (start N vs) H) : FnG P w K mg base (k + 1) f fd ps sp := by
  obtain ⟨oc, od, kV, doc, pm, an, cdv, ct, osl, rfl, lk, hcd⟩ := F.ex
  refine ⟨len, fun A outer s H args us vs Q E hr e0 hb r hsp => ?_⟩
  have KX : K.In s.heap := e0.mod.kin.keeps fun b o e => (e0.bs b o e).1
  have lim0 : s.heap.NoLimit := e0.mod.nolimit.keeps fun b o e => (e0.bs b o e).1
  have hkind : ∀ y ∈ ps.zip us, (defScope st).names.lookup y.1 = some .local ∨ ((defScope st).names.lookup y.1 = some .cell ∧ ((cellsFrom (s.heap.objs.size + 1) (defScope st).names []).lookup y.1).isSome = true) := by
    rintro ⟨n, v⟩ hy
    exact (S.par n (List.of_mem_zip hy).1).imp id fun q => ⟨q, PySem.W.cellsFrom_some _ _ _ (.inl q)⟩
  refine codeAny_call_function hr.room.depth (KX _ _ lk) rfl S.co S.gen rfl (PySem.W.codeRec_of KX hcd) (hb _ _ _ _ (wpAny_newFunctionEnv_cells S.kind hkind fun env he s1 xx => ?_))
  subst he
  refine ⟨lim0.keeps xx.toInCall.keep, codeAny_func ?_⟩
  obtain ⟨t, ht, hq⟩ := hbody cdv A outer s H vs Q E ⟨hr.room.deeper _, hr.gd⟩ hsp
  have I : Inv (cxOf (L2.CX P w) P w K mg base N qual (defScope st) f cdv A outer s H E) [] (start N vs) H s1 := inv_start S hr.room.hd e0 (len _ _ _ _ hsp) r xx
  refine wpAny_mono (ht.run [] s1 (start N vs) H _ I hq) (fun fl s' hs => ?_) fun e s' hs => hs
  match fl, hs with
  | .ret u, ⟨v, σ', H', J, rv, q⟩ => exact ⟨v, H', J.os, J.bare, J.base, J.hok, rv, q⟩
  | .next, ⟨σ', H', J, q⟩ => exact ⟨.non, H', J.os, J.bare, J.base, J.hok, rfl, q⟩
  | .brk, ⟨_, _, _, q⟩ => exact q.elim
  | .cont, ⟨_, _, _, q⟩ => exact q.elim
theorem pen_of {pa : Option Addr} {W : Ow} {H : Hp} {b : Nat} {O : List Addr} (p : PenOk pa W H b) (hO : ∀ x ∈ O, x ∈ W.o) (hp : ∀ a, pa = some a → a ∈ O) : PenOk pa (pureW O) H b := fun a e => by
  obtain ⟨_, _, c, t, r, cells, h1, h2, h3, h4⟩ := p a e
  exact ⟨hp a e, (fun z => nomatch z), c, t, r, cells, h1, h2, fun z => h3 (hO c z), h4⟩
/-- a def of data that is the function of its body -/
theorem fnG_P {CL : Nat → Addr} {x qual : Str} {st : Stmt} {f : Addr} {fd : FuncData} {k : Nat} {fs : FS} {F0 : List D → T D} (N ps : List Str) (n m : Nat) (hF : F0 = fnP n m fs) (hn : N.length = n) (hm : ps.length = m) (F : Fun K x qual st f fd) (S : FnScope N ps (defScope st))
    (hbody : ∀ (cdv : Value) (A : Around) (outer : List Env) (s : Shared) (H : Hp) (E : XK) (B : Bd), Rm k (A.deeper (envOfC qual (defScope st) s.heap.objs.size f cdv)) → LetsT (cxOf (L2.CX P w) P w K mg base N qual (defScope st) f cdv A outer s H E) B → B.g.cl = CL → B.W0.c = [] →
      PSs (cxOf (L2.CX P w) P w K mg base N qual (defScope st) f cdv A outer s H E) (defBody st) (tS B K fs)) : FnG P w K mg base (k + 1) f fd ps (spD CL K m F0) := by
  subst hn; subst hm; subst hF
  refine fnG_raw F S (fun vs H Q E h => h.1) fun cdv A outer s H vs Q E hr h => ?_
  obtain ⟨hl, g, O, b, ds, hcl, th, nt, pen, tb, rv, hall⟩ := h
  have hpl : vs.length ≤ N.length := by
    have := congrArg List.length S.pre
    rw [List.length_take] at this; omega
  have hdl : ds.length = ps.length := rv.length.symm.trans hl
  have st0 : StOk g K (pureW O) [] b H := ⟨(fun _ h => nomatch h), (fun i j a h => by simp [pureW] at h), rfl, (fun i c a h => by simp at h), th, pen, tb, (fun n c h => by simp [pureW] at h), nt⟩
  have tk : Takes (cxOf (L2.CX P w) P w K mg base N qual (defScope st) f cdv A outer s H E) (fun cls d _ H => E cls d H) := takes_of rfl rfl rfl rfl
  refine ⟨_, hbody cdv A outer s H E ⟨g, H, pureW O, fun C fs es b' => ∀ d H', PK g (pureW O) b' H H' → ExAt g K H O d fs es H' → E (.ref (g.cl C)) (some d) H'⟩ hr ⟨E, tk, fun C fs es b' d H' y k1 x1 => y d H' k1 x1⟩ hcl rfl, ini N.length (ds.map .t), [], pureW O, b, ini_rep rv.ws st0 hpl, ?_⟩
  unfold fnP at hall
  rw [if_pos hdl] at hall
  refine (T.All.bind hall).mono fun r b1 q => ?_
  have pk : ∀ {W' : Ow} {μ' : Mu} {H' : Hp}, Ext g.pa (pureW O) H W' H' → StOk g K W' μ' b1 H' → (∀ a ∈ O, a ∈ W'.o) → PK g (pureW O) b1 H H' := fun e s m =>
    ⟨e.kp, pen_of s.pen m fun a z => (pen a z).1, e.al, s.tabs⟩
  cases r with
  | nx ρ μ => exact fun σ' H' W' e R => q .non H' (pk e R.st R.mono) .non
  | rt x μ =>
    intro v W' H' e s m rx
    obtain ⟨d, ed, q⟩ := T.All.ofO q
    refine q v H' (pk e s m) (frz_rv s m (fun a ha z => ?_) 6 x rx ed)
    obtain ⟨i, hi⟩ := mem_get ha
    rcases e.hc i a hi with q | ⟨_, q⟩
    · exact nomatch (show ([] : List (Option Addr))[i]? = some (some a) from q)
    · exact q (nt_of th nt a z)
  | bk ρ => exact q.elim
  | ct ρ => exact q.elim
/-- a def of data and the store -/
theorem fnG_S {CL : Nat → Addr} {x qual : Str} {st : Stmt} {f : Addr} {fd : FuncData} {k : Nat} {fs : FS} {F0 : List Vd → Mu → T (Vd × Mu)} (N ps : List Str) (n m : Nat) (hF : F0 = fnS n m fs) (hn : N.length = n) (hm : ps.length = m) (F : Fun K x qual st f fd) (S : FnScope N ps (defScope st))
    (hbody : ∀ (cdv : Value) (A : Around) (outer : List Env) (s : Shared) (H : Hp) (E : XK) (B : Bd), Rm k (A.deeper (envOfC qual (defScope st) s.heap.objs.size f cdv)) → LetsT (cxOf (L2.CX P w) P w K mg base N qual (defScope st) f cdv A outer s H E) B → B.g.cl = CL →
      PSs (cxOf (L2.CX P w) P w K mg base N qual (defScope st) f cdv A outer s H E) (defBody st) (tS B K fs)) : FnG P w K mg base (k + 1) f fd ps (spS CL K m F0) := by
  subst hn; subst hm; subst hF
  refine fnG_raw F S (fun vs H Q E h => h.1) fun cdv A outer s H vs Q E hr h => ?_
  obtain ⟨hl, g, W, μ, b, xs, hcl, st0, rv, hall⟩ := h
  have hpl : vs.length ≤ N.length := by
    have := congrArg List.length S.pre
    rw [List.length_take] at this; omega
  have hdl : xs.length = ps.length := rv.length.symm.trans hl
  have tk : Takes (cxOf (L2.CX P w) P w K mg base N qual (defScope st) f cdv A outer s H E) (fun cls d _ H => E cls d H) := takes_of rfl rfl rfl rfl
  refine ⟨_, hbody cdv A outer s H E ⟨g, H, W, fun C fs es b' => ∀ d H', PK g W b' H H' → ExAt g K H W.o d fs es H' → E (.ref (g.cl C)) (some d) H'⟩ hr ⟨E, tk, fun C fs es b' d H' y k1 x1 => y d H' k1 x1⟩ hcl, ini N.length xs, μ, W, b, ini_rep rv st0 hpl, ?_⟩
  unfold fnS at hall
  rw [if_pos hdl] at hall
  refine (T.All.bind hall).mono fun r b1 q => ?_
  cases r with
  | nx ρ μ => exact fun σ' H' W' e R => q .non W' H' e R.st R.mono (.t .non)
  | rt x μ => exact fun v W' H' e s m rx => q v W' H' e s m rx
  | bk ρ => exact q.elim
  | ct ρ => exact q.elim
theorem fn_mk {CL : Nat → Addr} {x : Str} {f : Addr} {fd : FuncData} {ps : List Str} {k n : Nat} {F0 : List D → T D} (hk : PySem.W.keepIn K (.ref f) = true) (hn : ps.length = n) (hm : mg x = some (.ref f)) (hb : Binds K fd ps []) (G : FnG P w K mg base k f fd ps (spD CL K n F0)) : Fn P w K mg base CL k x n F0 :=
  ⟨f, fd, ps, hm, hk, hb, hn, G⟩
theorem fns_mk {CL : Nat → Addr} {x : Str} {f : Addr} {fd : FuncData} {ps : List Str} {k n : Nat} {F0 : List Vd → Mu → T (Vd × Mu)} (hk : PySem.W.keepIn K (.ref f) = true) (hn : ps.length = n) (hm : mg x = some (.ref f)) (hb : Binds K fd ps []) (G : FnG P w K mg base k f fd ps (spS CL K n F0)) : FnS P w K mg base CL k x n F0 :=
  ⟨f, fd, ps, hm, hk, hb, hn, G⟩
/-! defs that call themselves -/
def dBad : List D → T D := fun _ => .bad
theorem ar_dBad {n : Nat} : Ar n dBad := fun _ _ => rfl
/-- of the function that is told nowhere everything is true -/
theorem fnG_bad {CL : Nat → Addr} {f : Addr} {fd : FuncData} {ps : List Str} (k : Nat) : FnG P w K mg base k f fd ps (spD CL K ps.length dBad) :=
  ⟨fun vs H Q E h => h.1, fun A outer s H args us vs Q E _ _ _ _ h => by
    obtain ⟨_, g, O, b, ds, _, _, _, _, _, _, z⟩ := h
    exact z.elim⟩
/-- depth by depth -/
def byDepth (step : (List D → T D) → List D → T D) : Nat → List D → T D
  | 0 => dBad
  | n + 1 => step (byDepth step n)
theorem fn_rec {CL : Nat → Addr} {x : Str} {f : Addr} {fd : FuncData} {ps : List Str} {step : (List D → T D) → List D → T D} (k0 m : Nat) (hps : ps.length = m) (hm : mg x = some (.ref f)) (hk : PySem.W.keepIn K (.ref f) = true) (hb : Binds K fd ps [])
    (h : ∀ (k : Nat) (F : List D → T D), k0 ≤ k → Ar m F → Fn P w K mg base CL k x m F → FnG P w K mg base (k + 1) f fd ps (spD CL K m (step F))) (ha : ∀ F, Ar m F → Ar m (step F)) :
    ∀ n : Nat, Fn P w K mg base CL (k0 + n) x m (byDepth step n) ∧ Ar m (byDepth step n)
  | 0 => ⟨⟨f, fd, ps, hm, hk, hb, hps, by subst hps; exact fnG_bad _⟩, ar_dBad⟩
  | n + 1 => by
    obtain ⟨h1, h2⟩ := fn_rec k0 m hps hm hk hb h ha n
    exact ⟨⟨f, fd, ps, hm, hk, hb, hps, h (k0 + n) _ (Nat.le_add_right _ _) h2 h1⟩, ha _ h2⟩
end
end Y

set_option Elab.async false
set_option linter.all false
set_option maxRecDepth 100000
set_option maxHeartbeats 1000000
/-! Y11: keywords, tables, displays of dicts, repr. -/
namespace Y
open PySem PySem.Spec PyProof.Rows L2

/-! ### keywords -/
def pick {α : Type} : List Nat → List α → List α
  | [], _ => []
  | i :: r, xs => match xs[i]? with
    | some x => x :: pick r xs
    | none => pick r xs
theorem pick_vals {vs : List V} {us : List Value} (r : Vals vs us) : ∀ p : List Nat, Vals (pick p vs) (pick p us)
  | [] => .nil
  | i :: p => by
    unfold pick
    cases e : vs[i]? with
    | none =>
      have hu : us[i]? = none := by
        rw [List.getElem?_eq_none_iff] at e ⊢
        rw [← r.length]; exact e
      rw [hu]; exact pick_vals r p
    | some v =>
      have hu : ∃ u, us[i]? = some u ∧ RelV v u := by
        clear pick_vals
        induction r generalizing i with
        | nil => simp at e
        | @cons a b as bs h t ih =>
          cases i with
          | zero => simp at e; subst e; exact ⟨b, rfl, h⟩
          | succ i => simp at e; obtain ⟨u, h1, h2⟩ := ih i e; exact ⟨u, by simpa using h1, h2⟩
      obtain ⟨u, h1, h2⟩ := hu
      rw [h1]; exact .cons h2 (pick_vals r p)
theorem RWs.pick {g : Gh} {K : PySem.W.Frag} {W : Ow} {H : Hp} {vs : List V} {ds : List Vd} (r : RWs g K W H vs ds) : ∀ p : List Nat, RWs g K W H (Y.pick p vs) (Y.pick p ds)
  | [] => .nil
  | i :: p => by
    unfold Y.pick
    cases e : vs[i]? with
    | none =>
      have hu : ds[i]? = none := by
        rw [List.getElem?_eq_none_iff] at e ⊢
        rw [← r.length]; exact e
      rw [hu]; exact RWs.pick r p
    | some d =>
      cases e2 : ds[i]? with
      | none =>
        rw [List.getElem?_eq_none_iff, ← r.length] at e2
        rw [List.getElem?_eq_none e2] at e; cases e
      | some x =>
        obtain ⟨v, h1, h2⟩ := r.get e2
        rw [h1] at e; cases e
        exact .cons h2 (RWs.pick r p)
/-- m arguments, told in the order p -/
def aPick (m : Nat) (p : List Nat) (fa : FA) : FA := fun ρ μ => (fa ρ μ).bind fun q => if q.1.length = m then .ret (pick p q.1, q.2) else .bad
/-- a def of the text, called with us positional values and keywords ks -/
structure FnK (P : Program) (w : World) (K : PySem.W.Frag) (mg : Str → Option Value) (base : Heap) (CL : Nat → Addr) (k : Nat) (x : Str) (n : Nat) (ks : List Str) (p : List Nat) (F : List D → T D) : Prop where
  h : ∃ (f : Addr) (fd : FuncData) (ps : List Str), mg x = some (.ref f) ∧ PySem.W.keepIn K (.ref f) = true ∧ (∀ (s : Shared) (ws : List Value), K.In s.heap → ws.length = ks.length → BindsTo s fd ⟨[], ks.zip ws⟩ (ps.zip (pick p ws))) ∧ ps.length = n ∧ FnG P w K mg base k f fd ps (spD CL K n F)
theorem PKimp {X : Cx} {kws : List Keyword} {t t' : TA} (h : L2.PK X kws t) (k : ∀ σ H Q, t' σ H Q → t σ H Q) : L2.PK X kws t' := ⟨fun pos pins s σ H Q I w => h.run pos pins s σ H Q I (k σ H Q w)⟩
section
variable {X : Cx} {B : Bd} {k j : Nat} {x : Str} {n : Nat} {F : List D → T D} {e : Expr} {kws : List Keyword} {f : FE} {fa : FA} {p : List Nat} {np pos kpos : Pos} {ks : List Str} {nm : Option Str}
theorem sn_nil : L2.PK X [] (tL B X.K aNil) := PKimp pk_nil fun σ H Q ⟨ρ, μ, W, n, R, h⟩ => h [] W H .refl R .nil
theorem sn_cons (ha : PE X e (tM B X.K f)) (hr : L2.PK X kws (tL B X.K fa)) : L2.PK X (⟨nm, e, kpos⟩ :: kws) (tL B X.K (aCons f fa)) :=
  PKimp (pk_cons ha hr) fun σ H Q ⟨ρ, μ, W, n, R, h⟩ => ⟨ρ, μ, W, n, R, (T.All.bind h).mono fun p n1 h1 v1 W1 H1 k1 R1 r1 => ⟨ρ, p.2, W1, n1, R1, (T.All.bind h1).mono fun q n2 h2 vs W2 H2 k2 R2 r2 =>
    h2 _ W2 _ (k1.trans k2) R2 (.cons (r1.ext R1.st k2) r2)⟩⟩
theorem se_callK {CL : Nat → Addr} (m : Nat) (p : List Nat) (h : FnK X.prog X.w X.K X.mg X.base CL j x n ks p F) (hm : ks.length = m) (hn : Ar n F) (hr : Rm k X.A) (hj : j ≤ k) (hx : Lets X B) (hcl : B.g.cl = CL) (hkw : L2.PK X kws (tL B X.K fa)) (hg : Gl X x := by rfl) (hdb : (x == ("__debug__" : Str)) = false := by decide)
    (hall : (backToKw pos (keywordEach kws X.env)).all (·.1.isSome) = true := by rfl) (hks : (backToKw pos (keywordEach kws X.env)).filterMap (·.1) = ks := by rfl)
    (hpl : ((backTo pos (starEach [] X.env)).any (·.1) || (backToKw pos (keywordEach kws X.env)).any (·.1.isNone)) = false := by rfl) : PE X (.Call (.Name x np) [] kws pos) (tM B X.K (eCallF F (aPick m p fa))) := by
  subst hm
  obtain ⟨f, fd, ps, h1, h2, h3, h4, h5⟩ := h.h
  obtain ⟨E, hp, hE⟩ := hx
  refine ⟨fun pins s σ H Q I q => ?_⟩
  have q2 := call_imp hcl (fa := aPick ks.length p fa) hE hn σ H Q q
  have q3 : tL B X.K fa σ H fun vs H1 => vs.length = ks.length ∧ spD CL X.K n F (pick p vs) H1 Q E := by
    obtain ⟨ρ, μ, W, b, R, h⟩ := q2
    refine ⟨ρ, μ, W, b, R, (T.All.bind h).mono fun ds n1 g1 vs W1 H1 k1 R1 r1 => ?_⟩
    by_cases z : ds.1.length = ks.length
    · rw [if_pos z] at g1
      exact ⟨r1.length.trans z, g1 _ W1 H1 k1 R1 (r1.pick p)⟩
    · rw [if_neg z] at g1; exact g1.elim
  refine wpAny_Call_Name_kw (ld_glob I hg h1 ?_ hdb)
  refine PySem.W.callWith_KW0 (h₀ := X.base) I.ok.mod.kin h2 hall ?_ hpl
  refine thn (hkw.run pos pins s σ H _ I q3) fun ws s2 ⟨zs, H2, I2, rz, l2, q4⟩ => ⟨I2.kIn, ?_⟩
  rw [hks]
  refine wpAny_call (codeAny_mono ((h5.mono hj).run X.A X.stack s2 H2 ⟨[], ks.zip ws⟩ (pick p ws) (pick p zs) Q E hr I2.env0 (h3 s2 ws I2.kIn (rz.length.symm.trans l2)) (pick_vals rz p) q4) fun res s' got => ?_)
  match res, got with
  | .error e, got => exact hp pins σ H2 s2 e s' I2 got
  | .ok (.ret u), got => exact I2.after got
  | .ok .next, got => exact got.elim
  | .ok .brk, got => exact got.elim
  | .ok .cont, got => exact got.elim
end

/-! ### tables of the module -/
def tabAt : List (Str × D) → Str → Option D
  | [], _ => none
  | (k, d) :: r, z => if k = z then some d else tabAt r z
structure KTab (K : PySem.W.Frag) (w : World) (mg : Str → Option Value) (x : Str) (tab : List (Str × D)) : Prop where
  h : ∃ d es n, mg x = some (.ref d) ∧ KDict K w d es n ∧ PySem.W.keepIn K (.ref d) = PySem.W.keepIn K (.ref d) ∧
    ∀ z, ∃ r, PySem.W.nsIn K d z = some r ∧ (match tabAt tab z with | some dd => ∃ u v, r = some u ∧ RelV v u ∧ ∀ g O H, RV g K O H v dd | none => r = none)
def opTabGet (tab : List (Str × D)) : D → Option D
  | .str z => some ((tabAt tab z).getD .non)
  | _ => none
def opTabIn (tab : List (Str × D)) : D → Option D
  | .str z => some (.bl (tabAt tab z).isSome)
  | _ => none
def opTabNotIn (tab : List (Str × D)) : D → Option D
  | .str z => some (.bl !(tabAt tab z).isSome)
  | _ => none
def opTabIx (tab : List (Str × D)) : D → Option D
  | .str z => tabAt tab z
  | _ => none
section
variable {X : Cx} {B : Bd} {x : Str} {tab : List (Str × D)} {e : Expr} {f : FE} {np pos apos : Pos}
theorem se_tabIn (t : KTab X.K X.w X.mg x tab) (ha : PE X e (tM B X.K f)) (hg : Gl X x := by rfl) (hdb : (x == ("__debug__" : Str)) = false := by decide) (hm : behindInMarks .In (.Name x np) = false := by first | exact nomark _ | rfl) :
    PE X (.Compare e [.In] [.Name x np] pos) (tM B X.K (eOp1 (opTabIn tab) f)) := by
  obtain ⟨d, es, n, h1, h2, _, h3⟩ := t.h
  refine PEimp (pe_cmpR (op_in_kd h2) ha (pe_glob hg h1 (v := .ref d) rfl hdb) hm) (op1_imp fun g0 O H y a dd Q hO ra ea q => ?_)
  cases ra <;> try exact (nos ea).elim
  rename_i z
  cases ea
  obtain ⟨r, e1, e2⟩ := h3 z
  refine ⟨z, r, rfl, rfl, e1, ?_⟩
  have e3 : r.isSome = (tabAt tab z).isSome := by
    revert e2
    cases tabAt tab z with
    | none => intro e2; have e2 : r = none := e2; subst e2; rfl
    | some dd => intro ⟨u, v, e2, _⟩; subst e2; rfl
  rw [e3]
  exact q _ H (Same.refl H) (.bl _)
theorem se_tabNotIn (t : KTab X.K X.w X.mg x tab) (ha : PE X e (tM B X.K f)) (hg : Gl X x := by rfl) (hdb : (x == ("__debug__" : Str)) = false := by decide) (hm : behindInMarks .NotIn (.Name x np) = false := by first | exact nomark _ | rfl) :
    PE X (.Compare e [.NotIn] [.Name x np] pos) (tM B X.K (eOp1 (opTabNotIn tab) f)) := by
  obtain ⟨d, es, n, h1, h2, _, h3⟩ := t.h
  refine PEimp (pe_cmpR (op_notIn_kd h2) ha (pe_glob hg h1 (v := .ref d) rfl hdb) hm) (op1_imp fun g0 O H y a dd Q hO ra ea q => ?_)
  cases ra <;> try exact (nos ea).elim
  rename_i z
  cases ea
  obtain ⟨r, e1, e2⟩ := h3 z
  refine ⟨z, r, rfl, rfl, e1, ?_⟩
  have e3 : r.isSome = (tabAt tab z).isSome := by
    revert e2
    cases tabAt tab z with
    | none => intro e2; have e2 : r = none := e2; subst e2; rfl
    | some dd => intro ⟨u, v, e2, _⟩; subst e2; rfl
  rw [e3]
  exact q _ H (Same.refl H) (.bl _)
theorem tab_sk {kk : FE} (h : PE X e (tM B X.K kk)) (he : ∀ whole, isTrue e X.env whole = (do let v ← whole; standAt e.pos; holding [v] (truthy v)) := by intro _; rfl) : PT X e (tK B X.K (kTru kk)) := sk_tru h he
/-- TABLE.get(key) -/
theorem se_tabGet (t : KTab X.K X.w X.mg x tab) (ha : PE X e (tM B X.K f)) (m : M1 X (.Name x np) "get" apos e pos) (hg : Gl X x := by rfl) (hdb : (x == ("__debug__" : Str)) = false := by decide) :
    PE X (.Call (.Attribute (.Name x np) "get" apos) [e] [] pos) (tM B X.K (eOp1 (opTabGet tab) f)) := by
  obtain ⟨d, es, n, h1, h2, _, h3⟩ := t.h
  refine ⟨fun pins s σ H Q I h => ?_⟩
  refine wpAny_Call_method m.base m.few m.line PySem.F.plainAttrs_dict PySem.F.slot_dict_get PySem.F.type_dict_get ?_
  refine ld_glob I hg h1 ⟨kd_type h2 I, fun b q => ?_, ?_⟩ hdb
  · cases q
    exact ⟨_, I.kIn _ _ h2.at_, rfl⟩
  rw [m.trees]
  refine Calls.callWith_builtin rfl (Calls.evalArgs_plain (Calls.spliced_cons (thn (ha.run pins s σ H _ I (op1_imp (K := X.K) (r := fun y H2 Q => ∃ z, y = .str z ∧ ∀ v, (∀ g O H, RV g X.K O H v ((tabAt tab z).getD .non)) → Q v H2) (fun g0 O H y a dd Q hO ra ea q => ?_) σ H Q h)) fun iv s2 ⟨y, H2, I2, ry, z, ey, q2⟩ => Calls.spliced_nil ?_)))
  · cases ra <;> try exact (nos ea).elim
    rename_i z
    cases ea
    exact ⟨z, rfl, fun v rv => q v H (Same.refl H) (rv _ _ _)⟩
  subst ey
  obtain ⟨tk, rfl⟩ := ry
  refine call_meetsIn PySem.F.slot_dict_get (kd_type h2 I2) PySem.F.entry_dict_get (PySem.F.args_dict_get_2 _ _) (meets_dict_get (strKind X.prog X.w) d (PySem.strKind_is X.prog X.w z tk) h2.low) ⟨_, PySem.W.mapOf_K (prog := X.prog) I2.kIn h2.at_ h2.lit, ?_⟩
  obtain ⟨r, e1, e2⟩ := h3 z
  rw [PySem.W.find_K h2.at_ e1]
  revert e2
  cases e3 : tabAt tab z with
  | none => intro e2; have e2 : r = none := e2; subst e2; exact ⟨.non, H2, I2.tok _, rfl, q2 _ fun g O H => by rw [e3]; exact .non⟩
  | some dd => intro ⟨u, v, e2, rv, e4⟩; subst e2; exact ⟨v, H2, I2.tok _, rv, q2 v fun g O H => by rw [e3]; exact e4 g O H⟩
end

theorem merge_nodup : ∀ (more acc : List (Key × V)), (∀ p ∈ more, valV acc p.1 = none) → (more.map (·.1)).Nodup → mergeK acc more = acc ++ more
  | [], acc, _, _ => (List.append_nil acc).symm
  | p :: r, acc, h, nd => by
    have hp := h p List.mem_cons_self
    rw [List.map_cons, List.nodup_cons] at nd
    show mergeK (putK acc p.1 p.2) r = _
    rw [putK_new p.2 hp, merge_nodup r (acc ++ [(p.1, p.2)]) (fun q hq => ?_) nd.2, List.append_assoc]; rfl
    rw [valV_snoc p.1 q.1 p.2 acc hp, if_neg, h q (List.mem_cons_of_mem _ hq)]
    intro z
    exact nd.1 (by rw [← z]; exact List.mem_map_of_mem hq)
theorem zip_map_fst : ∀ {ks : List Key} {vs : List V}, ks.length = vs.length → (ks.zip vs).map (·.1) = ks
  | [], [], _ => rfl
  | k :: ks, v :: vs, h => by
    show k :: (ks.zip vs).map (·.1) = _
    rw [zip_map_fst (by simpa using h)]
  | [], _ :: _, h => by cases h
  | _ :: _, [], h => by cases h
theorem zip_map_kV : ∀ (ks : List Key) (vs : List V), (ks.map kV).zip vs = (ks.zip vs).map fun kv => (kV kv.1, kv.2)
  | [], _ => rfl
  | _ :: _, [] => rfl
  | k :: ks, v :: vs => by
    exact congrArg ((kV k, v) :: ·) (zip_map_kV ks vs)
/-- the pairs of a display with written keys -/
structure SPs (X : Cx) (B : Bd) (pos : Pos) (keys : List (Option Expr)) (values : List Expr) (ks : List Key) (fa : FA) : Prop where
  h : ∃ trs, PPs X pos keys values trs ∧ ∀ σ H Q, tL B X.K fa σ H (fun vs H' => Q ((ks.map kV).zip vs) H') → tPairs trs σ H Q
section
variable {X : Cx} {B : Bd} {pos kpos : Pos} {keys : List (Option Expr)} {values : List Expr} {ks : List Key} {fa : FA} {f : FE} {e ek : Expr} {kd : Key}
theorem sp_nil : SPs X B pos [] [] [] aNil := ⟨[], pps_nil, fun σ H Q ⟨ρ, μ, W, n, R, h⟩ => h [] W H .refl R .nil⟩
theorem sp_cons (hk : PE X ek (tC (kV kd))) (hv : PE X e (tM B X.K f)) (hr : SPs X B pos keys values ks fa) : SPs X B pos (some ek :: keys) (e :: values) (kd :: ks) (aCons f fa) := by
  obtain ⟨trs, h1, h2⟩ := hr.h
  exact ⟨(_, _) :: trs, pps_cons hk hv h1, fun σ H Q ⟨ρ, μ, W, n, R, h⟩ => ⟨ρ, μ, W, n, R, (T.All.bind h).mono fun p n1 g1 v1 W1 H1 k1 R1 r1 => h2 σ H1 _ ⟨ρ, p.2, W1, n1, R1, (T.All.bind g1).mono fun q n2 g2 vs W2 H2 k2 R2 r2 =>
    g2 _ W2 _ (k1.trans k2) R2 (.cons (r1.ext R1.st k2) r2)⟩⟩⟩
def eDic (ks : List Key) (fa : FA) : FE := fun ρ μ => (fa ρ μ).bind fun p => (T.ofO (tsOf p.1)).bind fun as => if ks.length = as.length then .ret (.t (.dic ks as), p.2) else .bad
theorem se_dic (h : SPs X B pos keys values ks fa) (nd : ks.Nodup) (hall : keys.all (·.isSome) = true) (hl : keys.length = values.length) (h0 : keys ≠ []) (h15 : keys.length ≤ 15) (hk15 : ks.length ≤ 15) :
    PE X (.Dict keys values pos) (tM B X.K (eDic ks fa)) := by
  obtain ⟨trs, h1, h2⟩ := h.h
  refine PEimp (pe_disp h1 hall hl h0 h15) fun σ H Q ⟨ρ, μ, W, n, R, hh⟩ => fun p hp => h2 σ _ _ ⟨ρ, μ, W.also p, n, R.go (ext_also hp) (st_also R.st hp .dK) (fun a h => List.mem_cons_of_mem _ (R.mono a h)), (T.All.bind hh).mono fun q n2 g2 vs W2 H2 k2 R2 r2 => ?_⟩
  obtain ⟨ds, ed, g2⟩ := T.All.ofO (T.All.bind g2)
  by_cases hz : ks.length = ds.length
  · rw [if_pos hz] at g2
    have hpa : B.g.pa ≠ some p := R.st.paNe hp
    have hc : some p ∉ W.c := R.st.notC hp
    have hp0 : ¬ NT B.H0 p := R.h0 hp
    have r2 := ts_rv r2 ed
    have hat : H2 p = some (.dK []) := k2.kp _ _ upd_same hc hpa .dK
    have ho2 : p ∈ W2.o := k2.ow p List.mem_cons_self ⟨_, upd_same, .dK⟩ hc
    have hc2 : some p ∉ W2.c := fun z => by
      obtain ⟨n, hn⟩ := mem_get z
      rcases k2.hc n p hn with q | ⟨_, q⟩
      · exact hc (get_mem q)
      · exact q ⟨_, upd_same, .dK⟩
    have hlen : ks.length = vs.length := hz.trans r2.length.symm
    refine ⟨hat, ks.zip vs, zip_map_kV ks vs, ?_, ?_⟩
    · rw [List.length_zip]; omega
    rw [merge_nodup (ks.zip vs) [] (fun _ _ => rfl) (by rw [zip_map_fst hlen]; exact nd), List.nil_append]
    have kU : KpO W2.o H2 (upd H2 p (.dK (ks.zip vs))) := fun a u e n _ => by
      rw [upd_ne (fun z => n (by rw [z]; exact ho2))]; exact e
    have ex : Ext B.g.pa W H (W2.less p) (upd H2 p (.dK (ks.zip vs))) := ext_less (ext_upd ((ext_also hp).trans k2) hp) hp
    have st2 : StOk B.g X.K W2 q.2 n2 (upd H2 p (.dK (ks.zip vs))) := st_upd R2.st ho2 hc2 hpa .dK fun o e => by
      rw [hat] at e; cases e; exact ⟨.dK, fun _ z => nomatch z⟩
    have R3 : Rep B X.K ρ q.2 (W2.less p) n2 (upd H2 p (.dK (ks.zip vs))) σ := R.go ex (st_less st2 hc2 hpa) fun a ha => mem_fil.mpr ⟨R2.mono a ha, fun z => hp0 (by rw [← z]; exact R2.base a ha)⟩
    exact g2 _ _ _ ex R3 (.t (.dic (.inl upd_same) (fun z => (mem_fil.mp z).2 rfl) hlen ((r2.keep kU hs_refl).keep .refl (hs_sub fun a h => (mem_fil.mp h).1))))
  · rw [if_neg hz] at g2; exact g2.elim
def eDic0 : FE := fun _ μ => .ret (.t (.dic [] []), μ)
theorem se_dic0 : PE X (.Dict [] [] pos) (tM B X.K eDic0) := PEimp pe_dnewK fun σ H Q ⟨ρ, μ, W, n, R, h⟩ => fun p hp => h _ W _ (.same (same_new hp)) (R.same (same_new hp)) (.t (.dic (ks := []) (vs := []) (.inl upd_same) (notO R.st.there hp) rfl .nil))
end
/-! d[k] -/
def keyOf : D → Option Key
  | .int i => some (.inl i)
  | .str x => some (.inr x)
  | _ => none
def dicAt : List Key → List D → Key → Option D
  | k :: ks, d :: ds, z => if k = z then some d else dicAt ks ds z
  | _, _, _ => none
def opDix : D → D → Option D
  | .dic ks ds, y => (keyOf y).bind fun z => dicAt ks ds z
  | _, _ => none
theorem dic_at {g : Gh} {K : PySem.W.Frag} {O : List Addr} {H : Hp} : ∀ {ks : List Key} {vs : List V} {ds : List D} {z : Key} {d : D}, RVs g K O H vs ds → dicAt ks ds z = some d → ∃ v, valV (ks.zip vs) z = some v ∧ RV g K O H v d
  | [], _, _, _, _, _, e => by unfold dicAt at e; exact (nos e).elim
  | _ :: _, _, _, _, _, .nil, e => by unfold dicAt at e; exact (nos e).elim
  | k :: ks, _, _, z, d, .cons h t, e => by
    unfold dicAt at e
    by_cases q : k = z
    · rw [if_pos q] at e; cases e
      exact ⟨_, valV_pos (p := (k, _)) q, h⟩
    · rw [if_neg q] at e
      obtain ⟨v, e1, e2⟩ := dic_at t e
      exact ⟨v, (valV_neg (p := (k, _)) q).trans e1, e2⟩
theorem keyOf_kV {g : Gh} {K : PySem.W.Frag} {O : List Addr} {H : Hp} {y : V} {b : D} {z : Key} (r : RD g K O H y b) (e : keyOf b = some z) : y = kV z := by
  cases r <;> first | exact (nos e).elim | (cases e; rfl)
theorem se_dix {X : Cx} {B : Bd} {o i : Expr} {f f' : FE} {pos : Pos} (hu : X.A.units + 1 < cLine) (ho : PE X o (tM B X.K f)) (hi : PE X i (tM B X.K f')) (hs : NoSl i := by exact fun _ _ => rfl) : PE X (.Subscript o i pos) (tM B X.K (eOp2 opDix f f')) :=
  PEimp (pe_dget hu ho hi hs) (op2_imp (r := fun x y H Q => ∃ a v, x = .ref a ∧ DGet H a y (some v) ∧ Q v H) fun g0 O H x y a b d Q hO ra rb e q => by
    cases ra <;> try exact (nos e).elim
    rename_i p ks vs ds h1 h2 h3 rs
    have e : ((keyOf b).bind fun z => dicAt ks ds z) = some d := e
    cases ek : keyOf b with
    | none => rw [ek] at e; exact (nos e).elim
    | some z =>
      rw [ek] at e
      obtain ⟨v, e1, e2⟩ := dic_at rs (show dicAt ks ds z = some d from e)
      exact ⟨p, v, rfl, .inl ⟨_, z, h1, keyOf_kV rb ek, e1.symm⟩, q v H (Same.refl H) e2⟩)

/-! ### repr -/
def okShow (p : PyData) : Bool := isDisplay p && (p.showable && !p.hasDict && (decide (p.depth ≤ 50) && decide (p.shown.length ≤ lim)))
def opRepr : D → Option D := fun a => (pyOf a).bind fun p => if okShow p then some (.str p.shown) else none
def rRepr (K : PySem.W.Frag) (xs : List V) (H : Hp) (Q : VK) : Prop := ∃ x p, xs = [x] ∧ Dp K H x p ∧ okShow p = true ∧ Q (.str p.shown) H
theorem call_repr {X : Cx} (hg : X.A.guards = some []) (hu : X.A.units + 200 < cLine) : CallR X (.builtin "repr") (rRepr X.K) := by
  intro pins s σ H xs us Q I rx h
  obtain ⟨x, p, rfl, hd, ok, q⟩ := h
  cases rx with
  | @cons _ u _ us r1 r2 =>
    cases r2
    unfold okShow at ok
    rw [Bool.and_eq_true, Bool.and_eq_true, Bool.and_eq_true, Bool.and_eq_true, decide_eq_true_eq, decide_eq_true_eq, Bool.not_eq_true'] at ok
    obtain ⟨h1, ⟨h2, h3⟩, h4, h5⟩ := ok
    obtain ⟨as, rd⟩ := Dp.reads I p x u hd r1
    obtain ⟨a, rfl⟩ := isRef_of_reads rd h1
    exact repr_of_reads' rd h2 (PyData.noDict_hsm h3) hg (by omega) (fun _ _ e => e) (fun h' u tk hk => ⟨.str p.shown, H, I.kept hk, ⟨u, rfl⟩, q⟩) (lim_le h5)
theorem vc_repr {K : PySem.W.Frag} : VCall K (rRepr K) (op1 opRepr) := vc_one fun g0 O H x a d Q hO ra e q => by
  unfold opRepr at e
  cases e1 : pyOf a with
  | none => rw [e1] at e; exact (nos e).elim
  | some p =>
    rw [e1] at e
    have e : (if okShow p = true then some (D.str p.shown) else none) = some d := e
    by_cases hc : okShow p = true
    · rw [if_pos hc] at e; cases e
      exact ⟨x, p, rfl, dp_rd ra e1, hc, q _ H (Same.refl H) (.str _)⟩
    · rw [if_neg hc] at e; exact (nos e).elim

end Y

set_option Elab.async false
set_option linter.all false
set_option maxRecDepth 100000
set_option maxHeartbeats 1000000
/-! Y12: the pen; the law's own call; the finite check of choices. -/
namespace Y
open PySem PySem.Spec PyProof.Rows L2

theorem tabs_but {T : List (Addr × Str)} {H H' : Hp} {a : Addr} (t : LamX.Tabs T H) (k : ∀ x o, H x = some o → x ≠ a → H' x = some o) (h : ∀ o, H a = some o → plO o) : LamX.Tabs T H' := fun p hp => by
  obtain ⟨ps, h1, h2, h3⟩ := t p hp
  have n1 : p.1 ≠ a := fun z => (h _ (by rw [← z]; exact h1)).1 ps rfl
  refine ⟨ps, k _ _ h1 n1, h2, fun pos cv hc => ?_⟩
  obtain ⟨c, e1, e2⟩ := h3 pos cv hc
  have n2 : c ≠ a := fun z => (h _ (by rw [← z]; exact e2)).2 _ rfl
  exact ⟨c, e1, k _ _ e2 n2⟩
theorem rvs_two {g : Gh} {K : PySem.W.Frag} {O : List Addr} {H : Hp} {vs : List V} {a b : D} (r : RVs g K O H vs [a, b]) : ∃ v u, vs = [v, u] ∧ RV g K O H v a ∧ RV g K O H u b := by
  cases r with
  | cons r1 r2 => cases r2 with
    | cons r2 r3 => cases r3; exact ⟨_, _, rfl, r1, r2⟩
def draw2 : D → D → T D
  | .pen, .int n => if 0 < n ∧ n < 1000000 then .ask n.toNat fun c => .ret (.int (c : Int)) else .bad
  | _, _ => .bad
def drawD : List D → T D
  | [p, n] => draw2 p n
  | _ => .bad
theorem ar_drawD : Ar 2 drawD := fun ds h => by
  match ds, h with
  | [], _ => rfl
  | [_], _ => rfl
  | [_, _], h => exact (h rfl).elim
  | _ :: _ :: _ :: _, _ => rfl
/-- what a draw may assume and has to show -/
theorem draw_open {CL : Nat → Addr} {K : PySem.W.Frag} {vs : List V} {H : Hp} {Q : VK} {E : XK} (h : spD CL K 2 drawD vs H Q E) : ∃ (a c : Addr) (t r n : Int) (cells : List Int), vs = [.ref a, .int n] ∧ 0 < n ∧ n < 1000000 ∧
    H a = some (.lst [.ref c, .int t, .int r]) ∧ H c = some (.lst (cells.map V.int)) ∧ c ≠ a ∧ 0 ≤ t ∧ t < 4194304 ∧ 0 ≤ r ∧
    ∀ (H' : Hp) (t' r' z : Int), (∀ x o, H x = some o → x ≠ a → H' x = some o) → H' a = some (.lst [.ref c, .int t', .int r']) → 0 ≤ t' → t' ≤ t + 1 → 0 ≤ r' → 0 ≤ z → z < n → Q (.int z) H' := by
  obtain ⟨hl, g, O, b, ds, _, th, _, pen, tb, rv, hall⟩ := h
  have hdl : ds.length = 2 := rv.length.symm.trans hl
  match ds, hdl, rv, hall with
  | [p, n], _, rv, hall =>
    obtain ⟨v1, v2, rfl, r1, r2⟩ := rvs_two rv
    replace hall : T.All (draw2 p n) b _ _ := hall
    cases r1 with
    | @pen a ha =>
      cases r2 with
      | int n =>
        replace hall : T.All (if 0 < n ∧ n < 1000000 then T.ask n.toNat fun c => T.ret (D.int (c : Int)) else .bad) b _ _ := hall
        by_cases hc : 0 < n ∧ n < 1000000
        · rw [if_pos hc] at hall
          obtain ⟨b', eb, hk⟩ := hall
          obtain ⟨m, _, c, t, r, cells, h1, h2, h3, h4, h5, h6⟩ := pen a ha
          have hca : c ≠ a := fun z => h3 (by rw [z]; exact m)
          refine ⟨a, c, t, r, n, cells, rfl, hc.1, hc.2, h1, h2, hca, h4, by omega, h6, fun H' t' r' z k hp ht ht2 hr hz hzn => ?_⟩
          have q := hk z.toNat (by omega)
          have ez : ((z.toNat : Nat) : Int) = z := Int.toNat_of_nonneg hz
          replace q := (show (T.ret (D.int ((z.toNat : Nat) : Int))).All b' _ _ from q)
          rw [ez] at q
          refine q (.int z) H' ⟨fun x o e _ ne _ => k x o e fun w => ne (by rw [w]; exact ha), fun a' e' => ?_, fun x hx => ?_, tabs_but tb k fun o e => ?_⟩ (.int z)
          · have : a' = a := Option.some.inj (e'.symm.trans ha)
            subst this
            exact ⟨m, (fun z => nomatch z), c, t', r', cells, hp, k c _ h2 hca, h3, ht, by omega, hr⟩
          · by_cases w : x = a
            · subst w; exact ⟨_, hp, .lst⟩
            · obtain ⟨o, q1, q2⟩ := hx
              exact ⟨o, k x o q1 w, q2⟩
          · rw [h1] at e; cases e; exact ⟨.lst, fun _ z => nomatch z⟩
        · rw [if_neg hc] at hall; exact hall.elim
      | _ => exact hall.elim
    | _ => exact hall.elim
theorem cells_shaped (cells : List Int) : SeqAt.shaped (.list (cells.map PyData.int)) = true := by
  have h1 : ∀ l : List Int, PyData.canLayAll0 (l.map PyData.int) = true := fun l => by
    induction l with
    | nil => rfl
    | cons x l ih => show (PyData.canLay0 (.int x) && PyData.canLayAll0 (l.map PyData.int)) = true; rw [ih]; rfl
  have h2 : ∀ l : List Int, PyData.depthAll (l.map PyData.int) = 0 := fun l => by
    induction l with
    | nil => rfl
    | cons x l ih => show max (PyData.depth (.int x)) (PyData.depthAll (l.map PyData.int)) = 0; rw [ih]; rfl
  unfold SeqAt.shaped
  rw [show PyData.canLay0 (.list (cells.map PyData.int)) = PyData.canLayAll0 (cells.map PyData.int) by simp only [PyData.canLay0], h1,
    show PyData.depth (.list (cells.map PyData.int)) = PyData.depthAll (cells.map PyData.int) + 1 by simp only [PyData.depth], h2]
  rfl
theorem cells_dp {K : PySem.W.Frag} {H : Hp} (cells : List Int) : DpAll K H (cells.map V.int) (cells.map PyData.int) := by
  induction cells with
  | nil => exact .nil
  | cons x l ih => exact .cons (.int x) ih
theorem cells_eqv (cells : List Int) : PyData.eqv (.list (cells.map PyData.int)) (.list []) = cells.isEmpty := by
  cases cells with
  | nil => simp only [PyData.eqv, PyData.eqvAll, List.map_nil, List.isEmpty_nil]
  | cons x l => simp only [PyData.eqv, PyData.eqvAll, List.map_cons, List.isEmpty_cons]
theorem fmod_lt {a n : Int} (hn : 0 < n) : 0 ≤ a.fmod n ∧ a.fmod n < n := by
  rw [Int.fmod_eq_emod_of_nonneg _ (by omega)]
  exact ⟨Int.emod_nonneg _ (by omega), Int.emod_lt_of_pos _ hn⟩
theorem fdiv_nn {a n : Int} (ha : 0 ≤ a) (hn : 0 < n) : 0 ≤ a.fdiv n := by
  rw [Int.fdiv_eq_ediv_of_nonneg _ (by omega)]
  exact Int.ediv_nonneg ha (by omega)
theorem draw_bound {m t k : Int} (h1 : 0 ≤ m) (h2 : m < 2147483648) (h3 : 0 ≤ t) (h4 : t < 4194304) (h5 : 0 ≤ k) (h6 : k < 131072) : (m * (2 * t + 4021) + k * t * t + 41017).natAbs < 2 ^ 64 := by
  have a1 : m * (2 * t + 4021) ≤ 2147483648 * (2 * 4194304 + 4021) := Int.mul_le_mul (by omega) (by omega) (by omega) (by omega)
  have a0 : 0 ≤ m * (2 * t + 4021) := Int.mul_nonneg h1 (by omega)
  have b1 : k * t ≤ 131072 * 4194304 := Int.mul_le_mul (by omega) (by omega) h3 (by omega)
  have b0 : 0 ≤ k * t := Int.mul_nonneg h5 h3
  have c1 : k * t * t ≤ (131072 * 4194304) * 4194304 := Int.mul_le_mul b1 (by omega) h3 (by omega)
  have c0 : 0 ≤ k * t * t := Int.mul_nonneg b0 h3
  generalize m * (2 * t + 4021) = x at *
  generalize k * t * t = y at *
  omega
theorem draw_bound1 {z t k k3 : Int} (h3 : 0 ≤ t) (h4 : t < 4194304) (h5 : 0 ≤ k) (h6 : k < 131072) (h7 : 0 ≤ k3) (h8 : k3 < 131072) : (z.fmod 2147483563 + k * t + k3).natAbs < 2 ^ 64 := by
  have hz := fmod_lt (a := z) (n := 2147483563) (by decide)
  have b1 : k * t ≤ 131072 * 4194304 := Int.mul_le_mul (by omega) (by omega) h3 (by omega)
  have b0 : 0 ≤ k * t := Int.mul_nonneg h5 h3
  generalize k * t = y at *
  generalize z.fmod 2147483563 = x at *
  omega

section
variable {P : Program} {w : World} {K : PySem.W.Frag} {mg mb : Str → Option Value} {k : Nat} {fa a : Addr} {fd : FuncData} {x : Str} {sp : Sp} {s1 : Shared} {vals : List Value} {ns : List Int}
/-- from an abstract heap that knows the script alone, or nothing -/
theorem law_from (T : Hp) (kin : K.In s1.heap) (nsG : s1.heap.Ns mainGlobals mg) (nsB : s1.heap.Ns builtinsNs mb) (isB : ∀ y : Str, y ≠ "__name__" → mb y = bootBuiltins y) (nolim : s1.heap.NoLimit) (ngen : s1.gens = #[])
    (hscr : s1.heap.get? a = some { cls := .type "list", data := .seq vals.toArray }) (room : Rm k callerA) (F : ∀ base : Heap, K.In base → base.Ns mainGlobals mg → FnG P w K mg base k fa fd [x] sp) (bnd : ∀ (s : Shared) (u : Value), BindsTo s fd ⟨[u], []⟩ [(x, u)])
    (only : Only T) (hok : HOk P w T s1.heap) (atA : ∀ b, T b ≠ none → b = a) (notK : T a ≠ none → K.lookup a = none) (prom : sp [.ref a] T (fun v _ => v = .bl true) fun _ _ _ => False) :
    codeAny (model P w) callerA (.call (.ref fa) ⟨[.ref a], []⟩) (fun r s' => r = .ok (.ret (.bool true)) ∧ OldK s1.heap s'.heap ∧ s'.os = s1.os ∧ AllBare s'.gens) s1 := by
  have bare : ∀ {b : Addr} {o : Obj}, s1.heap.get? b = some o → T b = none → (hidT s1.heap T).get? b = some o := fun h1 h2 => hidT_get h1 h2
  have away : ∀ {b : Addr} {o : Obj} {es : Array DictEntry} {ep : Nat}, s1.heap.get? b = some o → o.data = .dict es ep → T b = none := by
    intro b o es ep h1 h2
    cases hb : T b with
    | none => rfl
    | some u =>
      obtain rfl : b = a := atA b (by rw [hb]; exact fun z => nomatch z)
      rw [hscr] at h1
      cases h1
      exact nomatch (show Data.seq vals.toArray _ = Data.dict es ep from h2)
  have carry : ∀ {b : Addr} {m : Str → Option Value}, s1.heap.Ns b m → (hidT s1.heap T).Ns b m := fun {b m} hn => by
    obtain ⟨o, es, ep, h1, h2, h3⟩ := hn
    exact ⟨o, es, ep, bare h1 (away h1 h2), h2, h3⟩
  have kinB : K.In (hidT s1.heap T) := by
    intro b o hl
    refine bare (kin b o hl) ?_
    cases hb : T b with
    | none => rfl
    | some u =>
      obtain rfl : b = a := atA b (by rw [hb]; exact fun z => nomatch z)
      have := notK (by rw [hb]; exact fun z => nomatch z)
      rw [this] at hl
      cases hl
  have md : Mod K mg (hidT s1.heap T) := by
    obtain ⟨mc, l1, l2⟩ := nolim
    exact ⟨kinB, carry nsG, ⟨mb, carry nsB, isB⟩, ⟨mc, carry l1, l2⟩⟩
  have entry : Env0 P w K mg (hidT s1.heap T) callerA [] s1 T := ⟨rfl, md, fun _ _ => of_hidT, Nat.le_of_eq (hidT_size _ _), trivial, fun _ hb => (List.not_mem_nil hb).elim, hok, .of_eq ngen⟩
  refine codeAny_mono ((F _ kinB (carry nsG)).run callerA [] s1 T ⟨[.ref a], []⟩ [.ref a] [.ref a] _ _ room entry (bnd s1 (.ref a)) (.cons rfl .nil) prom) fun res s' got => ?_
  match res, got with
  | .error e, got =>
    obtain ⟨_, _, _, _, _, _, _, _, _, _, _, _, z⟩ := got
    exact z.elim
  | .ok .next, got => exact got.elim
  | .ok .brk, got => exact got.elim
  | .ok .cont, got => exact got.elim
  | .ok (.ret u), got =>
    obtain ⟨v, T', eos, egens, un, hok', rv, ev⟩ := got
    replace ev : v = .bl true := ev
    subst ev
    obtain rfl : u = Value.bool true := rv
    refine ⟨rfl, OldK.of_keep fun b o h1 => ?_, eos, egens⟩
    rcases only b with hb | ⟨ob, xs, hb⟩
    · exact un.keep b o h1 hb (fun z => (List.not_mem_nil z).elim) (fun z => (List.not_mem_nil z).elim)
    · have g1 := (hok b _ hb).1
      have g2 := (hok' b _ (un.frzs b ob _ hb)).1
      rw [h1] at g1
      cases g1
      exact g2
theorem law_whole (kin : K.In s1.heap) (nsG : s1.heap.Ns mainGlobals mg) (nsB : s1.heap.Ns builtinsNs mb) (isB : ∀ y : Str, y ≠ "__name__" → mb y = bootBuiltins y) (nolim : s1.heap.NoLimit) (ngen : s1.gens = #[])
    (hscr : s1.heap.get? a = some { cls := .type "list", data := .seq vals.toArray }) (hnt : IntsAre vals ns) (few : ns.length ≤ sizeLine) (room : Rm k callerA) (F : ∀ base : Heap, K.In base → base.Ns mainGlobals mg → FnG P w K mg base k fa fd [x] sp) (bnd : ∀ (s : Shared) (u : Value), BindsTo s fd ⟨[u], []⟩ [(x, u)])
    (prom : ∀ T : Hp, Only T → SqL K T a (ns.map V.int) → sp [.ref a] T (fun v _ => v = .bl true) fun _ _ _ => False) :
    codeAny (model P w) callerA (.call (.ref fa) ⟨[.ref a], []⟩) (fun r s' => r = .ok (.ret (.bool true)) ∧ OldK s1.heap s'.heap ∧ s'.os = s1.os ∧ AllBare s'.gens) s1 := by
  have vv := vals_ints hnt
  cases hk : K.lookup a with
  | some o =>
    have same := kin a o hk
    rw [hscr] at same
    cases same
    have none0 : Only (fun _ => none) := fun _ => .inl rfl
    refine law_from (fun _ => none) kin nsG nsB isB nolim ngen hscr room F bnd none0 (fun b u z => nomatch z) (fun b z => (z rfl).elim) (fun z => (z rfl).elim) (prom _ none0 (.inr ⟨_, vals.toArray, _, hk, rfl, rfl, rfl, ?_, ?_⟩))
    · rw [List.size_toArray, hnt.length]; exact few
    · simpa using vv
  | none =>
    let T : Hp := fun b => if b = a then some (.frz { cls := .type "list", data := .seq vals.toArray } (.lst (ns.map V.int))) else none
    have hit : T a = some (.frz { cls := .type "list", data := .seq vals.toArray } (.lst (ns.map V.int))) := if_pos rfl
    have miss : ∀ {b}, b ≠ a → T b = none := fun h => if_neg h
    have only : Only T := fun b => by
      by_cases hb : b = a
      · subst hb; exact .inr ⟨_, _, hit⟩
      · exact .inl (miss hb)
    refine law_from T kin nsG nsB isB nolim ngen hscr room F bnd only (fun b u z => ?_) (fun b z => ?_) (fun _ => hk) (prom T only (.inl (.inr ⟨_, hit⟩)))
    · by_cases hb : b = a
      · subst hb
        rw [hit] at z
        cases z
        exact ⟨hscr, by rw [List.length_map]; exact few, vals, _, vv, hscr⟩
      · rw [miss hb] at z; cases z
    · by_cases hb : b = a
      · exact hb
      · exact (z (miss hb)).elim
end
/-- what the head leaves to be shown -/
theorem walkG {l : PySem.W.OpenLaw} {n k : Nat} {q : Program} {loose : List Str} {XP : (Str → Option Value) → Heap → Prop} {YP : World → Heap → Prop} {d : DefRec} {K : Params → PySem.W.Frag} {sp : World → Sp} {x : Str}
    (hn : l.most = some n) (hn2 : n ≤ sizeLine) (hdf : d.params.defaults = []) (room : Rm k callerA) (hY : ∀ (w : World) (h : Heap), YP w h → (K w.params).In h)
    (F : ∀ (w : World) (mg : Str → Option Value) (fa : Addr) (h : Heap), (K w.params).In h → h.Ns mainGlobals mg → mg d.name = some (.ref fa) →
      ∃ fd : FuncData, (∀ (s : Shared) (u : Value), BindsTo s fd ⟨[u], []⟩ [(x, u)]) ∧ ∀ base : Heap, (K w.params).In base → base.Ns mainGlobals mg → FnG l.prog w (K w.params) mg base k fa fd [x] (sp w))
    (prom : ∀ (w : World) (H : Hp) (a : Addr) (ns : List Int), ns.length ≤ n → Only H → SqL (K w.params) H a (ns.map V.int) → sp w [.ref a] H (fun v _ => v = .bl true) fun _ _ _ => False) :
    PySem.W.WalkO q loose XP YP l.row.toRowW d [] (fun f vs => PySem.call f vs) := by
  refine Att.attach_call hn hdf fun w s₀ s₁ mg mb fa o pm cd doc a vs ns G Y ho hd hcd hmg hobj hints hlen hg => ?_
  have kin := hY w _ Y
  obtain ⟨fd, hb, hF⟩ := F w mg fa _ kin G.T.g hmg
  exact law_whole kin G.T.g G.T.b G.T.builtins G.T.nolimit hg hobj hints (Nat.le_trans hlen hn2) room hF hb fun H hO hS => prom w H a ns hlen hO hS

/-- a written dict's entries -/
inductive EntAre (K : PySem.W.Frag) : List DictEntry → List (Str × D) → Prop
  | nil : EntAre K [] []
  | cons {en : DictEntry} {es : List DictEntry} {k : Str} {t : Tok} {d : D} {v : V} {r : List (Str × D)} : en.key = .str k t → RelV v en.val → (∀ g O H, RV g K O H v d) → EntAre K es r → EntAre K (en :: es) ((k, d) :: r)
theorem isStr_str (k z : Str) (t : Tok) : (Value.str k t).isStr z = decide (k = z) := by
  show (k == z) = _
  rw [Bool.eq_iff_iff, beq_iff_eq, decide_eq_true_eq]
theorem ent_find {K : PySem.W.Frag} (z : Str) : ∀ {es : List DictEntry} {tab : List (Str × D)}, EntAre K es tab →
    (match tabAt tab z with | some dd => ∃ en v, es.find? (·.key.isStr z) = some en ∧ RelV v en.val ∧ ∀ g O H, RV g K O H v dd | none => es.find? (·.key.isStr z) = none) ∧ es.any (·.refKey) = false
  | [], _, .nil => ⟨rfl, rfl⟩
  | en :: es, (k, d) :: r, @EntAre.cons _ _ _ _ t _ v _ hk hv hr h => by
    obtain ⟨h1, h2⟩ := ent_find z h
    have hs : en.key.isStr z = decide (k = z) := by rw [hk]; exact isStr_str k z t
    refine ⟨?_, ?_⟩
    · unfold tabAt
      by_cases q : k = z
      · rw [if_pos q]
        exact ⟨en, v, by rw [List.find?_cons, hs, decide_eq_true q], hv, hr⟩
      · rw [if_neg q]
        have e0 : (en :: es).find? (·.key.isStr z) = es.find? (·.key.isStr z) := by rw [List.find?_cons, hs, decide_eq_false q]
        rw [e0]; exact h1
    · rw [List.any_cons, h2, Bool.or_false]
      unfold DictEntry.refKey; rw [hk]
theorem ktab_mk {K : PySem.W.Frag} {w : World} {mg : Str → Option Value} {x : Str} {d : Addr} {es : Array DictEntry} {n : Nat} {tab : List (Str × D)} (hm : mg x = some (.ref d)) (hl : K.lookup d = some ⟨.type "dict", none, .dict es n, #[]⟩) (hk : PySem.W.KeysLit w.params es.toList) (hd : (d == sysModules) = false)
    (he : EntAre K es.toList tab) : KTab K w mg x tab := by
  refine ⟨d, es, n, hm, ⟨hl, hk, hd⟩, rfl, fun z => ?_⟩
  obtain ⟨h1, h2⟩ := ent_find z he
  unfold PySem.W.nsIn
  rw [hl]
  dsimp only
  revert h1
  cases tabAt tab z with
  | none => intro h1; have h1 : es.toList.find? (·.key.isStr z) = none := h1; rw [h1]; dsimp only; rw [h2]; exact ⟨none, rfl, rfl⟩
  | some dd =>
    intro ⟨en, v, h1, h3, h4⟩
    rw [h1]
    exact ⟨some en.val, rfl, en.val, v, rfl, h3, h4⟩
theorem glv_of {K : PySem.W.Frag} {mg : Str → Option Value} {x : Str} {u : Value} {v : V} {d : D} (hm : mg x = some u) (r : RelV v u) (h : ∀ g O H, RV g K O H v d) : GlV K mg x d := ⟨u, v, hm, r, h⟩

theorem Rm.u1 {k : Nat} {A : Around} (h : Rm k A) : A.units + 1 < cLine := by have := h.room.un; omega
theorem Rm.u200 {k : Nat} {A : Around} (h : Rm k A) : A.units + 200 < cLine := by have := h.room.un; omega
section
variable {X : Cx} {B : Bd} {x : Str} {tab : List (Str × D)} {e ea eb : Expr} {f f' : FE} {np pos : Pos}
/-- name = [.. for ..] -/
theorem ss_setLc (i : Nat) {y : Str} {py spos : Pos} {elt iter : Expr} {ifs : List Expr} {scope : Scope} {own : List (Str × Nat)} {src : FI} {c : FT'} {tg : Tg} {tt : TT} {tgE : Expr} (hc : X.calm = true) (hN : X.N.Nodup) (hi : PI X tgE iter (tI B X.K src)) (ok : BlkOk X.N X.env.scope scope own) (hpl : own.map (·.2) = tg.places)
    (hg : ∀ (s : Shared) (H : Hp) (C : Addr) (cl : List (Str × Addr)) (fp : List Addr), PG (X.blk s H scope (compEnvC scope cl C X.env) fp) tgE (gOf X.K tg))
    (ht : ∀ (s : Shared) (H : Hp) (C : Addr) (cl : List (Str × Addr)) (fp : List Addr), PTs (X.blk s H scope (compEnvC scope cl C X.env) fp) ifs tt) (htt : TT_ok B.nox X.K tt c)
    (he : ∀ (s : Shared) (H : Hp) (C : Addr) (cl : List (Str × Addr)) (fp : List Addr), PE (X.blk s H scope (compEnvC scope cl C X.env) fp) elt (tM B.nox X.K f))
    (hy : X.N[i]? = some y := by rfl) (hyl : X.env.scope.names.lookup y = some .local := by rfl) (hsw : swapsWith (.ListComp elt [⟨tgE, iter, ifs, 0⟩] scope pos) (some (.Name y py)) spos.line X.env = pure true := by first | exact sw_true rfl rfl rfl rfl | rfl)
    (hs : ∀ x, foldedSetIterable iter X.env x = pure x := by intro _; rfl) :
    PS X (.Assign [.Name y py] (.ListComp elt [⟨tgE, iter, ifs, 0⟩] scope pos) spos) (tS B X.K (sSet i (eComp tg src c f))) :=
  PSimp (ps_setLc hc hN hy hyl hsw hi ok hg ht he hs) fun Dn σ H ⟨ρ, μ, W, b, R, w⟩ => by
    refine Eq.mp (by rw [hpl]; rfl) (comp_imp (tt := tt) htt σ H (fun v H1 => gName i v σ H1 Dn.nx) ⟨ρ, μ, W, b, R, (T.All.bind w).mono fun d b1 w1 v W1 H1 k1 R1 rv => ?_⟩)
    exact w1 _ H1 W1 k1 (R1.put i rv)
theorem tab_r {r : R2} {g : D → Option D} {d : Addr} (h : VOp1 X.K (fun y H Q => r y (.ref d) H Q) g) (σ : L2.St) (H : Hp) (Q : Bool → Hp → Prop) (q : tK B X.K (kBl (eOp1 g f)) σ H Q) : tTest (tOp r (tM B X.K f) (tC (.ref d))) σ H Q :=
  op1_imp (f := f) (r := fun y H2 Q => r y (.ref d) H2 Q) h σ H _ (kbl_imp σ H Q q)
theorem tab_in_v {d : Addr} {es : Array DictEntry} {n : Nat} (h3 : ∀ z, ∃ r, PySem.W.nsIn X.K d z = some r ∧ (match tabAt tab z with | some dd => ∃ u v, r = some u ∧ RelV v u ∧ ∀ g O H, RV g X.K O H v dd | none => r = none)) :
    VOp1 X.K (fun x H Q => (∃ (z : Str) (r : Option Value), x = .str z ∧ V.ref d = .ref d ∧ PySem.W.nsIn X.K d z = some r ∧ Q (.bl r.isSome) H)) (opTabIn tab) := fun g0 O H y a dd Q hO ra ea q => by
  cases ra <;> try exact (nos ea).elim
  rename_i z
  cases ea
  obtain ⟨r, e1, e2⟩ := h3 z
  refine ⟨z, r, rfl, rfl, e1, ?_⟩
  have e3 : r.isSome = (tabAt tab z).isSome := by
    revert e2
    cases tabAt tab z with
    | none => intro e2; have e2 : r = none := e2; subst e2; rfl
    | some dd => intro ⟨u, v, e2, _⟩; subst e2; rfl
  rw [e3]
  exact q _ H (Same.refl H) (.bl _)
theorem sk_tabIn (t : KTab X.K X.w X.mg x tab) (ha : PE X e (tM B X.K f)) (hg : Gl X x := by rfl) (hdb : (x == ("__debug__" : Str)) = false := by decide) (hm : behindInMarks .In (.Name x np) = false := by first | exact nomark _ | rfl) :
    PT X (.Compare e [.In] [.Name x np] pos) (tK B X.K (kBl (eOp1 (opTabIn tab) f))) := by
  obtain ⟨d, es, n, h1, h2, _, h3⟩ := t.h
  exact PTimp (pt_cmpR (op_in_kd h2) ha (pe_glob hg h1 (v := .ref d) rfl hdb) hm) (tab_r (r := fun x y H Q => ∃ (z : Str) (r : Option Value), x = .str z ∧ y = .ref d ∧ PySem.W.nsIn X.K d z = some r ∧ Q (.bl r.isSome) H) (tab_in_v (es := es) (n := n) h3))
end
/-! the built-ins' names -/
theorem bt_len : bootBuiltins "len" = some (.builtin "len") := by decide +kernel
theorem bt_all : bootBuiltins "all" = some (.builtin "all") := by decide +kernel
theorem bt_any : bootBuiltins "any" = some (.builtin "any") := by decide +kernel
theorem bt_abs : bootBuiltins "abs" = some (.builtin "abs") := by decide +kernel
theorem bt_isinstance : bootBuiltins "isinstance" = some (.builtin "isinstance") := by decide +kernel
theorem bt_repr : bootBuiltins "repr" = some (.builtin "repr") := by decide +kernel
theorem bt_sorted : bootBuiltins "sorted" = some (.builtin "sorted") := by decide +kernel
theorem bt_sum : bootBuiltins "sum" = some (.builtin "sum") := by decide +kernel
theorem bt_max : bootBuiltins "max" = some (.builtin "max") := by decide +kernel
theorem bt_min : bootBuiltins "min" = some (.builtin "min") := by decide +kernel
theorem bt_int : bootBuiltins "int" = some (.type "int") := by decide +kernel
theorem bt_bool : bootBuiltins "bool" = some (.type "bool") := by decide +kernel
theorem bt_str : bootBuiltins "str" = some (.type "str") := by decide +kernel
theorem bt_list : bootBuiltins "list" = some (.type "list") := by decide +kernel
theorem bt_tuple : bootBuiltins "tuple" = some (.type "tuple") := by decide +kernel
theorem bt_dict : bootBuiltins "dict" = some (.type "dict") := by decide +kernel

/-! ### all choices, by trying -/
def chk {α : Type} (p : α → Bool) : Nat → T α → Bool
  | _, .ret a => p a
  | n + 1, .ask m k => (List.range m).all fun c => chk p n (k c)
  | _, _ => false
theorem chk_all {α : Type} {p : α → Bool} {Y : XP} : ∀ {n : Nat} {t : T α} {b : Nat}, chk p n t = true → n ≤ b → t.All b (fun a b' => p a = true ∧ b ≤ b' + n) Y
  | _, .ret a, b, h, l => by unfold chk at h; exact ⟨h, by omega⟩
  | n + 1, .ask m k, b, h, l => by
    unfold chk at h
    rw [List.all_eq_true] at h
    refine ⟨b - 1, by omega, fun c hc => T.All.mono (chk_all (n := n) (b := b - 1) (h c (List.mem_range.mpr hc)) (by omega)) fun a b' q => ⟨q.1, by omega⟩⟩
  | 0, .ask m k, _, h, _ => by unfold chk at h; cases h
  | 0, .exc _ _ _, _, h, _ => by unfold chk at h; cases h
  | n + 1, .exc _ _ _, _, h, _ => by unfold chk at h; cases h
  | 0, .bad, _, h, _ => by unfold chk at h; cases h
  | n + 1, .bad, _, h, _ => by unfold chk at h; cases h

/-! ### the law: behind the pen's making the pen is one; loops by trying -/
theorem rest_any {X : Cx} {sts : List Stmt} {fs : FS} (h : ∀ B : Bd, Lets X B → PSs X sts (tS B X.K fs)) : PSs X sts (fun Dn σ H => ∃ B, Lets X B ∧ tS B X.K fs Dn σ H) :=
  ⟨fun pins s σ H Dn I ⟨B, hl, w⟩ => (h B hl).run pins s σ H Dn I w⟩
def penEnv (n : Nat) : Env' := (List.replicate n none).set 1 (some (.t .pen))
theorem penEnv_get {n i : Nat} {x : Vd} (h : (penEnv n)[i]? = some (some x)) : i = 1 ∧ x = .t .pen := by
  unfold penEnv at h
  rcases set_get h with ⟨h1, h2⟩ | ⟨h1, h2⟩
  · exact ⟨h1.symm, Option.some.inj h2⟩
  · rw [List.getElem?_replicate] at h2
    split at h2
    · exact nomatch h2
    · cases h2
theorem pen_rep {K : PySem.W.Frag} {H : Hp} {σ : L2.St} {a c : Addr} {cells : List Int} {n : Nat} {cl fa : Nat → Addr} {tb : List (Addr × Str)} {Y : XP} (hl : σ.length = n) (h1 : σ[1]? = some (some (.ref a))) (hca : c ≠ a) (hA : H a = some (.lst [.ref c, .int 0, .int 0])) (hC : H c = some (.lst (cells.map V.int))) (ht : LamX.Tabs tb H) :
    Rep ⟨⟨some a, cl, fa, tb⟩, H, pureW [a], Y⟩ K (penEnv n) [] (pureW [a]) 4194304 H σ := by
  have hin : ∀ b ∈ [a], H b ≠ none := fun b hb => by
    rw [List.mem_singleton.mp hb, hA]; exact fun z => nomatch z
  refine ⟨?_, fun i d e => ?_, ⟨(fun _ h => nomatch h), (fun i j a h => by simp [pureW] at h), rfl, (fun i c a h => by simp at h), hin, fun b e => ?_, ht, (fun n c h => by simp [pureW] at h), fun b hb ps z => by
    rw [List.mem_singleton.mp hb, hA] at z; cases z⟩, .refl, fun _ h => h, fun b hb => by rw [List.mem_singleton.mp hb]; exact ⟨_, hA, .lst⟩, fun b e => ?_⟩
  · unfold penEnv; rw [List.length_set, List.length_replicate]; exact hl
  · obtain ⟨rfl, e2⟩ := penEnv_get e
    cases e2
    exact ⟨_, h1, .t (.pen rfl)⟩
  · cases e
    exact ⟨List.mem_singleton.mpr rfl, (fun z => nomatch z), c, 0, 0, cells, hA, hC, fun z => hca (List.mem_singleton.mp z), Int.le_refl _, by decide, Int.le_refl _⟩
  · cases e; exact ⟨List.mem_singleton.mpr rfl, fun z => nomatch z⟩
def isPenSl : Option (Option Vd) → Bool
  | some (some (.t .pen)) => true
  | _ => false
def okPen (n : Nat) (ρ : Env') : Bool := decide (ρ.length = n) && isPenSl ρ[1]?
/-- behind a turn: the pen is still there; the things of the store are forgotten by name -/
def goodFl (n : Nat) : Fl → Bool
  | .nx ρ _ => okPen n ρ
  | .ct ρ _ => okPen n ρ
  | _ => false
end Y

set_option Elab.async false
set_option linter.all false
set_option maxRecDepth 100000
set_option maxHeartbeats 1000000
/-! Y13: instances of own classes: fields, making, methods. -/
namespace Y
open PySem PySem.Spec PyProof.Rows L2

def fldAt : List Str → List D → Str → Option D
  | k :: ks, d :: ds, f => if f = k then some d else fldAt ks ds f
  | _, _, _ => none
def fldAtV : List Str → List Vd → Str → Option Vd
  | k :: ks, d :: ds, f => if f = k then some d else fldAtV ks ds f
  | _, _, _ => none
section
variable {g : Gh} {K : PySem.W.Frag} {O : List Addr} {W : Ow} {H : Hp} {f : Str}
theorem fld_at : ∀ {ks : List Str} {vs : List V} {ds : List D} {d : D}, RVs g K O H vs ds → fldAt ks ds f = some d → ∃ v, (ks.zip vs).lookup f = some v ∧ RV g K O H v d
  | [], _, _, _, _, e => by unfold fldAt at e; exact (nos e).elim
  | _ :: _, _, _, _, .nil, e => by unfold fldAt at e; exact (nos e).elim
  | k :: ks, _, _, d, @RVs.cons _ _ _ _ v vs _ _ h t, e => by
    unfold fldAt at e
    show ∃ u, List.lookup f ((k, v) :: ks.zip vs) = some u ∧ _
    rw [List.lookup_cons]
    by_cases q : f = k
    · rw [if_pos q] at e; cases e
      rw [show (f == k) = true from beq_iff_eq.mpr q]
      exact ⟨v, rfl, h⟩
    · rw [if_neg q] at e
      rw [show (f == k) = false from beq_eq_false_iff_ne.mpr q]
      exact fld_at t e
theorem fld_atV {vs : List V} {ds : List Vd} {d : Vd} (r : RWs g K W H vs ds) : ∀ {ks : List Str}, fldAtV ks ds f = some d → ∃ v, (ks.zip vs).lookup f = some v ∧ RW g K W H v d := by
  induction r with
  | nil => intro ks e; cases ks <;> exact (nos e).elim
  | @cons v vs x xs h t ih =>
    intro ks e
    cases ks with
    | nil => exact (nos e).elim
    | cons k ks =>
      unfold fldAtV at e
      show ∃ u, List.lookup f ((k, v) :: ks.zip vs) = some u ∧ _
      rw [List.lookup_cons]
      by_cases q : f = k
      · rw [if_pos q] at e; cases e
        rw [show (f == k) = true from beq_iff_eq.mpr q]
        exact ⟨v, rfl, h⟩
      · rw [if_neg q] at e
        rw [show (f == k) = false from beq_eq_false_iff_ne.mpr q]
        exact ih e
end
/-- what the written part says of classes and a name -/
def ClsT (K : PySem.W.Frag) (CL : Nat → Addr) (cs : List Nat) (f : Str) : Prop := ∀ C ∈ cs, Cls K (CL C) ∧ NoAttr K (CL C) f
def fldC (cs : List Nat) (f : Str) : Option Ce → Option Vd
  | some (.obj C ks xs) => if C ∈ cs then fldAtV ks xs f else none
  | _ => none
def fldOf (cs : List Nat) (f : Str) (μ : Mu) : Vd → Option Vd
  | .t (.obj C ks ds) => if C ∈ cs then (fldAt ks ds f).map .t else none
  | .r n => fldC cs f μ[n]?
  | _ => none
def eFld (cs : List Nat) (f : Str) (fe : FE) : FE := fun ρ μ => (fe ρ μ).bind fun p => (T.ofO (fldOf cs f p.2 p.1)).bind fun x => .ret (x, p.2)
theorem fldOf_rv {g : Gh} {K : PySem.W.Frag} {CL : Nat → Addr} {W : Ow} {μ : Mu} {b : Nat} {H : Hp} {v : V} {x y : Vd} {cs : List Nat} {f : Str} (h : ClsT K CL cs f) (hcl : g.cl = CL) (s : StOk g K W μ b H) (r : RW g K W H v x) (e : fldOf cs f μ x = some y) :
    ∃ a C dx fs u, v = .ref a ∧ H a = some (.ins (CL C) dx fs) ∧ Cls K (CL C) ∧ NoAttr K (CL C) f ∧ fs.lookup f = some u ∧ RW g K W H u y := by
  cases x with
  | t d =>
    cases r with
    | t r =>
    cases r with
    | @obj a dx C ks vs ds g1 g2 g3 rs =>
      have e1 : (if C ∈ cs then (fldAt ks ds f).map Vd.t else none) = some y := e
      by_cases hc : C ∈ cs
      · rw [if_pos hc] at e1
        cases e2 : fldAt ks ds f with
        | none => rw [e2] at e1; cases e1
        | some d =>
          rw [e2] at e1; cases e1
          obtain ⟨u, e3, e4⟩ := fld_at rs e2
          have hh := h C hc
          rw [hcl] at g1
          exact ⟨a, C, dx, _, u, rfl, g1, hh.1, hh.2, e3, .t e4⟩
      · rw [if_neg hc] at e1; exact (nos e1).elim
    | _ => exact (nos e).elim
  | r n =>
    have e : fldC cs f μ[n]? = some y := e
    cases em : μ[n]? with
    | none => rw [em] at e; exact (nos e).elim
    | some c =>
      cases c with
      | obj C ks xs =>
        have e : (if C ∈ cs then fldAtV ks xs f else none) = some y := by rw [em] at e; exact e
        by_cases hc : C ∈ cs
        · rw [if_pos hc] at e
          obtain ⟨a, rfl, hcc, rc⟩ := live s r em (fun z => nomatch z)
          cases rc with
          | @obj _ dx fs vs xs g1 g2 rs =>
            obtain ⟨u, e3, e4⟩ := fld_atV rs e
            have hh := h C hc
            rw [hcl] at g1
            exact ⟨a, C, dx, _, u, rfl, g1, hh.1, hh.2, e3, e4⟩
        · rw [if_neg hc] at e; exact (nos e).elim
      | _ => rw [em] at e; exact (nos e).elim
section
variable {X : Cx} {B : Bd} {CL : Nat → Addr} {e o : Expr} {fe fo : FE} {f : Str} {pos p2 : Pos} {cs : List Nat}
theorem se_fld (cs : List Nat) (h : ClsT X.K CL cs f) (hcl : B.g.cl = CL) (he : PE X e (tM B X.K fe)) (hb : attributeBase e f X.env (eval e X.env) = eval e X.env := by rfl) : PE X (.Attribute e f pos) (tM B X.K (eFld cs f fe)) :=
  PEimp (pe_fld he hb) fun σ H Q ⟨ρ, μ, W, n, R, w⟩ => ⟨ρ, μ, W, n, R, (T.All.bind w).mono fun p n1 h1 v1 W1 H1 k1 R1 r1 => by
    obtain ⟨y, e1, q⟩ := T.All.ofO (T.All.bind h1)
    obtain ⟨a, C, dx, fs, u, e2, e3, e4, e5, e6, e7⟩ := fldOf_rv h hcl R1.st r1 e1
    exact ⟨a, CL C, dx, fs, u, e2, e3, e4, e5, e6, q u W1 H1 k1 R1 e7⟩⟩
/-! o.f = e, o a thing of the store -/
def putFd : List Str → List Vd → Str → Vd → List Str × List Vd
  | k :: ks, x :: xs, f, y => if k = f then (k :: ks, y :: xs) else (k :: (putFd ks xs f y).1, x :: (putFd ks xs f y).2)
  | _, _, f, y => ([f], [y])
theorem putFd_pos {k f : Str} {ks : List Str} {x y : Vd} {xs : List Vd} (h : k = f) : putFd (k :: ks) (x :: xs) f y = (k :: ks, y :: xs) := by unfold putFd; rw [if_pos h]
theorem putFd_neg {k f : Str} {ks : List Str} {x y : Vd} {xs : List Vd} (h : ¬ k = f) : putFd (k :: ks) (x :: xs) f y = (k :: (putFd ks xs f y).1, x :: (putFd ks xs f y).2) := by rw [putFd, if_neg h]
theorem putFd_rw {g : Gh} {K : PySem.W.Frag} {W : Ow} {H : Hp} {v : V} {y : Vd} (ry : RW g K W H v y) {vs : List V} {xs : List Vd} (r : RWs g K W H vs xs) : ∀ {ks : List Str}, ks.length = vs.length →
    ∃ vs', putF f v (ks.zip vs) = (putFd ks xs f y).1.zip vs' ∧ (putFd ks xs f y).1.length = vs'.length ∧ RWs g K W H vs' (putFd ks xs f y).2 := by
  induction r with
  | nil =>
    intro ks l
    cases ks with
    | nil => exact ⟨[v], rfl, rfl, .cons ry .nil⟩
    | cons _ _ => cases l
  | @cons u vs x xs r t ih =>
    intro ks l
    cases ks with
    | nil => cases l
    | cons k ks =>
      have l' : ks.length = vs.length := by simpa using l
      by_cases q : k = f
      · refine ⟨v :: vs, ?_, ?_, ?_⟩
        · show (if (k, u).1 = f then ((k, u).1, v) :: ks.zip vs else _) = (putFd (k :: ks) (x :: xs) f y).1.zip (v :: vs)
          rw [if_pos q, putFd_pos q]; rfl
        · rw [putFd_pos q]; exact l
        · rw [putFd_pos q]; exact .cons ry t
      · obtain ⟨vs', e1, e2, e3⟩ := ih l'
        refine ⟨u :: vs', ?_, ?_, ?_⟩
        · show (if (k, u).1 = f then _ else (k, u) :: putF f v (ks.zip vs)) = (putFd (k :: ks) (x :: xs) f y).1.zip (u :: vs')
          rw [if_neg q, e1, putFd_neg q]; rfl
        · rw [putFd_neg q]; exact congrArg (· + 1) e2
        · rw [putFd_neg q]; exact .cons r e3
def objAt (cs : List Nat) (μ : Mu) (n : Nat) : Option (Nat × List Str × List Vd) := match μ[n]? with
  | some (.obj C fs xs) => if C ∈ cs then some (C, fs, xs) else none
  | _ => none
theorem objAt_some {μ : Mu} {n : Nat} {p : Nat × List Str × List Vd} (h : objAt cs μ n = some p) : μ[n]? = some (.obj p.1 p.2.1 p.2.2) ∧ p.1 ∈ cs := by
  unfold objAt at h
  split at h
  · rename_i C fs xs e
    split at h
    · rename_i hc; cases h; exact ⟨e, hc⟩
    · cases h
  · cases h
def sSetF (cs : List Nat) (f : Str) (fo fe : FE) : FS := fun ρ μ => (fe ρ μ).bind fun p => (fo ρ p.2).bind fun o => (T.ofO (refOf o.1)).bind fun n => (T.ofO (objAt cs o.2 n)).bind fun c =>
  if c.2.1.length < 900 then .ret (.nx ρ (o.2.set n (.obj c.1 (putFd c.2.1 c.2.2 f p.1).1 (putFd c.2.1 c.2.2 f p.1).2))) else .bad
theorem ss_setF (cs : List Nat) (h : ClsT X.K CL cs f) (hcl : B.g.cl = CL) (ho : PE X o (tM B X.K fo)) (he : PE X e (tM B X.K fe)) (hs : swapsWith e (some (.Attribute o f p2)) pos.line X.env = pure false := by rfl) :
    PS X (.Assign [.Attribute o f p2] e pos) (tS B X.K (sSetF cs f fo fe)) :=
  PSimp (ps_fld ho he hs) fun Dn σ H ⟨ρ, μ, W, b, R, w⟩ => ⟨ρ, μ, W, b, R, (T.All.bind w).mono fun p b1 w1 v W1 H1 k1 R1 rv => ⟨ρ, _, W1, b1, R1, (T.All.bind w1).mono fun o b2 w2 u W2 H2 k2 R2 ru => by
    obtain ⟨n, en, w2⟩ := T.All.ofO (T.All.bind w2)
    obtain ⟨c, ec, w2⟩ := T.All.ofO (T.All.bind w2)
    rw [refOf_some en] at ru
    obtain ⟨em, hcs⟩ := objAt_some ec
    obtain ⟨a, rfl, hc, rc⟩ := live R2.st ru em (fun z => nomatch z)
    have hh := h c.1 hcs
    generalize hcc : Ce.obj c.1 c.2.1 c.2.2 = cc at rc
    cases rc with
    | lst _ _ => cases hcc
    | dic _ _ _ => cases hcc
    | @obj C dx fs vs xs g1 g2 rs =>
    cases hcc
    by_cases hz : c.2.1.length < 900
    · rw [if_pos hz] at w2
      obtain ⟨vs', e1, e2, e3⟩ := putFd_rw (f := f) (rv.ext R1.st k2) rs g2
      have g1' := g1
      rw [hcl] at g1'
      refine ⟨a, CL c.1, dx, _, rfl, g1', hh.1, hh.2, by rw [List.length_zip]; omega, ?_⟩
      rw [e1]
      have ex : Ext B.g.pa W2 H2 W2 (upd H2 a (.ins (CL c.1) dx ((putFd c.2.1 c.2.2 f p.1).1.zip vs'))) := ext_set hc .ins
      have st2 : StOk B.g X.K W2 _ b2 (upd H2 a (.ins (CL c.1) dx ((putFd c.2.1 c.2.2 f p.1).1.zip vs'))) := st_set (c := .obj c.1 (putFd c.2.1 c.2.2 f p.1).1 (putFd c.2.1 c.2.2 f p.1).2) R2.st hc em (.obj (by rw [upd_same, hcl]) e2 (e3.keep (kO_set R2.st hc) hs_refl fun _ _ h => .inl h))
      exact w2 σ _ W2 ((k1.trans k2).trans ex) (R2.go ex st2 R2.mono)
    · rw [if_neg hz] at w2; exact w2.elim⟩⟩
end
/-! ### from a def of data and the store to one of data -/
def pureOf (F : List Vd → Mu → T (Vd × Mu)) : List D → T D := fun ds => (F (ds.map .t) []).bind fun p => T.ofO (frz p.2 6 p.1)
theorem ar_pureOf {n : Nat} {F : List Vd → Mu → T (Vd × Mu)} (h : ArS n F) : Ar n (pureOf F) := fun ds hd => by
  unfold pureOf
  rw [h _ _ (by rw [List.length_map]; exact hd)]; rfl
section
variable {P : Program} {w : World} {K : PySem.W.Frag} {mg : Str → Option Value} {base : Heap} {CL : Nat → Addr} {k n : Nat}
theorem st_pure {g : Gh} {O : List Addr} {b : Nat} {H : Hp} (th : ∀ a ∈ O, H a ≠ none) (nt : ∀ a ∈ O, ∀ ps, H a ≠ some (.tbl ps)) (pen : PenOk g.pa (pureW O) H b) (tb : LamX.Tabs g.tb H) : StOk g K (pureW O) [] b H :=
  ⟨(fun _ h => nomatch h), (fun i j a h => by simp [pureW] at h), rfl, (fun i c a h => by simp at h), th, pen, tb, (fun n c h => by simp [pureW] at h), nt⟩
theorem pk_pure {g : Gh} {O : List Addr} {b b' : Nat} {H H' : Hp} {W W' : Ow} {μ : Mu} (hW : ∀ a o, H a = some o → some a ∉ W.c) (pen : PenOk g.pa (pureW O) H b) (e : Ext g.pa W H W' H') (s : StOk g K W' μ b' H') (m : ∀ a ∈ O, a ∈ W'.o) : PK g (pureW O) b' H H' :=
  ⟨fun a o h _ n t => e.kp a o h (hW a o h) n t, pen_of s.pen m fun a z => (pen a z).1, e.al, s.tabs⟩
theorem spS_pure {F : List Vd → Mu → T (Vd × Mu)} {vs : List V} {H : Hp} {Q : VK} {E : XK} (h : spD CL K n (pureOf F) vs H Q E) : spS CL K n F vs H Q E := by
  obtain ⟨hl, g, O, b, ds, hcl, th, nt, pen, tb, rv, hall⟩ := h
  refine ⟨hl, g, pureW O, [], b, ds.map .t, hcl, st_pure th nt pen tb, rv.ws, (T.All.bind hall).mono fun p b' q v W' H' e s m rx => ?_⟩
  obtain ⟨d, ed, q⟩ := T.All.ofO q
  refine q v H' (pk_pure (W := pureW O) (fun a o _ z => nomatch z) pen e s m) (frz_rv s m (fun a ha z => ?_) 6 _ rx ed)
  obtain ⟨i, hi⟩ := mem_get ha
  rcases e.hc i a hi with q | ⟨_, q⟩
  · exact nomatch (show ([] : List (Option Addr))[i]? = some (some a) from q)
  · exact q (nt_of th nt a z)
theorem fnG_pure {F : List Vd → Mu → T (Vd × Mu)} {f : Addr} {fd : FuncData} {ps : List Str} (G : FnG P w K mg base k f fd ps (spS CL K n F)) : FnG P w K mg base k f fd ps (spD CL K n (pureOf F)) :=
  ⟨fun vs H Q E h => G.len vs H Q E (spS_pure h), fun A o s H a us vs Q E hr e0 hb r h => G.run A o s H a us vs Q E hr e0 hb r (spS_pure h)⟩
theorem FnS.pure {x : Str} {F : List Vd → Mu → T (Vd × Mu)} (h : FnS P w K mg base CL k x n F) : Fn P w K mg base CL k x n (pureOf F) := by
  obtain ⟨f, fd, ps, h1, h2, h3, h4, h5⟩ := h.h
  exact ⟨f, fd, ps, h1, h2, h3, h4, fnG_pure h5⟩
end

/-! ### C(..) -/
theorem Rm.make {k : Nat} {A : Around} (r : Rm (k + 1) A) (C : Addr) (us : List Value) (kw : List (Str × Value)) : Rm k (A.under (.builtin "type.__call__" ⟨.ref C :: us, kw⟩)) := ⟨r.room.make C us kw, r.gd⟩
section
variable {X : Cx} {k n : Nat} {f C : Addr} {fd : FuncData} {ps ks : List Str} {sp : Sp} {E : XK} {x : Str} {p pos : Pos} {e : Expr} {es : List Expr} {kws : List Keyword} {t tk : TA}
theorem run_makeG {pins : List (Addr × Obj)} {σ : L2.St} {H : Hp} {s : Shared} {Q : VK} {us : List Value} {vs : List V} (M : Mk X.K C f) (F : FnG X.prog X.w X.K X.mg X.base k f fd ps sp) (hr : Rm (k + 1) X.A) (hb : Binds X.K fd ps [])
    (hx : Passes (L2.CX X.prog X.w) X E) (I : Inv X pins σ H s) (r : Vals vs us)
    (h : ∀ x dx, H x = none → H dx = none → dx ≠ x → sp (.ref x :: vs) (upd (upd H dx (.own x)) x (.ins C dx [])) (fun v H2 => v = .non ∧ Q (.ref x) H2) E) :
    wpAny (model X.prog X.w) X.A (call (.ref C) us) (EP X pins σ Q) X.xe s := by
  have hq := h (s.heap.objs.size + 1) s.heap.objs.size (I.hok.fresh (Nat.le_succ _)) (I.hok.fresh (Nat.le_refl _)) (Nat.ne_of_lt (Nat.lt_succ_self _))
  have I2 := Inv.made (C := C) I
  have r2 : Vals (V.ref (s.heap.objs.size + 1) :: vs) (Value.ref (s.heap.objs.size + 1) :: us) := .cons rfl r
  have hl : (Value.ref (s.heap.objs.size + 1) :: us).length = ps.length := by
    have e := r2.length
    rw [F.len _ _ _ _ hq] at e
    exact e.symm
  have hb2 := hb _ (Value.ref (s.heap.objs.size + 1) :: us) I2.kIn (by rw [List.append_nil]; exact hl)
  rw [List.append_nil] at hb2
  refine wpAny_call (make_map (f := f) I.kIn M.makes M.init (beq_iff_eq.mp M.fn) (codeAny_mono (F.run _ X.stack _ _ ⟨Value.ref (s.heap.objs.size + 1) :: us, []⟩ (Value.ref (s.heap.objs.size + 1) :: us) _ _ E (hr.make C us [])
    (I2.env0.make C us []) hb2 r2 hq) fun r s' hq' => ?_))
  cases r with
  | error e => exact hx pins σ _ _ e s' I2 hq'
  | ok fl =>
    cases fl with
    | ret u =>
      obtain ⟨v, H', I3, rv, ev, q3⟩ := I2.after hq'
      subst ev
      exact ⟨rv, ⟨V.ref (s.heap.objs.size + 1), H', I3, rfl, q3⟩⟩
    | next => exact False.elim hq'
    | brk => exact False.elim hq'
    | cont => exact False.elim hq'
/-- the call's reading -/
def tMk (C : Addr) (sp : Sp) (E : XK) (t : TA) : TE := fun σ H Q => t σ H fun vs H1 => ∀ x dx, H1 x = none → H1 dx = none → dx ≠ x → sp (.ref x :: vs) (upd (upd H1 dx (.own x)) x (.ins C dx [])) (fun v H2 => v = .non ∧ Q (.ref x) H2) E
theorem pe_makeG (M : Mk X.K C f) (F : FnG X.prog X.w X.K X.mg X.base k f fd ps sp) (hr : Rm (k + 1) X.A) (hm : X.mg x = some (.ref C)) (hb : Binds X.K fd ps []) (hx : Passes (L2.CX X.prog X.w) X E)
    (ha : PA X (e :: es) t) (hg : Gl X x := by rfl) (hdb : (x == ("__debug__" : Str)) = false := by decide) (he : starEach (e :: es) X.env = (false, eval e X.env) :: starEach es X.env := by rfl) (hpl : (backTo pos (starEach es X.env)).any (·.1) = false := by rfl) :
    PE X (.Call (.Name x p) (e :: es) [] pos) (tMk C sp E t) := by
  refine ⟨fun pins s σ H Q I h => ?_⟩
  refine wpAny_Call_Name_kw (ld_glob I hg hm ?_ hdb)
  refine PySem.W.callWith_K (h₀ := X.base) I.ok.mod.kin M.kp (thn (ha.run pos pins s σ H _ I h) fun us s1 ⟨vs, H1, I1, r, q⟩ => ⟨I1.kIn, ?_⟩) he hpl
  exact run_makeG M F hr hb hx I1 r q
end
/-- a class of the text, made by name: its __init__ is the function F of data and the store -/
structure Kl (P : Program) (w : World) (K : PySem.W.Frag) (mg : Str → Option Value) (base : Heap) (CL : Nat → Addr) (k : Nat) (x : Str) (C n : Nat) (F : List Vd → Mu → T (Vd × Mu)) : Prop where
  h : ∃ (f : Addr) (fd : FuncData) (ps : List Str), mg x = some (.ref (CL C)) ∧ Mk K (CL C) f ∧ Binds K fd ps [] ∧ FnG P w K mg base k f fd ps (spS CL K (n + 1) F)
/-- the data that C's __init__ makes -/
def mkD (C : Nat) (F : List Vd → Mu → T (Vd × Mu)) : List D → T D := fun ds => (F (.r 0 :: ds.map .t) [.obj C [] []]).bind fun p => T.ofO (frz p.2 6 (.r 0))
/-- a new thing of the store -/
def eMakeS (C : Nat) (F : List Vd → Mu → T (Vd × Mu)) (fa : FA) : FE := fun ρ μ => (fa ρ μ).bind fun p => (F (.r p.2.length :: p.1) (p.2 ++ [.obj C [] []])).bind fun q => .ret (.r p.2.length, q.2)
theorem made_same {H : Hp} {x dx : Addr} {C : Addr} (h1 : H x = none) (h2 : H dx = none) (hn : dx ≠ x) : Same H (upd (upd H dx (.own x)) x (.ins C dx [])) := fun b o e => by
  rw [upd_ne (ne_of_none e h1), upd_ne (ne_of_none e h2)]; exact e
/-- the promise of an __init__, from that of the data -/
theorem mk_imp {CL : Nat → Addr} {K : PySem.W.Frag} {C n : Nat} {F : List Vd → Mu → T (Vd × Mu)} {vs : List V} {H : Hp} {Q : VK} {E : XK} (h : spD CL K n (mkD C F) vs H Q E) {x dx : Addr} (h1 : H x = none) (h2 : H dx = none) (hn : dx ≠ x) (hnon : ∀ xs μ b P Y, (F xs μ).All b P Y → (F xs μ).All b (fun p b' => p.1 = .t .non ∧ P p b') Y) :
    spS CL K (n + 1) F (.ref x :: vs) (upd (upd H dx (.own x)) x (.ins (CL C) dx [])) (fun v H2 => v = .non ∧ Q (.ref x) H2) E := by
  obtain ⟨hl, g, O, b, ds, hcl, th, nt, pen, tb, rv, hall⟩ := h
  have sm : Same H (upd (upd H dx (.own x)) x (.ins (CL C) dx [])) := made_same h1 h2 hn
  have hxO : x ∉ O := notO th h1
  have st0 : StOk g K (pureW O) [] b H := st_pure th nt pen tb
  have st1 : StOk g K ((pureW O).new x) ([] ++ [.obj C [] []]) b (upd (upd H dx (.own x)) x (.ins (CL C) dx [])) := by
    have s2 : StOk g K (pureW O) [] b (upd H dx (.own x)) := st0.same (same_new h2)
    exact st_new s2 (by rw [upd_ne (Ne.symm hn)]; exact h1) (.obj (dx := dx) (vs := []) (by rw [upd_same, hcl]; rfl) rfl .nil)
  have rvs : RWs g K ((pureW O).new x) (upd (upd H dx (.own x)) x (.ins (CL C) dx [])) vs (ds.map .t) := (RVs.ws (W := pureW O) rv).keep (.of sm) (hs_new h1) pre_new
  refine ⟨by rw [List.length_cons, hl], g, (pureW O).new x, [.obj C [] []], b, .r 0 :: ds.map .t, hcl, st1, .cons (.r rfl) rvs, (hnon _ _ _ _ _ (T.All.bind hall)).mono2 (fun p b' ⟨ev, q⟩ v W' H' e s m rx => ?_) fun C' fs es b' y d H' pk ex => ?_⟩
  · obtain ⟨d, ed, q⟩ := T.All.ofO q
    rw [ev] at rx
    have rx := tof rx rfl
    cases rx
    refine ⟨rfl, ?_⟩
    have hW : ∀ a o, H a = some o → some a ∉ ((pureW O).new x).c := fun a o h z => by
      have z : some a ∈ [some x] := z
      cases List.mem_singleton.mp z
      rw [h1] at h; cases h
    have back : ∀ a, ¬ NT (upd (upd H dx (.own x)) x (.ins (CL C) dx [])) a → ¬ NT H a := fun a q h => q (Same.nt sm a h)
    have e' : Ext g.pa ((pureW O).new x) H W' H' := by
      refine ⟨fun a o h n1 n2 t => e.kp a o (sm a o h) n1 n2 t, e.pre, fun a ha => ?_, fun n a ha => ?_, fun a h => e.al a (Same.nt sm a h), fun a ha h hc => e.ow a ha (Same.nt sm a h) hc⟩
      · rcases e.hs a ha with q | q
        · exact .inl q
        · exact .inr (back a q)
      · rcases e.hc n a ha with q | ⟨l, q⟩
        · exact .inl q
        · exact .inr ⟨l, back a q⟩
    refine q (.ref x) H' (pk_pure hW pen e' s fun a ha => m a (List.mem_cons_of_mem _ ha)) (frz_rv s (fun a ha => m a (List.mem_cons_of_mem _ ha)) (fun a ha z => ?_) 6 (.r 0) ?_ ed)
    · obtain ⟨i, hi⟩ := mem_get ha
      rcases e'.hc i a hi with q | ⟨_, q⟩
      · have z2 : some a ∈ [some x] := get_mem q
        cases List.mem_singleton.mp z2
        exact hxO z
      · exact q (nt_of th nt a z)
    · rcases e.pre 0 (some x) rfl with q | q
      · exact .r q
      · exact .z q
  · -- an error out of the __init__
    refine y d H' ⟨fun a o h _ n t => pk.kp a o (sm a o h) (fun z => ?_) n t, fun a ea => ?_, fun a h => pk.al a (Same.nt sm a h), pk.tb⟩ ⟨?_, ?_⟩
    · have z : some a ∈ [some x] := z
      cases List.mem_singleton.mp z
      rw [h1] at h; cases h
    · obtain ⟨_, _, c, t, r, cells, g1, g2, g3, g4⟩ := pk.pen a ea
      exact ⟨(pen a ea).1, (fun z => nomatch z), c, t, r, cells, g1, g2, fun z => g3 (List.mem_cons_of_mem _ z), g4⟩
    · obtain ⟨ws, g1, g2, g3⟩ := ex.at_
      exact ⟨ws, g1, g2, g3.keep .refl (hs_sub fun a h => List.mem_cons_of_mem _ h)⟩
    · exact fun h => ex.new (Same.nt sm d h)
section
variable {X : Cx} {B : Bd} {k j : Nat} {x : Str} {C n : Nat} {F : List Vd → Mu → T (Vd × Mu)} {e : Expr} {es : List Expr} {fa : FA} {p pos : Pos}
/-- an __init__ ends with None -/
def EndsNon (F : List Vd → Mu → T (Vd × Mu)) : Prop := ∀ xs μ b P Y, (F xs μ).All b P Y → (F xs μ).All b (fun p b' => p.1 = .t .non ∧ P p b') Y
theorem se_make {CL : Nat → Addr} (h : Kl X.prog X.w X.K X.mg X.base CL j x C n F) (hn : Ar n (mkD C F)) (hend : EndsNon F) (hr : Rm k X.A) (hj : j + 1 ≤ k) (hx : Lets X B) (hcl : B.g.cl = CL) (ha : PA X (e :: es) (tL B X.K fa)) (hg : Gl X x := by rfl) (hdb : (x == ("__debug__" : Str)) = false := by decide)
    (he : starEach (e :: es) X.env = (false, eval e X.env) :: starEach es X.env := by rfl) (hpl : (backTo pos (starEach es X.env)).any (·.1) = false := by rfl) : PE X (.Call (.Name x p) (e :: es) [] pos) (tM B X.K (eCallF (mkD C F) fa)) := by
  obtain ⟨f, fd, ps, h1, h2, h3, h4⟩ := h.h
  obtain ⟨E, hp, hE⟩ := hx
  exact PEimp (pe_makeG h2 h4 (hr.mono hj) h1 h3 hp ha hg hdb he hpl) fun σ H Q q => by
    obtain ⟨ρ, μ, W, b, R, w⟩ := call_imp hcl hE hn σ H Q q
    exact ⟨ρ, μ, W, b, R, T.All.mono w fun p b' g vs W' H' e' R' r' x dx hx hdx hne => mk_imp (g vs W' H' e' R' r') hx hdx hne hend⟩
end
end Y

set_option Elab.async false
set_option linter.all false
set_option maxRecDepth 100000
set_option maxHeartbeats 1000000
/-! Y14: __init__ as a function; methods; calls without arguments. -/
namespace Y
open PySem PySem.Spec PyProof.Rows L2

/-- an __init__: it ends with None -/
def finI (r : Fl) : T (Vd × Mu) := match r with
  | .nx _ μ => .ret (.t .non, μ)
  | _ => .bad
def fnI (N n : Nat) (f : FS) : List Vd → Mu → T (Vd × Mu) := fun xs μ => if xs.length = n then (f (ini N xs) μ).bind finI else .bad
theorem ar_fnI {N n : Nat} {f : FS} : ArS n (fnI N n f) := fun ds μ h => by unfold fnI; rw [if_neg h]
theorem ar_mkD {C n : Nat} {F : List Vd → Mu → T (Vd × Mu)} (h : ArS (n + 1) F) : Ar n (mkD C F) := fun ds hd => by
  unfold mkD
  rw [h _ _ (by rw [List.length_cons, List.length_map]; omega)]; rfl
theorem ends_fnI {N n : Nat} {f : FS} : EndsNon (fnI N n f) := fun xs μ b P Y h => by
  unfold fnI at h ⊢
  by_cases z : xs.length = n
  · rw [if_pos z] at h ⊢
    refine T.All.of_bind ((T.All.bind h).mono fun r b' q => ?_)
    cases r with
    | nx ρ μ => exact ⟨rfl, q⟩
    | rt x μ => exact q.elim
    | bk _ _ => exact q.elim
    | ct _ _ => exact q.elim
  · rw [if_neg z] at h; exact h.elim
theorem fnI_S {N n : Nat} {f : FS} {xs : List Vd} {μ : Mu} {b : Nat} {P : Vd × Mu → Nat → Prop} {Y : XP} (h : (fnI N n f xs μ).All b P Y) : (fnS N n f xs μ).All b P Y := by
  unfold fnI at h
  unfold fnS
  by_cases z : xs.length = n
  · rw [if_pos z] at h ⊢
    refine T.All.of_bind ((T.All.bind h).mono fun r b' q => ?_)
    cases r with
    | nx ρ μ => exact q
    | rt x μ => exact q.elim
    | bk _ _ => exact q.elim
    | ct _ _ => exact q.elim
  · rw [if_neg z] at h; exact h.elim
section
variable {P : Program} {w : World} {K : PySem.W.Frag} {mg : Str → Option Value} {base : Heap} {CL : Nat → Addr} {k n : Nat}
theorem fnG_I {N : Nat} {fs : FS} {f : Addr} {fd : FuncData} {ps : List Str} (G : FnG P w K mg base k f fd ps (spS CL K n (fnS N n fs))) : FnG P w K mg base k f fd ps (spS CL K n (fnI N n fs)) := by
  have c : ∀ {vs H Q E}, spS CL K n (fnI N n fs) vs H Q E → spS CL K n (fnS N n fs) vs H Q E := fun {vs H Q E} h => by
    obtain ⟨hl, g, W, μ, b, xs, hcl, st, rv, hall⟩ := h
    exact ⟨hl, g, W, μ, b, xs, hcl, st, rv, fnI_S hall⟩
  exact ⟨fun vs H Q E h => G.len vs H Q E (c h), fun A o s H a us vs Q E hr e0 hb r h => G.run A o s H a us vs Q E hr e0 hb r (c h)⟩
end

/-! ### methods -/
section
variable {X : Cx} {k : Nat} {f C : Addr} {fd : FuncData} {ps : List Str} {sp : Sp} {E : XK} {m : Str} {p pos apos : Pos} {o e : Expr} {es : List Expr} {ta : TE} {t : TA}
def tMe (C : Addr) (m : Str) (sp : Sp) (E : XK) (ta : TE) (t : TA) : TE := fun σ H Q => ta σ H fun x H1 => ∃ a dx fs, x = .ref a ∧ H1 a = some (.ins C dx fs) ∧ fs.lookup m = none ∧ t σ H1 fun vs H2 => sp (x :: vs) H2 Q E
theorem pe_methG {pl : Sem Bool} (he : PE X o ta) (c : Cls X.K C) (hm : Meth X.K C m f) (F : FnG X.prog X.w X.K X.mg X.base k f fd ps sp) (hr : Rm k X.A) (hb : Binds X.K fd ps []) (hx : Passes (L2.CX X.prog X.w) X E) (ha : PA X (e :: es) t)
    (hst : starEach (e :: es) X.env = (false, eval e X.env) :: starEach es X.env := by rfl) (hpl : (backTo pos (starEach es X.env)).any (·.1) = false := by rfl)
    (ht : eval (.Call (.Attribute o m apos) (e :: es) [] pos) X.env = (do
      let ov ← eval o X.env
      standAt apos.atName
      let (f, first) ← holding [ov] (getMethod ov m pl)
      callWith pos f first (backTo pos (starEach (e :: es) X.env)) (backToKw pos (keywordEach [] X.env))) := by rfl) :
    PE X (.Call (.Attribute o m apos) (e :: es) [] pos) (tMe C m sp E ta t) := by
  refine ⟨fun pins s σ H Q I h => ?_⟩
  refine PySem.W.methodCall_KW (pl := pl) (thn (he.run pins s σ H _ I h) fun u s1 ⟨x, H1, I1, rx, a, dx, fs, ex, ea, l, q⟩ => ?_) ht
  subst ex
  obtain rfl : u = Value.ref a := rx
  refine getmeth_ok I1 ea c hm l ?_
  refine PySem.W.callWith_K (first := [.ref a]) (h₀ := X.base) I.ok.mod.kin hm.kp (thn (ha.run pos pins s1 σ H1 _ I1 q) fun us s2 ⟨vs, H2, I2, r, q2⟩ => ⟨I2.kIn, ?_⟩) hst hpl
  exact runG (us := .ref a :: us) (vs := .ref a :: vs) F hr hb hx I2 (.cons rfl r) q2
theorem pe_methG0 {pl : Sem Bool} (he : PE X o ta) (c : Cls X.K C) (hm : Meth X.K C m f) (F : FnG X.prog X.w X.K X.mg X.base k f fd ps sp) (hr : Rm k X.A) (hb : Binds X.K fd ps []) (hx : Passes (L2.CX X.prog X.w) X E)
    (ht : eval (.Call (.Attribute o m apos) [] [] pos) X.env = (do
      let ov ← eval o X.env
      standAt apos.atName
      let (f, first) ← holding [ov] (getMethod ov m pl)
      callWith pos f first (backTo pos (starEach [] X.env)) (backToKw pos (keywordEach [] X.env))) := by rfl) :
    PE X (.Call (.Attribute o m apos) [] [] pos) (tMe C m sp E ta fun σ H Q => Q [] H) := by
  refine ⟨fun pins s σ H Q I h => ?_⟩
  refine PySem.W.methodCall_KW (pl := pl) (thn (he.run pins s σ H _ I h) fun u s1 ⟨x, H1, I1, rx, a, dx, fs, ex, ea, l, q⟩ => ?_) ht
  subst ex
  obtain rfl : u = Value.ref a := rx
  refine getmeth_ok I1 ea c hm l ?_
  exact PySem.W.callWith_K0 (first := [.ref a]) I1.kIn hm.kp (runG (us := [.ref a]) (vs := [.ref a]) F hr hb hx I1 (.cons rfl .nil) q)
end
/-- a method of the text -/
structure MeS (P : Program) (w : World) (K : PySem.W.Frag) (mg : Str → Option Value) (base : Heap) (CL : Nat → Addr) (k C : Nat) (m : Str) (n : Nat) (F : List Vd → Mu → T (Vd × Mu)) : Prop where
  h : ∃ (f : Addr) (fd : FuncData) (ps : List Str), Cls K (CL C) ∧ Meth K (CL C) m f ∧ Binds K fd ps [] ∧ FnG P w K mg base k f fd ps (spS CL K (n + 1) F)
/-- an instance of C, with no field of the name m -/
def instOf (C : Nat) (m : Str) (μ : Mu) : Vd → Bool
  | .t (.obj C' ks _) => decide (C' = C ∧ m ∉ ks)
  | .r n => match μ[n]? with
    | some (.obj C' ks _) => decide (C' = C ∧ m ∉ ks)
    | _ => false
  | _ => false
theorem look_none {α : Type} {m : Str} : ∀ {ks : List Str} {vs : List α}, m ∉ ks → (ks.zip vs).lookup m = none
  | [], _, _ => rfl
  | _ :: _, [], _ => rfl
  | k :: ks, v :: vs, h => by
    rw [List.mem_cons, not_or] at h
    show List.lookup m ((k, v) :: ks.zip vs) = none
    rw [List.lookup_cons, show (m == k) = false from beq_eq_false_iff_ne.mpr h.1]
    exact look_none h.2
theorem inst_ok {g : Gh} {K : PySem.W.Frag} {CL : Nat → Addr} {W : Ow} {μ : Mu} {b : Nat} {H : Hp} {v : V} {x : Vd} {C : Nat} {m : Str} (hcl : g.cl = CL) (s : StOk g K W μ b H) (r : RW g K W H v x) (e : instOf C m μ x = true) : ∃ a dx fs, v = .ref a ∧ H a = some (.ins (CL C) dx fs) ∧ fs.lookup m = none := by
  cases x with
  | t d =>
    cases r with
    | t r =>
    cases r with
    | @obj a dx C' ks vs ds g1 g2 g3 rs =>
      have e : decide (C' = C ∧ m ∉ ks) = true := e
      obtain ⟨rfl, hm⟩ := of_decide_eq_true e
      rw [hcl] at g1
      exact ⟨a, dx, _, rfl, g1, look_none hm⟩
    | _ => exact nomatch e
  | r n =>
    have e : (match μ[n]? with | some (.obj C' ks _) => decide (C' = C ∧ m ∉ ks) | _ => false) = true := e
    split at e
    · rename_i C' ks xs em
      obtain ⟨rfl, hm⟩ := of_decide_eq_true e
      obtain ⟨a, rfl, hcc, rc⟩ := live s r em (fun z => nomatch z)
      cases rc with
      | obj g1 g2 rs =>
        rw [hcl] at g1
        exact ⟨a, _, _, rfl, g1, look_none hm⟩
    · exact nomatch e
def eMeth (C : Nat) (m : Str) (F : List Vd → Mu → T (Vd × Mu)) (fo : FE) (fa : FA) : FE := fun ρ μ => (fo ρ μ).bind fun o => if instOf C m o.2 o.1 then (fa ρ o.2).bind fun p => F (o.1 :: p.1) p.2 else .bad
section
variable {X : Cx} {B : Bd} {CL : Nat → Addr} {k j C n : Nat} {m : Str} {F : List Vd → Mu → T (Vd × Mu)} {o e : Expr} {es : List Expr} {fo : FE} {fa : FA} {p pos apos : Pos}
theorem meth_imp {sp : Sp} {E : XK} (hcl : B.g.cl = CL) (hx : LetE X B E) (hn : ArS (n + 1) F) (σ : L2.St) (H : Hp) (Q : VK) (h : tM B X.K (eMeth C m F fo fa) σ H Q) : tMe (CL C) m (spS CL X.K (n + 1) F) E (tM B X.K fo) (tL B X.K fa) σ H Q := by
  obtain ⟨ρ, μ, W, b, R, h⟩ := h
  refine ⟨ρ, μ, W, b, R, (T.All.bind h).mono fun o n1 h1 v1 W1 H1 k1 R1 r1 => ?_⟩
  by_cases hi : instOf C m o.2 o.1 = true
  · rw [if_pos hi] at h1
    obtain ⟨a, dx, fs, rfl, g1, g2⟩ := inst_ok hcl R1.st r1 hi
    refine ⟨a, dx, fs, rfl, g1, g2, ρ, o.2, W1, n1, R1, (T.All.bind h1).mono fun p n2 h2 vs W2 H2 k2 R2 r2 => ?_⟩
    by_cases z : (o.1 :: p.1).length = n + 1
    · refine ⟨by rw [List.length_cons, r2.length]; exact z, B.g, W2, p.2, n2, o.1 :: p.1, hcl, R2.st, .cons (r1.ext R1.st k2) r2, T.All.mono2 h2 (fun q b' hq v W' H' ex st mo rv => hq v W' H' ((k1.trans k2).trans ex) (R2.go ex st fun a h => mo a (R2.mono a h)) rv) fun C fs es b' y d H' pk ex => hx C fs es b' d H' y (R2.outS pk) (R2.exat ex)⟩
    · rw [hn _ p.2 z] at h2; exact h2.elim
  · rw [if_neg hi] at h1; exact h1.elim
theorem se_meth {pl : Sem Bool} (h : MeS X.prog X.w X.K X.mg X.base CL j C m n F) (hn : ArS (n + 1) F) (hr : Rm k X.A) (hj : j ≤ k) (hx : Lets X B) (hcl : B.g.cl = CL) (ho : PE X o (tM B X.K fo)) (ha : PA X (e :: es) (tL B X.K fa))
    (hst : starEach (e :: es) X.env = (false, eval e X.env) :: starEach es X.env := by rfl) (hpl : (backTo pos (starEach es X.env)).any (·.1) = false := by rfl)
    (ht : eval (.Call (.Attribute o m apos) (e :: es) [] pos) X.env = (do
      let ov ← eval o X.env
      standAt apos.atName
      let (f, first) ← holding [ov] (getMethod ov m pl)
      callWith pos f first (backTo pos (starEach (e :: es) X.env)) (backToKw pos (keywordEach [] X.env))) := by rfl) :
    PE X (.Call (.Attribute o m apos) (e :: es) [] pos) (tM B X.K (eMeth C m F fo fa)) := by
  obtain ⟨f, fd, ps, h1, h2, h3, h4⟩ := h.h
  obtain ⟨E, hp, hE⟩ := hx
  exact PEimp (pe_methG ho h1 h2 h4 (hr.mono hj) h3 hp ha hst hpl ht) fun σ H Q q => meth_imp (sp := spS CL X.K (n + 1) F) hcl hE hn σ H Q q
theorem se_meth0 {pl : Sem Bool} (h : MeS X.prog X.w X.K X.mg X.base CL j C m 0 F) (hn : ArS 1 F) (hr : Rm k X.A) (hj : j ≤ k) (hx : Lets X B) (hcl : B.g.cl = CL) (ho : PE X o (tM B X.K fo))
    (ht : eval (.Call (.Attribute o m apos) [] [] pos) X.env = (do
      let ov ← eval o X.env
      standAt apos.atName
      let (f, first) ← holding [ov] (getMethod ov m pl)
      callWith pos f first (backTo pos (starEach [] X.env)) (backToKw pos (keywordEach [] X.env))) := by rfl) :
    PE X (.Call (.Attribute o m apos) [] [] pos) (tM B X.K (eMeth C m F fo aNil)) := by
  obtain ⟨f, fd, ps, h1, h2, h3, h4⟩ := h.h
  obtain ⟨E, hp, hE⟩ := hx
  refine PEimp (pe_methG0 ho h1 h2 h4 (hr.mono hj) h3 hp ht) fun σ H Q q => ?_
  obtain ⟨ρ, μ, W, b, R, w⟩ := meth_imp (sp := spS CL X.K 1 F) hcl hE hn σ H Q q
  exact ⟨ρ, μ, W, b, R, T.All.mono w fun o b' g v W' H' e' R' r' => by
    obtain ⟨a, dx, fs, g1, g2, g3, ρ2, μ2, W2, b2, R2, w2⟩ := g v W' H' e' R' r'
    exact ⟨a, dx, fs, g1, g2, g3, w2 [] W2 H' .refl R2 .nil⟩⟩
end
end Y

set_option Elab.async false
set_option linter.all false
set_option maxRecDepth 100000
set_option maxHeartbeats 2000000
/-! Y15: own errors whose __init__ says super().__init__(..), then keeps its parameters. -/
namespace Y
open PySem PySem.W PySem.Calls PyProof.Rows PySem.HandSPX

/-- what the written part says of the error's class at C and of its __init__ at f -/
structure SxK (prog : Program) (K : Frag) (C f cc cda : Addr) (qual : Str) (params : Arguments) (body : List Stmt) (scope : Scope) : Prop where
  cls : ∃ nm q N bs bm sn sub ab col dd k0 k1 k2 k3 k5, K.lookup C = some (excClassObj nm q C N bs bm true sn sub ab col dd k0 k1 k2 k3 k5 "ValueError.__new__") ∧ refsVE bm = true
  fn : ∃ oc od dV kV doc pm an ct osl, K.lookup f = some ⟨oc, od, .func (ksFn "__init__" qual params body scope dV kV doc pm an (.ref cda) ct cc), osl⟩
  code : codeIn K (.ref cda) qual = true
  cda : ∃ ccl cdd vs ccs file tf, K.lookup cda = some ⟨ccl, cdd, .fields vs, ccs⟩ ∧ vs[2]? = some (.str file tf) ∧ ((prog.main.file : Str) == file) = true
  cell : ∃ cl cld csl, K.lookup cc = some ⟨cl, cld, .cell (some (.ref C)), csl⟩
  sub : mroIn K C (.ref C) = some true
  isVE : subIn K (.ref C) (.type "ValueError") = some true
  sup : ks_superIn K C C "__init__" = some (some (.builtin "ValueError.__init__"))
  third : nsIn K cStatics "thirdparty.any" = some none
  sa : findIn K (.ref C) "__setattr__" = some (some (.builtin "object.__setattr__"))
  main : (prog.main.scope.names.lookup ("super" : Str)).isSome = false
  arg0 : ∃ ar, (params.posonlyargs ++ params.args).head? = some ar ∧ ar.arg = "self"
  ks : scope.names.lookup ("super" : Str) = some .globalImplicit
  kc : scope.names.lookup ("__class__" : Str) = some .free
  k0 : scope.names.lookup ("self" : Str) = some .local
  kf : scope.kind = .function
section
variable {prog : Program} {w : World} {K : Frag} {C f cc cda : Addr} {qual : Str} {params : Arguments} {body : List Stmt} {scope : Scope} {A : Around} {E : Value → Shared → Prop} {h : Heap} {g : Array GenState} {d : Drawn} {t : Nat} {os : OsState}
theorem SxK.cd (S : SxK prog K C f cc cda qual params body scope) : ∃ cd, clsIn K C = some cd ∧ refsVE cd.mro = true ∧ cd.hasDict = true := by
  obtain ⟨nm, q, N, bs, bm, sn, sub, ab, col, dd, k0, k1, k2, k3, k5, hC, hbm⟩ := S.cls
  exact ⟨{ name := nm, bases := bs, mro := .ref C :: bm, ns := N, qualname := q, hasDict := true, slotNames := sn, subclasses := sub, abstract := ab, collection := col, hasDel := false }, by unfold clsIn; rw [hC] <;> rfl, hbm, rfl⟩
/-- the bound __init__ is called: its arguments are laid anew -/
theorem sx_call (S : SxK prog K C f cc cda qual params body scope) (X : K.In h) {u e t0 : Addr} {rest : List Value} {Q : Value → Shared → Prop} (hu : h.get? u = some (kxs_mw "ValueError.__init__" e)) (he : h.get? e = some (excObj C t0 none .none)) (hz : rest.length ≤ sizeLine)
    (hq : ∀ h' t1, (∀ b o, b ≠ e → h.get? b = some o → h'.get? b = some o) → h'.get? e = some (excObj C t1 none .none) → Q .none ⟨h', g, d, t, os⟩) : wpAny (model prog w) A (call (.ref u) rest) Q E ⟨h, g, d, t, os⟩ := by
  obtain ⟨nm, q, N, bs, bm, sn, sub, ab, col, dd, k0, k1, k2, k3, k5, hC, hbm⟩ := S.cls
  refine wpAny_call (codeAny_of_tree ?_)
  show wpAny _ A.in1 (callAny (.ref u) ⟨rest, []⟩) _ _ _
  simp only [callAny]
  refine wpAny_bind (wpAny_load hu ?_)
  simp only [kxs_mw, show (Value.type "method-wrapper" == Value.type "method" || Value.type "method-wrapper" == Value.type "builtin_function_or_method" || Value.type "method-wrapper" == Value.type "method-wrapper") = true by decide, if_true]
  refine KFB.if_so (by decide) ?_
  refine wpAny_bind (check_bound_init F.excBase_ValueError.toExcCallFacts (X _ _ hC) he rfl ?_)
  refine wpAny_bind (wpAny_pure (wpAny_pure ?_))
  refine ⟨plainId_quiet F.excBase_ValueError.init.plain _, codeAny_builtin F.excBase_ValueError.initEntry ?_⟩
  exact exc_init_tree (cls := .ref C) (t0 := t0) (dv := none) (c2 := .none) (c3 := .none) (b4 := .bool false) he hz fun h' k e' _ => hq h' _ k e'
/-- super().__init__(args) as an expression of the body -/
theorem sx_super {pl : Sem Bool} (S : SxK prog K C f cc cda qual params body scope) {mg mb m : Str → Option Value} {L e t0 : Addr} {p0 p1 p2 pos : Pos} {a1 : Expr} {rest : List Expr} {us : List Value} {Q : Value → Shared → Prop} (X : K.In h) (nG : h.Ns mainGlobals mg) (hmg : mg "super" = none) (nB : h.Ns builtinsNs mb) (hmb : mb "super" = some (.type "super"))
    (nL : h.Ns L m) (hself : m "self" = some (.ref e)) (he : h.get? e = some (excObj C t0 none .none)) (hz : us.length ≤ sizeLine) (hne : L ≠ e)
    (hargs : ∀ (h1 : Heap) (t' : Nat) (Q' : List Value → Shared → Prop), (∀ b o, h.get? b = some o → h1.get? b = some o) → Q' us ⟨h1, g, d, t', os⟩ → wpAny (model prog w) A (spliced (backTo pos (starEach (a1 :: rest) (ksEnv qual scope L f (.ref cda) cc)))) Q' E ⟨h1, g, d, t', os⟩)
    (hq : ∀ h' t' t1, (∀ b o, b ≠ e → h.get? b = some o → h'.get? b = some o) → h'.get? e = some (excObj C t1 none .none) → Q .none ⟨h', g, d, t', os⟩)
    (hev : eval (.Call (.Attribute (.Call (.Name "super" p0) [] [] p1) "__init__" p2) (a1 :: rest) [] pos) (ksEnv qual scope L f (.ref cda) cc) = (do
      let ov ← attributeBase (.Call (.Name "super" p0) [] [] p1) "__init__" (ksEnv qual scope L f (.ref cda) cc) (eval (.Call (.Name "super" p0) [] [] p1) (ksEnv qual scope L f (.ref cda) cc))
      standAt p2.atName
      let (f', first) ← holding [ov] (getMethod ov "__init__" pl)
      callWith pos f' first (backTo pos (starEach (a1 :: rest) (ksEnv qual scope L f (.ref cda) cc))) []))
    (hst : starEach (a1 :: rest) (ksEnv qual scope L f (.ref cda) cc) = (false, eval a1 (ksEnv qual scope L f (.ref cda) cc)) :: starEach rest (ksEnv qual scope L f (.ref cda) cc) := by rfl) (hpl : (backTo pos (starEach rest (ksEnv qual scope L f (.ref cda) cc))).any (·.1) = false := by rfl) :
    PySem.wpAt (model prog w) A (.func body (ksEnv qual scope L f (.ref cda) cc)) (eval (.Call (.Attribute (.Call (.Name "super" p0) [] [] p1) "__init__" p2) (a1 :: rest) [] pos) (ksEnv qual scope L f (.ref cda) cc)) Q E ⟨h, g, d, t, os⟩ := by
  obtain ⟨oc, od, dV, kV, doc, pm, an, ct, osl, lkf⟩ := S.fn
  obtain ⟨ccl, cdd, vs, ccs, file, tf, lkc, hvs, hfile⟩ := S.cda
  obtain ⟨cl, cld, csl, lkcell⟩ := S.cell
  obtain ⟨ar, hp, har⟩ := S.arg0
  obtain ⟨nm, q, N, bs, bm, sn, sub, ab, col, dd, k0, k1, k2, k3, k5, hC, hbm⟩ := S.cls
  obtain ⟨cd, hcd, hcm, hcdict⟩ := S.cd
  refine ks_wpAt_MethodCall (pl := pl) ?_ hev
  refine ks_wpAt_super_base (env := ksEnv qual scope L f (.ref cda) cc) S.ks S.kc rfl rfl (X _ _ lkf) rfl hp rfl (X _ _ lkc) rfl hvs hfile S.main ?_
  refine ks_loadName_global S.kf S.ks (loadGlobal_builtin (env := ksEnv qual scope L f (.ref cda) cc) nG hmg nB hmb ⟨rfl, ?_⟩)
  refine wpAny_loadName_free S.kf S.kc rfl ⟨_, X _ _ lkcell, rfl⟩ ?_
  rw [har]
  refine wpAny_loadName_local S.kf S.k0 nL hself ?_
  refine ks_wpAny_isType_cls (X _ _ hC) rfl ⟨rfl, ?_⟩
  refine ks_wpAny_call_super (X _ _ hC) rfl he rfl (fun c z => nomatch z) (looks_mroIn X S.sub) (fun h1 hso k1' => ?_)
  have X1 : K.In h1 := fun b o z => k1' b o (X b o z)
  have I1 : InstAt h1 e (excObj C t0 none .none) C none := ⟨k1' _ _ he, rfl, rfl, trivial⟩
  have hI : Looks (model prog w) h1 (isInstance (.ref e) (.type "ValueError")) true := I1.type.andThen (looks_subIn X1 S.isVE)
  refine kxs_getMethod kxs_ValueError hso (looks_opaque X1 S.third) (l₀ := cd.mro) (fun A Q E s k q => wpAny_bind ((looks_clsIn X1 hcd) A _ E s k (wpAny_pure q))) rfl X1 (by
    have := S.sup; unfold ks_superIn at this; rw [hcd] at this; exact this) hI (ks_ne X1 I1 hcd) rfl ?_
  have hu : (h1.push (kxs_mw "ValueError.__init__" e)).get? h1.objs.size = some (kxs_mw "ValueError.__init__" e) := Heap.get?_push_size h1 rfl
  have k2' : ∀ b o, h.get? b = some o → (h1.push (kxs_mw "ValueError.__init__" e)).get? b = some o := fun b o z => Heap.get?_push_of_some _ (k1' b o z)
  show wpAny _ _ (callWith pos (.ref h1.objs.size) [] (backTo pos (starEach (a1 :: rest) (ksEnv qual scope L f (.ref cda) cc))) []) _ _ _
  rw [hst]
  refine kxs_callWith (i := "ValueError.__init__") (x := e) (by show (false || (backTo pos (starEach rest (ksEnv qual scope L f (.ref cda) cc))).any (·.1)) = false; rw [hpl]; rfl) ?_
  refine evalArgs_plain ?_
  have ha := hargs (h1.push (kxs_mw "ValueError.__init__" e)) (t + 1) (fun vs s' => KxsAt "ValueError.__init__" h1.objs.size e s'.heap ∧ wpAny (model prog w) A (call (.ref h1.objs.size) ([] ++ vs) []) Q E s') k2' ⟨hu, ?_⟩
  · rw [hst] at ha; exact ha
  · exact sx_call S (fun b o z => k2' b o (X b o z)) hu (k2' _ _ he) hz fun h' t1 k e' => hq h' (t + 1) t1 (fun b o n z => k b o n (k2' b o z)) e'
end
end Y

set_option Elab.async false
set_option linter.all false
set_option maxRecDepth 100000
set_option maxHeartbeats 2000000
/-! Y16: the run of such an __init__. -/
namespace Y
open PySem PySem.W PySem.Calls PyProof.Rows PySem.HandSPX

theorem ns_keep {h h' : Heap} {L e : Addr} {m : Str → Option Value} (n : h.Ns L m) (hne : L ≠ e) (k : ∀ b o, b ≠ e → h.get? b = some o → h'.get? b = some o) : h'.Ns L m := by
  obtain ⟨o, es, ep, h1, h2⟩ := n
  exact ⟨o, es, ep, k _ _ hne h1, h2⟩
section
variable {prog : Program} {w : World} {K : Frag} {C f cc cda : Addr} {qual : Str} {params : Arguments} {body : List Stmt} {scope : Scope} {A : Around} {E : Value → Shared → Prop} {h : Heap} {g : Array GenState} {d : Drawn} {t : Nat} {os : OsState}
theorem sx_var {env : Env} {m : Str → Option Value} {x : Str} {pos : Pos} {v : Value} {Q : Value → Shared → Prop} (hk : env.scope.kind = .function) (hl : env.kindOf x = some .local) (hn : h.Ns env.locals m) (hv : m x = some v) (hd : (x == ("__debug__" : Str)) = false) (q : Q v ⟨h, g, d, t, os⟩) :
    wpAny (model prog w) A (eval (.Name x pos) env) Q E ⟨h, g, d, t, os⟩ := wpAny_Name (wpAny_loadName_local hk hl hn hv q) hd
/-- self.f = x, the first -/
theorem sx_set1 (S : SxK prog K C f cc cda qual params body scope) (X : K.In h) {env : Env} {m : Str → Option Value} {e t0 : Addr} {x fld : Str} {p6 p7 p8 p9 : Pos} {v : Value} {c : Code} {Q : Flow → Shared → Prop} (hk : env.scope.kind = .function) (hls : env.kindOf "self" = some .local) (hlx : env.kindOf x = some .local) (hn : h.Ns env.locals m) (hself : m "self" = some (.ref e)) (hv : m x = some v) (hd : (x == ("__debug__" : Str)) = false)
    (he : h.get? e = some (excObj C t0 none .none)) (hno : findIn K (.ref C) fld = some none) (hs : swapsWith (.Name x p8) (some (.Attribute (.Name "self" p6) fld p7)) p9.line env = pure false)
    (hq : ∀ h' t' dx, (∀ b o, b ≠ e → h.get? b = some o → h'.get? b = some o) → h.objs.size ≤ dx → dx ≠ e → h'.get? e = some (excObj C t0 (some dx) .none) → h'.Ns1 dx (fun y => if y = fld then some v else none) → Q .next ⟨h', g, d, t', os⟩) :
    PySem.wpAt (model prog w) A c (exec (.Assign [.Attribute (.Name "self" p6) fld p7] (.Name x p8) p9) env) Q E ⟨h, g, d, t, os⟩ := by
  obtain ⟨cd, hcd, hcm, hcdict⟩ := S.cd
  refine ks_wpAt_Assign_Attr (wpAt_of_wpAny (sx_var hk hlx hn hv hd (sx_var hk hls hn hself (by decide) ?_))) hs
  refine set_plain X (ox := excObj C t0 none .none) (od := none) ⟨he, rfl, rfl, trivial⟩ S.sa ?_
  exact exc_osa X he hcd hcm hcdict hno fun h' tk' dx k dn dne hx hn' => hq h' tk' dx k dn dne hx hn'
/-- self.f = x, the second -/
theorem sx_set2 (S : SxK prog K C f cc cda qual params body scope) (X : K.In h) {env : Env} {m m0 : Str → Option Value} {e t0 dx : Addr} {x fld : Str} {p6 p7 p8 p9 : Pos} {v : Value} {c : Code} {Q : Flow → Shared → Prop} {nl : List Str} (hk : env.scope.kind = .function) (hls : env.kindOf "self" = some .local) (hlx : env.kindOf x = some .local) (hn : h.Ns env.locals m) (hself : m "self" = some (.ref e)) (hv : m x = some v) (hd : (x == ("__debug__" : Str)) = false)
    (he : h.get? e = some (excObj C t0 (some dx) .none)) (hns : h.Ns1 dx m0) (hw : Within m0 nl) (hz : nl.length ≤ 1000) (hno : findIn K (.ref C) fld = some none) (hs : swapsWith (.Name x p8) (some (.Attribute (.Name "self" p6) fld p7)) p9.line env = pure false)
    (hq : ∀ h' t', (∀ b o, b ≠ dx → h.get? b = some o → h'.get? b = some o) → h'.Ns1 dx (fun y => if y = fld then some v else m0 y) → Q .next ⟨h', g, d, t', os⟩) :
    PySem.wpAt (model prog w) A c (exec (.Assign [.Attribute (.Name "self" p6) fld p7] (.Name x p8) p9) env) Q E ⟨h, g, d, t, os⟩ := by
  obtain ⟨cd, hcd, hcm, hcdict⟩ := S.cd
  obtain ⟨oD, _, _, hoD, _, _⟩ := hns.count hw
  refine ks_wpAt_Assign_Attr (wpAt_of_wpAny (sx_var hk hlx hn hv hd (sx_var hk hls hn hself (by decide) ?_))) hs
  refine set_plain X (ox := excObj C t0 (some dx) .none) (od := some oD) ⟨he, rfl, rfl, hoD⟩ S.sa ?_
  exact OEX.osa_old X he hns hw hz hcd hcm hcdict hno fun h' tk' k hn' => hq h' tk' k hn'
/-- what the text says of the body: the super call, then one field, two fields -/
abbrev sxB1 (x fld : Str) (p0 p1 p2 p3 p4 p5 p6 p7 p8 p9 : Pos) : List Stmt :=
  [.Expr (.Call (.Attribute (.Call (.Name "super" p0) [] [] p1) "__init__" p2) [.Name x p3] [] p4) p5, .Assign [.Attribute (.Name "self" p6) fld p7] (.Name x p8) p9]
abbrev sxB2 (x y f1 f2 : Str) (p0 p1 p2 p3 p4 p5 p6 p7 p8 p9 q3 q6 q7 q8 q9 : Pos) : List Stmt :=
  [.Expr (.Call (.Attribute (.Call (.Name "super" p0) [] [] p1) "__init__" p2) [.Name x p3, .Name y q3] [] p4) p5, .Assign [.Attribute (.Name "self" p6) f1 p7] (.Name x p8) p9, .Assign [.Attribute (.Name "self" q6) f2 q7] (.Name y q8) q9]
/-- what the text's scope says -/
structure SxS (scope : Scope) (xs : List Str) : Prop where
  loc : ∀ x ∈ xs, scope.names.lookup x = some .local
  db : ∀ x ∈ xs, (x == ("__debug__" : Str)) = false
  ns : ∀ x ∈ xs, x ≠ "self"
  cells : ∀ x ∈ scope.names, x.2 ≠ .cell
  co : scope.isCoroutine = false
  gen : scope.isGenerator = false
end
end Y

set_option Elab.async false
set_option linter.all false
set_option maxRecDepth 100000
set_option maxHeartbeats 2000000
/-! Y17: the run of such an __init__, with one and with two parameters. -/
namespace Y
open PySem PySem.W PySem.Calls PyProof.Rows PySem.HandSPX
section
variable {prog : Program} {w : World} {K : Frag} {C f cc cda : Addr} {qual : Str} {params : Arguments} {scope : Scope} {A : Around} {h : Heap} {g : Array GenState} {d : Drawn} {t : Nat} {os : OsState} {R : Result → Shared → Prop}
/-- what the kernel's reading of the super call has to be (by rfl at a written text) -/
structure SxE (qual : Str) (scope : Scope) (f cc cda : Addr) (pl : Sem Bool) (a1 : Expr) (rest : List Expr) (p0 p1 p2 p4 p5 : Pos) : Prop where
  ev : ∀ L, eval (.Call (.Attribute (.Call (.Name "super" p0) [] [] p1) "__init__" p2) (a1 :: rest) [] p4) (ksEnv qual scope L f (.ref cda) cc) = (do
      let ov ← attributeBase (.Call (.Name "super" p0) [] [] p1) "__init__" (ksEnv qual scope L f (.ref cda) cc) (eval (.Call (.Name "super" p0) [] [] p1) (ksEnv qual scope L f (.ref cda) cc))
      standAt p2.atName
      let (f', first) ← holding [ov] (getMethod ov "__init__" pl)
      callWith p4 f' first (backTo p4 (starEach (a1 :: rest) (ksEnv qual scope L f (.ref cda) cc))) [])
  int : ∀ L, interactive (ksEnv qual scope L f (.ref cda) cc) = false
  sw : ∀ L, swapsWith (.Call (.Attribute (.Call (.Name "super" p0) [] [] p1) "__init__" p2) (a1 :: rest) [] p4) none p5.line (ksEnv qual scope L f (.ref cda) cc) = pure false
def SxW (qual : Str) (scope : Scope) (f cc cda : Addr) (x fld : Str) (p6 p7 p8 p9 : Pos) : Prop := ∀ L, swapsWith (.Name x p8) (some (.Attribute (.Name "self" p6) fld p7)) p9.line (ksEnv qual scope L f (.ref cda) cc) = pure false
theorem sx_run1 {pl : Sem Bool} {x fld : Str} {p0 p1 p2 p3 p4 p5 p6 p7 p8 p9 : Pos} (S : SxK prog K C f cc cda qual params (sxB1 x fld p0 p1 p2 p3 p4 p5 p6 p7 p8 p9) scope) (Z : SxS scope [x]) (V : SxE qual scope f cc cda pl (.Name x p3) [] p0 p1 p2 p4 p5) (V1 : SxW qual scope f cc cda x fld p6 p7 p8 p9)
    (hno : findIn K (.ref C) fld = some none) {mg mb : Str → Option Value} {e t0 : Addr} {u : Value} {args : Args} (X : K.In h) (nG : h.Ns mainGlobals mg) (hmg : mg "super" = none) (nB : h.Ns builtinsNs mb) (hmb : mb "super" = some (.type "super")) (lim : h.NoLimit) (room : A.depth < recursionLimit)
    (he : h.get? e = some (excObj C t0 none .none)) (hKe : K.lookup e = none) (hbind : ∀ fd, (∃ oc od osl, K.lookup f = some ⟨oc, od, .func fd, osl⟩) → BindsTo ⟨h, g, d, t, os⟩ fd args [("self", .ref e), (x, u)])
    (hq : ∀ h' t' t1 dx, (∀ b o, b ≠ e → h.get? b = some o → h'.get? b = some o) → h.objs.size ≤ dx → dx ≠ e → h'.get? e = some (excObj C t1 (some dx) .none) → h'.Ns1 dx (fun y => if y = fld then some u else none) → R (.ok (.ret .none)) ⟨h', g, d, t', os⟩) :
    codeAny (model prog w) A (.call (.ref f) args) R ⟨h, g, d, t, os⟩ := by
  obtain ⟨oc, od, dV, kV, doc, pm, an, ct, osl, lkf⟩ := S.fn
  have hself : scope.names.lookup ("self" : Str) = some .local := S.k0
  have hx : scope.names.lookup x = some .local := Z.loc x (List.mem_singleton_self _)
  have hxs : x ≠ "self" := Z.ns x (List.mem_singleton_self _)
  refine ks_codeAny_call_defAt (fd := ksFn "__init__" qual params (sxB1 x fld p0 p1 p2 p3 p4 p5 p6 p7 p8 p9) scope dV kV doc pm an (.ref cda) ct cc) (body := sxB1 x fld p0 p1 p2 p3 p4 p5 p6 p7 p8 p9) (binds := [("self", .ref e), (x, u)]) room (X _ _ lkf) rfl lim (codeRec_of X S.code) rfl (hbind _ ⟨_, _, _, lkf⟩) Z.cells (fun y hy => ?_) (fun h₁ hns hk₁ => ?_) Z.co Z.gen S.kf
  · rcases List.mem_cons.mp hy with rfl | hy
    · exact hself
    · cases List.mem_singleton.mp hy; exact hx
  have hsz : h.objs.size ≠ e := Nat.ne_of_gt (Heap.lt_size he)
  have mS : ([("self", Value.ref e), (x, u)] : List (Str × Value)).reverse.lookup ("self" : Str) = some (Value.ref e) := by
    show List.lookup ("self" : Str) [(x, u), ("self", Value.ref e)] = _
    rw [List.lookup_cons, show (("self" : Str) == x) = false from beq_eq_false_iff_ne.mpr (Ne.symm hxs)]; rfl
  have mX : ([("self", Value.ref e), (x, u)] : List (Str × Value)).reverse.lookup x = some u := by
    show List.lookup x [(x, u), ("self", Value.ref e)] = _
    rw [List.lookup_cons, show (x == x) = true from beq_self_eq_true x]
  have X1 : K.In h₁ := fun b o z => hk₁ b o (X b o z)
  have kp : ∀ {b : Addr} {m : Str → Option Value}, h.Ns b m → h₁.Ns b m := fun n => by
    obtain ⟨o, es, ep, z1, z2⟩ := n
    exact ⟨o, es, ep, hk₁ _ _ z1, z2⟩
  show PySem.wpAt (model prog w) (A.deeper (ksEnv qual scope h.objs.size f (.ref cda) cc)) (.func _ (ksEnv qual scope h.objs.size f (.ref cda) cc)) (execs _ (ksEnv qual scope h.objs.size f (.ref cda) cc)) _ _ _
  refine ks_wpAt_execs_cons (ks_wpAt_Expr_any (sx_super (us := [u]) S X1 (kp nG) hmg (kp nB) hmb hns mS (hk₁ _ _ he) (by show 1 ≤ sizeLine; decide) hsz (fun h1 t' Q' k1 q1 => ?_) (fun h' t' t1 k1 he' => ?_) (V.ev _) rfl rfl) (V.int _) (V.sw _))
  · refine spliced_cons (sx_var S.kf hx (ns_keep hns hsz fun b o _ z => k1 b o z) mX (Z.db x (List.mem_singleton_self _)) (spliced_nil q1))
  have X2 : K.In h' := fun b o z => by
    exact k1 b o (fun q => by rw [q, hKe] at z; cases z) (X1 b o z)
  refine ks_wpAt_execs_cons (sx_set1 S X2 S.kf hself hx (ns_keep hns hsz k1) mS mX (Z.db x (List.mem_singleton_self _)) he' hno (V1 _) fun h2 t2 dx k2 dn dne he2 hn2 => ?_)
  refine wpAt_of_wpAny (wpAny_execs_nil ?_)
  have nL := ns_keep hns hsz k1
  have lt : h.objs.size < h'.objs.size := by
    obtain ⟨o, _, _, z, _⟩ := nL
    exact Heap.lt_size z
  exact hq h2 t2 t1 dx (fun b o n z => k2 b o n (k1 b o n (hk₁ b o z))) (Nat.le_of_lt (Nat.lt_of_lt_of_le lt dn)) dne he2 hn2
theorem sx_run2 {pl : Sem Bool} {x y f1 f2 : Str} {p0 p1 p2 p3 p4 p5 p6 p7 p8 p9 q3 q6 q7 q8 q9 : Pos} (S : SxK prog K C f cc cda qual params (sxB2 x y f1 f2 p0 p1 p2 p3 p4 p5 p6 p7 p8 p9 q3 q6 q7 q8 q9) scope) (Z : SxS scope [x, y]) (hxy : x ≠ y) (hf12 : f2 ≠ f1) (V : SxE qual scope f cc cda pl (.Name x p3) [.Name y q3] p0 p1 p2 p4 p5) (V1 : SxW qual scope f cc cda x f1 p6 p7 p8 p9) (V2 : SxW qual scope f cc cda y f2 q6 q7 q8 q9)
    (hno : findIn K (.ref C) f1 = some none) (hno2 : findIn K (.ref C) f2 = some none) {mg mb : Str → Option Value} {e t0 : Addr} {u v : Value} {args : Args} (X : K.In h) (nG : h.Ns mainGlobals mg) (hmg : mg "super" = none) (nB : h.Ns builtinsNs mb) (hmb : mb "super" = some (.type "super")) (lim : h.NoLimit) (room : A.depth < recursionLimit)
    (he : h.get? e = some (excObj C t0 none .none)) (hKe : K.lookup e = none) (hbind : ∀ fd, (∃ oc od osl, K.lookup f = some ⟨oc, od, .func fd, osl⟩) → BindsTo ⟨h, g, d, t, os⟩ fd args [("self", .ref e), (x, u), (y, v)])
    (hq : ∀ h' t' t1 dx, (∀ b o, b ≠ e → h.get? b = some o → h'.get? b = some o) → h.objs.size ≤ dx → dx ≠ e → h'.get? e = some (excObj C t1 (some dx) .none) → h'.Ns1 dx (fun z => if z = f2 then some v else if z = f1 then some u else none) → R (.ok (.ret .none)) ⟨h', g, d, t', os⟩) :
    codeAny (model prog w) A (.call (.ref f) args) R ⟨h, g, d, t, os⟩ := by
  obtain ⟨oc, od, dV, kV, doc, pm, an, ct, osl, lkf⟩ := S.fn
  have hself : scope.names.lookup ("self" : Str) = some .local := S.k0
  have hx : scope.names.lookup x = some .local := Z.loc x List.mem_cons_self
  have hy : scope.names.lookup y = some .local := Z.loc y (List.mem_cons_of_mem _ (List.mem_singleton_self _))
  have hxs : x ≠ "self" := Z.ns x List.mem_cons_self
  have hys : y ≠ "self" := Z.ns y (List.mem_cons_of_mem _ (List.mem_singleton_self _))
  have dbx := Z.db x List.mem_cons_self
  have dby := Z.db y (List.mem_cons_of_mem _ (List.mem_singleton_self _))
  refine ks_codeAny_call_defAt (fd := ksFn "__init__" qual params (sxB2 x y f1 f2 p0 p1 p2 p3 p4 p5 p6 p7 p8 p9 q3 q6 q7 q8 q9) scope dV kV doc pm an (.ref cda) ct cc) (body := sxB2 x y f1 f2 p0 p1 p2 p3 p4 p5 p6 p7 p8 p9 q3 q6 q7 q8 q9) (binds := [("self", .ref e), (x, u), (y, v)]) room (X _ _ lkf) rfl lim (codeRec_of X S.code) rfl (hbind _ ⟨_, _, _, lkf⟩) Z.cells (fun z hz => ?_) (fun h₁ hns hk₁ => ?_) Z.co Z.gen S.kf
  · rcases List.mem_cons.mp hz with rfl | hz
    · exact hself
    · rcases List.mem_cons.mp hz with rfl | hz
      · exact hx
      · cases List.mem_singleton.mp hz; exact hy
  have hsz : h.objs.size ≠ e := Nat.ne_of_gt (Heap.lt_size he)
  have mS : ([("self", Value.ref e), (x, u), (y, v)] : List (Str × Value)).reverse.lookup ("self" : Str) = some (Value.ref e) := by
    show List.lookup ("self" : Str) [(y, v), (x, u), ("self", Value.ref e)] = _
    rw [List.lookup_cons, show (("self" : Str) == y) = false from beq_eq_false_iff_ne.mpr (Ne.symm hys), List.lookup_cons, show (("self" : Str) == x) = false from beq_eq_false_iff_ne.mpr (Ne.symm hxs)]; rfl
  have mX : ([("self", Value.ref e), (x, u), (y, v)] : List (Str × Value)).reverse.lookup x = some u := by
    show List.lookup x [(y, v), (x, u), ("self", Value.ref e)] = _
    rw [List.lookup_cons, show (x == y) = false from beq_eq_false_iff_ne.mpr hxy, List.lookup_cons, show (x == x) = true from beq_self_eq_true x]
  have mY : ([("self", Value.ref e), (x, u), (y, v)] : List (Str × Value)).reverse.lookup y = some v := by
    show List.lookup y [(y, v), (x, u), ("self", Value.ref e)] = _
    rw [List.lookup_cons, show (y == y) = true from beq_self_eq_true y]
  have X1 : K.In h₁ := fun b o z => hk₁ b o (X b o z)
  have kp : ∀ {b : Addr} {m : Str → Option Value}, h.Ns b m → h₁.Ns b m := fun n => by
    obtain ⟨o, es, ep, z1, z2⟩ := n
    exact ⟨o, es, ep, hk₁ _ _ z1, z2⟩
  show PySem.wpAt (model prog w) (A.deeper (ksEnv qual scope h.objs.size f (.ref cda) cc)) (.func _ (ksEnv qual scope h.objs.size f (.ref cda) cc)) (execs _ (ksEnv qual scope h.objs.size f (.ref cda) cc)) _ _ _
  refine ks_wpAt_execs_cons (ks_wpAt_Expr_any (sx_super (us := [u, v]) S X1 (kp nG) hmg (kp nB) hmb hns mS (hk₁ _ _ he) (by show 2 ≤ sizeLine; decide) hsz (fun h1 t' Q' k1 q1 => ?_) (fun h' t' t1 k1 he' => ?_) (V.ev _) rfl rfl) (V.int _) (V.sw _))
  · refine spliced_cons (sx_var S.kf hx (ns_keep hns hsz fun b o _ z => k1 b o z) mX dbx (spliced_cons (sx_var S.kf hy (ns_keep hns hsz fun b o _ z => k1 b o z) mY dby (spliced_nil q1))))
  have X2 : K.In h' := fun b o z => by
    exact k1 b o (fun q => by rw [q, hKe] at z; cases z) (X1 b o z)
  refine ks_wpAt_execs_cons (sx_set1 S X2 S.kf hself hx (ns_keep hns hsz k1) mS mX dbx he' hno (V1 _) fun h2 t2 dx k2 dn dne he2 hn2 => ?_)
  have nL := ns_keep hns hsz k1
  have lt : h.objs.size < h'.objs.size := by
    obtain ⟨o, _, _, z, _⟩ := nL
    exact Heap.lt_size z
  have X3 : K.In h2 := fun b o z => k2 b o (fun q => by rw [q, hKe] at z; cases z) (X2 b o z)
  have W0 : Within (fun z => if z = f1 then some u else none) [f1] := fun z hz => by
    by_cases q : z = f1
    · rw [q]; exact List.mem_singleton_self _
    · exact (hz (if_neg q)).elim
  have hLdx : h.objs.size ≠ dx := Nat.ne_of_lt (Nat.lt_of_lt_of_le lt dn)
  refine ks_wpAt_execs_cons (sx_set2 S X3 S.kf hself hy (ns_keep nL hsz k2) mS mY dby he2 hn2 W0 (by show 1 ≤ 1000; decide) hno2 (V2 _) fun h3 t3 k3 hn3 => ?_)
  refine wpAt_of_wpAny (wpAny_execs_nil ?_)
  exact hq h3 t3 t1 dx (fun b o n z => k3 b o (fun q => by
    have := k1 b o n (hk₁ b o z)
    have := Heap.lt_size this
    rw [q] at this
    exact Nat.lt_irrefl _ (Nat.lt_of_lt_of_le this dn)) (k2 b o n (k1 b o n (hk₁ b o z)))) (Nat.le_of_lt (Nat.lt_of_lt_of_le lt dn)) dne (k3 _ _ (Ne.symm dne) he2) hn3
end
end Y

set_option Elab.async false
set_option linter.all false
set_option maxRecDepth 100000
set_option maxHeartbeats 2000000
/-! Y18: raise C(..) of such errors. -/
namespace Y
open PySem PySem.Spec PyProof.Rows L2

/-- the __init__ at f of the error's class at C runs, and keeps what fl tells -/
def SxRun (prog : Program) (w : World) (K : PySem.W.Frag) (mg : Str → Option Value) (C f : Addr) (n : Nat) (fl : List V → List (Str × V)) : Prop :=
  ∀ (A : Around) (h : Heap) (g : Array GenState) (d : Drawn) (t : Nat) (os : OsState) (e t0 : Addr) (us : List Value) (vs : List V) (R : Result → Shared → Prop) (mb : Str → Option Value), K.In h → h.Ns mainGlobals mg → h.Ns builtinsNs mb → mb "super" = some (.type "super") → h.NoLimit → A.depth < recursionLimit →
    h.get? e = some (PySem.W.excObj C t0 none .none) → K.lookup e = none → us.length = n → Vals vs us →
    (∀ (h' : Heap) (t' : Nat) (t1 dx : Addr) (mA : Str → Option Value), (∀ b o, b ≠ e → h.get? b = some o → h'.get? b = some o) → h.objs.size ≤ dx → dx ≠ e → h'.get? e = some (PySem.W.excObj C t1 (some dx) .none) → h'.Ns1 dx mA → (∀ x, RelO ((fl vs).lookup x) (mA x)) → R (.ok (.ret .none)) ⟨h', g, d, t', os⟩) →
    codeAny (model prog w) A (.call (.ref f) ⟨.ref e :: us, []⟩) R ⟨h, g, d, t, os⟩
def fl1 (f1 : Str) : List V → List (Str × V)
  | [a] => [(f1, a)]
  | _ => []
def fl2 (f1 f2 : Str) : List V → List (Str × V)
  | [a, b] => [(f1, a), (f2, b)]
  | _ => []
section
variable {prog : Program} {w : World} {K : PySem.W.Frag} {mg : Str → Option Value} {C f cc cda : Addr} {qual : Str} {params : Arguments} {scope : Scope}
theorem sx_bind {fd : FuncData} {ps : List Str} {s : Shared} {us : List Value} (b : Binds K fd ps []) (k : K.In s.heap) (l : us.length = ps.length) : BindsTo s fd ⟨us, []⟩ (ps.zip us) := by
  have := b s us k (by rw [List.append_nil]; exact l)
  rw [List.append_nil] at this
  exact this
theorem sx_go1 {pl : Sem Bool} {x fld : Str} {p0 p1 p2 p3 p4 p5 p6 p7 p8 p9 : Pos} (S : SxK prog K C f cc cda qual params (sxB1 x fld p0 p1 p2 p3 p4 p5 p6 p7 p8 p9) scope) (Z : SxS scope [x]) (V : SxE qual scope f cc cda pl (.Name x p3) [] p0 p1 p2 p4 p5) (V1 : SxW qual scope f cc cda x fld p6 p7 p8 p9)
    (hno : PySem.W.findIn K (.ref C) fld = some none) (hmg : mg "super" = none) (hb : ∀ fd, (∃ oc od osl, K.lookup f = some ⟨oc, od, .func fd, osl⟩) → Binds K fd ["self", x] []) : SxRun prog w K mg C f 1 (fl1 fld) := by
  intro A h g d t os e t0 us vs R mb X nG nB hmb lim room he hKe hl rv hq
  match us, hl, rv with
  | [u], _, .cons r .nil =>
    refine sx_run1 S Z V V1 hno X nG hmg nB hmb lim room he hKe (fun fd hfd => sx_bind (hb fd hfd) X rfl) fun h' t' t1 dx k dn dne he' hn => hq h' t' t1 dx _ k dn dne he' hn fun z => ?_
    show RelO (List.lookup z [(fld, _)]) _
    rw [lookup_put]
    by_cases q : z = fld
    · rw [if_pos q, if_pos q]; exact r
    · rw [if_neg q, if_neg q]; exact True.intro
theorem sx_go2 {pl : Sem Bool} {x y f1 f2 : Str} {p0 p1 p2 p3 p4 p5 p6 p7 p8 p9 q3 q6 q7 q8 q9 : Pos} (S : SxK prog K C f cc cda qual params (sxB2 x y f1 f2 p0 p1 p2 p3 p4 p5 p6 p7 p8 p9 q3 q6 q7 q8 q9) scope) (Z : SxS scope [x, y]) (hxy : x ≠ y) (hf12 : f2 ≠ f1) (V : SxE qual scope f cc cda pl (.Name x p3) [.Name y q3] p0 p1 p2 p4 p5)
    (V1 : SxW qual scope f cc cda x f1 p6 p7 p8 p9) (V2 : SxW qual scope f cc cda y f2 q6 q7 q8 q9) (hno : PySem.W.findIn K (.ref C) f1 = some none) (hno2 : PySem.W.findIn K (.ref C) f2 = some none) (hmg : mg "super" = none)
    (hb : ∀ fd, (∃ oc od osl, K.lookup f = some ⟨oc, od, .func fd, osl⟩) → Binds K fd ["self", x, y] []) : SxRun prog w K mg C f 2 (fl2 f1 f2) := by
  intro A h g d t os e t0 us vs R mb X nG nB hmb lim room he hKe hl rv hq
  match us, hl, rv with
  | [u, v], _, .cons r (.cons r2 .nil) =>
    refine sx_run2 S Z hxy hf12 V V1 V2 hno hno2 X nG hmg nB hmb lim room he hKe (fun fd hfd => sx_bind (hb fd hfd) X rfl) fun h' t' t1 dx k dn dne he' hn => hq h' t' t1 dx _ k dn dne he' hn fun z => ?_
    show RelO (List.lookup z [(f1, _), (f2, _)]) _
    rw [lookup_put, lookup_put]
    by_cases q1 : z = f1
    · have q : ¬ z = f2 := fun z2 => hf12 (z2.symm.trans q1)
      rw [if_pos q1, if_neg q, if_pos q1]; exact r
    · by_cases q : z = f2
      · rw [if_neg q1, if_pos q, if_pos q]; exact r2
      · rw [if_neg q1, if_neg q, if_neg q, if_neg q1]; exact True.intro
end
/-- C(..), an error -/
def tMkSx (C : Addr) (n : Nat) (fl : List V → List (Str × V)) (ta : TA) : L2.St → Hp → XK → Prop := fun σ H Q => ta σ H fun vs H1 => vs.length = n ∧ ∀ d, H1 d = none → Q (.ref C) (some d) (upd H1 d (.xd (fl vs)))
theorem pmk_sx {X : Cx} {e : Expr} {es : List Expr} {ta : TA} {x : Str} {p pos : Pos} {C fI : Addr} {k n : Nat} {fl : List V → List (Str × V)} (T : OexC X.K C) (iC : PySem.W.findIn X.K (.ref C) "__init__" = some (some (.ref fI))) (tI : PySem.W.typeIn X.K (.ref fI) = some (.type "function"))
    (G : SxRun X.prog X.w X.K X.mg C fI n fl) (hn2 : n ≤ 1000) (hr : Rm (k + 1) X.A) (hm : X.mg x = some (.ref C)) (ha : PA X (e :: es) ta) (hg : Gl X x := by rfl)
    (hdb : (x == ("__debug__" : Str)) = false := by decide) (he : starEach (e :: es) X.env = (false, eval e X.env) :: starEach es X.env := by rfl) (hpl : (backTo pos (starEach es X.env)).any (·.1) = false := by rfl) :
    PMk X (.Call (.Name x p) (e :: es) [] pos) (tMkSx C n fl ta) := by
  intro pins s σ H Q I h
  obtain ⟨nm, q, N, bs, bm, sn, sub, ab, col, dd, k0, k1, k2, k3, k5, hC, hbm⟩ := T.cls
  refine wpAny_Call_Name_kw (ld_glob I hg hm ?_ hdb)
  refine PySem.W.callWith_K (h₀ := X.base) I.ok.mod.kin T.kC (thn (ha.run pos pins s σ H _ I h) fun us s1 ⟨vs, H1, I1, r1, hz, q1⟩ => ⟨I1.kIn, ?_⟩) he hpl
  show wpAny _ _ (call (.ref C) us) _ _ _
  obtain ⟨hp, g, dr, tk, os⟩ := s1
  have hsz : hp.objs.size ≤ hp.objs.size + 1 := Nat.le_succ _
  have hn : H1 (hp.objs.size + 1) = none := I1.hok.fresh hsz
  have kk : ∀ b o, hp.get? b = some o → ((hp.push (PySem.W.kdv_tup us)).push (PySem.HandSPX.excO C hp.objs.size)).get? b = some o := fun b o e => Heap.get?_push_of_some _ (Heap.get?_push_of_some _ e)
  have hget : ((hp.push (PySem.W.kdv_tup us)).push (PySem.HandSPX.excO C hp.objs.size)).get? (hp.objs.size + 1) = some (PySem.HandSPX.excO C hp.objs.size) := by heap_get
  have I2 : Inv X pins σ (upd H1 (hp.objs.size + 1) (exo (hp.objs.size + 1) C none)) ⟨(hp.push (PySem.W.kdv_tup us)).push (PySem.HandSPX.excO C hp.objs.size), g, dr, tk, os⟩ :=
    I1.laid (t' := tk) (a := hp.objs.size + 1) (o := exo (hp.objs.size + 1) C none) (h' := (hp.push (PySem.W.kdv_tup us)).push (PySem.HandSPX.excO C hp.objs.size)) kk hsz (exo_ok hget)
  have hul : us.length = n := r1.length.symm.trans hz
  have hus : us.length ≤ sizeLine := by
    rw [hul, sizeLine_eq]
    omega
  have e0 := I2.env0
  obtain ⟨mb, nB, isB⟩ := e0.mod.blt
  have kb : ∀ {b : Addr} {m : Str → Option Value}, X.base.Ns b m → ((hp.push (PySem.W.kdv_tup us)).push (PySem.HandSPX.excO C hp.objs.size)).Ns b m := fun nn => by
    obtain ⟨o, es, ep, z1, z2⟩ := nn
    exact ⟨o, es, ep, (e0.bs _ _ z1).1, z2⟩
  have hKe : X.K.lookup (hp.objs.size + 1) = none := by
    cases z : X.K.lookup (hp.objs.size + 1) with
    | none => rfl
    | some o =>
      have := Heap.lt_size (I1.kIn _ _ z)
      exact (Nat.lt_irrefl _ (Nat.lt_of_lt_of_le this hsz)).elim
  refine wpAny_call (PySem.HandSPX.call_own F.excBase_ValueError (fun Y => PySem.HandSPX.refsVE_contains Y bm hbm) (I1.kIn _ _ hC) (PySem.W.looks_findIn I1.kIn iC) (fun self => PySem.W.bind_fn I1.kIn self tI) hus
    (G _ _ _ _ _ _ (hp.objs.size + 1) hp.objs.size us vs _ mb I2.kIn (kb e0.mod.glob) (kb nB) ((isB _ (by decide +kernel)).trans (by decide +kernel)) (e0.mod.nolimit.keeps fun b o z => (e0.bs b o z).1) (hr.make C us []).room.depth hget hKe hul r1 fun h' t' t1 dx mA kq dn dne he' hns rel => ?_))
  -- the end
  have e2 : upd H1 (hp.objs.size + 1) (exo (hp.objs.size + 1) C none) (hp.objs.size + 1) = some (exo (hp.objs.size + 1) C none) := upd_same
  have dn2 : hp.objs.size + 1 + 1 ≤ dx := by rw [Heap.size_push, Heap.size_push] at dn; exact dn
  have dn1 : hp.objs.size ≤ dx := Nat.le_trans (Nat.le_add_right _ 2) dn2
  have hd1 : H1 dx = none := I1.hok.fresh dn1
  have hnd : upd H1 (hp.objs.size + 1) (exo (hp.objs.size + 1) C none) dx = none := by rw [upd_ne dne]; exact hd1
  have na : ∀ {b : Addr}, upd H1 (hp.objs.size + 1) (exo (hp.objs.size + 1) C none) b = none → b ≠ hp.objs.size + 1 := fun {b} n z => by
    rw [z, e2] at n
    cases n
  have nd : ∀ {b : Addr} {o : Obj}, ((hp.push (PySem.W.kdv_tup us)).push (PySem.HandSPX.excO C hp.objs.size)).get? b = some o → b ≠ dx := fun {b o} q => Nat.ne_of_lt (Nat.lt_of_lt_of_le (Heap.lt_size q) dn)
  have un : Un (frs X.stack) [] (upd H1 (hp.objs.size + 1) (exo (hp.objs.size + 1) C none)) (upd (upd (upd H1 (hp.objs.size + 1) (exo (hp.objs.size + 1) C none)) dx (exd dx (fl vs))) (hp.objs.size + 1) (exo (hp.objs.size + 1) C (some dx))) ((hp.push (PySem.W.kdv_tup us)).push (PySem.HandSPX.excO C hp.objs.size)) h' := {
    keep := fun b o q n _ _ => kq b o (na n) q
    slot := fun b o q n _ _ => ⟨o.slots, kq b o (na n) q⟩
    free := fun b o q n _ => by rw [upd_ne (na n), upd_ne (nd q)]; exact n
    there := fun b o q _ => by
      by_cases hb : b = hp.objs.size + 1
      · exact ⟨_, by rw [hb]; exact he'⟩
      · exact ⟨o, kq b o hb q⟩
    tups := fun b xs q => by rw [upd_ne (at_ne e2 q exo_tup), upd_ne (ne_of_none q hnd)]; exact q
    frzs := fun b o v q => by rw [upd_ne (at_ne e2 q exo_frz), upd_ne (ne_of_none q hnd)]; exact q
    tbls := fun b ps q => ⟨#[], by rw [upd_ne (at_ne e2 q exo_tbl), upd_ne (ne_of_none q hnd), q]; simp⟩ }
  have hok : HOk X.prog X.w (upd (upd (upd H1 (hp.objs.size + 1) (exo (hp.objs.size + 1) C none)) dx (exd dx (fl vs))) (hp.objs.size + 1) (exo (hp.objs.size + 1) C (some dx))) h' := fun b o q => by
    by_cases hb : b = hp.objs.size + 1
    · subst hb
      rw [upd_same] at q
      cases q
      exact exo_ok he'
    · rw [upd_ne hb] at q
      by_cases hd : b = dx
      · subst hd
        rw [upd_same] at q
        cases q
        exact exd_ok hns rel
      · rw [upd_ne hd] at q
        exact (I2.hok b o q).stay (fun c v hc z => kq c v (by
            rcases hc with hc | hc
            · rw [hc]
              exact hb
            · exact at_ne e2 hc exo_own) z)
          (fun c hc => by rw [upd_ne (at_ne e2 hc exo_own), upd_ne (ne_of_none hc hnd)]; exact hc) (fun c xs hc => by rw [upd_ne (at_ne e2 hc exo_tup), upd_ne (ne_of_none hc hnd)]; exact hc)
  refine ⟨rfl, mk_end (raises_own T.exC T.tyC) I1 hsz kk un hok rfl I1.bare upd_same (by rw [upd_ne dne, upd_same]) hd1 ?_⟩
  have eq : upd (del (upd (upd (upd H1 (hp.objs.size + 1) (exo (hp.objs.size + 1) C none)) dx (exd dx (fl vs))) (hp.objs.size + 1) (exo (hp.objs.size + 1) C (some dx))) (hp.objs.size + 1)) dx (.xd (fl vs)) = upd H1 dx (.xd (fl vs)) := by
    funext b
    by_cases hb : b = dx
    · rw [hb, upd_same, upd_same]
    · rw [upd_ne hb, upd_ne hb]
      by_cases h2 : b = hp.objs.size + 1
      · rw [h2, del_same, hn]
      · rw [del_ne h2, upd_ne h2, upd_ne hb, upd_ne h2]
  rw [eq]
  exact q1 dx hd1
end Y

set_option Elab.async false
set_option linter.all false
set_option maxRecDepth 100000
set_option maxHeartbeats 2000000
/-! Y19: raise as a statement. -/
namespace Y
open PySem PySem.Spec PyProof.Rows L2

def sRaise (C : Nat) (ff : List Str) (fa : FA) : FS := fun ρ μ => (fa ρ μ).bind fun p => (T.ofO (tsOf p.1)).bind fun ds => if ds.length = ff.length then .exc C ff ds else .bad
/-- an error's class of the text -/
structure Er (P : Program) (w : World) (K : PySem.W.Frag) (mg : Str → Option Value) (CL : Nat → Addr) (x : Str) (C : Nat) (ff : List Str) : Prop where
  h : ∃ (fI : Addr) (fl : List V → List (Str × V)), mg x = some (.ref (CL C)) ∧ OexC K (CL C) ∧ PySem.W.findIn K (.ref (CL C)) "__init__" = some (some (.ref fI)) ∧ PySem.W.typeIn K (.ref fI) = some (.type "function") ∧ SxRun P w K mg (CL C) fI ff.length fl ∧ ff.length ≤ 1000 ∧ ∀ vs : List V, vs.length = ff.length → fl vs = ff.zip vs
theorem fl1_zip {f1 : Str} (vs : List V) (h : vs.length = 1) : fl1 f1 vs = [f1].zip vs := by
  match vs, h with
  | [a], _ => rfl
theorem fl2_zip {f1 f2 : Str} (vs : List V) (h : vs.length = 2) : fl2 f1 f2 vs = [f1, f2].zip vs := by
  match vs, h with
  | [a, b], _ => rfl
section
variable {X : Cx} {B : Bd} {CL : Nat → Addr} {k C : Nat} {ff : List Str} {x : Str} {e : Expr} {es : List Expr} {fa : FA} {p pos rpos : Pos}
theorem ss_raise (hc : X.calm = true) (h : Er X.prog X.w X.K X.mg CL x C ff) (hr : Rm (k + 1) X.A) (hx : LetsT X B) (hcl : B.g.cl = CL) (ha : PA X (e :: es) (tL B X.K fa)) (hg : Gl X x := by rfl)
    (hdb : (x == ("__debug__" : Str)) = false := by decide) (he : starEach (e :: es) X.env = (false, eval e X.env) :: starEach es X.env := by rfl) (hpl : (backTo pos (starEach es X.env)).any (·.1) = false := by rfl) :
    PS X (.Raise (some (.Call (.Name x p) (e :: es) [] pos)) none rpos) (tS B X.K (sRaise C ff fa)) := by
  obtain ⟨fI, fl, h1, h2, h3, h4, h5, h6, h7⟩ := h.h
  obtain ⟨E, tk, hE⟩ := hx
  refine PSimp (ps_raise hc tk (pmk_sx h2 h3 h4 h5 h6 hr h1 ha hg hdb he hpl)) fun Dn σ H ⟨ρ, μ, W, b, R, w⟩ => ⟨ρ, μ, W, b, R, (T.All.bind w).mono fun q n1 w1 vs W1 H1 k1 R1 r1 => ?_⟩
  obtain ⟨ds, ed, w1⟩ := T.All.ofO (T.All.bind w1)
  have r1 := ts_rv r1 ed
  by_cases hl : ds.length = ff.length
  · rw [if_pos hl] at w1
    have hvl : vs.length = ff.length := r1.length.trans hl
    refine ⟨hvl, fun d hd => ?_⟩
    have sm : Same H1 (upd H1 d (.xd (fl vs))) := same_new hd
    have pk : PK B.g W1 n1 H1 (upd H1 d (.xd (fl vs))) := ⟨fun a o z _ _ _ => sm a o z, R1.st.pen.same sm, Same.nt sm, R1.st.tabs.ext sm⟩
    have q := hE C ff ds n1 d _ w1 (R1.outS pk) (R1.exat ⟨⟨vs, by rw [upd_same, h7 vs hvl], hvl.symm, r1.same sm⟩, nnt hd⟩)
    rw [hcl] at q
    exact q
  · rw [if_neg hl] at w1; exact w1.elim
end
end Y

set_option Elab.async false
set_option linter.all false
set_option maxRecDepth 100000
set_option maxHeartbeats 2000000
/-! Y20: isinstance with own classes; new things of the store; extend. -/
namespace Y
open PySem PySem.Spec PyProof.Rows L2

/-! ### isinstance -/
/-- what the written part says of classes and built-in types -/
structure IsaK (K : PySem.W.Frag) (CL : Nat → Addr) (cs : List Nat) (sup : Nat → Nat → Bool) : Prop where
  tc : ∀ (t : Ty), ∀ D ∈ cs, PySem.W.kitOne K (.type t.name) (.ref (CL D)) = some false
  cc : ∀ C ∈ cs, ∀ D ∈ cs, PySem.W.kitOne K (.ref (CL C)) (.ref (CL D)) = some (sup C D)
  ct : ∀ C ∈ cs, ∀ (t : Ty), PySem.W.kitOne K (.ref (CL C)) (.type t.name) = some false
  cl : ∀ C ∈ cs, Cls K (CL C) ∧ PySem.W.findIn K (.ref (CL C)) "__class__" = some (some (.builtin "object.__class__")) ∧ PySem.W.mroIn K (CL C) (.type "object") = some true
  gs : PySem.W.specialIn K (.builtin "object.__class__") "__get__" = some (some (.builtin "getset_descriptor.__get__"))
  tk : PySem.W.takesIn K (.builtin "object.__class__") = some true
def kOf (cs : List Nat) : D → Option (Ty ⊕ Nat)
  | .obj C _ _ => if C ∈ cs then some (.inr C) else none
  | d => (tyOf d).map .inl
def isiK (cs : List Nat) (sup : Nat → Nat → Bool) : Ty ⊕ Nat → D → Option Bool
  | .inl t, .ty u => some (isiTy t u)
  | .inl _, .cls D => if D ∈ cs then some false else none
  | .inr C, .ty _ => if C ∈ cs then some false else none
  | .inr C, .cls D => if C ∈ cs ∧ D ∈ cs then some (sup C D) else none
  | _, _ => none
def isiKs (cs : List Nat) (sup : Nat → Nat → Bool) (t : Ty ⊕ Nat) : List D → Option Bool
  | [] => some false
  | c :: r => (isiK cs sup t c).bind fun b => (isiKs cs sup t r).map fun b2 => b || b2
def isiO (cs : List Nat) (sup : Nat → Nat → Bool) (x : D) : D → Option Bool
  | .tup us => (kOf cs x).bind fun t => isiKs cs sup t us
  | .ty c => (kOf cs x).bind fun t => isiK cs sup t (.ty c)
  | .cls c => (kOf cs x).bind fun t => isiK cs sup t (.cls c)
  | _ => none
def opIsiO (cs : List Nat) (sup : Nat → Nat → Bool) : List D → Option D
  | [x, c] => (isiO cs sup x c).map .bl
  | _ => none
/-- the type of a value as the model says it -/
def tyV' (CL : Nat → Addr) : Ty ⊕ Nat → Value
  | .inl t => .type t.name
  | .inr C => .ref (CL C)
section
variable {g : Gh} {K : PySem.W.Frag} {CL : Nat → Addr} {O : List Addr} {H : Hp} {cs : List Nat} {sup : Nat → Nat → Bool}
theorem kOf_ty (I : IsaK K CL cs sup) {x : V} {d : D} {t : Ty ⊕ Nat} (hcl : g.cl = CL) (r : RD g K O H x d) (e : kOf cs d = some t) : TyX K H x (tyV' CL t) := by
  have base : ∀ {t0 : Ty}, tyOf d = some t0 → t = .inl t0 → TyX K H x (tyV' CL t) := fun h1 h2 => by rw [h2]; exact tyX_of r h1
  cases r with
  | @obj a dx C fs vs ds h _ _ _ =>
    have e : (if C ∈ cs then some (Sum.inr C) else none) = some t := e
    by_cases hc : C ∈ cs
    · rw [if_pos hc] at e; cases e
      rw [hcl] at h
      obtain ⟨c1, c2, c3⟩ := I.cl C hc
      exact .base (.ins h c1 c2 I.gs I.tk c3)
    · rw [if_neg hc] at e; cases e
  | err _ _ _ _ => exact (nos e).elim
  | cls n => exact (nos e).elim
  | fn n => exact (nos e).elim
  | ty n => exact (nos e).elim
  | pen _ => exact (nos e).elim
  | non => cases e; exact base rfl rfl
  | bl _ => cases e; exact base rfl rfl
  | int _ => cases e; exact base rfl rfl
  | str _ => cases e; exact base rfl rfl
  | lst _ _ => cases e; exact base rfl rfl
  | tup _ _ => cases e; exact base rfl rfl
  | dic _ _ _ _ => cases e; exact base rfl rfl
theorem isiK_ok (I : IsaK K CL cs sup) (hcl : g.cl = CL) {c : V} {d : D} {t : Ty ⊕ Nat} {b : Bool} (r : RV g K O H c d) (e : isiK cs sup t d = some b) : ∃ u, ClsV c u ∧ PySem.W.kitOne K (tyV' CL t) u = some b := by
  cases r with
  | ty n =>
    cases t with
    | inl t => cases e; exact ⟨_, .ty _, kit_ty (kit_all t n)⟩
    | inr C =>
      have e : (if C ∈ cs then some false else none) = some b := e
      by_cases h : C ∈ cs
      · rw [if_pos h] at e; cases e; exact ⟨_, .ty _, I.ct C h n⟩
      · rw [if_neg h] at e; cases e
  | cls n =>
    rw [hcl]
    cases t with
    | inl t =>
      have e : (if n ∈ cs then some false else none) = some b := e
      by_cases h : n ∈ cs
      · rw [if_pos h] at e; cases e; exact ⟨_, .own _, I.tc t n h⟩
      · rw [if_neg h] at e; cases e
    | inr C =>
      have e : (if C ∈ cs ∧ n ∈ cs then some (sup C n) else none) = some b := e
      by_cases h : C ∈ cs ∧ n ∈ cs
      · rw [if_pos h] at e; cases e; exact ⟨_, .own _, I.cc C h.1 n h.2⟩
      · rw [if_neg h] at e; cases e
  | _ => cases t <;> cases e
theorem isiKs_ok (I : IsaK K CL cs sup) (hcl : g.cl = CL) {t : Ty ⊕ Nat} : ∀ (ds : List D) {vs : List V} {b : Bool}, RVs g K O H vs ds → isiKs cs sup t ds = some b → ∃ us, Paired ClsV vs us ∧ PySem.W.kitAny K (tyV' CL t) us = some b
  | [], vs, b, r, e => by
    cases r
    have e : some false = some b := e
    cases e; exact ⟨[], .nil, rfl⟩
  | d :: ds, vs, b, r, e => by
    cases r with
    | cons r1 r2 =>
      have e : ((isiK cs sup t d).bind fun b => (isiKs cs sup t ds).map fun b2 => b || b2) = some b := e
      obtain ⟨b1, e1, e⟩ := bind_some e
      cases e2 : isiKs cs sup t ds with
      | none => rw [e2] at e; cases e
      | some b2 =>
        rw [e2] at e
        have e : some (b1 || b2) = some b := e
        obtain ⟨u, k1, k2⟩ := isiK_ok I hcl r1 e1
        obtain ⟨us, k3, k4⟩ := isiKs_ok I hcl ds r2 e2
        cases e
        refine ⟨u :: us, .cons k1 k3, kitAny_cons k2 (fun z => by rw [z, Bool.false_or]; exact k4) fun z => by rw [z, Bool.true_or]⟩
end
section
variable {X : Cx} {B : Bd} {CL : Nat → Addr} {cs : List Nat} {sup : Nat → Nat → Bool} {e : Expr} {es : List Expr} {fa : FA} {p pos : Pos}
theorem se_isi (I : IsaK X.K CL cs sup) (hcl : B.g.cl = CL) (hm : X.mg "isinstance" = none) (ha : PA X (e :: es) (tL B X.K fa)) (hb : bootBuiltins "isinstance" = some (.builtin "isinstance") := by first | exact bt_isinstance | decide +kernel) (hg : Gl X "isinstance" := by rfl)
    (he : starEach (e :: es) X.env = (false, eval e X.env) :: starEach es X.env := by rfl) (hpl : (backTo pos (starEach es X.env)).any (·.1) = false := by rfl) : PE X (.Call (.Name "isinstance" p) (e :: es) [] pos) (tM B X.K (eCallB (opIsiO cs sup) fa)) :=
  PEimp (pe_callB ((call_isi (X := X)).or (call_isiT.or call_isiK)) hg hm hb ha (by decide) (by decide) he hpl) fun σ H Q ⟨ρ, μ, W, n, R, h⟩ => ⟨ρ, μ, W, n, R, (T.All.bind h).mono fun p n1 h1 vs W1 H1 k1 R1 r1 => by
    obtain ⟨d, e, q⟩ := rO_all h1
    obtain ⟨ds, e1, e2⟩ := bind_some e
    cases drfs_rd R1.st r1 e1 with
    | nil => exact (nos e2).elim
    | @cons x _ dx _ rx r2 =>
    cases r2 with
    | nil => exact (nos e2).elim
    | @cons c _ dc _ rc r3 =>
    cases r3 with
    | cons _ _ => exact (nos e2).elim
    | nil =>
    have e2 : (isiO cs sup dx dc).map D.bl = some d := e2
    cases e3 : isiO cs sup dx dc with
    | none => rw [e3] at e2; cases e2
    | some b =>
      rw [e3] at e2; cases e2
      have fin := q (.bl b) W1 H1 k1 R1 (.t (.bl b))
      have one : ∀ {c : V} {dc : D}, RV B.g X.K W1.o H1 c dc → ((kOf cs dx).bind fun t => isiK cs sup t dc) = some b → rIsi X.K [x, c] H1 Q := fun rc e3 => by
        obtain ⟨t, e4, e5⟩ := bind_some e3
        obtain ⟨u, k1, k2⟩ := isiK_ok I hcl rc e5
        exact ⟨_, _, _, _, b, rfl, k1, kOf_ty I hcl rx e4, k2, fin⟩
      cases rc with
      | ty m => exact .inl (one (.ty m) e3)
      | cls m => exact .inl (one (.cls m) e3)
      | @tup tp us' dus ft rs =>
        have e3 : ((kOf cs dx).bind fun t => isiKs cs sup t dus) = some b := e3
        obtain ⟨t, e4, e5⟩ := bind_some e3
        obtain ⟨us, k3, k4⟩ := isiKs_ok I hcl _ rs e5
        rcases ft with ⟨ft, _⟩ | ft
        · exact .inr (.inl ⟨_, tp, _, _, us, b, rfl, ft, k3, kOf_ty I hcl rx e4, k4, fin⟩)
        · obtain ⟨o, its, n', g1, g2, g3, _, rv⟩ := ft
          have eu := ClsV.all k3 rv
          obtain ⟨oc, od, dt, sl⟩ := o
          simp only at g2 g3
          subst g2 g3
          have ei : its = us.toArray := by rw [← eu]
          subst ei
          exact .inr (.inr ⟨_, tp, od, _, n', sl, _, b, rfl, g1, kOf_ty I hcl rx e4, k4, fin⟩)
      | _ => exact (nos e3).elim⟩
end
end Y

set_option Elab.async false
set_option linter.all false
set_option maxRecDepth 100000
set_option maxHeartbeats 2000000
/-! Y21: new things of the store by C(..); extend. -/
namespace Y
open PySem PySem.Spec PyProof.Rows L2
section
variable {X : Cx} {B : Bd} {k j : Nat} {x : Str} {C n : Nat} {F : List Vd → Mu → T (Vd × Mu)} {e : Expr} {es : List Expr} {fa : FA} {p pos : Pos} {CL : Nat → Addr}
theorem se_makeS (h : Kl X.prog X.w X.K X.mg X.base CL j x C n F) (hn : ArS (n + 1) F) (hend : EndsNon F) (hr : Rm k X.A) (hj : j + 1 ≤ k) (hx : Lets X B) (hcl : B.g.cl = CL) (ha : PA X (e :: es) (tL B X.K fa)) (hg : Gl X x := by rfl) (hdb : (x == ("__debug__" : Str)) = false := by decide)
    (he : starEach (e :: es) X.env = (false, eval e X.env) :: starEach es X.env := by rfl) (hpl : (backTo pos (starEach es X.env)).any (·.1) = false := by rfl) : PE X (.Call (.Name x p) (e :: es) [] pos) (tM B X.K (eMakeS C F fa)) := by
  obtain ⟨f, fd, ps, h1, h2, h3, h4⟩ := h.h
  obtain ⟨E, hp, hE⟩ := hx
  refine PEimp (pe_makeG h2 h4 (hr.mono hj) h1 h3 hp ha hg hdb he hpl) fun σ H Q ⟨ρ, μ, W, b, R, w⟩ => ⟨ρ, μ, W, b, R, (T.All.bind w).mono fun q n1 w1 vs W1 H1 k1 R1 r1 a dx ha hdx hne => ?_⟩
  have s1 : Same H1 (upd H1 dx (.own a)) := same_new hdx
  have ha' : upd H1 dx (.own a) a = none := by rw [upd_ne (Ne.symm hne)]; exact ha
  have R2 := R1.same s1
  obtain ⟨R3, e3, r3⟩ := R2.newC (p := a) (ob := .ins (CL C) dx []) (c := .obj C [] []) ha' (.obj (dx := dx) (vs := []) (by rw [upd_same, hcl]; rfl) rfl .nil)
  have e13 : Ext B.g.pa W1 H1 (W1.new a) (upd (upd H1 dx (.own a)) a (.ins (CL C) dx [])) := (Ext.same s1).trans e3
  have w2 := T.All.bind w1
  by_cases z : (Vd.r q.2.length :: q.1).length = n + 1
  · refine ⟨by rw [List.length_cons, r1.length]; exact z, B.g, W1.new a, q.2 ++ [.obj C [] []], n1, .r q.2.length :: q.1, hcl, R3.st, .cons r3 (r1.ext R1.st e13), (hend _ _ _ _ _ w2).mono2 (fun q2 b' ⟨ev, hq⟩ v W' H' ex st mo rv => ?_) fun C' fs es' b' y d H' pk ex => hE C' fs es' b' d H' y (R3.outS pk) (R3.exat ex)⟩
    rw [ev] at rv
    have rv := tof rv rfl
    cases rv
    exact ⟨rfl, hq (.ref a) W' H' ((k1.trans e13).trans ex) (R3.go ex st fun y hy => mo y (R3.mono y hy)) (r3.ext R3.st ex)⟩
  · rw [hn _ _ z] at w2; exact w2.elim
/-- x.extend(a list) -/
def eExt (fo f : FE) : FE := fun ρ μ => (fo ρ μ).bind fun o => (T.ofO (refOf o.1)).bind fun n => (T.ofO (lstAt o.2 n)).bind fun _ => (f ρ o.2).bind fun p => (T.ofO ((drf p.2 p.1).bind lstOf)).bind fun es => (T.ofO (lstAt p.2 n)).bind fun ds =>
  if ds.length + es.length ≤ lim then .ret (.t .non, p.2.set n (.lst (ds ++ es))) else .bad
theorem se_ext {o : Expr} {fo f : FE} {apos cpos : Pos} (ho : PE X o (tM B X.K fo)) (ha : PE X e (tM B X.K f))
    (hs0 : starEach [e] X.env = (false, eval e X.env) :: starEach [] X.env := by rfl)
    (hbase : attributeBase o "extend" X.env (eval o X.env) = eval o X.env := by rfl)
    (hfew : ((backTo cpos (starEach [e] X.env)).all (fun x => !x.1) && (backToKw cpos (keywordEach [] X.env)).all (fun x => x.1.isSome) && decide (([e] : List Expr).length + ([] : List Keyword).length + (if ([] : List Keyword).isEmpty then 0 else 1) < 30)) = true := by rfl)
    (hline : (apos.endLine == cpos.line) = true := by rfl) (hplain : (backTo cpos (starEach [] X.env)).any (·.1) = false := by rfl) :
    PE X (.Call (.Attribute o "extend" apos) [e] [] cpos) (tM B X.K (eExt fo f)) :=
  PEimp (pe_bm PySem.F.plainAttrs_list PySem.F.slot_list_extend PySem.F.type_list_extend mt_extend ho (pa_cons ha pa_nil hs0) hbase hfew hline hs0 hplain) fun σ H Q ⟨ρ, μ, W, b, R, w⟩ => ⟨ρ, μ, W, b, R, (T.All.bind w).mono fun p1 b1 w1 v1 W1 H1 k1 R1 r1 => by
    obtain ⟨n, en, w1⟩ := T.All.ofO (T.All.bind w1)
    obtain ⟨ds0, el, w1⟩ := T.All.ofO (T.All.bind w1)
    rw [refOf_some en] at r1
    obtain ⟨a, rfl, hc, rc⟩ := live R1.st r1 (lstAt_some el) (fun z => nomatch z)
    cases rc with
    | @lst vs ds0 g5 _ =>
    refine ⟨.inl ⟨rfl, vs, .inl (.inl g5)⟩, ρ, _, W1, b1, R1, (T.All.bind w1).mono fun p2 b2 w2 v2 W2 H2 k2 R2 r2 => ?_⟩
    obtain ⟨es, ed, w2⟩ := T.All.ofO (T.All.bind w2)
    obtain ⟨ds, el2, w2⟩ := T.All.ofO (T.All.bind w2)
    obtain ⟨d, ed1, ed2⟩ := bind_some ed
    obtain ⟨hc2, rc2⟩ := live2 R2.st hc k2 (lstAt_some el2) (fun z => nomatch z)
    cases rc2 with
    | @lst vs2 ds g6 rs =>
    have rd := drf_rd R2.st r2 ed1
    cases rd <;> try exact (nos ed2).elim
    rename_i a3 vs3 ds3 g7 rs3
    cases ed2
    by_cases hl : ds.length + es.length ≤ lim
    · rw [if_pos hl] at w2
      have kk : KpO W2.o H2 (upd H2 a (.lst (vs2 ++ vs3))) := kO_set R2.st hc2
      have st2 := st_set (ob := .lst (vs2 ++ vs3)) (c := .lst (ds ++ es)) R2.st hc2 (lstAt_some el2) (.lst upd_same ((rs.append rs3).keep kk hs_refl))
      have ex2 : Ext B.g.pa W2 H2 W2 (upd H2 a (.lst (vs2 ++ vs3))) := ext_set hc2 .lst
      refine ⟨a, a3, vs2, vs3, rfl, rfl, g6, g7.h1, ?_, w2 _ W2 _ ((k1.trans k2).trans ex2) (R2.go ex2 st2 R2.mono) (.t .non)⟩
      rw [rs.length, rs3.length]; exact lim_le hl
    · rw [if_neg hl] at w2; exact w2.elim⟩
end
end Y

set_option Elab.async false
set_option linter.all false
set_option maxRecDepth 100000
set_option maxHeartbeats 2000000
/-! Y22: except x as n, where the error is kept behind the suite. -/
namespace Y
open PySem PySem.Spec PyProof.Rows L2

theorem xo_ok {P : Program} {w : World} {H : Hp} {h : Heap} {a : Addr} {cls : Value} {d : Option Addr} {oe : Obj} {vs : Array Value} (h1 : h.get? a = some oe) (h2 : Zc cls d oe) (h3 : oe.data = .fields vs) : ObjOk P w H h a (xo a cls d) :=
  ⟨⟨oe, vs, h1, h2, h3⟩, ⟨oe, h1⟩, fun _ _ ⟨oe, vs, q1, q2, q3⟩ k => ⟨oe, vs, k _ q1, q2, q3⟩⟩
theorem xo_at {P : Program} {w : World} {H : Hp} {h : Heap} {a : Addr} {cls : Value} {d : Option Addr} (hok : HOk P w H h) (e : H a = some (xo a cls d)) : ∃ (oe : Obj) (vs : Array Value), h.get? a = some oe ∧ Zc cls d oe ∧ oe.data = .fields vs := by
  have x : ObjOk P w H h a (.ext fun h => ∃ (oe : Obj) (vs : Array Value), h.get? a = some oe ∧ Zc cls d oe ∧ oe.data = .fields vs) := hok a _ e
  exact x.1
section
variable {X : Cx} {pins : List (Addr × Obj)} {σ : L2.St} {H : Hp} {s : Shared} {a : Addr} {o : HO}
theorem adopt (I : Inv X pins σ H s) (h0 : X.s_0.heap.get? a = none) (hp : ∀ p ∈ X.pn ++ pins, p.1 ≠ a) (hL : a ≠ X.env.locals) (hc : ∀ x c, X.env.cells.lookup x = some c → c ≠ a) (na : H a = none) (ok : ObjOk X.prog X.w (upd H a o) s.heap a o) : Inv X pins σ (upd H a o) s := by
  have ne0 : ∀ {b : Addr} {ob : Obj}, X.s_0.heap.get? b = some ob → b ≠ a := fun q z => by rw [z, h0] at q; cases q
  have neH : ∀ {b : Addr} {u : HO}, H b = some u → b ≠ a := fun q z => by rw [z, na] at q; cases q
  refine ⟨I.ok, I.os, I.bare, ⟨I.base.keep, I.base.slot, fun b ob q n hx => by rw [upd_ne (ne0 q)]; exact I.base.free b ob q n hx, I.base.there, fun b xs q => ?_, fun b ob u q => ?_, fun b ps q => ?_⟩, I.loc, I.cell, by rw [upd_ne (Ne.symm hL)]; exact I.free, fun x c q => by rw [upd_ne (hc x c q)]; exact I.freeC x c q, fun p hp' => ?_, fun b u q => ?_, I.len⟩
  · have z := I.base.tups b xs q; rw [upd_ne (neH z)]; exact z
  · have z := I.base.frzs b ob u q; rw [upd_ne (neH z)]; exact z
  · obtain ⟨more, z⟩ := I.base.tbls b ps q; exact ⟨more, by rw [upd_ne (neH z)]; exact z⟩
  · obtain ⟨q1, q2, q3⟩ := I.pin p hp'
    exact ⟨q1, by rw [upd_ne (hp p hp')]; exact q2, q3⟩
  · by_cases hb : b = a
    · subst hb; rw [upd_same] at q; cases q; exact ok
    · rw [upd_ne hb] at q
      exact (I.hok b u q).stay (fun _ _ _ z => z) (fun c hc => by rw [upd_ne (neH hc)]; exact hc) fun c xs hc => by rw [upd_ne (neH hc)]; exact hc
end
/-- what the clause wishes of an error of the body: behind the suite the error stays as a thing -/
def wKeep (K : PySem.W.Frag) (c : Value) (i n : Nat) (ts : Addr → Value → Option Addr → TS) (Wout : WX) (D : Ends) : WX := fun cls d σ H =>
  ∃ b, PySem.W.exmOne K cls c = some b ∧ (b = true → ∀ a, H a = none → σ.length = n → ts a cls d { nx := fun σ' H' => D.nx (σ'.set i none) (upd H' a (xo a cls d)), rt := fun _ _ => False, bk := fun _ _ => False, ct := fun _ _ => False } (σ.set i (some (.ref a))) H) ∧
    (b = false → Wout cls d σ H)
section
variable {X : Cx} {x n : Str} {c : Value} {i : Nat} {body suite : List Stmt} {b₀ : Stmt} {np pos pos' : Pos} {tb : WX → TS} {ts : Addr → Value → Option Addr → TS} {Wout : WX}
theorem ps_try_keep (hs : X.stack = X.env :: X.outer) (hf : X.env.frame = some X.env.locals) (hex : X.ex = []) (hN : X.N.Nodup) (hi : X.N[i]? = some n) (hln : X.env.kindOf n = some .local) (hc : Names X x c) (tk : Takes X Wout)
    (hb : ∀ (W : WX) (pn : List (Addr × Obj)) (xe : Value → Shared → Prop), Takes (X.tr pn xe) W → PassesOwn (model X.prog X.w) X.A X.env xe → PSs (X.tr pn xe) body (tb W))
    (hsu : ∀ (a : Addr) (oe : Obj) (cls : Value) (d : Option Addr) (pn : List (Addr × Obj)), Zc cls d oe → (∃ vs, oe.data = .fields vs) → PSs (X.suite a ((a, oe) :: pn)) (b₀ :: suite) (ts a cls d)) :
    PS X (.Try body [.ExceptHandler (some (.Name x np)) (some n) (b₀ :: suite) pos'] [] [] pos) (fun D σ H => tb (wKeep X.K c i X.N.length ts Wout D) D σ H) := by
  refine ⟨fun pins s σ H D I h => ?_⟩
  have ok := I.ok
  have hfr : X.A.frames = some (X.env :: X.outer) := by rw [ok.frames, hs]
  have hloc : Loc X.env.scope n := .inl hln
  refine wpAny_Try_except ?_
  refine wpAny_mono ((hb (wKeep X.K c i X.N.length ts Wout D) (X.pn ++ pins) (fun e s₁ => wpAny (model X.prog X.w) X.A (noteFrame e X.env) (fun _ s₂ => wpAny (model X.prog X.w) X.A (setFlight e none) (fun _ s₃ =>
    wpAny (model X.prog X.w) X.A (handleBy e X.env [.ExceptHandler (some (.Name x np)) (some n) (b₀ :: suite) pos']) (SP X pins D) X.xe s₃) X.xe s₂) X.xe s₁) (fun u s' xx => ?_) PassesOwn.looking).run [] s σ H D (I.toTry _) h) (fun f s1 hsp => ?_) (fun e s1 he => he)
  · -- the catch
    obtain ⟨a, B, sI, pins', σ', H', cls, d, rfl, J', nb, up, sky, na, os, ag, b, hb1, hyes, hno⟩ := xx
    have J : Inv X pins σ' H' sI := J'.ofTry ok
    have sky' : Sky B (X.env :: X.outer) a (Zc cls d) X.env.locals s'.heap := by rw [← hs]; exact sky
    show wpAny (model X.prog X.w) X.A (noteFrame (.ref a) X.env) _ _ _
    refine Sky.land Zc.steady hfr hf sky' fun h3 fl3 up3 => ?_
    have J3 : Inv X pins σ' H' { s' with heap := h3 } := J.landed nb fl3.1 (up.trans up3) os ag
    obtain ⟨oe3, vs3, he3, hz3, hd3⟩ := fl3.there
    have notFr : ∀ {h : Heap} {o : Obj} {vs : Array Value}, h.FunFrames B (X.env :: X.outer) → h.get? a = some o → o.data = .fields vs → a ∉ frs (X.env :: X.outer) := fun {h o vs} ff e dd hm => by
      obtain ⟨_, o', e', hnf⟩ := ff.mem hm
      rw [e] at e'; cases e'
      exact hnf _ dd
    have nfr := notFr fl3.2.2.1 he3 hd3
    have nL : a ≠ X.env.locals := fun z => nfr (List.mem_filterMap.mpr ⟨X.env, List.mem_cons_self, by rw [hf, z]⟩)
    have nF : a ∉ X.fs := fun hm => by
      obtain ⟨e, he, q⟩ := List.mem_filterMap.mp hm
      exact nfr (List.mem_filterMap.mpr ⟨e, List.mem_cons_of_mem _ he, q⟩)
    -- the error was not there ahead
    have hsa : sI.heap.get? a = none := by
      cases z : sI.heap.get? a with
      | none => rfl
      | some o =>
        have := nb a o z (by rw [hs]; exact nfr)
        rw [fl3.2.1] at this; cases this
    have h0 : X.s_0.heap.get? a = none := by
      cases z : X.s_0.heap.get? a with
      | none => rfl
      | some o =>
        obtain ⟨o', q⟩ := J.base.there a o z (by rw [hex]; exact fun z => nomatch z)
        rw [hsa] at q; cases q
    have hpn : ∀ p ∈ X.pn ++ pins, p.1 ≠ a := fun p hp z => by
      have := (J.pin p hp).1
      rw [z, hsa] at this; cases this
    have hcl : ∀ y cc, X.env.cells.lookup y = some cc → cc ≠ a := fun y cc e z => by
      obtain ⟨_, o, q, _⟩ := J.cell y cc e
      rw [z, hsa] at q; cases q
    have S3 := J3.suite he3 hd3 na nL nF
    refine wpAny_handleBy_cons (codeAny_handlers_test ?_) (by intro q; cases q)
    have LT : PySem.W.Looks (model X.prog X.w) h3 (typeOf (.ref a)) cls := fun A Q E s k q => wpAny_typeOf_ref (k _ _ he3) (by rw [hz3.1]; exact q)
    have LM := PySem.W.exm_one (M := model X.prog X.w) (J3.kIn) LT hb1
    have test : ∀ {Q : Value → Shared → Prop} {E : Value → Shared → Prop}, Q c { s' with heap := h3 } → wpAny (model X.prog X.w) (X.A.mark (some (.ref a))) (eval (.Name x np) X.env) Q E { s' with heap := h3 } := fun {Q E} q => by
      obtain ⟨hg, hdbg, hm | ⟨hm, hv, hnn⟩⟩ := hc
      · exact ld_glob (X := X.suite a ((a, oe3) :: (X.pn ++ pins))) S3 hg hm q hdbg
      · exact ld_blt (X := X.suite a ((a, oe3) :: (X.pn ++ pins))) S3 hg hm hv q hnn hdbg
    refine test (LM.here ?_)
    cases b with
    | true =>
      refine codeAny_handlers_suite_as ?_
      refine HandSPX.lands_againZ fl3 fun h4 fl4 up4 => ?_
      have J4 : Inv X pins σ' H' { s' with heap := h4 } := J.landed nb fl4.1 ((up.trans up3).trans up4) os ag
      obtain ⟨oe4, vs4, he4, hz4, hd4⟩ := fl4.there
      have S4 := J4.suite he4 hd4 na nL nF
      refine store_ok (X := X.suite a ((a, oe4) :: (X.pn ++ pins))) (v := .ref a) S4 hN hi hloc rfl (fun s5 S5 => ?_) (.inr hln)
      refine wpAny_mono ((hsu a oe4 cls d (X.pn ++ pins) hz4 ⟨_, hd4⟩).run [] s5 _ H' _ S5 (hyes rfl a na J.len)) (fun f s6 hsp => ?_) (fun _ _ z => False.elim z)
      cases f with
      | next =>
        obtain ⟨σ6, H6, S6, q6⟩ := hsp
        obtain ⟨g1, g2, _⟩ := S6.pin (a, oe4) (List.mem_append_left _ List.mem_cons_self)
        have J6 : Inv X pins σ6 (upd H6 a (xo a cls d)) s6 := adopt (S6.unsuite ok) h0 hpn nL hcl g2 (xo_ok g1 hz4 hd4)
        exact gone_ok J6 hN hi hln fun s7 J7 => ⟨_, _, J7, q6⟩
      | brk =>
        obtain ⟨σ6, H6, S6, q6⟩ := hsp
        exact q6.elim
      | cont =>
        obtain ⟨σ6, H6, S6, q6⟩ := hsp
        exact q6.elim
      | ret u =>
        obtain ⟨v6, σ6, H6, S6, r6, q6⟩ := hsp
        exact q6.elim
    | false =>
      show wpAny _ X.A (handleBy (.ref a) X.env []) _ _ _
      refine wpAny_handleBy_nil ?_
      obtain ⟨k1, k2, k3, oe, vs, T, oT, ts', he, hz, hd, h1, hr⟩ := id fl3
      unfold PySem.passOn
      refine wpAny_bind (wpAny_field he hd h1 ?_)
      rw [if_neg (show ¬ ((Value.ref T == Value.none) = true) from by simp)]
      have fin : wpAny (model X.prog X.w) X.A (setFlight (.ref a) X.env.frame) (fun _ s4 => wpAny (model X.prog X.w) X.A (throw (.ref a) : Sem Flow) (SP X pins D) X.xe s4) X.xe { s' with heap := h3 } := by
        rw [hf]
        refine HandSPX.setFlight_upZ fl3 fun h4 hh4 up4 => wpAny_throw (tk _ _ ?_)
        exact ⟨a, B, sI, pins, σ', H', cls, d, rfl, J, nb, (up.trans up3).trans up4, .inr (.inr (by rw [hs]; exact hh4)), na, os, ag, hno rfl⟩
      first
        | exact wpAny_bind (wpAny_pure (wpAny_bind fin))
        | exact wpAny_bind fin
  · cases f with
    | next =>
      obtain ⟨σ', H', J', q⟩ := hsp
      exact wpAny_execs_nil ⟨σ', H', J'.ofTry ok, q⟩
    | brk =>
      obtain ⟨σ', H', J', q⟩ := hsp
      exact ⟨σ', H', J'.ofTry ok, q⟩
    | cont =>
      obtain ⟨σ', H', J', q⟩ := hsp
      exact ⟨σ', H', J'.ofTry ok, q⟩
    | ret u =>
      obtain ⟨v, σ', H', J', r, q⟩ := hsp
      exact ⟨v, σ', H', J'.ofTry ok, r, q⟩
/-- reading the field of a kept error -/
def tXo (C : Addr) (f : Str) (te : TE) : TE := fun σ H Q => te σ H fun x H1 => ∃ (a dd : Addr) (fs : List (Str × V)) (v : V), x = .ref a ∧ H1 a = some (xo a (.ref C) (some dd)) ∧ H1 dd = some (.xd fs) ∧ fs.lookup f = some v ∧ Q v H1
theorem pe_xo {C : Addr} {e : Expr} {te : TE} {f : Str} (T : XfC X.K C) (hno : PySem.W.findIn X.K (.ref C) f = some none) (he : PE X e te) (hb : attributeBase e f X.env (eval e X.env) = eval e X.env := by rfl) : PE X (.Attribute e f pos) (tXo C f te) := by
  refine ⟨fun pins s σ H Q I h => ?_⟩
  refine attr_of hb (thn (he.run pins s σ H _ I h) fun u s1 ⟨x, H1, I1, rx, a, dd, fs, v, ex, ea, ed, l, q⟩ => ?_)
  subst ex
  obtain rfl : u = Value.ref a := rx
  obtain ⟨oe, vs, ha, hz, hd⟩ := xo_at I1.hok ea
  have hx : ObjOk X.prog X.w H1 s1.heap dd (.xd fs) := I1.hok dd _ ed
  obtain ⟨mA, hns, hr⟩ := hx
  obtain ⟨od, ho, hl⟩ := lookIn_ns hns
  obtain ⟨u, hu, ru⟩ := RelO.some_of (v := v) (o := mA f) (by rw [← l]; exact hr f)
  have J : PySem.W.InstAt s1.heap a oe C (some od) := ⟨ha, hz.1, by unfold PySem.W.notCls; rw [hd] <;> rfl, by rw [hz.2]; exact ho⟩
  exact HandSPX.exc_get I1.kIn J T.ga T.gg T.exC (PySem.W.findObj_own T.hdC hno rfl (by rw [hl, hu])) (handed_of ru) ⟨v, H1, I1.tok _, ru, q⟩
end
end Y

set_option Elab.async false
set_option linter.all false
set_option maxRecDepth 100000
set_option maxHeartbeats 4000000
/-! Y23: isinstance of a kept error (HandS.ExcIs tells of errors without a dict; here they have one). -/
namespace Y
open PySem PySem.Spec PySem.W PySem.Calls PyProof.Rows
section
variable {prog : Program} {w : World} {A : Around} {E : Value → Shared → Prop} {s : Shared} {K : Frag} {x D : Addr} {ox od : Obj}
theorem kin_classX {Q : Option Value → Shared → Prop} (hga : findIn K (.ref D) "__getattribute__" = some (some (.builtin "BaseException.__getattribute__"))) (hgt : findIn K (.ref D) "__getattr__" = some none) (hsub : subIn K (.ref D) (.type "BaseException") = some true)
    (hdct : hasDictIn K D = true) (ha : findIn K (.ref D) "__class__" = some (some (.builtin "object.__class__")))
    (hn : specialIn K (.builtin "object.__class__") "__get__" = some (some (.builtin "getset_descriptor.__get__"))) (htk : takesIn K (.builtin "object.__class__") = some true) (hm : mroIn K D (.type "object") = some true)
    (X : K.In s.heap) (I : InstAt s.heap x ox D (some od)) (h : Q (some (.ref D)) { s with toks := s.toks + 1 }) : wpAny (model prog w) A (getAttr? (.ref x) "__class__") Q E s := by
  have hf : findObj K D (some od) "__class__" = some (.bind (.builtin "getset_descriptor.__get__") (.builtin "object.__class__")) := findObj_data (by obtain ⟨cd, hc, _⟩ := any_some hdct; rw [hc]; rfl) ha hn htk
  obtain ⟨hp, g, d, t, os⟩ := s
  have L0 := I.type (M := model prog w)
  have L1 := looks_findIn (M := model prog w) X hga
  have L2 := looks_findIn (M := model prog w) X hgt
  have L3 := looks_find (M := model prog w) X I hf
  have sub : Looks (model prog w) hp (isInstance (.ref x) (.type "BaseException")) true := L0.andThen (looks_subIn X hsub)
  have hx0 : (false && onTheHeap (Value.builtin "BaseException.__getattribute__")) = false := rfl
  have hx2 : (Value.builtin "BaseException.__getattribute__" == Value.builtin "object.__getattribute__") = false := by decide +kernel
  have hx1 : (onTheHeap (Value.ref D) && Value.builtin "BaseException.__getattribute__" == Value.builtin "object.__getattribute__") = false := by rw [hx2]; rfl
  unfold getAttr? getAttrBy? getAttrBy
  refine wpAny_bind (wpAny_mkText (wpAny_bind (wpAny_attempt (wpAny_holding (wpAny_bind (L0.at (wpAny_bind (L1.at ?_))))))))
  show wpAny _ _ (if (onTheHeap (Value.ref D) && Value.builtin "BaseException.__getattribute__" == Value.builtin "object.__getattribute__") = true then _ else _) _ _ _
  rw [hx1, if_neg Bool.false_ne_true]
  unfold getAttrByItsOwn hookBefore
  refine wpAny_bind ?_
  rw [if_pos (show onTheHeap (Value.ref D) = true from rfl)]
  refine L2.at ?_
  refine wpAny_bind (wpAny_attempt (wpAny_holding ?_))
  unfold callGetattribute
  rw [hx0, if_neg Bool.false_ne_true]
  unfold boundAndCalled
  rw [PySem.F.excAttr_ValueError.ga.bind (.ref x)]
  refine wpAny_bind (wpAny_pure ?_)
  show wpAny _ _ (call (.builtin "BaseException.__getattribute__") [.ref x, .str "__class__" t]) _ _ _
  refine wpAny_call (codeAny_call_builtin PySem.F.excAttr_ValueError.ga.plain PySem.F.entry_bexc_ga ?_)
  refine @check_slot (model prog w) _ _ ⟨hp, g, d, t + 1, os⟩ "BaseException.__getattribute__" "BaseException" "__getattribute__" (.ref x) [.str "__class__" t] [] _ (by decide +kernel) (by decide +kernel) sub (PySem.F.args_bexc_ga (.ref x) (.str "__class__" t)) ?_
  unfold Builtin.«object.__getattribute__»
  refine wpAny_bind (wpAny_of_eq (a := ((Value.ref x : Value), [Value.str "__class__" t])) (by first | rfl | (simp only [slotArgs]; rfl)) ?_)
  refine wpAny_bind (wpAny_pure (wpAny_bind (L0.at (wpAny_bind (L3.at ?_)))))
  show wpAny _ _ (holding [Value.builtin "object.__class__"] (call (.builtin "getset_descriptor.__get__") [.builtin "object.__class__", .ref x, .ref D]) >>= ret) _ _ _
  refine wpAny_bind (wpAny_holding (wpAny_call (class_get (s := ⟨hp, g, d, t + 1, os⟩) (ox := ox) (od := some od) X I hm ?_)))
  refine wpAny_pure ?_
  show wpAny _ _ (handedOut (.ref D)) _ _ _
  rw [handedOut_of (v := .ref D) rfl]
  first
    | exact wpAny_pure (wpAny_pure h)
    | exact wpAny_pure h
    | exact wpAny_pure (wpAny_bind (wpAny_pure (wpAny_pure h)))
theorem kitx_excX (hga : findIn K (.ref D) "__getattribute__" = some (some (.builtin "BaseException.__getattribute__"))) (hgt : findIn K (.ref D) "__getattr__" = some none) (hsub : subIn K (.ref D) (.type "BaseException") = some true) (hdct : hasDictIn K D = true) (ha : findIn K (.ref D) "__class__" = some (some (.builtin "object.__class__")))
    (hn : specialIn K (.builtin "object.__class__") "__get__" = some (some (.builtin "getset_descriptor.__get__"))) (htk : takesIn K (.builtin "object.__class__") = some true) (hm : mroIn K D (.type "object") = some true) :
    KitX K (.ref x) (.ref D) (fun h => InstAt h x ox D (some od)) where
  ty := fun _ _ _ I => I.type
  it := fun _ _ X _ => by
    obtain ⟨cdD, hcD, _⟩ := any_some hdct
    unfold clsIn at hcD
    split at hcD
    · rename_i c' d' cd' sl' ho
      intro A' Q' E' s' k q
      unfold isType loadHead
      exact wpAny_bind (wpAny_loadPart (k _ _ (X _ _ ho)) (wpAny_pure q))
    · cases hcD
  ne := fun h tp dd its n sl X htp => by
    obtain ⟨cdD, hcD, _⟩ := any_some hdct
    refine Bool.eq_false_iff.mpr fun q => ?_
    have e : D = tp := Value.ref.inj (beq_iff_eq.mp q)
    subst e
    unfold clsIn at hcD
    split at hcD
    · rename_i c' d' cd' sl' ho
      have z := (X _ _ ho).symm.trans htp
      cases z
    · cases hcD
  ca := fun X I k => kin_classX hga hgt hsub hdct ha hn htk hm X I k
end
end Y
namespace Y
open PySem PySem.Spec PyProof.Rows L2
/-- isinstance(e, c), isinstance(e, (c1, ..)), e a kept error -/
def rIsX (K : PySem.W.Frag) : List V → Hp → VK → Prop := fun xs H Q => ∃ (a D dd : Addr) (fs : List (Str × V)) (c : V) (u : Value) (b : Bool), xs = [.ref a, c] ∧ H a = some (xo a (.ref D) (some dd)) ∧ H dd = some (.xd fs) ∧ ExcC K D ∧ ClsV c u ∧ PySem.W.kitOne K (.ref D) u = some b ∧ Q (.bl b) H
def rIsXT (K : PySem.W.Frag) : List V → Hp → VK → Prop := fun xs H Q => ∃ (a D dd : Addr) (fs : List (Str × V)) (tp : Addr) (cs : List V) (us : List Value) (b : Bool), xs = [.ref a, .ref tp] ∧ H a = some (xo a (.ref D) (some dd)) ∧ H dd = some (.xd fs) ∧ ExcC K D ∧ H tp = some (.tup cs) ∧ Paired ClsV cs us ∧ PySem.W.kitAny K (.ref D) us = some b ∧ Q (.bl b) H
section
variable {X : Cx}
theorem instX {pins : List (Addr × Obj)} {σ : L2.St} {H : Hp} {s : Shared} {a D dd : Addr} {fs : List (Str × V)} (I : Inv X pins σ H s) (e : H a = some (xo a (.ref D) (some dd))) (ed : H dd = some (.xd fs)) : ∃ oe od, PySem.W.InstAt s.heap a oe D (some od) := by
  obtain ⟨oe, vs, ha, hz, hd⟩ := xo_at I.hok e
  have hx : ObjOk X.prog X.w H s.heap dd (.xd fs) := I.hok dd _ ed
  obtain ⟨mA, hns, hr⟩ := hx
  obtain ⟨od, ho, hl⟩ := lookIn_ns hns
  exact ⟨oe, od, ha, hz.1, by unfold PySem.W.notCls; rw [hd] <;> rfl, by rw [hz.2]; exact ho⟩
theorem call_isX : CallR X (.builtin "isinstance") (rIsX X.K) := by
  intro pins s σ H xs us Q I r h
  obtain ⟨a, D, dd, fs, c, u, b, rfl, e1, e2, C, k, e, q⟩ := h
  obtain ⟨u1, u2, rfl, r1, r2⟩ := vals2 r
  have e3 := k.eq r2
  subst e3
  obtain rfl : u1 = Value.ref a := r1
  obtain ⟨oe, od, J⟩ := instX I e1 e2
  exact PySem.W.kia_one (kitx_excX C.hg C.hk C.hs C.hd C.ha C.hn C.ht C.hm) I.kIn J e (fun z => nomatch z) fun tk => ⟨.bl b, H, I.tok tk, rfl, q⟩
theorem call_isXT : CallR X (.builtin "isinstance") (rIsXT X.K) := by
  intro pins s σ H xs us Q I r h
  obtain ⟨a, D, dd, fs, tp, cs, ws, b, rfl, e1, e2, C, hT, k, e, q⟩ := h
  obtain ⟨u1, u2, rfl, r1, r2⟩ := vals2 r
  obtain rfl : u1 = Value.ref a := r1
  cases (show u2 = Value.ref tp from r2)
  obtain ⟨oe, od, J⟩ := instX I e1 e2
  obtain ⟨_, its, rv, o, h1, h2, n, h3⟩ := (show ObjOk X.prog X.w H s.heap tp (.tup cs) from I.hok tp _ hT)
  have e3 := ClsV.all k rv
  subst e3
  obtain ⟨oc, od', dt, sl⟩ := o
  simp only at h2 h3
  subst h2 h3
  exact PySem.W.kia_tup (kitx_excX C.hg C.hk C.hs C.hd C.ha C.hn C.ht C.hm) I.kIn J h1 e (fun z => nomatch z) fun tk => ⟨.bl b, H, I.tok tk, rfl, q⟩
end
end Y

set_option Elab.async false
set_option linter.all false
set_option maxRecDepth 100000
set_option maxHeartbeats 2000000
/-! Y24: found = ask(), an error kept. -/
namespace Y
open PySem PySem.Spec PyProof.Rows L2

def tryT : T D → (D → Fl) → (Nat → List Str → List D → Fl) → T Fl
  | .ret d, k, _ => .ret (k d)
  | .ask m f, k, h => .ask m fun c => tryT (f c) k h
  | .exc C fs ds, _, h => .ret (h C fs ds)
  | .bad, _, _ => .bad
theorem tryT_all {k : D → Fl} {h : Nat → List Str → List D → Fl} {P : Fl → Nat → Prop} {Y : XP} : ∀ {t : T D} {b : Nat}, (tryT t k h).All b P Y → t.All b (fun d b' => P (k d) b') fun C fs ds b' => P (h C fs ds) b'
  | .ret d, b, q => q
  | .ask m f, b, ⟨b', e, q⟩ => ⟨b', e, fun c hc => tryT_all (q c hc)⟩
  | .exc C fs ds, b, q => q
  | .bad, b, q => q.elim
/-- what a thunk gives at a state: it is the run r of data -/
def GivesR (g : Gh) (K : PySem.W.Frag) (O : List Addr) (tl : (XK → Hp → VK → Prop)) (r : T D) (b : Nat) (H : Hp) : Prop := ∀ (E : XK) (Q : VK),
  r.All b (fun d b' => ∀ v H', PK g (pureW O) b' H H' → RV g K O H' v d → Q v H') (fun C fs es b' => ∀ d H', PK g (pureW O) b' H H' → ExAt g K H O d fs es H' → E (.ref (g.cl C)) (some d) H') → tl E H Q
/-- the slots behind a caught error: that of the error alone -/
def errEnv (n iC : Nat) (d : D) : Env' := (List.replicate n none).set iC (some (.t d))
def sAsk (n iF iC : Nat) (r : T D) : FS := fun ρ μ => tryT r (fun d => .nx (ρ.set iF (some (.t d))) μ) fun C fs ds => .nx (errEnv n iC (.err C fs ds)) μ
section
variable {X : Cx} {B : Bd} {CL : Nat → Addr} {tl : XK → Hp → VK → Prop} {f c' CS : Addr} {q a xF xC xE xP : Str} {iF iC iE : Nat} {r : T D} {cs : List Nat} {p1 p2 p3 p4 p5 p6 p7 p8 p9 pos : Pos}
/-- all errors of r are of some classes -/
def ExcIn (cs : List Nat) : T D → Prop
  | .ret _ => True
  | .ask m k => ∀ c, c < m → ExcIn cs (k c)
  | .exc C _ _ => C ∈ cs
  | .bad => True
theorem exc_in {P : D → Nat → Prop} {Y : XP} : ∀ {t : T D} {b : Nat}, t.All b P Y → ExcIn cs t → t.All b P fun C fs ds b' => C ∈ cs ∧ Y C fs ds b'
  | .ret _, b, h, _ => h
  | .ask m k, b, ⟨b', e, h⟩, x => ⟨b', e, fun c hc => exc_in (h c hc) (x c hc)⟩
  | .exc C fs ds, b, h, x => ⟨x, h⟩
  | .bad, b, h, _ => h.elim
theorem ss_ask (hs : X.stack = X.env :: X.outer) (hf : X.env.frame = some X.env.locals) (hex : X.ex = []) (hN : X.N.Nodup) (hiE : X.N[iE]? = some xE) (hlE : X.env.kindOf xE = some .local) (hc : Names X xP (.ref CS))
    (hiF : X.N[iF]? = some xF) (hlF : X.env.scope.names.lookup xF = some .local) (hiC : X.N[iC]? = some xC) (hlC : X.env.scope.names.lookup xC = some .local) (hvE : Vis X.env.scope xE) (hEC : iE ≠ iC)
    (hdE : (xE == ("__debug__" : Str)) = false) (hcdE : (xE == ("__classdict__" : Str)) = false) (hcl : B.g.cl = CL) (hcs : ∀ C ∈ cs, PySem.W.exmOne X.K (.ref (CL C)) (.ref CS) = some true)
    (act : ∀ (W : WX) (pn : List (Addr × Obj)) (xe : Value → Shared → Prop) (E : XK), Takes (X.tr pn xe) W → (∀ cls d σ' H', E cls d H' → W cls d σ' H') → PE (X.tr pn xe) (.Call (.Name a p1) [] [] p2) (fun σZ HZ Q => σZ[0]? = some (some (.ref f)) ∧ HZ c' = some (LamX.CodeO c' q) ∧ tl E HZ Q))
    (hsF : swapsWith (.Call (.Name a p1) [] [] p2) (some (.Name xF p3)) p4.line X.env = pure false) (hsC : swapsWith (.Name xE p5) (some (.Name xC p6)) p7.line X.env = pure false) :
    PS X (.Try [.Assign [.Name xF p3] (.Call (.Name a p1) [] [] p2) p4] [.ExceptHandler (some (.Name xP p8)) (some xE) [.Assign [.Name xC p6] (.Name xE p5) p7] p9] [] [] pos)
      (fun Dn σ H => ∃ ρ μ W b, Rep B X.K ρ μ W b H σ ∧ σ[0]? = some (some (.ref f)) ∧ H c' = some (LamX.CodeO c' q) ∧ GivesR B.g X.K W.o tl r b H ∧ ExcIn cs r ∧ (sAsk X.N.length iF iC r ρ μ).All b (Post B X.K Dn W H) B.Y) := by
  refine PSimp (ps_try_keep (tb := fun W D σ H => ∃ Ech : XK, (∀ cls d σ' H', Ech cls d H' → W cls d σ' H') ∧ σ[0]? = some (some (.ref f)) ∧ H c' = some (LamX.CodeO c' q) ∧ tl Ech H fun v H' => D.nx (σ.set iF (some v)) H')
    (ts := fun a cls d => tAsg (tVar iE) (gName iC)) hs hf hex hN hiE hlE hc LamX.takes0 (fun W pn xe tk _ => ?_) (fun a oe cls d pn _ _ => pss_one (ps_set hN hiC (.inl hlC) (pe_var hiE hvE hdE hcdE) hsC (.inr hlC)))) ?_
  · refine pss_one ⟨fun pins s' σ H' D I h' => ?_⟩
    obtain ⟨Ech, hW, h1, h2, h3⟩ := h'
    exact (ps_set (X := X.tr pn xe) hN hiF (.inl hlF) (act W pn xe Ech tk hW) hsF (.inr hlF)).run pins s' σ H' D I ⟨h1, h2, h3⟩
  · intro Dn σ H ⟨ρ, μ, W, b, R, h1, h2, hg, hin, hall⟩
    refine ⟨fun cls d H' => ∀ σ' : L2.St, wKeep X.K (.ref CS) iE X.N.length (fun a cls d => tAsg (tVar iE) (gName iC)) (fun _ _ _ _ => False) Dn cls d σ' H', fun cls d σ' H' h => h σ', h1, h2, hg _ _ ?_⟩
    refine (exc_in (tryT_all hall) hin).mono2 (fun d b' hp v H' pk rv => ?_) fun C fs ds b' ⟨hC, hp⟩ d H' pk ex σ' => ?_
    · obtain ⟨R2, e2⟩ := R.pure pk
      exact hp _ H' W e2 (R2.put iF (.t rv))
    · rw [hcl]
      refine ⟨true, hcs C hC, fun _ a0 ha hlen => ?_, fun z => nomatch z⟩
      have hl : iE < σ'.length := by rw [hlen]; exact get_lt hiE
      refine ⟨.ref a0, List.getElem?_set_self hl, ?_⟩
      obtain ⟨R2, e2⟩ := R.pure pk
      have sm : Same H' (upd H' a0 (xo a0 (.ref (CL C)) (some d))) := same_new ha
      have R3 := R2.same sm
      obtain ⟨vs, g1, g2, g3⟩ := ex.at_
      have rv : RV B.g X.K W.o (upd H' a0 (xo a0 (.ref (CL C)) (some d))) (.ref a0) (.err C fs ds) := .err ⟨by rw [hcl, upd_same], sm _ _ g1, g2⟩ (notO R2.st.there ha) (fun z => ex.new (R.st.NTo d z)) (g3.same sm)
      have e3 : Ext B.g.pa W H W (upd H' a0 (xo a0 (.ref (CL C)) (some d))) := e2.trans (.same sm)
      refine hp _ _ W e3 ⟨?_, fun i x hx => ?_, R3.st, R3.ext, R3.mono, R3.base, R3.pen0⟩
      · show _ = (errEnv _ _ _).length
        unfold errEnv
        simp only [List.length_set, List.length_replicate]
        exact hlen
      · unfold errEnv at hx
        rcases set_get hx with ⟨rfl, z⟩ | ⟨_, z⟩
        · cases z
          refine ⟨.ref a0, ?_, .t rv⟩
          rw [List.getElem?_set_ne hEC, List.getElem?_set_self (by rw [List.length_set, hlen]; exact get_lt hiC)]
        · rw [List.getElem?_replicate] at z
          split at z
          · exact nomatch z
          · cases z
end
end Y

set_option Elab.async false
set_option linter.all false
set_option maxRecDepth 100000
set_option maxHeartbeats 2000000
/-! Y25: what is asked of a kept error; list.index. -/
namespace Y
open PySem PySem.Spec PyProof.Rows L2

/-! ### its fields -/
def ClsX (K : PySem.W.Frag) (CL : Nat → Addr) (cs : List Nat) (f : Str) : Prop := ∀ C ∈ cs, XfC K (CL C) ∧ PySem.W.findIn K (.ref (CL C)) f = some none
def fldX (cs : List Nat) (f : Str) : D → Option D
  | .err C ks ds => if C ∈ cs then fldAt ks ds f else none
  | _ => none
def tXo2 (K : PySem.W.Frag) (f : Str) (te : TE) : TE := fun σ H Q => te σ H fun x H1 => ∃ (C a dd : Addr) (fs : List (Str × V)) (v : V), XfC K C ∧ PySem.W.findIn K (.ref C) f = some none ∧ x = .ref a ∧ H1 a = some (xo a (.ref C) (some dd)) ∧ H1 dd = some (.xd fs) ∧ fs.lookup f = some v ∧ Q v H1
section
variable {X : Cx} {B : Bd} {CL : Nat → Addr} {cs : List Nat} {f : Str} {e o : Expr} {es : List Expr} {te : TE} {fe fo : FE} {fa : FA} {p pos apos cpos : Pos}
theorem pe_xo2 (he : PE X e te) (hb : attributeBase e f X.env (eval e X.env) = eval e X.env := by rfl) : PE X (.Attribute e f pos) (tXo2 X.K f te) := by
  refine ⟨fun pins s σ H Q I h => ?_⟩
  refine attr_of hb (thn (he.run pins s σ H _ I h) fun u s1 ⟨x, H1, I1, rx, C, a, dd, fs, v, T, hno, ex, ea, ed, l, q⟩ => ?_)
  subst ex
  obtain rfl : u = Value.ref a := rx
  obtain ⟨oe, vs, ha, hz, hd⟩ := xo_at I1.hok ea
  have hx : ObjOk X.prog X.w H1 s1.heap dd (.xd fs) := I1.hok dd _ ed
  obtain ⟨mA, hns, hr⟩ := hx
  obtain ⟨od, ho, hl⟩ := lookIn_ns hns
  obtain ⟨u, hu, ru⟩ := RelO.some_of (v := v) (o := mA f) (by rw [← l]; exact hr f)
  have J : PySem.W.InstAt s1.heap a oe C (some od) := ⟨ha, hz.1, by unfold PySem.W.notCls; rw [hd] <;> rfl, by rw [hz.2]; exact ho⟩
  exact HandSPX.exc_get I1.kIn J T.ga T.gg T.exC (PySem.W.findObj_own T.hdC hno rfl (by rw [hl, hu])) (handed_of ru) ⟨v, H1, I1.tok _, ru, q⟩
theorem se_fldX (h : ClsX X.K CL cs f) (hcl : B.g.cl = CL) (he : PE X e (tM B X.K fe)) (hb : attributeBase e f X.env (eval e X.env) = eval e X.env := by rfl) : PE X (.Attribute e f pos) (tM B X.K (eOp1 (fldX cs f) fe)) :=
  PEimp (pe_xo2 he hb) fun σ H Q ⟨ρ, μ, W, n, R, w⟩ => ⟨ρ, μ, W, n, R, (T.All.bind w).mono fun p n1 h1 v1 W1 H1 k1 R1 r1 => by
    obtain ⟨d, e1, q⟩ := rO_all h1
    obtain ⟨a, ea, eg⟩ := bind_some e1
    have rd := drf_rd R1.st r1 ea
    cases rd with
    | @err a dd C fs vs ds x n1' n2' rs =>
      have e2 : (if C ∈ cs then fldAt fs ds f else none) = some d := eg
      by_cases hc : C ∈ cs
      · rw [if_pos hc] at e2
        obtain ⟨u, e3, e4⟩ := fld_at rs e2
        have hh := h C hc
        have x1 := x.at_
        rw [hcl] at x1
        exact ⟨_, a, dd, _, u, hh.1, hh.2, rfl, x1, x.fl, e3, q u W1 H1 k1 R1 (.t e4)⟩
      · rw [if_neg hc] at e2; exact (nos e2).elim
    | _ => exact (nos eg).elim⟩
/-! ### isinstance of it -/
structure IsaX (K : PySem.W.Frag) (CL : Nat → Addr) (cs : List Nat) (sup : Nat → Nat → Bool) : Prop where
  ex : ∀ C ∈ cs, ExcC K (CL C)
  cc : ∀ C ∈ cs, ∀ D ∈ cs, PySem.W.kitOne K (.ref (CL C)) (.ref (CL D)) = some (sup C D)
def isX1 (cs : List Nat) (sup : Nat → Nat → Bool) (C : Nat) : D → Option Bool
  | .cls D => if C ∈ cs ∧ D ∈ cs then some (sup C D) else none
  | _ => none
def isXs (cs : List Nat) (sup : Nat → Nat → Bool) (C : Nat) : List D → Option Bool
  | [] => some false
  | c :: r => (isX1 cs sup C c).bind fun b => (isXs cs sup C r).map fun b2 => b || b2
def isX2 (cs : List Nat) (sup : Nat → Nat → Bool) : D → D → Option Bool
  | .err C _ _, .cls D => isX1 cs sup C (.cls D)
  | .err C _ _, .tup us => if C ∈ cs then isXs cs sup C us else none
  | _, _ => none
def opIsX (cs : List Nat) (sup : Nat → Nat → Bool) : List D → Option D
  | [x, c] => (isX2 cs sup x c).map .bl
  | _ => none
theorem isX1_ok {g : Gh} {K : PySem.W.Frag} {O : List Addr} {H : Hp} {sup : Nat → Nat → Bool} (I : IsaX K CL cs sup) (hcl : g.cl = CL) {c : V} {d : D} {C : Nat} {b : Bool} (r : RV g K O H c d) (e : isX1 cs sup C d = some b) : C ∈ cs ∧ ∃ u, ClsV c u ∧ PySem.W.kitOne K (.ref (CL C)) u = some b := by
  cases r with
  | cls n =>
    rw [hcl]
    have e : (if C ∈ cs ∧ n ∈ cs then some (sup C n) else none) = some b := e
    by_cases h : C ∈ cs ∧ n ∈ cs
    · rw [if_pos h] at e; cases e; exact ⟨h.1, _, .own _, I.cc C h.1 n h.2⟩
    · rw [if_neg h] at e; cases e
  | _ => exact (nos e).elim
theorem isXs_ok {g : Gh} {K : PySem.W.Frag} {O : List Addr} {H : Hp} {sup : Nat → Nat → Bool} (I : IsaX K CL cs sup) (hcl : g.cl = CL) {C : Nat} : ∀ (ds : List D) {vs : List V} {b : Bool}, RVs g K O H vs ds → isXs cs sup C ds = some b → ∃ us, Paired ClsV vs us ∧ PySem.W.kitAny K (.ref (CL C)) us = some b
  | [], vs, b, r, e => by
    cases r
    have e : some false = some b := e
    cases e; exact ⟨[], .nil, rfl⟩
  | d :: ds, vs, b, r, e => by
    cases r with
    | cons r1 r2 =>
      have e : ((isX1 cs sup C d).bind fun b => (isXs cs sup C ds).map fun b2 => b || b2) = some b := e
      obtain ⟨b1, e1, e⟩ := bind_some e
      cases e2 : isXs cs sup C ds with
      | none => rw [e2] at e; cases e
      | some b2 =>
        rw [e2] at e
        have e : some (b1 || b2) = some b := e
        obtain ⟨_, u, k1, k2⟩ := isX1_ok I hcl r1 e1
        obtain ⟨us, k3, k4⟩ := isXs_ok I hcl ds r2 e2
        cases e
        exact ⟨u :: us, .cons k1 k3, kitAny_cons k2 (fun z => by rw [z, Bool.false_or]; exact k4) fun z => by rw [z, Bool.true_or]⟩
/-- isinstance(e, T), T a tuple of classes of the written part -/
def rIsXK (K : PySem.W.Frag) : List V → Hp → VK → Prop := fun xs H Q => ∃ (a D dd : Addr) (fs : List (Str × V)) (tp : Addr) (od : Option Addr) (us : List Value) (n : Nat) (sl : Array (Option Value)) (b : Bool), xs = [.ref a, .ref tp] ∧ H a = some (xo a (.ref D) (some dd)) ∧ H dd = some (.xd fs) ∧ ExcC K D ∧ K.lookup tp = some ⟨.type "tuple", od, .seq us.toArray n, sl⟩ ∧ PySem.W.kitAny K (.ref D) us = some b ∧ Q (.bl b) H
theorem call_isXK : CallR X (.builtin "isinstance") (rIsXK X.K) := by
  intro pins s σ H xs us Q I r h
  obtain ⟨a, D, dd, fs, tp, od', ws, n, sl, b, rfl, e1, e2, C, hk, e, q⟩ := h
  obtain ⟨u1, u2, rfl, r1, r2⟩ := vals2 r
  obtain rfl : u1 = Value.ref a := r1
  cases (show u2 = Value.ref tp from r2)
  obtain ⟨oe, od, J⟩ := instX I e1 e2
  exact PySem.W.kia_tup (kitx_excX C.hg C.hk C.hs C.hd C.ha C.hn C.ht C.hm) I.kIn J (I.kIn _ _ hk) e (fun z => nomatch z) fun tk => ⟨.bl b, H, I.tok tk, rfl, q⟩
theorem se_isX {sup : Nat → Nat → Bool} (I : IsaX X.K CL cs sup) (hcl : B.g.cl = CL) (hm : X.mg "isinstance" = none) (ha : PA X (e :: es) (tL B X.K fa)) (hb : bootBuiltins "isinstance" = some (.builtin "isinstance") := by first | exact bt_isinstance | decide +kernel) (hg : Gl X "isinstance" := by rfl)
    (he : starEach (e :: es) X.env = (false, eval e X.env) :: starEach es X.env := by rfl) (hpl : (backTo pos (starEach es X.env)).any (·.1) = false := by rfl) : PE X (.Call (.Name "isinstance" p) (e :: es) [] pos) (tM B X.K (eCallB (opIsX cs sup) fa)) :=
  PEimp (pe_callB ((call_isX (X := X)).or (call_isXT.or call_isXK)) hg hm hb ha (by decide) (by decide) he hpl) fun σ H Q ⟨ρ, μ, W, n, R, h⟩ => ⟨ρ, μ, W, n, R, (T.All.bind h).mono fun p n1 h1 vs W1 H1 k1 R1 r1 => by
    obtain ⟨d, e, q⟩ := rO_all h1
    obtain ⟨ds, e1, e2⟩ := bind_some e
    cases drfs_rd R1.st r1 e1 with
    | nil => exact (nos e2).elim
    | @cons x _ dx _ rx r2 =>
    cases r2 with
    | nil => exact (nos e2).elim
    | @cons c _ dc _ rc r3 =>
    cases r3 with
    | cons _ _ => exact (nos e2).elim
    | nil =>
    have e2 : (isX2 cs sup dx dc).map D.bl = some d := e2
    cases e3 : isX2 cs sup dx dc with
    | none => rw [e3] at e2; cases e2
    | some b =>
      rw [e3] at e2; cases e2
      have fin := q (.bl b) W1 H1 k1 R1 (.t (.bl b))
      cases rx with
      | @err a dd C fs vs ds x n1' n2' rs =>
        have x1 := x.at_
        rw [hcl] at x1
        cases rc with
        | cls m =>
          obtain ⟨hc, u, k1, k2⟩ := isX1_ok I hcl (RV.cls m (g := B.g) (K := X.K) (O := W1.o) (H := H1)) (show isX1 cs sup C (.cls m) = some b from e3)
          exact .inl ⟨a, _, dd, _, _, u, b, rfl, x1, x.fl, I.ex C hc, k1, k2, fin⟩
        | @tup tp us' dus ft rs' =>
          have e3 : (if C ∈ cs then isXs cs sup C dus else none) = some b := e3
          by_cases hc : C ∈ cs
          · rw [if_pos hc] at e3
            obtain ⟨us, k3, k4⟩ := isXs_ok I hcl _ rs' e3
            rcases ft with ⟨ft, _⟩ | ft
            · exact .inr (.inl ⟨a, _, dd, _, tp, _, us, b, rfl, x1, x.fl, I.ex C hc, ft, k3, k4, fin⟩)
            · obtain ⟨o, its, n', w1, w2, w3, _, rv⟩ := ft
              have eu := ClsV.all k3 rv
              obtain ⟨oc, od, dt, sl⟩ := o
              simp only at w2 w3
              subst w2 w3
              have ei : its = us.toArray := by rw [← eu]
              subst ei
              exact .inr (.inr ⟨a, _, dd, _, tp, od, us, n', sl, b, rfl, x1, x.fl, I.ex C hc, w1, k4, fin⟩)
          · rw [if_neg hc] at e3; cases e3
        | _ => exact (nos e3).elim
      | _ => exact (nos (show (none : Option Bool) = some b by cases rc <;> exact e3)).elim⟩
/-! ### list.index of flat data -/
def idxD (a : D) : List D → Option Nat
  | [] => none
  | y :: ys => if eqFl y a then some 0 else (idxD a ys).map (· + 1)
def idxOf (ds : List D) (a : D) : Option D := if flatD a && ds.all flatD then (idxD a ds).map fun n => .int (n : Int) else none
/-- l.index(a), l a list that stays -/
def eIdx (fo f : FE) : FE := fun ρ μ => (fo ρ μ).bind fun o => (T.ofO ((tOf o.1).bind lstOf)).bind fun ds => (f ρ o.2).bind fun p => rO ((drf p.2 p.1).bind fun a => idxOf ds a) p.2
theorem idx_ok {g : Gh} {K : PySem.W.Frag} {O : List Addr} {H : Hp} {x : V} {a : D} (ra : RD g K O H x a) (fa : flatD a = true) : ∀ (ds : List D) {vs : List V} {j : Nat}, RVs g K O H vs ds → ds.all flatD = true → idxD a ds = some j → ∃ z, vs[j]? = some z ∧ eqV z x = true ∧ ∀ (m : Nat) (z' : V), m < j → vs[m]? = some z' → eqV z' x = false
  | [], _, _, _, _, e => by cases e
  | d :: ds, vs, j, r, f, e => by
    cases r with
    | @cons v vs _ _ r1 r2 =>
      rw [List.all_cons, Bool.and_eq_true] at f
      have ev := eqFl_ok r1.rd ra f.1 fa
      have e : (if eqFl d a then some 0 else (idxD a ds).map (· + 1)) = some j := e
      by_cases hq : eqFl d a = true
      · rw [if_pos hq] at e; cases e
        exact ⟨v, rfl, ev.trans hq, fun m z' hm => by omega⟩
      · rw [if_neg hq] at e
        cases e2 : idxD a ds with
        | none => rw [e2] at e; cases e
        | some j' =>
          rw [e2] at e; cases e
          obtain ⟨z, h1, h2, h3⟩ := idx_ok ra fa ds r2 f.2 e2
          refine ⟨z, h1, h2, fun m z' hm hz => ?_⟩
          cases m with
          | zero =>
            simp at hz; subst hz
            rw [ev]; exact Bool.not_eq_true _ ▸ hq
          | succ m => exact h3 m z' (Nat.lt_of_succ_lt_succ (show m + 1 < j' + 1 from hm)) (by simpa using hz)
theorem se_index {fo f : FE} (ho : PE X o (tM B X.K fo)) (ha : PE X e (tM B X.K f))
    (hs0 : starEach [e] X.env = (false, eval e X.env) :: starEach [] X.env := by rfl)
    (hbase : attributeBase o "index" X.env (eval o X.env) = eval o X.env := by rfl)
    (hfew : ((backTo cpos (starEach [e] X.env)).all (fun x => !x.1) && (backToKw cpos (keywordEach [] X.env)).all (fun x => x.1.isSome) && decide (([e] : List Expr).length + ([] : List Keyword).length + (if ([] : List Keyword).isEmpty then 0 else 1) < 30)) = true := by rfl)
    (hline : (apos.endLine == cpos.line) = true := by rfl) (hplain : (backTo cpos (starEach [] X.env)).any (·.1) = false := by rfl) :
    PE X (.Call (.Attribute o "index" apos) [e] [] cpos) (tM B X.K (eIdx fo f)) :=
  PEimp (pe_bm PySem.F.plainAttrs_list PySem.F.slot_list_index PySem.F.type_list_index mt_index ho (pa_cons ha pa_nil hs0) hbase hfew hline hs0 hplain) fun σ H Q ⟨ρ, μ, W, b, R, w⟩ => ⟨ρ, μ, W, b, R, (T.All.bind w).mono fun p1 b1 w1 v1 W1 H1 k1 R1 r1 => by
    obtain ⟨ds, ed, w1⟩ := T.All.ofO (T.All.bind w1)
    obtain ⟨d0, e1, e2⟩ := bind_some ed
    have rl := tof r1 e1
    cases rl <;> try exact (nos e2).elim
    rename_i a vs ds' fl rs
    cases e2
    refine ⟨.inl ⟨rfl, vs, fl.sq⟩, ρ, _, W1, b1, R1, (T.All.bind w1).mono fun p2 b2 w2 v2 W2 H2 k2 R2 r2 => ?_⟩
    obtain ⟨d, e3, q⟩ := rO_all w2
    obtain ⟨da, e4, e5⟩ := bind_some e3
    have ra := drf_rd R2.st r2 e4
    have e5 : (if (flatD da && ds.all flatD) = true then (idxD da ds).map (fun n => D.int (n : Int)) else none) = some d := e5
    by_cases hc : (flatD da && ds.all flatD) = true
    · rw [if_pos hc] at e5
      rw [Bool.and_eq_true] at hc
      cases e6 : idxD da ds with
      | none => rw [e6] at e5; cases e5
      | some j =>
        rw [e6] at e5; cases e5
        have rs2 := rs.ext R1.st k2
        have fl2 : FL W2.o H2 a vs := fl.keep (R1.st.kO k2) k2.hs
        obtain ⟨z, h1, h2, h3⟩ := idx_ok ra hc.1 ds rs2 hc.2 e6
        exact ⟨a, vs, v2, j, z, rfl, rfl, fl2.sq, (flat_iff ra).trans hc.1, (allFlat rs2).trans hc.2, h1, h2, h3, q _ W2 H2 (k1.trans k2) R2 (.t (.int _))⟩
    · rw [if_neg hc] at e5; exact (nos e5).elim⟩
end
end Y

set_option Elab.async false
set_option linter.all false
set_option maxRecDepth 100000
set_option maxHeartbeats 2000000
/-! Y26: a def that tries a thunk and tells the error: what it makes of the thunk's run. -/
namespace Y
open PySem PySem.Spec PyProof.Rows L2

/-- the slots behind found, caught = None, None -/
def env2 (n : Nat) : Env' := ((List.replicate n none).set 1 (some (.t .non))).set 2 (some (.t .non))
/-- n slots: the thunk, found, caught, ..; what follows the try is restF -/
def caughtR (n : Nat) (restF : FS) (r : T D) : T D := (sSeq (sAsk n 1 2 r) restF (env2 n) []).bind finP
/-- what the def makes of a thunk -/
def TTc (K : PySem.W.Frag) (CL : Nat → Addr) (cs : List Nat) (n : Nat) (restF : FS) : (XK → Hp → VK → Prop) → Hp → VK → Prop := fun tl H Q => ∃ (g : Gh) (O : List Addr) (b : Nat) (r : T D), g.cl = CL ∧ (∀ a ∈ O, H a ≠ none) ∧ (∀ a ∈ O, ∀ ps, H a ≠ some (.tbl ps)) ∧ PenOk g.pa (pureW O) H b ∧ LamX.Tabs g.tb H ∧
  (∀ W' HZ, Ext g.pa (pureW O) H W' HZ → StOk g K W' [] b HZ → GivesR g K W'.o tl r b HZ) ∧ ExcIn cs r ∧
  (caughtR n restF r).All b (fun d b' => ∀ v H', PK g (pureW O) b' H H' → RV g K O H' v d → Q v H') fun _ _ _ _ => False
section
variable {X : Cx}
theorem caught_gives {Ng : List Str} {x a q xF xC xE xP : Str} {sg : Scope} {g CS : Addr} {cdg : Value} {CL : Nat → Addr} {cs : List Nat} {restF : FS} {rest : List Stmt} {iE : Nat} {j1 j2 : Nat} {px py pt pt2 pn1 pn2 pos0 p1 p2 p3 p4 p5 p6 p7 p8 p9 pos : Pos} {kt k2 : Nat}
    (hN : Ng.Nodup) (hF : Ng[1]? = some xF) (hC : Ng[2]? = some xC) (hE : Ng[iE]? = some xE) (hlF : sg.names.lookup xF = some .local) (hlC : sg.names.lookup xC = some .local) (hlE : sg.names.lookup xE = some .local) (hiE : iE ≠ 2) (hgP : sg.names.lookup xP = some .globalImplicit) (hmP : X.mg xP = some (.ref CS)) (hdP : (xP == ("__debug__" : Str)) = false)
    (hdE : (xE == ("__debug__" : Str)) = false) (hcdE : (xE == ("__classdict__" : Str)) = false) (hcs : ∀ C ∈ cs, PySem.W.exmOne X.K (.ref (CL C)) (.ref CS) = some true) (h0 : ∀ f : Addr, (L2.start Ng [V.ref f])[0]? = some (some (V.ref f)))
    (hsF : ∀ (s : Shared), swapsWith (.Call (.Name a p1) [] [] p2) (some (.Name xF p3)) p4.line (envOfC x sg s.heap.objs.size g cdg) = pure false) (hsC : ∀ (s : Shared), swapsWith (.Name xE p5) (some (.Name xC p6)) p7.line (envOfC x sg s.heap.objs.size g cdg) = pure false)
    (hw : ∀ (s : Shared), swappedStores [.Tuple [.Name xF px, .Name xC py] kt pt] (.Tuple [.Constant .none j1 pn1, .Constant .none j2 pn2] k2 pt2) (envOfC x sg s.heap.objs.size g cdg) = pure none)
    (ha1 : ∀ (s : Shared), (assignEach [.Tuple [.Name xF px, .Name xC py] kt pt] (envOfC x sg s.heap.objs.size g cdg)).map (·.2) = [assign (.Tuple [.Name xF px, .Name xC py] kt pt) (envOfC x sg s.heap.objs.size g cdg)])
    (hs : ∀ (s : Shared), swapsWithSole [.Tuple [.Name xF px, .Name xC py] kt pt] (.Tuple [.Constant .none j1 pn1, .Constant .none j2 pn2] k2 pt2) pos0.line (envOfC x sg s.heap.objs.size g cdg) = pure false)
    (hrest : ∀ (s : Shared) (H : Hp) (B : Bd), B.g.cl = CL → PSs (cxOf C8.CX0 X.prog X.w X.K X.mg X.base Ng x sg g cdg X.A X.stack s H C8.E0).nox rest (tS B X.K restF)) :
    LamX.GivesTo X Ng x sg g cdg (.Assign [.Tuple [.Name xF px, .Name xC py] kt pt] (.Tuple [.Constant .none j1 pn1, .Constant .none j2 pn2] k2 pt2) pos0 ::
      .Try [.Assign [.Name xF p3] (.Call (.Name a p1) [] [] p2) p4] [.ExceptHandler (some (.Name xP p8)) (some xE) [.Assign [.Name xC p6] (.Name xE p5) p7] p9] [] [] pos :: rest) a q (TTc X.K CL cs Ng.length restF) := by
  intro f c' s H Q tl act hc h
  obtain ⟨g0, O, b, r, hcl, th, nt, pen, tb, hg, hin, hall⟩ := h
  have hgl : Gl (cxOf C8.CX0 X.prog X.w X.K X.mg X.base Ng x sg g cdg X.A X.stack s H C8.E0).nox xP := hgP
  have lN : 2 < Ng.length := get_lt hC
  have hst : (start Ng [V.ref f]).length = Ng.length := by
    unfold L2.start
    simp only [List.length_append, List.length_map, List.length_replicate, List.length_singleton]; omega
  refine ⟨_, pss_cons (ps_asg (X := (cxOf C8.CX0 X.prog X.w X.K X.mg X.base Ng x sg g cdg X.A X.stack s H C8.E0).nox) (pe_tup (pa_cons pe_non (pa_cons pe_non pa_nil rfl) rfl)) (pg_tup (n := 2) rfl (pgs_cons (pg_name hN hF (.inl hlF) (.inr hlF)) (pgs_cons (pg_name hN hC (.inl hlC) (.inr hlC)) pgs_nil)) rfl rfl) (hs s) (hw s) (ha1 s))
    (pss_cons (ss_ask (X := (cxOf C8.CX0 X.prog X.w X.K X.mg X.base Ng x sg g cdg X.A X.stack s H C8.E0).nox) (B := ⟨g0, H, pureW O, fun _ _ _ _ => False⟩) (f := f) (c' := c') (q := q) (tl := tl) (r := r) (cs := cs) (CL := CL) rfl rfl rfl hN hE hlE ⟨hgl, hdP, .inl hmP⟩ hF hlF hC hlC (.inl hlE) hiE hdE hcdE hcl hcs
      (fun W pn xe E tk hW => act W pn xe E p1 p2 tk hW) (hsF s) (hsC s)) (hrest s H ⟨g0, H, pureW O, fun _ _ _ _ => False⟩ hcl)), ?_⟩
  have st0 : StOk g0 X.K (pureW O) [] b H := st_pure th nt pen tb
  refine ⟨(by show 2 ≤ sizeLine; decide), fun t ht => ⟨t, _, rfl, SqT.of upd_same, rfl, _, _, rfl, _, _, rfl, rfl, ?_⟩⟩
  have sm : Same H (upd H t (.tup [.non, .non])) := same_new ht
  have Rp : Rep ⟨g0, H, pureW O, fun _ _ _ _ => False⟩ X.K (env2 Ng.length) [] (pureW O) b H (((start Ng [V.ref f]).set 1 (some .non)).set 2 (some .non)) := by
    refine ⟨?_, fun i y hy => ?_, st0, .refl, fun _ h => h, nt_of th nt, fun a e => ⟨(pen a e).1, fun z => nomatch z⟩⟩
    · unfold env2
      simp only [List.length_set, List.length_replicate]; exact hst
    · unfold env2 at hy
      rcases set_get hy with ⟨e1, e2⟩ | ⟨n2, hy⟩
      · subst e1; cases e2
        exact ⟨.non, List.getElem?_set_self (by rw [List.length_set, hst]; exact lN), .t .non⟩
      · rcases set_get hy with ⟨e1, e2⟩ | ⟨n1, hy⟩
        · subst e1; cases e2
          exact ⟨.non, by rw [List.getElem?_set_ne n2, List.getElem?_set_self (by rw [hst]; omega)], .t .non⟩
        · rw [List.getElem?_replicate] at hy
          split at hy
          · exact nomatch hy
          · cases hy
  unfold caughtR sSeq at hall
  have hall := T.All.bind (T.All.bind hall)
  refine ⟨env2 Ng.length, [], pureW O, b, Rp.same sm, ?_, sm _ _ hc, hg (pureW O) _ (.same sm) (st0.same sm), hin, hall.mono fun r1 b1 w1 => ?_⟩
  · rw [List.getElem?_set_ne (by decide), List.getElem?_set_ne (by decide)]; exact h0 f
  · have fin : ∀ {fl : Fl} {b2 : Nat}, (finP fl).All b2 (fun d b' => ∀ v H', PK g0 (pureW O) b' H H' → RV g0 X.K O H' v d → Q v H') (fun _ _ _ _ => False) → Post ⟨g0, H, pureW O, fun _ _ _ _ => False⟩ X.K { nx := fun _ H' => Q .non H', rt := Q } (pureW O) H fl b2 := fun {fl b2} w2 => by
      have pk : ∀ {W' : Ow} {μ' : Mu} {H' : Hp}, Ext g0.pa (pureW O) H W' H' → StOk g0 X.K W' μ' b2 H' → (∀ a ∈ O, a ∈ W'.o) → PK g0 (pureW O) b2 H H' := fun e s m =>
        ⟨e.kp, pen_of s.pen m fun a z => (pen a z).1, e.al, s.tabs⟩
      cases fl with
      | nx ρ μ => exact fun σ' H' W' e R => w2 .non H' (pk e R.st R.mono) .non
      | rt y μ =>
        intro v W' H' e s m rx
        obtain ⟨d, ed, w2⟩ := T.All.ofO w2
        refine w2 v H' (pk e s m) (frz_rv s m (fun a ha z => ?_) 6 y rx ed)
        obtain ⟨i, hi⟩ := mem_get ha
        rcases e.hc i a hi with q | ⟨_, q⟩
        · exact nomatch (show ([] : List (Option Addr))[i]? = some (some a) from q)
        · exact q (nt_of th nt a z)
      | bk ρ => exact w2.elim
      | ct ρ => exact w2.elim
    cases r1 with
    | nx ρ1 μ1 => exact fun σ1 H1 W1 e1 R1 => ⟨ρ1, μ1, W1, b1, R1, T.All.mono w1 fun fl b2 w2 => (fin w2).ext ((Ext.same sm).trans e1)⟩
    | rt y μ1 => exact (fin w1).ext (.same sm)
    | bk ρ1 μ1 => exact (show False from w1).elim
    | ct ρ1 μ1 => exact (show False from w1).elim
end
end Y

set_option Elab.async false
set_option linter.all false
set_option maxRecDepth 100000
set_option maxHeartbeats 2000000
/-! Y27: C(..) of an own error, as a value. -/
namespace Y
open PySem PySem.Spec PyProof.Rows L2

/-- C(..), an error that is kept -/
def tErr (C : Addr) (n : Nat) (fl : List V → List (Str × V)) (ta : TA) : TE := fun σ H Q => ta σ H fun vs H1 => vs.length = n ∧ ∀ a d, H1 a = none → H1 d = none → d ≠ a → Q (.ref a) (upd (upd H1 d (.xd (fl vs))) a (xo a (.ref C) (some d)))
theorem pe_sx {X : Cx} {e : Expr} {es : List Expr} {ta : TA} {x : Str} {p pos : Pos} {C fI : Addr} {k n : Nat} {fl : List V → List (Str × V)} (T : OexC X.K C) (iC : PySem.W.findIn X.K (.ref C) "__init__" = some (some (.ref fI))) (tI : PySem.W.typeIn X.K (.ref fI) = some (.type "function"))
    (G : SxRun X.prog X.w X.K X.mg C fI n fl) (hn2 : n ≤ 1000) (hr : Rm (k + 1) X.A) (hm : X.mg x = some (.ref C)) (ha : PA X (e :: es) ta) (hg : Gl X x := by rfl)
    (hdb : (x == ("__debug__" : Str)) = false := by decide) (he : starEach (e :: es) X.env = (false, eval e X.env) :: starEach es X.env := by rfl) (hpl : (backTo pos (starEach es X.env)).any (·.1) = false := by rfl) :
    PE X (.Call (.Name x p) (e :: es) [] pos) (tErr C n fl ta) := by
  refine ⟨fun pins s σ H Q I h => ?_⟩
  obtain ⟨nm, q, N, bs, bm, sn, sub, ab, col, dd, k0, k1, k2, k3, k5, hC, hbm⟩ := T.cls
  refine wpAny_Call_Name_kw (ld_glob I hg hm ?_ hdb)
  refine PySem.W.callWith_K (h₀ := X.base) I.ok.mod.kin T.kC (thn (ha.run pos pins s σ H _ I h) fun us s1 ⟨vs, H1, I1, r1, hz, q1⟩ => ⟨I1.kIn, ?_⟩) he hpl
  show wpAny _ _ (call (.ref C) us) _ _ _
  obtain ⟨hp, g, dr, tk, os⟩ := s1
  have hsz : hp.objs.size ≤ hp.objs.size + 1 := Nat.le_succ _
  have hn : H1 (hp.objs.size + 1) = none := I1.hok.fresh hsz
  have kk : ∀ b o, hp.get? b = some o → ((hp.push (PySem.W.kdv_tup us)).push (PySem.HandSPX.excO C hp.objs.size)).get? b = some o := fun b o e => Heap.get?_push_of_some _ (Heap.get?_push_of_some _ e)
  have hget : ((hp.push (PySem.W.kdv_tup us)).push (PySem.HandSPX.excO C hp.objs.size)).get? (hp.objs.size + 1) = some (PySem.HandSPX.excO C hp.objs.size) := by heap_get
  have I2 : Inv X pins σ (upd H1 (hp.objs.size + 1) (exo (hp.objs.size + 1) C none)) ⟨(hp.push (PySem.W.kdv_tup us)).push (PySem.HandSPX.excO C hp.objs.size), g, dr, tk, os⟩ :=
    I1.laid (t' := tk) (a := hp.objs.size + 1) (o := exo (hp.objs.size + 1) C none) (h' := (hp.push (PySem.W.kdv_tup us)).push (PySem.HandSPX.excO C hp.objs.size)) kk hsz (exo_ok hget)
  have hul : us.length = n := r1.length.symm.trans hz
  have hus : us.length ≤ sizeLine := by
    rw [hul, sizeLine_eq]
    omega
  have e0 := I2.env0
  obtain ⟨mb, nB, isB⟩ := e0.mod.blt
  have kb : ∀ {b : Addr} {m : Str → Option Value}, X.base.Ns b m → ((hp.push (PySem.W.kdv_tup us)).push (PySem.HandSPX.excO C hp.objs.size)).Ns b m := fun nn => by
    obtain ⟨o, es, ep, z1, z2⟩ := nn
    exact ⟨o, es, ep, (e0.bs _ _ z1).1, z2⟩
  have hKe : X.K.lookup (hp.objs.size + 1) = none := by
    cases z : X.K.lookup (hp.objs.size + 1) with
    | none => rfl
    | some o =>
      have := Heap.lt_size (I1.kIn _ _ z)
      exact (Nat.lt_irrefl _ (Nat.lt_of_lt_of_le this hsz)).elim
  refine wpAny_call (PySem.HandSPX.call_own F.excBase_ValueError (fun Y => PySem.HandSPX.refsVE_contains Y bm hbm) (I1.kIn _ _ hC) (PySem.W.looks_findIn I1.kIn iC) (fun self => PySem.W.bind_fn I1.kIn self tI) hus
    (G _ _ _ _ _ _ (hp.objs.size + 1) hp.objs.size us vs _ mb I2.kIn (kb e0.mod.glob) (kb nB) ((isB _ (by decide +kernel)).trans (by decide +kernel)) (e0.mod.nolimit.keeps fun b o z => (e0.bs b o z).1) (hr.make C us []).room.depth hget hKe hul r1 fun h' t' t1 dx mA kq dn dne he' hns rel => ?_))
  have dn2 : hp.objs.size + 1 + 1 ≤ dx := by rw [Heap.size_push, Heap.size_push] at dn; exact dn
  have dn1 : hp.objs.size ≤ dx := Nat.le_trans (Nat.le_add_right _ 2) dn2
  have hd1 : H1 dx = none := I1.hok.fresh dn1
  have nha : ∀ {b : Addr} {o : Obj}, hp.get? b = some o → b ≠ hp.objs.size + 1 := fun {b o} z => Nat.ne_of_lt (Nat.lt_of_lt_of_le (Heap.lt_size z) hsz)
  have nhd : ∀ {b : Addr} {o : Obj}, hp.get? b = some o → b ≠ dx := fun {b o} z => Nat.ne_of_lt (Nat.lt_of_lt_of_le (Heap.lt_size z) dn1)
  have n1 : ∀ {b : Addr} {u : HO}, H1 b = some u → b ≠ hp.objs.size + 1 := fun z => ne_of_none z hn
  have n2 : ∀ {b : Addr} {u : HO}, H1 b = some u → b ≠ dx := fun z => ne_of_none z hd1
  have un : Un (frs X.stack) [] H1 (upd (upd H1 dx (.xd (fl vs))) (hp.objs.size + 1) (xo (hp.objs.size + 1) (.ref C) (some dx))) hp h' := {
    keep := fun b o q n _ _ => kq b o (nha q) (kk b o q)
    slot := fun b o q n _ _ => ⟨o.slots, kq b o (nha q) (kk b o q)⟩
    free := fun b o q n _ => by rw [upd_ne (nha q), upd_ne (nhd q)]; exact n
    there := fun b o q _ => ⟨o, kq b o (nha q) (kk b o q)⟩
    tups := fun b xs q => by rw [upd_ne (n1 q), upd_ne (n2 q)]; exact q
    frzs := fun b o v q => by rw [upd_ne (n1 q), upd_ne (n2 q)]; exact q
    tbls := fun b ps q => ⟨#[], by rw [upd_ne (n1 q), upd_ne (n2 q), q]; simp⟩ }
  have hok : HOk X.prog X.w (upd (upd H1 dx (.xd (fl vs))) (hp.objs.size + 1) (xo (hp.objs.size + 1) (.ref C) (some dx))) h' := fun b o q => by
    by_cases hb : b = hp.objs.size + 1
    · subst hb
      rw [upd_same] at q
      cases q
      exact xo_ok he' ⟨rfl, rfl⟩ rfl
    · rw [upd_ne hb] at q
      by_cases hd : b = dx
      · subst hd
        rw [upd_same] at q
        cases q
        exact ⟨mA, hns, rel⟩
      · rw [upd_ne hd] at q
        exact (I1.hok b o q).stay (fun c v hc z => kq c v (nha z) (kk c v z)) (fun c hc => by rw [upd_ne (n1 hc), upd_ne (n2 hc)]; exact hc) (fun c xs hc => by rw [upd_ne (n1 hc), upd_ne (n2 hc)]; exact hc)
  have J : Inv X pins σ (upd (upd H1 dx (.xd (fl vs))) (hp.objs.size + 1) (xo (hp.objs.size + 1) (.ref C) (some dx))) ⟨h', g, dr, t', os⟩ := I1.call' (ch := []) rfl un hok I1.bare (fun b z => nomatch z)
  exact ⟨rfl, ⟨.ref (hp.objs.size + 1), _, J, rfl, q1 _ dx hn hd1 dne⟩⟩

def eErr (C : Nat) (ff : List Str) (fa : FA) : FE := fun ρ μ => (fa ρ μ).bind fun p => (T.ofO (tsOf p.1)).bind fun ds => if ds.length = ff.length then .ret (.t (.err C ff ds), p.2) else .bad
section
variable {X : Cx} {B : Bd} {CL : Nat → Addr} {k C : Nat} {ff : List Str} {x : Str} {e : Expr} {es : List Expr} {fa : FA} {p pos rpos : Pos}
theorem se_err (h : Er X.prog X.w X.K X.mg CL x C ff) (hr : Rm (k + 1) X.A) (hcl : B.g.cl = CL) (ha : PA X (e :: es) (tL B X.K fa)) (hg : Gl X x := by rfl)
    (hdb : (x == ("__debug__" : Str)) = false := by decide) (he : starEach (e :: es) X.env = (false, eval e X.env) :: starEach es X.env := by rfl) (hpl : (backTo pos (starEach es X.env)).any (·.1) = false := by rfl) :
    PE X (.Call (.Name x p) (e :: es) [] pos) (tM B X.K (eErr C ff fa)) := by
  obtain ⟨fI, fl, h1, h2, h3, h4, h5, h6, h7⟩ := h.h
  refine PEimp (pe_sx h2 h3 h4 h5 h6 hr h1 ha hg hdb he hpl) fun σ H Q ⟨ρ, μ, W, b, R, w⟩ => ⟨ρ, μ, W, b, R, (T.All.bind w).mono fun q n1 w1 vs W1 H1 k1 R1 r1 => ?_⟩
  obtain ⟨ds, ed, w1⟩ := T.All.ofO (T.All.bind w1)
  have r1 := ts_rv r1 ed
  by_cases hl : ds.length = ff.length
  · rw [if_pos hl] at w1
    have hvl : vs.length = ff.length := r1.length.trans hl
    refine ⟨hvl, fun a d hna hd hne => ?_⟩
    have s1 : Same H1 (upd H1 d (.xd (fl vs))) := same_new hd
    have ha2 : upd H1 d (.xd (fl vs)) a = none := by rw [upd_ne (Ne.symm hne)]; exact hna
    have sm : Same H1 (upd (upd H1 d (.xd (fl vs))) a (xo a (.ref (CL C)) (some d))) := fun y u z => same_new ha2 y u (s1 y u z)
    have hdat : upd (upd H1 d (.xd (fl vs))) a (xo a (.ref (CL C)) (some d)) d = some (.xd (ff.zip vs)) := by rw [upd_ne hne, upd_same, h7 vs hvl]
    exact w1 _ W1 _ (k1.trans (.same sm)) (R1.same sm) (.t (.err ⟨by rw [hcl, upd_same], hdat, hvl.symm⟩ (notO R1.st.there hna) (notO R1.st.there hd) (r1.same sm)))
  · rw [if_neg hl] at w1; exact w1.elim
end
end Y

set_option Elab.async false
set_option linter.all false
set_option maxRecDepth 100000
set_option maxHeartbeats 2000000
/-! Y28: o.f += an int, o a thing of the store. -/
namespace Y
open PySem PySem.Spec PyProof.Rows L2
def intVd : Vd → Option Int
  | .t (.int i) => some i
  | _ => none
def sAddF (cs : List Nat) (f : Str) (fo fe : FE) : FS := fun ρ μ => (fo ρ μ).bind fun o => (T.ofO (refOf o.1)).bind fun n => (T.ofO (objAt cs o.2 n)).bind fun c => (T.ofO ((fldAtV c.2.1 c.2.2 f).bind intVd)).bind fun i =>
  (fe ρ o.2).bind fun p => (T.ofO ((drf p.2 p.1).bind intOf)).bind fun j => (T.ofO (objAt cs p.2 n)).bind fun c2 =>
    if c2.2.1.length < 900 then .ret (.nx ρ (p.2.set n (.obj c2.1 (putFd c2.2.1 c2.2.2 f (.t (.int (i + j)))).1 (putFd c2.2.1 c2.2.2 f (.t (.int (i + j)))).2))) else .bad
section
variable {X : Cx} {B : Bd} {CL : Nat → Addr} {e o : Expr} {fe fo : FE} {f : Str} {pos p2 : Pos} {cs : List Nat}
theorem ss_addF (cs : List Nat) (h : ClsT X.K CL cs f) (hcl : B.g.cl = CL) (ho : PE X o (tM B X.K fo)) (he : PE X e (tM B X.K fe)) (hone : ∀ C ∈ cs, ∀ D ∈ cs, C = D) :
    PS X (.AugAssign (.Attribute o f p2) .Add e pos) (tS B X.K (sAddF cs f fo fe)) :=
  PSimp (ps_fldaug ho he in_add) fun Dn σ H ⟨ρ, μ, W, b, R, w⟩ => ⟨ρ, μ, W, b, R, (T.All.bind w).mono fun o b1 w1 u W1 H1 k1 R1 ru => by
    obtain ⟨n, en, w1⟩ := T.All.ofO (T.All.bind w1)
    obtain ⟨c, ec, w1⟩ := T.All.ofO (T.All.bind w1)
    obtain ⟨i, ei, w1⟩ := T.All.ofO (T.All.bind w1)
    obtain ⟨x0, ei1, ei2⟩ := bind_some ei
    rw [refOf_some en] at ru
    obtain ⟨em, hcs⟩ := objAt_some ec
    obtain ⟨a, rfl, hc, rc⟩ := live R1.st ru em (fun z => nomatch z)
    have hh := h c.1 hcs
    generalize hcc : Ce.obj c.1 c.2.1 c.2.2 = cc at rc
    cases rc with
    | lst _ _ => cases hcc
    | dic _ _ _ => cases hcc
    | @obj C dx fs vs xs g1 g2 rs =>
    cases hcc
    obtain ⟨v, l1, l2⟩ := fld_atV rs ei1
    have hv : v = .int i := by
      cases l2 with
      | t l2 => cases l2 <;> first | exact (nos ei2).elim | (cases ei2; rfl)
      | r _ => exact (nos ei2).elim
      | z _ => exact (nos ei2).elim
    subst hv
    have g1' := g1
    rw [hcl] at g1'
    refine ⟨a, CL c.1, dx, _, .int i, rfl, g1', hh.1, hh.2, l1, ρ, o.2, W1, b1, R1, (T.All.bind w1).mono fun p b2 w2 y W2 H2 k2 R2 ry => ?_⟩
    obtain ⟨j, ej, w2⟩ := T.All.ofO (T.All.bind w2)
    obtain ⟨d, ej1, ej2⟩ := bind_some ej
    obtain ⟨c2, ec2, w2⟩ := T.All.ofO (T.All.bind w2)
    have hy : y = .int j := intV (drf_rd R2.st ry ej1) ej2
    subst hy
    obtain ⟨em2, hcs2⟩ := objAt_some ec2
    obtain ⟨hc2, rc2⟩ := live2 R2.st hc k2 em2 (fun z => nomatch z)
    have e12 : c2.1 = c.1 := hone _ hcs2 _ hcs
    generalize hcc2 : Ce.obj c2.1 c2.2.1 c2.2.2 = cc2 at rc2
    cases rc2 with
    | lst _ _ => cases hcc2
    | dic _ _ _ => cases hcc2
    | @obj C2 dx2 fs2 vs2 xs2 g3 g4 rs2 =>
    cases hcc2
    by_cases hz : c2.2.1.length < 900
    · rw [if_pos hz] at w2
      obtain ⟨vs', e1, e2, e3⟩ := putFd_rw (f := f) (v := V.int (i + j)) (y := Vd.t (.int (i + j))) (RW.t (g := B.g) (K := X.K) (W := W2) (H := H2) (RV.int (i + j))) rs2 g4
      have g3' := g3
      rw [hcl, e12] at g3'
      refine ⟨i, j, rfl, rfl, dx2, _, g3', by rw [List.length_zip]; omega, ?_⟩
      rw [e1]
      have ex : Ext B.g.pa W2 H2 W2 (upd H2 a (.ins (CL c.1) dx2 ((putFd c2.2.1 c2.2.2 f (.t (.int (i + j)))).1.zip vs'))) := ext_set hc2 .ins
      have st2 := st_set (ob := .ins (CL c.1) dx2 ((putFd c2.2.1 c2.2.2 f (.t (.int (i + j)))).1.zip vs')) (c := .obj c2.1 (putFd c2.2.1 c2.2.2 f (.t (.int (i + j)))).1 (putFd c2.2.1 c2.2.2 f (.t (.int (i + j)))).2) R2.st hc2 em2 (.obj (by rw [upd_same, hcl, e12]) e2 (e3.keep (kO_set R2.st hc2) hs_refl fun _ _ h => .inl h))
      exact w2 σ _ W2 ((k1.trans k2).trans ex) (R2.go ex st2 R2.mono)
    · rw [if_neg hz] at w2; exact w2.elim⟩
end
end Y

set_option Elab.async false
set_option linter.all false
set_option maxRecDepth 100000
set_option maxHeartbeats 2000000
/-! Y29: d[k] = v, d a dict of the store. -/
namespace Y
open PySem PySem.Spec PyProof.Rows L2
def upK {α : Type} : List Key → List α → Key → α → List α
  | k0 :: ks, x :: xs, k, d => (if k0 = k then d else x) :: upK ks xs k d
  | _, xs, _, _ => xs
def hasK (ks : List Key) (k : Key) : Bool := ks.any fun k0 => decide (k0 = k)
def putKd (ks : List Key) (ds : List D) (k : Key) (d : D) : List Key × List D := if hasK ks k = true then (ks, upK ks ds k d) else (ks ++ [k], ds ++ [d])
theorem upK_len {α : Type} {k : Key} {d : α} : ∀ (ks : List Key) (xs : List α), (upK ks xs k d).length = xs.length
  | [], xs => by cases xs <;> rfl
  | _ :: _, [] => rfl
  | k0 :: ks, x :: xs => congrArg (· + 1) (upK_len ks xs)
theorem upK_map {k : Key} {v : V} : ∀ (ks : List Key) (vs : List V), (ks.zip vs).map (fun kv => if kv.1 = k then (kv.1, v) else kv) = ks.zip (upK ks vs k v)
  | [], vs => by cases vs <;> rfl
  | _ :: _, [] => rfl
  | k0 :: ks, x :: xs => by
    show (if k0 = k then (k0, v) else (k0, x)) :: (ks.zip xs).map _ = (k0, if k0 = k then v else x) :: ks.zip (upK ks xs k v)
    rw [upK_map ks xs]
    by_cases h : k0 = k
    · rw [if_pos h, if_pos h]
    · rw [if_neg h, if_neg h]
theorem any_key {k : Key} : ∀ (ks : List Key) (vs : List V), ks.length = vs.length → ((ks.zip vs).any fun kv => decide (kv.1 = k)) = hasK ks k
  | [], [], _ => rfl
  | [], _ :: _, h => by cases h
  | _ :: _, [], h => by cases h
  | k0 :: ks, x :: xs, h => by
    show (decide (k0 = k) || (ks.zip xs).any _) = (decide (k0 = k) || hasK ks k)
    rw [any_key ks xs (by simpa using h)]
theorem upK_rv {g : Gh} {K : PySem.W.Frag} {O : List Addr} {H : Hp} {k : Key} {v : V} {d : D} (r : RV g K O H v d) : ∀ (ks : List Key) (ds : List D) {vs : List V}, RVs g K O H vs ds → RVs g K O H (upK ks vs k v) (upK ks ds k d)
  | [], ds, vs, rs => by cases vs <;> cases ds <;> exact rs
  | k0 :: ks, [], vs, rs => by cases rs; exact .nil
  | k0 :: ks, x :: xs, vs, rs => by
    cases rs with
    | cons r1 r2 =>
      show RVs g K O H ((if k0 = k then v else _) :: upK ks _ k v) ((if k0 = k then d else x) :: upK ks xs k d)
      by_cases h : k0 = k
      · rw [if_pos h, if_pos h]; exact .cons r (upK_rv r ks xs r2)
      · rw [if_neg h, if_neg h]; exact .cons r1 (upK_rv r ks xs r2)
def dicAtM (μ : Mu) (n : Nat) : Option (List Key × List D) := match μ[n]? with
  | some (.dic ks ds) => some (ks, ds)
  | _ => none
theorem dicAtM_some {μ : Mu} {n : Nat} {p : List Key × List D} (h : dicAtM μ n = some p) : μ[n]? = some (.dic p.1 p.2) := by
  unfold dicAtM at h
  split at h
  · rename_i ks ds e; cases h; exact e
  · cases h
def sDSet (fo fi fe : FE) : FS := fun ρ μ => (fe ρ μ).bind fun p => (fo ρ p.2).bind fun o => (T.ofO (refOf o.1)).bind fun n => (fi ρ o.2).bind fun i => (T.ofO (tOf p.1)).bind fun d => (T.ofO ((drf i.2 i.1).bind keyOf)).bind fun k => (T.ofO (dicAtM i.2 n)).bind fun c =>
  if c.1.length < 900 then .ret (.nx ρ (i.2.set n (.dic (putKd c.1 c.2 k d).1 (putKd c.1 c.2 k d).2))) else .bad
section
variable {X : Cx} {B : Bd} {e o ie : Expr} {fe fo fi : FE} {pos p2 : Pos}
theorem ss_dset (hu : X.A.units + 1 < cLine) (ho : PE X o (tM B X.K fo)) (hi : PE X ie (tM B X.K fi)) (he : PE X e (tM B X.K fe)) (hs : swapsWith e (some (.Subscript o ie p2)) pos.line X.env = pure false := by rfl) :
    PS X (.Assign [.Subscript o ie p2] e pos) (tS B X.K (sDSet fo fi fe)) :=
  PSimp (ps_dput hu ho hi he hs) fun Dn σ H ⟨ρ, μ, W, b, R, w⟩ => ⟨ρ, μ, W, b, R, (T.All.bind w).mono fun p b1 w1 v W1 H1 k1 R1 rv => ⟨ρ, _, W1, b1, R1, (T.All.bind w1).mono fun o b2 w2 u W2 H2 k2 R2 ru => by
    obtain ⟨n, en, w2⟩ := T.All.ofO (T.All.bind w2)
    refine ⟨ρ, o.2, W2, b2, R2, (T.All.bind w2).mono fun i b3 w3 y W3 H3 k3 R3 ry => ?_⟩
    obtain ⟨d, ed, w3⟩ := T.All.ofO (T.All.bind w3)
    obtain ⟨k, ek, w3⟩ := T.All.ofO (T.All.bind w3)
    obtain ⟨c, ec, w3⟩ := T.All.ofO (T.All.bind w3)
    obtain ⟨dk, ek1, ek2⟩ := bind_some ek
    rw [refOf_some en] at ru
    have em := dicAtM_some ec
    obtain ⟨a, rfl, hc, rc⟩ := live R3.st (ru.ext R2.st k3) em (fun z => nomatch z)
    have hy := keyOf_kV (drf_rd R3.st ry ek1) ek2
    subst hy
    have rd : RV B.g X.K W3.o H3 v d := tof ((rv.ext R1.st k2).ext R2.st k3) ed
    generalize hcc : Ce.dic c.1 c.2 = cc at rc
    cases rc with
    | lst _ _ => cases hcc
    | obj _ _ _ => cases hcc
    | @dic ks vs ds g1 g2 rs =>
    cases hcc
    by_cases hz : c.1.length < 900
    · rw [if_pos hz] at w3
      have key : ∃ vs', putK (c.1.zip vs) k v = (putKd c.1 c.2 k d).1.zip vs' ∧ (putKd c.1 c.2 k d).1.length = vs'.length ∧ RVs B.g X.K W3.o H3 vs' (putKd c.1 c.2 k d).2 := by
        unfold putKd putK
        rw [any_key c.1 vs g2]
        by_cases hk : hasK c.1 k = true
        · rw [if_pos hk, if_pos hk]
          exact ⟨_, upK_map c.1 vs, by rw [upK_len]; exact g2, upK_rv rd c.1 c.2 rs⟩
        · rw [if_neg hk, if_neg hk]
          exact ⟨vs ++ [v], (by rw [List.zip_append g2]; rfl), by rw [List.length_append, List.length_append, g2]; rfl, rs.append (.cons rd .nil)⟩
      obtain ⟨vs', e1, e2, e3⟩ := key
      refine ⟨a, _, rfl, DPut.k g1 (by rw [List.length_zip]; exact Nat.lt_of_le_of_lt (Nat.min_le_left _ _) (Nat.lt_trans hz (by decide))), ?_⟩
      rw [e1]
      have ex : Ext B.g.pa W3 H3 W3 (upd H3 a (.dK ((putKd c.1 c.2 k d).1.zip vs'))) := ext_set hc .dK
      have st2 := st_set (ob := .dK ((putKd c.1 c.2 k d).1.zip vs')) (c := .dic (putKd c.1 c.2 k d).1 (putKd c.1 c.2 k d).2) R3.st hc em (.dic upd_same e2 (e3.keep (kO_set R3.st hc) hs_refl))
      exact w3 σ _ W3 (((k1.trans k2).trans k3).trans ex) (R3.go ex st2 R3.mono)
    · rw [if_neg hz] at w3; exact w3.elim⟩⟩
end
end Y

set_option Elab.async false
set_option linter.all false
set_option maxRecDepth 100000
set_option maxHeartbeats 2000000
/-! Y30: l[i] = v, l a list of the store. -/
namespace Y
open PySem PySem.Spec PyProof.Rows L2
def sLSet (fo fi fe : FE) : FS := fun ρ μ => (fe ρ μ).bind fun p => (fo ρ p.2).bind fun o => (T.ofO (refOf o.1)).bind fun n => (fi ρ o.2).bind fun i => (T.ofO (tOf p.1)).bind fun d => (T.ofO ((drf i.2 i.1).bind intOf)).bind fun k => (T.ofO (lstAt i.2 n)).bind fun ds =>
  (T.ofO (ixN ds.length k)).bind fun j => .ret (.nx ρ (i.2.set n (.lst (ds.set j d))))
section
variable {X : Cx} {B : Bd} {e o ie : Expr} {fe fo fi : FE} {pos p2 : Pos} {to ti tv : TE}
theorem ps_lset (ho : PE X o to) (hi : PE X ie ti) (hv : PE X e tv) (hs : swapsWith e (some (.Subscript o ie p2)) pos.line X.env = pure false) :
    PS X (.Assign [.Subscript o ie p2] e pos) (fun D σ H => tv σ H fun v H1 => to σ H1 fun x H2 => ti σ H2 fun y H3 => rSetL x y v H3 fun H4 => D.nx σ H4) := by
  refine ⟨fun pins s σ H D I h => ?_⟩
  refine wpAny_Assign_Subscript (thn (hv.run pins s σ H _ I h) fun r s1 ⟨v, H1, I1, rv, q1⟩ => thn (ho.run pins s1 σ H1 _ I1 q1) fun u s2 ⟨x, H2, I2, rx, q2⟩ => thn (hi.run pins s2 σ H2 _ I2 q2) fun iv s3 ⟨y, H3, I3, ry, q3⟩ => ?_) hs
  exact wpAny_mono (set_list pins s3 σ H3 x y v u iv r _ I3 rx ry rv q3) (fun _ s4 ⟨H4, I4, q4⟩ => ⟨σ, H4, I4, q4⟩) fun _ _ z => z
theorem ss_lset (ho : PE X o (tM B X.K fo)) (hi : PE X ie (tM B X.K fi)) (he : PE X e (tM B X.K fe)) (hs : swapsWith e (some (.Subscript o ie p2)) pos.line X.env = pure false := by rfl) :
    PS X (.Assign [.Subscript o ie p2] e pos) (tS B X.K (sLSet fo fi fe)) :=
  PSimp (ps_lset ho hi he hs) fun Dn σ H ⟨ρ, μ, W, b, R, w⟩ => ⟨ρ, μ, W, b, R, (T.All.bind w).mono fun p b1 w1 v W1 H1 k1 R1 rv => ⟨ρ, _, W1, b1, R1, (T.All.bind w1).mono fun o b2 w2 u W2 H2 k2 R2 ru => by
    obtain ⟨n, en, w2⟩ := T.All.ofO (T.All.bind w2)
    refine ⟨ρ, o.2, W2, b2, R2, (T.All.bind w2).mono fun i b3 w3 y W3 H3 k3 R3 ry => ?_⟩
    obtain ⟨d, ed, w3⟩ := T.All.ofO (T.All.bind w3)
    obtain ⟨k, ek, w3⟩ := T.All.ofO (T.All.bind w3)
    obtain ⟨ds, el, w3⟩ := T.All.ofO (T.All.bind w3)
    obtain ⟨j, ej, w3⟩ := T.All.ofO (T.All.bind w3)
    obtain ⟨dk, ek1, ek2⟩ := bind_some ek
    rw [refOf_some en] at ru
    have em := lstAt_some el
    obtain ⟨a, rfl, hc, rc⟩ := live R3.st (ru.ext R2.st k3) em (fun z => nomatch z)
    have hy := intV (drf_rd R3.st ry ek1) ek2
    subst hy
    have rd : RV B.g X.K W3.o H3 v d := tof ((rv.ext R1.st k2).ext R2.st k3) ed
    cases rc with
    | @lst vs ds g1 rs =>
    have ex : Ext B.g.pa W3 H3 W3 (upd H3 a (.lst (vs.set j v))) := ext_set hc .lst
    have st2 := st_set (ob := .lst (vs.set j v)) (c := .lst (ds.set j d)) R3.st hc em (.lst upd_same ((rs.set j rd).keep (kO_set R3.st hc) hs_refl))
    exact ⟨a, vs, k, j, rfl, rfl, g1, by rw [rs.length]; exact ej, w3 σ _ W3 (((k1.trans k2).trans k3).trans ex) (R3.go ex st2 R3.mono)⟩⟩⟩
end
end Y

set_option Elab.async false
set_option linter.all false
set_option maxRecDepth 100000
set_option maxHeartbeats 2000000
/-! Y31: enumerate of a list, zip of two lists or two tuples, as sources. -/
namespace Y
open PySem PySem.Spec PyProof.Rows L2 RZ
def enumD : Nat → List D → List D
  | _, [] => []
  | i, d :: ds => .tup [.int (i : Int), d] :: enumD (i + 1) ds
theorem enumD_get : ∀ (ds : List D) (k i : Nat), (enumD k ds)[i]? = (ds[i]?).map fun d => D.tup [.int ((k + i : Nat) : Int), d]
  | [], k, i => by simp [enumD]
  | d :: ds, k, 0 => by simp [enumD]
  | d :: ds, k, i + 1 => by
    show (enumD (k + 1) ds)[i]? = _
    rw [enumD_get ds (k + 1) i, show k + 1 + i = k + (i + 1) by omega]
    simp
theorem enumD_len : ∀ (ds : List D) (k : Nat), (enumD k ds).length = ds.length
  | [], _ => rfl
  | _ :: ds, k => congrArg (· + 1) (enumD_len ds (k + 1))
def zipD : List D → List D → List D
  | x :: xs, y :: ys => .tup [x, y] :: zipD xs ys
  | _, _ => []
theorem zipD_get : ∀ (xs ys : List D) (i : Nat) (d : D), (zipD xs ys)[i]? = some d → ∃ x y, xs[i]? = some x ∧ ys[i]? = some y ∧ d = .tup [x, y]
  | [], _, i, d, h => by simp [zipD] at h
  | _ :: _, [], i, d, h => by simp [zipD] at h
  | x :: xs, y :: ys, 0, d, h => by simp [zipD] at h; exact ⟨x, y, rfl, rfl, h.symm⟩
  | x :: xs, y :: ys, i + 1, d, h => by
    obtain ⟨a, b, h1, h2, h3⟩ := zipD_get xs ys i d (by simpa [zipD] using h)
    exact ⟨a, b, by simpa using h1, by simpa using h2, h3⟩
theorem zipD_len : ∀ (xs ys : List D), (zipD xs ys).length = min xs.length ys.length
  | [], ys => by simp [zipD]
  | _ :: _, [] => by simp [zipD]
  | x :: xs, y :: ys => by simp [zipD, zipD_len xs ys]
section
variable {g : Gh} {K : PySem.W.Frag} {O : List Addr} {H : Hp} {a b : Addr} {vs us : List V} {ds es : List D}
theorem yl_enum (h : FL O H a vs) (r : RVs g K O H vs ds) : Yl g K O H (Ite K a) (enumD 0 ds) := by
  refine ⟨fun i O' H' e hi => ?_, fun i O' H' e hi => ?_, fun i O' H' x H'' d e hO hd y => ?_⟩
  · rw [enumD_len] at hi
    exact ⟨vs, vs[i]'(by rw [r.length]; exact hi), (h.keep e.kp e.hs).sq, List.getElem?_eq_getElem _⟩
  · rw [enumD_len] at hi
    exact ⟨vs, (h.keep e.kp e.hs).sq, by rw [r.length]; exact hi⟩
  · obtain ⟨T, v, rfl, hT, rfl, hx⟩ := y
    have h' := h.keep e.kp e.hs
    obtain ⟨d', e1, e2⟩ := (r.keep e.kp e.hs).get' (hx vs h'.sq)
    rw [enumD_get, e1] at hd
    cases hd
    refine ⟨same_new hT, new_tup hO hT (.cons ?_ (.cons e2 .nil))⟩
    rw [Nat.zero_add]; exact .int _
theorem yl_zipL (h : FL O H a vs) (h2 : FL O H b us) (r : RVs g K O H vs ds) (r2 : RVs g K O H us es) : Yl g K O H (Itz K a b) (zipD ds es) := by
  refine ⟨fun i O' H' e hi => ?_, fun i O' H' e hi => ?_, fun i O' H' x H'' d e hO hd y => ?_⟩
  · rw [zipD_len] at hi
    exact ⟨vs, us, vs[i]'(by rw [r.length]; omega), us[i]'(by rw [r2.length]; omega), (h.keep e.kp e.hs).sq, (h2.keep e.kp e.hs).sq, List.getElem?_eq_getElem _, List.getElem?_eq_getElem _⟩
  · rw [zipD_len] at hi
    exact ⟨vs, us, (h.keep e.kp e.hs).sq, (h2.keep e.kp e.hs).sq, by rw [r.length, r2.length]; omega⟩
  · obtain ⟨T, v, u, rfl, hT, rfl, hx, hy⟩ := y
    obtain ⟨d1, e1, e2⟩ := (r.keep e.kp e.hs).get' (hx vs (h.keep e.kp e.hs).sq)
    obtain ⟨d2, e3, e4⟩ := (r2.keep e.kp e.hs).get' (hy us (h2.keep e.kp e.hs).sq)
    obtain ⟨x1, y1, z1, z2, rfl⟩ := zipD_get ds es i d hd
    rw [z1] at e1; rw [z2] at e3
    cases e1; cases e3
    exact ⟨same_new hT, new_tup hO hT (.cons e2 (.cons e4 .nil))⟩
theorem yl_zipT (h : FT K O H a vs) (h2 : FT K O H b us) (r : RVs g K O H vs ds) (r2 : RVs g K O H us es) : Yl g K O H (ItzT K a b) (zipD ds es) := by
  refine ⟨fun i O' H' e hi => ?_, fun i O' H' e hi => ?_, fun i O' H' x H'' d e hO hd y => ?_⟩
  · rw [zipD_len] at hi
    exact ⟨vs, us, vs[i]'(by rw [r.length]; omega), us[i]'(by rw [r2.length]; omega), (h.keep e.kp e.hs).sq, (h2.keep e.kp e.hs).sq, List.getElem?_eq_getElem _, List.getElem?_eq_getElem _⟩
  · rw [zipD_len] at hi
    exact ⟨vs, us, (h.keep e.kp e.hs).sq, (h2.keep e.kp e.hs).sq, by rw [r.length, r2.length]; omega⟩
  · obtain ⟨T, v, u, rfl, hT, rfl, hx, hy⟩ := y
    obtain ⟨d1, e1, e2⟩ := (r.keep e.kp e.hs).get' (hx vs (h.keep e.kp e.hs).sq)
    obtain ⟨d2, e3, e4⟩ := (r2.keep e.kp e.hs).get' (hy us (h2.keep e.kp e.hs).sq)
    obtain ⟨x1, y1, z1, z2, rfl⟩ := zipD_get ds es i d hd
    rw [z1] at e1; rw [z2] at e3
    cases e1; cases e3
    exact ⟨same_new hT, new_tup hO hT (.cons e2 (.cons e4 .nil))⟩
end
def enumOf : List D → Option (List D)
  | [.lst ds] => some (enumD 0 ds)
  | _ => none
def zipOf : List D → Option (List D)
  | [.lst xs, .lst ys] => some (zipD xs ys)
  | [.tup xs, .tup ys] => some (zipD xs ys)
  | _ => none
def aEnum (fa : FA) : FI := fun ρ μ => (fa ρ μ).bind fun p => (T.ofO ((tsOf p.1).bind enumOf)).bind fun xs => .ret (xs, p.2)
def aZip (fa : FA) : FI := fun ρ μ => (fa ρ μ).bind fun p => (T.ofO ((tsOf p.1).bind zipOf)).bind fun xs => .ret (xs, p.2)
section
variable {X : Cx} {B : Bd} {e e2 : Expr} {fa : FA} {p pos tpos : Pos} {elts : List Expr} {kk : Nat}
theorem si_enum (hm : X.mg "enumerate" = none) (ha : PA X [e] (tL B X.K fa)) (hg : Gl X "enumerate" := by rfl) (hs : starEach [e] X.env = [(false, eval e X.env)] := by rfl) : PI X (.Tuple elts kk tpos) (.Call (.Name "enumerate" p) [e] [] pos) (tI B X.K (aEnum fa)) :=
  PIimp (pi_enum hg hm ha hs) fun σ H R ⟨ρ, μ, W, b, Rp, h⟩ => ⟨ρ, μ, W, b, Rp, (T.All.bind h).mono fun q0 n1 h1 vs W1 H1 k1 R1 r1 => by
    obtain ⟨xs, e, q⟩ := T.All.ofO (T.All.bind h1)
    obtain ⟨ds, e1, e⟩ := bind_some e
    have r1 := ts_rv r1 e1
    cases r1 with
    | nil => exact (nos e).elim
    | @cons v vs d ds r r2 =>
    cases r2 with
    | cons _ _ => cases d <;> exact (nos e).elim
    | nil =>
      cases r <;> try exact (nos e).elim
      rename_i a vs ds h rs
      cases e
      exact ⟨a, vs, rfl, h.sq, q _ W1 H1 k1 R1 (yl_enum h rs)⟩⟩
theorem si_zip (hm : X.mg "zip" = none) (ha : PA X [e, e2] (tL B X.K fa)) (hg : Gl X "zip" := by rfl) (hs : starEach [e, e2] X.env = (false, eval e X.env) :: starEach [e2] X.env := by rfl) (hpl : (backTo pos (starEach [e2] X.env)).any (·.1) = false := by rfl) :
    PI X (.Tuple elts kk tpos) (.Call (.Name "zip" p) [e, e2] [] pos) (tI B X.K (aZip fa)) :=
  PIimp (pi_zipA hg hm ha hs hpl) fun σ H R ⟨ρ, μ, W, b, Rp, h⟩ => ⟨ρ, μ, W, b, Rp, (T.All.bind h).mono fun q0 n1 h1 vs W1 H1 k1 R1 r1 => by
    obtain ⟨xs, e, q⟩ := T.All.ofO (T.All.bind h1)
    obtain ⟨ds, e1, e⟩ := bind_some e
    have r1 := ts_rv r1 e1
    cases r1 with
    | nil => exact (nos e).elim
    | @cons v vs d ds r r2 =>
    cases r2 with
    | nil => cases d <;> exact (nos e).elim
    | @cons v2 vs2 d2 ds2 r' r3 =>
    cases r3 with
    | cons _ _ => cases d <;> cases d2 <;> exact (nos e).elim
    | nil =>
      cases r <;> cases r' <;> try exact (nos e).elim
      · rename_i a vs ds h rs b us es h2 rs2
        cases e
        exact ⟨a, b, vs, us, rfl, .inl ⟨h.sq, h2.sq, q _ W1 H1 k1 R1 (yl_zipL h h2 rs rs2)⟩⟩
      · rename_i a vs ds h rs b us es h2 rs2
        cases e
        exact ⟨a, b, vs, us, rfl, .inr ⟨h.sq, h2.sq, q _ W1 H1 k1 R1 (yl_zipT h h2 rs rs2)⟩⟩⟩
end
end Y

set_option Elab.async false
set_option linter.all false
set_option maxRecDepth 100000
set_option maxHeartbeats 2000000
/-! Y32: the caller's side of a def that tries a thunk: x(lambda: e). -/
namespace Y
open PySem PySem.Spec PyProof.Rows L2

def onlyT (ρ : Env') : Env' := ρ.map fun s => match s with
  | some (.t d) => some (.t d)
  | _ => none
theorem onlyT_get {ρ : Env'} {i : Nat} {x : Vd} (h : (onlyT ρ)[i]? = some (some x)) : ∃ d, x = .t d ∧ ρ[i]? = some (some (.t d)) := by
  unfold onlyT at h
  rw [List.getElem?_map] at h
  cases e : ρ[i]? with
  | none => rw [e] at h; cases h
  | some s =>
    rw [e] at h
    cases s with
    | none => cases h
    | some y =>
      cases y with
      | t d => cases h; exact ⟨d, rfl, rfl⟩
      | r n => cases h
/-- errors of some classes alone -/
def onlyX (cs : List Nat) : T D → T D
  | .ret d => .ret d
  | .ask m k => .ask m fun c => onlyX cs (k c)
  | .exc C fs ds => if C ∈ cs then .exc C fs ds else .bad
  | .bad => .bad
theorem onlyX_in (cs : List Nat) : ∀ t : T D, ExcIn cs (onlyX cs t)
  | .ret _ => trivial
  | .ask m k => fun c _ => onlyX_in cs (k c)
  | .exc C fs ds => by
    unfold onlyX
    by_cases h : C ∈ cs
    · rw [if_pos h]; exact h
    · rw [if_neg h]; trivial
  | .bad => trivial
theorem onlyX_all {cs : List Nat} {P : D → Nat → Prop} {Y : XP} : ∀ {t : T D} {b : Nat}, (onlyX cs t).All b P Y → t.All b P Y
  | .ret _, b, h => h
  | .ask m k, b, ⟨b', e, h⟩ => ⟨b', e, fun c hc => onlyX_all (h c hc)⟩
  | .exc C fs ds, b, h => by
    unfold onlyX at h
    by_cases q : C ∈ cs
    · rw [if_pos q] at h; exact h
    · rw [if_neg q] at h; exact h.elim
  | .bad, b, h => h.elim
/-- the thunk: fl of the slots that are data -/
def thunk (cs : List Nat) (fl : FE) (ρ : Env') : T D := onlyX cs ((fl (onlyT ρ) []).bind fun p => T.ofO (frz p.2 6 p.1))
def eCaught (cs : List Nat) (n : Nat) (restF : FS) (fl : FE) : FE := fun ρ μ => (T.noX (caughtR n restF (thunk cs fl ρ))).bind fun d => .ret (.t d, μ)
/-- the thunk's body, in any frame -/
def tThunk (X : Cx) (CL : Nat → Addr) (fl : FE) : XK → TE := fun E σ H Q => ∃ B' : Bd, B'.g.cl = CL ∧ LetE X B' E ∧ tM B' X.K fl σ H Q
section
variable {X : Cx} {B : Bd} {CL : Nat → Addr} {cs : List Nat} {n : Nat} {restF : FS} {fl : FE}
theorem caught_imp (hcl : B.g.cl = CL) (σ : L2.St) (H : Hp) (Q : VK) (h : tM B X.K (eCaught cs n restF fl) σ H Q) : LamX.tLam B.g.tb (TTc X.K CL cs n restF) (tThunk X CL fl) σ H Q := by
  obtain ⟨ρ, μ, W, b, R, h⟩ := h
  refine ⟨R.st.tabs, fun H1 eN T1 => ?_⟩
  have pk0 : PK B.g (pureW W.o) b H H1 := ⟨fun a o q _ _ t => eN a o q t, fun a e => by
    obtain ⟨m, _, c, t, r, cells, h1, h2, h3⟩ := R.st.pen a e
    exact ⟨m, (fun z => nomatch z), c, t, r, cells, eN _ _ h1 nTb.lst, eN _ _ h2 nTb.lst, h3⟩, fun a ⟨o, q, t⟩ => ⟨o, eN a o q t, t⟩, T1⟩
  obtain ⟨R1, e1⟩ := R.pure pk0
  refine ⟨B.g, W.o, b, thunk cs fl ρ, hcl, R1.st.there, R1.st.nt, R1.st.pen.pure, T1, fun W' HZ ex st E Q' hall => ?_, onlyX_in cs _, (T.All.noX (T.All.bind h)).mono fun d b' hq v H' pk rv => ?_⟩
  · refine ⟨⟨B.g, HZ, pureW W'.o, fun C fs es b' => ∀ d H', PK B.g (pureW W'.o) b' HZ H' → ExAt B.g X.K HZ W'.o d fs es H' → E (.ref (B.g.cl C)) (some d) H'⟩, hcl, fun C fs ds b d H' y pk x => y d H' pk x, onlyT ρ, [], pureW W'.o, b, ?_, ?_⟩
    · have k1 : KpO W.o H1 HZ := fun a u q m t => ex.kp a u q (fun z => nomatch z) (fun z => m (R1.st.pen a z).1) t
      refine ⟨?_, fun i x hx => ?_, st_pure st.there st.nt st.pen.pure st.tabs, .refl, fun _ h => h, nt_of st.there st.nt, fun a e => ⟨(st.pen a e).1, fun z => nomatch z⟩⟩
      · unfold onlyT; rw [List.length_map]; exact R1.len
      · obtain ⟨d, rfl, hd⟩ := onlyT_get hx
        obtain ⟨v, g1, g2⟩ := R1.slot i _ hd
        cases g2 with
        | t g2 => exact ⟨v, g1, .t (g2.keep k1 ex.hs)⟩
    · have hall := T.All.bind (onlyX_all hall)
      refine hall.mono fun p b' hp v W2 H2 ex2 R2 rv => ?_
      obtain ⟨d, ed, hp⟩ := T.All.ofO hp
      refine hp v H2 (pk_pure (W := pureW W'.o) (fun a o _ z => nomatch z) st.pen.pure ex2 R2.st R2.mono) (frz_rv R2.st R2.mono (fun a ha z => ?_) 6 _ rv ed)
      obtain ⟨i, hi⟩ := mem_get ha
      rcases ex2.hc i a hi with q | ⟨_, q⟩
      · exact nomatch (show ([] : List (Option Addr))[i]? = some (some a) from q)
      · exact q (st.NTo a z)
  · obtain ⟨R2, e2⟩ := R1.pure pk
    exact hq v W H' (e1.trans e2) R2 (.t rv)
/-- the body of the lambda, walked in any frame -/
theorem thunk_body {A : Around} {outer : List Env} {s : Shared} {H : Hp} {E : XK} {scope : Scope} {f c' : Addr} {body : Expr} (h : ∀ B' : Bd, LetsT (LamX.lamCx X A outer s H E scope f c') B' → B'.g.cl = CL → PE (LamX.lamCx X A outer s H E scope f c') body (tM B' X.K fl)) :
    PE (LamX.lamCx X A outer s H E scope f c') body (tThunk X CL fl E) :=
  ⟨fun pins s' σ H' Q I ⟨B', hcl, hE, w⟩ => (h B' ⟨E, takes_of rfl rfl rfl rfl, hE⟩ hcl).run pins s' σ H' Q I w⟩
end
end Y

set_option Elab.async false
set_option linter.all false
set_option maxRecDepth 100000
set_option maxHeartbeats 2000000
/-! Y33: sorted of ints. -/
namespace Y
open PySem PySem.Spec PyProof.Rows L2
def insI (x : Int) : List Int → List Int
  | [] => [x]
  | y :: ys => if x ≤ y then x :: y :: ys else y :: insI x ys
def srtI : List Int → List Int
  | [] => []
  | x :: xs => insI x (srtI xs)
theorem insI_perm (x : Int) : ∀ ys, (insI x ys).Perm (x :: ys)
  | [] => .refl _
  | y :: ys => by
    unfold insI
    by_cases h : x ≤ y
    · rw [if_pos h]
    · rw [if_neg h]; exact ((insI_perm x ys).cons y).trans (.swap x y ys)
theorem srtI_perm : ∀ xs, (srtI xs).Perm xs
  | [] => .refl _
  | x :: xs => (insI_perm x (srtI xs)).trans ((srtI_perm xs).cons x)
theorem insI_sorted (x : Int) : ∀ ys : List Int, ys.Pairwise (· ≤ ·) → (insI x ys).Pairwise (· ≤ ·)
  | [], _ => by simp [insI]
  | y :: ys, h => by
    unfold insI
    rw [List.pairwise_cons] at h
    by_cases q : x ≤ y
    · rw [if_pos q, List.pairwise_cons, List.pairwise_cons]
      exact ⟨fun z hz => (List.mem_cons.mp hz).elim (fun e => by rw [e]; exact q) fun e => Int.le_trans q (h.1 z e), h⟩
    · rw [if_neg q, List.pairwise_cons]
      refine ⟨fun z hz => ?_, insI_sorted x ys h.2⟩
      rcases List.mem_cons.mp ((insI_perm x ys).mem_iff.mp hz) with e | e
      · rw [e]; omega
      · exact h.1 z e
theorem srtI_sorted : ∀ xs, (srtI xs).Pairwise (· ≤ ·)
  | [] => .nil
  | x :: xs => insI_sorted x _ (srtI_sorted xs)
theorem sorted_one : ∀ {l1 l2 : List Int}, l1.Perm l2 → l1.Pairwise (· ≤ ·) → l2.Pairwise (· ≤ ·) → l1 = l2
  | [], l2, p, _, _ => (List.nil_perm.mp p).symm
  | x :: xs, [], p, _, _ => by have := p.length_eq; simp at this
  | x :: xs, y :: ys, p, h1, h2 => by
    rw [List.pairwise_cons] at h1 h2
    have e : x = y := by
      have hx : x ∈ y :: ys := p.mem_iff.mp List.mem_cons_self
      have hy : y ∈ x :: xs := p.mem_iff.mpr List.mem_cons_self
      rcases List.mem_cons.mp hx with e | e
      · exact e
      · rcases List.mem_cons.mp hy with e2 | e2
        · exact e2.symm
        · exact Int.le_antisymm (h1.1 y e2) (h2.1 x e)
    subst e
    rw [sorted_one (List.Perm.cons_inv p) h1.2 h2.2]
def intsOf : List D → Option (List Int)
  | [] => some []
  | .int i :: r => (intsOf r).map fun l => i :: l
  | _ :: _ => none
theorem ints_of {g : Gh} {K : PySem.W.Frag} {O : List Addr} {H : Hp} : ∀ {ds : List D} {vs : List V} {l : List Int}, RVs g K O H vs ds → intsOf ds = some l → vs = l.map V.int
  | [], _, _, r, e => by cases r; cases e; rfl
  | c :: cs, _, l, r, e => by
    cases r with
    | cons r1 r2 =>
      cases r1 <;> try exact (nos e).elim
      rename_i t
      have e : (intsOf cs).map (fun l => t :: l) = some l := e
      cases e1 : intsOf cs with
      | none => rw [e1] at e; exact (nos e).elim
      | some l' => rw [e1] at e; cases e; rw [ints_of r2 e1]; rfl
theorem rvs_ints {g : Gh} {K : PySem.W.Frag} {O : List Addr} {H : Hp} : ∀ l : List Int, RVs g K O H (l.map V.int) (l.map D.int)
  | [] => .nil
  | i :: l => .cons (.int i) (rvs_ints l)
/-- sorted(a list of ints) -/
def opSortI : List D → Option D := op1 fun x => (lstOf x).bind fun ds => (intsOf ds).map fun l => .lst ((srtI l).map .int)
theorem vc_sortI {K : PySem.W.Frag} : VCall K (rSortedI K) opSortI := vc_one fun pa O H x a d Q hO ra e q => by
  cases ra <;> try exact (nos e).elim
  rename_i p vs ds h r
  have e : (intsOf ds).map (fun l => D.lst ((srtI l).map .int)) = some d := e
  cases e1 : intsOf ds with
  | none => rw [e1] at e; exact (nos e).elim
  | some l =>
    rw [e1] at e; cases e
    have ev := ints_of r e1
    subst ev
    refine ⟨p, l, rfl, h.sq, fun ns' p' hp hs hn => ?_⟩
    have en : ns' = srtI l := sorted_one (hp.trans (srtI_perm l).symm) hs (srtI_sorted l)
    subst en
    exact q _ _ (same_new hn) (new_lst hO hn (rvs_ints _))
end Y

set_option Elab.async false
set_option linter.all false
set_option maxRecDepth 100000
set_option maxHeartbeats 2000000
/-! Y34: == of an own class. -/
namespace Y
open PySem PySem.Spec PyProof.Rows L2
def rOwn (K : PySem.W.Frag) (C : Addr) (sp : Sp) (E : XK) : R2 := fun x y H Q => ∃ a dx fs t, x = .ref a ∧ H a = some (.ins C dx fs) ∧ TyX K H y t ∧ PySem.W.notFirst K C t = true ∧ sp [x, y] H Q E
section
variable {X : Cx} {k : Nat} {C f : Addr} {fd : FuncData} {ps : List Str} {sp : Sp} {E : XK}
theorem op_own (hs : PySem.W.findIn X.K (.ref C) "__eq__" = some (some (.ref f))) (hf : PySem.W.isFn X.K (.ref f) = true) (F : FnG X.prog X.w X.K X.mg X.base k f fd ps sp) (hr : Rm k X.A) (hu : X.A.units < cLine) (hb : Binds X.K fd ps [])
    (hx : Passes (L2.CX X.prog X.w) X E) : OpR X (compareOp .Eq) (rOwn X.K C sp E) := by
  intro pins s σ H x y v u Q I rx ry hq
  obtain ⟨a, dx, fs, t, ex, ea, ty, nf, q⟩ := hq
  subst ex
  obtain rfl : v = Value.ref a := rx
  obtain ⟨mA, J, _⟩ := ins_get I.hok ea
  obtain ⟨od, J, _⟩ := J.look
  obtain ⟨m, hF⟩ := I.fr
  obtain ⟨P, Z, p, _⟩ := kit_of I ry ty
  show wpAny (model X.prog X.w) X.A (richCompare .Eq (.ref a) u) (EP X pins σ Q) X.xe s
  refine PySem.W.cmp_K (op := .Eq) (tb := t) hu hF I.ok.mod.kin J (Z.ty _ _ I.kIn p) nf hs hf ?_
  refine wpAny_mono (runG (us := [.ref a, u]) (vs := [.ref a, y]) F hr hb hx I (.cons rfl (.cons ry .nil)) q) (fun r s' z => ?_) fun _ _ x => x
  obtain ⟨v, H', I', rv, qv⟩ := z
  cases r with
  | notImplemented => cases v <;> first | exact nomatch rv | (obtain ⟨_, z⟩ := rv; exact nomatch z) | exact rv.elim
  | _ => exact ⟨v, H', I', rv, qv⟩
end
/-- what the written part says of the class C with its own == -/
structure EqK (P : Program) (w : World) (K : PySem.W.Frag) (mg : Str → Option Value) (base : Heap) (CL : Nat → Addr) (cs : List Nat) (k C : Nat) (F : List Vd → Mu → T (Vd × Mu)) : Prop where
  nt : ∀ t : Ty, PySem.W.notFirst K (CL C) (.type t.name) = true
  nc : ∀ D ∈ cs, PySem.W.notFirst K (CL C) (.ref (CL D)) = true
  h : ∃ (f : Addr) (fd : FuncData) (ps : List Str), PySem.W.findIn K (.ref (CL C)) "__eq__" = some (some (.ref f)) ∧ PySem.W.isFn K (.ref f) = true ∧ Binds K fd ps [] ∧ FnG P w K mg base k f fd ps (spS CL K 2 F)
def eOwn (cs : List Nat) (C : Nat) (F : List Vd → Mu → T (Vd × Mu)) (fo fe : FE) : FE := fun ρ μ => (fo ρ μ).bind fun o => (fe ρ o.2).bind fun p =>
  if instOf C "__eq__" p.2 o.1 then (T.ofO ((drf p.2 p.1).bind (kOf cs))).bind fun _ => F [o.1, p.1] p.2 else .bad
theorem kOf_mem {cs : List Nat} {d : D} {C : Nat} (e : kOf cs d = some (.inr C)) : C ∈ cs := by
  cases d with
  | obj C' ks ds =>
    have e : (if C' ∈ cs then some (Sum.inr C') else none) = some (Sum.inr C : Ty ⊕ Nat) := e
    by_cases h : C' ∈ cs
    · rw [if_pos h] at e; cases e; exact h
    · rw [if_neg h] at e; exact nomatch e
  | _ =>
    simp only [kOf, Option.map_eq_some_iff] at e
    obtain ⟨_, _, z⟩ := e; exact nomatch z
section
variable {X : Cx} {B : Bd} {CL : Nat → Addr} {cs : List Nat} {sup : Nat → Nat → Bool} {k j C : Nat} {F : List Vd → Mu → T (Vd × Mu)} {a b : Expr} {fo fe : FE} {pos : Pos}
theorem se_own (h : EqK X.prog X.w X.K X.mg X.base CL cs j C F) (S : IsaK X.K CL cs sup) (hn : ArS 2 F) (hr : Rm k X.A) (hu : X.A.units < cLine) (hj : j ≤ k) (hx : Lets X B) (hcl : B.g.cl = CL) (ha : PE X a (tM B X.K fo)) (hb : PE X b (tM B X.K fe))
    (hm : behindInMarks .Eq b = false := by first | exact nomark _ | rfl) : PE X (.Compare a [.Eq] [b] pos) (tM B X.K (eOwn cs C F fo fe)) := by
  obtain ⟨f, fd, ps, h1, h2, h3, h4⟩ := h.h
  obtain ⟨E, hp, hE⟩ := hx
  refine PEimp (pe_cmpR (op_own h1 h2 h4 (hr.mono hj) hu h3 hp) ha hb hm) fun σ H Q q => ?_
  obtain ⟨ρ, μ, W, n, R, w⟩ := q
  refine ⟨ρ, μ, W, n, R, (T.All.bind w).mono fun o n1 w1 v1 W1 H1 k1 R1 r1 => ⟨ρ, o.2, W1, n1, R1, (T.All.bind w1).mono fun p n2 w2 v2 W2 H2 k2 R2 r2 => ?_⟩⟩
  have r1 := r1.ext R1.st k2
  by_cases hi : instOf C "__eq__" p.2 o.1 = true
  · rw [if_pos hi] at w2
    obtain ⟨a, dx, fs, rfl, g1, _⟩ := inst_ok hcl R2.st r1 hi
    obtain ⟨t, et, w3⟩ := T.All.ofO (T.All.bind w2)
    obtain ⟨d, ed, ek⟩ := bind_some et
    have ty := kOf_ty S hcl (drf_rd R2.st r2 ed) ek
    refine ⟨a, dx, fs, _, rfl, g1, ty, ?_, rfl, B.g, W2, p.2, n2, [o.1, p.1], hcl, R2.st, .cons r1 (.cons r2 .nil), T.All.mono2 w3 (fun q b' hq v W' H' ex st mo rv => hq v W' H' ((k1.trans k2).trans ex) (R2.go ex st fun a h => mo a (R2.mono a h)) rv) fun C fs es b' y d H' pk ex => hE C fs es b' d H' y (R2.outS pk) (R2.exat ex)⟩
    cases t with
    | inl t => exact h.nt t
    | inr D => exact h.nc D (kOf_mem ek)
  · rw [if_neg hi] at w2; exact w2.elim
end
end Y

set_option Elab.async false
set_option linter.all false
set_option maxRecDepth 100000
set_option maxHeartbeats 2000000
/-! Y35: an own class as a test. -/
namespace Y
open PySem PySem.Spec PyProof.Rows L2
def rTruB (C : Addr) (sp : Sp) (E : XK) : V → Hp → (Bool → Hp → Prop) → Prop := fun x H Q => ∃ a dx fs, x = .ref a ∧ H a = some (.ins C dx fs) ∧ sp [x] H (fun v H' => ∃ b, v = .bl b ∧ Q b H') E
def rTruO (C : Addr) : V → Hp → (Bool → Hp → Prop) → Prop := fun x H Q => ∃ a dx fs, x = .ref a ∧ H a = some (.ins C dx fs) ∧ Q true H
section
variable {X : Cx} {k : Nat} {C f : Addr} {fd : FuncData} {ps : List Str} {sp : Sp} {E : XK}
theorem tru_own (hs : PySem.W.findIn X.K (.ref C) "__bool__" = some (some (.ref f))) (hf : PySem.W.isFn X.K (.ref f) = true) (F : FnG X.prog X.w X.K X.mg X.base k f fd ps sp) (hr : Rm k X.A) (hb : Binds X.K fd ps [])
    (hx : Passes (L2.CX X.prog X.w) X E) : TruR X (rTruB C sp E) := by
  intro pins s σ H x v Q I rx hq
  obtain ⟨a, dx, fs, ex, ea, q⟩ := hq
  subst ex
  obtain rfl : v = Value.ref a := rx
  obtain ⟨mA, J, _⟩ := ins_get I.hok ea
  obtain ⟨od, J, _⟩ := J.look
  obtain ⟨m, hF⟩ := I.fr
  refine PySem.W.truthy_K hF I.ok.mod.kin J hs hf ?_
  refine wpAny_mono (runG (us := [.ref a]) (vs := [.ref a]) F hr hb hx I (.cons rfl .nil) q) (fun r s' z => ?_) fun _ _ x => x
  obtain ⟨v, H', I', rv, b, ev, qv⟩ := z
  subst ev
  obtain rfl : r = Value.bool b := rv
  exact ⟨H', I', qv⟩
theorem tru_obj (hs : PySem.W.findIn X.K (.ref C) "__bool__" = some none) (hl : PySem.W.findIn X.K (.ref C) "__len__" = some none) : TruR X (rTruO C) := by
  intro pins s σ H x v Q I rx hq
  obtain ⟨a, dx, fs, ex, ea, q⟩ := hq
  subst ex
  obtain rfl : v = Value.ref a := rx
  obtain ⟨mA, J, _⟩ := ins_get I.hok ea
  obtain ⟨od, J, _⟩ := J.look
  obtain ⟨m, hF⟩ := I.fr
  exact PySem.W.truthy_K0 hF I.ok.mod.kin J hs hl ⟨H, I, q⟩
end
structure BoK (P : Program) (w : World) (K : PySem.W.Frag) (mg : Str → Option Value) (base : Heap) (CL : Nat → Addr) (k C : Nat) (F : List Vd → Mu → T (Vd × Mu)) : Prop where
  h : ∃ (f : Addr) (fd : FuncData) (ps : List Str), PySem.W.findIn K (.ref (CL C)) "__bool__" = some (some (.ref f)) ∧ PySem.W.isFn K (.ref f) = true ∧ Binds K fd ps [] ∧ FnG P w K mg base k f fd ps (spS CL K 1 F)
def kTruB (C : Nat) (F : List Vd → Mu → T (Vd × Mu)) (fo : FE) : FT' := fun ρ μ => (fo ρ μ).bind fun o => if instOf C "__bool__" o.2 o.1 then (F [o.1] o.2).bind fun p => (T.ofO (blOf p.1)).bind fun b => .ret (b, p.2) else .bad
def kTruO (C : Nat) (fo : FE) : FT' := fun ρ μ => (fo ρ μ).bind fun o => if instOf C "__bool__" o.2 o.1 then .ret (true, o.2) else .bad
section
variable {X : Cx} {B : Bd} {CL : Nat → Addr} {k j C : Nat} {F : List Vd → Mu → T (Vd × Mu)} {a : Expr} {fo : FE}
theorem sk_truO (hs : PySem.W.findIn X.K (.ref (CL C)) "__bool__" = some none) (hl : PySem.W.findIn X.K (.ref (CL C)) "__len__" = some none) (hcl : B.g.cl = CL) (ha : PE X a (tM B X.K fo))
    (he : ∀ whole, isTrue a X.env whole = (do let v ← whole; standAt a.pos; holding [v] (truthy v)) := by intro _; rfl) : PT X a (tK B X.K (kTruO C fo)) :=
  PTimp (pt_truthR ha (tru_obj hs hl) he) fun σ H Q ⟨ρ, μ, W, n, R, h⟩ => ⟨ρ, μ, W, n, R, (T.All.bind h).mono fun o n1 h1 v1 W1 H1 k1 R1 r1 => by
    by_cases hi : instOf C "__bool__" o.2 o.1 = true
    · rw [if_pos hi] at h1
      obtain ⟨a, dx, fs, rfl, g1, _⟩ := inst_ok hcl R1.st r1 hi
      exact ⟨a, dx, fs, rfl, g1, h1 W1 H1 k1 R1⟩
    · rw [if_neg hi] at h1; exact h1.elim⟩
theorem sk_truB (h : BoK X.prog X.w X.K X.mg X.base CL j C F) (hr : Rm k X.A) (hj : j ≤ k) (hx : Lets X B) (hcl : B.g.cl = CL) (ha : PE X a (tM B X.K fo))
    (he : ∀ whole, isTrue a X.env whole = (do let v ← whole; standAt a.pos; holding [v] (truthy v)) := by intro _; rfl) : PT X a (tK B X.K (kTruB C F fo)) := by
  obtain ⟨f, fd, ps, h1, h2, h3, h4⟩ := h.h
  obtain ⟨E, hp, hE⟩ := hx
  refine PTimp (pt_truthR ha (tru_own h1 h2 h4 (hr.mono hj) h3 hp) he) fun σ H Q q => ?_
  obtain ⟨ρ, μ, W, n, R, w⟩ := q
  refine ⟨ρ, μ, W, n, R, (T.All.bind w).mono fun o n1 w1 v1 W1 H1 k1 R1 r1 => ?_⟩
  by_cases hi : instOf C "__bool__" o.2 o.1 = true
  · rw [if_pos hi] at w1
    obtain ⟨a, dx, fs, rfl, g1, _⟩ := inst_ok hcl R1.st r1 hi
    refine ⟨a, dx, fs, rfl, g1, rfl, B.g, W1, o.2, n1, [o.1], hcl, R1.st, .cons r1 .nil, T.All.mono2 (T.All.bind w1) (fun q b' hq v W' H' ex st mo rv => ?_) fun C fs es b' y d H' pk ex => hE C fs es b' d H' y (R1.outS pk) (R1.exat ex)⟩
    have R2 := R1.go ex st fun a h => mo a (R1.mono a h)
    obtain ⟨b, eb, hq⟩ := T.All.ofO (T.All.bind hq)
    exact ⟨b, blV rv eb, hq W' H' (k1.trans ex) R2⟩
  · rw [if_neg hi] at w1; exact w1.elim
end
end Y

set_option Elab.async false
set_option linter.all false
set_option maxRecDepth 100000
set_option maxHeartbeats 2000000
/-! Y36: d.get(k), d.get(k, x). -/
namespace Y
open PySem PySem.Spec PyProof.Rows L2
theorem dic_at0 {g : Gh} {K : PySem.W.Frag} {O : List Addr} {H : Hp} : ∀ {ks : List Key} {vs : List V} {ds : List D} {z : Key}, ks.length = vs.length → RVs g K O H vs ds → dicAt ks ds z = none → valV (ks.zip vs) z = none
  | [], _, _, _, _, _, _ => rfl
  | _ :: _, _, _, _, l, .nil, _ => nomatch l
  | k :: ks, _, _, z, l, .cons h t, e => by
    unfold dicAt at e
    by_cases q : k = z
    · rw [if_pos q] at e; exact nomatch e
    · rw [if_neg q] at e
      exact (valV_neg (p := (k, _)) q).trans (dic_at0 (Nat.succ.inj l) t e)
def isDic : D → Option Unit
  | .dic _ _ => some ()
  | _ => none
/-- what is found: nothing at all (none), no such key (some none) -/
def opGet : D → D → Option (Option D)
  | .dic ks ds, y => (keyOf y).map fun z => dicAt ks ds z
  | _, _ => none
theorem isDic_ok {g : Gh} {K : PySem.W.Frag} {O : List Addr} {H : Hp} {x : V} {a : D} {u : Unit} (r : RD g K O H x a) (e : isDic a = some u) : ∃ p, x = .ref p ∧ IsD H p := by
  cases r with
  | dic h1 h2 h3 rs => exact ⟨_, rfl, .inl ⟨_, h1⟩⟩
  | _ => exact nomatch e
theorem opGet_ok {g : Gh} {K : PySem.W.Frag} {O : List Addr} {H : Hp} {p : Addr} {y : V} {a b : D} {o : Option D} (r : RD g K O H (.ref p) a) (rb : RD g K O H y b) (e : opGet a b = some o) : ∃ ov, DGet H p y ov ∧ (o = none → ov = none) ∧ ∀ d, o = some d → ∃ v, ov = some v ∧ RV g K O H v d := by
  cases r with
  | @dic a ks vs ds h1 h2 h3 rs =>
    have e : ((keyOf b).map fun z => dicAt ks ds z) = some o := e
    cases ek : keyOf b with
    | none => rw [ek] at e; exact nomatch e
    | some z =>
      rw [ek] at e
      have e : some (dicAt ks ds z) = some o := e
      obtain rfl := Option.some.inj e
      exact ⟨_, .inl ⟨_, z, h1, keyOf_kV rb ek, rfl⟩, fun q => dic_at0 h3 rs q, fun d q => dic_at rs q⟩
  | _ => exact nomatch e
def eGet1 (fo fy : FE) : FE := fun ρ μ => (fo ρ μ).bind fun o => (T.ofO ((drf o.2 o.1).bind isDic)).bind fun _ => (fy ρ o.2).bind fun p => (T.ofO ((drf p.2 o.1).bind fun a => (drf p.2 p.1).bind fun b => opGet a b)).bind fun q => .ret (.t (q.getD .non), p.2)
def eGet2 (fo fy fz : FE) : FE := fun ρ μ => (fo ρ μ).bind fun o => (T.ofO ((drf o.2 o.1).bind isDic)).bind fun _ => (fy ρ o.2).bind fun p => (fz ρ p.2).bind fun z => (T.ofO ((drf z.2 o.1).bind fun a => (drf z.2 p.1).bind fun b => opGet a b)).bind fun q =>
  .ret ((match q with | some d => .t d | none => z.1), z.2)
section
variable {X : Cx} {B : Bd} {o e f : Expr} {fo fy fz : FE} {apos cpos : Pos}
theorem se_get1 (hu : X.A.units + 1 < cLine) (ho : PE X o (tM B X.K fo)) (he : PE X e (tM B X.K fy)) (m : M1 X o "get" apos e cpos) : PE X (.Call (.Attribute o "get" apos) [e] [] cpos) (tM B X.K (eGet1 fo fy)) :=
  PEimp (pe_dget1 hu ho he m) fun σ H Q ⟨ρ, μ, W, n, R, w⟩ => ⟨ρ, μ, W, n, R, (T.All.bind w).mono fun o n1 w1 v1 W1 H1 k1 R1 r1 => by
    obtain ⟨u, eu, w2⟩ := T.All.ofO (T.All.bind w1)
    obtain ⟨d, ed, ei⟩ := bind_some eu
    obtain ⟨a, rfl, ha⟩ := isDic_ok (drf_rd R1.st r1 ed) ei
    refine ⟨a, rfl, ha, ρ, o.2, W1, n1, R1, (T.All.bind w2).mono fun p n2 w3 v2 W2 H2 k2 R2 r2 => ?_⟩
    obtain ⟨q, eq, g⟩ := T.All.ofO (T.All.bind w3)
    obtain ⟨a1, e1, eq⟩ := bind_some eq
    obtain ⟨b1, e2, eq⟩ := bind_some eq
    obtain ⟨ov, hg, hn, hv⟩ := opGet_ok (drf_rd R2.st (r1.ext R1.st k2) e1) (drf_rd R2.st r2 e2) eq
    refine ⟨ov, hg, ?_⟩
    cases q with
    | none => obtain rfl := hn rfl; exact g _ W2 H2 (k1.trans k2) R2 (.t .non)
    | some d =>
      obtain ⟨v, rfl, rv⟩ := hv d rfl
      exact g _ W2 H2 (k1.trans k2) R2 (.t rv)⟩
theorem se_get2 (hu : X.A.units + 1 < cLine) (ho : PE X o (tM B X.K fo)) (he : PE X e (tM B X.K fy)) (hf : PE X f (tM B X.K fz)) (m : M2 X o "get" apos e f cpos) : PE X (.Call (.Attribute o "get" apos) [e, f] [] cpos) (tM B X.K (eGet2 fo fy fz)) :=
  PEimp (pe_dget2 hu ho he hf m) fun σ H Q ⟨ρ, μ, W, n, R, w⟩ => ⟨ρ, μ, W, n, R, (T.All.bind w).mono fun o n1 w1 v1 W1 H1 k1 R1 r1 => by
    obtain ⟨u, eu, w2⟩ := T.All.ofO (T.All.bind w1)
    obtain ⟨d, ed, ei⟩ := bind_some eu
    obtain ⟨a, rfl, ha⟩ := isDic_ok (drf_rd R1.st r1 ed) ei
    refine ⟨a, rfl, ha, ρ, o.2, W1, n1, R1, (T.All.bind w2).mono fun p n2 w3 v2 W2 H2 k2 R2 r2 => ⟨ρ, p.2, W2, n2, R2, (T.All.bind w3).mono fun z n3 w4 v3 W3 H3 k3 R3 r3 => ?_⟩⟩
    obtain ⟨q, eq, g⟩ := T.All.ofO (T.All.bind w4)
    obtain ⟨a1, e1, eq⟩ := bind_some eq
    obtain ⟨b1, e2, eq⟩ := bind_some eq
    obtain ⟨ov, hg, hn, hv⟩ := opGet_ok (drf_rd R3.st ((r1.ext R1.st k2).ext R2.st k3) e1) (drf_rd R3.st (r2.ext R2.st k3) e2) eq
    refine ⟨ov, hg, ?_⟩
    cases q with
    | none => obtain rfl := hn rfl; exact g _ W3 H3 ((k1.trans k2).trans k3) R3 r3
    | some d =>
      obtain ⟨v, rfl, rv⟩ := hv d rfl
      exact g _ W3 H3 ((k1.trans k2).trans k3) R3 (.t rv)⟩
end
end Y

set_option Elab.async false
set_option linter.all false
set_option maxRecDepth 100000
set_option maxHeartbeats 2000000
/-! Y37: x in l, x not in l, of deep data. -/
namespace Y
open PySem PySem.Spec PyProof.Rows L2
def inDeep (a b : D) : Option Bool := (pyOf a).bind fun p => (pyOf b).bind fun q => match q with
  | .list ds => if SeqAt.shaped p = true ∧ SeqAt.shaped (.list ds) = true then some (ds.any fun z => PyData.eqv z p) else none
  | _ => none
def opInD : D → D → Option D := fun a b => (inDeep a b).map .bl
def opNInD : D → D → Option D := fun a b => (inDeep a b).map fun k => .bl (!k)
theorem inDeep_ok {g : Gh} {K : PySem.W.Frag} {O : List Addr} {H : Hp} {x y : V} {a b : D} {k : Bool} (ra : RD g K O H x a) (rb : RD g K O H y b) (e : inDeep a b = some k) :
    ∃ p ds, Dp K H x p ∧ Dp K H y (.list ds) ∧ SeqAt.shaped p = true ∧ SeqAt.shaped (.list ds) = true ∧ (ds.any fun z => PyData.eqv z p) = k := by
  obtain ⟨p, ep, e⟩ := bind_some e
  obtain ⟨q, eq, e⟩ := bind_some e
  cases q with
  | list ds =>
    have e : (if SeqAt.shaped p = true ∧ SeqAt.shaped (.list ds) = true then some (ds.any fun z => PyData.eqv z p) else none) = some k := e
    by_cases h : SeqAt.shaped p = true ∧ SeqAt.shaped (.list ds) = true
    · rw [if_pos h] at e
      exact ⟨p, ds, dp_rd ra ep, dp_rd rb eq, h.1, h.2, Option.some.inj e⟩
    · rw [if_neg h] at e; exact nomatch e
  | _ => exact nomatch e
theorem v_inD {K : PySem.W.Frag} : VOp2 K (rInD K) opInD := fun g0 O H x y a b d Q hO ra rb e q => by
  unfold opInD at e
  cases h : inDeep a b with
  | none => rw [h] at e; exact nomatch e
  | some k =>
    rw [h] at e; cases e
    obtain ⟨p, ds, h1, h2, h3, h4, h5⟩ := inDeep_ok ra rb h
    exact ⟨p, ds, h1, h2, h3, h4, by rw [h5]; exact q _ H (Same.refl H) (.bl _)⟩
theorem v_ninD {K : PySem.W.Frag} : VOp2 K (rNotInD K) opNInD := fun g0 O H x y a b d Q hO ra rb e q => by
  unfold opNInD at e
  cases h : inDeep a b with
  | none => rw [h] at e; exact nomatch e
  | some k =>
    rw [h] at e; cases e
    obtain ⟨p, ds, h1, h2, h3, h4, h5⟩ := inDeep_ok ra rb h
    exact ⟨p, ds, h1, h2, h3, h4, by rw [h5]; exact q _ H (Same.refl H) (.bl _)⟩
end Y

set_option Elab.async false
set_option linter.all false
set_option maxRecDepth 100000
set_option maxHeartbeats 2000000
/-! Y38: != of an own class with its own ==: object.__ne__ asks == and turns it. -/
namespace Y
open PySem PySem.Spec PyProof.Rows L2
section
variable {prog : Program} {w : World} {A : Around} {E : Value → Shared → Prop} {s : Shared} {K : PySem.W.Frag} {x C L f : Addr} {h₀ : Heap} {m : Str → Option Value} {ox : Obj} {od : Option Obj} {b tb : Value}
theorem ne_entry (X : K.In s.heap) (I : PySem.W.InstAt s.heap x ox C od) (hs : PySem.W.findIn K (.ref C) "__eq__" = some (some (.ref f))) (hf : PySem.W.isFn K (.ref f) = true) (hu : A.units < cLine) {Q : Fin → Shared → Prop}
    (h : wpAny (model prog w) A (call (.ref f) [.ref x, b]) (fun v s' => ∃ k, v = .bool k ∧ Q (.done (.ret (.bool (!k)))) s') E s) :
    wpAny (model prog w) A (Builtin.«object.__ne__» ⟨[.ref x, b], []⟩) Q E s := by
  unfold Builtin.«object.__ne__»
  repeat (first
    | with_reducible refine wpAny_cRoomFor hu ?_
    | (refine wpAny_bind (m := callSpecialIfBound? (.ref x) (Str.ofString "__eq__") [b])
        (PySem.W.ifBound_K X I hs hf (wpAny_mono h (fun r s' hr => by
          obtain ⟨k, rfl, hq⟩ := hr
          repeat (first | exact hq | exact wpAny_pure hq | exact wpAny_truthy_bool hq | (refine wpAny_bind (m := truthy (.bool _)) (wpAny_truthy_bool ?_)) | wp_step)) fun _ _ e => e)))
    | wp_step)
theorem ifBound_objNe {M : Model} {args : List Value} {Q : Option Value → Shared → Prop} (X : K.In s.heap) (I : PySem.W.InstAt s.heap x ox C od) (hs : PySem.W.findIn K (.ref C) "__ne__" = some (some (.builtin "object.__ne__")))
    (h : wpAny M A (call (.builtin "object.__ne__") (.ref x :: args)) (fun v => Q (some v)) E s) : wpAny M A (callSpecialIfBound? (.ref x) "__ne__" args) Q E s := by
  simp only [callSpecialIfBound?, bindSpecialIfBound?]
  refine wpAny_holding (wpAny_bind (wpAny_bind (wpAny_bind (I.type.here ((PySem.W.looks_findIn X hs).here ?_)))))
  refine wpAny_bind (wpAny_askSetting (wpAny_ite ?_))
  have fin : wpAny M A (call (.builtin "object.__ne__") ([.ref x] ++ args) >>= fun v => pure (some v)) Q E s := wpAny_bind (wpAny_mono h (fun v s' h' => wpAny_pure h') fun _ _ h' => h')
  split
  · exact wpAny_bind (wpAny_of_eq (F.cmp_object.ne.bind _) (wpAny_pure (by exact fin)))
  · exact wpAny_tryCatch (wpAny_bind (wpAny_of_eq (F.cmp_object.ne.bind _) (wpAny_pure (by exact fin))))
theorem ne_K {Q : Value → Shared → Prop} (hu : A.units + 1 < cLine) (Fh : Fr h₀ L s.heap m) (X₀ : K.In h₀) (I : PySem.W.InstAt s.heap x ox C od) (hb : PySem.W.Looks (model prog w) s.heap (typeOf b) tb) (hn : PySem.W.notFirst K C tb = true)
    (hs : PySem.W.findIn K (.ref C) "__eq__" = some (some (.ref f))) (hne : PySem.W.findIn K (.ref C) "__ne__" = some (some (.builtin "object.__ne__"))) (hf : PySem.W.isFn K (.ref f) = true) (hm : PySem.W.mroIn K C (.type "object") = some true)
    (h : wpAny (model prog w) A.in1 (call (.ref f) [.ref x, b]) (fun v s' => ∃ k, v = .bool k ∧ Q (.bool (!k)) s') E s) : wpAny (model prog w) A (richCompare .NotEq (.ref x) b) Q E s := by
  have X := X₀.keeps Fh.keep
  have one : wpAny (model prog w) A (tryCompare (.ref x) "__ne__" b) (fun r s' => ∃ v, r = some v ∧ Q v s') E s := by
    unfold tryCompare
    refine wpAny_bind (ifBound_objNe X I hne (wpAny_call (codeAny_call_builtin F.cmp_object.ne.plain F.cmpEntry_ne (PySem.W.check_slot F.cmpKind_ne F.cmpSplit_ne (I.type.andThen (PySem.W.looks_mroIn X hm)) (F.cmpArgs_ne _ _)
      (ne_entry (A := A.in1) X I hs hf hu (wpAny_mono h (fun v s' hv => ?_) fun _ _ e => e))))))
    obtain ⟨k, rfl, hq⟩ := hv
    first
      | exact ⟨k, rfl, wpAny_pure ⟨_, rfl, hq⟩⟩
      | exact ⟨k, rfl, _, rfl, wpAny_pure ⟨_, rfl, hq⟩⟩
  unfold richCompare
  simp only [oneThing_ref]
  refine wpAny_holding (wpAny_bind (wpAny_cRoomFor (Nat.lt_of_succ_lt hu) ?_))
  rw [cmpInfo_NotEq]
  dsimp only
  refine wpAny_bind (I.type.here (wpAny_bind (hb.here ?_)))
  split
  · rename_i q
    have e : PySem.W.subIn K tb (.ref C) = some false := by
      rcases Bool.or_eq_true_iff.mp hn with e | e
      · rw [beq_iff_eq.mp e] at q; simp at q
      · exact beq_iff_eq.mp e
    refine wpAny_bind ((PySem.W.looks_subIn X e).here ?_)
    simp only [Bool.false_eq_true, if_false]
    refine wpAny_bind (m := tryCompare (.ref x) _ b) (wpAny_mono one (fun r s' z => ?_) fun _ _ e => e)
    obtain ⟨v, rfl, hq⟩ := z
    exact wpAny_pure hq
  · refine wpAny_bind (wpAny_pure ?_)
    simp only [Bool.false_eq_true, if_false]
    refine wpAny_bind (m := tryCompare (.ref x) _ b) (wpAny_mono one (fun r s' z => ?_) fun _ _ e => e)
    obtain ⟨v, rfl, hq⟩ := z
    exact wpAny_pure hq
end
def rOwnN (K : PySem.W.Frag) (C : Addr) (sp : Sp) (E : XK) : R2 := fun x y H Q => ∃ a dx fs t, x = .ref a ∧ H a = some (.ins C dx fs) ∧ TyX K H y t ∧ PySem.W.notFirst K C t = true ∧ sp [x, y] H (fun v H' => ∃ k, v = .bl k ∧ Q (.bl (!k)) H') E
theorem Rm.in1 {k : Nat} {A : Around} (r : Rm (k + 1) A) : Rm k A.in1 := ⟨r.room.in1, r.gd⟩
section
variable {X : Cx} {k : Nat} {C f : Addr} {fd : FuncData} {ps : List Str} {sp : Sp} {E : XK}
theorem op_ownN (hs : PySem.W.findIn X.K (.ref C) "__eq__" = some (some (.ref f))) (hne : PySem.W.findIn X.K (.ref C) "__ne__" = some (some (.builtin "object.__ne__"))) (hf : PySem.W.isFn X.K (.ref f) = true) (hm : PySem.W.mroIn X.K C (.type "object") = some true)
    (F : FnG X.prog X.w X.K X.mg X.base k f fd ps sp) (hr : Rm (k + 1) X.A) (hu : X.A.units + 1 < cLine) (hb : Binds X.K fd ps [])
    (hx : Passes (L2.CX X.prog X.w) X E) : OpR X (compareOp .NotEq) (rOwnN X.K C sp E) := by
  intro pins s σ H x y v u Q I rx ry hq
  obtain ⟨a, dx, fs, t, ex, ea, ty, nf, q⟩ := hq
  subst ex
  obtain rfl : v = Value.ref a := rx
  obtain ⟨mA, J, _⟩ := ins_get I.hok ea
  obtain ⟨od, J, _⟩ := J.look
  obtain ⟨m, hF⟩ := I.fr
  obtain ⟨P, Z, p, _⟩ := kit_of I ry ty
  show wpAny (model X.prog X.w) X.A (richCompare .NotEq (.ref a) u) (EP X pins σ Q) X.xe s
  refine ne_K (tb := t) hu hF I.ok.mod.kin J (Z.ty _ _ I.kIn p) nf hs hne hf hm ?_
  have r : Vals [V.ref a, y] [.ref a, u] := .cons rfl (.cons ry .nil)
  have hl : ([.ref a, u] : List Value).length = ps.length := r.length.symm.trans (F.len _ _ _ _ q)
  have hb2 := hb s [.ref a, u] I.kIn (by rw [List.append_nil]; exact hl)
  rw [List.append_nil] at hb2
  refine wpAny_call (codeAny_mono (F.run X.A.in1 X.stack s H ⟨[.ref a, u], []⟩ [.ref a, u] [.ref a, y] _ E hr.in1 I.env0.in1 hb2 r q) fun res s' got => ?_)
  match res, got with
  | .error e, got => exact hx pins σ H s e s' I got
  | .ok (.ret u), got =>
    obtain ⟨v, H', I', rv, k, ev, qv⟩ := I.after got
    subst ev
    obtain rfl : u = Value.bool k := rv
    exact ⟨k, rfl, .bl (!k), H', I', rfl, qv⟩
  | .ok .next, got => exact got.elim
  | .ok .brk, got => exact got.elim
  | .ok .cont, got => exact got.elim
end
/-- what the written part says of the class C besides: its != is object's -/
structure NeK (K : PySem.W.Frag) (CL : Nat → Addr) (C : Nat) : Prop where
  h1 : PySem.W.findIn K (.ref (CL C)) "__ne__" = some (some (.builtin "object.__ne__"))
  h2 : PySem.W.mroIn K (CL C) (.type "object") = some true
def eOwnN (cs : List Nat) (C : Nat) (F : List Vd → Mu → T (Vd × Mu)) (fo fe : FE) : FE := fun ρ μ => (fo ρ μ).bind fun o => (fe ρ o.2).bind fun p =>
  if instOf C "__eq__" p.2 o.1 then (T.ofO ((drf p.2 p.1).bind (kOf cs))).bind fun _ => (F [o.1, p.1] p.2).bind fun q => (T.ofO (blOf q.1)).bind fun k => .ret (.t (.bl !k), q.2) else .bad
section
variable {X : Cx} {B : Bd} {CL : Nat → Addr} {cs : List Nat} {sup : Nat → Nat → Bool} {k j C : Nat} {F : List Vd → Mu → T (Vd × Mu)} {a b : Expr} {fo fe : FE} {pos : Pos}
theorem se_ownN (h : EqK X.prog X.w X.K X.mg X.base CL cs j C F) (N : NeK X.K CL C) (S : IsaK X.K CL cs sup) (hn : ArS 2 F) (hr : Rm k X.A) (hu : X.A.units + 1 < cLine) (hj : j + 1 ≤ k) (hx : Lets X B) (hcl : B.g.cl = CL) (ha : PE X a (tM B X.K fo)) (hb : PE X b (tM B X.K fe))
    (hm : behindInMarks .NotEq b = false := by first | exact nomark _ | rfl) : PE X (.Compare a [.NotEq] [b] pos) (tM B X.K (eOwnN cs C F fo fe)) := by
  obtain ⟨f, fd, ps, h1, h2, h3, h4⟩ := h.h
  obtain ⟨E, hp, hE⟩ := hx
  refine PEimp (pe_cmpR (op_ownN h1 N.h1 h2 N.h2 h4 (hr.mono hj) hu h3 hp) ha hb hm) fun σ H Q q => ?_
  obtain ⟨ρ, μ, W, n, R, w⟩ := q
  refine ⟨ρ, μ, W, n, R, (T.All.bind w).mono fun o n1 w1 v1 W1 H1 k1 R1 r1 => ⟨ρ, o.2, W1, n1, R1, (T.All.bind w1).mono fun p n2 w2 v2 W2 H2 k2 R2 r2 => ?_⟩⟩
  have r1 := r1.ext R1.st k2
  by_cases hi : instOf C "__eq__" p.2 o.1 = true
  · rw [if_pos hi] at w2
    obtain ⟨a, dx, fs, rfl, g1, _⟩ := inst_ok hcl R2.st r1 hi
    obtain ⟨t, et, w3⟩ := T.All.ofO (T.All.bind w2)
    obtain ⟨d, ed, ek⟩ := bind_some et
    have ty := kOf_ty S hcl (drf_rd R2.st r2 ed) ek
    refine ⟨a, dx, fs, _, rfl, g1, ty, ?_, rfl, B.g, W2, p.2, n2, [o.1, p.1], hcl, R2.st, .cons r1 (.cons r2 .nil), T.All.mono2 (T.All.bind w3) (fun q b' w4 v W' H' ex st mo rv => ?_) fun C fs es b' y d H' pk ex => hE C fs es b' d H' y (R2.outS pk) (R2.exat ex)⟩
    · cases t with
      | inl t => exact h.nt t
      | inr D => exact h.nc D (kOf_mem ek)
    · obtain ⟨kk, e1, w5⟩ := T.All.ofO (T.All.bind w4)
      exact ⟨kk, blV rv e1, w5 _ W' H' ((k1.trans k2).trans ex) (R2.go ex st fun a h => mo a (R2.mono a h)) (.t (.bl _))⟩
  · rw [if_neg hi] at w2; exact w2.elim
end
end Y

set_option Elab.async false
set_option linter.all false
set_option maxRecDepth 100000
set_option maxHeartbeats 2000000
/-! Y39: C(k = v, ..) with keywords alone, as data. -/
namespace Y
open PySem PySem.Spec PyProof.Rows L2
/-- a class of the text, called with the keywords ks -/
structure KlK (P : Program) (w : World) (K : PySem.W.Frag) (mg : Str → Option Value) (base : Heap) (CL : Nat → Addr) (k : Nat) (x : Str) (C n : Nat) (ks : List Str) (p : List Nat) (F : List Vd → Mu → T (Vd × Mu)) : Prop where
  h : ∃ (f : Addr) (fd : FuncData) (ps : List Str), mg x = some (.ref (CL C)) ∧ Mk K (CL C) f ∧ (∀ (s : Shared) (u : Value) (ws : List Value), K.In s.heap → ws.length = ks.length → BindsTo s fd ⟨[u], ks.zip ws⟩ (ps.zip (u :: pick p ws))) ∧ FnG P w K mg base k f fd ps (spS CL K (n + 1) F)
section
variable {X : Cx} {B : Bd} {k j n C : Nat} {f : Addr} {fd : FuncData} {ps ks : List Str} {p : List Nat} {sp : Sp} {E : XK} {x : Str} {np pos : Pos} {kws : List Keyword} {F : List Vd → Mu → T (Vd × Mu)} {fa : FA}
theorem run_makeK {Ca : Addr} {pins : List (Addr × Obj)} {σ : L2.St} {H : Hp} {s : Shared} {Q : VK} {ws : List Value} {zs : List V} (M : Mk X.K Ca f) (F : FnG X.prog X.w X.K X.mg X.base k f fd ps sp) (hr : Rm (k + 1) X.A)
    (hb : ∀ (s : Shared) (u : Value) (ws : List Value), X.K.In s.heap → ws.length = ks.length → BindsTo s fd ⟨[u], ks.zip ws⟩ (ps.zip (u :: pick p ws)))
    (hx : Passes (L2.CX X.prog X.w) X E) (I : Inv X pins σ H s) (r : Vals zs ws) (hl : zs.length = ks.length)
    (h : ∀ x dx, H x = none → H dx = none → dx ≠ x → sp (.ref x :: pick p zs) (upd (upd H dx (.own x)) x (.ins Ca dx [])) (fun v H2 => v = .non ∧ Q (.ref x) H2) E) :
    wpAny (model X.prog X.w) X.A (call (.ref Ca) [] (ks.zip ws)) (EP X pins σ Q) X.xe s := by
  have hq := h (s.heap.objs.size + 1) s.heap.objs.size (I.hok.fresh (Nat.le_succ _)) (I.hok.fresh (Nat.le_refl _)) (Nat.ne_of_lt (Nat.lt_succ_self _))
  have I2 := Inv.made (C := Ca) I
  have r2 : Vals (V.ref (s.heap.objs.size + 1) :: pick p zs) (Value.ref (s.heap.objs.size + 1) :: pick p ws) := .cons rfl (pick_vals r p)
  refine wpAny_call (make_map (f := f) I.kIn M.makes M.init (beq_iff_eq.mp M.fn) (codeAny_mono (F.run _ X.stack _ _ ⟨[Value.ref (s.heap.objs.size + 1)], ks.zip ws⟩ (Value.ref (s.heap.objs.size + 1) :: pick p ws) _ _ E (hr.make Ca [] (ks.zip ws))
    (I2.env0.make Ca [] (ks.zip ws)) (hb _ _ ws I2.kIn (r.length.symm.trans hl)) r2 hq) fun r s' hq' => ?_))
  cases r with
  | error e => exact hx pins σ _ _ e s' I2 hq'
  | ok fl =>
    cases fl with
    | ret u =>
      obtain ⟨v, H', I3, rv, ev, q3⟩ := I2.after hq'
      subst ev
      exact ⟨rv, ⟨V.ref (s.heap.objs.size + 1), H', I3, rfl, q3⟩⟩
    | next => exact False.elim hq'
    | brk => exact False.elim hq'
    | cont => exact False.elim hq'
theorem se_makeK {CL : Nat → Addr} (m : Nat) (p : List Nat) (h : KlK X.prog X.w X.K X.mg X.base CL j x C n ks p F) (hm : ks.length = m) (hn : Ar n (mkD C F)) (hend : EndsNon F) (hr : Rm k X.A) (hj : j + 1 ≤ k) (hx : Lets X B) (hcl : B.g.cl = CL) (hkw : L2.PK X kws (tL B X.K fa)) (hg : Gl X x := by rfl) (hdb : (x == ("__debug__" : Str)) = false := by decide)
    (hall : (backToKw pos (keywordEach kws X.env)).all (·.1.isSome) = true := by rfl) (hks : (backToKw pos (keywordEach kws X.env)).filterMap (·.1) = ks := by rfl)
    (hpl : ((backTo pos (starEach [] X.env)).any (·.1) || (backToKw pos (keywordEach kws X.env)).any (·.1.isNone)) = false := by rfl) : PE X (.Call (.Name x np) [] kws pos) (tM B X.K (eCallF (mkD C F) (aPick m p fa))) := by
  subst hm
  obtain ⟨f, fd, ps, h1, h2, h3, h5⟩ := h.h
  obtain ⟨E, hp, hE⟩ := hx
  refine ⟨fun pins s σ H Q I q => ?_⟩
  have q2 := call_imp hcl (fa := aPick ks.length p fa) hE hn σ H Q q
  have q3 : tL B X.K fa σ H fun vs H1 => vs.length = ks.length ∧ spD CL X.K n (mkD C F) (pick p vs) H1 Q E := by
    obtain ⟨ρ, μ, W, b, R, h⟩ := q2
    refine ⟨ρ, μ, W, b, R, (T.All.bind h).mono fun ds n1 g1 vs W1 H1 k1 R1 r1 => ?_⟩
    by_cases z : ds.1.length = ks.length
    · rw [if_pos z] at g1
      exact ⟨r1.length.trans z, g1 _ W1 H1 k1 R1 (r1.pick p)⟩
    · rw [if_neg z] at g1; exact g1.elim
  refine wpAny_Call_Name_kw (ld_glob I hg h1 ?_ hdb)
  refine PySem.W.callWith_KW0 (h₀ := X.base) I.ok.mod.kin h2.kp hall ?_ hpl
  refine thn (hkw.run pos pins s σ H _ I q3) fun ws s2 ⟨zs, H2, I2, rz, l2, q4⟩ => ⟨I2.kIn, ?_⟩
  rw [hks]
  exact run_makeK h2 h5 (hr.mono hj) h3 hp I2 rz l2 fun x dx hx hdx hne => mk_imp q4 hx hdx hne hend
end
end Y

set_option Elab.async false
set_option linter.all false
set_option maxRecDepth 100000
set_option maxHeartbeats 3200000
/-! Y40: sorted(set([..])) of ints. -/
namespace Y
open PySem PySem.Spec PyProof.Rows L2
section
variable {P : Program} {w : World} {A : Around} {E : Value → Shared → Prop} {s : Shared}
/-- the set that set(..) starts with -/
abbrev so (w : World) : Obj := { cls := .type "set", dict := none, data := .set #[] 0 (.fresh 0 0 (!w.params.followText "set-order")) }
abbrev soS (w : World) (s : Shared) : Shared := { s with heap := s.heap.push (so w) }
/-- filled from ns: the set is the first thing that s has not -/
structure Fill (w : World) (s : Shared) (ns : List Int) (s₂ : Shared) : Prop where
  ex : ∃ (h' : Heap) (tk c : Nat), s₂ = { s with heap := h', toks := tk } ∧ SetR w h' s.heap.objs.size (fun j => decide (j ∈ ns)) c ∧ c ≤ ns.length ∧ ∀ b o, s.heap.get? b = some o → h'.get? b = some o
theorem int_vals {items : Array Value} {ns : List Int} (hit : IntsAre items.toList ns) : items.size = ns.length ∧ ∀ (i : Nat) (v : Value), items[i]? = some v → ∃ k t, ns[i]? = some k ∧ v = .int k t := by
  have e : items.size = ns.length := by rw [← Array.length_toList]; exact hit.length
  refine ⟨e, fun i v hv => ?_⟩
  have hi : i < ns.length := e ▸ (Array.getElem?_eq_some_iff.mp hv).1
  obtain ⟨t, q⟩ := hit.int_at i v (by rw [Array.getElem?_toList]; exact hv)
  rw [List.getD_eq_getElem?_getD, List.getElem?_eq_getElem hi] at q
  exact ⟨ns[i], t, List.getElem?_eq_getElem hi, q⟩
/-- S.__init__(l), S that set, l a list of ints -/
theorem fill_init {l : Addr} {items : Array Value} {ns : List Int} (hh : A.handled = none) (hl : s.heap.IsList l items) (hit : IntsAre items.toList ns) (hb : ns.length + 1 < scanBound) :
    codeAny (model P w) A (.call (.builtin "set.__init__") ⟨[.ref s.heap.objs.size, .ref l], []⟩) (wants (fun r s₂ => r = .none ∧ Fill w s ns s₂) E) (soS w s) := by
  obtain ⟨few, hval⟩ := int_vals hit
  have there : (s.heap.push (so w)).get? s.heap.objs.size = some (so w) := Heap.get?_push_size _ rfl
  refine codeAny_call_builtin F.called_set.init.plain F.entry_set_init (check_set_init_1 (s := soS w s) ⟨_, there, rfl⟩ ?_)
  obtain ⟨⟨_, od, _, osl⟩, lo, lc, ln, ld⟩ := hl
  simp only at lc ld
  subst lc ld
  have lt : l < s.heap.objs.size := Heap.lt_size lo
  have lo1 := Heap.get?_push_of_some (so w) lo
  have isl : (s.heap.push (so w)).IsList l items := ⟨_, lo1, rfl, _, rfl⟩
  have n1 := F.sub_list_set
  have n2 := F.sub_list_frozenset
  have n3 : (Value.type "list" == Value.type "dict") = false := by decide
  unfold Builtin.«set.__init__» noKeywords Builtin.Frozenset.updateFrom
  generalize hI : pyIter = I
  wp_walk
  subst hI
  refine wpAny_pyIter_list isl (wpAny_bind (wpAny_runValue ?_))
  have sz : (s.heap.push (so w)).objs.size = s.heap.objs.size + 1 := Heap.size_push ..
  have apart : s.heap.objs.size ∉ [(s.heap.push (so w)).objs.size, l] := by rw [sz]; simp only [List.mem_cons, List.not_mem_nil, or_false, not_or]; exact ⟨Nat.ne_of_lt (Nat.lt_succ_self _), Nat.ne_of_gt lt⟩
  refine set_update_ints ((Walks.list (by simp [hh]) _ l (by rw [sz]; exact Nat.ne_of_lt (Nat.lt_succ_of_lt lt)) items).toS) s.heap.objs.size apart ns few hb hval items.size 0 _ (by omega) (Nat.zero_le _) ⟨⟨_, Heap.get?_push_size _ rfl, rfl, rfl⟩, isl.push _⟩ ⟨0, Nat.le_refl 0, setR_new_at (Heap.get?_push_of_some _ there)⟩ ?_
  rintro ⟨h', g', d', tk', os'⟩ c hm hc hS
  obtain rfl : g' = s.gens := hm.gens
  obtain rfl : d' = s.drawn := hm.drawn
  obtain rfl : os' = s.os := hm.os
  refine wpAny_pure (wpAny_pure ⟨rfl, h', tk', c, rfl, hS, few ▸ hc, fun b o e => ?_⟩)
  have bl := Heap.lt_size e
  refine hm.heap b o (fun z => ?_) (Heap.get?_push_of_some _ (Heap.get?_push_of_some _ e))
  rcases List.mem_cons.mp z with q | q
  · exact Nat.lt_irrefl _ (q ▸ bl)
  · rw [List.mem_singleton.mp q, sz] at bl; exact Nat.lt_irrefl _ (Nat.lt_trans (Nat.lt_succ_self _) bl)
/-- set(l), l a list of ints -/
theorem set_lstI {l : Addr} {items : Array Value} (ns : List Int) {Q : Value → Shared → Prop} (hh : A.handled = none) (hl : s.heap.IsList l items) (hit : IntsAre items.toList ns) (hb : ns.length + 1 < scanBound)
    (h : ∀ (h' : Heap) (tk c : Nat), SetR w h' s.heap.objs.size (fun j => decide (j ∈ ns)) c → c ≤ ns.length → (∀ b o, s.heap.get? b = some o → h'.get? b = some o) → Q (.ref s.heap.objs.size) { s with heap := h', toks := tk }) :
    wpAny (model P w) A (call (.type "set") [.ref l]) Q E s := by
  obtain ⟨_, _, m⟩ := F.called_set.mro
  have made := F.called_set.made
  have sub := F.called_set.sub
  have nt := F.called_set.notType
  have cc := F.called_set.canCreate
  have tc := F.typeCall_set_1 (.ref l)
  refine wpAny_call (codeAny_of_tree (show wpAny _ _ (callAny (.type "set") _) _ _ _ from wpAny_pure ⟨Code.quiet_builtin _ (by decide +kernel), codeAny_builtin F.entry_type_call ?_⟩))
  rw [Around.under_plain (weight_type_call_type "set" [.ref l] []) rfl]
  repeat (any_goals (first | assumption | wp_step))
  refine codeAny_mono (code_set_led1 (.ref l) (E := E) (Q₁ := fun x s₁ => x = .ref s.heap.objs.size ∧ s₁ = soS w s) ⟨rfl, rfl⟩) fun r s₁ hr => ?_
  match r, hr with
  | .ok (.ret x), ⟨ex, es⟩ =>
    subst ex es
    have ty : Shared.TypeIs (soS w s) (.ref s.heap.objs.size) "set" := ⟨_, Heap.get?_push_size _ rfl, rfl⟩
    have lk := F.called_set.init.lookup
    have bd := F.called_set.init.bind (.ref s.heap.objs.size)
    repeat (any_goals (first | assumption | wp_step))
    refine codeAny_mono (fill_init (s := s) (E := E) (by simp [hh]) hl hit hb) fun r₂ s₂ hr₂ => ?_
    match r₂, hr₂ with
    | .ok (.ret y), ⟨ey, hF⟩ =>
      subst ey
      obtain ⟨h', tk, c, rfl, hS, hc, hk⟩ := hF.ex
      repeat (any_goals (first | assumption | wp_step))
      exact h h' tk c hS hc hk
    | .error e, hr₂ => exact hr₂
    | .ok .next, hr₂ => exact hr₂.elim
    | .ok .brk, hr₂ => exact hr₂.elim
    | .ok .cont, hr₂ => exact hr₂.elim
  | .error e, hr => exact hr
  | .ok .next, hr => exact hr.elim
  | .ok .brk, hr => exact hr.elim
  | .ok .cont, hr => exact hr.elim
end
/-- a set of ints of a list -/
def rSetI (K : PySem.W.Frag) (w : World) : List V → Hp → VK → Prop := fun xs H Q => ∃ (l : Addr) (ns : List Int), xs = [.ref l] ∧ SqL K H l (ns.map V.int) ∧ ns.length < 64 ∧
  ∀ p c, H p = none → c ≤ ns.length → Q (.ref p) (upd H p (SetO w p (fun j => decide (j ∈ ns)) c))
theorem cr_setI {X : Cx} (hc : X.calm = true) : CallR X (.type "set") (rSetI X.K X.w) := by
  intro pins s σ H xs us Q I r h
  obtain ⟨l, ns, rfl, hl, hn, q⟩ := h
  rw [Vals.ref1 r]
  obtain ⟨its, rv, pl, hz⟩ := I.list hl
  have hno : H s.heap.objs.size = none := I.hok.fresh (Nat.le_refl _)
  refine set_lstI (P := X.prog) (w := X.w) ns (I.ok.hd hc) pl.isList (by simpa using ints_of_vals rv) (by unfold scanBound; omega) fun h' tk c R hcl k => ?_
  exact ⟨.ref s.heap.objs.size, upd H s.heap.objs.size (SetO X.w s.heap.objs.size (fun j => decide (j ∈ ns)) c), I.laid (t' := tk) k (Nat.le_refl _) (setO_new R), rfl, q _ c hno hcl⟩
def insU (x : Int) : List Int → List Int
  | [] => [x]
  | y :: ys => if x < y then x :: y :: ys else if x = y then y :: ys else y :: insU x ys
def srtU : List Int → List Int
  | [] => []
  | x :: xs => insU x (srtU xs)
theorem insU_mem (x k : Int) : ∀ ys, k ∈ insU x ys ↔ k = x ∨ k ∈ ys
  | [] => by simp [insU]
  | y :: ys => by
    unfold insU
    by_cases h : x < y
    · rw [if_pos h]; simp
    · rw [if_neg h]
      by_cases h2 : x = y
      · rw [if_pos h2, h2]; simp
      · rw [if_neg h2, List.mem_cons, insU_mem x k ys, List.mem_cons]
        constructor
        · rintro (e | e | e)
          · exact .inr (.inl e)
          · exact .inl e
          · exact .inr (.inr e)
        · rintro (e | e | e)
          · exact .inr (.inl e)
          · exact .inl e
          · exact .inr (.inr e)
theorem srtU_mem (k : Int) : ∀ xs, k ∈ srtU xs ↔ k ∈ xs
  | [] => Iff.rfl
  | x :: xs => by
    show k ∈ insU x (srtU xs) ↔ _
    rw [insU_mem, srtU_mem k xs, List.mem_cons]
theorem insU_sorted (x : Int) : ∀ ys : List Int, ys.Pairwise (· < ·) → (insU x ys).Pairwise (· < ·)
  | [], _ => by simp [insU]
  | y :: ys, h => by
    unfold insU
    rw [List.pairwise_cons] at h
    by_cases q : x < y
    · rw [if_pos q, List.pairwise_cons, List.pairwise_cons]
      exact ⟨fun z hz => (List.mem_cons.mp hz).elim (fun e => by rw [e]; exact q) fun e => Int.lt_trans q (h.1 z e), h⟩
    · rw [if_neg q]
      by_cases q2 : x = y
      · rw [if_pos q2, List.pairwise_cons]; exact h
      · rw [if_neg q2, List.pairwise_cons]
        refine ⟨fun z hz => ?_, insU_sorted x ys h.2⟩
        rcases (insU_mem x z ys).mp hz with e | e
        · rw [e]; omega
        · exact h.1 z e
theorem srtU_sorted : ∀ xs, (srtU xs).Pairwise (· < ·)
  | [] => .nil
  | x :: xs => insU_sorted x _ (srtU_sorted xs)
theorem strict_one : ∀ {l1 l2 : List Int}, l1.Pairwise (· < ·) → l2.Pairwise (· < ·) → (∀ k, k ∈ l1 ↔ k ∈ l2) → l1 = l2
  | [], [], _, _, _ => rfl
  | [], y :: ys, _, _, m => absurd ((m y).mpr List.mem_cons_self) (by simp)
  | x :: xs, [], _, _, m => absurd ((m x).mp List.mem_cons_self) (by simp)
  | x :: xs, y :: ys, h1, h2, m => by
    rw [List.pairwise_cons] at h1 h2
    have e : x = y := by
      rcases List.mem_cons.mp ((m x).mp List.mem_cons_self) with e | e
      · exact e
      · rcases List.mem_cons.mp ((m y).mpr List.mem_cons_self) with e2 | e2
        · exact e2.symm
        · have a := h1.1 y e2; have b := h2.1 x e; omega
    subst e
    rw [strict_one h1.2 h2.2 fun k => ⟨fun hk => ?_, fun hk => ?_⟩]
    · rcases List.mem_cons.mp ((m k).mp (List.mem_cons_of_mem _ hk)) with e | e
      · have := h1.1 k hk; omega
      · exact e
    · rcases List.mem_cons.mp ((m k).mpr (List.mem_cons_of_mem _ hk)) with e | e
      · have := h2.1 k hk; omega
      · exact e
/-- sorted(set(e)), e a list of ints -/
def srtSet (μ : Mu) (x : Vd) : Option D := (drf μ x).bind fun d => (lstOf d).bind fun ds => (intsOf ds).bind fun l => if l.length < 64 then some (.lst ((srtU l).map .int)) else none
def eSrtSet (f : FE) : FE := fun ρ μ => (f ρ μ).bind fun p => (T.ofO (srtSet p.2 p.1)).bind fun d => .ret (.t d, p.2)
theorem bt_set : bootBuiltins "set" = some (.type "set") := by decide +kernel
theorem srtU_len : ∀ xs, (srtU xs).length ≤ xs.length
  | [] => Nat.le_refl _
  | x :: xs => by
    have h : ∀ ys : List Int, (insU x ys).length ≤ ys.length + 1 := fun ys => by
      induction ys with
      | nil => exact Nat.le_refl _
      | cons y ys ih =>
        unfold insU
        split
        · simp
        · split
          · simp
          · simp only [List.length_cons]; omega
    have := srtU_len xs
    show (insU x (srtU xs)).length ≤ xs.length + 1
    have := h (srtU xs)
    omega
section
variable {X : Cx} {B : Bd} {e : Expr} {f : FE} {p p2 q pos : Pos}
theorem se_srtSet (hs : X.mg "sorted" = none) (hs2 : X.mg "set" = none) (he : PE X e (tM B X.K f)) (hc : X.calm = true := by rfl) (hg : Gl X "sorted" := by rfl) (hg2 : Gl X "set" := by rfl)
    (n1 : starEach [e] X.env = (false, eval e X.env) :: starEach [] X.env := by rfl) (n2 : starEach [.Call (.Name "set" p2) [e] [] q] X.env = (false, eval (.Call (.Name "set" p2) [e] [] q) X.env) :: starEach [] X.env := by rfl) :
    PE X (.Call (.Name "sorted" p) [.Call (.Name "set" p2) [e] [] q] [] pos) (tM B X.K (eSrtSet f)) := by
  refine PEimp (pe_callB (cr_sortedSet hc) hg hs bt_sorted (pa_cons (pe_callTy (cr_setI hc) hg2 hs2 bt_set (pa_cons he pa_nil n1) (by decide) (by decide) n1 rfl) pa_nil n2) (by decide) (by decide) n2 rfl) fun σ H Q h => ?_
  obtain ⟨ρ, μ, W, n, R, h⟩ := h
  refine ⟨ρ, μ, W, n, R, (T.All.bind h).mono fun p n1 h1 v1 W1 H1 k1 R1 r1 => ?_⟩
  obtain ⟨d, ed, h2⟩ := T.All.ofO (T.All.bind h1)
  obtain ⟨d0, e0, ed1⟩ := bind_some ed
  have rd := drf_rd R1.st r1 e0
  obtain ⟨ds, el, ed2⟩ := bind_some ed1
  cases rd <;> try exact (nos el).elim
  rename_i a vs ds0 hl rs
  cases el
  obtain ⟨l, ei, ed3⟩ := bind_some ed2
  by_cases h64 : l.length < 64
  · rw [if_pos h64] at ed3
    cases ed3
    have ev := ints_of rs ei
    subst ev
    refine ⟨a, l, rfl, hl.sq, h64, fun p c hp hcl => ⟨p, _, c, rfl, upd_same, by omega, fun ns p' hs hm hn hp' => ?_⟩⟩
    have en : ns = srtU l := strict_one hs (srtU_sorted l) fun k => (hm k).trans (by rw [decide_eq_true_eq]; exact (srtU_mem k l).symm)
    subst en
    have s1 : Same H1 (upd H1 p (SetO X.w p (fun j => decide (j ∈ l)) c)) := same_new hp
    have s2 : Same H1 (upd (upd H1 p (SetO X.w p (fun j => decide (j ∈ l)) c)) p' (.lst ((srtU l).map V.int))) := fun b o z => same_new hp' b o (s1 b o z)
    refine h2 _ W1 _ (k1.trans (.same s2)) (R1.same s2) (.t ?_)
    exact new_lst (fun q hq => Same.there s1 R1.st.there q hq) hp' (rvs_ints _)
  · rw [if_neg h64] at ed3; cases ed3
end
end Y

set_option Elab.async false
set_option linter.all false
set_option maxRecDepth 100000
set_option maxHeartbeats 2000000
/-! Y41: a, b, c = x, y, z; list(x) as a thing that will change. -/
namespace Y
open PySem PySem.Spec PyProof.Rows L2
def sSet3 (i j l : Nat) (f1 f2 f3 : FE) : FS := fun ρ μ => (f1 ρ μ).bind fun p => (f2 ρ p.2).bind fun q => (f3 ρ q.2).bind fun r => .ret (.nx (((ρ.set i (some p.1)).set j (some q.1)).set l (some r.1)) r.2)
/-- list(x), x a list or a tuple -/
def eListS (f : FE) : FE := fun ρ μ => (f ρ μ).bind fun p => (T.ofO ((drf p.2 p.1).bind seqOf)).bind fun as => .ret (.r p.2.length, p.2 ++ [.lst as])
section
variable {X : Cx} {B : Bd} {a b c e : Expr} {f f1 f2 f3 : FE} {pos p q : Pos}
theorem ss_set3 (i j l : Nat) {x y z : Str} {px py pz pt : Pos} {kt k2 : Nat} {pt2 : Pos} (hc : X.calm = true) (hN : X.N.Nodup) (ha : PE X a (tM B X.K f1)) (hb : PE X b (tM B X.K f2)) (h3 : PE X c (tM B X.K f3)) (hij : i ≠ j := by decide) (hil : i ≠ l := by decide) (hjl : j ≠ l := by decide)
    (hi : X.N[i]? = some x := by rfl) (hj : X.N[j]? = some y := by rfl) (hl : X.N[l]? = some z := by rfl)
    (hx : X.env.scope.names.lookup x = some .local := by rfl) (hy : X.env.scope.names.lookup y = some .local := by rfl) (hz : X.env.scope.names.lookup z = some .local := by rfl)
    (hw : swappedStores [.Tuple [.Name x px, .Name y py, .Name z pz] kt pt] (.Tuple [a, b, c] k2 pt2) X.env = pure (some [x, y, z]) := by rfl)
    (hs : swapsWithSole [.Tuple [.Name x px, .Name y py, .Name z pz] kt pt] (.Tuple [a, b, c] k2 pt2) pos.line X.env = pure false := by rfl) (n1 : starEach [a, b, c] X.env = (false, eval a X.env) :: starEach [b, c] X.env := by rfl)
    (n2 : starEach [b, c] X.env = (false, eval b X.env) :: starEach [c] X.env := by rfl) (n3 : starEach [c] X.env = (false, eval c X.env) :: starEach [] X.env := by rfl) :
    PS X (.Assign [.Tuple [.Name x px, .Name y py, .Name z pz] kt pt] (.Tuple [a, b, c] k2 pt2) pos) (tS B X.K (sSet3 i j l f1 f2 f3)) :=
  PSimp (ps_par3 hc hN hi hj hl hij hil hjl hx hy hz (pa_cons ha (pa_cons hb (pa_cons h3 pa_nil n3) n2) n1) hw hs) fun Dn σ H ⟨ρ, μ, W, b, R, w⟩ => ⟨ρ, μ, W, b, R, (T.All.bind w).mono fun d1 b1 w1 v1 W1 H1 k1 R1 r1 => ⟨ρ, _, W1, b1, R1, (T.All.bind w1).mono fun d2 b2 w2 v2 W2 H2 k2 R2 r2 =>
    ⟨ρ, _, W2, b2, R2, (T.All.bind w2).mono fun d3 b3 w3 v3 W3 H3 k3 R3 r3 => ⟨v1, v2, v3, rfl, w3 _ H3 W3 ((k1.trans k2).trans k3) (((R3.put i ((r1.ext R1.st k2).ext R2.st k3)).put j (r2.ext R2.st k3)).put l r3)⟩⟩⟩⟩
theorem se_listS (hm : X.mg "list" = none) (he : PE X e (tM B X.K f)) (hg : Gl X "list" := by rfl) (n1 : starEach [e] X.env = (false, eval e X.env) :: starEach [] X.env := by rfl) :
    PE X (.Call (.Name "list" p) [e] [] pos) (tM B X.K (eListS f)) :=
  PEimp (pe_callTy call_list_of hg hm bt_list (pa_cons he pa_nil n1) (by decide) (by decide) n1 rfl) fun σ H Q h => by
    obtain ⟨ρ, μ, W, n, R, h⟩ := h
    refine ⟨ρ, μ, W, n, R, (T.All.bind h).mono fun p n1 h1 v1 W1 H1 k1 R1 r1 => ?_⟩
    obtain ⟨as, ed, h2⟩ := T.All.ofO (T.All.bind h1)
    obtain ⟨d0, e0, es⟩ := bind_some ed
    have rd := drf_rd R1.st r1 e0
    have fin : ∀ (vs : List V), RVs B.g X.K W1.o H1 vs as → ∀ l, H1 l = none → Q (.ref l) (upd H1 l (.lst vs)) := fun vs rs l hp => by
      obtain ⟨R2, e2, r2⟩ := R1.newC (ob := .lst vs) (c := .lst as) hp (.lst upd_same (rs.keep (.of (same_new hp)) (hs_new hp)))
      exact h2 _ _ _ (k1.trans e2) R2 r2
    cases rd <;> try exact (nos es).elim
    · rename_i a vs ds hl rs
      cases es
      exact ⟨a, vs, rfl, .inl hl.sq, fin vs rs⟩
    · rename_i a vs ds hl rs
      cases es
      exact ⟨a, vs, rfl, .inr hl.sq, fin vs rs⟩
end
end Y

set_option Elab.async false
set_option linter.all false
set_option maxRecDepth 100000
set_option maxHeartbeats 2000000
/-! Y42: TABLE[key]; bool(x). -/
namespace Y
open PySem PySem.Spec PyProof.Rows L2
section
variable {X : Cx} {B : Bd} {x : Str} {tab : List (Str × D)} {e : Expr} {f : FE} {np pos apos : Pos}
theorem se_tabIx (t : KTab X.K X.w X.mg x tab) (ha : PE X e (tM B X.K f)) (hg : Gl X x := by rfl) (hdb : (x == ("__debug__" : Str)) = false := by decide) (hs : PlainIx e := by exact fun _ _ => rfl) :
    PE X (.Subscript (.Name x np) e pos) (tM B X.K (eOp1 (opTabIx tab) f)) := by
  obtain ⟨d, es, n, h1, h2, _, h3⟩ := t.h
  refine PEimp (pe_ix ix_kdict (pe_glob hg h1 (v := .ref d) rfl hdb) ha hs) (op1_imp fun g0 O H y a dd Q hO ra ea q => ?_)
  cases ra <;> try exact (nos ea).elim
  rename_i z
  have ea : tabAt tab z = some dd := ea
  obtain ⟨r, e1, e2⟩ := h3 z
  rw [ea] at e2
  obtain ⟨u, v, e2, rv, e4⟩ := e2
  subst e2
  exact ⟨d, z, v, rfl, rfl, ⟨es, n, u, h2.at_, h2.lit, e1, rv⟩, q v H (Same.refl H) (e4 _ _ _)⟩
def opBool : List D → Option D := op1 fun x => match x with
  | .int i => some (.bl (i != 0))
  | .bl k => some (.bl k)
  | _ => none
theorem vc_bool {K : PySem.W.Frag} : VCall K (fun xs H Q => (∃ i, xs = [.int i] ∧ Q (.bl (i != 0)) H) ∨ ∃ k, xs = [.bl k] ∧ Q (.bl k) H) opBool := vc_one fun pa O H x a d Q hO ra e q => by
  cases ra <;> try exact (nos e).elim
  · cases e; exact .inr ⟨_, rfl, q _ H (Same.refl H) (.bl _)⟩
  · cases e; exact .inl ⟨_, rfl, q _ H (Same.refl H) (.bl _)⟩
end
end Y

set_option Elab.async false
set_option linter.all false
set_option maxRecDepth 100000
set_option maxHeartbeats 2000000
/-! Y43: a, b, c = x, y, z where one of the names is a cell (a lambda sees it). -/
namespace Y
open PySem PySem.Spec PyProof.Rows L2
section
variable {X : Cx} {B : Bd} {a b c e : Expr} {f f1 f2 f3 : FE} {pos p q : Pos}
theorem ss_set3c (i j l : Nat) {x y z : Str} {px py pz pt : Pos} {kt k2 : Nat} {pt2 : Pos} (hc : X.calm = true) (ha : PE X a (tM B X.K f1)) (hb : PE X b (tM B X.K f2)) (h3 : PE X c (tM B X.K f3))
    (hg : PG X (.Tuple [.Name x px, .Name y py, .Name z pz] kt pt) (gOf X.K (.tup [i, j, l])))
    (n1 : starEach [a, b, c] X.env = (false, eval a X.env) :: starEach [b, c] X.env := by rfl)
    (n2 : starEach [b, c] X.env = (false, eval b X.env) :: starEach [c] X.env := by rfl) (n3 : starEach [c] X.env = (false, eval c X.env) :: starEach [] X.env := by rfl)
    (hs : swapsWithSole [.Tuple [.Name x px, .Name y py, .Name z pz] kt pt] (.Tuple [a, b, c] k2 pt2) pos.line X.env = pure false := by rfl) (hw : swappedStores [.Tuple [.Name x px, .Name y py, .Name z pz] kt pt] (.Tuple [a, b, c] k2 pt2) X.env = pure none := by rfl)
    (h1 : (assignEach [.Tuple [.Name x px, .Name y py, .Name z pz] kt pt] X.env).map (·.2) = [assign (.Tuple [.Name x px, .Name y py, .Name z pz] kt pt) X.env] := by rfl) :
    PS X (.Assign [.Tuple [.Name x px, .Name y py, .Name z pz] kt pt] (.Tuple [a, b, c] k2 pt2) pos) (tS B X.K (sSet3 i j l f1 f2 f3)) := by
  refine PSimp (ps_asg (pe_tup (pa_cons ha (pa_cons hb (pa_cons h3 pa_nil n3) n2) n1)) hg hs hw h1) fun Dn σ H ⟨ρ, μ, W, b, R, w⟩ => ⟨ρ, μ, W, b, R, (T.All.bind w).mono fun d1 b1 w1 v1 W1 H1 k1 R1 r1 => ⟨ρ, _, W1, b1, R1, (T.All.bind w1).mono fun d2 b2 w2 v2 W2 H2 k2 R2 r2 =>
    ⟨ρ, _, W2, b2, R2, (T.All.bind w2).mono fun d3 b3 w3 v3 W3 H3 k3 R3 r3 => ?_⟩⟩⟩
  refine ⟨(by show 3 ≤ sizeLine; decide), fun t ht => ⟨t, _, rfl, SqT.of upd_same, rfl, _, _, rfl, _, _, rfl, _, _, rfl, rfl, ?_⟩⟩
  have sm : Same H3 (upd H3 t (.tup [v1, v2, v3])) := same_new ht
  have R4 := (((R3.put i ((r1.ext R1.st k2).ext R2.st k3)).put j (r2.ext R2.st k3)).put l r3).same sm
  exact w3 _ _ W3 (((k1.trans k2).trans k3).trans (.same sm)) R4
end
end Y

set_option Elab.async false
set_option linter.all false
set_option maxRecDepth 100000
set_option maxHeartbeats 2000000
/-! Y44: the law's own call, where the law makes lambdas: its table of code is known. -/
namespace Y
open PySem PySem.Spec PyProof.Rows L2
/-- nothing is known but the script, at most, and the table -/
def OnlyP (P : Addr) (T : Hp) : Prop := T P = some (.tbl #[]) ∧ ∀ b, b ≠ P → T b = none ∨ ∃ o xs, T b = some (.frz o (.lst xs))
section
variable {P : Program} {w : World} {K : PySem.W.Frag} {mg mb : Str → Option Value} {k : Nat} {fa a c Pt : Addr} {fd : FuncData} {x : Str} {sp : Sp} {s1 : Shared} {vals : List Value} {ns : List Int}
theorem lawT_from (T : Hp) (kin : K.In s1.heap) (nsG : s1.heap.Ns mainGlobals mg) (nsB : s1.heap.Ns builtinsNs mb) (isB : ∀ y : Str, y ≠ "__name__" → mb y = bootBuiltins y) (nolim : s1.heap.NoLimit) (ngen : s1.gens = #[])
    (hP : s1.heap.get? Pt = some { cls := .none, data := .fields #[] }) (nP : K.lookup Pt = none) (hcd : PySem.W.CodeHd s1.heap c Pt)
    (hbm : ∃ (bm : Addr) (ob : Obj), mg "__builtins__" = some (.ref bm) ∧ bm ≠ builtinsNs ∧ s1.heap.get? bm = some ob ∧ ob.cls = .type "module" ∧ ob.dict = some builtinsNs ∧ ob.data = .plain)
    (hscr : s1.heap.get? a = some { cls := .type "list", data := .seq vals.toArray }) (room : Rm k callerA) (F : ∀ base : Heap, K.In base → base.Ns mainGlobals mg → LamX.TabB base mg c Pt → FnG P w K mg base k fa fd [x] sp) (bnd : ∀ (s : Shared) (u : Value), BindsTo s fd ⟨[u], []⟩ [(x, u)])
    (only : OnlyP Pt T) (hok : HOk P w T s1.heap) (atA : ∀ b, T b ≠ none → b = a ∨ b = Pt) (notK : T a ≠ none → K.lookup a = none) (prom : sp [.ref a] T (fun v _ => v = .bl true) fun _ _ _ => False) :
    codeAny (model P w) callerA (.call (.ref fa) ⟨[.ref a], []⟩) (fun r s' => r = .ok (.ret (.bool true)) ∧ OldK s1.heap s'.heap ∧ s'.os = s1.os ∧ AllBare s'.gens) s1 := by
  -- what is neither the script nor the table stands as it stood
  have away : ∀ {b : Addr} {o : Obj}, s1.heap.get? b = some o → (∀ vs n, o.data ≠ .seq vs n) → o.data ≠ .fields #[] → T b = none := fun {b o} h1 h2 h3 => by
    cases hb : T b with
    | none => rfl
    | some u =>
      rcases atA b (by rw [hb]; exact fun z => nomatch z) with e | e
      · rw [e, hscr] at h1; cases h1; exact (h2 _ _ rfl).elim
      · rw [e, hP] at h1; cases h1; exact (h3 rfl).elim
  have bare : ∀ {b : Addr} {o : Obj}, s1.heap.get? b = some o → (∀ vs n, o.data ≠ .seq vs n) → o.data ≠ .fields #[] → (hidT s1.heap T).get? b = some o := fun h1 h2 h3 => hidT_get h1 (away h1 h2 h3)
  have carry : ∀ {b : Addr} {m : Str → Option Value}, s1.heap.Ns b m → (hidT s1.heap T).Ns b m := fun {b m} hn => by
    obtain ⟨o, es, ep, h1, h2, h3⟩ := hn
    exact ⟨o, es, ep, bare h1 (fun _ _ z => nomatch h2.symm.trans z) (fun z => nomatch h2.symm.trans z), h2, h3⟩
  have kinB : K.In (hidT s1.heap T) := by
    intro b o hl
    refine hidT_get (kin b o hl) ?_
    cases hb : T b with
    | none => rfl
    | some u =>
      rcases atA b (by rw [hb]; exact fun z => nomatch z) with e | e
      · subst e
        rw [notK (by rw [hb]; exact fun z => nomatch z)] at hl; cases hl
      · rw [e, nP] at hl; cases hl
  have md : Mod K mg (hidT s1.heap T) := by
    obtain ⟨mc, l1, l2⟩ := nolim
    exact ⟨kinB, carry nsG, ⟨mb, carry nsB, isB⟩, ⟨mc, carry l1, l2⟩⟩
  have TB : LamX.TabB (hidT s1.heap T) mg c Pt := by
    refine ⟨?_, ?_, fun z => ?_⟩
    · obtain ⟨o, us, file, tf, flags, tg, inF, text, tt, e1, r1, r2, r3, r⟩ := hcd
      exact ⟨o, us, file, tf, flags, tg, inF, text, tt, bare e1 (fun _ _ z => nomatch r2.symm.trans z) (fun z => by have e := Data.fields.inj (r2.symm.trans z); rw [e] at r3; simp at r3), r1, r2, r3, r⟩
    · obtain ⟨bm, ob, b1, b2, b3, b4, b5, b6⟩ := hbm
      have nG : bm ≠ mainGlobals := fun q => by
        obtain ⟨o, es, ep, e, hd, _⟩ := nsG
        rw [q, e] at b3; cases b3
        exact nomatch hd.symm.trans b6
      have nQ : bm ≠ Pt := fun q => by
        rw [q, hP] at b3; cases b3; exact nomatch b6
      exact ⟨bm, ob, b1, b2, nG, nQ, bare b3 (fun _ _ z => nomatch b6.symm.trans z) (fun z => nomatch b6.symm.trans z), b4, b5, b6⟩
    · obtain ⟨o, es, ep, e, hd, _⟩ := nsG
      rw [z, hP] at e; cases e; exact nomatch hd
  have entry : Env0 P w K mg (hidT s1.heap T) callerA [] s1 T := ⟨rfl, md, fun _ _ => of_hidT, Nat.le_of_eq (hidT_size _ _), trivial, fun _ hb => (List.not_mem_nil hb).elim, hok, .of_eq ngen⟩
  refine codeAny_mono ((F _ kinB (carry nsG) TB).run callerA [] s1 T ⟨[.ref a], []⟩ [.ref a] [.ref a] _ _ room entry (bnd s1 (.ref a)) (.cons rfl .nil) prom) fun res s' got => ?_
  match res, got with
  | .error e, got =>
    obtain ⟨_, _, _, _, _, _, _, _, _, _, _, _, z⟩ := got
    exact z.elim
  | .ok .next, got => exact got.elim
  | .ok .brk, got => exact got.elim
  | .ok .cont, got => exact got.elim
  | .ok (.ret u), got =>
    obtain ⟨v, T', eos, egens, un, hok', rv, ev⟩ := got
    replace ev : v = .bl true := ev
    subst ev
    obtain rfl : u = Value.bool true := rv
    have key : ∀ b o, b ≠ Pt → s1.heap.get? b = some o → s'.heap.get? b = some o := fun b o nb h1 => by
      rcases only.2 b nb with hb | ⟨ob, xs, hb⟩
      · exact un.keep b o h1 hb (fun z => (List.not_mem_nil z).elim) (fun z => (List.not_mem_nil z).elim)
      · have g1 := (hok b _ hb).1
        have g2 := (hok' b _ (un.frzs b ob _ hb)).1
        rw [h1] at g1
        cases g1
        exact g2
    obtain ⟨more, hmore⟩ := un.tbls Pt #[] only.1
    have grown : s'.heap.get? Pt = some { cls := .none, data := .fields (#[] ++ more) } := hok' Pt _ hmore
    rw [Array.empty_append] at grown
    refine ⟨rfl, ⟨fun b o e => ?_, fun b o e => ?_⟩, eos, egens⟩
    · by_cases hb : b = Pt
      · subst hb
        rw [hP] at e; cases e
        exact .inr (.inl ⟨(hcd.tab hP).isCodeTable, rfl, #[], more, rfl, by rw [Array.empty_append]; exact grown⟩)
      · exact .inl (key b o hb e)
    · by_cases hb : b = Pt
      · subst hb; exact ⟨_, grown⟩
      · exact ⟨o, key b o hb e⟩
theorem lawT_whole (kin : K.In s1.heap) (nsG : s1.heap.Ns mainGlobals mg) (nsB : s1.heap.Ns builtinsNs mb) (isB : ∀ y : Str, y ≠ "__name__" → mb y = bootBuiltins y) (nolim : s1.heap.NoLimit) (ngen : s1.gens = #[])
    (hP : s1.heap.get? Pt = some { cls := .none, data := .fields #[] }) (nP : K.lookup Pt = none) (hcd : PySem.W.CodeHd s1.heap c Pt)
    (hbm : ∃ (bm : Addr) (ob : Obj), mg "__builtins__" = some (.ref bm) ∧ bm ≠ builtinsNs ∧ s1.heap.get? bm = some ob ∧ ob.cls = .type "module" ∧ ob.dict = some builtinsNs ∧ ob.data = .plain)
    (hscr : s1.heap.get? a = some { cls := .type "list", data := .seq vals.toArray }) (hnt : IntsAre vals ns) (few : ns.length ≤ sizeLine) (room : Rm k callerA) (F : ∀ base : Heap, K.In base → base.Ns mainGlobals mg → LamX.TabB base mg c Pt → FnG P w K mg base k fa fd [x] sp) (bnd : ∀ (s : Shared) (u : Value), BindsTo s fd ⟨[u], []⟩ [(x, u)])
    (prom : ∀ T : Hp, OnlyP Pt T → SqL K T a (ns.map V.int) → sp [.ref a] T (fun v _ => v = .bl true) fun _ _ _ => False) :
    codeAny (model P w) callerA (.call (.ref fa) ⟨[.ref a], []⟩) (fun r s' => r = .ok (.ret (.bool true)) ∧ OldK s1.heap s'.heap ∧ s'.os = s1.os ∧ AllBare s'.gens) s1 := by
  have vv := vals_ints hnt
  have na : a ≠ Pt := fun z => by
    rw [z, hP] at hscr
    have z' : Data.seq vals.toArray _ = Data.fields #[] := (congrArg Obj.data (Option.some.inj hscr)).symm
    exact nomatch z'
  cases hk : K.lookup a with
  | some o =>
    have same := kin a o hk
    rw [hscr] at same
    cases same
    let T : Hp := fun b => if b = Pt then some (.tbl #[]) else none
    have hit : T Pt = some (.tbl #[]) := if_pos rfl
    have miss : ∀ {b}, b ≠ Pt → T b = none := fun h => if_neg h
    have only : OnlyP Pt T := ⟨hit, fun b hb => .inl (miss hb)⟩
    refine lawT_from T kin nsG nsB isB nolim ngen hP nP hcd hbm hscr room F bnd only (fun b u z => ?_) (fun b z => ?_) (fun z => (z (miss na)).elim) (prom _ only (.inr ⟨_, vals.toArray, _, hk, rfl, rfl, rfl, ?_, ?_⟩))
    · by_cases hb : b = Pt
      · subst hb; rw [hit] at z; cases z; exact hP
      · rw [miss hb] at z; cases z
    · by_cases hb : b = Pt
      · exact .inr hb
      · exact (z (miss hb)).elim
    · rw [List.size_toArray, hnt.length]; exact few
    · simpa using vv
  | none =>
    let T : Hp := fun b => if b = a then some (.frz { cls := .type "list", data := .seq vals.toArray } (.lst (ns.map V.int))) else if b = Pt then some (.tbl #[]) else none
    have hit : T a = some (.frz { cls := .type "list", data := .seq vals.toArray } (.lst (ns.map V.int))) := if_pos rfl
    have hit2 : T Pt = some (.tbl #[]) := (if_neg (Ne.symm na)).trans (if_pos rfl)
    have miss : ∀ {b}, b ≠ a → b ≠ Pt → T b = none := fun h h2 => (if_neg h).trans (if_neg h2)
    have only : OnlyP Pt T := ⟨hit2, fun b hn => by
      by_cases hb : b = a
      · subst hb; exact .inr ⟨_, _, hit⟩
      · exact .inl (miss hb hn)⟩
    refine lawT_from T kin nsG nsB isB nolim ngen hP nP hcd hbm hscr room F bnd only (fun b u z => ?_) (fun b z => ?_) (fun _ => hk) (prom T only (.inl (.inr ⟨_, hit⟩)))
    · by_cases hb : b = a
      · subst hb
        rw [hit] at z; cases z
        exact ⟨hscr, by rw [List.length_map]; exact few, vals, _, vv, hscr⟩
      · by_cases h2 : b = Pt
        · subst h2; rw [hit2] at z; cases z; exact hP
        · rw [miss hb h2] at z; cases z
    · by_cases hb : b = a
      · exact .inl hb
      · by_cases h2 : b = Pt
        · exact .inr h2
        · exact (z (miss hb h2)).elim
end
/-- what the head leaves to be shown, a law with lambdas -/
theorem walkT {l : PySem.W.OpenLaw} {n k : Nat} {q : Program} {loose : List Str} {XP : (Str → Option Value) → Heap → Prop} {YP : World → Heap → Prop} {d : DefRec} {K : Params → PySem.W.Frag} {x : Str}
    (hn : l.most = some n) (hn2 : n ≤ sizeLine) (hdf : d.params.defaults = []) (room : Rm k callerA) (hY : ∀ (w : World) (h : Heap), YP w h → (K w.params).In h)
    (F : ∀ (w : World) (mg : Str → Option Value) (fa : Addr) (h : Heap), YP w h → (K w.params).In h → h.Ns mainGlobals mg → mg d.name = some (.ref fa) →
      ∃ (fd : FuncData) (c Pt : Addr) (sp : Sp), (∀ (s : Shared) (u : Value), BindsTo s fd ⟨[u], []⟩ [(x, u)]) ∧ h.get? Pt = some { cls := .none, data := .fields #[] } ∧ (K w.params).lookup Pt = none ∧ PySem.W.CodeHd h c Pt ∧
        (∀ (H : Hp) (a : Addr) (ns : List Int), ns.length ≤ n → OnlyP Pt H → SqL (K w.params) H a (ns.map V.int) → sp [.ref a] H (fun v _ => v = .bl true) fun _ _ _ => False) ∧
        ∀ base : Heap, (K w.params).In base → base.Ns mainGlobals mg → LamX.TabB base mg c Pt → FnG l.prog w (K w.params) mg base k fa fd [x] sp) :
    PySem.W.WalkO q loose XP YP l.row.toRowW d [] (fun f vs => PySem.call f vs) := by
  refine Att.attach_call hn hdf fun w s₀ s₁ mg mb fa o pm cd doc a vs ns G Y ho hd hcd hmg hobj hints hlen hg => ?_
  have kin := hY w _ Y
  obtain ⟨fd, c, Pt, sp, hb, hP, nP, hcd, prom, hF⟩ := F w mg fa _ Y kin G.T.g hmg
  exact lawT_whole kin G.T.g G.T.b G.T.builtins G.T.nolimit hg hP nP hcd G.T.bmain hobj hints (Nat.le_trans hlen hn2) room hF hb fun H hO hS => prom H a ns hlen hO hS
end Y

set_option Elab.async false
set_option linter.all false
set_option maxRecDepth 100000
set_option maxHeartbeats 2000000
/-! Y45: tests: == and != of own classes, not in a table. -/
namespace Y
open PySem PySem.Spec PyProof.Rows L2
section
variable {X : Cx} {B : Bd} {CL : Nat → Addr} {cs : List Nat} {sup : Nat → Nat → Bool} {k j C : Nat} {F : List Vd → Mu → T (Vd × Mu)} {a b e : Expr} {fo fe f : FE} {pos np : Pos} {tab : List (Str × D)} {x : Str}
theorem own_imp {E : XK} (h : EqK X.prog X.w X.K X.mg X.base CL cs j C F) (S : IsaK X.K CL cs sup) (hE : LetE X B E) (hcl : B.g.cl = CL) (σ : L2.St) (H : Hp) (Q : VK) (q : tM B X.K (eOwn cs C F fo fe) σ H Q) : tOp (rOwn X.K (CL C) (spS CL X.K 2 F) E) (tM B X.K fo) (tM B X.K fe) σ H Q := by
  obtain ⟨ρ, μ, W, n, R, w⟩ := q
  refine ⟨ρ, μ, W, n, R, (T.All.bind w).mono fun o n1 w1 v1 W1 H1 k1 R1 r1 => ⟨ρ, o.2, W1, n1, R1, (T.All.bind w1).mono fun p n2 w2 v2 W2 H2 k2 R2 r2 => ?_⟩⟩
  have r1 := r1.ext R1.st k2
  by_cases hi : instOf C "__eq__" p.2 o.1 = true
  · rw [if_pos hi] at w2
    obtain ⟨a, dx, fs, rfl, g1, _⟩ := inst_ok hcl R2.st r1 hi
    obtain ⟨t, et, w3⟩ := T.All.ofO (T.All.bind w2)
    obtain ⟨d, ed, ek⟩ := bind_some et
    have ty := kOf_ty S hcl (drf_rd R2.st r2 ed) ek
    refine ⟨a, dx, fs, _, rfl, g1, ty, ?_, rfl, B.g, W2, p.2, n2, [o.1, p.1], hcl, R2.st, .cons r1 (.cons r2 .nil), T.All.mono2 w3 (fun q b' hq v W' H' ex st mo rv => hq v W' H' ((k1.trans k2).trans ex) (R2.go ex st fun a h => mo a (R2.mono a h)) rv) fun C fs es b' y d H' pk ex => hE C fs es b' d H' y (R2.outS pk) (R2.exat ex)⟩
    cases t with
    | inl t => exact h.nt t
    | inr D => exact h.nc D (kOf_mem ek)
  · rw [if_neg hi] at w2; exact w2.elim
theorem ownN_imp {E : XK} (h : EqK X.prog X.w X.K X.mg X.base CL cs j C F) (S : IsaK X.K CL cs sup) (hE : LetE X B E) (hcl : B.g.cl = CL) (σ : L2.St) (H : Hp) (Q : VK) (q : tM B X.K (eOwnN cs C F fo fe) σ H Q) : tOp (rOwnN X.K (CL C) (spS CL X.K 2 F) E) (tM B X.K fo) (tM B X.K fe) σ H Q := by
  obtain ⟨ρ, μ, W, n, R, w⟩ := q
  refine ⟨ρ, μ, W, n, R, (T.All.bind w).mono fun o n1 w1 v1 W1 H1 k1 R1 r1 => ⟨ρ, o.2, W1, n1, R1, (T.All.bind w1).mono fun p n2 w2 v2 W2 H2 k2 R2 r2 => ?_⟩⟩
  have r1 := r1.ext R1.st k2
  by_cases hi : instOf C "__eq__" p.2 o.1 = true
  · rw [if_pos hi] at w2
    obtain ⟨a, dx, fs, rfl, g1, _⟩ := inst_ok hcl R2.st r1 hi
    obtain ⟨t, et, w3⟩ := T.All.ofO (T.All.bind w2)
    obtain ⟨d, ed, ek⟩ := bind_some et
    have ty := kOf_ty S hcl (drf_rd R2.st r2 ed) ek
    refine ⟨a, dx, fs, _, rfl, g1, ty, ?_, rfl, B.g, W2, p.2, n2, [o.1, p.1], hcl, R2.st, .cons r1 (.cons r2 .nil), T.All.mono2 (T.All.bind w3) (fun q b' w4 v W' H' ex st mo rv => ?_) fun C fs es b' y d H' pk ex => hE C fs es b' d H' y (R2.outS pk) (R2.exat ex)⟩
    · cases t with
      | inl t => exact h.nt t
      | inr D => exact h.nc D (kOf_mem ek)
    · obtain ⟨kk, e1, w5⟩ := T.All.ofO (T.All.bind w4)
      exact ⟨kk, blV rv e1, w5 _ W' H' ((k1.trans k2).trans ex) (R2.go ex st fun a h => mo a (R2.mono a h)) (.t (.bl _))⟩
  · rw [if_neg hi] at w2; exact w2.elim
theorem sk_own (h : EqK X.prog X.w X.K X.mg X.base CL cs j C F) (S : IsaK X.K CL cs sup) (hn : ArS 2 F) (hr : Rm k X.A) (hu : X.A.units < cLine) (hj : j ≤ k) (hx : Lets X B) (hcl : B.g.cl = CL) (ha : PE X a (tM B X.K fo)) (hb : PE X b (tM B X.K fe))
    (hm : behindInMarks .Eq b = false := by first | exact nomark _ | rfl) : PT X (.Compare a [.Eq] [b] pos) (tK B X.K (kBl (eOwn cs C F fo fe))) := by
  obtain ⟨f, fd, ps, h1, h2, h3, h4⟩ := h.h
  obtain ⟨E, hp, hE⟩ := hx
  exact PTimp (pt_cmpR (op_own h1 h2 h4 (hr.mono hj) hu h3 hp) ha hb hm) fun σ H Q q => own_imp h S hE hcl σ H _ (kbl_imp σ H Q q)
theorem sk_ownN (h : EqK X.prog X.w X.K X.mg X.base CL cs j C F) (N : NeK X.K CL C) (S : IsaK X.K CL cs sup) (hn : ArS 2 F) (hr : Rm k X.A) (hu : X.A.units + 1 < cLine) (hj : j + 1 ≤ k) (hx : Lets X B) (hcl : B.g.cl = CL) (ha : PE X a (tM B X.K fo)) (hb : PE X b (tM B X.K fe))
    (hm : behindInMarks .NotEq b = false := by first | exact nomark _ | rfl) : PT X (.Compare a [.NotEq] [b] pos) (tK B X.K (kBl (eOwnN cs C F fo fe))) := by
  obtain ⟨f, fd, ps, h1, h2, h3, h4⟩ := h.h
  obtain ⟨E, hp, hE⟩ := hx
  exact PTimp (pt_cmpR (op_ownN h1 N.h1 h2 N.h2 h4 (hr.mono hj) hu h3 hp) ha hb hm) fun σ H Q q => ownN_imp h S hE hcl σ H _ (kbl_imp σ H Q q)
theorem tab_nin_v {d : Addr} (h3 : ∀ z, ∃ r, PySem.W.nsIn X.K d z = some r ∧ (match tabAt tab z with | some dd => ∃ u v, r = some u ∧ RelV v u ∧ ∀ g O H, RV g X.K O H v dd | none => r = none)) :
    VOp1 X.K (fun x H Q => (∃ (z : Str) (r : Option Value), x = .str z ∧ V.ref d = .ref d ∧ PySem.W.nsIn X.K d z = some r ∧ Q (.bl (!r.isSome)) H)) (opTabNotIn tab) := fun g0 O H y a dd Q hO ra ea q => by
  cases ra <;> try exact (nos ea).elim
  rename_i z
  cases ea
  obtain ⟨r, e1, e2⟩ := h3 z
  refine ⟨z, r, rfl, rfl, e1, ?_⟩
  have e3 : r.isSome = (tabAt tab z).isSome := by
    revert e2
    cases tabAt tab z with
    | none => intro e2; have e2 : r = none := e2; subst e2; rfl
    | some dd => intro ⟨u, v, e2, _⟩; subst e2; rfl
  rw [e3]
  exact q _ H (Same.refl H) (.bl _)
theorem sk_tabNotIn (t : KTab X.K X.w X.mg x tab) (ha : PE X e (tM B X.K f)) (hg : Gl X x := by rfl) (hdb : (x == ("__debug__" : Str)) = false := by decide) (hm : behindInMarks .NotIn (.Name x np) = false := by first | exact nomark _ | rfl) :
    PT X (.Compare e [.NotIn] [.Name x np] pos) (tK B X.K (kBl (eOp1 (opTabNotIn tab) f))) := by
  obtain ⟨d, es, n, h1, h2, _, h3⟩ := t.h
  exact PTimp (pt_cmpR (op_notIn_kd h2) ha (pe_glob hg h1 (v := .ref d) rfl hdb) hm) (tab_r (r := fun x y H Q => ∃ (z : Str) (r : Option Value), x = .str z ∧ y = .ref d ∧ PySem.W.nsIn X.K d z = some r ∧ Q (.bl (!r.isSome)) H) (tab_nin_v h3))
end
end Y

set_option Elab.async false
set_option linter.all false
set_option maxRecDepth 100000
set_option maxHeartbeats 4000000
/-! Y46: x(lambda: e) where the lambda's body may call what asks of the guards (the kit's own rule tells of room alone). -/
namespace Y
open PySem PySem.Spec PyProof.Rows L2 LamX
section
variable {X : Cx} {pins : List (Addr × Obj)} {σ : L2.St} {H HZ : Hp} {s s1 : Shared}
theorem act_gd {CXg : CXT} {Eg : XK} {Ng : List Str} {qg : Str} {sg : Scope} {g f c' : Addr} {cdg pm ctv : Value} {params : Arguments} {body : Expr} {scope : Scope} {k i : Nat} {a : Str} {pn : List (Addr × Obj)} {xe : Value → Shared → Prop} {W : WX} {E : XK} {tb : TE} {p1 p2 : Pos}
    (I : Inv X pins σ H s) (L : LamS X.env.scope scope) (hf : s.heap.get? f = some (PySem.W.kla_obj "<lambda>" (X.env.qual ++ "<lambda>") params body scope (cloFrom X.env.cells scope.names []) pm c' ctv)) (hfn : H f = none) (hfr : f ∉ frs X.stack)
    (hbind : bindArgs (PySem.W.kla_fn "<lambda>" (X.env.qual ++ "<lambda>") params body scope (cloFrom X.env.cells scope.names []) pm (.ref c') ctv) ⟨[], []⟩ = pure [])
    (tk : Takes ((cxOf CXg X.prog X.w X.K X.mg X.base Ng qg sg g cdg X.A X.stack s H Eg).tr pn xe) W) (hW : ∀ cls d σ' H', E cls d H' → W cls d σ' H') (hr : Rm (k + 1) (X.A.deeper (envOfC qg sg s.heap.objs.size g cdg)))
    (hbody : ∀ (A : Around) (outer : List Env) (s : Shared) (H : Hp), Rm k (A.deeper (lamEnv X scope s.heap.objs.size f c')) → PE (lamCx X A outer s H E scope f c') body tb)
    (hN : Ng[i]? = some a) (hv : Vis sg a) (hd : (a == ("__debug__" : Str)) = false) (hcd : (a == ("__classdict__" : Str)) = false) :
    PE ((cxOf CXg X.prog X.w X.K X.mg X.base Ng qg sg g cdg X.A X.stack s H Eg).tr pn xe) (.Call (.Name a p1) [] [] p2)
      (fun σZ HZ Q => σZ[i]? = some (some (.ref f)) ∧ HZ c' = some (CodeO c' (X.env.qual ++ "<lambda>")) ∧ tb σ HZ Q) := by
  refine ⟨fun pinsZ sZ σZ HZ Q IZ ⟨hs, hc, ht⟩ => ?_⟩
  refine wpAny_Call_Name_kw (thn ((pe_var (pos := p1) (i := i) hN hv hd hcd).run pinsZ sZ σZ HZ (fun v H1 => v = .ref f ∧ H1 = HZ) IZ ⟨.ref f, hs, rfl, rfl⟩) fun u s1 ⟨v, H1, I1, r1, ev, eH⟩ => ?_)
  subst ev
  rw [eH] at I1
  obtain rfl : u = Value.ref f := r1
  have lam1 := I1.base.keep f _ hf hfn hfr (fun z => nomatch (show f ∈ ([] : List Addr) from z))
  refine PySem.W.callWith_F0 ⟨_, _, _, _, lam1⟩ ?_
  obtain ⟨⟨oc, vs, t, hoc, hdc, hvc⟩, _, _⟩ := I1.hok c' _ hc
  have rc : codeAny (model X.prog X.w) (X.A.deeper (envOfC qg sg s.heap.objs.size g cdg)) (.call (.ref f) ⟨[], []⟩) (CR (L2.CX X.prog X.w) (envOfC qg sg s.heap.objs.size g cdg :: X.stack) X.prog X.w HZ s1 Q E) s1 := by
    refine PySem.W.kla_callFunE hr.room.depth lam1 rfl L.co L.gen rfl ⟨c', oc, vs, t, rfl, hoc, hdc, hvc⟩ ?_
    rw [hbind]
    refine wpAny_pure (wpAny_newFunctionEnv (fun y hy => (L.own y hy).2) (fun y hy => absurd hy (by simp)) (fun h₁ hns hsb => ⟨I1.nolimit.fresh _ hsb, ?_⟩) L.kind)
    show codeAny _ _ (.expr body (lamEnv X scope s1.heap.objs.size f c')) _ _
    have J := lam_start2 (A := X.A.deeper (envOfC qg sg s.heap.objs.size g cdg)) (outer := envOfC qg sg s.heap.objs.size g cdg :: X.stack) (E := E) (f := f) (c' := c') (tk := s1.toks + ([] : List (Str × Value)).length) I L I1.env0 hr.room.hd I1.base hns
      fun b o e => hsb.extBut b o (Nat.ne_of_lt (Heap.lt_size e)) (Heap.get?_push_of_some _ e)
    refine PySem.W.kla_codeExpr (wpAny_mono ((hbody _ _ s1 HZ ⟨hr.room.deeper _, hr.gd⟩).run [] _ _ HZ Q J ht) (fun v s' hq => ?_) fun e s' hq => hq)
    obtain ⟨w', H', J', rv, q⟩ := hq
    exact ⟨w', H', J'.os, J'.bare, J'.base, J'.hok, rv, q⟩
  refine wpAny_call (codeAny_mono rc fun r s' hq => ?_)
  match r, hq with
  | .error e, hq => exact passes_call tk hW pinsZ σZ HZ s1 e s' I1 hq
  | .ok (.ret u), hq => exact I1.after hq
  | .ok .next, hq => exact hq.elim
  | .ok .brk, hq => exact hq.elim
  | .ok .cont, hq => exact hq.elim
theorem lamcall_gd {T : List (Addr × Str)} {TT : (XK → Hp → VK → Prop) → Hp → VK → Prop} {x a : Str} {g c P : Addr} {k : Nat} {pg : Arguments} {bg : List Stmt} {sg : Scope} {dV kV doc pm cdv ct oc : Value} {an od : Option Addr} {osl : Array (Option Value)} {Ng : List Str}
    {params : Arguments} {body : Expr} {scope : Scope} {t : XK → TE} {p lpos pos : Pos} (hg : Gl X x) (hm : X.mg x = some (.ref g)) (hk : PySem.W.keepIn X.K (.ref g) = true)
    (lk : X.K.lookup g = some ⟨oc, od, .func (PySem.W.fnOf x x pg bg sg dV kV doc pm an cdv ct), osl⟩) (hcg : PySem.W.codeIn X.K cdv x = true) (hb : L2.Binds X.K (PySem.W.fnOf x x pg bg sg dV kV doc pm an cdv ct) [a] []) (Sg : FnScope Ng [a] sg) (hNg : Ng[0]? = some a) (hva : Vis sg a)
    (hG : GivesTo X Ng x sg g cdv bg a (X.env.qual ++ "<lambda>") TT)
    (TB : TabB X.base X.mg c P) (hcode : X.env.code = .ref c) (hmT : (P, X.env.qual ++ "<lambda>") ∈ T) (hu : ∀ p ∈ T, p.1 = P → p.2 = X.env.qual ++ "<lambda>") (hr : Rm (k + 2) X.A) (L : LamS X.env.scope scope) (hdef : defaultsOf params X.env = ([], []))
    (hbind : ∀ (q : Str) (cl : List (Str × Addr)) (pm cv ctv : Value), bindArgs (PySem.W.kla_fn "<lambda>" q params body scope cl pm cv ctv) ⟨[], []⟩ = pure [])
    (hbody : ∀ (A : Around) (outer : List Env) (s : Shared) (H : Hp) (E : XK) (f c' : Addr), Rm k (A.deeper (lamEnv X scope s.heap.objs.size f c')) → PE (lamCx X A outer s H E scope f c') body (t E))
    (hdb : (x == ("__debug__" : Str)) = false := by decide) (hd : (a == ("__debug__" : Str)) = false := by decide) (hcd : (a == ("__classdict__" : Str)) = false := by decide) :
    PE X (.Call (.Name x p) [.Lambda params body scope lpos] [] pos) (tLam T TT t) := by
  refine ⟨fun pins s σ H Q I ⟨hT, h⟩ => wpAny_Call_Name_kw (ld_glob I hg hm ?_ hdb)⟩
  refine PySem.W.callWith_K (h₀ := X.base) I.ok.mod.kin hk ?_ (by rfl) (by rfl)
  show wpAny _ _ (spliced ((false, eval (.Lambda params body scope lpos) X.env) :: backTo pos (starEach [] X.env))) _ _ s
  refine Calls.spliced_cons (lam_make2 I TB hcode hmT hu hT hdef (L.has I.ok) fun f c' pm' ctv H1 s' I1 eN T1 hf hfn hfr hco => Calls.spliced_nil ⟨I1.kIn, ?_⟩)
  have rc : codeAny (model X.prog X.w) X.A (.call (.ref g) ⟨[.ref f], []⟩) (CR C8.CX0 X.stack X.prog X.w H1 s' Q C8.E0) s' := by
    refine run_ofS (N := Ng) (ps := [a]) (us := [.ref f]) (vs := [.ref f]) lk hcg Sg hr.room I1.env0 (hb s' [.ref f] I1.kIn rfl) (.cons rfl .nil) rfl fun hr' => ?_
    obtain ⟨t', ht', hq'⟩ := hG f c' s' H1 Q (fun E H' Q' => t E σ H' Q') (fun W pn xe E p1 p2 tk hW => act_gd (i := 0) I1 L hf hfn hfr (hbind _ _ _ _ _) tk hW ⟨hr', hr.gd⟩ (fun A outer s H hr2 => hbody A outer s H E f c' hr2) hNg hva hd hcd) hco (h H1 eN T1)
    exact ⟨t', ht'.nox, hq'⟩
  refine wpAny_call (codeAny_mono rc fun r s2 hq => ?_)
  match r, hq with
  | .error e, hq => exact (show False from hq).elim
  | .ok (.ret u), hq => exact I1.after hq
  | .ok .next, hq => exact hq.elim
  | .ok .brk, hq => exact hq.elim
  | .ok .cont, hq => exact hq.elim
end
end Y

set_option Elab.async false
set_option linter.all false
set_option maxRecDepth 100000
set_option maxHeartbeats 2000000
/-! Y47: a def by its body's walk, its code object told (a law that makes lambdas). -/
namespace Y
open PySem PySem.Spec PyProof.Rows L2
section
variable {P : Program} {w : World} {K : PySem.W.Frag} {mg : Str → Option Value} {base : Heap}
theorem fnG_rawC {x qual : Str} {st : Stmt} {f : Addr} {oc kV doc pm cdv ct : Value} {od an : Option Addr} {osl : Array (Option Value)} {N ps : List Str} {k : Nat} {sp : Sp} (lk : K.lookup f = some ⟨oc, od, .func (PySem.W.fnOf x qual (defArgs st) (defBody st) (defScope st) .none kV doc pm an cdv ct), osl⟩)
    (hcd : PySem.W.codeIn K cdv qual = true) (S : FnScope N ps (defScope st)) (len : ∀ vs H Q E, sp vs H Q E → vs.length = ps.length)
    (hbody : ∀ (A : Around) (outer : List Env) (s : Shared) (H : Hp) (vs : List V) (Q : VK) (E : XK), Rm k (A.deeper (envOfC qual (defScope st) s.heap.objs.size f cdv)) → sp vs H Q E →
      ∃ t, PSs (cxOf (L2.CX P w) P w K mg base N qual (defScope st) f cdv A outer s H E) (defBody st) t ∧ t { nx := fun _ H' => Q .non H', rt := Q } (start N vs) H) :
    FnG P w K mg base (k + 1) f (PySem.W.fnOf x qual (defArgs st) (defBody st) (defScope st) .none kV doc pm an cdv ct) ps sp := by
  refine ⟨len, fun A outer s H args us vs Q E hr e0 hb r hsp => ?_⟩
  have KX : K.In s.heap := e0.mod.kin.keeps fun b o e => (e0.bs b o e).1
  have lim0 : s.heap.NoLimit := e0.mod.nolimit.keeps fun b o e => (e0.bs b o e).1
  have hkind : ∀ y ∈ ps.zip us, (defScope st).names.lookup y.1 = some .local ∨ ((defScope st).names.lookup y.1 = some .cell ∧ ((cellsFrom (s.heap.objs.size + 1) (defScope st).names []).lookup y.1).isSome = true) := by
    rintro ⟨n, v⟩ hy
    exact (S.par n (List.of_mem_zip hy).1).imp id fun q => ⟨q, PySem.W.cellsFrom_some _ _ _ (.inl q)⟩
  refine codeAny_call_function hr.room.depth (KX _ _ lk) rfl S.co S.gen rfl (PySem.W.codeRec_of KX hcd) (hb _ _ _ _ (wpAny_newFunctionEnv_cells S.kind hkind fun env he s1 xx => ?_))
  subst he
  refine ⟨lim0.keeps xx.toInCall.keep, codeAny_func ?_⟩
  obtain ⟨t, ht, hq⟩ := hbody A outer s H vs Q E ⟨hr.room.deeper _, hr.gd⟩ hsp
  have I : Inv (cxOf (L2.CX P w) P w K mg base N qual (defScope st) f cdv A outer s H E) [] (start N vs) H s1 := inv_start S hr.room.hd e0 (len _ _ _ _ hsp) r xx
  refine wpAny_mono (ht.run [] s1 (start N vs) H _ I hq) (fun fl s' hs => ?_) fun e s' hs => hs
  match fl, hs with
  | .ret u, ⟨v, σ', H', J, rv, q⟩ => exact ⟨v, H', J.os, J.bare, J.base, J.hok, rv, q⟩
  | .next, ⟨σ', H', J, q⟩ => exact ⟨.non, H', J.os, J.bare, J.base, J.hok, rfl, q⟩
  | .brk, ⟨_, _, _, q⟩ => exact q.elim
  | .cont, ⟨_, _, _, q⟩ => exact q.elim
end
/-- the rest of a body, in a frame of a kind -/
theorem rest_by {X : Cx} {sts : List Stmt} {fs : FS} (p : Bd → Prop) (h : ∀ B : Bd, p B → PSs X sts (tS B X.K fs)) : PSs X sts (fun Dn σ H => ∃ B, p B ∧ tS B X.K fs Dn σ H) :=
  ⟨fun pins s σ H Dn I ⟨B, hl, w⟩ => (h B hl).run pins s σ H Dn I w⟩
/-- an empty table of code, whatever names it is for -/
theorem tabs_one {H : Hp} {Pt : Addr} {q : Str} (h : H Pt = some (.tbl #[])) : LamX.Tabs [(Pt, q)] H := fun p hp => by
  obtain rfl := List.mem_singleton.mp hp
  exact ⟨#[], h, by simp [TriplesOk], fun pos cv hc => by simp [codeAmong] at hc⟩
/-- the promise of a law whose table is known -/
def spLawT (K : PySem.W.Frag) (Pt : Addr) : Sp := fun vs H Q _ => ∃ (s : Addr) (ns : List Int), vs = [.ref s] ∧ SqL K H s (ns.map V.int) ∧ ns.length ≤ 63 ∧ H Pt = some (.tbl #[]) ∧ ∀ H2, Q (.bl true) H2
end Y

set_option Elab.async false
set_option linter.all false
set_option maxRecDepth 100000
set_option maxHeartbeats 2000000
/-! Y48: what the written part says of classes, told by one test each. -/
namespace Y
open PySem PySem.Spec PyProof.Rows L2
def tys : List Ty := [.none, .bool, .int, .str, .list, .tuple, .dict]
theorem tys_all (t : Ty) : t ∈ tys := by cases t <;> decide
def clOf (as : List Addr) : Nat → Addr := fun n => as.getD n 0
theorem allB {α : Type} {p : α → Bool} {l : List α} (h : l.all p = true) : ∀ x ∈ l, p x = true := List.all_eq_true.mp h
section
variable (K : PySem.W.Frag) (CL : Nat → Addr) (cs : List Nat) (sup : Nat → Nat → Bool)
def clsB (C : Addr) : Bool := PySem.W.plainGet K C Str.empty && (PySem.W.hasDictIn K C && (PySem.W.plainOver K C && decide (PySem.W.findIn K (.ref C) "__setattr__" = some (some (.builtin "object.__setattr__")))))
def objB (C : Addr) : Bool := decide (PySem.W.findIn K (.ref C) "__class__" = some (some (.builtin "object.__class__"))) && decide (PySem.W.mroIn K C (.type "object") = some true)
def gsB : Bool := decide (PySem.W.specialIn K (.builtin "object.__class__") "__get__" = some (some (.builtin "getset_descriptor.__get__"))) && decide (PySem.W.takesIn K (.builtin "object.__class__") = some true)
def ccB : Bool := cs.all fun C => cs.all fun D => decide (PySem.W.kitOne K (.ref (CL C)) (.ref (CL D)) = some (sup C D))
def isaB : Bool := (cs.all fun D => tys.all fun t => decide (PySem.W.kitOne K (.type t.name) (.ref (CL D)) = some false) && decide (PySem.W.kitOne K (.ref (CL D)) (.type t.name) = some false)) && (ccB K CL cs sup && ((cs.all fun C => clsB K (CL C) && objB K (CL C)) && gsB K))
def isxB : Bool := (cs.all fun C => xfB K (CL C) && objB K (CL C)) && (ccB K CL cs sup && gsB K)
def clsxB (f : Str) : Bool := cs.all fun C => xfB K (CL C) && decide (PySem.W.findIn K (.ref (CL C)) f = some none)
def clstB (f : Str) : Bool := cs.all fun C => clsB K (CL C) && decide (PySem.W.findIn K (.ref (CL C)) f = some none)
def exmB (B : Addr) : Bool := cs.all fun C => decide (PySem.W.exmOne K (.ref (CL C)) (.ref B) = some true)
def eqB (C : Nat) : Bool := (tys.all fun t => PySem.W.notFirst K (CL C) (.type t.name)) && cs.all fun D => PySem.W.notFirst K (CL C) (.ref (CL D))
def neB (C : Nat) : Bool := decide (PySem.W.findIn K (.ref (CL C)) "__ne__" = some (some (.builtin "object.__ne__"))) && decide (PySem.W.mroIn K (CL C) (.type "object") = some true)
def mkB (C f : Addr) : Bool := PySem.W.makesIn K C && (decide (PySem.W.findIn K (.ref C) "__init__" = some (some (.ref f))) && (PySem.W.isFn K (.ref f) && PySem.W.keepIn K (.ref C)))
end
section
variable {K : PySem.W.Frag} {CL : Nat → Addr} {cs : List Nat} {sup : Nat → Nat → Bool}
theorem clsB_ok {C : Addr} (h : clsB K C = true) : Cls K C := by
  unfold clsB at h
  simp only [Bool.and_eq_true, decide_eq_true_eq] at h
  exact ⟨h.1, h.2.1, h.2.2.1, h.2.2.2⟩
theorem objB_ok {C : Addr} (h : objB K C = true) : PySem.W.findIn K (.ref C) "__class__" = some (some (.builtin "object.__class__")) ∧ PySem.W.mroIn K C (.type "object") = some true := by
  unfold objB at h
  simp only [Bool.and_eq_true, decide_eq_true_eq] at h
  exact h
theorem gsB_ok (h : gsB K = true) : PySem.W.specialIn K (.builtin "object.__class__") "__get__" = some (some (.builtin "getset_descriptor.__get__")) ∧ PySem.W.takesIn K (.builtin "object.__class__") = some true := by
  unfold gsB at h
  simp only [Bool.and_eq_true, decide_eq_true_eq] at h
  exact h
theorem ccB_ok (h : ccB K CL cs sup = true) : ∀ C ∈ cs, ∀ D ∈ cs, PySem.W.kitOne K (.ref (CL C)) (.ref (CL D)) = some (sup C D) := fun C hC D hD => of_decide_eq_true (allB (allB h C hC) D hD)
theorem isaB_ok (h : isaB K CL cs sup = true) : IsaK K CL cs sup := by
  unfold isaB at h
  simp only [Bool.and_eq_true] at h
  obtain ⟨h1, h2, h3, h4⟩ := h
  have one := fun (t : Ty) (D : Nat) (hD : D ∈ cs) => Bool.and_eq_true_iff.mp (allB (allB h1 D hD) t (tys_all t))
  exact ⟨fun t D hD => of_decide_eq_true (one t D hD).1, ccB_ok h2, fun C hC t => of_decide_eq_true (one t C hC).2, fun C hC => ⟨clsB_ok (Bool.and_eq_true_iff.mp (allB h3 C hC)).1, objB_ok (Bool.and_eq_true_iff.mp (allB h3 C hC)).2⟩, (gsB_ok h4).1, (gsB_ok h4).2⟩
theorem isxB_ok (h : isxB K CL cs sup = true) : IsaX K CL cs sup := by
  unfold isxB at h
  simp only [Bool.and_eq_true] at h
  obtain ⟨h1, h2, h3⟩ := h
  refine ⟨fun C hC => ?_, ccB_ok h2⟩
  obtain ⟨q1, q2⟩ := Bool.and_eq_true_iff.mp (allB h1 C hC)
  have x := xfB_ok q1
  exact ⟨x.ga, x.gg, x.exC, x.hdC, (objB_ok q2).1, (gsB_ok h3).1, (gsB_ok h3).2, (objB_ok q2).2⟩
theorem clsxB_ok {f : Str} (h : clsxB K CL cs f = true) : ClsX K CL cs f := fun C hC => by
  obtain ⟨q1, q2⟩ := Bool.and_eq_true_iff.mp (allB h C hC)
  exact ⟨xfB_ok q1, of_decide_eq_true q2⟩
theorem clstB_ok {f : Str} (h : clstB K CL cs f = true) : ClsT K CL cs f := fun C hC => by
  obtain ⟨q1, q2⟩ := Bool.and_eq_true_iff.mp (allB h C hC)
  exact ⟨clsB_ok q1, (of_decide_eq_true q2 : PySem.W.findIn K (.ref (CL C)) f = some none)⟩
theorem exmB_ok {B : Addr} (h : exmB K CL cs B = true) : ∀ C ∈ cs, PySem.W.exmOne K (.ref (CL C)) (.ref B) = some true := fun C hC => of_decide_eq_true (allB h C hC)
theorem neB_ok {C : Nat} (h : neB K CL C = true) : NeK K CL C := by
  unfold neB at h
  simp only [Bool.and_eq_true, decide_eq_true_eq] at h
  exact ⟨h.1, h.2⟩
theorem mkB_ok {C f : Addr} (h : mkB K C f = true) : Mk K C f := by
  unfold mkB at h
  simp only [Bool.and_eq_true, decide_eq_true_eq] at h
  exact ⟨h.1, h.2.1, h.2.2.1, h.2.2.2⟩
theorem eqK_mk {P : Program} {w : World} {mg : Str → Option Value} {base : Heap} {k C : Nat} {F : List Vd → Mu → T (Vd × Mu)} {f : Addr} {fd : FuncData} {ps : List Str} (h : eqB K CL cs C = true) (h1 : PySem.W.findIn K (.ref (CL C)) "__eq__" = some (some (.ref f))) (h2 : PySem.W.isFn K (.ref f) = true)
    (hb : Binds K fd ps []) (G : FnG P w K mg base k f fd ps (spS CL K 2 F)) : EqK P w K mg base CL cs k C F := by
  unfold eqB at h
  obtain ⟨q1, q2⟩ := Bool.and_eq_true_iff.mp h
  exact ⟨fun t => allB q1 t (tys_all t), fun D hD => allB q2 D hD, f, fd, ps, h1, h2, hb, G⟩
end
/-- what else is asked of an error's class at C, its __init__ at f -/
def errB (K : PySem.W.Frag) (C f : Addr) (fld : Str) : Bool :=
  decide (PySem.W.mroIn K C (.ref C) = some true) && (decide (PySem.W.subIn K (.ref C) (.type "ValueError") = some true) && (decide (PySem.W.ks_superIn K C C "__init__" = some (some (.builtin "ValueError.__init__"))) && (decide (PySem.W.nsIn K cStatics "thirdparty.any" = some none) && (decide (PySem.W.findIn K (.ref C) "__setattr__" = some (some (.builtin "object.__setattr__"))) &&
  (decide (PySem.W.subIn K (.ref C) (.type "BaseException") = some true) && (decide (PySem.W.typeIn K (.ref C) = some (.type "type")) && (PySem.W.keepIn K (.ref C) && (decide (PySem.W.typeIn K (.ref f) = some (.type "function")) && (decide (PySem.W.findIn K (.ref C) "__init__" = some (some (.ref f))) && decide (PySem.W.findIn K (.ref C) fld = some none))))))))))
theorem er_one {P : Program} {w : World} {K : PySem.W.Frag} {mg : Str → Option Value} {CL : Nat → Addr} {x par fld qual : Str} {C : Nat} {f cc cda : Addr} {params : Arguments} {scope : Scope} {pl : Sem Bool} {p0 p1 p2 p3 p4 p5 p6 p7 p8 p9 : Pos}
    {nm q : Str} {N : Addr} {bs bm sub : List Value} {sn : List Str} {ab : Bool} {col : Option Bool} {dd : Option Addr} {k0 k1 k2 k3 k5 : Option Value} {oc kV doc pm ct : Value} {od an : Option Addr} {osl : Array (Option Value)} {ccl : Value} {cdd : Option Addr} {vs : Array Value} {ccs : Array (Option Value)} {file : Str} {tf : Tok} {cl : Value} {cld : Option Addr} {csl : Array (Option Value)}
    (hm : mg x = some (.ref (CL C))) (hB : errB K (CL C) f fld = true) (hC : K.lookup (CL C) = some (PySem.excClassObj nm q (CL C) N bs bm true sn sub ab col dd k0 k1 k2 k3 k5 "ValueError.__new__")) (hbm : PySem.HandSPX.refsVE bm = true)
    (hf : K.lookup f = some ⟨oc, od, .func (PySem.W.ksFn "__init__" qual params (sxB1 par fld p0 p1 p2 p3 p4 p5 p6 p7 p8 p9) scope .none kV doc pm an (.ref cda) ct cc), osl⟩) (hcd : PySem.W.codeIn K (.ref cda) qual = true)
    (hcda : K.lookup cda = some ⟨ccl, cdd, .fields vs, ccs⟩) (hfile : vs[2]? = some (.str file tf)) (hmain : ((P.main.file : Str) == file) = true) (hcell : K.lookup cc = some ⟨cl, cld, .cell (some (.ref (CL C))), csl⟩)
    (hsup : (P.main.scope.names.lookup ("super" : Str)).isSome = false) (hms : mg "super" = none)
    (harg : ∃ ar, (params.posonlyargs ++ params.args).head? = some ar ∧ ar.arg = "self") (ks : scope.names.lookup ("super" : Str) = some .globalImplicit) (kc : scope.names.lookup ("__class__" : Str) = some .free) (k0' : scope.names.lookup ("self" : Str) = some .local) (kf : scope.kind = .function)
    (Z : SxS scope [par]) (V : SxE qual scope f cc cda pl (.Name par p3) [] p0 p1 p2 p4 p5) (V1 : SxW qual scope f cc cda par fld p6 p7 p8 p9)
    (hb : Binds K (PySem.W.ksFn "__init__" qual params (sxB1 par fld p0 p1 p2 p3 p4 p5 p6 p7 p8 p9) scope .none kV doc pm an (.ref cda) ct cc) ["self", par] []) : Er P w K mg CL x C [fld] := by
  unfold errB at hB
  simp only [Bool.and_eq_true, decide_eq_true_eq] at hB
  obtain ⟨b1, b2, b3, b4, b5, b6, b7, b8, b9, b10, b11⟩ := hB
  have hcls : ∃ nm q N bs bm sn sub ab col dd k0 k1 k2 k3 k5, K.lookup (CL C) = some (PySem.excClassObj nm q (CL C) N bs bm true sn sub ab col dd k0 k1 k2 k3 k5 "ValueError.__new__") ∧ PySem.HandSPX.refsVE bm = true := ⟨_, _, _, _, _, _, _, _, _, _, _, _, _, _, _, hC, hbm⟩
  have S : SxK P K (CL C) f cc cda qual params (sxB1 par fld p0 p1 p2 p3 p4 p5 p6 p7 p8 p9) scope := ⟨hcls, ⟨_, _, _, _, _, _, _, _, _, hf⟩, hcd, ⟨_, _, _, _, _, _, hcda, hfile, hmain⟩, ⟨_, _, _, hcell⟩, b1, b2, b3, b4, b5, hsup, harg, ks, kc, k0', kf⟩
  refine ⟨f, fl1 fld, hm, ⟨hcls, b5, b6, b7, b8⟩, b10, b9, sx_go1 S Z V V1 b11 hms fun fd ⟨oc', od', osl', h'⟩ => ?_, (by show 1 ≤ 1000; decide), fun vs hvs => fl1_zip vs hvs⟩
  rw [hf] at h'
  cases h'
  exact hb
end Y

set_option Elab.async false
set_option linter.all false
set_option maxRecDepth 100000
set_option maxHeartbeats 1000000
/-! Y49: what runs give, rule by rule (for plain laws over lists). -/
namespace Y
open PySem PySem.Spec PyProof.Rows L2
section
variable {f f' f'' : FE} {fa : FA} {c c' : FT'} {s h : FS} {ρ ρ' : Env'} {μ μ' : Mu} {x y : Vd} {d e : D} {b b' : Bool} {g : D → D → Option D} {F : List D → T D} {ds : List D} {xs : List Vd}
theorem ev_cons (h1 : f ρ μ = .ret (x, μ)) (h2 : fa ρ μ = .ret (xs, μ)) : aCons f fa ρ μ = .ret (x :: xs, μ) := by
  unfold aCons; rw [h1]; show T.bind (fa ρ μ) _ = _; rw [h2]; rfl
theorem ev_nil : aNil ρ μ = .ret ([], μ) := rfl
theorem ev_one (h1 : f ρ μ = .ret (x, μ)) : aCons f aNil ρ μ = .ret ([x], μ) := ev_cons h1 ev_nil
theorem ts_map : ∀ ds : List D, tsOf (ds.map .t) = some ds
  | [] => rfl
  | d :: ds => by show (tsOf (ds.map .t)).map _ = _; rw [ts_map ds]; rfl
theorem drfs_map (μ : Mu) : ∀ ds : List D, drfs μ (ds.map .t) = some ds
  | [] => rfl
  | d :: ds => by show (drfs μ (ds.map .t)).map _ = _; rw [drfs_map μ ds]; rfl
theorem ev_callF (ds : List D) (h1 : fa ρ μ = .ret (ds.map .t, μ)) (h2 : F ds = .ret d) : eCallF F fa ρ μ = .ret (.t d, μ) := by
  unfold eCallF; rw [h1]; show T.bind (T.ofO (tsOf (ds.map .t))) _ = _; rw [ts_map]; show T.bind (F ds) _ = _; rw [h2]; rfl
theorem ev_callF1 {e : D} (h1 : f ρ μ = .ret (.t e, μ)) (h2 : F [e] = .ret d) : eCallF F (aCons f aNil) ρ μ = .ret (.t d, μ) := ev_callF [e] (ev_one h1) h2
theorem ev_callB {g : List D → Option D} (ds : List D) (h1 : fa ρ μ = .ret (ds.map .t, μ)) (h2 : g ds = some d) : eCallB g fa ρ μ = .ret (.t d, μ) := by
  unfold eCallB; rw [h1]; show T.bind (T.ofO ((drfs μ (ds.map .t)).bind g)) _ = _; rw [drfs_map]; show T.bind (T.ofO (g ds)) _ = _; rw [h2]; rfl
theorem ev_callB1 {g : List D → Option D} {e : D} (h1 : f ρ μ = .ret (.t e, μ)) (h2 : g [e] = some d) : eCallB g (aCons f aNil) ρ μ = .ret (.t d, μ) := ev_callB [e] (ev_one h1) h2
theorem ev_op2 {a b : D} (h1 : f ρ μ = .ret (.t a, μ)) (h2 : f' ρ μ = .ret (.t b, μ)) (h3 : g a b = some d) : eOp2 g f f' ρ μ = .ret (.t d, μ) := by
  unfold eOp2; rw [h1]; show T.bind (f' ρ μ) _ = _; rw [h2]; show T.bind (T.ofO (g a b)) _ = _; rw [h3]; rfl
theorem ev_bl {k : Bool} (h1 : f ρ μ = .ret (.t (.bl k), μ)) : kBl f ρ μ = .ret (k, μ) := by unfold kBl; rw [h1]; rfl
theorem ev_tru {k : Bool} (h1 : f ρ μ = .ret (.t d, μ)) (h2 : truD d = some k) : kTru f ρ μ = .ret (k, μ) := by
  unfold kTru; rw [h1]; show T.bind (T.ofO (truD d)) _ = _; rw [h2]; rfl
theorem ev_not (h1 : c ρ μ = .ret (b, μ)) : kNot c ρ μ = .ret (!b, μ) := by unfold kNot; rw [h1]; rfl
theorem ev_or0 (h1 : c ρ μ = .ret (false, μ)) (h2 : c' ρ μ = .ret (b, μ)) : kOr c c' ρ μ = .ret (b, μ) := by
  unfold kOr; rw [h1]; exact h2
theorem ev_or1 (h1 : c ρ μ = .ret (true, μ)) : kOr c c' ρ μ = .ret (true, μ) := by
  unfold kOr; rw [h1]; rfl
theorem ev_ifF (h1 : c ρ μ = .ret (false, μ)) : sIf c s h ρ μ = h ρ μ := by
  unfold sIf; rw [h1]; rfl
theorem ev_ifT (h1 : c ρ μ = .ret (true, μ)) : sIf c s h ρ μ = s ρ μ := by
  unfold sIf; rw [h1]; rfl
theorem ev_seq (h1 : s ρ μ = .ret (.nx ρ' μ')) : sSeq s h ρ μ = h ρ' μ' := by unfold sSeq; rw [h1]; rfl
theorem ev_seqX {C : Nat} {fs : List Str} {vs : List D} (h1 : s ρ μ = .exc C fs vs) : sSeq s h ρ μ = .exc C fs vs := by unfold sSeq; rw [h1]; rfl
theorem ev_set {i : Nat} (h1 : f ρ μ = .ret (x, μ)) : sSet i f ρ μ = .ret (.nx (ρ.set i (some x)) μ) := by unfold sSet; rw [h1]; rfl
theorem ev_tup (ds : List D) (h1 : fa ρ μ = .ret (ds.map .t, μ)) (h2 : ds.length ≤ lim) : eTup fa ρ μ = .ret (.t (.tup ds), μ) := by
  unfold eTup; rw [h1]; show T.bind (T.ofO (tsOf (ds.map .t))) _ = _; rw [ts_map]; show (if ds.length ≤ lim then _ else _) = _; rw [if_pos h2]
theorem ev_lst (ds : List D) (h1 : fa ρ μ = .ret (ds.map .t, μ)) (h2 : ds.length ≤ lim) : eLst fa ρ μ = .ret (.t (.lst ds), μ) := by
  unfold eLst; rw [h1]; show T.bind (T.ofO (tsOf (ds.map .t))) _ = _; rw [ts_map]; show (if ds.length ≤ lim then _ else _) = _; rw [if_pos h2]
/-- all of a walk by one map -/
theorem ev_compL {i : Nat} {m : D → D} : ∀ (ds : List D), (∀ d ∈ ds, f (ρ.set i (some (.t d))) μ = .ret (.t (m d), μ)) → compL (.one i) kYes f ρ ds μ = .ret (ds.map m, μ)
  | [], _ => rfl
  | d :: ds, hd => by
    have h1 := hd d List.mem_cons_self
    have h2 := ev_compL ds fun e he => hd e (List.mem_cons_of_mem _ he)
    show T.bind (T.noX (f (ρ.set i (some (.t d))) μ)) _ = _
    rw [h1]
    show T.bind (compL (.one i) kYes f ρ ds μ) _ = _
    rw [h2]; rfl
theorem ev_comp {i : Nat} {m : D → D} (ds : List D) (a : D) (h1 : f' ρ μ = .ret (.t a, μ)) (h2 : seqOf a = some ds) (hl : ds.length ≤ lim) (hd : ∀ d ∈ ds, f (ρ.set i (some (.t d))) μ = .ret (.t (m d), μ)) : eComp (.one i) (aSeq f') kYes f ρ μ = .ret (.t (.lst (ds.map m)), μ) := by
  unfold eComp aSeq; rw [h1]
  show T.bind (T.bind (T.ofO (seqOf a)) _) _ = _
  rw [h2]
  show (if ds.length ≤ lim then _ else _) = _
  rw [if_pos hl, ev_compL ds hd]; rfl
theorem bls_true : ∀ ds : List D, blsOf (ds.map fun _ => D.bl true) = some (ds.map fun _ => true)
  | [] => rfl
  | d :: ds => by show (blsOf (ds.map fun _ => D.bl true)).map _ = _; rw [bls_true ds]; rfl
theorem all_true (ds : List D) : opAll [.lst (ds.map fun _ => .bl true)] = some (.bl true) := by
  show ((blsOf (ds.map fun _ => D.bl true)).map fun l => D.bl (l.all id)) = _
  rw [bls_true]
  show some (D.bl ((ds.map fun _ => true).all id)) = _
  have : ((ds.map fun _ => true).all id) = true := by rw [List.all_map]; simp
  rw [this]
theorem map_at {α β : Type} {l : List α} {F G : α → β} (h : l.map F = l.map G) {a : α} (ha : a ∈ l) : F a = G a := List.map_inj_left.mp h a ha
end
/-! what shows, what compares -/
theorem py_map {m : D → D} {q : D → PyData} : ∀ ds : List D, (∀ d ∈ ds, pyOf (m d) = some (q d)) → pyOfs (ds.map m) = some (ds.map q)
  | [], _ => by unfold pyOfs; rfl
  | d :: ds, h => by
    show pyOfs (m d :: ds.map m) = _
    unfold pyOfs
    rw [h d List.mem_cons_self, py_map ds fun e he => h e (List.mem_cons_of_mem _ he)]; rfl
theorem lay_map {q : D → PyData} : ∀ ds : List D, (∀ d ∈ ds, (q d).canLay0 = true) → PyData.canLayAll0 (ds.map q) = true
  | [], _ => by simp only [List.map_nil, PyData.canLayAll0]
  | d :: ds, h => by
    simp only [List.map_cons, PyData.canLayAll0, Bool.and_eq_true]
    exact ⟨h d List.mem_cons_self, lay_map ds fun e he => h e (List.mem_cons_of_mem _ he)⟩
theorem depth_map {q : D → PyData} {n : Nat} : ∀ ds : List D, (∀ d ∈ ds, (q d).depth ≤ n) → PyData.depthAll (ds.map q) ≤ n
  | [], _ => by simp only [List.map_nil, PyData.depthAll]; exact Nat.zero_le _
  | d :: ds, h => by
    simp only [List.map_cons, PyData.depthAll]
    exact Nat.max_le.mpr ⟨h d List.mem_cons_self, depth_map ds fun e he => h e (List.mem_cons_of_mem _ he)⟩
theorem show_map {q : D → PyData} : ∀ ds : List D, (∀ d ∈ ds, (q d).showable = true) → PyData.showableAll (ds.map q) = true
  | [], _ => by simp only [List.map_nil, PyData.showableAll]
  | d :: ds, h => by
    simp only [List.map_cons, PyData.showableAll, Bool.and_eq_true]
    exact ⟨h d List.mem_cons_self, show_map ds fun e he => h e (List.mem_cons_of_mem _ he)⟩
theorem piled_le {n : Nat} : ∀ ts : List Str, (∀ t ∈ ts, t.length ≤ n) → piled ts ≤ ts.length * (n + 2)
  | [], _ => Nat.le_of_eq (by simp [piled])
  | t :: ts, h => by
    have h1 := h t List.mem_cons_self
    have h2 := piled_le ts fun e he => h e (List.mem_cons_of_mem _ he)
    have e : piled (t :: ts) = t.length + 2 + piled ts := by simp [piled]
    rw [e, List.length_cons, Nat.succ_mul]; omega
theorem tupleText_le {n : Nat} (ts : List Str) (h : ∀ t ∈ ts, t.length ≤ n) : (tupleText ts).length ≤ ts.length * (n + 2) + 5 := by
  have h1 : (Str.join ", " ts).length ≤ ts.length * (n + 2) := by
    cases ts with
    | nil => exact Nat.le_trans (Nat.le_of_eq (by decide +kernel)) (Nat.zero_le _)
    | cons t ts =>
      have := join_length_add (t :: ts) (by simp)
      have := piled_le (t :: ts) h
      omega
  have e2 : ∀ k : Bool, ((if k = true then ",)" else ")" : String) : Str).length ≤ 2 := fun k => by cases k <;> decide +kernel
  have e3 := e2 (ts.length == 1)
  have e4 : (("(" : Str)).length = 1 := by decide +kernel
  unfold tupleText
  rw [Str.length_append, Str.length_append]
  omega
end Y

set_option Elab.async false
set_option linter.all false
set_option maxRecDepth 100000
set_option maxHeartbeats 2000000
/-! Y50: tuples and lists compared item by item, where an item's == may run the text. -/
namespace YE
open PySem PySem.SeqAt
open PySem.AutoSeq1 (wpAny_loadPart')
open PySem.MeetsSeq PySem.MeetsSeq2 PySem.MeetsSeq3
section
variable {pg : Program} {wo : World} {A : Around} {R : Result → Shared → Prop}
theorem tup_both (p q : Addr) (us ws : Array Value) (c c2 : Nat) (e1 e2 : Option Addr) (f1 f2 : Array (Option Value)) (I : Nat → Shared → Prop)
    (go : ∀ i (h1 : i < us.size) (h2 : i < ws.size) s, I i s → wpAny (model pg wo) A.in1 (eqBool us[i] ws[i]) (fun r s' => if r = true then I (i + 1) s' else R (.ok (.ret (.bool false))) s') (fun e s' => R (.error e) s') s)
    (out : ∀ s, I (min us.size ws.size) s → R (.ok (.ret (.bool (us.size == ws.size)))) s) {s : Shared}
    (hp : s.heap.get? p = some { cls := .type "tuple", dict := e1, data := .seq us c, slots := f1 }) (hq : s.heap.get? q = some { cls := .type "tuple", dict := e2, data := .seq ws c2, slots := f2 }) (h : I 0 s) :
    wpAny (model pg wo) A.in1 (Builtin.«tuple.__eq__» ⟨[.ref p, .ref q], []⟩) (GQ.FinOf pg wo A R) (fun e s' => R (.error e) s') s := by
  have fT := AutoSeq1.sub_tuple_tuple
  have hZ : (us.toList.zip ws.toList).length = min us.size ws.size := by simp
  have hI0 := h
  obtain ⟨hh, gg, dd, tt, oo⟩ := s
  wp_walk using wpAny_loadPart' hp, wpAny_loadPart' hq, wpAny_forIn_list _ (fun rest b s' => b.1 = none ∧ ∃ i, rest = (us.toList.zip ws.toList).drop i ∧ i ≤ min us.size ws.size ∧ I i s') _
  case turn =>
    rintro ⟨y, x⟩ rest b s' ⟨hb', i, hz, hi, hI⟩
    have hl : i < (us.toList.zip ws.toList).length := Nat.lt_of_not_le fun z => by rw [List.drop_of_length_le z] at hz; cases hz
    have k1 : i < us.size := Nat.lt_of_lt_of_le (hZ ▸ hl) (Nat.min_le_left _ _)
    have k2 : i < ws.size := Nat.lt_of_lt_of_le (hZ ▸ hl) (Nat.min_le_right _ _)
    rw [List.drop_eq_getElem_cons hl] at hz
    injection hz with z1 z2
    obtain rfl : y = us[i] := by simpa using congrArg Prod.fst z1
    obtain rfl : x = ws[i] := by simpa using congrArg Prod.snd z1
    refine wpAny_bind (wpAny_mono (go i k1 k2 s' hI) (fun r s2 z => ?_) fun _ _ x => x)
    cases r with
    | true =>
      rw [if_pos rfl] at z
      wp_walk
      exact ⟨rfl, i + 1, z2, hZ ▸ hl, z⟩
    | false =>
      rw [if_neg Bool.false_ne_true] at z
      wp_walk
      simpa using z
  case fin =>
    rintro ⟨b1, b2⟩ s' ⟨hb', i, hz, hi, hI⟩
    simp only at hb'
    subst hb'
    have hge : min us.size ws.size ≤ i := Nat.le_of_not_lt fun z => by rw [List.drop_eq_getElem_cons (hZ ▸ z)] at hz; cases hz
    obtain rfl : i = min us.size ws.size := Nat.le_antisymm hi hge
    have z := out s' hI
    wp_walk
    simpa [Builtin.Tuple.tupleCompareSizes] using z
  case h => exact ⟨rfl, 0, rfl, Nat.zero_le _, hI0⟩
end
section
variable {pg : Program} {wo : World} {A : Around} {E : Value → Shared → Prop} {s : Shared}
/-- == of two tuples -/
theorem rc_tup {p q : Addr} {us ws : Array Value} {Q : Value → Shared → Prop} (hu : A.units < cLine) (I : Nat → Shared → Prop) (hp : s.heap.IsTuple p us) (hq : s.heap.IsTuple q ws)
    (go : ∀ i (h1 : i < us.size) (h2 : i < ws.size) s, I i s → wpAny (model pg wo) A.in1 (eqBool us[i] ws[i]) (fun r s' => if r = true then I (i + 1) s' else Q (.bool false) s') E s)
    (out : ∀ s, I (min us.size ws.size) s → Q (.bool (us.size == ws.size)) s) (h : I 0 s) : wpAny (model pg wo) A (richCompare .Eq (.ref p) (.ref q)) Q E s := by
  obtain ⟨⟨cl, d1, t1, f1⟩, ho, rfl, c, rfl⟩ := id hp
  obtain ⟨⟨cl2, d2, t2, f2⟩, ho2, rfl, c2, rfl⟩ := id hq
  refine wpAny_richCompare_same_room (op := .Eq) ⟨_, ho, rfl⟩ ⟨_, ho2, rfl⟩ F.slot_tuple_eq (GQ.call_here F.slot_tuple_eq ⟨_, ho, rfl⟩ F.entry_tuple_eq (F.args_tuple_eq_2 _ _) ?_) hu
  refine tup_both (R := wants (fun v s' => v ≠ .notImplemented ∧ Q v s') E) p q us ws c c2 d1 d2 f1 f2 I (fun i h1 h2 s' z => wpAny_mono (go i h1 h2 s' z) (fun r s2 y => ?_) fun _ _ x => x) (fun s' z => ⟨(fun x => nomatch x), out s' z⟩) ho ho2 h
  cases r with
  | true => exact y
  | false => exact ⟨(fun x => nomatch x), y⟩
end
end YE

set_option Elab.async false
set_option linter.all false
set_option maxRecDepth 100000
set_option maxHeartbeats 2000000
/-! Y51: == of data in which instances of own classes lie. -/
namespace Y
open PySem PySem.Spec PyProof.Rows L2

/-! ### what is surely not one and the same -/
mutual
def dif : D → D → Bool
  | .non, y => match y with
    | .str _ => true | .int _ => true | .bl _ => true | .tup _ => false | _ => false
  | .int i, y => match y with
    | .int j => decide (i ≠ j) | .str _ => true | .non => true | _ => false
  | .str a, y => match y with
    | .str b => decide (a ≠ b) | .int _ => true | .non => true | _ => false
  | .bl a, y => match y with
    | .bl b => decide (a ≠ b) | _ => false
  | .tup xs, y => match y with
    | .tup ys => decide (xs.length ≠ ys.length) || difs xs ys
    | .non => true | .int _ => true | .str _ => true | _ => false
  | .lst xs, y => match y with
    | .lst ys => decide (xs.length ≠ ys.length) || difs xs ys
    | .non => true | .int _ => true | .str _ => true | _ => false
  | .obj _ fs xs, y => match y with
    | .obj _ gs ys => decide (fs = gs) && difs xs ys
    | .lst _ => true | .non => true | .int _ => true | .str _ => true | .bl _ => true | _ => false
  | _, _ => false
def difs : List D → List D → Bool
  | [], _ => false
  | x :: xs, ys => match ys with
    | [] => false
    | y :: ys => dif x y || difs xs ys
end
section
variable {X : Cx} {pins : List (Addr × Obj)} {σ : L2.St} {H : Hp} {s : Shared} {g : Gh} {O : List Addr}
theorem istup_one {h : Heap} {a : Addr} {i j : Array Value} (x : h.IsTuple a i) (y : h.IsTuple a j) : i = j := by
  obtain ⟨o, h1, _, n, h2⟩ := x
  obtain ⟨o', h1', _, n', h2'⟩ := y
  rw [h1] at h1'; cases h1'
  rw [h2] at h2'; cases h2'; rfl
theorem vals_one : ∀ {vs ws : List V} {us : List Value}, Vals vs us → Vals ws us → vs = ws
  | _, _, _, .nil, .nil => rfl
  | _, _, _, .cons h t, .cons h' t' => by rw [RelV.inj h h', vals_one t t']
/-- one address: one tuple's items -/
theorem ft_one (I : Inv X pins σ H s) {a : Addr} {vs ws : List V} (h : FT X.K O H a vs) (h' : FT X.K O H a ws) : vs = ws := by
  obtain ⟨its, r, e, _⟩ := I.tuple h.sq
  obtain ⟨its', r', e', _⟩ := I.tuple h'.sq
  have q := istup_one e e'
  have q : its = its' := by simpa using q
  subst q
  exact vals_one r r'
theorem zip_one {fs : List Str} {vs ws : List V} (a : fs.length = vs.length) (b : fs.length = ws.length) (e : fs.zip vs = fs.zip ws) : vs = ws := by
  have h1 := congrArg (List.map Prod.snd) e
  rw [List.map_snd_zip (by omega), List.map_snd_zip (by omega)] at h1
  exact h1
mutual
theorem dif_no (I : Inv X pins σ H s) : ∀ (d e : D) (v : V), RV g X.K O H v d → RV g X.K O H v e → dif d e = true → False
  | .non, e, _, r, r', z => by
    cases r; cases r'
    unfold dif at z; exact nomatch z
  | .int i, e, _, r, r', z => by
    cases r; cases r'
    unfold dif at z; exact (of_decide_eq_true z) rfl
  | .str i, e, _, r, r', z => by
    cases r; cases r'
    unfold dif at z; exact (of_decide_eq_true z) rfl
  | .bl i, e, _, r, r', z => by
    cases r; cases r'
    unfold dif at z; exact (of_decide_eq_true z) rfl
  | .tup xs, e, _, r, r', z => by
    cases r with
    | tup h rs =>
      unfold dif at z
      cases r' with
      | tup h' rs' =>
        obtain rfl := ft_one I h h'
        have z : (decide _ || difs xs _) = true := z
        rw [Bool.or_eq_true, decide_eq_true_eq] at z
        exact z.elim (fun n => n (rs.length.symm.trans rs'.length)) (difs_no I _ _ _ rs rs')
      | _ => exact nomatch z
  | .lst xs, e, _, r, r', z => by
    cases r with
    | lst h rs =>
      unfold dif at z
      cases r' with
      | lst h' rs' =>
        have q := h.1.symm.trans h'.1
        cases q
        have z : (decide _ || difs xs _) = true := z
        rw [Bool.or_eq_true, decide_eq_true_eq] at z
        exact z.elim (fun n => n (rs.length.symm.trans rs'.length)) (difs_no I _ _ _ rs rs')
      | _ => exact nomatch z
  | .obj C fs xs, e, _, r, r', z => by
    cases r with
    | obj h n l rs =>
      unfold dif at z
      cases r' with
      | @obj _ dx C' gs vs' ds' h' n' l' rs' =>
        have z : (decide (fs = gs) && difs xs ds') = true := z
        rw [Bool.and_eq_true, decide_eq_true_eq] at z
        obtain ⟨z1, z2⟩ := z
        subst z1
        have q := h.symm.trans h'
        injection q with q
        injection q with _ _ q
        obtain rfl := zip_one l l' q
        exact difs_no I _ _ _ rs rs' z2
      | lst h' _ => have q := h.symm.trans h'.1; cases q
      | _ => exact nomatch z
  | .dic _ _, e, _, _, _, z => by unfold dif at z; exact nomatch z
  | .err _ _ _, e, _, _, _, z => by unfold dif at z; exact nomatch z
  | .ty _, e, _, _, _, z => by unfold dif at z; exact nomatch z
  | .cls _, e, _, _, _, z => by unfold dif at z; exact nomatch z
  | .fn _, e, _, _, _, z => by unfold dif at z; exact nomatch z
  | .pen, e, _, _, _, z => by unfold dif at z; exact nomatch z
theorem difs_no (I : Inv X pins σ H s) : ∀ (ds es : List D) (vs : List V), RVs g X.K O H vs ds → RVs g X.K O H vs es → difs ds es = true → False
  | [], _, _, _, _, z => by unfold difs at z; exact nomatch z
  | d :: ds, es, _, r, r', z => by
    cases r with
    | cons h t =>
      cases r' with
      | cons h' t' =>
        unfold difs at z
        have z : (dif d _ || difs ds _) = true := z
        rw [Bool.or_eq_true] at z
        exact z.elim (dif_no I _ _ _ h h') (difs_no I _ _ _ t t')
end
end
end Y

set_option Elab.async false
set_option linter.all false
set_option maxRecDepth 100000
set_option maxHeartbeats 2000000
/-! Y52: == of data in which instances of own classes lie: what it gives. -/
namespace Y
open PySem PySem.Spec PyProof.Rows L2

abbrev EF := Nat → Option (List Vd → Mu → T (Vd × Mu))
def ownR (x e : D) : T (Vd × Mu) → Option Bool
  | .ret (.t (.bl b), _) => if b || dif x e then some b else none
  | _ => none
def ownB (cs : List Nat) (ef : EF) (C : Nat) (x e : D) : Option Bool := (ef C).bind fun F => (kOf cs e).bind fun _ => ownR x e (F [.t x, .t e] [])
def deqT (f : D → D → Option Bool) : List D → List D → Option Bool
  | [], ys => some ys.isEmpty
  | x :: xs, ys => match ys with
    | [] => some false
    | y :: ys => (f x y).bind fun b => if b = true then deqT f xs ys else some false
def deepB (cs : List Nat) (ef : EF) (f : D → D → Option Bool) : D → D → Option Bool
  | .tup xs, e => match e with
    | .tup ys => deqT f xs ys
    | _ => none
  | .obj C fs xs, e => ownB cs ef C (.obj C fs xs) e
  | _, _ => none
def deqN (cs : List Nat) (ef : EF) : Nat → D → D → Option Bool
  | 0, a, b => dataEq a b
  | n + 1, a, b => orE (dataEq a b) (deepB cs ef (deqN cs ef n) a b)

/-- all is kept but tables, and these -/
structure Sy (g : Gh) (H H' : Hp) : Prop where
  kp : Kp none H H'
  tb : LamX.Tabs g.tb H'
section
variable {X : Cx} {g : Gh} {cs : List Nat} {ef : EF}
def RcS (X : Cx) (g : Gh) (n : Nat) (d e : D) (b : Bool) : Prop := ∀ (A : Around) (pins : List (Addr × Obj)) (s : Shared) (σ : L2.St) (H : Hp) (x y : V) (u v : Value), Rm n A → A.frames = X.A.frames → Inv X pins σ H s → RelV x u → RelV y v →
  RV g X.K [] H x d → RV g X.K [] H y e → LamX.Tabs g.tb H → wpAny (model X.prog X.w) A (richCompare .Eq u v) (fun r s' => r = .bool b ∧ ∃ H', Inv X pins σ H' s' ∧ Sy g H H') X.xe s
def EqS (X : Cx) (g : Gh) (n : Nat) (d e : D) (b : Bool) : Prop := ∀ (A : Around) (pins : List (Addr × Obj)) (s : Shared) (σ : L2.St) (H : Hp) (x y : V) (u v : Value), Rm n A → A.frames = X.A.frames → Inv X pins σ H s → RelV x u → RelV y v →
  RV g X.K [] H x d → RV g X.K [] H y e → LamX.Tabs g.tb H → wpAny (model X.prog X.w) A (eqBool u v) (fun r s' => r = b ∧ ∃ H', Inv X pins σ H' s' ∧ Sy g H H') X.xe s
/-- one value reads in one way alone -/
def SmS (X : Cx) (g : Gh) (d e : D) (b : Bool) : Prop := ∀ (pins : List (Addr × Obj)) (s : Shared) (σ : L2.St) (H : Hp) (x : V) (u : Value), Inv X pins σ H s → RelV x u → RV g X.K [] H x d → RV g X.K [] H x e → b = true
theorem data_nf {H : Hp} {x : V} {u : Value} {d : D} (r : RV g X.K [] H x d) (rx : RelV x u) : (∀ p q, u ≠ .float p q) := by
  intro p q z
  subst z
  cases r <;> first
    | exact nomatch rx
    | (obtain ⟨_, z⟩ := rx; exact nomatch z)
theorem rcs_eqs {n : Nat} {d e : D} {b : Bool} (h : RcS X g n d e b) (w : SmS X g d e b) : EqS X g n d e b := by
  intro A pins s σ H x y u v rm fr I rx ry rd re tb
  have nf := data_nf rd rx
  unfold eqBool
  refine wpAny_holding ?_
  refine wpAny_ite_split (fun hab => ?_) (fun _ => ?_)
  · have q := eq_of_beq hab
    subst q
    obtain rfl := RelV.inj rx ry
    have q := w pins s σ H x u I rx rd re
    exact wpAny_bind (wpAny_rule (wpAny_pure ⟨q.symm, H, I, Kp.refl, tb⟩))
  · have key : wpAny (model X.prog X.w) A (do truthOfDropped (← richCompare .Eq u v)) (fun r s' => r = b ∧ ∃ H', Inv X pins σ H' s' ∧ Sy g H H') X.xe s := by
      refine wpAny_bind (wpAny_mono (h A pins s σ H x y u v rm fr I rx ry rd re tb) (fun r s' z => ?_) fun _ _ x => x)
      obtain ⟨rfl, z⟩ := z
      exact wpAny_truthy_bool ⟨rfl, z⟩
    cases u with
    | float p q => exact (nf p q rfl).elim
    | _ => exact key
theorem rc_data {n : Nat} {d e : D} {b : Bool} (h : dataEq d e = some b) : RcS X g n d e b := by
  intro A pins s σ H x y u v rm fr I rx ry rd re tb
  unfold dataEq at h
  obtain ⟨p, hp, h⟩ := bind_some h
  obtain ⟨q, hq, h⟩ := bind_some h
  by_cases z : (SeqAt.shaped p && SeqAt.shaped q) = true
  · rw [if_pos z] at h; cases h
    rw [Bool.and_eq_true] at z
    obtain ⟨as, r1⟩ := Dp.reads I p x u (dp_of rd hp) rx
    obtain ⟨bs, r2⟩ := Dp.reads I q y v (dp_of re hq) ry
    exact SeqAt.compareEq_shaped r1 r2 z.1 z.2 (by have := rm.room.un; omega) ⟨rfl, H, I, Kp.refl, tb⟩
  · rw [if_neg z] at h; cases h
theorem sm_data {d e : D} {b : Bool} (h : dataEq d e = some b) : SmS X g d e b := by
  intro pins s σ H x u I rx rd re
  unfold dataEq at h
  obtain ⟨p, hp, h⟩ := bind_some h
  obtain ⟨q, hq, h⟩ := bind_some h
  by_cases z : (SeqAt.shaped p && SeqAt.shaped q) = true
  · rw [if_pos z] at h; cases h
    rw [Bool.and_eq_true] at z
    obtain ⟨as, r1⟩ := Dp.reads I p x u (dp_of rd hp) rx
    obtain ⟨bs, r2⟩ := Dp.reads I q x u (dp_of re hq) rx
    have e := r1.unique _ _ r2
    obtain ⟨rfl, _⟩ := e
    exact SeqAt.eqv_refl _ (SeqAt.canLay_of_shaped z.1)
  · rw [if_neg z] at h; cases h
theorem Sy.refl {H : Hp} (t : LamX.Tabs g.tb H) : Sy g H H := ⟨Kp.refl, t⟩
theorem Sy.trans {H H1 H2 : Hp} (a : Sy g H H1) (b : Sy g H1 H2) : Sy g H H2 := ⟨a.kp.trans b.kp, b.tb⟩
theorem RV.sy {H H' : Hp} {v : V} {d : D} (r : RV g X.K [] H v d) (k : Sy g H H') : RV g X.K [] H' v d :=
  r.keep (fun a o h _ t => k.kp a o h (fun z => nomatch z) t) (fun _ z => absurd z List.not_mem_nil)
theorem RVs.sy {H H' : Hp} {v : List V} {d : List D} (r : RVs g X.K [] H v d) (k : Sy g H H') : RVs g X.K [] H' v d :=
  r.keep (fun a o h _ t => k.kp a o h (fun z => nomatch z) t) (fun _ z => absurd z List.not_mem_nil)
theorem relv_ex (t : Tok) : ∀ x : V, ∃ u, RelV x u
  | .non => ⟨_, rfl⟩
  | .bl _ => ⟨_, rfl⟩
  | .int _ => ⟨_, t, rfl⟩
  | .str _ => ⟨_, t, rfl⟩
  | .byt _ => ⟨_, t, rfl⟩
  | .flt _ => ⟨_, t, rfl⟩
  | .ref _ => ⟨_, rfl⟩
  | .ty _ => ⟨_, rfl⟩
/-- item by item -/
theorem deqT_step {f : D → D → Option Bool} {xs ys : List D} {b : Bool} {i : Nat} {x y : D} (h : deqT f (xs.drop i) (ys.drop i) = some b) (hx : xs[i]? = some x) (hy : ys[i]? = some y) :
    ∃ k, f x y = some k ∧ (if k = true then deqT f (xs.drop (i + 1)) (ys.drop (i + 1)) = some b else b = false) := by
  have e1 : xs.drop i = x :: xs.drop (i + 1) := by
    have l := get_lt hx
    rw [List.drop_eq_getElem_cons l]
    rw [List.getElem?_eq_getElem l] at hx
    rw [Option.some.inj hx]
  have e2 : ys.drop i = y :: ys.drop (i + 1) := by
    have l := get_lt hy
    rw [List.drop_eq_getElem_cons l]
    rw [List.getElem?_eq_getElem l] at hy
    rw [Option.some.inj hy]
  rw [e1, e2] at h
  have h : ((f x y).bind fun k => if k = true then deqT f (xs.drop (i + 1)) (ys.drop (i + 1)) else some false) = some b := h
  obtain ⟨k, e, h⟩ := bind_some h
  refine ⟨k, e, ?_⟩
  cases k with
  | true => rw [if_pos rfl] at h ⊢; exact h
  | false => rw [if_neg Bool.false_ne_true] at h ⊢; exact (Option.some.inj h).symm
theorem deqT_end {f : D → D → Option Bool} {xs ys : List D} {b : Bool} {i : Nat} (h : deqT f (xs.drop i) (ys.drop i) = some b) (hi : i = min xs.length ys.length) : b = (xs.length == ys.length) := by
  by_cases l : xs.length ≤ ys.length
  · rw [Nat.min_eq_left l] at hi
    subst hi
    rw [List.drop_length] at h
    have h : some (ys.drop xs.length).isEmpty = some b := h
    rw [← Option.some.inj h, Bool.eq_iff_iff, List.isEmpty_iff, List.drop_eq_nil_iff, beq_iff_eq]
    omega
  · rw [Nat.min_eq_right (by omega)] at hi
    subst hi
    rw [List.drop_length] at h
    have l : ys.length < xs.length := by omega
    rw [List.drop_eq_getElem_cons l] at h
    have h : some false = some b := h
    rw [← Option.some.inj h, eq_comm, beq_eq_false_iff_ne]
    omega
theorem rc_items {f : D → D → Option Bool} {n : Nat} (hf : ∀ d e k, f d e = some k → EqS X g n d e k) {xs ys : List D} {b : Bool} (h : deqT f xs ys = some b) : RcS X g (n + 1) (.tup xs) (.tup ys) b := by
  intro A pins s σ H x y u v rm fr I rx ry rd re tb
  cases rd with
  | @tup a vs _ h1 rs =>
  cases re with
  | @tup a2 ws _ h2 rs2 =>
  cases rx
  cases ry
  obtain ⟨its, r, e, _⟩ := I.tuple h1.sq
  obtain ⟨its2, r2, e2, _⟩ := I.tuple h2.sq
  have n1 : xs.length = its.toArray.size := by rw [List.size_toArray, ← r.length, rs.length]
  have n2 : ys.length = its2.toArray.size := by rw [List.size_toArray, ← r2.length, rs2.length]
  refine YE.rc_tup rm.room.units0 (fun i s' => ∃ H', Inv X pins σ H' s' ∧ Sy g H H' ∧ deqT f (xs.drop i) (ys.drop i) = some b) e e2 (fun i k1 k2 s' z => ?_) (fun s' z => ?_) ⟨H, I, Sy.refl tb, by rw [List.drop_zero, List.drop_zero]; exact h⟩
  · obtain ⟨H1, I1, sy, hd⟩ := z
    have g1 : xs[i]? = some xs[i] := List.getElem?_eq_getElem (by omega)
    have g2 : ys[i]? = some ys[i] := List.getElem?_eq_getElem (by omega)
    obtain ⟨k, ek, nx⟩ := deqT_step hd g1 g2
    obtain ⟨p, hp, rp⟩ := (rs.sy sy).get g1
    obtain ⟨q, hq, rq⟩ := (rs2.sy sy).get g2
    obtain ⟨u, hu, ru⟩ := r.get hp
    obtain ⟨w, hw, rw'⟩ := r2.get hq
    have eu : its.toArray[i] = u := by
      have : its[i]? = some its.toArray[i] := by simp
      rw [hu] at this; exact (Option.some.inj this).symm
    have ew : its2.toArray[i] = w := by
      have : its2[i]? = some its2.toArray[i] := by simp
      rw [hw] at this; exact (Option.some.inj this).symm
    rw [eu, ew]
    refine wpAny_mono (hf _ _ _ ek A.in1 pins s' σ H1 p q u w rm.in1 fr I1 ru rw' rp rq sy.tb) (fun t s2 z => ?_) fun _ _ x => x
    obtain ⟨rfl, H2, I2, sy2⟩ := z
    by_cases ht : t = true
    · rw [if_pos ht] at nx ⊢
      exact ⟨H2, I2, sy.trans sy2, nx⟩
    · rw [if_neg ht] at nx ⊢
      exact ⟨by rw [nx], H2, I2, sy.trans sy2⟩
  · obtain ⟨H1, I1, sy, hd⟩ := z
    have q := deqT_end hd (by rw [n1, n2])
    exact ⟨by rw [q, n1, n2], H1, I1, sy⟩
theorem sm_items {f : D → D → Option Bool} (hf : ∀ d e k, f d e = some k → SmS X g d e k) {xs ys : List D} {b : Bool} (h : deqT f xs ys = some b) : SmS X g (.tup xs) (.tup ys) b := by
  intro pins s σ H x u I rx rd re
  cases rd with
  | @tup a vs _ h1 rs =>
  cases re with
  | @tup _ ws _ h2 rs2 =>
  obtain rfl := ft_one I h1 h2
  clear h1 h2 rx
  induction xs generalizing ys vs with
  | nil =>
    cases rs
    cases rs2
    have h : some true = some b := h
    exact (Option.some.inj h).symm
  | cons d ds ih =>
    cases rs with
    | @cons p ps _ _ r1 t1 =>
    cases rs2 with
    | @cons _ _ e es r2 t2 =>
    have h : ((f d e).bind fun k => if k = true then deqT f ds es else some false) = some b := h
    obtain ⟨k, ek, h⟩ := bind_some h
    obtain ⟨w, rw'⟩ := relv_ex s.toks p
    have q := hf _ _ _ ek pins s σ H p w I rw' r1 r2
    rw [if_pos q] at h
    exact ih h t1 t2
end
end Y

set_option Elab.async false
set_option linter.all false
set_option maxRecDepth 100000
set_option maxHeartbeats 2000000
/-! Y53: == and != of data in which instances of own classes lie, as expressions. -/
namespace Y
open PySem PySem.Spec PyProof.Rows L2

section
variable {X : Cx} {g : Gh} {cs : List Nat} {ef : EF} {CL : Nat → Addr} {sup : Nat → Nat → Bool} {j : Nat}
theorem RcS.mono {n m : Nat} {d e : D} {b : Bool} (h : RcS X g n d e b) (l : n ≤ m) : RcS X g m d e b := fun A pins s σ H x y u v rm => h A pins s σ H x y u v (rm.mono l)
theorem ownR_ret {x e : D} {t : T (Vd × Mu)} {b : Bool} (h : ownR x e t = some b) : ∃ m, t = .ret (.t (.bl b), m) ∧ (b || dif x e) = true := by
  unfold ownR at h
  split at h
  · rename_i k m
    by_cases z : (k || dif x e) = true
    · rw [if_pos z] at h; cases h; exact ⟨m, rfl, z⟩
    · rw [if_neg z] at h; cases h
  · cases h
theorem rc_own {C : Nat} {F : List Vd → Mu → T (Vd × Mu)} (h : EqK X.prog X.w X.K X.mg X.base CL cs j C F) (S : IsaK X.K CL cs sup) (hg : g.pa = none) (hcl : g.cl = CL) {fs : List Str} {xs : List D} {e : D} {b : Bool} {t : Ty ⊕ Nat}
    (ek : kOf cs e = some t) (hb : ownR (.obj C fs xs) e (F [.t (.obj C fs xs), .t e] []) = some b) : RcS X g j (.obj C fs xs) e b := by
  intro A pins s σ H x y u v rm fr I rx ry rd re tb
  obtain ⟨m, hF, _⟩ := ownR_ret hb
  cases id rd with
  | @obj a dx _ _ vs _ h1 n l rs =>
  cases rx
  subst hcl
  obtain ⟨f, fd, ps, q1, q2, q3, q4⟩ := h.h
  obtain ⟨mA, J, _⟩ := ins_get I.hok h1
  obtain ⟨od, J, _⟩ := J.look
  obtain ⟨mm, hFr⟩ := I.fr
  have ty := kOf_ty S rfl re.rd ek
  obtain ⟨P, Z, p, _⟩ := kit_of I ry ty
  have nf : PySem.W.notFirst X.K (g.cl C) (tyV' g.cl t) = true := by
    cases t with
    | inl t => exact h.nt t
    | inr D => exact h.nc D (kOf_mem ek)
  refine PySem.W.cmp_K (op := .Eq) (tb := tyV' g.cl t) rm.room.units0 hFr I.ok.mod.kin J (Z.ty _ _ I.kIn p) nf q1 q2 ?_
  have st : StOk g X.K (pureW []) [] 0 H := ⟨(fun a z => absurd z List.not_mem_nil), (fun i j a z => nomatch (show (none : Option (Option Addr)) = _ from z)), rfl, (fun i c a z => nomatch (show (none : Option Ce) = _ from z)), (fun a z => absurd z List.not_mem_nil), (fun a z => nomatch (hg.symm.trans z)), tb, (fun n c z => nomatch (show (none : Option (Option Addr)) = _ from z)), (fun a z => absurd z List.not_mem_nil)⟩
  have hsp : spS g.cl X.K 2 F [.ref a, y] H (fun w H' => w = .bl b ∧ Sy g H H') E0 := by
    refine ⟨rfl, g, pureW [], [], 0, [.t (.obj C fs xs), .t e], rfl, st, .cons (.t rd) (.cons (.t re) .nil), ?_⟩
    rw [hF]
    intro w W' H' ex st' _ rw'
    cases rw' with
    | t r => cases r; exact ⟨rfl, fun a o h _ nt => ex.kp a o h (fun z => nomatch z) (by rw [hg]; exact fun z => nomatch z) nt, st'.tabs⟩
  have e0 : Env0 X.prog X.w X.K X.mg X.base A X.stack s H := by
    have e := I.env0
    exact ⟨by rw [fr]; exact e.frames, e.mod, e.bs, e.bsz, e.funs, e.frf, e.hok, e.bare⟩
  have r2 : Vals [V.ref a, y] [Value.ref a, v] := .cons rfl (.cons ry .nil)
  have hl := q4.len _ _ _ _ hsp
  refine wpAny_call (codeAny_mono (q4.run A X.stack s H ⟨[.ref a, v], []⟩ [.ref a, v] [.ref a, y] _ E0 rm e0 (by
    have := q3 s [.ref a, v] I.kIn (by simpa using hl)
    simpa using this) r2 hsp) fun r s' hq => ?_)
  cases r with
  | error e => exact passL pins σ H s e s' I hq
  | ok fl =>
    cases fl with
    | ret w =>
      obtain ⟨z, H', I', rz, ez, ex⟩ := I.after hq
      subst ez
      cases rz
      exact ⟨rfl, H', I', ex⟩
    | next => exact False.elim hq
    | brk => exact False.elim hq
    | cont => exact False.elim hq
theorem sm_own {fs : List Str} {xs : List D} {e : D} {b : Bool} {C : Nat} (h : (b || dif (.obj C fs xs) e) = true) : SmS X g (.obj C fs xs) e b := by
  intro pins s σ H x u I rx rd re
  cases b with
  | true => rfl
  | false => exact (dif_no I _ _ _ rd re h).elim
/-- what is known of the own == of classes -/
def EfOk (X : Cx) (CL : Nat → Addr) (cs : List Nat) (j : Nat) (ef : EF) : Prop := ∀ C F, ef C = some F → EqK X.prog X.w X.K X.mg X.base CL cs j C F
theorem deq_ok (hE : EfOk X CL cs j ef) (S : IsaK X.K CL cs sup) (hg : g.pa = none) (hcl : g.cl = CL) : ∀ (n : Nat) (d e : D) (b : Bool), deqN cs ef n d e = some b → RcS X g (j + n) d e b ∧ SmS X g d e b
  | 0, d, e, b, h => ⟨rc_data h, sm_data h⟩
  | n + 1, d, e, b, h => by
    rcases orE_some h with h | h
    · exact ⟨rc_data h, sm_data h⟩
    · cases d with
      | tup xs =>
        cases e with
        | tup ys =>
          have ih := deq_ok hE S hg hcl n
          exact ⟨rc_items (fun d e k q => rcs_eqs (ih d e k q).1 (ih d e k q).2) h, sm_items (fun d e k q => (ih d e k q).2) h⟩
        | _ => exact nomatch h
      | obj C fs xs =>
        have h : ownB cs ef C (.obj C fs xs) e = some b := h
        obtain ⟨F, h1, h⟩ := bind_some h
        obtain ⟨t, h2, h⟩ := bind_some h
        obtain ⟨m, _, z⟩ := ownR_ret h
        exact ⟨(rc_own (hE C F h1) S hg hcl h2 h).mono (by omega), sm_own z⟩
      | _ => exact nomatch h
def rDeq (K : PySem.W.Frag) (CL : Nat → Addr) (cs : List Nat) (ef : EF) (n : Nat) : R2 := fun x y H Q => ∃ (g : Gh) (d e : D) (b : Bool), g.pa = none ∧ g.cl = CL ∧ LamX.Tabs g.tb H ∧ RV g K [] H x d ∧ RV g K [] H y e ∧ deqN cs ef n d e = some b ∧ ∀ H', Sy g H H' → Q (.bl b) H'
theorem op_deq {n : Nat} (hE : EfOk X CL cs j ef) (S : IsaK X.K CL cs sup) (hr : Rm (j + n) X.A) : OpR X (compareOp .Eq) (rDeq X.K CL cs ef n) := by
  intro pins s σ H x y v u Q I rx ry hq
  obtain ⟨g, d, e, b, hg, hcl, tb, rd, re, h, q⟩ := hq
  show wpAny (model X.prog X.w) X.A (richCompare .Eq v u) (EP X pins σ Q) X.xe s
  refine wpAny_mono ((deq_ok hE S hg hcl n d e b h).1 X.A pins s σ H x y v u hr rfl I rx ry rd re tb) (fun r s' z => ?_) fun _ _ x => x
  obtain ⟨rfl, H', I', sy⟩ := z
  exact ⟨.bl b, H', I', rfl, q H' sy⟩
end
/-! ### no pen in it -/
mutual
def np : D → Bool
  | .pen => false
  | .lst xs => nps xs
  | .tup xs => nps xs
  | .dic _ xs => nps xs
  | .obj _ _ xs => nps xs
  | .err _ _ xs => nps xs
  | _ => true
def nps : List D → Bool
  | [] => true
  | x :: xs => np x && nps xs
end
def noP (g : Gh) : Gh := { g with pa := none }
section
variable {g : Gh} {K : PySem.W.Frag} {O : List Addr} {H : Hp}
theorem FT.nil {a : Addr} {vs : List V} (h : FT K O H a vs) : FT K [] H a vs := h.elim (fun h => .inl ⟨h.1, List.not_mem_nil⟩) .inr
theorem XoAt.noP {a dd : Addr} {C : Nat} {fs : List Str} {vs : List V} (h : XoAt g H a dd C fs vs) : XoAt (noP g) H a dd C fs vs := ⟨h.at_, h.fl, h.len⟩
mutual
theorem RV.np : ∀ {v : V} {d : D}, RV g K O H v d → np d = true → RV (noP g) K [] H v d
  | _, _, .non, _ => .non
  | _, _, .bl b, _ => .bl b
  | _, _, .int i, _ => .int i
  | _, _, .str x, _ => .str x
  | _, _, .ty n, _ => .ty n
  | _, _, .cls a, _ => .cls (g := noP g) a
  | _, _, .fn a, _ => .fn (g := noP g) a
  | _, _, .pen e, z => by unfold Y.np at z; exact nomatch z
  | _, _, .lst h r, z => .lst ⟨h.1, List.not_mem_nil⟩ (RVs.np r (by unfold Y.np at z; exact z))
  | _, _, .tup h r, z => .tup h.nil (RVs.np r (by unfold Y.np at z; exact z))
  | _, _, .dic h n l r, z => .dic h List.not_mem_nil l (RVs.np r (by unfold Y.np at z; exact z))
  | _, _, .obj h n l r, z => .obj h List.not_mem_nil l (RVs.np r (by unfold Y.np at z; exact z))
  | _, _, .err h n1 n2 r, z => .err h.noP List.not_mem_nil List.not_mem_nil (RVs.np r (by unfold Y.np at z; exact z))
theorem RVs.np : ∀ {vs : List V} {ds : List D}, RVs g K O H vs ds → nps ds = true → RVs (noP g) K [] H vs ds
  | _, _, .nil, _ => .nil
  | _, _, .cons h t, z => by
    unfold nps at z
    rw [Bool.and_eq_true] at z
    exact .cons (RV.np h z.1) (RVs.np t z.2)
end
theorem RD.np {v : V} {d : D} (r : RD g K O H v d) (z : Y.np d = true) : RV (noP g) K [] H v d := by
  cases r with
  | non => exact .non
  | bl b => exact .bl b
  | int i => exact .int i
  | str x => exact .str x
  | ty n => exact .ty n
  | cls a => exact .cls (g := noP g) a
  | fn a => exact .fn (g := noP g) a
  | pen e => unfold Y.np at z; exact nomatch z
  | lst h r => exact .lst ⟨h.1, List.not_mem_nil⟩ (RVs.np r (by unfold Y.np at z; exact z))
  | tup h r => exact .tup h.nil (RVs.np r (by unfold Y.np at z; exact z))
  | dic h n l r => exact .dic h List.not_mem_nil l (RVs.np r (by unfold Y.np at z; exact z))
  | obj h n l r => exact .obj h List.not_mem_nil l (RVs.np r (by unfold Y.np at z; exact z))
  | err h n1 n2 r => exact .err h.noP List.not_mem_nil List.not_mem_nil (RVs.np r (by unfold Y.np at z; exact z))
end
end Y

set_option Elab.async false
set_option linter.all false
set_option maxRecDepth 100000
set_option maxHeartbeats 2000000
/-! Y54: != of two tuples item by item; == and != as expressions and tests. -/
namespace YE
open PySem PySem.SeqAt
open PySem.AutoSeq1 (wpAny_loadPart')
open PySem.MeetsSeq PySem.MeetsSeq2 PySem.MeetsSeq3
section
variable {pg : Program} {wo : World} {A : Around} {R : Result → Shared → Prop}
theorem tup_bothN (p q : Addr) (us ws : Array Value) (c c2 : Nat) (e1 e2 : Option Addr) (f1 f2 : Array (Option Value)) (I : Nat → Shared → Prop)
    (go : ∀ i (h1 : i < us.size) (h2 : i < ws.size) s, I i s → wpAny (model pg wo) A.in1 (eqBool us[i] ws[i]) (fun r s' => if r = true then I (i + 1) s' else R (.ok (.ret (.bool true))) s') (fun e s' => R (.error e) s') s)
    (out : ∀ s, I (min us.size ws.size) s → R (.ok (.ret (.bool (us.size != ws.size)))) s) {s : Shared}
    (hp : s.heap.get? p = some { cls := .type "tuple", dict := e1, data := .seq us c, slots := f1 }) (hq : s.heap.get? q = some { cls := .type "tuple", dict := e2, data := .seq ws c2, slots := f2 }) (h : I 0 s) :
    wpAny (model pg wo) A.in1 (Builtin.«tuple.__ne__» ⟨[.ref p, .ref q], []⟩) (GQ.FinOf pg wo A R) (fun e s' => R (.error e) s') s := by
  have fT := AutoSeq1.sub_tuple_tuple
  have hZ : (us.toList.zip ws.toList).length = min us.size ws.size := by simp
  have hI0 := h
  obtain ⟨hh, gg, dd, tt, oo⟩ := s
  wp_walk using wpAny_loadPart' hp, wpAny_loadPart' hq, wpAny_forIn_list _ (fun rest b s' => b.1 = none ∧ ∃ i, rest = (us.toList.zip ws.toList).drop i ∧ i ≤ min us.size ws.size ∧ I i s') _
  case turn =>
    rintro ⟨y, x⟩ rest b s' ⟨hb', i, hz, hi, hI⟩
    have hl : i < (us.toList.zip ws.toList).length := Nat.lt_of_not_le fun z => by rw [List.drop_of_length_le z] at hz; cases hz
    have k1 : i < us.size := Nat.lt_of_lt_of_le (hZ ▸ hl) (Nat.min_le_left _ _)
    have k2 : i < ws.size := Nat.lt_of_lt_of_le (hZ ▸ hl) (Nat.min_le_right _ _)
    rw [List.drop_eq_getElem_cons hl] at hz
    injection hz with z1 z2
    obtain rfl : y = us[i] := by simpa using congrArg Prod.fst z1
    obtain rfl : x = ws[i] := by simpa using congrArg Prod.snd z1
    refine wpAny_bind (wpAny_mono (go i k1 k2 s' hI) (fun r s2 z => ?_) fun _ _ x => x)
    cases r with
    | true =>
      rw [if_pos rfl] at z
      wp_walk
      exact ⟨rfl, i + 1, z2, hZ ▸ hl, z⟩
    | false =>
      rw [if_neg Bool.false_ne_true] at z
      wp_walk
      simpa using z
  case fin =>
    rintro ⟨b1, b2⟩ s' ⟨hb', i, hz, hi, hI⟩
    simp only at hb'
    subst hb'
    have hge : min us.size ws.size ≤ i := Nat.le_of_not_lt fun z => by rw [List.drop_eq_getElem_cons (hZ ▸ z)] at hz; cases hz
    obtain rfl : i = min us.size ws.size := Nat.le_antisymm hi hge
    have z := out s' hI
    wp_walk
    simpa [Builtin.Tuple.tupleCompareSizes] using z
  case h => exact ⟨rfl, 0, rfl, Nat.zero_le _, hI0⟩
end
section
variable {pg : Program} {wo : World} {A : Around} {E : Value → Shared → Prop} {s : Shared}
/-- != of two tuples -/
theorem rc_tupN {p q : Addr} {us ws : Array Value} {Q : Value → Shared → Prop} (hu : A.units < cLine) (I : Nat → Shared → Prop) (hp : s.heap.IsTuple p us) (hq : s.heap.IsTuple q ws)
    (go : ∀ i (h1 : i < us.size) (h2 : i < ws.size) s, I i s → wpAny (model pg wo) A.in1 (eqBool us[i] ws[i]) (fun r s' => if r = true then I (i + 1) s' else Q (.bool true) s') E s)
    (out : ∀ s, I (min us.size ws.size) s → Q (.bool (us.size != ws.size)) s) (h : I 0 s) : wpAny (model pg wo) A (richCompare .NotEq (.ref p) (.ref q)) Q E s := by
  obtain ⟨⟨cl, d1, t1, f1⟩, ho, rfl, c, rfl⟩ := id hp
  obtain ⟨⟨cl2, d2, t2, f2⟩, ho2, rfl, c2, rfl⟩ := id hq
  refine wpAny_richCompare_same_room (op := .NotEq) ⟨_, ho, rfl⟩ ⟨_, ho2, rfl⟩ F.slot_tuple_ne (GQ.call_here F.slot_tuple_ne ⟨_, ho, rfl⟩ F.entry_tuple_ne (F.args_tuple_ne_2 _ _) ?_) hu
  refine tup_bothN (R := wants (fun v s' => v ≠ .notImplemented ∧ Q v s') E) p q us ws c c2 d1 d2 f1 f2 I (fun i h1 h2 s' z => wpAny_mono (go i h1 h2 s' z) (fun r s2 y => ?_) fun _ _ x => x) (fun s' z => ⟨(fun x => nomatch x), out s' z⟩) ho ho2 h
  cases r with
  | true => exact y
  | false => exact ⟨(fun x => nomatch x), y⟩
end
end YE
namespace Y
open PySem PySem.Spec PyProof.Rows L2
section
variable {X : Cx} {g : Gh} {cs : List Nat} {ef : EF} {CL : Nat → Addr} {sup : Nat → Nat → Bool} {j : Nat}
def RcN (X : Cx) (g : Gh) (n : Nat) (d e : D) (b : Bool) : Prop := ∀ (A : Around) (pins : List (Addr × Obj)) (s : Shared) (σ : L2.St) (H : Hp) (x y : V) (u v : Value), Rm n A → A.frames = X.A.frames → Inv X pins σ H s → RelV x u → RelV y v →
  RV g X.K [] H x d → RV g X.K [] H y e → LamX.Tabs g.tb H → wpAny (model X.prog X.w) A (richCompare .NotEq u v) (fun r s' => r = .bool (!b) ∧ ∃ H', Inv X pins σ H' s' ∧ Sy g H H') X.xe s
theorem rcN_items {f : D → D → Option Bool} {n : Nat} (hf : ∀ d e k, f d e = some k → EqS X g n d e k) {xs ys : List D} {b : Bool} (h : deqT f xs ys = some b) : RcN X g (n + 1) (.tup xs) (.tup ys) b := by
  intro A pins s σ H x y u v rm fr I rx ry rd re tb
  cases rd with
  | @tup a vs _ h1 rs =>
  cases re with
  | @tup a2 ws _ h2 rs2 =>
  cases rx
  cases ry
  obtain ⟨its, r, e, _⟩ := I.tuple h1.sq
  obtain ⟨its2, r2, e2, _⟩ := I.tuple h2.sq
  have n1 : xs.length = its.toArray.size := by rw [List.size_toArray, ← r.length, rs.length]
  have n2 : ys.length = its2.toArray.size := by rw [List.size_toArray, ← r2.length, rs2.length]
  refine YE.rc_tupN rm.room.units0 (fun i s' => ∃ H', Inv X pins σ H' s' ∧ Sy g H H' ∧ deqT f (xs.drop i) (ys.drop i) = some b) e e2 (fun i k1 k2 s' z => ?_) (fun s' z => ?_) ⟨H, I, Sy.refl tb, by rw [List.drop_zero, List.drop_zero]; exact h⟩
  · obtain ⟨H1, I1, sy, hd⟩ := z
    have g1 : xs[i]? = some xs[i] := List.getElem?_eq_getElem (by omega)
    have g2 : ys[i]? = some ys[i] := List.getElem?_eq_getElem (by omega)
    obtain ⟨k, ek, nx⟩ := deqT_step hd g1 g2
    obtain ⟨p, hp, rp⟩ := (rs.sy sy).get g1
    obtain ⟨q, hq, rq⟩ := (rs2.sy sy).get g2
    obtain ⟨u, hu, ru⟩ := r.get hp
    obtain ⟨w, hw, rw'⟩ := r2.get hq
    have eu : its.toArray[i] = u := by
      have : its[i]? = some its.toArray[i] := by simp
      rw [hu] at this; exact (Option.some.inj this).symm
    have ew : its2.toArray[i] = w := by
      have : its2[i]? = some its2.toArray[i] := by simp
      rw [hw] at this; exact (Option.some.inj this).symm
    rw [eu, ew]
    refine wpAny_mono (hf _ _ _ ek A.in1 pins s' σ H1 p q u w rm.in1 fr I1 ru rw' rp rq sy.tb) (fun t s2 z => ?_) fun _ _ x => x
    obtain ⟨rfl, H2, I2, sy2⟩ := z
    by_cases ht : t = true
    · rw [if_pos ht] at nx ⊢
      exact ⟨H2, I2, sy.trans sy2, nx⟩
    · rw [if_neg ht] at nx ⊢
      exact ⟨by rw [nx]; rfl, H2, I2, sy.trans sy2⟩
  · obtain ⟨H1, I1, sy, hd⟩ := z
    have q := deqT_end hd (by rw [n1, n2])
    exact ⟨by rw [q, n1, n2]; rfl, H1, I1, sy⟩
theorem rcN_data {n : Nat} {d e : D} {b : Bool} (h : dataEq d e = some b) : RcN X g n d e b := by
  intro A pins s σ H x y u v rm fr I rx ry rd re tb
  unfold dataEq at h
  obtain ⟨p, hp, h⟩ := bind_some h
  obtain ⟨q, hq, h⟩ := bind_some h
  by_cases z : (SeqAt.shaped p && SeqAt.shaped q) = true
  · rw [if_pos z] at h; cases h
    rw [Bool.and_eq_true] at z
    obtain ⟨as, r1⟩ := Dp.reads I p x u (dp_of rd hp) rx
    obtain ⟨bs, r2⟩ := Dp.reads I q y v (dp_of re hq) ry
    exact SeqAt.compareNe_shaped r1 r2 z.1 z.2 (by have := rm.room.un; omega) ⟨rfl, H, I, Kp.refl, tb⟩
  · rw [if_neg z] at h; cases h
/-- != : not of an own class itself -/
def notOb : D → Bool
  | .obj _ _ _ => false
  | _ => true
theorem dneN_ok (hE : EfOk X CL cs j ef) (S : IsaK X.K CL cs sup) (hg : g.pa = none) (hcl : g.cl = CL) : ∀ (n : Nat) (d e : D) (b : Bool), notOb d = true → deqN cs ef n d e = some b → RcN X g (j + n) d e b
  | 0, d, e, b, _, h => rcN_data h
  | n + 1, d, e, b, no, h => by
    rcases orE_some h with h | h
    · exact rcN_data h
    · cases d with
      | tup xs =>
        cases e with
        | tup ys =>
          have ih := deq_ok hE S hg hcl n
          exact rcN_items (fun d e k q => rcs_eqs (ih d e k q).1 (ih d e k q).2) h
        | _ => exact nomatch h
      | obj C fs xs => exact nomatch no
      | _ => exact nomatch h
def rDne (K : PySem.W.Frag) (CL : Nat → Addr) (cs : List Nat) (ef : EF) (n : Nat) : R2 := fun x y H Q => ∃ (g : Gh) (d e : D) (b : Bool), g.pa = none ∧ g.cl = CL ∧ LamX.Tabs g.tb H ∧ RV g K [] H x d ∧ RV g K [] H y e ∧ notOb d = true ∧ deqN cs ef n d e = some b ∧ ∀ H', Sy g H H' → Q (.bl (!b)) H'
theorem op_dne {n : Nat} (hE : EfOk X CL cs j ef) (S : IsaK X.K CL cs sup) (hr : Rm (j + n) X.A) : OpR X (compareOp .NotEq) (rDne X.K CL cs ef n) := by
  intro pins s σ H x y v u Q I rx ry hq
  obtain ⟨g, d, e, b, hg, hcl, tb, rd, re, no, h, q⟩ := hq
  show wpAny (model X.prog X.w) X.A (richCompare .NotEq v u) (EP X pins σ Q) X.xe s
  refine wpAny_mono (dneN_ok hE S hg hcl n d e b no h X.A pins s σ H x y v u hr rfl I rx ry rd re tb) (fun r s' z => ?_) fun _ _ x => x
  obtain ⟨rfl, H', I', sy⟩ := z
  exact ⟨.bl (!b), H', I', rfl, q H' sy⟩
end
/-! ### as expressions -/
def deqV (cs : List Nat) (ef : EF) (n : Nat) (d e : D) : Option Bool := if (np d && np e) = true then deqN cs ef n d e else none
def dneV (cs : List Nat) (ef : EF) (n : Nat) (d e : D) : Option Bool := if (np d && np e && notOb d) = true then (deqN cs ef n d e).map (!·) else none
def rdd (f : D → D → Option Bool) (μ : Mu) (x y : Vd) : Option Bool := (drf μ x).bind fun d => (drf μ y).bind fun e => f d e
def eCmp (f : D → D → Option Bool) (fo fe : FE) : FE := fun ρ μ => (fo ρ μ).bind fun o => (fe ρ o.2).bind fun p => (T.ofO (rdd f p.2 o.1 p.1)).bind fun b => .ret (.t (.bl b), p.2)
def kCmp (f : D → D → Option Bool) (fo fe : FE) : FT' := fun ρ μ => (fo ρ μ).bind fun o => (fe ρ o.2).bind fun p => (T.ofO (rdd f p.2 o.1 p.1)).bind fun b => .ret (b, p.2)
def eDeq (cs : List Nat) (ef : EF) (n : Nat) : FE → FE → FE := eCmp (deqV cs ef n)
def eDne (cs : List Nat) (ef : EF) (n : Nat) : FE → FE → FE := eCmp (dneV cs ef n)
section
variable {X : Cx} {B : Bd} {cs : List Nat} {ef : EF} {CL : Nat → Addr} {sup : Nat → Nat → Bool} {j n : Nat} {a b : Expr} {fo fe : FE} {pos : Pos} {op : CmpOp} {r : R2} {f : D → D → Option Bool}
/-- behind a comparison all is kept -/
theorem Rep.sy {ρ : Env'} {μ : Mu} {W : Ow} {m : Nat} {H H' : Hp} {σ : L2.St} (R : Rep B X.K ρ μ W m H σ) (k : Sy (noP B.g) H H') : Rep B X.K ρ μ W m H' σ ∧ Ext B.g.pa W H W H' := by
  have al : ∀ a, NT H a → NT H' a := fun a ⟨o, h, t⟩ => ⟨o, k.kp a o h (fun z => nomatch z) t, t⟩
  refine R.pure ⟨fun a o h _ _ t => k.kp a o h (fun z => nomatch z) t, fun a e => ?_, al, k.tb⟩
  obtain ⟨m, n, c, t, r, cells, h1, h2, h3⟩ := R.st.pen a e
  exact ⟨m, (fun z => nomatch z), c, t, r, cells, k.kp _ _ h1 (fun z => nomatch z) .lst, k.kp _ _ h2 (fun z => nomatch z) .lst, h3⟩
theorem cmp_imp (hr : ∀ (g : Gh) (x y : V) (d e : D) (k : Bool) (H : Hp) (Q : VK) (O : List Addr), g.cl = CL → LamX.Tabs g.tb H → RD g X.K O H x d → RD g X.K O H y e → f d e = some k → (∀ H', Sy (noP g) H H' → Q (.bl k) H') → r x y H Q) (hcl : B.g.cl = CL)
    (ρ : Env') (μ : Mu) (W : Ow) (m : Nat) (H : Hp) (σ : L2.St) (Q : V → Hp → Prop) (R : Rep B X.K ρ μ W m H σ) (o p : Vd) (x y : V) (ro : RW B.g X.K W H x o) (rp : RW B.g X.K W H y p) (k : Bool) (h : rdd f μ o p = some k)
    (q : ∀ W' H', Ext B.g.pa W H W' H' → Rep B X.K ρ μ W' m H' σ → Q (.bl k) H') : r x y H Q := by
  obtain ⟨d, e1, h⟩ := bind_some h
  obtain ⟨e, e2, h⟩ := bind_some h
  refine hr B.g x y d e k H Q W.o hcl R.st.tabs (drf_rd R.st ro e1) (drf_rd R.st rp e2) h fun H' sy => ?_
  obtain ⟨R', ex⟩ := R.sy sy
  exact q W H' ex R'
end
end Y

set_option Elab.async false
set_option linter.all false
set_option maxRecDepth 100000
set_option maxHeartbeats 2000000
/-! Y55: == and != of data in which own instances lie: expressions and tests. -/
namespace Y
open PySem PySem.Spec PyProof.Rows L2
section
variable {X : Cx} {B : Bd} {cs : List Nat} {ef : EF} {CL : Nat → Addr} {sup : Nat → Nat → Bool} {j n k : Nat} {a b : Expr} {fo fe : FE} {pos : Pos}
theorem cmp2_imp {r : R2} {f : D → D → Option Bool} (hr : ∀ (g : Gh) (x y : V) (d e : D) (k : Bool) (H : Hp) (Q : VK) (O : List Addr), g.cl = CL → LamX.Tabs g.tb H → RD g X.K O H x d → RD g X.K O H y e → f d e = some k → (∀ H', Sy (noP g) H H' → Q (.bl k) H') → r x y H Q) (hcl : B.g.cl = CL)
    (σ : L2.St) (H : Hp) (Q : VK) (q : tM B X.K (eCmp f fo fe) σ H Q) : tOp r (tM B X.K fo) (tM B X.K fe) σ H Q := by
  obtain ⟨ρ, μ, W, m, R, w⟩ := q
  refine ⟨ρ, μ, W, m, R, (T.All.bind w).mono fun o n1 w1 v1 W1 H1 k1 R1 r1 => ⟨ρ, o.2, W1, n1, R1, (T.All.bind w1).mono fun p n2 w2 v2 W2 H2 k2 R2 r2 => ?_⟩⟩
  have r1 := r1.ext R1.st k2
  obtain ⟨t, et, w3⟩ := T.All.ofO (T.All.bind w2)
  exact cmp_imp hr hcl ρ p.2 W2 n2 H2 σ Q R2 o.1 p.1 _ _ r1 r2 t et fun W' H' ex R' => w3 _ W' H' ((k1.trans k2).trans ex) R' (.t (.bl _))
theorem deq_r (g : Gh) (x y : V) (d e : D) (k : Bool) (H : Hp) (Q : VK) (O : List Addr) (hcl : g.cl = CL) (tb : LamX.Tabs g.tb H) (rd : RD g X.K O H x d) (re : RD g X.K O H y e) (h : deqV cs ef n d e = some k) (q : ∀ H', Sy (noP g) H H' → Q (.bl k) H') : rDeq X.K CL cs ef n x y H Q := by
  unfold deqV at h
  by_cases z : (np d && np e) = true
  · rw [if_pos z] at h
    rw [Bool.and_eq_true] at z
    exact ⟨noP g, d, e, k, rfl, hcl, tb, rd.np z.1, re.np z.2, h, q⟩
  · rw [if_neg z] at h; cases h
theorem dne_r (g : Gh) (x y : V) (d e : D) (k : Bool) (H : Hp) (Q : VK) (O : List Addr) (hcl : g.cl = CL) (tb : LamX.Tabs g.tb H) (rd : RD g X.K O H x d) (re : RD g X.K O H y e) (h : dneV cs ef n d e = some k) (q : ∀ H', Sy (noP g) H H' → Q (.bl k) H') : rDne X.K CL cs ef n x y H Q := by
  unfold dneV at h
  by_cases z : (np d && np e && notOb d) = true
  · rw [if_pos z] at h
    rw [Bool.and_eq_true, Bool.and_eq_true] at z
    cases e1 : deqN cs ef n d e with
    | none => rw [e1] at h; cases h
    | some kk => rw [e1] at h; cases h; exact ⟨noP g, d, e, kk, rfl, hcl, tb, rd.np z.1.1, re.np z.1.2, z.2, e1, q⟩
  · rw [if_neg z] at h; cases h
theorem se_deq (hE : EfOk X CL cs j ef) (S : IsaK X.K CL cs sup) (hr : Rm k X.A) (hj : j + n ≤ k) (hcl : B.g.cl = CL) (ha : PE X a (tM B X.K fo)) (hb : PE X b (tM B X.K fe))
    (hm : behindInMarks .Eq b = false := by first | exact nomark _ | rfl) : PE X (.Compare a [.Eq] [b] pos) (tM B X.K (eDeq cs ef n fo fe)) := PEimp (pe_cmpR (op_deq hE S (hr.mono hj)) ha hb hm) fun σ H Q q => cmp2_imp deq_r hcl σ H Q q
theorem se_dne (hE : EfOk X CL cs j ef) (S : IsaK X.K CL cs sup) (hr : Rm k X.A) (hj : j + n ≤ k) (hcl : B.g.cl = CL) (ha : PE X a (tM B X.K fo)) (hb : PE X b (tM B X.K fe))
    (hm : behindInMarks .NotEq b = false := by first | exact nomark _ | rfl) : PE X (.Compare a [.NotEq] [b] pos) (tM B X.K (eDne cs ef n fo fe)) := PEimp (pe_cmpR (op_dne hE S (hr.mono hj)) ha hb hm) fun σ H Q q => cmp2_imp dne_r hcl σ H Q q
theorem sk_deq (hE : EfOk X CL cs j ef) (S : IsaK X.K CL cs sup) (hr : Rm k X.A) (hj : j + n ≤ k) (hcl : B.g.cl = CL) (ha : PE X a (tM B X.K fo)) (hb : PE X b (tM B X.K fe))
    (hm : behindInMarks .Eq b = false := by first | exact nomark _ | rfl) : PT X (.Compare a [.Eq] [b] pos) (tK B X.K (kBl (eDeq cs ef n fo fe))) := PTimp (pt_cmpR (op_deq hE S (hr.mono hj)) ha hb hm) fun σ H Q q => cmp2_imp deq_r hcl σ H _ (kbl_imp σ H Q q)
theorem sk_dne (hE : EfOk X CL cs j ef) (S : IsaK X.K CL cs sup) (hr : Rm k X.A) (hj : j + n ≤ k) (hcl : B.g.cl = CL) (ha : PE X a (tM B X.K fo)) (hb : PE X b (tM B X.K fe))
    (hm : behindInMarks .NotEq b = false := by first | exact nomark _ | rfl) : PT X (.Compare a [.NotEq] [b] pos) (tK B X.K (kBl (eDne cs ef n fo fe))) := PTimp (pt_cmpR (op_dne hE S (hr.mono hj)) ha hb hm) fun σ H Q q => cmp2_imp dne_r hcl σ H _ (kbl_imp σ H Q q)
end
end Y

set_option Elab.async false
set_option linter.all false
set_option maxRecDepth 100000
set_option maxHeartbeats 3200000
/-! Y56: a set of tuples of names and numbers: looking for one. -/
namespace Y
open PySem PySem.Spec PyProof.Rows L2

abbrev TkIs (P : Program) (w : World) (h : Heap) (k : List Key) (a : Addr) : Prop := IsTupleKey (mixKind P w) h k a
abbrev tkh (P : Program) (w : World) (k : List Key) : Int := tupleKeyHash (mixKind P w) k
section
variable {P : Program} {w : World} {A : Around} {E : Value → Shared → Prop} {s : Shared}
theorem key_leaf {k : List Key} {vs : List Value} (h : ItemsAre (mixKind P w) k vs) : ∀ v ∈ vs, v.scannable = true := by
  induction h with
  | nil => exact fun v z => absurd z List.not_mem_nil
  | cons h1 _ ih =>
    intro v z
    rcases List.mem_cons.mp z with rfl | z
    · rcases keyIs_shape h1 with ⟨i, t, _, e⟩ | ⟨x, t, _, e⟩ <;> rw [e] <;> rfl
    · exact ih v z
theorem leaf_cls (n : Nat) {v : Value} (h : v.scannable = true) : ofAClassStatement n v = pure false := by
  cases v <;> first | (cases n <;> rfl) | cases h
/-- no class statement stands behind such a tuple -/
theorem tk_cls {k : List Key} {b : Addr} {Q : Bool → Shared → Prop} (hk : TkIs P w s.heap k b) (q : Q false s) : wpAny (model P w) A (ofAClassStatement 8 (.ref b)) Q E s := by
  have ty := hk.typeIs
  obtain ⟨o, its, n, ho, _, hd, hi⟩ := hk
  unfold ofAClassStatement
  refine wpAny_bind (wpAny_typeOf ty ?_)
  dsimp only
  simp only [show (("tuple" : String) == "tuple") = true by decide, if_true, Bool.not_true, Bool.false_eq_true, if_false]
  try refine wpAny_bind (wpAny_pure ?_)
  try simp only [Bool.not_true, Bool.false_eq_true, if_false]
  refine wpAny_bind (wpAny_seqItems ho hd ?_)
  dsimp only
  refine wpAny_bind ?_
  show wpAny _ _ (forIn its _ _) _ _ s
  rw [← Array.forIn_toList]
  have all := key_leaf hi
  refine wpAny_forIn_list _ (fun left r s1 => (r.1 = none ∧ s1 = s) ∧ ∀ v ∈ left, v.scannable = true) _ (fun v left r s1 z => ?_) (fun r s1 z => ?_) _ _ ⟨⟨rfl, rfl⟩, all⟩
  · obtain ⟨⟨z1, rfl⟩, z2⟩ := z
    rw [leaf_cls _ (z2 v List.mem_cons_self)]
    refine wpAny_bind (wpAny_pure ?_)
    simp only [Bool.false_eq_true, if_false]
    exact wpAny_pure ⟨⟨rfl, rfl⟩, fun u hu => z2 u (List.mem_cons_of_mem _ hu)⟩
  · obtain ⟨r1, r2⟩ := r
    obtain ⟨⟨z1, rfl⟩, _⟩ := z
    simp only at z1
    subst z1
    exact wpAny_pure q
/-- by value or not: it changes nothing -/
theorem tk_byv {k : List Key} {b : Addr} {Q : Bool → Shared → Prop} (hk : TkIs P w s.heap k b) (q : ∀ r, Q r s) : wpAny (model P w) A (hashByValue 8 (.ref b)) Q E s := by
  have ty := hk.typeIs
  obtain ⟨o, its, n, ho, _, hd, hi⟩ := hk
  unfold hashByValue
  refine wpAny_bind (wpAny_specialOf ty F.slot_tuple_hash.lookup ?_)
  show wpAny _ _ (seqItems? (.ref b) >>= _) _ _ s
  refine wpAny_bind (wpAny_seqItems ho hd ?_)
  refine wpAny_bind ?_
  show wpAny _ _ (forIn its _ _) _ _ s
  rw [← Array.forIn_toList]
  have all := key_leaf hi
  refine wpAny_forIn_list _ (fun left r s1 => s1 = s ∧ r.1 = none ∧ ∀ v ∈ left, v.scannable = true) _ (fun v left r s1 z => ?_) (fun r s1 z => ?_) _ _ ⟨rfl, rfl, all⟩
  · obtain ⟨rfl, z1, z2⟩ := z
    rw [hashByValue_scannable _ (z2 v List.mem_cons_self)]
    refine wpAny_bind (wpAny_pure ?_)
    cases plainKind v with
    | true =>
      simp only [Bool.not_true, Bool.false_eq_true, if_false]
      exact wpAny_pure ⟨rfl, rfl, fun u hu => z2 u (List.mem_cons_of_mem _ hu)⟩
    | false =>
      simp only [Bool.not_false, if_true]
      exact wpAny_pure (wpAny_pure (q false))
  · obtain ⟨r1, r2⟩ := r
    obtain ⟨rfl, z1, _⟩ := z
    simp only at z1
    subst z1
    exact wpAny_pure (q true)
/-- to look among such tuples shows nobody the table -/
theorem tk_unseen {k : List Key} {b : Addr} {Q : Bool → Shared → Prop} (hk : TkIs P w s.heap k b) {ys : List Value} (hy : ∀ y ∈ ys, ∃ k2 c, y = Value.ref c ∧ TkIs P w s.heap k2 c) (q : Q false s) :
    wpAny (model P w) A (searchCouldBeSeen (.ref b) ys) Q E s := by
  unfold searchCouldBeSeen
  refine wpAny_bind ?_
  refine wpAny_forIn_list _ (fun left r s1 => s1 = s ∧ r.1 = none ∧ ∀ y ∈ left, ∃ k2 c, y = Value.ref c ∧ TkIs P w s.heap k2 c) _ (fun v left r s1 z => ?_) (fun r s1 z => ?_) _ _ ⟨rfl, rfl, hy⟩
  · obtain ⟨rfl, z1, z2⟩ := z
    obtain ⟨k2, c, rfl, hc⟩ := z2 v List.mem_cons_self
    have left' := fun u hu => z2 u (List.mem_cons_of_mem _ hu)
    dsimp only
    by_cases e : (b == c || (carriedByValue (.ref b) && carriedByValue (.ref c))) = true
    · exact wp_if_pos e (wpAny_pure ⟨rfl, rfl, left'⟩)
    · refine wp_if_neg e (wpAny_bind (wpAny_eqIsQuiet_tuple hk ?_))
      simp only [Bool.not_true, Bool.false_eq_true, if_false]
      refine wpAny_bind (wpAny_eqIsQuiet_tuple hc ?_)
      simp only [Bool.not_true, Bool.false_eq_true, if_false]
      refine wpAny_bind (tk_cls hk ?_)
      simp only [Bool.false_eq_true, if_false]
      refine wpAny_bind (tk_cls hc ?_)
      simp only [Bool.false_eq_true, if_false]
      exact wpAny_pure ⟨rfl, rfl, left'⟩
  · obtain ⟨r1, r2⟩ := r
    obtain ⟨rfl, z1, _⟩ := z
    simp only at z1
    subst z1
    exact wpAny_pure q
end
/-! ### the way of a search -/
def prb (m : Nat) (h : Int) (c : Nat) : SetTable.Probe := nth m (runAt m (SetTable.bits h % (m + 1)) (SetTable.bits h)) c
theorem prb_j (m : Nat) (h : Int) (c : Nat) : (prb m h c).j = way m h c := rfl
theorem prb_add (m : Nat) (h : Int) (c q : Nat) : nth m (prb m h c) q = prb m h (c + q) := (nth_add m c _ q).symm
theorem prb_way (m : Nat) (h : Int) (c q : Nat) : (nth m (prb m h c) q).j = way m h (c + q) := by rw [prb_add, prb_j]
theorem adv_clean {m : Nat} {p : SetTable.Probe} (h : p.dummy = none) : (adv m p).dummy = none := by
  unfold adv
  split <;> exact h
theorem nth_clean {m : Nat} : ∀ (n : Nat) {p : SetTable.Probe}, p.dummy = none → (nth m p n).dummy = none
  | 0, _, h => h
  | n + 1, _, h => nth_clean n (adv_clean h)
theorem prb_clean (m : Nat) (h : Int) (c : Nat) : (prb m h c).dummy = none := nth_clean c rfl
end Y

set_option Elab.async false
set_option linter.all false
set_option maxRecDepth 100000
set_option maxHeartbeats 3200000
/-! Y57: a set of tuples of names and numbers: what it holds, where one is found or would lie. -/
namespace Y
open PySem PySem.Spec PyProof.Rows L2
abbrev Rw := Addr × List Key
def rwsOf (P : Program) (w : World) (L : List Rw) : List (Int × Value) := L.map fun p => (tkh P w p.2, Value.ref p.1)
/-- at a lies a set of the tuples L -/
structure TSet (P : Program) (w : World) (h : Heap) (a : Addr) (L : List Rw) (es : Array (Int × Value)) (ep : Nat) (t : SetTable) : Prop where
  here : ∃ o, h.get? a = some o ∧ o.ExactSet ∧ o.data = .set es ep t
  rw : es.toList = rwsOf P w L
  ok : TabOk t (L.map fun p => tkh P w p.2)
  apart : (L.map (·.2)).Nodup
  keys : ∀ p ∈ L, TkIs P w h p.2 p.1
  led : w.params.followText "set-order" = true ∨ t.led = true
  space : L.length * 5 < t.mask * 3
  small : L.length < 64
section
variable {P : Program} {w : World} {A : Around} {E : Value → Shared → Prop} {s : Shared} {a : Addr} {L : List Rw} {es : Array (Int × Value)} {ep : Nat} {t : SetTable}
theorem rws_size (e : es.toList = rwsOf P w L) : es.size = L.length := by
  have q := congrArg List.length e
  rwa [Array.length_toList, rwsOf, List.length_map] at q
theorem rws_at (e : es.toList = rwsOf P w L) {i : Nat} {p : Rw} (h : L[i]? = some p) : es[i]? = some (tkh P w p.2, Value.ref p.1) := by
  rw [← Array.getElem?_toList, e, rwsOf, List.getElem?_map, h]; rfl
theorem fits_of (ok : TabOk t (L.map fun p => tkh P w p.2)) (e : es.toList = rwsOf P w L) (l : L.length ≤ t.mask) : t.fits es.size = true := by
  have z := ok.sz
  rw [List.length_map] at z
  have z2 := rws_size e
  unfold SetTable.fits SetTable.fill
  rw [ok.dm, Bool.and_eq_true, beq_iff_eq, decide_eq_true_eq]
  exact ⟨by omega, by show t.place.size + 0 ≤ t.mask; omega⟩
theorem TSet.fits (R : TSet P w s.heap a L es ep t) : t.fits es.size = true := fits_of R.ok R.rw (by have := R.space; omega)
theorem TSet.stays (R : TSet P w s.heap a L es ep t) : ¬ t.gaveWay = true := by
  unfold SetTable.gaveWay
  rw [mask_odd R.ok.mok]
  decide
theorem TSet.ix (R : TSet P w s.heap a L es ep t) {i j : Nat} (h : t.place.toList[i]? = some j) : i < L.length := by
  have z := (List.getElem?_eq_some_iff.mp h).1
  have z2 := R.ok.sz
  rw [List.length_map] at z2
  rw [Array.length_toList] at z
  omega
/-- looking for the tuple x, k its items: from the step c on; K is the first free step -/
theorem look_go (R : TSet P w s.heap a L es ep t) {x : Addr} {k : List Key} (hx : TkIs P w s.heap k x) (hu : A.units < cLine) {K : Nat} (hK1 : K < 10 * SetTable.turns t.mask)
    (hK2 : way t.mask (tkh P w k) K ∉ t.place.toList) (hK3 : ∀ c, c < K → way t.mask (tkh P w k) c ∈ t.place.toList) {Q : SetFound → Shared → Prop}
    (yes : k ∈ L.map (·.2) → Q (.there none) s) (no : k ∉ L.map (·.2) → Q (.free (way t.mask (tkh P w k) K) false) s) : ∀ (f c : Nat) (from_ : Option SetTable.Probe),
      from_.getD (t.probeStart (tkh P w k)) = prb t.mask (tkh P w k) c → c ≤ K → K - c < f → (∀ (i : Nat) p, L[i]? = some p → p.2 = k → ∃ c2, (c ≤ c2 ∧ c2 < K) ∧ t.place.toList[i]? = some (way t.mask (tkh P w k) c2)) →
      wpAny (model P w) A (setSearchFrom a (.ref x) (tkh P w k) true f from_) Q E s := by
  obtain ⟨o, ho, _, hd⟩ := R.here
  have seen : ∀ (i : Nat) p, L[i]? = some p → (fun i => (es[i]?.map (·.1)).getD 0) i = tkh P w p.2 := fun i p hp => by
    show (es[i]?.map (·.1)).getD 0 = _
    rw [rws_at R.rw hp]; rfl
  intro f
  induction f with
  | zero => intro c from_ _ _ hf _; omega
  | succ f ih =>
    intro c from_ h1 h2 h3 ahead
    rw [setSearchFrom_succ]
    refine wpAny_bind (wpAny_setState_of ho hd R.fits ?_)
    dsimp only
    refine wp_if_neg R.stays ?_
    try refine wpAny_bind (wpAny_pure ?_)
    have met := go_spec t R.ok.ris R.ok.dm (fun i => (es[i]?.map (·.1)).getD 0) (tkh P w k) (10 * SetTable.turns t.mask) (K - c) (prb t.mask (tkh P w k) c) (prb_clean _ _ _) (by omega)
      (fun q hq => by rw [prb_way]; exact hK3 _ (by omega)) (by rw [prb_way, show c + (K - c) = K by omega]; exact hK2)
    rcases met with ⟨q, i, q1, q2, q3, q4, q5⟩ | ⟨q4, q5⟩
    · rw [prb_way] at q2
      have met : t.probe (fun i => (es[i]?.map (·.1)).getD 0) (tkh P w k) (from_.getD (t.probeStart (tkh P w k))) = some (.candidate (way t.mask (tkh P w k) (c + q)) i (prb t.mask (tkh P w k) (c + (q + 1)))) := by
        rw [h1, ← prb_way, ← prb_add]; exact q5
      rw [met]
      dsimp only
      obtain ⟨p, hp⟩ : ∃ p, L[i]? = some p := ⟨_, List.getElem?_eq_getElem (R.ix q2)⟩
      have pL := List.mem_of_getElem? hp
      have more : wpAny (model P w) A (searchRest a (.ref x) (tkh P w k) true f es t (way t.mask (tkh P w k) (c + q)) i (prb t.mask (tkh P w k) (c + (q + 1)))) Q E s := by
        unfold searchRest
        rw [rws_at R.rw hp]
        dsimp only
        refine wpAny_bind (wpAny_holding (wpAny_eqBool_tuple hu (R.keys p pL) hx ?_))
        refine wpAny_bind (wpAny_setState_of ho hd R.fits ?_)
        dsimp only
        by_cases e : p.2 = k
        · exact wp_if_pos (by simp [e]) (wpAny_pure (yes (List.mem_map.mpr ⟨p, pL, e⟩)))
        · refine wp_if_neg (by simp [e]) ?_
          try refine wpAny_bind (wpAny_pure ?_)
          have live := slot_live R.ok.ris q2
          rw [sameMem]
          dsimp only
          simp only [if_true, live, rws_at R.rw hp]
          refine wpAny_bind (wpAny_isSame_ref_self (wpAny_bind (wpAny_pure ?_)))
          simp only [if_true]
          refine wp_if_neg (by simp [e]) (ih (c + (q + 1)) _ rfl (by omega) (by omega) fun i0 p0 e0 e1 => ?_)
          obtain ⟨c2, ⟨l1, l2⟩, l3⟩ := ahead i0 p0 e0 e1
          refine ⟨c2, ⟨?_, l2⟩, l3⟩
          rcases Nat.lt_trichotomy c2 (c + q) with z | z | z
          · refine (q4 (c2 - c) i0 (by omega) (by rw [prb_way, show c + (c2 - c) = c2 by omega]; exact l3) ?_).elim
            exact (seen i0 p0 e0).trans (by rw [e1])
          · subst z
            have z := slot_live R.ok.ris l3
            rw [live] at z
            injection z with z
            rw [← z, hp] at e0
            cases e0
            exact (e e1).elim
          · omega
      by_cases hl : t.led = true
      · refine wp_if_neg (by simp [hl]) ?_
        try refine wpAny_bind (wpAny_pure ?_)
        exact more
      · refine wp_if_pos (by simp [hl]) (wpAny_bind (tk_unseen hx (fun y hy => ?_) ?_))
        · obtain ⟨e, e1, e2⟩ := List.mem_map.mp hy
          have e1 : e ∈ es ∧ e.1 = tkh P w k := by simpa using e1
          have e1 : e ∈ es.toList := by simpa using e1.1
          rw [R.rw] at e1
          obtain ⟨p2, hp2, e3⟩ := List.mem_map.mp e1
          exact ⟨p2.2, p2.1, by rw [← e2, ← e3], R.keys p2 hp2⟩
        · refine wp_if_neg (by decide) ?_
          try refine wpAny_bind (wpAny_pure ?_)
          exact more
    · have met : t.probe (fun i => (es[i]?.map (·.1)).getD 0) (tkh P w k) (from_.getD (t.probeStart (tkh P w k))) = some (.empty (way t.mask (tkh P w k) K) none) := by
        have e2 : way t.mask (tkh P w k) K = (nth t.mask (prb t.mask (tkh P w k) c) (K - c)).j := by rw [prb_way, show c + (K - c) = K by omega]
        rw [h1, e2]; exact q5
      rw [met]
      dsimp only
      refine wpAny_pure (no fun z => ?_)
      obtain ⟨p0, m0, e1⟩ := List.mem_map.mp z
      obtain ⟨i0, l0, e0⟩ := List.getElem_of_mem m0
      have e0 : L[i0]? = some p0 := by rw [List.getElem?_eq_getElem l0, e0]
      obtain ⟨c2, ⟨l1, l2⟩, l3⟩ := ahead i0 p0 e0 e1
      refine q4 (c2 - c) i0 (by omega) (by rw [prb_way, show c + (c2 - c) = c2 by omega]; exact l3) ?_
      exact (seen i0 p0 e0).trans (by rw [e1])
/-- looking for a tuple to be put in -/
theorem look_at (R : TSet P w s.heap a L es ep t) {x : Addr} {k : List Key} (hx : TkIs P w s.heap k x) (hu : A.units < cLine) {Q : SetFound → Shared → Prop} (yes : k ∈ L.map (·.2) → Q (.there none) s)
    (no : ∀ K, k ∉ L.map (·.2) → way t.mask (tkh P w k) K ∉ t.place.toList → (∀ c, c < K → way t.mask (tkh P w k) c ∈ t.place.toList) → Q (.free (way t.mask (tkh P w k) K) false) s) :
    wpAny (model P w) A (setSearch a (.ref x) (tkh P w k) true) Q E s := by
  have sp := R.space
  obtain ⟨K, l1, l2, l3⟩ := R.ok.first (by rw [List.length_map]; omega) (tkh P w k)
  have few : K < 100000 := by
    refine Nat.lt_of_lt_of_le l1 ?_
    unfold SetTable.turns
    rcases R.ok.mok with e | e | e <;> rw [e] <;> decide
  unfold setSearch
  refine look_go R hx hu l1 l2 l3 yes (fun z => no K z l2 l3) 100000 0 none rfl (Nat.zero_le _) (by omega) fun i p hp e => ?_
  have hi : (L.map fun p => tkh P w p.2)[i]? = some (tkh P w k) := by rw [List.getElem?_map, hp, ← e]; rfl
  have hl : i < t.place.toList.length := by
    have z := (List.getElem?_eq_some_iff.mp hp).1
    have z2 := R.ok.sz
    rw [List.length_map] at z2
    rw [Array.length_toList]; omega
  obtain ⟨c, c1, c2⟩ := R.ok.before l2 hi (List.getElem?_eq_getElem hl)
  exact ⟨c, ⟨Nat.zero_le _, c1⟩, by rw [List.getElem?_eq_getElem hl, c2]⟩
end
end Y

set_option Elab.async false
set_option linter.all false
set_option maxRecDepth 100000
set_option maxHeartbeats 3200000
/-! Y58: a set of tuples of names and numbers: putting one in. -/
namespace Y
open PySem PySem.Spec PyProof.Rows L2
section
variable {P : Program} {w : World} {A : Around} {E : Value → Shared → Prop} {s : Shared} {a : Addr} {L : List Rw} {es : Array (Int × Value)} {ep : Nat} {t : SetTable}
theorem tk_but {h h' : Heap} {k : List Key} {b : Addr} {o : Obj} (x : TkIs P w h k b) (ho : h.get? a = some o) (hd : o.data = .set es ep t) (e : Heap.SameBut a h h') : TkIs P w h' k b := by
  obtain ⟨o2, its, n, h1, h2, h3, h4⟩ := x
  refine ⟨o2, its, n, (e.2 b fun z => ?_).trans h1, h2, h3, h4⟩
  subst z
  rw [h1] at ho
  cases ho
  rw [h3] at hd
  cases hd
theorem pick_all {α : Type} (L : List α) : ∀ n, n ≤ L.length → (List.range n).filterMap (fun i => L[i]?) = L.take n
  | 0, _ => rfl
  | n + 1, h => by
    have l : n < L.length := h
    rw [List.range_succ, List.filterMap_append, pick_all L n (Nat.le_of_lt l), List.take_succ, List.getElem?_eq_getElem l]
    exact congrArg _ (List.filterMap_cons_some (List.getElem?_eq_getElem l))
theorem pick_rows (e : es.toList = rwsOf P w L) : ∀ l : List Nat, (∀ i ∈ l, i < L.length) →
    l.filterMap (fun i => es[i]?) = rwsOf P w (l.filterMap fun i => L[i]?) ∧ ((l.filterMap fun i => L[i]?).map fun p => tkh P w p.2) = l.map fun i => (es.map (·.1)).getD i 0
  | [], _ => ⟨rfl, rfl⟩
  | i :: l, h => by
    have hi := h i List.mem_cons_self
    obtain ⟨e1, e2⟩ := pick_rows e l fun j hj => h j (List.mem_cons_of_mem _ hj)
    have g := rws_at e (List.getElem?_eq_getElem hi)
    have g2 : (es.map (·.1)).getD i 0 = tkh P w (L[i]).2 := by
      have z : (es.map (·.1))[i]? = some (tkh P w (L[i]).2) := by rw [Array.getElem?_map, g]; rfl
      rw [Array.getD_eq_getD_getElem?, z]; rfl
    have c1 : (i :: l).filterMap (fun i => L[i]?) = L[i] :: l.filterMap fun i => L[i]? := List.filterMap_cons_some (List.getElem?_eq_getElem hi)
    have c2 : (i :: l).filterMap (fun i => es[i]?) = (tkh P w (L[i]).2, Value.ref (L[i]).1) :: l.filterMap fun i => es[i]? := List.filterMap_cons_some g
    rw [c1, c2, e1]
    exact ⟨rfl, by rw [List.map_cons, List.map_cons, e2, g2]⟩
/-- the rows in another order -/
theorem turned {order : Array Nat} (e : es.toList = rwsOf P w L) (p : order.toList.Perm (List.range L.length)) :
    ∃ M, (order.filterMap (es[·]?)).toList = rwsOf P w M ∧ M.Perm L ∧ (M.map fun q => tkh P w q.2) = order.toList.map fun i => (es.map (·.1)).getD i 0 := by
  obtain ⟨e1, e2⟩ := pick_rows e order.toList fun i hi => List.mem_range.mp (p.mem_iff.mp hi)
  refine ⟨order.toList.filterMap fun i => L[i]?, by simpa using e1, ?_, e2⟩
  have q := p.filterMap fun i => L[i]?
  rwa [pick_all L L.length (Nat.le_refl _), List.take_length] at q
/-- the set laid anew, with a larger table -/
theorem lay_anew {o : Obj} (ho : s.heap.get? a = some o) (hx : o.ExactSet) (hd : o.data = .set es ep t) (e : es.toList = rwsOf P w L) (fit : t.fits es.size = true) (nd : (L.map (·.2)).Nodup) (ks : ∀ p ∈ L, TkIs P w s.heap p.2 p.1)
    (ld : w.params.followText "set-order" = true ∨ t.led = true) (few : L.length < 64) {many M : Nat} (h1 : SetTable.sizeAbove many - 1 = M) (h2 : MaskOk M) (h3 : SetTable.sizeAbove many ≤ 128) (h4 : L.length * 5 < M * 3) {Q : Unit → Shared → Prop}
    (q : ∀ h' L' es' ep' t', Heap.SameBut a s.heap h' → TSet P w h' a L' es' ep' t' → L'.Perm L → Q () { s with heap := h' }) : wpAny (model P w) A (setRelay a many) Q E s := by
  have sz := rws_size e
  obtain ⟨t2, order, g1, g2, g3, g4, g5, _, _⟩ := relaid_ok t (hs := es.map (·.1)) (wanted := many) h1 h2 (by rw [Array.size_map]; omega)
  rw [Array.size_map, sz] at g2
  obtain ⟨M2, r1, r2, r3⟩ := turned e g2
  rw [← r3] at g3
  have sz2 : (order.filterMap (es[·]?)).size = es.size := by rw [rws_size r1, r2.length_eq, sz]
  rw [setRelay_eq]
  refine wpAny_bind (wpAny_setState_of ho hd fit ?_)
  dsimp only
  refine wp_if_neg (by rw [sizeLine_eq]; omega) ?_
  try refine wpAny_bind (wpAny_pure ?_)
  rw [g1]
  dsimp only
  refine wpAny_bind (wp_if_neg (by rw [sz2]; simp) ?_)
  try refine wpAny_bind (wpAny_pure ?_)
  refine wpAny_pure ?_
  dsimp only
  refine wpAny_storeSet_of ho hd ?_ (by rw [sz2, sz, sizeLine_eq]; omega)
  have but : Heap.SameBut a s.heap (s.heap.update a (Obj.putSet (order.filterMap (es[·]?)) t2)) := .update ..
  exact q _ M2 _ (ep + 1) t2 but ⟨⟨_, store_at ho hd, ⟨hx.1, hx.2.1, hx.2.2⟩, rfl⟩, r1, g3, (r2.map (·.2)).nodup_iff.mpr nd, fun p hp => tk_but (ks p (r2.mem_iff.mp hp)) ho hd but, by rw [g5]; exact ld, by rw [r2.length_eq, g4]; exact h4, by rw [r2.length_eq]; exact few⟩ r2
/-- a tuple is put in -/
theorem put_in (R : TSet P w s.heap a L es ep t) {x : Addr} {k : List Key} (hx : TkIs P w s.heap k x) (hu : A.units < cLine) (few : L.length + 1 < 64) {Q : Bool → Shared → Prop}
    (q : ∀ b h' L' es' ep' t', Heap.SameBut a s.heap h' → TSet P w h' a L' es' ep' t' → (k ∈ L.map (·.2) → L' = L) → (k ∉ L.map (·.2) → L'.Perm ((x, k) :: L)) → Q b { s with heap := h' }) :
    wpAny (model P w) A (setAddHashed a (.ref x) (tkh P w k)) Q E s := by
  obtain ⟨o, ho, ex, hd⟩ := R.here
  have sz := rws_size R.rw
  have sp := R.space
  unfold setAddHashed
  refine wpAny_holding ?_
  show wpAny _ _ (setAddHashedIn a (.ref x) (tkh P w k) (99999 + 1)) _ _ _
  rw [setAddHashedIn_succ]
  refine wpAny_bind (wpAny_setState_of ho hd R.fits ?_)
  dsimp only
  refine wp_if_neg (by simp [byScan, Value.scannable]) ?_
  try refine wpAny_bind (wpAny_pure ?_)
  refine wpAny_bind (look_at R hx hu (fun m => ?_) fun K m k2 k3 => ?_)
  · dsimp only
    exact wpAny_pure (q false _ L es ep t (Heap.SameBut.refl a s.heap) R (fun _ => rfl) fun z => (z m).elim)
  dsimp only
  refine wpAny_bind (wpAny_setState_of ho hd R.fits ?_)
  dsimp only
  obtain ⟨p1, p2, p3, p4, p5, p6, _, _, p9⟩ := R.ok.put k2 k3
  -- the new rows
  have rows : (SetTable.insertAt es (SetTable.below t.place (way t.mask (tkh P w k) K)) (tkh P w k, Value.ref x)).toList = rwsOf P w (L.take (SetTable.below t.place (way t.mask (tkh P w k) K)) ++ (x, k) :: L.drop (SetTable.below t.place (way t.mask (tkh P w k) K))) := by
    rw [SetTable.toList_insertAt, R.rw]
    unfold rwsOf
    rw [List.map_append, List.map_cons, List.map_take, List.map_drop]
  have hashes : (L.take (SetTable.below t.place (way t.mask (tkh P w k) K)) ++ (x, k) :: L.drop (SetTable.below t.place (way t.mask (tkh P w k) K))).map (fun p => tkh P w p.2) =
      (L.map fun p => tkh P w p.2).take (SetTable.below t.place (way t.mask (tkh P w k) K)) ++ tkh P w k :: (L.map fun p => tkh P w p.2).drop (SetTable.below t.place (way t.mask (tkh P w k) K)) := by
    rw [List.map_append, List.map_cons, List.map_take, List.map_drop]
  rw [← hashes] at p3
  generalize hp : t.put (way t.mask (tkh P w k) K) = tp at p1 p3 p4 p5 p6 p9 ⊢
  obtain ⟨t1, pl⟩ := tp
  dsimp only at p1 p3 p4 p5 p6 p9 ⊢
  subst p1
  have perm := put_perm L (SetTable.below t.place (way t.mask (tkh P w k) K)) (x, k)
  generalize SetTable.below t.place (way t.mask (tkh P w k) K) = pl at p2 p3 rows perm ⊢
  generalize L.take pl ++ (x, k) :: L.drop pl = L1 at p3 rows perm
  have len1 : L1.length = L.length + 1 := perm.length_eq
  have sz1 := rws_size rows
  generalize SetTable.insertAt es pl (tkh P w k, Value.ref x) = es1 at rows sz1 ⊢
  have nd1 : (L1.map (·.2)).Nodup := (perm.map (·.2)).nodup_iff.mpr (by rw [List.map_cons]; exact List.nodup_cons.mpr ⟨m, R.apart⟩)
  -- whatever becomes of the mark
  have rest : ∀ t2 : SetTable, t2.place = t1.place → t2.dummies = t1.dummies → t2.mask = t1.mask → t2.led = t1.led → wpAny (model P w) A (do
      storeSet a es1 t2
      if (!false) && t2.tooFull then setRelay a (SetTable.grown (es.size + 1))
      return true) Q E s := fun t2 f1 f2 f3 f4 => by
    have ok2 : TabOk t2 (L1.map fun p => tkh P w p.2) := ⟨by rw [f1]; exact p3.ris, by rw [f2]; exact p3.dm, by rw [f1]; exact p3.sz, by rw [f3]; exact p3.mok, by rw [f1, f3]; exact p3.bd, by rw [f1, f3]; exact p3.reach⟩
    have fill2 : t2.fill = L.length + 1 := by
      have z : t2.fill = t1.fill := by unfold SetTable.fill; rw [f1, f2]
      rw [z, p9, List.length_map]
    refine wpAny_bind (wpAny_storeSet_of ho hd ?_ (by rw [sz1, len1, sizeLine_eq]; omega))
    have but : Heap.SameBut a s.heap (s.heap.update a (Obj.putSet es1 t2)) := .update ..
    have ho1 := store_at (es' := es1) (t' := t2) ho hd
    generalize s.heap.update a (Obj.putSet es1 t2) = h1 at but ho1 ⊢
    have ks1 : ∀ p ∈ L1, TkIs P w h1 p.2 p.1 := fun p hp => by
      rcases List.mem_cons.mp (perm.mem_iff.mp hp) with rfl | z
      · exact tk_but hx ho hd but
      · exact tk_but (R.keys p z) ho hd but
    have ld1 : w.params.followText "set-order" = true ∨ t2.led = true := by rw [f4, p5]; exact R.led
    by_cases full : t2.tooFull = true
    · have big : (L.length + 1) * 5 ≥ t.mask * 3 := by
        have z := full
        unfold SetTable.tooFull at z
        rw [decide_eq_true_eq, fill2, f3, p4] at z
        exact z
      have two : (t.mask = 7 ∧ L.length = 4) ∨ (t.mask = 31 ∧ L.length = 18) := by
        rcases R.ok.mok with z | z | z <;> rw [z] at sp big <;> omega
      have go : ∀ M, SetTable.sizeAbove (SetTable.grown (L.length + 1)) - 1 = M → MaskOk M → SetTable.sizeAbove (SetTable.grown (L.length + 1)) ≤ 128 → (L.length + 1) * 5 < M * 3 →
          wpAny (model P w) A (setRelay a (SetTable.grown (es.size + 1)) >>= fun _ => pure true) Q E { s with heap := h1 } := fun M a1 a2 a3 a4 => by
        rw [sz]
        refine wpAny_bind (lay_anew (s := { s with heap := h1 }) ho1 ⟨ex.1, ex.2.1, ex.2.2⟩ rfl rows (fits_of ok2 rows (by rw [len1, f3, p4]; omega)) nd1 ks1 ld1 (by omega) a1 a2 a3 (by rw [len1]; exact a4) fun h2 L2 es2 ep2 t3 b2 R2 m2 => ?_)
        exact wpAny_pure (q true h2 L2 es2 ep2 t3 (but.trans b2) R2 (fun z => (m z).elim) fun _ => m2.trans perm)
      have run : wpAny (model P w) A (setRelay a (SetTable.grown (es.size + 1)) >>= fun _ => pure true) Q E { s with heap := h1 } := by
        rcases two with ⟨_, z⟩ | ⟨_, z⟩
        · exact go 31 (by rw [z, size_20]) (.inr (.inl rfl)) (by rw [z, size_20]; decide) (by omega)
        · exact go 127 (by rw [z, size_76]) (.inr (.inr rfl)) (by rw [z, size_76]; decide) (by omega)
      first
        | (refine wp_if_pos (by simp [full]) ?_; exact run)
        | (refine wpAny_bind (wp_if_pos (by simp [full]) ?_); exact wpAny_of_bind run)
    · have fin : wpAny (model P w) A (pure true) Q E { s with heap := h1 } := by
        refine wpAny_pure (q true h1 L1 es1 (ep + 1) t2 but ⟨⟨_, ho1, ⟨ex.1, ex.2.1, ex.2.2⟩, rfl⟩, rows, ok2, nd1, ks1, ld1, ?_, by omega⟩ (fun z => (m z).elim) fun _ => perm)
        have z := full
        unfold SetTable.tooFull at z
        rw [decide_eq_true_eq, fill2] at z
        rw [len1]; omega
      first
        | (refine wp_if_neg (by simp [full]) ?_; exact fin)
        | (refine wpAny_bind (wp_if_neg (by simp [full]) ?_); exact wpAny_pure fin)
  by_cases hpn : t1.plain = true
  · first
      | refine wpAny_bind (wp_if_pos hpn (tk_byv hx fun r => ?_))
      | refine wp_if_pos hpn (wpAny_bind (tk_byv hx fun r => ?_))
    cases r with
    | true => exact rest t1 rfl rfl rfl rfl
    | false => exact rest { t1 with plain := false } rfl rfl rfl rfl
  · first
      | refine wpAny_bind (wp_if_neg hpn (wpAny_pure ?_))
      | refine wp_if_neg hpn (wpAny_bind (wpAny_pure ?_))
    exact rest t1 rfl rfl rfl rfl
end
end Y

set_option Elab.async false
set_option linter.all false
set_option maxRecDepth 100000
set_option maxHeartbeats 3200000
/-! Y59: set(..) of a list or a tuple of tuples of names and numbers. -/
namespace Y
open PySem PySem.Spec PyProof.Rows L2
/-- L holds what B and the first i of ks hold -/
structure Has (B ks : List Rw) (i : Nat) (L : List Rw) : Prop where
  from_ : ∀ p ∈ L, p ∈ B ++ ks.take i
  all : ∀ p ∈ B ++ ks.take i, p.2 ∈ L.map (·.2)
  len : L.length ≤ B.length + i
theorem Has.start {B ks : List Rw} : Has B ks 0 B := ⟨fun p h => List.mem_append_left _ h, fun p h => by simpa using ⟨p.1, by simpa using h⟩, Nat.le_refl _⟩
theorem Has.step {B ks L L' : List Rw} {i : Nat} {x : Rw} (g : Has B ks i L) (h : ks[i]? = some x) (c1 : x.2 ∈ L.map (·.2) → L' = L) (c2 : x.2 ∉ L.map (·.2) → L'.Perm (x :: L)) : Has B ks (i + 1) L' := by
  have e : B ++ ks.take (i + 1) = B ++ ks.take i ++ [x] := by rw [List.take_succ, h, List.append_assoc]; rfl
  have len := g.len
  by_cases c : x.2 ∈ L.map (·.2)
  · rw [c1 c]
    refine ⟨fun p hp => by rw [e]; exact List.mem_append_left _ (g.from_ p hp), fun p hp => ?_, by omega⟩
    rw [e] at hp
    rcases List.mem_append.mp hp with z | z
    · exact g.all p z
    · rw [List.mem_singleton.mp z]; exact c
  · have pm := c2 c
    refine ⟨fun p hp => ?_, fun p hp => ?_, by rw [pm.length_eq, List.length_cons]; omega⟩
    · rw [e]
      rcases List.mem_cons.mp (pm.mem_iff.mp hp) with rfl | z
      · exact List.mem_append_right _ (List.mem_singleton.mpr rfl)
      · exact List.mem_append_left _ (g.from_ p z)
    · rw [e] at hp
      rw [(pm.map (·.2)).mem_iff, List.map_cons]
      rcases List.mem_append.mp hp with z | z
      · exact List.mem_cons_of_mem _ (g.all p z)
      · rw [List.mem_singleton.mp z]; exact List.mem_cons_self
section
variable {P : Program} {w : World} {A : Around} {E : Value → Shared → Prop} {s : Shared}
theorem tk_keep {h h' : Heap} {k : List Key} {b : Addr} (x : TkIs P w h k b) (q : ∀ c o, h.get? c = some o → h'.get? c = some o) : TkIs P w h' k b := by
  obtain ⟨o, its, n, ho, r⟩ := x
  exact ⟨o, its, n, q b o ho, r⟩
theorem TSet.keep {h h' : Heap} {a : Addr} {L : List Rw} {es : Array (Int × Value)} {ep : Nat} {t : SetTable} (R : TSet P w h a L es ep t) (ha : ∀ o, h.get? a = some o → h'.get? a = some o) (ks : ∀ p ∈ L, TkIs P w h' p.2 p.1) : TSet P w h' a L es ep t := by
  obtain ⟨o, ho, r⟩ := R.here
  exact ⟨⟨o, ha o ho, r⟩, R.rw, R.ok, R.apart, ks, R.led, R.space, R.small⟩
theorem tset_new {h : Heap} {a : Addr} (ho : h.get? a = some (so w)) : TSet P w h a [] #[] 0 (.fresh 0 0 (!w.params.followText "set-order")) := by
  refine ⟨⟨_, ho, ⟨rfl, rfl, rfl⟩, rfl⟩, rfl, ⟨List.Pairwise.nil, rfl, rfl, .inl rfl, fun x z => (by cases z), fun i h j z => (by simp at z)⟩, List.nodup_nil, fun p z => (by cases z), ?_, by show 0 * 5 < 7 * 3; decide, by show 0 < 64; decide⟩
  show _ ∨ (!w.params.followText "set-order") = true
  cases w.params.followText "set-order" <;> simp
/-- all that a source gives is put in, one by one -/
theorem put_all {I : Addr} {fp wr : List Addr} {G : Array GenState → Array GenState → Prop} {n : Nat} {Pv : Nat → Value → Prop} {St : Nat → Shared → Prop} {R : Result → Shared → Prop} (W : WalksS P w A.in1 I fp wr G n Pv St) (S : Addr) (hS : S ∉ fp)
    (B ks : List Rw) (hn : n = ks.length) (few : B.length + ks.length < 64) (val : ∀ i v, Pv i v → ∃ p, ks[i]? = some p ∧ v = .ref p.1) (h0 : Heap) (hk : ∀ p ∈ B ++ ks, TkIs P w h0 p.2 p.1) (hS0 : h0.get? S = none) (hw0 : ∀ b ∈ wr, h0.get? b = none) (hu : A.in1.units < cLine) :
    ∀ (k i : Nat) (s : Shared), n - i = k → i ≤ n → St i s → (∀ b o, h0.get? b = some o → s.heap.get? b = some o) → (∃ L es ep t, TSet P w s.heap S L es ep t ∧ Has B ks i L) →
      (∀ s' L es ep t, Moved (S :: wr) G s s' → TSet P w s'.heap S L es ep t → Has B ks n L → (∀ b o, h0.get? b = some o → s'.heap.get? b = some o) → R (.ok (.ret .none)) s') →
      codeAny (model P w) A (.builtin "set.update.loop" ⟨[.ref S, .ref I], []⟩) R s := by
  have hSw : S ∉ wr := fun h => hS (W.sub _ h)
  have up : ∀ b ∈ wr, b ∈ S :: wr := fun b hb => List.mem_cons_of_mem _ hb
  have kept : ∀ {s s' : Shared}, Moved wr G s s' → (∀ b o, h0.get? b = some o → s.heap.get? b = some o) → ∀ b o, h0.get? b = some o → s'.heap.get? b = some o := fun hm q b o e =>
    hm.heap b o (fun z => by rw [hw0 b z] at e; cases e) (q b o e)
  have inn : ∀ {i : Nat} {L : List Rw}, Has B ks i L → ∀ p ∈ L, p ∈ B ++ ks := fun g p hp => by
    rcases List.mem_append.mp (g.from_ p hp) with z | z
    · exact List.mem_append_left _ z
    · exact List.mem_append_right _ (List.mem_of_mem_take z)
  intro k
  induction k with
  | zero =>
    intro i s e hi st q ⟨L, es, ep, t, R1, g⟩ fin
    obtain rfl : i = n := by omega
    refine codeAny_builtin F.entry_set_update_loop ?_
    rw [Around.under_plainId F.plain_set_update_loop _]
    show wpAny _ A.in1 (pyNext (.ref I) >>= _) _ _ s
    refine wpAny_bind (W.done s _ _ st fun s1 hm => ?_)
    have q1 := kept hm q
    exact wpAny_pure (fin s1 L es ep t (hm.mono up) (R1.keep (fun o e => hm.heap S o hSw e) fun p hp => tk_keep (hk p (inn g p hp)) q1) g q1)
  | succ k ih =>
    intro i s e hi st q ⟨L, es, ep, t, R1, g⟩ fin
    have lt : i < n := by omega
    refine codeAny_builtin F.entry_set_update_loop ?_
    rw [Around.under_plainId F.plain_set_update_loop _]
    show wpAny _ A.in1 (pyNext (.ref I) >>= _) _ _ s
    refine wpAny_bind (W.item i s _ _ lt st fun v s1 pv st1 hm => ?_)
    obtain ⟨p, hp, rfl⟩ := val i v pv
    have q1 := kept hm q
    have R2 : TSet P w s1.heap S L es ep t := R1.keep (fun o e => hm.heap S o hSw e) fun p hp => tk_keep (hk p (inn g p hp)) q1
    have hx : TkIs P w s1.heap p.2 p.1 := tk_keep (hk p (List.mem_append_right _ (List.mem_of_getElem? hp))) q1
    show wpAny _ A.in1 (holding [Value.ref p.1] (setAdd S (.ref p.1)) >>= _) _ _ s1
    refine wpAny_bind (wpAny_holding ?_)
    unfold setAdd
    refine wpAny_holding (wpAny_bind (wpAny_pyHash_tuple hu hx ?_))
    refine put_in (s := { s1 with toks := s1.toks + (p.2.length + 1) }) R2 hx hu (by have := g.len; omega) fun b h' L' es' ep' t' but R3 c1 c2 => ?_
    have q2 : ∀ b o, h0.get? b = some o → h'.get? b = some o := fun b o e => (but.2 b (fun z => by rw [z, hS0] at e; cases e)).trans (q1 b o e)
    refine wpAny_pure ⟨plainId_quiet F.plain_set_update_loop _, ih (i + 1) _ (by omega) lt (W.frame _ s1 _ _ st1 (Nat.le_add_right _ _) fun b hb o e => ?_) q2 ⟨L', es', ep', t', R3, g.step hp c1 c2⟩ fun s2 L2 es2 ep2 t2 hm2 R4 g2 q3 => ?_⟩
    · rw [but.2 b (fun z : b = S => hS (by rw [← z]; exact hb))]; exact e
    · refine fin s2 L2 es2 ep2 t2 (Moved.trans W.gtrans ((hm.mono up).then_heap (Nat.le_add_right _ _) fun b o hb e => ?_) hm2) R4 g2 q3
      rw [but.2 b (fun z : b = S => hb (by rw [z]; exact List.mem_cons_self))]; exact e
/-- filled from ks: the set is the first thing that s has not -/
structure FillT (P : Program) (w : World) (s : Shared) (ks : List Rw) (s₂ : Shared) : Prop where
  ex : ∃ (h' : Heap) (tk : Nat) (L : List Rw) (es : Array (Int × Value)) (ep : Nat) (t : SetTable), s₂ = { s with heap := h', toks := tk } ∧ TSet P w h' s.heap.objs.size L es ep t ∧ Has [] ks ks.length L ∧ ∀ b o, s.heap.get? b = some o → h'.get? b = some o
theorem refs_at {items : Array Value} {ks : List Rw} (e : items.toList = ks.map fun p => Value.ref p.1) : items.size = ks.length ∧ ∀ (i : Nat) (v : Value), items[i]? = some v → ∃ p, ks[i]? = some p ∧ v = .ref p.1 := by
  refine ⟨by rw [← Array.length_toList, e, List.length_map], fun i v hv => ?_⟩
  have z : items.toList[i]? = some v := by rw [Array.getElem?_toList]; exact hv
  rw [e, List.getElem?_map] at z
  cases q : ks[i]? with
  | none => rw [q] at z; cases z
  | some p => rw [q] at z; exact ⟨p, rfl, (Option.some.inj z).symm⟩
theorem none_at {h : Heap} {b : Addr} (l : h.objs.size ≤ b) : h.get? b = none := by
  cases q : h.get? b with
  | none => rfl
  | some o => exact (Nat.lt_irrefl _ (Nat.lt_of_lt_of_le (Heap.lt_size q) l)).elim
theorem fillT_list {l : Addr} {items : Array Value} {ks : List Rw} (hh : A.handled = none) (hl : s.heap.IsList l items) (hit : items.toList = ks.map fun p => Value.ref p.1) (hk : ∀ p ∈ ks, TkIs P w s.heap p.2 p.1) (few : ks.length < 64) (hu : A.units + 3 < cLine) :
    codeAny (model P w) A (.call (.builtin "set.__init__") ⟨[.ref s.heap.objs.size, .ref l], []⟩) (wants (fun r s₂ => r = .none ∧ FillT P w s ks s₂) E) (soS w s) := by
  obtain ⟨sz, val⟩ := refs_at hit
  have there : (s.heap.push (so w)).get? s.heap.objs.size = some (so w) := Heap.get?_push_size _ rfl
  refine codeAny_call_builtin F.called_set.init.plain F.entry_set_init (check_set_init_1 (s := soS w s) ⟨_, there, rfl⟩ ?_)
  obtain ⟨⟨_, od, _, osl⟩, lo, lc, ln, ld⟩ := hl
  simp only at lc ld
  subst lc ld
  have lt : l < s.heap.objs.size := Heap.lt_size lo
  have lo1 := Heap.get?_push_of_some (so w) lo
  have isl : (s.heap.push (so w)).IsList l items := ⟨_, lo1, rfl, _, rfl⟩
  have n1 := F.sub_list_set
  have n2 := F.sub_list_frozenset
  have n3 : (Value.type "list" == Value.type "dict") = false := by decide
  unfold Builtin.«set.__init__» noKeywords Builtin.Frozenset.updateFrom
  generalize hI : pyIter = I
  wp_walk
  subst hI
  refine wpAny_pyIter_list isl (wpAny_bind (wpAny_runValue ?_))
  have psz : (s.heap.push (so w)).objs.size = s.heap.objs.size + 1 := Heap.size_push ..
  have apart : s.heap.objs.size ∉ [(s.heap.push (so w)).objs.size, l] := by rw [psz]; simp only [List.mem_cons, List.not_mem_nil, or_false, not_or]; exact ⟨Nat.ne_of_lt (Nat.lt_succ_self _), Nat.ne_of_gt lt⟩
  refine put_all ((Walks.list (by simp [hh]) _ l (by rw [psz]; exact Nat.ne_of_lt (Nat.lt_succ_of_lt lt)) items).toS) s.heap.objs.size apart [] ks sz (by simpa using few) val s.heap (by simpa using hk) (none_at (Nat.le_refl _)) (fun b hb => none_at (by
    rw [List.mem_singleton.mp hb, psz]; exact Nat.le_succ _)) (by show A.units + 1 + 1 < cLine; omega) items.size 0 _ (by omega) (Nat.zero_le _) ⟨⟨_, Heap.get?_push_size _ rfl, rfl, rfl⟩, isl.push _⟩ (fun b o e => Heap.get?_push_of_some _ (Heap.get?_push_of_some _ e))
    ⟨[], #[], 0, _, tset_new (Heap.get?_push_of_some _ there), Has.start⟩ ?_
  rintro ⟨h', g', d', tk', os'⟩ L es ep t hm R g q
  obtain rfl : g' = s.gens := hm.gens
  obtain rfl : d' = s.drawn := hm.drawn
  obtain rfl : os' = s.os := hm.os
  exact wpAny_pure (wpAny_pure ⟨rfl, h', tk', L, es, ep, t, rfl, R, sz ▸ g, q⟩)
theorem fillT_tup {l : Addr} {items : Array Value} {ks : List Rw} (hh : A.handled = none) (hl : s.heap.IsTuple l items) (hit : items.toList = ks.map fun p => Value.ref p.1) (hk : ∀ p ∈ ks, TkIs P w s.heap p.2 p.1) (few : ks.length < 64) (hu : A.units + 3 < cLine) :
    codeAny (model P w) A (.call (.builtin "set.__init__") ⟨[.ref s.heap.objs.size, .ref l], []⟩) (wants (fun r s₂ => r = .none ∧ FillT P w s ks s₂) E) (soS w s) := by
  obtain ⟨sz, val⟩ := refs_at hit
  have there : (s.heap.push (so w)).get? s.heap.objs.size = some (so w) := Heap.get?_push_size _ rfl
  refine codeAny_call_builtin F.called_set.init.plain F.entry_set_init (check_set_init_1 (s := soS w s) ⟨_, there, rfl⟩ ?_)
  obtain ⟨⟨_, od, _, osl⟩, lo, lc, ln, ld⟩ := hl
  simp only at lc ld
  subst lc ld
  have lt : l < s.heap.objs.size := Heap.lt_size lo
  have lo1 := Heap.get?_push_of_some (so w) lo
  have ist : (s.heap.push (so w)).IsTuple l items := ⟨_, lo1, rfl, _, rfl⟩
  have n1 := F.sub_tuple_set
  have n2 := F.sub_tuple_frozenset
  have n3 : (Value.type "tuple" == Value.type "dict") = false := by decide
  unfold Builtin.«set.__init__» noKeywords Builtin.Frozenset.updateFrom
  generalize hI : pyIter = I
  wp_walk
  subst hI
  refine wpAny_pyIter_tuple ist (wpAny_bind (wpAny_runValue ?_))
  have psz : (s.heap.push (so w)).objs.size = s.heap.objs.size + 1 := Heap.size_push ..
  have apart : s.heap.objs.size ∉ [(s.heap.push (so w)).objs.size, l] := by rw [psz]; simp only [List.mem_cons, List.not_mem_nil, or_false, not_or]; exact ⟨Nat.ne_of_lt (Nat.lt_succ_self _), Nat.ne_of_gt lt⟩
  refine put_all ((Walks.tuple (by simp [hh]) _ l (by rw [psz]; exact Nat.ne_of_lt (Nat.lt_succ_of_lt lt)) items).toS) s.heap.objs.size apart [] ks sz (by simpa using few) val s.heap (by simpa using hk) (none_at (Nat.le_refl _)) (fun b hb => none_at (by
    rw [List.mem_singleton.mp hb, psz]; exact Nat.le_succ _)) (by show A.units + 1 + 1 < cLine; omega) items.size 0 _ (by omega) (Nat.zero_le _) ⟨⟨_, Heap.get?_push_size _ rfl, rfl, rfl⟩, ist.push _⟩ (fun b o e => Heap.get?_push_of_some _ (Heap.get?_push_of_some _ e))
    ⟨[], #[], 0, _, tset_new (Heap.get?_push_of_some _ there), Has.start⟩ ?_
  rintro ⟨h', g', d', tk', os'⟩ L es ep t hm R g q
  obtain rfl : g' = s.gens := hm.gens
  obtain rfl : d' = s.drawn := hm.drawn
  obtain rfl : os' = s.os := hm.os
  exact wpAny_pure (wpAny_pure ⟨rfl, h', tk', L, es, ep, t, rfl, R, sz ▸ g, q⟩)
/-- set(l) -/
theorem set_rows {l : Addr} (ks : List Rw) {Q : Value → Shared → Prop} (hh : A.handled = none) (hu : A.units + 10 < cLine)
    (fill : ∀ A' : Around, A'.handled = none → A'.units + 3 < cLine → codeAny (model P w) A' (.call (.builtin "set.__init__") ⟨[.ref s.heap.objs.size, .ref l], []⟩) (wants (fun r s₂ => r = .none ∧ FillT P w s ks s₂) E) (soS w s))
    (h : ∀ (h' : Heap) (tk : Nat) L es ep t, TSet P w h' s.heap.objs.size L es ep t → Has [] ks ks.length L → (∀ b o, s.heap.get? b = some o → h'.get? b = some o) → Q (.ref s.heap.objs.size) { s with heap := h', toks := tk }) :
    wpAny (model P w) A (call (.type "set") [.ref l]) Q E s := by
  obtain ⟨_, _, m⟩ := F.called_set.mro
  have made := F.called_set.made
  have sub := F.called_set.sub
  have nt := F.called_set.notType
  have cc := F.called_set.canCreate
  have tc := F.typeCall_set_1 (.ref l)
  refine wpAny_call (codeAny_of_tree (show wpAny _ _ (callAny (.type "set") _) _ _ _ from wpAny_pure ⟨Code.quiet_builtin _ (by decide +kernel), codeAny_builtin F.entry_type_call ?_⟩))
  rw [Around.under_plain (weight_type_call_type "set" [.ref l] []) rfl]
  repeat (any_goals (first | assumption | wp_step))
  refine codeAny_mono (code_set_led1 (.ref l) (E := E) (Q₁ := fun x s₁ => x = .ref s.heap.objs.size ∧ s₁ = soS w s) ⟨rfl, rfl⟩) fun r s₁ hr => ?_
  match r, hr with
  | .ok (.ret x), ⟨ex, es⟩ =>
    subst ex es
    have ty : Shared.TypeIs (soS w s) (.ref s.heap.objs.size) "set" := ⟨_, Heap.get?_push_size _ rfl, rfl⟩
    have lk := F.called_set.init.lookup
    have bd := F.called_set.init.bind (.ref s.heap.objs.size)
    repeat (any_goals (first | assumption | wp_step))
    refine codeAny_mono (fill _ (by simp [hh]) (by simp; omega)) fun r₂ s₂ hr₂ => ?_
    match r₂, hr₂ with
    | .ok (.ret y), ⟨ey, hF⟩ =>
      subst ey
      obtain ⟨h', tk, L, es, ep, t, rfl, hS, hc, hk⟩ := hF.ex
      repeat (any_goals (first | assumption | wp_step))
      exact h h' tk L es ep t hS hc hk
    | .error e, hr₂ => exact hr₂
    | .ok .next, hr₂ => exact hr₂.elim
    | .ok .brk, hr₂ => exact hr₂.elim
    | .ok .cont, hr₂ => exact hr₂.elim
  | .error e, hr => exact hr
  | .ok .next, hr => exact hr.elim
  | .ok .brk, hr => exact hr.elim
  | .ok .cont, hr => exact hr.elim
end
end Y

set_option Elab.async false
set_option linter.all false
set_option maxRecDepth 100000
set_option maxHeartbeats 3200000
/-! Y60: sorted(..) of a set of tuples of names and numbers. -/
namespace Y
open PySem PySem.Spec PyProof.Rows L2
def kyD : Key → PyData
  | .inl i => .int i
  | .inr x => .str x
def encR (p : Rw) : PyData := .tuple (p.2.map kyD)
section
variable {P : Program} {w : World} {A : Around} {E : Value → Shared → Prop} {s : Shared}
theorem reads_keys {h : Heap} {k : List Key} {vs : List Value} (x : ItemsAre (mixKind P w) k vs) : ReadsAll h vs (k.map kyD) [] := by
  induction x with
  | nil => exact .nil
  | @cons k0 v ks vs h1 _ ih =>
    have one : Reads h v (kyD k0) [] := by
      rcases keyIs_shape h1 with ⟨i, t, e, e2⟩ | ⟨x, t, e, e2⟩
      · rw [e, e2]; exact .int i t
      · rw [e, e2]; exact .str x t
    exact .cons one ih
theorem reads_row {h : Heap} {p : Rw} (x : TkIs P w h p.2 p.1) : Reads h (.ref p.1) (encR p) [] := by
  obtain ⟨o, its, n, ho, hc, hd, hi⟩ := x
  exact .tuple ho hc hd (reads_keys hi)
theorem each_refs : ∀ (L : List Rw), PySem.W.EachIs (fun v (b : Rw) => v = Value.ref b.1) (L.map fun q => Value.ref q.1) L
  | [] => .nil
  | q :: L => .cons rfl (each_refs L)
theorem each_out : ∀ {out : List Value} {L : List Rw}, PySem.W.EachIs (fun v (b : Rw) => v = Value.ref b.1) out L → out = L.map fun q => Value.ref q.1
  | _, _, .nil => rfl
  | _, _, .cons h t => by rw [h, each_out t, List.map_cons]
theorem each_reads {h : Heap} {a : Addr} : ∀ (L : List Rw), (∀ p ∈ L, TkIs P w h p.2 p.1) → PySem.W.EachIs (fun v (b : Rw) => ∃ as, Reads h v (encR b) as ∧ a ∉ as) (L.map fun q => Value.ref q.1) L
  | [], _ => .nil
  | q :: L, hk => .cons ⟨[], reads_row (hk q List.mem_cons_self), List.not_mem_nil⟩ (each_reads L fun p hp => hk p (List.mem_cons_of_mem _ hp))
/-- the addresses in another order are the rows in another order -/
theorem rows_perm {L : List Rw} {vs : List Value} (pm : vs.Perm (L.map fun q => Value.ref q.1)) : ∃ M : List Rw, vs = M.map (fun q => Value.ref q.1) ∧ M.Perm L := by
  generalize hm : L.map (fun q => Value.ref q.1) = ws at pm
  induction pm generalizing L with
  | nil => 
    cases L with
    | nil => exact ⟨[], rfl, .refl _⟩
    | cons _ _ => cases hm
  | @cons x l1 l2 _ ih =>
    cases L with
    | nil => cases hm
    | cons q L =>
      rw [List.map_cons] at hm
      injection hm with e1 e2
      obtain ⟨M, e3, p⟩ := ih e2
      exact ⟨q :: M, by rw [List.map_cons, e1, e3], p.cons q⟩
  | swap x y l =>
    match L, hm with
    | q :: r :: L, hm =>
      rw [List.map_cons, List.map_cons] at hm
      injection hm with e1 e2
      injection e2 with e2 e3
      exact ⟨r :: q :: L, by rw [List.map_cons, List.map_cons, e1, e2, e3], .swap q r L⟩
  | trans _ _ ih1 ih2 =>
    obtain ⟨M, e, p⟩ := ih2 hm
    obtain ⟨M2, e2, p2⟩ := ih1 e.symm
    exact ⟨M2, e2, p2.trans p⟩
/-- sorted(set) -/
theorem sorted_rows {a : Addr} {L : List Rw} {es : Array (Int × Value)} {ep : Nat} {t : SetTable} {Q : Value → Shared → Prop} (R : TSet P w s.heap a L es ep t) (hh : A.handled = none) (hu : A.units + 20 < cLine)
    (al : ∀ p ∈ L, ∀ q ∈ L, PySem.W.alike (encR p) (encR q) = true) (ne : ∀ p ∈ L, p.2 ≠ [])
    (hQ : ∀ s' p (c : Nat) (M : List Rw), (∀ b o, s.heap.get? b = some o → s'.heap.get? b = some o) → s'.gens = s.gens → s'.os = s.os → s.heap.objs.size ≤ p →
      s'.heap.get? p = some (seqObj "list" (M.map fun q => Value.ref q.1).toArray c) → M.Perm L → M.Pairwise (fun q r => PySem.W.dataLe false encR q r = true) → Q (.ref p) s') :
    wpAny (model P w) A (call (.builtin "sorted") [.ref a]) Q E s := by
  obtain ⟨o, ho, ex, hd⟩ := R.here
  have sz := rws_size R.rw
  have few := R.small
  refine Calls.call_function_entry kind_sorted plain_sorted entry_sorted (args_sorted1 _) ?_
  unfold Builtin.«sorted»
  refine wpAny_bind (m := checkCount "sorted" 1 1 _) (wpAny_pure ?_)
  refine wpAny_bind (collect_set (A := A.in1) hh ⟨o, ho, ex.1, hd⟩ R.fits (by unfold scanBound; omega) R.ok.ris R.led fun s1 vs k1 hz g1 o1 pm => ?_)
  have e : es.toList.map (·.2) = L.map fun q => Value.ref q.1 := by
    rw [R.rw]
    unfold rwsOf
    rw [List.map_map]; rfl
  rw [e] at pm
  obtain ⟨M, rfl, pL⟩ := rows_perm pm
  have ml : M.length < 64 := by rw [pL.length_eq]; exact few
  refine wpAny_bind (wpAny_newList ?_ (by rw [List.length_map, sizeLine_eq]; omega))
  have hL : (s1.heap.push (seqObj "list" (M.map fun q => Value.ref q.1).toArray 0)).get? s1.heap.objs.size = some (seqObj "list" (M.map fun q => Value.ref q.1).toArray 0) := Heap.get?_push_size _ rfl
  have ks : ∀ q ∈ M, TkIs P w (s1.heap.push (seqObj "list" (M.map fun q => Value.ref q.1).toArray 0)) q.2 q.1 := fun q hq => tk_keep (R.keys q (pL.mem_iff.mp hq)) fun b u e => Heap.get?_push_of_some _ (k1 b u e)
  refine wpAny_bind (wpAny_holding (PySem.W.list_sort_data (enc := encR) (s := { s1 with heap := s1.heap.push (seqObj "list" (M.map fun q => Value.ref q.1).toArray 0) }) hL (each_refs M) (each_reads M ks) ?_ ?_ (by rw [sizeLine_eq]; omega) ?_ fun out l1 l2 => ?_))
  · intro d hd d' hd'
    obtain ⟨p, hp, rfl⟩ := List.mem_map.mp hd
    obtain ⟨q, hq, rfl⟩ := List.mem_map.mp hd'
    exact al p (pL.mem_iff.mp hp) q (pL.mem_iff.mp hq)
  · refine .inl fun d hd => ?_
    obtain ⟨p, hp, rfl⟩ := List.mem_map.mp hd
    have z := ne p (pL.mem_iff.mp hp)
    cases q : p.2 with
    | nil => exact (z q).elim
    | cons k r => exact ⟨kyD k, r.map kyD, by unfold encR; rw [q, List.map_cons]⟩
  · intro b hb
    have flat : ∀ l : List Key, PyData.depthAll (l.map kyD) = 0 := by
      intro l
      induction l with
      | nil => rfl
      | cons k r ih => cases k <;> simp [kyD, PyData.depthAll, PyData.depth, ih]
    have z : (encR b).depth = 1 := by unfold encR; simp [PyData.depth, flat]
    rw [z]
    show A.units + 1 + 1 + 1 < cLine
    omega
  · have e2 := each_out l2
    subst e2
    obtain ⟨c, hc⟩ := sortedHeap_at (vs := M.map fun q => Value.ref q.1) (out := ((M.mergeSort (PySem.W.dataLe false encR)).map fun q => Value.ref q.1).toArray) hL
    refine wpAny_pure ⟨_, rfl, hQ _ s1.heap.objs.size c (M.mergeSort (PySem.W.dataLe false encR)) (fun b u e => ?_) g1 o1 hz hc ((List.mergeSort_perm _ _).trans pL) (PySem.W.sort_pairwise (PySem.W.sortLe_total _ _ _) M)⟩
    have q := k1 b u e
    have lt := Heap.lt_size q
    show (sortedHeap (s1.heap.push (seqObj "list" (M.map fun q => Value.ref q.1).toArray 0)) s1.heap.objs.size _ _).get? b = some u
    rw [sortedHeap_old (Nat.ne_of_lt lt) (by rw [size_push']; exact Nat.lt_succ_of_lt lt)]
    exact Heap.get?_push_of_some _ q
end
end Y

set_option Elab.async false
set_option linter.all false
set_option maxRecDepth 100000
set_option maxHeartbeats 3200000
/-! Y61: data with dicts in it: what it reads as; repr. -/
namespace Y
open PySem PySem.Spec PyProof.Rows L2
mutual
def pyX : D → Option PyData
  | .non => some .none
  | .bl b => some (.bool b)
  | .int i => some (.int i)
  | .str x => some (.str x)
  | .lst xs => (pyXs xs).map .list
  | .tup xs => (pyXs xs).map .tuple
  | .dic ks vs => (pyXs vs).bind fun ps => some (.dict ((ks.map kyD).zip ps))
  | _ => none
def pyXs : List D → Option (List PyData)
  | [] => some []
  | x :: xs => (pyX x).bind fun p => (pyXs xs).map fun ps => p :: ps
end
theorem pyXs_len : ∀ {ds : List D} {ps : List PyData}, pyXs ds = some ps → ds.length = ps.length
  | [], _, e => by unfold pyXs at e; cases e; rfl
  | d :: ds, ps, e => by
    unfold pyXs at e
    obtain ⟨p, e1, e⟩ := bind_some e
    cases e2 : pyXs ds with
    | none => rw [e2] at e; exact (nos e).elim
    | some qs => rw [e2] at e; cases e; rw [List.length_cons, List.length_cons, pyXs_len e2]
theorem pairs_read {P : Program} {w : World} {h : Heap} {es : List DictEntry} {kvs : List (Key × Value)} (hp : Pairs (mixKind P w) es kvs) : ∀ {ks : List Key} {vs : List V}, KV (ks.zip vs) kvs → ks.length = vs.length →
    ReadsAll h (es.map (·.key)) (ks.map kyD) [] ∧ Vals vs (es.map (·.val)) := by
  induction hp with
  | nil =>
    intro ks vs r l
    cases ks with
    | nil =>
      cases vs with
      | nil => exact ⟨.nil, .nil⟩
      | cons _ _ => cases l
    | cons _ _ =>
      cases vs with
      | nil => cases l
      | cons _ _ => cases r
  | @cons e q es kvs h1 h2 _ ih =>
    intro ks vs r l
    cases ks with
    | nil => cases r
    | cons k ks =>
      cases vs with
      | nil => cases l
      | cons v vs =>
        cases r with
        | cons r1 r2 =>
          obtain ⟨g1, g2⟩ := ih r2 (Nat.succ.inj l)
          obtain ⟨e1, e2⟩ := r1
          have e1 : k = q.1 := e1
          have e2 : RelV v q.2 := e2
          rw [← e1] at h1
          rw [← h2] at e2
          have one : Reads h e.key (kyD k) [] := by
            rcases keyIs_shape h1 with ⟨i, t, q1, q2⟩ | ⟨x, t, q1, q2⟩
            · rw [q1, q2]; exact .int i t
            · rw [q1, q2]; exact .str x t
          exact ⟨.cons one g1, .cons e2 g2⟩
section
variable {X : Cx} {pins : List (Addr × Obj)} {σ : L2.St} {H : Hp} {s : Shared} {g : Gh} {O : List Addr}
mutual
theorem rdx (I : Inv X pins σ H s) (hS : H sysModules = none) : ∀ (d : D) (v : V) (u : Value) (p : PyData), RV g X.K O H v d → RelV v u → pyX d = some p → ∃ as, Reads s.heap u p as ∧ sysModules ∉ as
  | .non, _, _, _, r, ru, e => by
    unfold pyX at e; cases e; cases r; cases ru
    exact ⟨[], .none, List.not_mem_nil⟩
  | .bl b, _, _, _, r, ru, e => by
    unfold pyX at e; cases e; cases r; cases ru
    exact ⟨[], .bool b, List.not_mem_nil⟩
  | .int i, _, _, _, r, ru, e => by
    unfold pyX at e; cases e; cases r; obtain ⟨t, rfl⟩ := ru
    exact ⟨[], .int i t, List.not_mem_nil⟩
  | .str x, _, _, _, r, ru, e => by
    unfold pyX at e; cases e; cases r; obtain ⟨t, rfl⟩ := ru
    exact ⟨[], .str x t, List.not_mem_nil⟩
  | .lst xs, _, _, _, r, ru, e => by
    unfold pyX at e
    cases e2 : pyXs xs with
    | none => rw [e2] at e; exact (nos e).elim
    | some ps =>
      rw [e2] at e; cases e
      cases r with
      | @lst a vs _ h rs =>
      cases ru
      obtain ⟨its, rv, ⟨o, n, ho, hc, _, hd⟩, _⟩ := I.list (FL.sq h)
      obtain ⟨as, q1, q2⟩ := rdxs I hS xs vs its ps rs rv e2
      refine ⟨a :: as, .list ho hc hd q1, fun z => ?_⟩
      rcases List.mem_cons.mp z with z | z
      · have h1 := h.1
        rw [← z, hS] at h1
        cases h1
      · exact q2 z
  | .tup xs, _, _, _, r, ru, e => by
    unfold pyX at e
    cases e2 : pyXs xs with
    | none => rw [e2] at e; exact (nos e).elim
    | some ps =>
      rw [e2] at e; cases e
      cases r with
      | @tup a vs _ h rs =>
      cases ru
      obtain ⟨its, rv, ⟨o, ho, hc, n, hd⟩, _⟩ := I.tuple h.sq
      obtain ⟨as, q1, q2⟩ := rdxs I hS xs vs its ps rs rv e2
      exact ⟨as, .tuple ho hc hd q1, q2⟩
  | .dic ks ds, _, _, _, r, ru, e => by
    unfold pyX at e
    obtain ⟨ps, e2, e⟩ := bind_some e
    cases e
    cases r with
    | @dic a _ vs _ h n l rs =>
    cases ru
    obtain ⟨_, hs, kvs, kv, o, es, ep, ho, ex, hd, _, hp, _⟩ := dk_rd I.hok h
    obtain ⟨g1, g2⟩ := pairs_read (h := s.heap) hp kv l
    obtain ⟨as, q1, q2⟩ := rdxs I hS ds vs _ ps rs g2 e2
    have lk : (ks.map kyD).length = ps.length := by rw [List.length_map, l, rs.length, pyXs_len e2]
    refine ⟨a :: [] ++ as, .dict ho ex.1 hd ?_ ?_, fun z => ?_⟩
    · rw [List.map_fst_zip (by omega)]; exact g1
    · rw [List.map_snd_zip (by omega)]; exact q1
    · rcases List.mem_cons.mp z with z | z
      · rw [← z] at hs; exact absurd hs (by decide)
      · exact q2 z
  | .obj _ _ _, _, _, _, _, _, e => by unfold pyX at e; exact (nos e).elim
  | .err _ _ _, _, _, _, _, _, e => by unfold pyX at e; exact (nos e).elim
  | .ty _, _, _, _, _, _, e => by unfold pyX at e; exact (nos e).elim
  | .cls _, _, _, _, _, _, e => by unfold pyX at e; exact (nos e).elim
  | .fn _, _, _, _, _, _, e => by unfold pyX at e; exact (nos e).elim
  | .pen, _, _, _, _, _, e => by unfold pyX at e; exact (nos e).elim
theorem rdxs (I : Inv X pins σ H s) (hS : H sysModules = none) : ∀ (ds : List D) (vs : List V) (us : List Value) (ps : List PyData), RVs g X.K O H vs ds → Vals vs us → pyXs ds = some ps → ∃ as, ReadsAll s.heap us ps as ∧ sysModules ∉ as
  | [], _, _, _, r, ru, e => by
    unfold pyXs at e; cases e; cases r; cases ru
    exact ⟨[], .nil, List.not_mem_nil⟩
  | d :: ds, _, _, _, r, ru, e => by
    unfold pyXs at e
    obtain ⟨p, e1, e⟩ := bind_some e
    cases e2 : pyXs ds with
    | none => rw [e2] at e; exact (nos e).elim
    | some qs =>
      rw [e2] at e; cases e
      cases r with
      | cons r1 r2 =>
        cases ru with
        | cons u1 u2 =>
          obtain ⟨as, q1, q2⟩ := rdx I hS d _ _ p r1 u1 e1
          obtain ⟨bs, q3, q4⟩ := rdxs I hS ds _ _ qs r2 u2 e2
          exact ⟨as ++ bs, .cons q1 q3, fun z => (List.mem_append.mp z).elim q2 q4⟩
end
end
end Y

set_option Elab.async false
set_option linter.all false
set_option maxRecDepth 100000
set_option maxHeartbeats 3200000
/-! Y62: repr of data with dicts in it, and of single things. -/
namespace Y
open PySem PySem.Spec PyProof.Rows L2
def okShX (p : PyData) : Bool := p.showable && (decide (p.depth ≤ 50) && decide (p.shown.length ≤ lim))
def opReprX : D → Option D := fun a => (pyX a).bind fun p => if (np a && okShX p) = true then some (.str p.shown) else none
def rReprX (K : PySem.W.Frag) (xs : List V) (H : Hp) (Q : VK) : Prop := ∃ (g : Gh) (x : V) (d : D) (p : PyData), xs = [x] ∧ RV g K [] H x d ∧ pyX d = some p ∧ okShX p = true ∧ Q (.str p.shown) H
theorem call_reprX {X : Cx} (hg : X.A.guards = some []) (hu : X.A.units + 200 < cLine) (hS : ∃ o, X.base.get? sysModules = some o) : CallR X (.builtin "repr") (rReprX X.K) := by
  intro pins s σ H xs us Q I rx h
  obtain ⟨g, x, d, p, rfl, rd, e, ok, q⟩ := h
  obtain ⟨o, ho⟩ := hS
  have hn : H sysModules = none := (I.bs _ o ho).2
  cases rx with
  | @cons _ u _ us r1 r2 =>
    cases r2
    unfold okShX at ok
    rw [Bool.and_eq_true, Bool.and_eq_true, decide_eq_true_eq, decide_eq_true_eq] at ok
    obtain ⟨h2, h4, h5⟩ := ok
    obtain ⟨as, rr, na⟩ := rdx I hn d x u p rd r1 e
    cases rr with
    | none => exact PySem.P.repr_of_none ⟨.str "None", H, I.tok _, ⟨_, rfl⟩, by unfold PyData.shown at q; exact q⟩
    | bool b => exact PySem.P.repr_of_bool ⟨.str (if b then "True" else "False"), H, I.tok _, ⟨_, rfl⟩, by unfold PyData.shown at q; exact q⟩
    | int i t =>
      exact PySem.P.repr_of_int (of_decide_eq_true (by unfold PyData.showable at h2; exact h2)) ⟨.str (toString i), H, I.tok _, ⟨_, rfl⟩, by unfold PyData.shown at q; exact q⟩
    | str y t => exact PySem.P.repr_of_str ⟨.str (reprText y), H, I.tok _, ⟨_, rfl⟩, by unfold PyData.shown at q; exact q⟩ (lim_le (by unfold PyData.shown at h5; exact h5))
    | list h6 h7 h8 h9 => exact repr_of_reads' (.list h6 h7 h8 h9) h2 (fun _ => na) hg (by omega) (fun _ _ e => e) (fun h' u tk hk => ⟨.str _, H, I.kept hk, ⟨u, rfl⟩, q⟩) (lim_le h5)
    | tuple h6 h7 h8 h9 => exact repr_of_reads' (.tuple h6 h7 h8 h9) h2 (fun _ => na) hg (by omega) (fun _ _ e => e) (fun h' u tk hk => ⟨.str _, H, I.kept hk, ⟨u, rfl⟩, q⟩) (lim_le h5)
    | dict h6 h7 h8 h9 h10 => exact repr_of_reads' (.dict h6 h7 h8 h9 h10) h2 (fun _ => na) hg (by omega) (fun _ _ e => e) (fun h' u tk hk => ⟨.str _, H, I.kept hk, ⟨u, rfl⟩, q⟩) (lim_le h5)
theorem vc_reprX {K : PySem.W.Frag} : VCall K (rReprX K) (op1 opReprX) := vc_one fun g0 O H x a d Q hO ra e q => by
  unfold opReprX at e
  obtain ⟨p, e1, e⟩ := bind_some e
  by_cases hc : (np a && okShX p) = true
  · rw [if_pos hc] at e; cases e
    rw [Bool.and_eq_true] at hc
    exact ⟨noP g0, x, a, p, rfl, ra.np hc.1, e1, hc.2, q _ H (Same.refl H) (.str _)⟩
  · rw [if_neg hc] at e; exact (nos e).elim
end Y

set_option Elab.async false
set_option linter.all false
set_option maxRecDepth 100000
set_option maxHeartbeats 3200000
/-! Y63: C.__name__ of an own class. -/
namespace PySem.W
open PySem PySem.Calls PyProof.Rows Builtin Builtin.ObjectAttr Builtin.Getset_descriptor
section
variable {prog : Program} {w : World} {A : Around} {E : Value → Shared → Prop} {s : Shared} {K : Frag} {R : Result → Shared → Prop}
theorem own_name_get {C : Addr} {tp : Value} {x : Str} {t : Tok} {o : Obj} (X : K.In s.heap) (hty : typeIn K (.ref C) = some (.type "type")) (ho : K.lookup C = some o) (hv : (o.slots[2]?).join = some (.str x t)) (h : R (.ok (.ret (.str x t))) s) :
    codeAny (model prog w) A (.call (.builtin "getset_descriptor.__get__") ⟨[.builtin "type.__name__", .ref C, tp], []⟩) R s := by
  have L0 : Looks (model prog w) s.heap (typeOf (.ref C)) (.type "type") := looks_typeIn X hty
  have L1 : Looks (model prog w) s.heap (isSubtype (.type "type") (.type "type")) true := Looks.of_pure (by rw [isSubtype_type]; kernel_rfl)
  have hx := X _ _ ho
  obtain ⟨hh, g, dr, tt, os⟩ := s
  dsimp only at hx L0 L1
  refine codeAny_call_builtin KF.slot_gs.plain KF.entry_gs (KF.slot_gs.check _ _ _ _ _ _ _ _ ktyn_type (KF.args_gs _ _ _) ?_)
  unfold Builtin.«getset_descriptor.__get__» descrGet
  rw [dga_obj]
  refine wpAny_bind (wpAny_pure ?_)
  unfold descrGetter descrCheckInstance descrNameAndClass isInstance
  simp only [ktyn_owner]
  repeat lk
  refine ⟨Code.quiet_builtin _ (by decide +kernel), codeAny_builtin ktyn_entry ?_⟩
  unfold Builtin.«type.__name__» Builtin.keptObject
  repeat lk
  rw [hv]
  exact wpAny_pure h
theorem own_name {C : Addr} {x : Str} {t : Tok} {o : Obj} {expr : Bool} {Q : Value → Shared → Prop} (X : K.In s.heap) (hr : readsIn K C (.type "type") = true)
    (e : findCls K (.ref C) (.type "type") "__name__" = some (.get (.builtin "getset_descriptor.__get__") (.builtin "type.__name__") (.ref C) (.type "type"))) (ho : K.lookup C = some o) (hv : (o.slots[2]?).join = some (.str x t))
    (h : Q (.str x t) { s with toks := s.toks + 1 }) : wpAny (model prog w) A (getAttr (.ref C) "__name__" expr) Q E s := by
  have hty : typeIn K (.ref C) = some (.type "type") := by
    simp only [readsIn, Bool.and_eq_true, beq_iff_eq] at hr
    exact hr.1.1.1.2
  refine cls_read X hr e ?_
  show wpAny _ _ (do ret (← holding [Value.builtin "type.__name__"] (call (.builtin "getset_descriptor.__get__") [.builtin "type.__name__", .ref C, .type "type"]))) _ _ _
  refine wpAny_bind (wpAny_holding (wpAny_call (own_name_get (s := { s with toks := s.toks + 1 }) X hty ho hv ?_)))
  exact wpAny_pure (handed_on rfl h)
end
end PySem.W

set_option Elab.async false
set_option linter.all false
set_option maxRecDepth 100000
set_option maxHeartbeats 3200000
/-! Y64: x.__class__ of own instances, C.__name__, as expressions. -/
namespace Y
open PySem PySem.Spec PyProof.Rows L2
def clsV (cs : List Nat) (μ : Mu) : Vd → Option Nat
  | .t (.obj C _ _) => if C ∈ cs then some C else none
  | .r n => match μ[n]? with
    | some (.obj C _ _) => if C ∈ cs then some C else none
    | _ => none
  | _ => none
def eCls (cs : List Nat) (f : FE) : FE := fun ρ μ => (f ρ μ).bind fun p => (T.ofO (clsV cs p.2 p.1)).bind fun C => .ret (.t (.cls C), p.2)
def nmV (nm : Nat → Option Str) : Vd → Option Str
  | .t (.cls C) => nm C
  | _ => none
def eNm (nm : Nat → Option Str) (f : FE) : FE := fun ρ μ => (f ρ μ).bind fun p => (T.ofO (nmV nm p.1)).bind fun x => .ret (.t (.str x), p.2)
theorem clsV_ok {g : Gh} {K : PySem.W.Frag} {W : Ow} {μ : Mu} {b : Nat} {H : Hp} {v : V} {x : Vd} {C : Nat} {cs : List Nat} (s : StOk g K W μ b H) (r : RW g K W H v x) (e : clsV cs μ x = some C) : ∃ a dx fs, v = .ref a ∧ H a = some (.ins (g.cl C) dx fs) ∧ C ∈ cs := by
  cases x with
  | t d =>
    cases r with
    | t r =>
    cases r with
    | @obj a dx C' ks vs ds g1 g2 g3 rs =>
      have e : (if C' ∈ cs then some C' else none) = some C := e
      by_cases h : C' ∈ cs
      · rw [if_pos h] at e; cases e; exact ⟨a, dx, _, rfl, g1, h⟩
      · rw [if_neg h] at e; cases e
    | _ => exact nomatch e
  | r n =>
    have e : (match μ[n]? with | some (.obj C _ _) => if C ∈ cs then some C else none | _ => none) = some C := e
    split at e
    · rename_i C' ks xs em
      obtain ⟨a, rfl, hcc, rc⟩ := live s r em (fun z => nomatch z)
      cases rc with
      | obj g1 g2 rs =>
        by_cases h : C' ∈ cs
        · rw [if_pos h] at e; cases e; exact ⟨a, _, _, rfl, g1, h⟩
        · rw [if_neg h] at e; cases e
    · cases e
/-- what the written part says of the names of classes -/
structure NmK (K : PySem.W.Frag) (CL : Nat → Addr) (nm : Nat → Option Str) : Prop where
  h : ∀ C x, nm C = some x → PySem.W.readsIn K (CL C) (.type "type") = true ∧ PySem.W.findCls K (.ref (CL C)) (.type "type") "__name__" = some (.get (.builtin "getset_descriptor.__get__") (.builtin "type.__name__") (.ref (CL C)) (.type "type")) ∧
    ∃ o t, K.lookup (CL C) = some o ∧ (o.slots[2]?).join = some (.str x t)
section
variable {X : Cx} {B : Bd} {CL : Nat → Addr} {cs : List Nat} {sup : Nat → Nat → Bool} {nm : Nat → Option Str} {e : Expr} {f : FE} {pos : Pos} {ta : TE}
theorem pe_cls0 (he : PE X e ta) (hb : attributeBase e "__class__" X.env (eval e X.env) = eval e X.env) (S : IsaK X.K CL cs sup) : PE X (.Attribute e "__class__" pos) (fun σ H Q => ta σ H fun x H1 => ∃ a dx fs C, x = .ref a ∧ H1 a = some (.ins (CL C) dx fs) ∧ C ∈ cs ∧ Q (.ref (CL C)) H1) := by
  refine ⟨fun pins s σ H Q I h => ?_⟩
  refine attr_of hb (thn (he.run pins s σ H _ I h) fun u s1 ⟨x, H1, I1, rx, a, dx, fs, C, ex, ha, hC, q⟩ => ?_)
  subst ex
  obtain rfl : u = Value.ref a := rx
  obtain ⟨mA, J, _⟩ := ins_get I1.hok ha
  obtain ⟨od, J, _⟩ := J.look
  obtain ⟨c, c2, c3⟩ := S.cl C hC
  refine PySem.W.get_bind I1.kIn J (PySem.W.plainGet_of (c.get "__class__")).1 (PySem.W.findObj_data (by obtain ⟨cd, hc, _⟩ := PySem.W.any_some c.hd; rw [hc]; rfl) c2 S.gs S.tk) (PySem.W.plainGet_of (c.get "__class__")).2 ?_
  exact wpAny_call (PySem.W.class_get (s := { s1 with toks := s1.toks + 1 }) I1.kIn J c3 (PySem.W.handed_on rfl ⟨.ref (CL C), H1, I1.tok _, rfl, q⟩))
theorem pe_nm0 (he : PE X e ta) (hb : attributeBase e "__name__" X.env (eval e X.env) = eval e X.env) (N : NmK X.K CL nm) : PE X (.Attribute e "__name__" pos) (fun σ H Q => ta σ H fun x H1 => ∃ C y, x = .ref (CL C) ∧ nm C = some y ∧ Q (.str y) H1) := by
  refine ⟨fun pins s σ H Q I h => ?_⟩
  refine attr_of hb (thn (he.run pins s σ H _ I h) fun u s1 ⟨x, H1, I1, rx, C, y, ex, hn, q⟩ => ?_)
  subst ex
  obtain rfl : u = Value.ref (CL C) := rx
  obtain ⟨n1, n2, o, t, n3, n4⟩ := N.h C y hn
  exact PySem.W.own_name I1.kIn n1 n2 n3 n4 ⟨.str y, H1, I1.tok _, ⟨t, rfl⟩, q⟩
theorem se_cls (S : IsaK X.K CL cs sup) (hcl : B.g.cl = CL) (he : PE X e (tM B X.K f)) (hb : attributeBase e "__class__" X.env (eval e X.env) = eval e X.env := by rfl) : PE X (.Attribute e "__class__" pos) (tM B X.K (eCls cs f)) :=
  PEimp (pe_cls0 he hb S) fun σ H Q ⟨ρ, μ, W, n, R, w⟩ => ⟨ρ, μ, W, n, R, (T.All.bind w).mono fun p n1 h1 v1 W1 H1 k1 R1 r1 => by
    obtain ⟨C, e1, q⟩ := T.All.ofO (T.All.bind h1)
    obtain ⟨a, dx, fs, e2, e3, e4⟩ := clsV_ok R1.st r1 e1
    rw [hcl] at e3
    exact ⟨a, dx, fs, C, e2, e3, e4, q (.ref (CL C)) W1 H1 k1 R1 (.t (by rw [← hcl]; exact .cls C))⟩⟩
theorem se_nm (N : NmK X.K CL nm) (hcl : B.g.cl = CL) (he : PE X e (tM B X.K f)) (hb : attributeBase e "__name__" X.env (eval e X.env) = eval e X.env := by rfl) : PE X (.Attribute e "__name__" pos) (tM B X.K (eNm nm f)) :=
  PEimp (pe_nm0 he hb N) fun σ H Q ⟨ρ, μ, W, n, R, w⟩ => ⟨ρ, μ, W, n, R, (T.All.bind w).mono fun p n1 h1 v1 W1 H1 k1 R1 r1 => by
    obtain ⟨x, e1, q⟩ := T.All.ofO (T.All.bind h1)
    obtain ⟨p1, p2⟩ := p
    cases p1 with
    | r n => cases e1
    | t d =>
      cases d with
      | cls C =>
        cases r1 with
        | t r1 =>
        cases r1
        exact ⟨C, x, by rw [hcl], e1, q (.str x) W1 H1 k1 R1 (.t (.str x))⟩
      | _ => cases e1⟩
end
end Y

set_option Elab.async false
set_option linter.all false
set_option maxRecDepth 100000
set_option maxHeartbeats 3200000
/-! Y65: a.f, b.g = a tuple of two. -/
namespace Y
open PySem PySem.Spec PyProof.Rows L2
/-- a target e.f -/
def gFld (K : PySem.W.Frag) (ta : TE) (f : Str) : TG := fun y σ H Q => ta σ H fun x H2 => ∃ a C dx fs, x = .ref a ∧ H2 a = some (.ins C dx fs) ∧ Cls K C ∧ NoAttr K C f ∧ fs.length < 1000 ∧ Q σ (upd H2 a (.ins C dx (putF f y fs)))
section
variable {X : Cx} {o : Expr} {f : Str} {pos : Pos} {ta : TE}
theorem pg_fld (ha : PE X o ta) : PG X (.Attribute o f pos) (gFld X.K ta f) := by
  refine ⟨fun pins s σ H v u Q I r h => ?_⟩
  rw [arm_assign_Attribute]
  refine wpAny_bind (wpAny_holding (thn (ha.run pins s σ H _ I h) fun ov s2 ⟨x, H2, I2, rx, a, C, dx, fs, ex, ea, c, n, l, q2⟩ => ?_))
  subst ex
  obtain rfl : ov = Value.ref a := rx
  refine wpAny_bind (wpAny_standAt (wpAny_bind (wpAny_holding (setattr_ok I2 ea c n l r fun s3 I3 => ?_))))
  exact wpAny_release ⟨σ, _, I3, q2⟩
end
/-- the field f of the thing o becomes x -/
def putV (cs : List Nat) (f : Str) (μ : Mu) (o x : Vd) : Option Mu := (refOf o).bind fun n => (objAt cs μ n).bind fun c =>
  if c.2.1.length < 900 then some (μ.set n (.obj c.1 (putFd c.2.1 c.2.2 f x).1 (putFd c.2.1 c.2.2 f x).2)) else none
section
variable {X : Cx} {B : Bd} {CL : Nat → Addr} {cs : List Nat} {f f2 : Str} {o o2 e : Expr} {fo fo2 fe : FE} {pos p1 p2 p3 : Pos} {k : Nat}
theorem putV_ok (h : ClsT X.K CL cs f) (hcl : B.g.cl = CL) {ρ : Env'} {μ μ' : Mu} {W : Ow} {b : Nat} {H : Hp} {σ : L2.St} (R : Rep B X.K ρ μ W b H σ) {x y : Vd} {u v : V} (ru : RW B.g X.K W H u x) (rv : RW B.g X.K W H v y) (w : putV cs f μ x y = some μ') :
    ∃ a C dx fs, u = .ref a ∧ H a = some (.ins C dx fs) ∧ Cls X.K C ∧ NoAttr X.K C f ∧ fs.length < 1000 ∧ Ext B.g.pa W H W (upd H a (.ins C dx (putF f v fs))) ∧ Rep B X.K ρ μ' W b (upd H a (.ins C dx (putF f v fs))) σ := by
  obtain ⟨n, en, w⟩ := bind_some w
  obtain ⟨c, ec, w⟩ := bind_some w
  rw [refOf_some en] at ru
  obtain ⟨em, hcs⟩ := objAt_some ec
  obtain ⟨a, rfl, hc, rc⟩ := live R.st ru em (fun z => nomatch z)
  have hh := h c.1 hcs
  generalize hcc : Ce.obj c.1 c.2.1 c.2.2 = cc at rc
  cases rc with
  | lst _ _ => cases hcc
  | dic _ _ _ => cases hcc
  | @obj C dx fs vs xs g1 g2 rs =>
  cases hcc
  by_cases hz : c.2.1.length < 900
  · rw [if_pos hz] at w
    cases w
    obtain ⟨vs', e1, e2, e3⟩ := putFd_rw (f := f) rv rs g2
    have g1' := g1
    rw [hcl] at g1'
    refine ⟨a, CL c.1, dx, _, rfl, g1', hh.1, hh.2, by rw [List.length_zip]; omega, ?_⟩
    rw [e1]
    have ex : Ext B.g.pa W H W (upd H a (.ins (CL c.1) dx ((putFd c.2.1 c.2.2 f y).1.zip vs'))) := ext_set hc .ins
    have st2 : StOk B.g X.K W _ b (upd H a (.ins (CL c.1) dx ((putFd c.2.1 c.2.2 f y).1.zip vs'))) := st_set (c := .obj c.1 (putFd c.2.1 c.2.2 f y).1 (putFd c.2.1 c.2.2 f y).2) R.st hc em (.obj (by rw [upd_same, hcl]) e2 (e3.keep (kO_set R.st hc) hs_refl fun _ _ h => .inl h))
    exact ⟨ex, R.go ex st2 R.mono⟩
  · rw [if_neg hz] at w; cases w
def two : Vd → Option (D × D)
  | .t (.tup [x, y]) => some (x, y)
  | _ => none
def s2F (cs : List Nat) (f f2 : Str) (fo fo2 fe : FE) : FS := fun ρ μ => (fe ρ μ).bind fun p => (T.ofO (two p.1)).bind fun d => (fo ρ p.2).bind fun o => (T.ofO (putV cs f o.2 o.1 (.t d.1))).bind fun μ1 =>
  (fo2 ρ μ1).bind fun q => (T.ofO (putV cs f2 q.2 q.1 (.t d.2))).bind fun μ2 => .ret (.nx ρ μ2)
theorem ss_2F (cs : List Nat) (h : ClsT X.K CL cs f) (h2 : ClsT X.K CL cs f2) (hcl : B.g.cl = CL) (hc : X.calm = true) (ho : PE X o (tM B X.K fo)) (ho2 : PE X o2 (tM B X.K fo2)) (he : PE X e (tM B X.K fe))
    (hs : swapsWithSole [.Tuple [.Attribute o f p1, .Attribute o2 f2 p2] k p3] e pos.line X.env = pure false := by rfl) (hw : swappedStores [.Tuple [.Attribute o f p1, .Attribute o2 f2 p2] k p3] e X.env = pure none := by rfl) :
    PS X (.Assign [.Tuple [.Attribute o f p1, .Attribute o2 f2 p2] k p3] e pos) (tS B X.K (s2F cs f f2 fo fo2 fe)) :=
  PSimp (ps_asg he (pg_tup (n := 2) hc (pgs_cons (pg_fld ho) (pgs_cons (pg_fld ho2) pgs_nil))) hs hw) fun Dn σ H ⟨ρ, μ, W, b, R, w⟩ => ⟨ρ, μ, W, b, R, (T.All.bind w).mono fun p b1 w1 v W1 H1 k1 R1 rv => by
    obtain ⟨d, ed, w1⟩ := T.All.ofO (T.All.bind w1)
    obtain ⟨q1, q2⟩ := p
    match q1, ed with
    | .t (.tup [x, y]), ed =>
      cases ed
      cases rv with
      | t rv =>
      cases rv with
      | @tup a vs _ ht rs =>
      cases rs with
      | @cons v1 _ _ _ r1 rs =>
      cases rs with
      | @cons v2 _ _ _ r2 rs =>
      cases rs
      refine ⟨a, _, rfl, ht.sq, rfl, v1, _, rfl, ρ, q2, W1, b1, R1, (T.All.bind w1).mono fun o b2 w2 u W2 H2 k2 R2 ru => ?_⟩
      obtain ⟨μ1, e1, w2⟩ := T.All.ofO (T.All.bind w2)
      obtain ⟨a2, C, dx, fs, g1, g2, g3, g4, g5, g6, g7⟩ := putV_ok h hcl R2 ru ((RW.t r1).ext R1.st k2) e1
      refine ⟨a2, C, dx, fs, g1, g2, g3, g4, g5, v2, _, rfl, ρ, μ1, W2, b2, g7, (T.All.bind w2).mono fun o b3 w3 u2 W3 H3 k3 R3 ru2 => ?_⟩
      obtain ⟨μ2, e2, w3⟩ := T.All.ofO (T.All.bind w3)
      obtain ⟨a3, C2, dx2, fs2, l1, l2, l3, l4, l5, l6, l7⟩ := putV_ok h2 hcl R3 ru2 ((((RW.t r2).ext R1.st k2).ext R2.st g6).ext g7.st k3) e2
      exact ⟨a3, C2, dx2, fs2, l1, l2, l3, l4, l5, rfl, w3 σ _ W3 ((((k1.trans k2).trans g6).trans k3).trans l6) l7⟩⟩
end
end Y

set_option Elab.async false
set_option linter.all false
set_option maxRecDepth 100000
set_option maxHeartbeats 3200000
/-! Y66: the test of names of classes; == of data with a dict in it. -/
namespace Y
open PySem PySem.Spec PyProof.Rows L2
def fcB (C : Addr) : Option PySem.W.CFound → Bool
  | some (.get (.builtin g) (.builtin n) (.ref c) (.type t)) => decide (g = "getset_descriptor.__get__") && (decide (n = "type.__name__") && (decide (c = C) && decide (t = "type")))
  | _ => false
theorem fcB_ok {C : Addr} {r : Option PySem.W.CFound} (h : fcB C r = true) : r = some (.get (.builtin "getset_descriptor.__get__") (.builtin "type.__name__") (.ref C) (.type "type")) := by
  unfold fcB at h
  split at h
  · simp only [Bool.and_eq_true, decide_eq_true_eq] at h
    obtain ⟨rfl, rfl, rfl, rfl⟩ := h
    rfl
  · cases h
def slB (x : Str) : Option Value → Bool
  | some (.str y _) => decide (y = x)
  | _ => false
theorem slB_ok {x : Str} {v : Option Value} (h : slB x v = true) : ∃ t, v = some (.str x t) := by
  unfold slB at h
  split at h
  · rw [decide_eq_true_eq] at h; subst h; exact ⟨_, rfl⟩
  · cases h
def nmB (K : PySem.W.Frag) (CL : Nat → Addr) (p : Nat × Str) : Bool := PySem.W.readsIn K (CL p.1) (.type "type") && (fcB (CL p.1) (PySem.W.findCls K (.ref (CL p.1)) (.type "type") "__name__") && match K.lookup (CL p.1) with
  | some o => slB p.2 (o.slots[2]?).join
  | none => false)
def nmOf (l : List (Nat × Str)) (C : Nat) : Option Str := l.lookup C
theorem lookup_mem {l : List (Nat × Str)} {C : Nat} {x : Str} (h : l.lookup C = some x) : (C, x) ∈ l := by
  induction l with
  | nil => cases h
  | cons p l ih =>
    rw [show p = (p.1, p.2) from rfl, List.lookup_cons] at h
    by_cases q : C = p.1
    · rw [show (C == p.1) = true from beq_iff_eq.mpr q] at h
      cases h
      rw [q]; exact List.mem_cons_self
    · rw [show (C == p.1) = false from beq_eq_false_iff_ne.mpr q] at h
      exact List.mem_cons_of_mem _ (ih h)
theorem nmB_ok {K : PySem.W.Frag} {CL : Nat → Addr} {l : List (Nat × Str)} (h : l.all (nmB K CL) = true) : NmK K CL (nmOf l) := ⟨fun C x e => by
  have q := allB h _ (lookup_mem e)
  unfold nmB at q
  rw [Bool.and_eq_true, Bool.and_eq_true] at q
  obtain ⟨q1, q2, q3⟩ := q
  refine ⟨q1, fcB_ok q2, ?_⟩
  cases ho : K.lookup (CL C) with
  | none => rw [ho] at q3; cases q3
  | some o =>
    rw [ho] at q3
    obtain ⟨t, et⟩ := slB_ok q3
    exact ⟨o, t, rfl, et⟩⟩
end Y

set_option Elab.async false
set_option linter.all false
set_option maxRecDepth 100000
set_option maxHeartbeats 3200000
/-! Y67: a dict beside another kind of thing is unequal. -/
namespace YE
open PySem PySem.SeqAt PySem.P
open PySem.AutoSeq1 (wpAny_loadPart')
open PySem.MeetsSeq PySem.MeetsSeq2 PySem.MeetsSeq3
theorem dic_none : isSubtype (.type "NoneType") (.type "dict") = pure false := by rw [isSubtype_type]; kernel_rfl
theorem dic_int : isSubtype (.type "int") (.type "dict") = pure false := by rw [isSubtype_type]; kernel_rfl
theorem dic_str : isSubtype (.type "str") (.type "dict") = pure false := by rw [isSubtype_type]; kernel_rfl
theorem dic_tup : isSubtype (.type "tuple") (.type "dict") = pure false := by rw [isSubtype_type]; kernel_rfl
theorem none_dic : isSubtype (.type "dict") (.type "NoneType") = pure false := by rw [isSubtype_type]; kernel_rfl
theorem int_dic : isSubtype (.type "dict") (.type "int") = pure false := by rw [isSubtype_type]; kernel_rfl
theorem str_dic : isSubtype (.type "dict") (.type "str") = pure false := by rw [isSubtype_type]; kernel_rfl
theorem tup_dic : isSubtype (.type "dict") (.type "tuple") = pure false := by rw [isSubtype_type]; kernel_rfl
section
variable {pg : Program} {wo : World} {A : Around} {E : Value → Shared → Prop} {s : Shared}
/-- d == v of a dict d and a v that is none: not known to the dict -/
theorem dict_says {d : Addr} {v : Value} {T : String} (hd : s.TypeIs (.ref d) "dict") (hv : s.TypeIs v T) (hs : isSubtype (.type T) (.type "dict") = pure false) {Q : Value → Shared → Prop} (h : Q .notImplemented s) :
    wpAny (model pg wo) A (call (.builtin "dict.__eq__") [.ref d, v]) Q E s := by
  refine wpAny_call_entry F.slot_dict_eq hd F.entry_dict_eq ?_ (F.args_dict_eq_2 _ _)
  show wpAny _ _ (Builtin.Dict.dictSlotArgs "__eq__" ⟨[.ref d, v], []⟩ >>= _) _ _ s
  refine wpAny_bind ?_
  unfold Builtin.Dict.dictSlotArgs
  refine wpAny_bind (wpAny_notOrdered_dict hd ?_)
  show wpAny _ _ (pure (Value.ref d, v)) _ _ s
  refine wpAny_pure (wpAny_bind (wpAny_isInstance hv hs ?_))
  simp only [Bool.not_false, if_true]
  exact wpAny_bind (wpAny_rule (wpAny_pure ⟨_, rfl, h⟩))
theorem int_unk (i : Int) (u : Tok) (d : Addr) (c : Value) (dd : Option Addr) (es : Array DictEntry) (ep : Nat) (sl : Array (Option Value)) :
    Meets (Builtin.«int.__eq__» ⟨[.int i u, .ref d], []⟩) (fun _ R s => s.heap.get? d = some { cls := c, dict := dd, data := .dict es ep, slots := sl } ∧ R (.ok (.ret .notImplemented)) s) := .of_wp fun _ _ _ _ s h => by
  obtain ⟨hp, g, e, tk, os⟩ := s
  obtain ⟨hl, h⟩ := h
  wp_walk using wpAny_loadPart' hl, wpAny_load hl
  exact ⟨_, rfl, h⟩
theorem str_unk (x : Str) (u : Tok) (d : Addr) (c : Value) (dd : Option Addr) (es : Array DictEntry) (ep : Nat) (sl : Array (Option Value)) :
    Meets (Builtin.«str.__eq__» ⟨[.str x u, .ref d], []⟩) (fun _ R s => s.heap.get? d = some { cls := c, dict := dd, data := .dict es ep, slots := sl } ∧ R (.ok (.ret .notImplemented)) s) := .of_wp fun _ _ _ _ s h => by
  obtain ⟨hp, g, e, tk, os⟩ := s
  obtain ⟨hl, h⟩ := h
  wp_walk using wpAny_loadPart' hl, wpAny_load hl
  exact ⟨_, rfl, h⟩
theorem tup_unk (t d : Addr) (its : Array Value) (n : Nat) (dd d2 : Option Addr) (es : Array DictEntry) (ep : Nat) (sl s2 : Array (Option Value)) :
    Meets (Builtin.«tuple.__eq__» ⟨[.ref t, .ref d], []⟩) (fun _ R s => s.heap.get? t = some { cls := .type "tuple", dict := d2, data := .seq its n, slots := s2 } ∧ s.heap.get? d = some { cls := .type "dict", dict := dd, data := .dict es ep, slots := sl } ∧ R (.ok (.ret .notImplemented)) s) := .of_wp fun _ _ _ _ s h => by
  obtain ⟨hp, g, e, tk, os⟩ := s
  obtain ⟨hl, hd, h⟩ := h
  have f1 := tup_dic
  wp_walk using wpAny_loadPart' hl, wpAny_loadPart' hd
  exact ⟨_, rfl, h⟩
variable {d : Addr} {o : Obj} {es : Array DictEntry} {ep : Nat}
/-- a dict beside None -/
theorem rc_dn (ho : s.heap.get? d = some o) (hc : o.cls = .type "dict") (hu : A.units < cLine) {Q : Value → Shared → Prop} (h : Q (.bool false) s) : wpAny (model pg wo) A (richCompare .Eq (.ref d) .none) Q E s :=
  rc_eq_decline_or (k := false) ⟨_, ho, hc⟩ rfl (by decide) dic_none F.slot_dict_eq F.slot_NoneType_eq_refl (fun _ q => dict_says (v := .none) (T := "NoneType") ⟨_, ho, hc⟩ rfl dic_none q)
    (fun _ q => call_gives F.slot_NoneType_eq_refl rfl F.entry_NoneType_eq (F.args_NoneType_eq_2 _ _) (NoneType___eq___none_ref_0 d) q) (fun _ q => wpAny_of_eq (rfl : isSame (.ref d) .none = pure false) q) (.inr hu) h
theorem rc_nd (ho : s.heap.get? d = some o) (hc : o.cls = .type "dict") (hu : A.units < cLine) {Q : Value → Shared → Prop} (h : Q (.bool false) s) : wpAny (model pg wo) A (richCompare .Eq .none (.ref d)) Q E s :=
  rc_eq_decline_or (k := false) rfl ⟨_, ho, hc⟩ (by decide) none_dic F.slot_NoneType_eq F.slot_dict_eq_refl (fun _ q => call_gives F.slot_NoneType_eq rfl F.entry_NoneType_eq (F.args_NoneType_eq_2 _ _) (NoneType___eq___none_ref_0 d) q)
    (fun _ q => dict_says (v := .none) (T := "NoneType") ⟨_, ho, hc⟩ rfl dic_none q) (fun _ q => wpAny_of_eq (rfl : isSame .none (.ref d) = pure false) q) (.inr hu) h
theorem rc_di {i : Int} {u : Tok} (ho : s.heap.get? d = some o) (hc : o.cls = .type "dict") (hx : o.data = .dict es ep) (hu : A.units < cLine) {Q : Value → Shared → Prop} (h : Q (.bool false) s) : wpAny (model pg wo) A (richCompare .Eq (.ref d) (.int i u)) Q E s := by
  obtain ⟨cl, dd, dt, sl⟩ := o
  simp only at hc hx
  subst hc hx
  exact rc_eq_decline_or (k := false) ⟨_, ho, rfl⟩ rfl (by decide) dic_int F.slot_dict_eq F.slot_int_eq_refl (fun _ q => dict_says (v := .int i u) (T := "int") ⟨_, ho, rfl⟩ rfl dic_int q)
    (fun _ q => call_meets F.slot_int_eq_refl rfl F.entry_int_eq (F.args_int_eq_2 _ _) (int_unk i u d _ _ _ _ _) ⟨ho, q⟩) (fun _ q => wpAny_of_eq (rfl : isSame (.ref d) (.int i u) = pure false) q) (.inr hu) h
theorem rc_id {i : Int} {u : Tok} (ho : s.heap.get? d = some o) (hc : o.cls = .type "dict") (hx : o.data = .dict es ep) (hu : A.units < cLine) {Q : Value → Shared → Prop} (h : Q (.bool false) s) : wpAny (model pg wo) A (richCompare .Eq (.int i u) (.ref d)) Q E s := by
  obtain ⟨cl, dd, dt, sl⟩ := o
  simp only at hc hx
  subst hc hx
  exact rc_eq_decline_or (k := false) rfl ⟨_, ho, rfl⟩ (by decide) int_dic F.slot_int_eq F.slot_dict_eq_refl (fun _ q => call_meets F.slot_int_eq rfl F.entry_int_eq (F.args_int_eq_2 _ _) (int_unk i u d _ _ _ _ _) ⟨ho, q⟩)
    (fun _ q => dict_says (v := .int i u) (T := "int") ⟨_, ho, rfl⟩ rfl dic_int q) (fun _ q => wpAny_of_eq (rfl : isSame (.int i u) (.ref d) = pure false) q) (.inr hu) h
theorem rc_ds {x : Str} {u : Tok} (ho : s.heap.get? d = some o) (hc : o.cls = .type "dict") (hx : o.data = .dict es ep) (hu : A.units < cLine) {Q : Value → Shared → Prop} (h : Q (.bool false) s) : wpAny (model pg wo) A (richCompare .Eq (.ref d) (.str x u)) Q E s := by
  obtain ⟨cl, dd, dt, sl⟩ := o
  simp only at hc hx
  subst hc hx
  exact rc_eq_decline_or (k := false) ⟨_, ho, rfl⟩ rfl (by decide) dic_str F.slot_dict_eq F.slot_str_eq_refl (fun _ q => dict_says (v := .str x u) (T := "str") ⟨_, ho, rfl⟩ rfl dic_str q)
    (fun _ q => call_meets F.slot_str_eq_refl rfl F.entry_str_eq (F.args_str_eq_2 _ _) (str_unk x u d _ _ _ _ _) ⟨ho, q⟩) (fun _ q => wpAny_of_eq (rfl : isSame (.ref d) (.str x u) = pure false) q) (.inr hu) h
theorem rc_sd {x : Str} {u : Tok} (ho : s.heap.get? d = some o) (hc : o.cls = .type "dict") (hx : o.data = .dict es ep) (hu : A.units < cLine) {Q : Value → Shared → Prop} (h : Q (.bool false) s) : wpAny (model pg wo) A (richCompare .Eq (.str x u) (.ref d)) Q E s := by
  obtain ⟨cl, dd, dt, sl⟩ := o
  simp only at hc hx
  subst hc hx
  exact rc_eq_decline_or (k := false) rfl ⟨_, ho, rfl⟩ (by decide) str_dic F.slot_str_eq F.slot_dict_eq_refl (fun _ q => call_meets F.slot_str_eq rfl F.entry_str_eq (F.args_str_eq_2 _ _) (str_unk x u d _ _ _ _ _) ⟨ho, q⟩)
    (fun _ q => dict_says (v := .str x u) (T := "str") ⟨_, ho, rfl⟩ rfl dic_str q) (fun _ q => wpAny_of_eq (rfl : isSame (.str x u) (.ref d) = pure false) q) (.inr hu) h
end
end YE

set_option Elab.async false
set_option linter.all false
set_option maxRecDepth 100000
set_option maxHeartbeats 3200000
/-! Y68: a dict beside a tuple. -/
namespace YE
open PySem PySem.SeqAt PySem.P
open PySem.AutoSeq1 (wpAny_loadPart')
open PySem.MeetsSeq PySem.MeetsSeq2 PySem.MeetsSeq3
section
variable {pg : Program} {wo : World} {A : Around} {E : Value → Shared → Prop} {s : Shared} {d t : Addr} {o : Obj} {es : Array DictEntry} {ep : Nat} {its : Array Value}
theorem two_apart (ho : s.heap.get? d = some o) (hc : o.cls = .type "dict") (ht : s.heap.IsTuple t its) : d ≠ t := fun z => by
  subst z
  obtain ⟨o2, h1, h2, _⟩ := ht
  rw [ho] at h1; cases h1
  rw [hc] at h2; injection h2 with h2
  exact absurd h2 (by decide)
theorem rc_td (ho : s.heap.get? d = some o) (hc : o.cls = .type "dict") (hx : o.data = .dict es ep) (ht : s.heap.IsTuple t its) (hu : A.units < cLine) {Q : Value → Shared → Prop} (h : Q (.bool false) s) : wpAny (model pg wo) A (richCompare .Eq (.ref t) (.ref d)) Q E s := by
  have ne := two_apart ho hc ht
  obtain ⟨cl, dd, dt, sl⟩ := o
  simp only at hc hx
  subst hc hx
  obtain ⟨⟨c2, d2, t2, s2⟩, ho2, rfl, n, rfl⟩ := ht
  exact rc_eq_decline_or (k := false) (Ta := "tuple") (Tb := "dict") ⟨_, ho2, rfl⟩ ⟨_, ho, rfl⟩ (by decide) tup_dic F.slot_tuple_eq F.slot_dict_eq_refl
    (fun _ q => call_meets F.slot_tuple_eq ⟨_, ho2, rfl⟩ F.entry_tuple_eq (F.args_tuple_eq_2 _ _) (tup_unk t d its n dd d2 es ep sl s2) ⟨ho2, ho, q⟩)
    (fun _ q => dict_says (v := .ref t) (T := "tuple") ⟨_, ho, rfl⟩ ⟨_, ho2, rfl⟩ dic_tup q) (fun _ q => wpAny_isSame_ref_other' (fun z => ne z.symm) ho2 ho (by simp) q) (.inr hu) h
theorem same_dt {ot : Obj} (ne : d ≠ t) (ho : s.heap.get? d = some o) (hc : o.cls = .type "dict") (ht : s.heap.get? t = some ot) {M : Model} {Q : Bool → Shared → Prop} (h : Q false s) : wpAny M A (isSame (.ref d) (.ref t)) Q E s := by
  show wpAny M A (if (d == t) = true then pure true else _) Q E s
  rw [if_neg (by simpa using ne)]
  refine wpAny_bind (wpAny_load ho (wpAny_bind (wpAny_load ht ?_)))
  split
  · rename_i h1 _ _ _
    rw [hc] at h1; injection h1 with h1
    exact absurd h1 (by decide)
  · exact wpAny_pure h
theorem rc_dt (ho : s.heap.get? d = some o) (hc : o.cls = .type "dict") (hx : o.data = .dict es ep) (ht : s.heap.IsTuple t its) (hu : A.units < cLine) {Q : Value → Shared → Prop} (h : Q (.bool false) s) : wpAny (model pg wo) A (richCompare .Eq (.ref d) (.ref t)) Q E s := by
  have ne := two_apart ho hc ht
  obtain ⟨cl, dd, dt, sl⟩ := o
  simp only at hc hx
  subst hc hx
  obtain ⟨⟨c2, d2, t2, s2⟩, ho2, rfl, n, rfl⟩ := ht
  exact rc_eq_decline_or (k := false) (Ta := "dict") (Tb := "tuple") ⟨_, ho, rfl⟩ ⟨_, ho2, rfl⟩ (by decide) dic_tup F.slot_dict_eq F.slot_tuple_eq_refl (fun _ q => dict_says (v := .ref t) (T := "tuple") ⟨_, ho, rfl⟩ ⟨_, ho2, rfl⟩ dic_tup q)
    (fun _ q => call_meets F.slot_tuple_eq_refl ⟨_, ho2, rfl⟩ F.entry_tuple_eq (F.args_tuple_eq_2 _ _) (tup_unk t d its n dd d2 es ep sl s2) ⟨ho2, ho, q⟩) (fun _ q => same_dt ne ho rfl ho2 q) (.inr hu) h
end
end YE

set_option Elab.async false
set_option linter.all false
set_option maxRecDepth 100000
set_option maxHeartbeats 3200000
/-! Y69: == where a dict may stand on either side. -/
namespace Y
open PySem PySem.Spec PyProof.Rows L2
def allEq : List D → List D → Option Bool
  | [], [] => some true
  | x :: xs, y :: ys => (dataEq x y).bind fun b => (allEq xs ys).map fun r => b && r
  | _, _ => none
def plainR : D → Bool
  | .non => true
  | .int _ => true
  | .str _ => true
  | .tup _ => true
  | _ => false
def dicEq : D → D → Option Bool
  | .dic ks vs, .dic ls ws => if ks = ls then allEq vs ws else none
  | .dic _ _, e => if plainR e = true then some false else none
  | e, .dic _ _ => if plainR e = true then some false else none
  | _, _ => none
theorem val_get {kb : List (Key × Value)} (nd : (kb.map (·.1)).Nodup) : ∀ {i : Nat} {k : Key} {y : Value}, kb[i]? = some (k, y) → valueAt kb k = some y := by
  induction kb with
  | nil => intro i k y h; simp at h
  | cons p r ih =>
    intro i k y h
    rw [List.map_cons, List.nodup_cons] at nd
    cases i with
    | zero =>
      simp at h; subst h
      unfold valueAt
      rw [List.find?_cons_of_pos (by simp)]; rfl
    | succ i =>
      have h : r[i]? = some (k, y) := by simpa using h
      have ne : p.1 ≠ k := fun z => nd.1 (by rw [z]; exact List.mem_map.mpr ⟨_, List.mem_of_getElem? h, rfl⟩)
      have q := ih nd.2 h
      unfold valueAt at q ⊢
      rw [List.find?_cons_of_neg (by simpa using ne)]
      exact q
section
variable {X : Cx} {g : Gh} {pins : List (Addr × Obj)} {σ : L2.St} {H : Hp} {s : Shared} {A : Around}
theorem eqP_data (I : Inv X pins σ H s) (hu : A.units + 64 < cLine) {d e : D} {b : Bool} (h : dataEq d e = some b) {x y : V} {u v : Value} (rx : RelV x u) (ry : RelV y v) (rd : RV g X.K [] H x d) (re : RV g X.K [] H y e) : SeqAt.EqP X.prog X.w A s u v b := by
  unfold dataEq at h
  obtain ⟨p, hp, h⟩ := bind_some h
  obtain ⟨q, hq, h⟩ := bind_some h
  by_cases z : (SeqAt.shaped p && SeqAt.shaped q) = true
  · rw [if_pos z] at h; cases h
    rw [Bool.and_eq_true] at z
    obtain ⟨as, r1⟩ := Dp.reads I p x u (dp_of rd hp) rx
    obtain ⟨bs, r2⟩ := Dp.reads I q y v (dp_of re hq) ry
    exact SeqAt.EqAt.eqP (SeqAt.eqAt_reads p q A s u v as bs r1 r2 (SeqAt.canLay_of_shaped z.1) (SeqAt.canLay_of_shaped z.2) (SeqAt.room_of_shaped z.1 hu))
  · rw [if_neg z] at h; cases h
theorem hits_of (I : Inv X pins σ H s) (hu : A.units + 64 < cLine) {kb : List (Key × Value)} (nd : (kb.map (·.1)).Nodup) : ∀ (ks : List Key) (vs ws : List V) (ds es : List D) (ka : List (Key × Value)) (j : Nat) (b : Bool), KV (ks.zip vs) ka → KV (ks.zip ws) (kb.drop j) → ks.length = vs.length → ks.length = ws.length →
    RVs g X.K [] H vs ds → RVs g X.K [] H ws es → allEq ds es = some b → PySem.W.KeqHitsP X.prog X.w A s kb ka b
  | [], vs, ws, ds, es, ka, j, b, r1, r2, l1, l2, q1, q2, e => by
    cases vs with
    | cons _ _ => cases l1
    | nil =>
    cases ws with
    | cons _ _ => cases l2
    | nil =>
    cases q1; cases q2; cases r1
    cases e
    exact .nil
  | k :: ks, vs, ws, ds, es, ka, j, b, r1, r2, l1, l2, q1, q2, e => by
    cases vs with
    | nil => cases l1
    | cons v vs =>
    cases ws with
    | nil => cases l2
    | cons w ws =>
    cases q1 with
    | @cons _ _ d ds a1 b1 =>
    cases q2 with
    | @cons _ _ d2 es a2 b2 =>
    generalize hj : kb.drop j = kj at r2
    cases r1 with
    | @cons _ p _ ka p1 p2 =>
    cases r2 with
    | @cons _ p' _ kj p3 p4 =>
    obtain ⟨bb, e1, e⟩ := bind_some e
    cases e2 : allEq ds es with
    | none => rw [e2] at e; cases e
    | some r =>
      rw [e2] at e; cases e
      obtain ⟨pk, pv⟩ := p
      obtain ⟨pk', pv'⟩ := p'
      obtain ⟨c1, c2⟩ := p1
      obtain ⟨c3, c4⟩ := p3
      have c1 : k = pk := c1
      have c3 : k = pk' := c3
      subst c1
      subst c3
      have at_ : kb[j]? = some (k, pv') := by
        have z := congrArg (·[0]?) hj
        simpa using z
      have nx : kb.drop (j + 1) = kj := by
        rw [← List.drop_drop, hj]; rfl
      exact .hit (val_get nd at_) (eqP_data I hu e1 c2 c4 a1 a2) (hits_of I hu nd ks vs ws ds es ka (j + 1) r p2 (by rw [nx]; exact p4) (Nat.succ.inj l1) (Nat.succ.inj l2) b1 b2 e2)
end
end Y

set_option Elab.async false
set_option linter.all false
set_option maxRecDepth 100000
set_option maxHeartbeats 3200000
/-! Y70: == where a dict may stand on either side: what it gives. -/
namespace Y
open PySem PySem.Spec PyProof.Rows L2
section
variable {X : Cx} {g : Gh}
theorem rc_left {n : Nat} {ks : List Key} {vs : List D} {e : D} (h : plainR e = true) : RcS X g n (.dic ks vs) e false := by
  intro A pins s σ H x y u v rm fr I rx ry rd re tb
  cases rd with
  | @dic a _ ws _ h1 n1 l rs =>
  cases rx
  obtain ⟨_, hs, kvs, kv, o, es, ep, ho, ex, hd, _⟩ := dk_rd I.hok h1
  have hu := rm.room.units0
  cases re with
  | non => cases ry; exact YE.rc_dn ho ex.1 hu ⟨rfl, H, I, Kp.refl, tb⟩
  | int i => obtain ⟨t, rfl⟩ := ry; exact YE.rc_di ho ex.1 hd hu ⟨rfl, H, I, Kp.refl, tb⟩
  | str i => obtain ⟨t, rfl⟩ := ry; exact YE.rc_ds ho ex.1 hd hu ⟨rfl, H, I, Kp.refl, tb⟩
  | tup h2 _ =>
    cases ry
    obtain ⟨its, _, e2, _⟩ := I.tuple h2.sq
    exact YE.rc_dt ho ex.1 hd e2 hu ⟨rfl, H, I, Kp.refl, tb⟩
  | _ => cases h
theorem rc_right {n : Nat} {ks : List Key} {vs : List D} {e : D} (h : plainR e = true) : RcS X g n e (.dic ks vs) false := by
  intro A pins s σ H x y u v rm fr I rx ry re rd tb
  cases rd with
  | @dic a _ ws _ h1 n1 l rs =>
  cases ry
  obtain ⟨_, hs, kvs, kv, o, es, ep, ho, ex, hd, _⟩ := dk_rd I.hok h1
  have hu := rm.room.units0
  cases re with
  | non => cases rx; exact YE.rc_nd ho ex.1 hu ⟨rfl, H, I, Kp.refl, tb⟩
  | int i => obtain ⟨t, rfl⟩ := rx; exact YE.rc_id ho ex.1 hd hu ⟨rfl, H, I, Kp.refl, tb⟩
  | str i => obtain ⟨t, rfl⟩ := rx; exact YE.rc_sd ho ex.1 hd hu ⟨rfl, H, I, Kp.refl, tb⟩
  | tup h2 _ =>
    cases rx
    obtain ⟨its, _, e2, _⟩ := I.tuple h2.sq
    exact YE.rc_td ho ex.1 hd e2 hu ⟨rfl, H, I, Kp.refl, tb⟩
  | _ => cases h
theorem rc_dd {n : Nat} {ks : List Key} {vs ws : List D} {b : Bool} (h : allEq vs ws = some b) : RcS X g n (.dic ks vs) (.dic ks ws) b := by
  intro A pins s σ H x y u v rm fr I rx ry rd re tb
  cases rd with
  | @dic a _ xs _ h1 n1 l rs =>
  cases re with
  | @dic a2 _ ys _ h2 n2 l2 rs2 =>
  cases rx
  cases ry
  obtain ⟨_, hs, ka, kv, da⟩ := dk_rd I.hok h1
  obtain ⟨_, hs2, kb, kv2, db⟩ := dk_rd I.hok h2
  have nd : (kb.map (·.1)).Nodup := by obtain ⟨_, _, _, _, _, _, _, _, q⟩ := db; exact q
  have le : ka.length = kb.length := by
    have z1 := kv.length
    have z2 := kv2.length
    rw [List.length_zip] at z1 z2
    omega
  have hu := rm.room.un
  refine PySem.W.rcP_dicts hs hs2 da db rm.room.units0 (fun _ => hits_of I (by show A.units + 1 + 64 < cLine; omega) nd ks xs ys vs ws ka 0 b kv (by rw [List.drop_zero]; exact kv2) l l2 rs rs2 h) _ _ ?_
  exact ⟨by rw [le]; simp, H, I, Kp.refl, tb⟩
end
end Y

set_option Elab.async false
set_option linter.all false
set_option maxRecDepth 100000
set_option maxHeartbeats 3200000
/-! Y71: x == y of any data, dicts too, as expression and test. -/
namespace Y
open PySem PySem.Spec PyProof.Rows L2
def eqX (a b : D) : Option Bool := orE (dataEq a b) (dicEq a b)
theorem rc_dic {X : Cx} {g : Gh} {n : Nat} : ∀ {d e : D} {b : Bool}, dicEq d e = some b → RcS X g n d e b := by
  intro d e b h
  unfold dicEq at h
  split at h
  · rename_i ks vs ls ws
    by_cases z : ks = ls
    · subst z
      rw [if_pos rfl] at h
      exact rc_dd h
    · rw [if_neg z] at h; cases h
  · rename_i ks vs e' _
    by_cases z : plainR e = true
    · rw [if_pos z] at h; cases h; exact rc_left z
    · rw [if_neg z] at h; cases h
  · rename_i ks vs _ 
    by_cases z : plainR d = true
    · rw [if_pos z] at h; cases h; exact rc_right z
    · rw [if_neg z] at h; cases h
  · cases h
theorem rc_eqX {X : Cx} {g : Gh} {n : Nat} {d e : D} {b : Bool} (h : eqX d e = some b) : RcS X g n d e b := (orE_some h).elim rc_data rc_dic
def rEqX (K : PySem.W.Frag) : R2 := fun x y H Q => ∃ (g : Gh) (d e : D) (b : Bool), LamX.Tabs g.tb H ∧ RV g K [] H x d ∧ RV g K [] H y e ∧ eqX d e = some b ∧ ∀ H', Sy g H H' → Q (.bl b) H'
theorem op_eqX {X : Cx} {n : Nat} (hr : Rm n X.A) : OpR X (compareOp .Eq) (rEqX X.K) := by
  intro pins s σ H x y v u Q I rx ry hq
  obtain ⟨g, d, e, b, tb, rd, re, h, q⟩ := hq
  show wpAny (model X.prog X.w) X.A (richCompare .Eq v u) (EP X pins σ Q) X.xe s
  refine wpAny_mono (rc_eqX h X.A pins s σ H x y v u hr rfl I rx ry rd re tb) (fun r s' z => ?_) fun _ _ x => x
  obtain ⟨rfl, H', I', sy⟩ := z
  exact ⟨.bl b, H', I', rfl, q H' sy⟩
def eqXV (d e : D) : Option Bool := if (np d && np e) = true then eqX d e else none
section
variable {X : Cx} {B : Bd} {k : Nat} {a b : Expr} {fo fe : FE} {pos : Pos}
theorem eqX_r (g : Gh) (x y : V) (d e : D) (k : Bool) (H : Hp) (Q : VK) (O : List Addr) (_ : g.cl = B.g.cl) (tb : LamX.Tabs g.tb H) (rd : RD g X.K O H x d) (re : RD g X.K O H y e) (h : eqXV d e = some k) (q : ∀ H', Sy (noP g) H H' → Q (.bl k) H') : rEqX X.K x y H Q := by
  unfold eqXV at h
  by_cases z : (np d && np e) = true
  · rw [if_pos z] at h
    rw [Bool.and_eq_true] at z
    exact ⟨noP g, d, e, k, tb, rd.np z.1, re.np z.2, h, q⟩
  · rw [if_neg z] at h; cases h
theorem se_eqX (hr : Rm k X.A) (ha : PE X a (tM B X.K fo)) (hb : PE X b (tM B X.K fe)) (hm : behindInMarks .Eq b = false := by first | exact nomark _ | rfl) : PE X (.Compare a [.Eq] [b] pos) (tM B X.K (eCmp eqXV fo fe)) :=
  PEimp (pe_cmpR (op_eqX hr) ha hb hm) fun σ H Q q => cmp2_imp (CL := B.g.cl) eqX_r rfl σ H Q q
theorem sk_eqX (hr : Rm k X.A) (ha : PE X a (tM B X.K fo)) (hb : PE X b (tM B X.K fe)) (hm : behindInMarks .Eq b = false := by first | exact nomark _ | rfl) : PT X (.Compare a [.Eq] [b] pos) (tK B X.K (kBl (eCmp eqXV fo fe))) :=
  PTimp (pt_cmpR (op_eqX hr) ha hb hm) fun σ H Q q => cmp2_imp (CL := B.g.cl) eqX_r rfl σ H _ (kbl_imp σ H Q q)
end
end Y

set_option Elab.async false
set_option linter.all false
set_option maxRecDepth 100000
set_option maxHeartbeats 2000000
/-! Y72: promises of places alone; defs with a star parameter. -/
namespace Y
open PySem PySem.Spec PyProof.Rows L2

/-- a promise of places alone -/
def FnQ (P : Program) (w : World) (K : PySem.W.Frag) (mg : Str → Option Value) (base : Heap) (k : Nat) (f : Addr) (sp : Sp) : Prop := ∀ (A : Around) (outer : List Env) (s : Shared) (H : Hp) (us : List Value) (vs : List V) (Q : VK) (E : XK), Rm k A → Env0 P w K mg base A outer s H → Vals vs us → sp vs H Q E →
    codeAny (model P w) A (.call (.ref f) ⟨us, []⟩) (CR (L2.CX P w) outer P w H s Q E) s
theorem FnQ.mono {P : Program} {w : World} {K : PySem.W.Frag} {mg : Str → Option Value} {base : Heap} {j k : Nat} {f : Addr} {sp : Sp} (F : FnQ P w K mg base j f sp) (h : j ≤ k) : FnQ P w K mg base k f sp :=
  fun A o s H us vs Q E hr => F A o s H us vs Q E (hr.mono h)
/-- the promise of F, however many things it is given -/
def spQ (CL : Nat → Addr) (K : PySem.W.Frag) (F : List Vd → Mu → T (Vd × Mu)) : Sp := fun vs H Q E => ∃ (g : Gh) (W : Ow) (μ : Mu) (b : Nat) (xs : List Vd), g.cl = CL ∧ StOk g K W μ b H ∧ RWs g K W H vs xs ∧
  (F xs μ).All b (fun p b' => ∀ v W' H', Ext g.pa W H W' H' → StOk g K W' p.2 b' H' → (∀ a ∈ W.o, a ∈ W'.o) → RW g K W' H' v p.1 → Q v H')
    (fun C fs es b' => ∀ d H', PK g W b' H H' → ExAt g K H W.o d fs es H' → E (.ref (g.cl C)) (some d) H')
section
variable {P : Program} {w : World} {K : PySem.W.Frag} {mg : Str → Option Value} {base : Heap} {CL : Nat → Addr} {k : Nat}
theorem fnQ_of {f : Addr} {fd : FuncData} {ps : List Str} {n : Nat} {F : List Vd → Mu → T (Vd × Mu)} (G : FnG P w K mg base k f fd ps (spS CL K n F)) (hb : Binds K fd ps []) (hn : ArS n F) : FnQ P w K mg base k f (spQ CL K F) := by
  intro A outer s H us vs Q E hr e0 r ⟨g, W, μ, b, xs, hcl, st, rv, hall⟩
  by_cases z : xs.length = n
  · have h : spS CL K n F vs H Q E := ⟨rv.length.trans z, g, W, μ, b, xs, hcl, st, rv, hall⟩
    have KX : K.In s.heap := e0.mod.kin.keeps fun b o e => (e0.bs b o e).1
    have hl : us.length = ps.length := r.length.symm.trans (G.len _ _ _ _ h)
    have hb2 := hb s us KX (by rw [List.append_nil]; exact hl)
    rw [List.append_nil] at hb2
    exact G.run A outer s H ⟨us, []⟩ us vs Q E hr e0 hb2 r h
  · rw [hn xs μ z] at hall; exact hall.elim
end
section
variable {g : Gh} {K : PySem.W.Frag} {W : Ow} {H : Hp}
theorem RWs.take : ∀ {vs : List V} {xs : List Vd} (n : Nat), RWs g K W H vs xs → RWs g K W H (vs.take n) (xs.take n)
  | _, _, 0, _ => .nil
  | _, _, _ + 1, .nil => .nil
  | _, _, n + 1, .cons h t => .cons h (RWs.take n t)
theorem RWs.drop : ∀ {vs : List V} {xs : List Vd} (n : Nat), RWs g K W H vs xs → RWs g K W H (vs.drop n) (xs.drop n)
  | _, _, 0, r => r
  | _, _, _ + 1, .nil => .nil
  | _, _, n + 1, .cons _ t => RWs.drop n t
end
/-- a body run at its entry -/
theorem body_S {X : Cx} {CL : Nat → Addr} {fs : FS} {sts : List Stmt} {m : Nat} {E : XK} {Q : VK} {H : Hp} {vs : List V} {g : Gh} {W : Ow} {μ : Mu} {b : Nat} {xs : List Vd} {σ : L2.St} (tk : Takes X (fun cls d _ H => E cls d H)) (hcl : g.cl = CL) (st0 : StOk g X.K W μ b H) (rv : RWs g X.K W H vs xs) (hdl : xs.length = m)
    (hσ : ∀ Y, Rep ⟨g, H, W, Y⟩ X.K (ini X.N.length xs) μ W b H σ)
    (hall : (fnS X.N.length m fs xs μ).All b (fun p b' => ∀ v W' H', Ext g.pa W H W' H' → StOk g X.K W' p.2 b' H' → (∀ a ∈ W.o, a ∈ W'.o) → RW g X.K W' H' v p.1 → Q v H')
      (fun C fs es b' => ∀ d H', PK g W b' H H' → ExAt g X.K H W.o d fs es H' → E (.ref (g.cl C)) (some d) H'))
    (hbody : ∀ B : Bd, LetsT X B → B.g.cl = CL → PSs X sts (tS B X.K fs)) : ∃ t, PSs X sts t ∧ t { nx := fun _ H' => Q .non H', rt := Q } σ H := by
  refine ⟨_, hbody ⟨g, H, W, fun C fs es b' => ∀ d H', PK g W b' H H' → ExAt g X.K H W.o d fs es H' → E (.ref (g.cl C)) (some d) H'⟩ ⟨E, tk, fun C fs es b' d H' y k1 x1 => y d H' k1 x1⟩ hcl, ini X.N.length xs, μ, W, b, hσ _, ?_⟩
  unfold fnS at hall
  rw [if_pos hdl] at hall
  refine (T.All.bind hall).mono fun r b1 q => ?_
  cases r with
  | nx ρ μ => exact fun σ' H' W' e R => q .non W' H' e R.st R.mono (.t .non)
  | rt x μ => exact fun v W' H' e s m rx => q v W' H' e s m rx
  | bk ρ => exact q.elim
  | ct ρ => exact q.elim
/-- what is left over as a tuple -/
def starS (n : Nat) (F : List Vd → Mu → T (Vd × Mu)) : List Vd → Mu → T (Vd × Mu) := fun xs μ => if n ≤ xs.length then (T.ofO (tsOf (xs.drop n))).bind fun ds => if ds.length ≤ lim then F (xs.take n ++ [.t (.tup ds)]) μ else .bad else .bad
section
variable {P : Program} {w : World} {K : PySem.W.Frag} {mg : Str → Option Value} {base : Heap} {CL : Nat → Addr} {k : Nat}
theorem pk_same {g : Gh} {W : Ow} {b' : Nat} {H H1 H' : Hp} (s : Same H H1) (p : PK g W b' H1 H') : PK g W b' H H' := ⟨fun a o h n np nt => p.kp a o (s a o h) n np nt, p.pen, fun a h => p.al a (Same.nt s a h), p.tb⟩
theorem ex_same {g : Gh} {O : List Addr} {d : Addr} {fs : List Str} {ds : List D} {H H1 H' : Hp} (s : Same H H1) (p : ExAt g K H1 O d fs ds H') : ExAt g K H O d fs ds H' := ⟨p.at_, fun h => p.new (Same.nt s d h)⟩
theorem fnQ_star {x qual : Str} {st : Stmt} {f : Addr} {fd : FuncData} {fs : FS} {pv : Str} (N ps : List Str) (n m : Nat) (hn : N.length = n) (hm : ps.length = m) (F : Fun K x qual st f fd) (S : FnScope N (ps ++ [pv]) (defScope st))
    (hb : ∀ us rest : List Value, us.length = ps.length → bindArgs fd ⟨us ++ rest, []⟩ = (newTuple rest >>= fun t => pure (ps.zip us ++ [(pv, t)])))
    (hbody : ∀ (cdv : Value) (A : Around) (outer : List Env) (s : Shared) (H : Hp) (E : XK) (B : Bd), Rm k (A.deeper (envOfC qual (defScope st) s.heap.objs.size f cdv)) → LetsT (cxOf (L2.CX P w) P w K mg base N qual (defScope st) f cdv A outer s H E) B → B.g.cl = CL →
      PSs (cxOf (L2.CX P w) P w K mg base N qual (defScope st) f cdv A outer s H E) (defBody st) (tS B K fs)) : FnQ P w K mg base (k + 1) f (spQ CL K (starS m (fnS n (m + 1) fs))) := by
  subst hn; subst hm
  obtain ⟨oc, od, kV, doc, pm, an, cdv, ct, osl, rfl, lk, hcd⟩ := F.ex
  intro A outer s H us vs Q E hr e0 r ⟨g, W, μ, b, xs, hcl, st0, rv, hall⟩
  unfold starS at hall
  by_cases hl : ps.length ≤ xs.length
  · rw [if_pos hl] at hall
    obtain ⟨ds, eds, hall⟩ := T.All.ofO (T.All.bind hall)
    by_cases hz : ds.length ≤ lim
    · rw [if_pos hz] at hall
      have hpl : (ps ++ [pv]).length ≤ N.length := by
        have := congrArg List.length S.pre
        rw [List.length_take] at this; omega
      have hvl : vs.length = xs.length := rv.length
      have rds : RVs g K W.o H (vs.drop ps.length) ds := ts_rv (rv.drop _) eds
      obtain ⟨u1, u2, rfl, r1, r2⟩ := StX.vals_split (ws := vs.take ps.length) (rest := vs.drop ps.length) (by rw [List.take_append_drop]; exact r)
      have hl1 : u1.length = ps.length := by rw [← r1.length, List.length_take]; omega
      have hz1 : (vs.drop ps.length).length ≤ sizeLine := by rw [rds.length]; exact lim_le hz
      have hl2 : u2.length ≤ sizeLine := by rw [← r2.length]; exact hz1
      have hn : H s.heap.objs.size = Option.none := e0.hok.fresh (Nat.le_refl _)
      refine StX.run_bnd lk hcd S hr.room e0 (G := fun zs H2 => ∃ p, H p = Option.none ∧ zs = vs.take ps.length ++ [V.ref p] ∧ H2 = upd H p (.tup (vs.drop ps.length))) (fun A' Ex Q' h => ?_) fun s2 H2 zs ⟨p, hp, ex, eH⟩ hr' => ?_
      · rw [hb u1 u2 hl1]
        refine wpAny_bind (wpAny_newTuple (wpAny_pure ?_) hl2)
        have new : ObjOk P w (upd H s.heap.objs.size (.tup (vs.drop ps.length))) (s.heap.push ({ cls := .type "tuple", data := .seq u2.toArray } : Obj)) s.heap.objs.size (.tup (vs.drop ps.length)) := ⟨hz1, u2, r2, ⟨_, Heap.get?_push_size _ rfl, rfl, _, rfl⟩⟩
        have un := StX.un_laid (fs := frs outer) (s := s) (o := ({ cls := .type "tuple", data := .seq u2.toArray } : Obj)) (u := .tup (vs.drop ps.length)) hn
        have z := h _ _ (vs.take ps.length ++ [V.ref s.heap.objs.size]) (u1 ++ [Value.ref s.heap.objs.size]) (StX.env0_laid e0 new) un rfl (fun e s' => StX.cxUp outer s H _ _ E e s' un (fun b o q => Heap.get?_push_of_some _ q) rfl) (r1.append (.cons rfl .nil))
          (by rw [List.length_append, List.length_append, List.length_take]; simp only [List.length_cons, List.length_nil]; omega) ⟨_, hn, rfl, rfl⟩
        rw [List.zip_append hl1.symm] at z
        exact z
      · subst ex eH
        have sm : Same H (upd H p (.tup (vs.drop ps.length))) := same_new hp
        have st1 := st0.same sm
        have rz : RWs g K W (upd H p (.tup (vs.drop ps.length))) (vs.take ps.length ++ [V.ref p]) (xs.take ps.length ++ [.t (.tup ds)]) :=
          ((rv.take _).keep (.of sm) hs_refl fun _ _ h => .inl h).append (.cons (.t (new_tup st0.there hp rds)) .nil)
        have hzl : (vs.take ps.length ++ [V.ref p]).length ≤ N.length := by
          rw [List.length_append, List.length_take]; rw [List.length_append] at hpl
          simp only [List.length_cons, List.length_nil] at hpl ⊢; omega
        exact body_S (X := cxOf (L2.CX P w) P w K mg base N qual (defScope st) f cdv A outer s2 (upd H p (.tup (vs.drop ps.length))) E) (takes_of rfl rfl rfl rfl) hcl st1 rz
          (by rw [List.length_append, List.length_take]; simp only [List.length_cons, List.length_nil]; omega) (fun _ => ini_rep rz st1 hzl)
          (hall.mono2 (fun q b' z v W' H' e s m rx => z v W' H' ((Ext.same sm).trans e) s m rx) fun C fs es b' z d H' k1 x1 => z d H' (pk_same sm k1) (ex_same sm x1))
          fun B hx hc => hbody cdv A outer s2 _ E B ⟨hr', hr.gd⟩ hx hc
    · rw [if_neg hz] at hall; exact hall.elim
  · rw [if_neg hl] at hall; exact hall.elim
end
/-! making an instance by a promise of places alone -/
section
variable {X : Cx} {k : Nat} {f C : Addr} {sp : Sp} {E : XK} {x : Str} {p pos : Pos} {e : Expr} {es : List Expr} {t : TA}
theorem run_makeQ {pins : List (Addr × Obj)} {σ : L2.St} {H : Hp} {s : Shared} {Q : VK} {us : List Value} {vs : List V} (M : Mk X.K C f) (F : FnQ X.prog X.w X.K X.mg X.base k f sp) (hr : Rm (k + 1) X.A)
    (hx : Passes (L2.CX X.prog X.w) X E) (I : Inv X pins σ H s) (r : Vals vs us)
    (h : ∀ x dx, H x = none → H dx = none → dx ≠ x → sp (.ref x :: vs) (upd (upd H dx (.own x)) x (.ins C dx [])) (fun v H2 => v = .non ∧ Q (.ref x) H2) E) :
    wpAny (model X.prog X.w) X.A (call (.ref C) us) (EP X pins σ Q) X.xe s := by
  have hq := h (s.heap.objs.size + 1) s.heap.objs.size (I.hok.fresh (Nat.le_succ _)) (I.hok.fresh (Nat.le_refl _)) (Nat.ne_of_lt (Nat.lt_succ_self _))
  have I2 := Inv.made (C := C) I
  have r2 : Vals (V.ref (s.heap.objs.size + 1) :: vs) (Value.ref (s.heap.objs.size + 1) :: us) := .cons rfl r
  refine wpAny_call (make_map (f := f) I.kIn M.makes M.init (beq_iff_eq.mp M.fn) (codeAny_mono (F _ X.stack _ _ (Value.ref (s.heap.objs.size + 1) :: us) _ _ E (hr.make C us [])
    (I2.env0.make C us []) r2 hq) fun r s' hq' => ?_))
  match r, hq' with
  | .error e, hq' => exact hx pins σ _ _ e s' I2 hq'
  | .ok (.ret u), hq' =>
    obtain ⟨v, H', I3, rv, ev, q3⟩ := I2.after hq'
    subst ev
    exact ⟨rv, ⟨V.ref (s.heap.objs.size + 1), H', I3, rfl, q3⟩⟩
  | .ok .next, hq' => exact hq'.elim
  | .ok .brk, hq' => exact hq'.elim
  | .ok .cont, hq' => exact hq'.elim
theorem pe_makeQ (M : Mk X.K C f) (F : FnQ X.prog X.w X.K X.mg X.base k f sp) (hr : Rm (k + 1) X.A) (hm : X.mg x = some (.ref C)) (hx : Passes (L2.CX X.prog X.w) X E)
    (ha : PA X (e :: es) t) (hg : Gl X x := by rfl) (hdb : (x == ("__debug__" : Str)) = false := by decide) (he : starEach (e :: es) X.env = (false, eval e X.env) :: starEach es X.env := by rfl) (hpl : (backTo pos (starEach es X.env)).any (·.1) = false := by rfl) :
    PE X (.Call (.Name x p) (e :: es) [] pos) (tMk C sp E t) := by
  refine ⟨fun pins s σ H Q I h => wpAny_Call_Name_kw (ld_glob I hg hm ?_ hdb)⟩
  exact PySem.W.callWith_K (h₀ := X.base) I.ok.mod.kin M.kp (thn (ha.run pos pins s σ H _ I h) fun us s1 ⟨vs, H1, I1, r, q⟩ => ⟨I1.kIn, run_makeQ M F hr hx I1 r q⟩) he hpl
end
/-- a class of the text, its __init__ promised by places alone -/
structure KlQ (P : Program) (w : World) (K : PySem.W.Frag) (mg : Str → Option Value) (base : Heap) (CL : Nat → Addr) (k : Nat) (x : Str) (C : Nat) (F : List Vd → Mu → T (Vd × Mu)) : Prop where
  h : ∃ f : Addr, mg x = some (.ref (CL C)) ∧ Mk K (CL C) f ∧ FnQ P w K mg base k f (spQ CL K F)
section
variable {X : Cx} {B : Bd} {k j : Nat} {x : Str} {C : Nat} {F : List Vd → Mu → T (Vd × Mu)} {e : Expr} {es : List Expr} {fa : FA} {p pos : Pos}
/-- what mk_imp says, of any number of arguments -/
theorem mk_impQ {K : PySem.W.Frag} {CL : Nat → Addr} {vs : List V} {H : Hp} {Q : VK} {E : XK} {g : Gh} {O : List Addr} {b : Nat} {ds : List D} (hcl : g.cl = CL) (th : ∀ a ∈ O, H a ≠ none) (nt : ∀ a ∈ O, ∀ ps, H a ≠ some (.tbl ps)) (pen : PenOk g.pa (pureW O) H b) (tb : LamX.Tabs g.tb H) (rv : RVs g K O H vs ds)
    (hall : (mkD C F ds).All b (fun d b' => ∀ v H', PK g (pureW O) b' H H' → RV g K O H' v d → Q v H') (fun C fs es b' => ∀ d H', PK g (pureW O) b' H H' → ExAt g K H O d fs es H' → E (.ref (g.cl C)) (some d) H'))
    {x dx : Addr} (h1 : H x = none) (h2 : H dx = none) (hn : dx ≠ x) (hnon : EndsNon F) : spQ CL K F (.ref x :: vs) (upd (upd H dx (.own x)) x (.ins (CL C) dx [])) (fun v H2 => v = .non ∧ Q (.ref x) H2) E := by
  have h : spD CL K vs.length (mkD C F) vs H Q E := ⟨rfl, g, O, b, ds, hcl, th, nt, pen, tb, rv, hall⟩
  obtain ⟨_, g, W, μ, b, xs, q⟩ := mk_imp h h1 h2 hn hnon
  exact ⟨g, W, μ, b, xs, q⟩
theorem se_makeQ {CL : Nat → Addr} (h : KlQ X.prog X.w X.K X.mg X.base CL j x C F) (hend : EndsNon F) (hr : Rm k X.A) (hj : j + 1 ≤ k) (hx : Lets X B) (hcl : B.g.cl = CL) (ha : PA X (e :: es) (tL B X.K fa)) (hg : Gl X x := by rfl) (hdb : (x == ("__debug__" : Str)) = false := by decide)
    (he : starEach (e :: es) X.env = (false, eval e X.env) :: starEach es X.env := by rfl) (hpl : (backTo pos (starEach es X.env)).any (·.1) = false := by rfl) : PE X (.Call (.Name x p) (e :: es) [] pos) (tM B X.K (eCallF (mkD C F) fa)) := by
  obtain ⟨f, h1, h2, h4⟩ := h.h
  obtain ⟨E, hp, hE⟩ := hx
  refine PEimp (pe_makeQ h2 h4 (hr.mono hj) h1 hp ha hg hdb he hpl) fun σ H Q ⟨ρ, μ, W, b, R, w⟩ => ⟨ρ, μ, W, b, R, (T.All.bind w).mono fun p n1 w1 vs W1 H1 k1 R1 r1 x dx hx hdx hne => ?_⟩
  obtain ⟨ds, e, w2⟩ := T.All.ofO (T.All.bind w1)
  have r1 := ts_rv r1 e
  exact mk_impQ hcl R1.st.there R1.st.nt R1.st.pen.pure R1.st.tabs r1 (T.All.mono2 (T.All.bind w2) (fun d b' q v H' pk rv => by
      obtain ⟨R2, e2⟩ := R1.pure pk
      exact q v W1 H' (k1.trans e2) R2 (.t rv)) fun C fs es b' y d H' pk ex => hE C fs es b' d H' y (R1.outP pk) (R1.exat ex)) hx hdx hne hend
end
end Y

set_option Elab.async false
set_option linter.all false
set_option maxRecDepth 100000
set_option maxHeartbeats 2000000
/-! Y73: own classes whose __init__ says super().__init__(..) of a class of the text. -/
namespace Y
open PySem PySem.Spec PyProof.Rows L2 NdefX ClX

/-- what the written part says of the class at C, of its __init__ at f, of the __init__ at f2 that super() finds -/
structure SuK (prog : Program) (K : PySem.W.Frag) (C f cc cda f2 : Addr) (fd : FuncData) (qual : Str) (params : Arguments) (body : List Stmt) (scope : Scope) : Prop where
  fn : ∃ oc od dV kV doc pm an ct osl, fd = PySem.W.ksFn "__init__" qual params body scope dV kV doc pm an (.ref cda) ct cc ∧ K.lookup f = some ⟨oc, od, .func fd, osl⟩
  code : PySem.W.codeIn K (.ref cda) qual = true
  cda : ∃ ccl cdd vs ccs file tf, K.lookup cda = some ⟨ccl, cdd, .fields vs, ccs⟩ ∧ vs[2]? = some (.str file tf) ∧ ((prog.main.file : Str) == file) = true
  cell : ∃ cl cld csl, K.lookup cc = some ⟨cl, cld, .cell (some (.ref C)), csl⟩
  cls : ∃ cd, PySem.W.clsIn K C = some cd
  sub : PySem.W.mroIn K C (.ref C) = some true
  sup : PySem.W.ks_superIn K C C "__init__" = some (some (.ref f2))
  ty : PySem.W.typeIn K (.ref f2) = some (.type "function")
  fi : PySem.W.fnIn K f2 = true
  third : PySem.W.nsIn K cStatics "thirdparty.any" = some none
  main : (prog.main.scope.names.lookup ("super" : Str)).isSome = false
  arg0 : ∃ ar, (params.posonlyargs ++ params.args).head? = some ar ∧ ar.arg = "self"
  ks : scope.names.lookup ("super" : Str) = some .globalImplicit
  kc : scope.names.lookup ("__class__" : Str) = some .free
  k0 : scope.names.lookup ("self" : Str) = some .local
  kf : scope.kind = .function
/-- the self of such an __init__ -/
def selfAt (C : Nat) (ρ : Env') (μ : Mu) : Option Vd := match ρ[0]? with
  | some (some x) => if instOf C "__init__" μ x = true then some x else none
  | _ => none
/-- super().__init__(..) -/
def sSup (C : Nat) (F : List Vd → Mu → T (Vd × Mu)) (fa : FA) : FS := fun ρ μ => (T.ofO (selfAt C ρ μ)).bind fun x => (fa ρ μ).bind fun p => (F (x :: p.1) p.2).bind fun q => .ret (.nx ρ q.2)
theorem selfAt_some {C : Nat} {ρ : Env'} {μ : Mu} {x : Vd} (h : selfAt C ρ μ = some x) : ρ[0]? = some (some x) ∧ instOf C "__init__" μ x = true := by
  unfold selfAt at h
  split at h
  · rename_i y e
    split at h
    · rename_i e2; cases h; exact ⟨e, e2⟩
    · cases h
  · cases h
section
variable {P : Program} {w : World} {K : PySem.W.Frag} {mg : Str → Option Value} {base : Heap} {CL : Nat → Addr} {N : List Str} {f cc cda f2 : Addr} {fd : FuncData} {qual : Str} {params : Arguments} {body rest : List Stmt} {scope : Scope} {C k : Nat} {F : List Vd → Mu → T (Vd × Mu)} {fa : FA} {fs : FS} {B : Bd}
  {A : Around} {outer : List Env} {s0 : Shared} {H0 : Hp} {E : XK} {p0 p1 p2 p3 p4 : Pos} {a1 : Expr} {args : List Expr}
/-- its frame -/
abbrev nfSup (qual : Str) (params : Arguments) (body : List Stmt) (scope : Scope) (cc cda : Addr) : NF := ⟨"__init__", qual, params, body, scope, [("__class__", cc)], cda⟩
abbrev cxSup (P : Program) (w : World) (K : PySem.W.Frag) (mg : Str → Option Value) (base : Heap) (N : List Str) (qual : Str) (params : Arguments) (body : List Stmt) (scope : Scope) (cc cda f : Addr) (A : Around) (outer : List Env) (s0 : Shared) (H0 : Hp) (E : XK) : Cx :=
  ncx (L2.CX P w) P w K mg base N (nfSup qual params body scope cc cda) f A outer s0 H0 E
theorem sup_run {pl : Sem Bool} {pins : List (Addr × Obj)} {s : Shared} {σ : L2.St} {H : Hp} {Dn : Ends} (S : SuK P K (CL C) f cc cda f2 fd qual params body scope) (G : FnQ P w K mg base k f2 (spQ CL K F)) (hr : Rm k (A.deeper (PySem.W.ksEnv qual scope s0.heap.objs.size f (.ref cda) cc))) (hN : N[0]? = some ("self" : Str)) (hmg : mg "super" = none) (hcl : B.g.cl = CL)
    (hx : Lets (cxSup P w K mg base N qual params body scope cc cda f A outer s0 H0 E) B)
    (ha : PA (cxSup P w K mg base N qual params body scope cc cda f A outer s0 H0 E) (a1 :: args) (tL B K fa)) (hrest : PSs (cxSup P w K mg base N qual params body scope cc cda f A outer s0 H0 E) rest (tS B K fs))
    (I : Inv (cxSup P w K mg base N qual params body scope cc cda f A outer s0 H0 E) pins σ H s) (h : tS B K (sSeq (sSup C F fa) fs) Dn σ H)
    (hev : eval (.Call (.Attribute (.Call (.Name "super" p0) [] [] p1) "__init__" p2) (a1 :: args) [] p3) (PySem.W.ksEnv qual scope s0.heap.objs.size f (.ref cda) cc) = (do
      let ov ← attributeBase (.Call (.Name "super" p0) [] [] p1) "__init__" (PySem.W.ksEnv qual scope s0.heap.objs.size f (.ref cda) cc) (eval (.Call (.Name "super" p0) [] [] p1) (PySem.W.ksEnv qual scope s0.heap.objs.size f (.ref cda) cc))
      standAt p2.atName
      let (f', first) ← holding [ov] (getMethod ov "__init__" pl)
      callWith p3 f' first (backTo p3 (starEach (a1 :: args) (PySem.W.ksEnv qual scope s0.heap.objs.size f (.ref cda) cc))) []))
    (hint : interactive (PySem.W.ksEnv qual scope s0.heap.objs.size f (.ref cda) cc) = false)
    (hsw : swapsWith (.Call (.Attribute (.Call (.Name "super" p0) [] [] p1) "__init__" p2) (a1 :: args) [] p3) none p4.line (PySem.W.ksEnv qual scope s0.heap.objs.size f (.ref cda) cc) = pure false)
    (hst : starEach (a1 :: args) (PySem.W.ksEnv qual scope s0.heap.objs.size f (.ref cda) cc) = (false, eval a1 (PySem.W.ksEnv qual scope s0.heap.objs.size f (.ref cda) cc)) :: starEach args (PySem.W.ksEnv qual scope s0.heap.objs.size f (.ref cda) cc))
    (hpl : (backTo p3 (starEach args (PySem.W.ksEnv qual scope s0.heap.objs.size f (.ref cda) cc))).any (·.1) = false) :
    PySem.wpAt (model P w) (A.deeper (PySem.W.ksEnv qual scope s0.heap.objs.size f (.ref cda) cc)) (.func body (PySem.W.ksEnv qual scope s0.heap.objs.size f (.ref cda) cc))
      (execs (.Expr (.Call (.Attribute (.Call (.Name "super" p0) [] [] p1) "__init__" p2) (a1 :: args) [] p3) p4 :: rest) (PySem.W.ksEnv qual scope s0.heap.objs.size f (.ref cda) cc))
      (SP (cxSup P w K mg base N qual params body scope cc cda f A outer s0 H0 E) pins Dn) (cxSup P w K mg base N qual params body scope cc cda f A outer s0 H0 E).xe s := by
  obtain ⟨ρ, μ, W, b, R, hall⟩ := h
  obtain ⟨x, ex, hall⟩ := T.All.ofO (T.All.bind (T.All.bind hall))
  obtain ⟨e0, ei⟩ := selfAt_some ex
  obtain ⟨sv, hs0, rx⟩ := R.slot 0 x e0
  obtain ⟨e, dx, fls, rfl, he, _⟩ := inst_ok hcl R.st rx ei
  obtain ⟨oc, od, dV, kV, doc, pm, an, ct, osl, rfl, lkf⟩ := S.fn
  obtain ⟨ccl, cdd, vs2, ccs, file, tf, lkc, hvs, hfile⟩ := S.cda
  obtain ⟨cl, cld, csl, lkcell⟩ := S.cell
  obtain ⟨ar, hp, har⟩ := S.arg0
  obtain ⟨cd, hcd⟩ := S.cls
  have X := I.kIn
  obtain ⟨hC, hD1, hD2⟩ : ∃ oD, s.heap.get? (CL C) = some oD ∧ oD.data = .cls cd := by
    unfold PySem.W.clsIn at hcd
    split at hcd
    · rename_i c d cd' sl ho
      cases hcd
      exact ⟨_, X _ _ ho, rfl⟩
    · cases hcd
  obtain ⟨of, hof, hofc⟩ : ∃ of, s.heap.get? f2 = some of ∧ of.cls = .type "function" := by
    have ht' : (K.lookup f2).map (·.cls) = some (.type "function") := S.ty
    cases z : K.lookup f2 with
    | none => rw [z] at ht'; cases ht'
    | some of => rw [z] at ht'; exact ⟨of, X _ _ z, Option.some.inj ht'⟩
  obtain ⟨mb, nB, hmb⟩ := I.ok.mod.blt
  obtain ⟨mL, nL, hL⟩ := I.loc
  have hself : mL "self" = some (.ref e) := by
    obtain ⟨u, ru, q⟩ := hL 0 "self" (.ref e) hN hs0 (.inl S.k0)
    obtain rfl : u = Value.ref e := ru
    rcases q with ⟨_, q⟩ | ⟨q, _⟩
    · exact q
    · have q : scope.names.lookup ("self" : Str) = some .cell ∨ scope.names.lookup ("self" : Str) = some .free := q
      rw [S.k0] at q
      rcases q with q | q <;> cases q
  obtain ⟨mA, OM, _⟩ := ins_get I.hok he
  obtain ⟨odx, J, _⟩ := OM.look
  refine PySem.ks_wpAt_execs_cons (PySem.ks_wpAt_Expr_any (PySem.ks_wpAt_MethodCall (pl := pl) ?_ hev) hint hsw)
  refine PySem.ks_wpAt_super_base (env := PySem.W.ksEnv qual scope s0.heap.objs.size f (.ref cda) cc) S.ks S.kc rfl rfl (X _ _ lkf) rfl hp rfl (X _ _ lkc) rfl hvs hfile S.main ?_
  refine PySem.W.ks_loadName_global S.kf S.ks (PySem.Calls.loadGlobal_builtin (env := PySem.W.ksEnv qual scope s0.heap.objs.size f (.ref cda) cc) (I.ok.mod.glob.keeps I.bk) hmg (nB.keeps I.bk) ((hmb "super" (by decide)).trans (by decide +kernel : bootBuiltins "super" = some (.type "super"))) ⟨rfl, ?_⟩)
  refine wpAny_loadName_free S.kf S.kc rfl ⟨_, X _ _ lkcell, rfl⟩ ?_
  rw [har]
  refine wpAny_loadName_local S.kf S.k0 nL hself ?_
  refine PySem.ks_wpAny_isType_cls hD1 hD2 ⟨rfl, ?_⟩
  obtain ⟨hh, gn, dr, tk, os⟩ := s
  refine PySem.ks_wpAny_call_super hD1 hD2 J.at_ J.cls (fun c z => ?_) (PySem.W.looks_mroIn X S.sub) (fun h1 hso k1 => ?_)
  · have := J.no
    unfold PySem.W.notCls at this
    rw [z] at this
    exact Bool.noConfusion this
  have I1 : Inv (cxSup P w K mg base N qual params body scope cc cda f A outer s0 H0 E) pins σ H ⟨h1, gn, dr, tk, os⟩ := I.kept k1
  have X1 := I1.kIn
  have hsup : PySem.W.alongIn K "__init__" ((cd.mro.dropWhile (· != .ref (CL C))).drop 1) = some (some (.ref f2)) := by
    have := S.sup; unfold PySem.W.ks_superIn at this; rw [hcd] at this; exact this
  refine PySem.ks_wpAny_getMethod_super hso (PySem.W.looks_opaque X1 S.third) (l₀ := cd.mro) (fun A Q E s k q => wpAny_bind ((PySem.W.looks_clsIn X1 hcd) A _ E s k (wpAny_pure q))) rfl X1 hsup (k1 _ _ hof) hofc (PySem.W.ks_ne X J hcd) rfl ?_
  have I2 := met_new (g := f2) (C := e) I1
  obtain ⟨E', hp', hE⟩ := hx
  have hL : tL B K fa σ H fun vs H2 => spQ CL K F (.ref e :: vs) H2 (fun _ H3 => tS B K fs Dn σ H3) E' :=
    ⟨ρ, μ, W, b, R, (T.All.bind hall).mono fun p n1 h1 vs W1 H1 k1 R1 r1 => ⟨B.g, W1, p.2, n1, x :: p.1, hcl, R1.st, .cons (rx.ext R.st k1) r1,
      T.All.mono2 (T.All.bind h1) (fun q b' hq v W' H' ex st mo rv => ⟨ρ, q.2, W', b', R1.go ex st (fun a h => mo a (R1.mono a h)), T.All.mono hq fun r b q => q.ext (k1.trans ex)⟩)
        fun C fs es b' y d H' pk ex => hE C fs es b' d H' y (R1.outS pk) (R1.exat ex)⟩⟩
  refine callwith_cm I2 (base_none I1 (Nat.le_refl _)) S.fi (thn (ha.run p3 _ _ σ H _ I2 hL) fun us s3 ⟨vs, H2, I3, rv, q2⟩ => ⟨⟨pin_at I3, I3.kIn⟩, ?_⟩) hst hpl
  refine wpAny_call (PySem.W.method_call (pin_at I3) (codeAny_mono (G _ _ s3 H2 (.ref e :: us) (.ref e :: vs) _ _ hr I3.env0 (.cons rfl rv) q2) fun r s' got => ?_))
  match r, got with
  | .error e, got => exact hp' _ σ H2 s3 e s' I3 got
  | .ok (.ret u), got =>
    obtain ⟨v, H3, I4, _, q3⟩ := I3.after got
    exact PySem.wpAt_of_wpAny (hrest.run pins s' σ H3 Dn (unpin I4) q3)
  | .ok .next, got => exact got.elim
  | .ok .brk, got => exact got.elim
  | .ok .cont, got => exact got.elim
/-- an __init__ that says super().__init__(..), by its body -/
theorem fnG_sup (pl : Sem Bool) {ps : List Str} (n m : Nat) {F0 : List Vd → Mu → T (Vd × Mu)} (hF : F0 = fnS n m (sSeq (sSup C F fa) fs)) (hn : N.length = n) (hm : ps.length = m) (hbody : body = .Expr (.Call (.Attribute (.Call (.Name "super" p0) [] [] p1) "__init__" p2) (a1 :: args) [] p3) p4 :: rest)
    (S : SuK P K (CL C) f cc cda f2 fd qual params body scope) (NS : NScope N ps ["__class__"] scope) (hN : N[0]? = some ("self" : Str)) (hmg : mg "super" = none) (G : FnQ P w K mg base k f2 (spQ CL K F))
    (ha : ∀ (A : Around) (outer : List Env) (s : Shared) (H : Hp) (E : XK) (B : Bd), Rm k (A.deeper (PySem.W.ksEnv qual scope s.heap.objs.size f (.ref cda) cc)) → LetsT (cxSup P w K mg base N qual params body scope cc cda f A outer s H E) B → B.g.cl = CL → PA (cxSup P w K mg base N qual params body scope cc cda f A outer s H E) (a1 :: args) (tL B K fa))
    (hrest : ∀ (A : Around) (outer : List Env) (s : Shared) (H : Hp) (E : XK) (B : Bd), Rm k (A.deeper (PySem.W.ksEnv qual scope s.heap.objs.size f (.ref cda) cc)) → LetsT (cxSup P w K mg base N qual params body scope cc cda f A outer s H E) B → B.g.cl = CL → PSs (cxSup P w K mg base N qual params body scope cc cda f A outer s H E) rest (tS B K fs))
    (hev : ∀ L, eval (.Call (.Attribute (.Call (.Name "super" p0) [] [] p1) "__init__" p2) (a1 :: args) [] p3) (PySem.W.ksEnv qual scope L f (.ref cda) cc) = (do
      let ov ← attributeBase (.Call (.Name "super" p0) [] [] p1) "__init__" (PySem.W.ksEnv qual scope L f (.ref cda) cc) (eval (.Call (.Name "super" p0) [] [] p1) (PySem.W.ksEnv qual scope L f (.ref cda) cc))
      standAt p2.atName
      let (f', first) ← holding [ov] (getMethod ov "__init__" pl)
      callWith p3 f' first (backTo p3 (starEach (a1 :: args) (PySem.W.ksEnv qual scope L f (.ref cda) cc))) []) := by intro _; rfl)
    (hint : ∀ L, interactive (PySem.W.ksEnv qual scope L f (.ref cda) cc) = false := by intro _; rfl)
    (hsw : ∀ L, swapsWith (.Call (.Attribute (.Call (.Name "super" p0) [] [] p1) "__init__" p2) (a1 :: args) [] p3) none p4.line (PySem.W.ksEnv qual scope L f (.ref cda) cc) = pure false := by intro _; rfl)
    (hst : ∀ L, starEach (a1 :: args) (PySem.W.ksEnv qual scope L f (.ref cda) cc) = (false, eval a1 (PySem.W.ksEnv qual scope L f (.ref cda) cc)) :: starEach args (PySem.W.ksEnv qual scope L f (.ref cda) cc) := by intro _; rfl)
    (hpl : ∀ L, (backTo p3 (starEach args (PySem.W.ksEnv qual scope L f (.ref cda) cc))).any (·.1) = false := by intro _; rfl) :
    FnG P w K mg base (k + 1) f fd ps (spS CL K m F0) := by
  subst hn; subst hm; subst hF
  refine ⟨fun vs H Q E h => h.1, fun A outer s H ars us vs Q E hr e0 hb r hsp => ?_⟩
  obtain ⟨hl, g, W, μ, b, xs, hcl, st0, rv, hall⟩ := hsp
  have KX : K.In s.heap := e0.mod.kin.keeps fun b o e => (e0.bs b o e).1
  have lim0 : s.heap.NoLimit := e0.mod.nolimit.keeps fun b o e => (e0.bs b o e).1
  obtain ⟨oc, od, dV, kV, doc, pm, an, ct, osl, hfd, lkf⟩ := id S.fn
  obtain ⟨cl, cld, csl, lkcell⟩ := S.cell
  have hpl0 : ps.length + 1 ≤ N.length := by
    have q := congrArg List.length NS.pre
    rw [List.length_take, List.length_append] at q
    simp only [List.length_cons, List.length_nil] at q
    omega
  have hdl : xs.length = ps.length := rv.length.symm.trans hl
  have lkB : base.get? cc = some ⟨cl, cld, .cell (some (.ref (CL C))), csl⟩ := e0.mod.kin _ _ lkcell
  have hcn : H cc = none := (e0.bs _ _ lkB).2
  have look1 : ∀ {y : Str} {c : Addr}, ([("__class__", cc)] : List (Str × Addr)).lookup y = some c → y = "__class__" ∧ c = cc := fun {y c} e => by
    rw [List.lookup_cons] at e
    by_cases q : y = "__class__"
    · subst q; rw [show (("__class__" : Str) == "__class__") = true from rfl] at e; cases e; exact ⟨rfl, rfl⟩
    · rw [show (y == ("__class__" : Str)) = false from beq_eq_false_iff_ne.mpr q] at e; cases e
  have CA : CellsAt [("__class__", cc)] ["__class__"] [none] s.heap H := by
    refine ⟨rfl, fun y c e => ?_, fun y z c e1 e2 => by rw [(look1 e1).1, (look1 e2).1], fun i y e => ?_⟩
    · obtain ⟨_, rfl⟩ := look1 e
      exact ⟨hcn, _, _, KX _ _ lkcell, rfl⟩
    · match i, e with
      | 0, e =>
        cases e
        exact ⟨cc, rfl, fun v z => by cases z⟩
      | i + 1, e => cases e
  have st_eq : startF N vs [none] = start N vs := by
    unfold startF L2.start
    congr 1
    show [none] ++ List.replicate (N.length - vs.length - 1) none = _
    obtain ⟨j, hj⟩ : ∃ j, N.length - vs.length = j + 1 := ⟨N.length - vs.length - 1, by omega⟩
    rw [hj, List.replicate_succ]; rfl
  have tkx : Takes (cxSup P w K mg base N qual params body scope cc cda f A outer s H E) (fun cls d _ H => E cls d H) := takes_of rfl rfl rfl rfl
  have hr2 : Rm k (A.deeper (PySem.W.ksEnv qual scope s.heap.objs.size f (.ref cda) cc)) := ⟨hr.room.deeper _, hr.gd⟩
  refine PySem.ks_codeAny_call_defAt (fd := fd) (body := body) (binds := ps.zip us) hr.room.depth (KX _ _ lkf) rfl lim0 (by rw [hfd]; exact PySem.W.codeRec_of KX S.code) (by rw [hfd]) hb (by rw [hfd]; exact NS.nocell) (fun ⟨y, v⟩ hy => by rw [hfd]; exact NS.par y (List.of_mem_zip hy).1) (fun h₁ hns kp => ?_) (by rw [hfd]; exact NS.co) (by rw [hfd]; exact NS.gen) (by rw [hfd]; exact NS.kind)
  have I : Inv (cxSup P w K mg base N qual params body scope cc cda f A outer s H E) [] (startF N vs [none]) H { s with heap := h₁, toks := s.toks + (ps.zip us).length } := inv_startN NS hr.room.hd e0 hl r CA hns kp
  rw [st_eq] at I
  have hce : callEnv fd s.heap.objs.size f = PySem.W.ksEnv qual scope s.heap.objs.size f (.ref cda) cc := by rw [hfd]; rfl
  rw [hce]
  subst hbody
  have LT : LetsT (cxSup P w K mg base N qual params _ scope cc cda f A outer s H E) ⟨g, H, W, fun C fs es b' => ∀ d H', PK g W b' H H' → ExAt g K H W.o d fs es H' → E (.ref (g.cl C)) (some d) H'⟩ := ⟨E, tkx, fun C fs es b' d H' y k1 x1 => y d H' k1 x1⟩
  have hS : tS ⟨g, H, W, fun C fs es b' => ∀ d H', PK g W b' H H' → ExAt g K H W.o d fs es H' → E (.ref (g.cl C)) (some d) H'⟩ K (sSeq (sSup C F fa) fs) { nx := fun _ H' => Q .non H', rt := Q } (start N vs) H := by
    refine ⟨ini N.length xs, μ, W, b, ini_rep rv st0 (by omega), ?_⟩
    unfold fnS at hall
    rw [if_pos hdl] at hall
    refine (T.All.bind hall).mono fun r b1 q => ?_
    cases r with
    | nx ρ μ => exact fun σ' H' W' e R => q .non W' H' e R.st R.mono (.t .non)
    | rt x μ => exact fun v W' H' e s m rx => q v W' H' e s m rx
    | bk ρ => exact q.elim
    | ct ρ => exact q.elim
  refine PySem.ks_wpAt_mono (sup_run (pl := pl) S G hr2 hN hmg hcl LT.lets (ha A outer s H E _ hr2 LT hcl) (hrest A outer s H E _ hr2 LT hcl) I hS (hev _) (hint _) (hsw _) (hst _) (hpl _)) (fun fl s' hs => ?_) fun e s' hs => hs
  match fl, hs with
  | .ret u, ⟨v, σ', H', J, rv, q⟩ => exact ⟨v, H', J.os, J.bare, J.base, J.hok, rv, q⟩
  | .next, ⟨σ', H', J, q⟩ => exact ⟨.non, H', J.os, J.bare, J.base, J.hok, rfl, q⟩
  | .brk, ⟨_, _, _, q⟩ => exact q.elim
  | .cont, ⟨_, _, _, q⟩ => exact q.elim
end
end Y

set_option Elab.async false
set_option linter.all false
set_option maxRecDepth 100000
set_option maxHeartbeats 2000000
/-! Y74: own errors made with keywords alone. -/
namespace PySem.HandSPX
open PySem PySem.Spec PyProof.Rows
section
variable {prog : Program} {w : World} {A : Around} {E : Value → Shared → Prop} {R : Result → Shared → Prop} {h : Heap} {g : Array GenState} {d : Drawn} {t : Nat} {os : OsState}
variable {nm q : Str} {C N : Addr} {bs bm bmB : List Value} {hdct : Bool} {sn : List Str} {sub : List Value} {ab : Bool} {col : Option Bool} {dd : Option Addr} {k0 k1 k2 k3 k5 : Option Value} {B newId initId : String} {kw : List (Str × Value)}
theorem xk_chk {M : Model} (F : ExcBaseFacts B newId initId bmB) (hT : ∀ X : String, bm.contains (.type X) = bmB.contains (.type X)) {Q : Unit → Shared → Prop}
    (hC : h.get? C = some (excClassObj nm q C N bs bm hdct sn sub ab col dd k0 k1 k2 k3 k5 newId)) (z : Q () ⟨h, g, d, t, os⟩) : wpAny M A (checkBuiltinCall newId ⟨[.ref C], kw⟩) Q E ⟨h, g, d, t, os⟩ := by
  have has : (Value.ref C :: bm).contains (.type B) = true := by rw [List.contains_cons, hT, F.hasB, Bool.or_true]
  have nost := F.noStar
  simp only [checkBuiltinCall, F.newKind, F.newSplit, F.newRow]
  repeat (first | with_reducible refine wpAny_loadPart_at hC ?_ | (refine wpAny_isSubtype_exc hC ?_; rw [has]) | refine wpAny_staticBase_exc hC ?_ | refine wpAny_madeBy_exc hC ?_ | (simp only [bne_self_eq_false, Bool.false_eq_true, if_false]) | wp_step)
  exact z
theorem xk_new (F : ExcBaseFacts B newId initId bmB) (hT : ∀ X : String, bm.contains (.type X) = bmB.contains (.type X))
    (hC : h.get? C = some (excClassObj nm q C N bs bm hdct sn sub ab col dd k0 k1 k2 k3 k5 newId))
    (z : R (.ok (.ret (.ref (h.objs.size + 1)))) ⟨(h.push (W.kdv_tup [])).push (excO C h.objs.size), g, d, t, os⟩) :
    codeAny (model prog w) A (.builtin newId ⟨[.ref C], kw⟩) R ⟨h, g, d, t, os⟩ := by
  have e1 := F.ends
  have has : (Value.ref C :: bm).contains (.type B) = true := by rw [List.contains_cons, hT, F.hasB, Bool.or_true]
  have noA : (Value.ref C :: bm).contains (.type "AttributeError") = false := by rw [List.contains_cons, hT, F.noAttr]; rfl
  have noN : (Value.ref C :: bm).contains (.type "NameError") = false := by rw [List.contains_cons, hT, F.noName]; rfl
  refine codeAny_builtinAt F.entry ?_
  unfold Builtin.«BaseException.__new__»
  refine wpAt_bind ?_
  show wpAt _ _ _ (stack >>= _) _ _ _
  refine wpAt_bind (wpAt_stack fun p below => wpAt_of_wpAny ?_)
  wp_walk
  refine wpAt_of_wpAny ?_
  rw [F.owner]
  repeat (first | with_reducible refine wpAny_madeHere_exc F.canon hC ?_ | with_reducible refine wpAny_loadPart_at hC ?_ | (with_reducible refine wpAny_isSubtype_exc hC ?_; first | rw [has] | rw [noA] | rw [noN]) | wp_step)
  show R _ _
  rw [Heap.size_push]
  exact z
theorem xk_type (F : ExcBaseFacts B newId initId bmB) (hT : ∀ X : String, bm.contains (.type X) = bmB.contains (.type X)) {fI : Addr} {Q : Fin → Shared → Prop}
    (hC : h.get? C = some (excClassObj nm q C N bs bm hdct sn sub ab col dd k0 k1 k2 k3 k5 newId))
    (hi : W.Looks (model prog w) h (typeLookup (.ref C) "__init__") (some (.ref fI))) (hb : ∀ self, W.Looks (model prog w) h (bindSpecial (.ref fI) self) (.ref fI, [self]))
    (hq : codeAny (model prog w) A (.call (.ref fI) ⟨[.ref (h.objs.size + 1)], kw⟩)
      (fun r s' => match r with | .ok (.ret v) => v = .none ∧ Q (.done (.ret (.ref (h.objs.size + 1)))) s' | .ok _ => False | .error e => E e s')
      ⟨(h.push (W.kdv_tup [])).push (excO C h.objs.size), g, d, t, os⟩) :
    wpAny (model prog w) A (Builtin.«type.__call__» ⟨[.ref C], kw⟩) Q E ⟨h, g, d, t, os⟩ := by
  repeat (first | with_reducible refine wpAny_loadPart_at hC ?_ | with_reducible refine wpAny_madeBy_exc hC ?_ | wp_step)
  refine codeAny_call_builtin_code (Code.quiet_builtin _ F.quiet) (xk_chk F hT hC ?_)
  refine xk_new F hT hC ?_
  show wpAny _ _ _ _ _ _
  have up : ∀ b o, h.get? b = some o → ((h.push (W.kdv_tup [])).push (excO C h.objs.size)).get? b = some o := fun b o e => Heap.get?_push_of_some _ (Heap.get?_push_of_some _ e)
  have hC1 := up _ _ hC
  have at1 : ((h.push (W.kdv_tup [])).push (excO C h.objs.size)).get? (h.objs.size + 1) = some (excO C h.objs.size) := by heap_get
  have hcC : (Value.ref C :: bm).contains (.ref C) = true := by simp
  have i1 := hi.keeps up
  have b1 := (hb (.ref (h.objs.size + 1))).keeps up
  unfold isInstance
  repeat (first | with_reducible refine wpAny_loadPart_at at1 ?_ | (with_reducible refine wpAny_isSubtype_exc hC1 ?_; rw [hcC]) | wp_step)
  show wpAny _ _ (typeLookup (.ref C) _) _ _ _
  refine i1.at ?_
  refine wpAny_holding (wpAny_bind (b1.at ?_))
  refine wpAny_bind (wpAny_call (codeAny_mono hq fun r s' y => ?_))
  rcases r with e | (v | _ | _ | _) <;> first | exact y | exact y.elim | skip
  obtain ⟨rfl, y⟩ := y
  first
    | exact wpAny_pure (wpAny_pure y)
    | (wp_walk; exact y)
theorem xk_call (F : ExcBaseFacts B newId initId bmB) (hT : ∀ X : String, bm.contains (.type X) = bmB.contains (.type X)) {fI : Addr}
    (hC : h.get? C = some (excClassObj nm q C N bs bm hdct sn sub ab col dd k0 k1 k2 k3 k5 newId))
    (hi : W.Looks (model prog w) h (typeLookup (.ref C) "__init__") (some (.ref fI))) (hb : ∀ self, W.Looks (model prog w) h (bindSpecial (.ref fI) self) (.ref fI, [self]))
    (hq : codeAny (model prog w) (A.under (.builtin "type.__call__" ⟨[.ref C], kw⟩)) (.call (.ref fI) ⟨[.ref (h.objs.size + 1)], kw⟩) (W.InitBack (h.objs.size + 1) R)
      ⟨(h.push (W.kdv_tup [])).push (excO C h.objs.size), g, d, t, os⟩) :
    codeAny (model prog w) A (.call (.ref C) ⟨[], kw⟩) R ⟨h, g, d, t, os⟩ := by
  have f1 := tc_lookup
  have f2 := tc_bind (.ref C)
  have ty : (⟨h, g, d, t, os⟩ : Shared).TypeIs (.ref C) "type" := ⟨_, hC, rfl⟩
  refine codeAny_of_tree ?_
  show wpAny _ _ (callAny (.ref C) _) _ _ _
  repeat (any_goals (first | assumption | with_reducible refine wpAny_loadPart_at hC ?_ | wp_step))
  refine ⟨rfl, ?_⟩
  refine codeAny_call_builtin_at (Code.quiet_builtin _ (by decide +kernel)) entry_typeCall (wpAny_check_type_call_sub hC (xk_type F hT hC hi hb ?_))
  refine codeAny_mono hq fun r s' y => ?_
  rcases r with e | (v | _ | _ | _) <;> exact y
end
end PySem.HandSPX

set_option Elab.async false
set_option linter.all false
set_option maxRecDepth 100000
set_option maxHeartbeats 2000000
/-! Y75: own errors made with keywords alone, as expressions. -/
namespace Y
open PySem PySem.Spec PyProof.Rows L2
/-- the __init__ at f of the error's class at C runs with the keywords ks, and keeps what fl tells -/
def SxRunK (prog : Program) (w : World) (K : PySem.W.Frag) (mg : Str → Option Value) (C f : Addr) (ks : List Str) (fl : List V → List (Str × V)) : Prop :=
  ∀ (A : Around) (h : Heap) (g : Array GenState) (d : Drawn) (t : Nat) (os : OsState) (e t0 : Addr) (us : List Value) (vs : List V) (R : Result → Shared → Prop) (mb : Str → Option Value), K.In h → h.Ns mainGlobals mg → h.Ns builtinsNs mb → mb "super" = some (.type "super") → h.NoLimit → A.depth < recursionLimit →
    h.get? e = some (PySem.W.excObj C t0 none .none) → K.lookup e = none → us.length = ks.length → Vals vs us →
    (∀ (h' : Heap) (t' : Nat) (t1 dx : Addr) (mA : Str → Option Value), (∀ b o, b ≠ e → h.get? b = some o → h'.get? b = some o) → h.objs.size ≤ dx → dx ≠ e → h'.get? e = some (PySem.W.excObj C t1 (some dx) .none) → h'.Ns1 dx mA → (∀ x, RelO ((fl vs).lookup x) (mA x)) → R (.ok (.ret .none)) ⟨h', g, d, t', os⟩) →
    codeAny (model prog w) A (.call (.ref f) ⟨[.ref e], ks.zip us⟩) R ⟨h, g, d, t, os⟩
def fl2r (f1 f2 : Str) : List V → List (Str × V)
  | [b, a] => [(f1, a), (f2, b)]
  | _ => []
section
variable {prog : Program} {w : World} {K : PySem.W.Frag} {mg : Str → Option Value} {C f cc cda : Addr} {qual : Str} {params : Arguments} {scope : Scope}
theorem sx_goK1 {pl : Sem Bool} {x fld : Str} {p0 p1 p2 p3 p4 p5 p6 p7 p8 p9 : Pos} (S : SxK prog K C f cc cda qual params (sxB1 x fld p0 p1 p2 p3 p4 p5 p6 p7 p8 p9) scope) (Z : SxS scope [x]) (V : SxE qual scope f cc cda pl (.Name x p3) [] p0 p1 p2 p4 p5) (V1 : SxW qual scope f cc cda x fld p6 p7 p8 p9)
    (hno : PySem.W.findIn K (.ref C) fld = some none) (hmg : mg "super" = none) (hb : ∀ fd, (∃ oc od osl, K.lookup f = some ⟨oc, od, .func fd, osl⟩) → ∀ (s : Shared) (e u : Value), BindsTo s fd ⟨[e], [(x, u)]⟩ [("self", e), (x, u)]) : SxRunK prog w K mg C f [x] (fl1 fld) := by
  intro A h g d t os e t0 us vs R mb X nG nB hmb lim room he hKe hl rv hq
  match us, hl, rv with
  | [u], _, .cons r .nil =>
    refine sx_run1 S Z V V1 hno X nG hmg nB hmb lim room he hKe (fun fd hfd => hb fd hfd _ _ _) fun h' t' t1 dx k dn dne he' hn => hq h' t' t1 dx _ k dn dne he' hn fun z => ?_
    show RelO (List.lookup z [(fld, _)]) _
    rw [lookup_put]
    by_cases q : z = fld
    · rw [if_pos q, if_pos q]; exact r
    · rw [if_neg q, if_neg q]; exact True.intro
theorem sx_goK2 {pl : Sem Bool} {x y f1 f2 : Str} {p0 p1 p2 p3 p4 p5 p6 p7 p8 p9 q3 q6 q7 q8 q9 : Pos} (S : SxK prog K C f cc cda qual params (sxB2 x y f1 f2 p0 p1 p2 p3 p4 p5 p6 p7 p8 p9 q3 q6 q7 q8 q9) scope) (Z : SxS scope [x, y]) (hxy : x ≠ y) (hf12 : f2 ≠ f1) (V : SxE qual scope f cc cda pl (.Name x p3) [.Name y q3] p0 p1 p2 p4 p5)
    (V1 : SxW qual scope f cc cda x f1 p6 p7 p8 p9) (V2 : SxW qual scope f cc cda y f2 q6 q7 q8 q9) (hno : PySem.W.findIn K (.ref C) f1 = some none) (hno2 : PySem.W.findIn K (.ref C) f2 = some none) (hmg : mg "super" = none)
    (hb : ∀ fd, (∃ oc od osl, K.lookup f = some ⟨oc, od, .func fd, osl⟩) → ∀ (s : Shared) (e u v : Value), BindsTo s fd ⟨[e], [(y, v), (x, u)]⟩ [("self", e), (x, u), (y, v)]) : SxRunK prog w K mg C f [y, x] (fl2r f1 f2) := by
  intro A h g d t os e t0 us vs R mb X nG nB hmb lim room he hKe hl rv hq
  match us, hl, rv with
  | [v, u], _, .cons r2 (.cons r .nil) =>
    refine sx_run2 S Z hxy hf12 V V1 V2 hno hno2 X nG hmg nB hmb lim room he hKe (fun fd hfd => hb fd hfd _ _ _ _) fun h' t' t1 dx k dn dne he' hn => hq h' t' t1 dx _ k dn dne he' hn fun z => ?_
    show RelO (List.lookup z [(f1, _), (f2, _)]) _
    rw [lookup_put, lookup_put]
    by_cases q1 : z = f1
    · have q : ¬ z = f2 := fun z2 => hf12 (z2.symm.trans q1)
      rw [if_pos q1, if_neg q, if_pos q1]; exact r
    · by_cases q : z = f2
      · rw [if_neg q1, if_pos q, if_pos q]; exact r2
      · rw [if_neg q1, if_neg q, if_neg q, if_neg q1]; exact True.intro
end
theorem pe_sxK {X : Cx} {kws : List Keyword} {ta : TA} {x : Str} {p pos : Pos} {C fI : Addr} {k : Nat} {ks : List Str} {fl : List V → List (Str × V)} (T : OexC X.K C) (iC : PySem.W.findIn X.K (.ref C) "__init__" = some (some (.ref fI))) (tI : PySem.W.typeIn X.K (.ref fI) = some (.type "function"))
    (G : SxRunK X.prog X.w X.K X.mg C fI ks fl) (hr : Rm (k + 1) X.A) (hm : X.mg x = some (.ref C)) (hkw : L2.PK X kws ta) (hg : Gl X x := by rfl)
    (hdb : (x == ("__debug__" : Str)) = false := by decide) (hall : (backToKw pos (keywordEach kws X.env)).all (·.1.isSome) = true := by rfl) (hks : (backToKw pos (keywordEach kws X.env)).filterMap (·.1) = ks := by rfl)
    (hpl : ((backTo pos (starEach [] X.env)).any (·.1) || (backToKw pos (keywordEach kws X.env)).any (·.1.isNone)) = false := by rfl) :
    PE X (.Call (.Name x p) [] kws pos) (tErr C ks.length fl ta) := by
  refine ⟨fun pins s σ H Q I h => ?_⟩
  obtain ⟨nm, q, N, bs, bm, sn, sub, ab, col, dd, k0, k1, k2, k3, k5, hC, hbm⟩ := T.cls
  refine wpAny_Call_Name_kw (ld_glob I hg hm ?_ hdb)
  refine PySem.W.callWith_KW0 (h₀ := X.base) I.ok.mod.kin T.kC hall ?_ hpl
  refine thn (hkw.run pos pins s σ H _ I h) fun us s1 ⟨vs, H1, I1, r1, hz, q1⟩ => ⟨I1.kIn, ?_⟩
  rw [hks]
  obtain ⟨hp, g, dr, tk, os⟩ := s1
  have hsz : hp.objs.size ≤ hp.objs.size + 1 := Nat.le_succ _
  have hn : H1 (hp.objs.size + 1) = none := I1.hok.fresh hsz
  have kk : ∀ b o, hp.get? b = some o → ((hp.push (PySem.W.kdv_tup [])).push (PySem.HandSPX.excO C hp.objs.size)).get? b = some o := fun b o e => Heap.get?_push_of_some _ (Heap.get?_push_of_some _ e)
  have hget : ((hp.push (PySem.W.kdv_tup [])).push (PySem.HandSPX.excO C hp.objs.size)).get? (hp.objs.size + 1) = some (PySem.HandSPX.excO C hp.objs.size) := by heap_get
  have I2 : Inv X pins σ (upd H1 (hp.objs.size + 1) (exo (hp.objs.size + 1) C none)) ⟨(hp.push (PySem.W.kdv_tup [])).push (PySem.HandSPX.excO C hp.objs.size), g, dr, tk, os⟩ :=
    I1.laid (t' := tk) (a := hp.objs.size + 1) (o := exo (hp.objs.size + 1) C none) (h' := (hp.push (PySem.W.kdv_tup [])).push (PySem.HandSPX.excO C hp.objs.size)) kk hsz (exo_ok hget)
  have hul : us.length = ks.length := r1.length.symm.trans hz
  have e0 := I2.env0
  obtain ⟨mb, nB, isB⟩ := e0.mod.blt
  have kb : ∀ {b : Addr} {m : Str → Option Value}, X.base.Ns b m → ((hp.push (PySem.W.kdv_tup [])).push (PySem.HandSPX.excO C hp.objs.size)).Ns b m := fun nn => by
    obtain ⟨o, es, ep, z1, z2⟩ := nn
    exact ⟨o, es, ep, (e0.bs _ _ z1).1, z2⟩
  have hKe : X.K.lookup (hp.objs.size + 1) = none := by
    cases z : X.K.lookup (hp.objs.size + 1) with
    | none => rfl
    | some o =>
      have := Heap.lt_size (I1.kIn _ _ z)
      exact (Nat.lt_irrefl _ (Nat.lt_of_lt_of_le this hsz)).elim
  have hroom := (hr.make C [] (ks.zip us)).room.depth
  refine wpAny_call (PySem.HandSPX.xk_call F.excBase_ValueError (fun Y => PySem.HandSPX.refsVE_contains Y bm hbm) (I1.kIn _ _ hC) (PySem.W.looks_findIn I1.kIn iC) (fun self => PySem.W.bind_fn I1.kIn self tI)
    (G _ _ _ _ _ _ (hp.objs.size + 1) hp.objs.size us vs _ mb I2.kIn (kb e0.mod.glob) (kb nB) ((isB _ (by decide +kernel)).trans (by decide +kernel)) (e0.mod.nolimit.keeps fun b o z => (e0.bs b o z).1) hroom hget hKe hul r1 fun h' t' t1 dx mA kq dn dne he' hns rel => ?_))
  have dn2 : hp.objs.size + 1 + 1 ≤ dx := by rw [Heap.size_push, Heap.size_push] at dn; exact dn
  have dn1 : hp.objs.size ≤ dx := Nat.le_trans (Nat.le_add_right _ 2) dn2
  have hd1 : H1 dx = none := I1.hok.fresh dn1
  have nha : ∀ {b : Addr} {o : Obj}, hp.get? b = some o → b ≠ hp.objs.size + 1 := fun {b o} z => Nat.ne_of_lt (Nat.lt_of_lt_of_le (Heap.lt_size z) hsz)
  have nhd : ∀ {b : Addr} {o : Obj}, hp.get? b = some o → b ≠ dx := fun {b o} z => Nat.ne_of_lt (Nat.lt_of_lt_of_le (Heap.lt_size z) dn1)
  have n1 : ∀ {b : Addr} {u : HO}, H1 b = some u → b ≠ hp.objs.size + 1 := fun z => ne_of_none z hn
  have n2 : ∀ {b : Addr} {u : HO}, H1 b = some u → b ≠ dx := fun z => ne_of_none z hd1
  have un : Un (frs X.stack) [] H1 (upd (upd H1 dx (.xd (fl vs))) (hp.objs.size + 1) (xo (hp.objs.size + 1) (.ref C) (some dx))) hp h' := {
    keep := fun b o q n _ _ => kq b o (nha q) (kk b o q)
    slot := fun b o q n _ _ => ⟨o.slots, kq b o (nha q) (kk b o q)⟩
    free := fun b o q n _ => by rw [upd_ne (nha q), upd_ne (nhd q)]; exact n
    there := fun b o q _ => ⟨o, kq b o (nha q) (kk b o q)⟩
    tups := fun b xs q => by rw [upd_ne (n1 q), upd_ne (n2 q)]; exact q
    frzs := fun b o v q => by rw [upd_ne (n1 q), upd_ne (n2 q)]; exact q
    tbls := fun b ps q => ⟨#[], by rw [upd_ne (n1 q), upd_ne (n2 q), q]; simp⟩ }
  have hok : HOk X.prog X.w (upd (upd H1 dx (.xd (fl vs))) (hp.objs.size + 1) (xo (hp.objs.size + 1) (.ref C) (some dx))) h' := fun b o q => by
    by_cases hb : b = hp.objs.size + 1
    · subst hb
      rw [upd_same] at q
      cases q
      exact xo_ok he' ⟨rfl, rfl⟩ rfl
    · rw [upd_ne hb] at q
      by_cases hd : b = dx
      · subst hd
        rw [upd_same] at q
        cases q
        exact ⟨mA, hns, rel⟩
      · rw [upd_ne hd] at q
        exact (I1.hok b o q).stay (fun c v hc z => kq c v (nha z) (kk c v z)) (fun c hc => by rw [upd_ne (n1 hc), upd_ne (n2 hc)]; exact hc) (fun c xs hc => by rw [upd_ne (n1 hc), upd_ne (n2 hc)]; exact hc)
  have J : Inv X pins σ (upd (upd H1 dx (.xd (fl vs))) (hp.objs.size + 1) (xo (hp.objs.size + 1) (.ref C) (some dx))) ⟨h', g, dr, t', os⟩ := I1.call' (ch := []) rfl un hok I1.bare (fun b z => nomatch z)
  exact ⟨rfl, ⟨.ref (hp.objs.size + 1), _, J, rfl, q1 _ dx hn hd1 dne⟩⟩
/-- an own error, made with the keywords ks -/
structure ErK (P : Program) (w : World) (K : PySem.W.Frag) (mg : Str → Option Value) (CL : Nat → Addr) (x : Str) (C : Nat) (ff ks : List Str) (p : List Nat) : Prop where
  h : ∃ (fI : Addr) (fl : List V → List (Str × V)), mg x = some (.ref (CL C)) ∧ OexC K (CL C) ∧ PySem.W.findIn K (.ref (CL C)) "__init__" = some (some (.ref fI)) ∧ PySem.W.typeIn K (.ref fI) = some (.type "function") ∧ SxRunK P w K mg (CL C) fI ks fl ∧ ∀ vs : List V, vs.length = ks.length → fl vs = ff.zip (pick p vs) ∧ (pick p vs).length = ff.length
section
variable {X : Cx} {B : Bd} {CL : Nat → Addr} {k C : Nat} {ff ks : List Str} {x : Str} {kws : List Keyword} {fa : FA} {p pos : Pos}
theorem se_errK (m : Nat) (pm : List Nat) (h : ErK X.prog X.w X.K X.mg CL x C ff ks pm) (hm0 : ks.length = m) (hr : Rm (k + 1) X.A) (hcl : B.g.cl = CL) (hkw : L2.PK X kws (tL B X.K fa)) (hg : Gl X x := by rfl)
    (hdb : (x == ("__debug__" : Str)) = false := by decide) (hall : (backToKw pos (keywordEach kws X.env)).all (·.1.isSome) = true := by rfl) (hks : (backToKw pos (keywordEach kws X.env)).filterMap (·.1) = ks := by rfl)
    (hpl : ((backTo pos (starEach [] X.env)).any (·.1) || (backToKw pos (keywordEach kws X.env)).any (·.1.isNone)) = false := by rfl) :
    PE X (.Call (.Name x p) [] kws pos) (tM B X.K (eErr C ff (aPick m pm fa))) := by
  subst hm0
  obtain ⟨fI, fl, h1, h2, h3, h4, h5, h7⟩ := h.h
  refine PEimp (pe_sxK h2 h3 h4 h5 hr h1 hkw hg hdb hall hks hpl) fun σ H Q ⟨ρ, μ, W, b, R, w⟩ => ⟨ρ, μ, W, b, R, (T.All.bind (T.All.bind w)).mono fun q n1 w1 vs W1 H1 k1 R1 r1 => ?_⟩
  by_cases hl : q.1.length = ks.length
  · rw [if_pos hl] at w1
    obtain ⟨ds, ed, w2⟩ := T.All.ofO (T.All.bind w1)
    have hvl : vs.length = ks.length := r1.length.trans hl
    have r2 := ts_rv (r1.pick pm) ed
    by_cases hl2 : ds.length = ff.length
    · rw [if_pos hl2] at w2
      refine ⟨hvl, fun a d hna hd hne => ?_⟩
      have s1 : Same H1 (upd H1 d (.xd (fl vs))) := same_new hd
      have ha2 : upd H1 d (.xd (fl vs)) a = none := by rw [upd_ne (Ne.symm hne)]; exact hna
      have sm : Same H1 (upd (upd H1 d (.xd (fl vs))) a (xo a (.ref (CL C)) (some d))) := fun y u z => same_new ha2 y u (s1 y u z)
      have hdat : upd (upd H1 d (.xd (fl vs))) a (xo a (.ref (CL C)) (some d)) d = some (.xd (ff.zip (pick pm vs))) := by rw [upd_ne hne, upd_same, (h7 vs hvl).1]
      exact w2 _ W1 _ (k1.trans (.same sm)) (R1.same sm) (.t (.err ⟨by rw [hcl, upd_same], hdat, (h7 vs hvl).2.symm⟩ (notO R1.st.there hna) (notO R1.st.there hd) (r2.same sm)))
    · rw [if_neg hl2] at w2; exact w2.elim
  · rw [if_neg hl] at w1; exact w1.elim
end
theorem fl1_pick {f1 : Str} (vs : List V) (h : vs.length = 1) : fl1 f1 vs = [f1].zip (pick [0] vs) ∧ (pick [0] vs).length = 1 := by
  match vs, h with
  | [a], _ => exact ⟨rfl, rfl⟩
theorem fl2r_pick {f1 f2 : Str} (vs : List V) (h : vs.length = 2) : fl2r f1 f2 vs = [f1, f2].zip (pick [1, 0] vs) ∧ (pick [1, 0] vs).length = 2 := by
  match vs, h with
  | [a, b], _ => exact ⟨rfl, rfl⟩
section
variable {P : Program} {w : World} {K : PySem.W.Frag} {mg : Str → Option Value} {CL : Nat → Addr} {x : Str} {C : Nat} {f cc cda : Addr} {qual : Str} {params : Arguments} {scope : Scope} {pl : Sem Bool}
    {nm q : Str} {N : Addr} {bs bm sub : List Value} {sn : List Str} {ab : Bool} {col : Option Bool} {dd : Option Addr} {k0 k1 k2 k3 k5 : Option Value} {oc kV doc pm ct : Value} {od an : Option Addr} {osl : Array (Option Value)} {ccl : Value} {cdd : Option Addr} {vs : Array Value} {ccs : Array (Option Value)} {file : Str} {tf : Tok} {cl : Value} {cld : Option Addr} {csl : Array (Option Value)}
/-- an own error of one parameter: made by place, by keyword -/
theorem er1 {par fld : Str} {p0 p1 p2 p3 p4 p5 p6 p7 p8 p9 : Pos}
    (hm : mg x = some (.ref (CL C))) (hB : errB K (CL C) f fld = true) (hC : K.lookup (CL C) = some (PySem.excClassObj nm q (CL C) N bs bm true sn sub ab col dd k0 k1 k2 k3 k5 "ValueError.__new__")) (hbm : PySem.HandSPX.refsVE bm = true)
    (hf : K.lookup f = some ⟨oc, od, .func (PySem.W.ksFn "__init__" qual params (sxB1 par fld p0 p1 p2 p3 p4 p5 p6 p7 p8 p9) scope .none kV doc pm an (.ref cda) ct cc), osl⟩) (hcd : PySem.W.codeIn K (.ref cda) qual = true)
    (hcda : K.lookup cda = some ⟨ccl, cdd, .fields vs, ccs⟩) (hfile : vs[2]? = some (.str file tf)) (hmain : ((P.main.file : Str) == file) = true) (hcell : K.lookup cc = some ⟨cl, cld, .cell (some (.ref (CL C))), csl⟩)
    (hsup : (P.main.scope.names.lookup ("super" : Str)).isSome = false) (hms : mg "super" = none)
    (harg : ∃ ar, (params.posonlyargs ++ params.args).head? = some ar ∧ ar.arg = "self") (ks : scope.names.lookup ("super" : Str) = some .globalImplicit) (kc : scope.names.lookup ("__class__" : Str) = some .free) (k0' : scope.names.lookup ("self" : Str) = some .local) (kf : scope.kind = .function)
    (Z : SxS scope [par]) (V : SxE qual scope f cc cda pl (.Name par p3) [] p0 p1 p2 p4 p5) (V1 : SxW qual scope f cc cda par fld p6 p7 p8 p9)
    (hb : Binds K (PySem.W.ksFn "__init__" qual params (sxB1 par fld p0 p1 p2 p3 p4 p5 p6 p7 p8 p9) scope .none kV doc pm an (.ref cda) ct cc) ["self", par] [])
    (hbk : ∀ (s : Shared) (e u : Value), BindsTo s (PySem.W.ksFn "__init__" qual params (sxB1 par fld p0 p1 p2 p3 p4 p5 p6 p7 p8 p9) scope .none kV doc pm an (.ref cda) ct cc) ⟨[e], [(par, u)]⟩ [("self", e), (par, u)]) : Er P w K mg CL x C [fld] ∧ ErK P w K mg CL x C [fld] [par] [0] := by
  unfold errB at hB
  simp only [Bool.and_eq_true, decide_eq_true_eq] at hB
  obtain ⟨b1, b2, b3, b4, b5, b6, b7, b8, b9, b10, b11⟩ := hB
  have hcls : ∃ nm q N bs bm sn sub ab col dd k0 k1 k2 k3 k5, K.lookup (CL C) = some (PySem.excClassObj nm q (CL C) N bs bm true sn sub ab col dd k0 k1 k2 k3 k5 "ValueError.__new__") ∧ PySem.HandSPX.refsVE bm = true := ⟨_, _, _, _, _, _, _, _, _, _, _, _, _, _, _, hC, hbm⟩
  have S : SxK P K (CL C) f cc cda qual params (sxB1 par fld p0 p1 p2 p3 p4 p5 p6 p7 p8 p9) scope := ⟨hcls, ⟨_, _, _, _, _, _, _, _, _, hf⟩, hcd, ⟨_, _, _, _, _, _, hcda, hfile, hmain⟩, ⟨_, _, _, hcell⟩, b1, b2, b3, b4, b5, hsup, harg, ks, kc, k0', kf⟩
  refine ⟨⟨f, fl1 fld, hm, ⟨hcls, b5, b6, b7, b8⟩, b10, b9, sx_go1 S Z V V1 b11 hms fun fd ⟨oc', od', osl', h'⟩ => ?_, (by show 1 ≤ 1000; decide), fun vs hvs => fl1_zip vs hvs⟩,
    ⟨f, fl1 fld, hm, ⟨hcls, b5, b6, b7, b8⟩, b10, b9, sx_goK1 S Z V V1 b11 hms fun fd ⟨oc', od', osl', h'⟩ => ?_, fun vs hvs => fl1_pick vs hvs⟩⟩
  · rw [hf] at h'; cases h'; exact hb
  · rw [hf] at h'; cases h'; exact hbk
def errB2 (K : PySem.W.Frag) (C f : Addr) (f1 f2 : Str) : Bool := errB K C f f1 && decide (PySem.W.findIn K (.ref C) f2 = some none)
/-- .. of two parameters; the keywords the other way about -/
theorem er2 {par par2 f1 f2 : Str} {p0 p1 p2 p3 p4 p5 p6 p7 p8 p9 q3 q6 q7 q8 q9 : Pos}
    (hm : mg x = some (.ref (CL C))) (hB : errB2 K (CL C) f f1 f2 = true) (hC : K.lookup (CL C) = some (PySem.excClassObj nm q (CL C) N bs bm true sn sub ab col dd k0 k1 k2 k3 k5 "ValueError.__new__")) (hbm : PySem.HandSPX.refsVE bm = true)
    (hf : K.lookup f = some ⟨oc, od, .func (PySem.W.ksFn "__init__" qual params (sxB2 par par2 f1 f2 p0 p1 p2 p3 p4 p5 p6 p7 p8 p9 q3 q6 q7 q8 q9) scope .none kV doc pm an (.ref cda) ct cc), osl⟩) (hcd : PySem.W.codeIn K (.ref cda) qual = true)
    (hcda : K.lookup cda = some ⟨ccl, cdd, .fields vs, ccs⟩) (hfile : vs[2]? = some (.str file tf)) (hmain : ((P.main.file : Str) == file) = true) (hcell : K.lookup cc = some ⟨cl, cld, .cell (some (.ref (CL C))), csl⟩)
    (hsup : (P.main.scope.names.lookup ("super" : Str)).isSome = false) (hms : mg "super" = none)
    (harg : ∃ ar, (params.posonlyargs ++ params.args).head? = some ar ∧ ar.arg = "self") (ks : scope.names.lookup ("super" : Str) = some .globalImplicit) (kc : scope.names.lookup ("__class__" : Str) = some .free) (k0' : scope.names.lookup ("self" : Str) = some .local) (kf : scope.kind = .function)
    (Z : SxS scope [par, par2]) (hxy : par ≠ par2) (hf12 : f2 ≠ f1) (V : SxE qual scope f cc cda pl (.Name par p3) [.Name par2 q3] p0 p1 p2 p4 p5) (V1 : SxW qual scope f cc cda par f1 p6 p7 p8 p9) (V2 : SxW qual scope f cc cda par2 f2 q6 q7 q8 q9)
    (hb : Binds K (PySem.W.ksFn "__init__" qual params (sxB2 par par2 f1 f2 p0 p1 p2 p3 p4 p5 p6 p7 p8 p9 q3 q6 q7 q8 q9) scope .none kV doc pm an (.ref cda) ct cc) ["self", par, par2] [])
    (hbk : ∀ (s : Shared) (e u v : Value), BindsTo s (PySem.W.ksFn "__init__" qual params (sxB2 par par2 f1 f2 p0 p1 p2 p3 p4 p5 p6 p7 p8 p9 q3 q6 q7 q8 q9) scope .none kV doc pm an (.ref cda) ct cc) ⟨[e], [(par2, v), (par, u)]⟩ [("self", e), (par, u), (par2, v)]) :
    Er P w K mg CL x C [f1, f2] ∧ ErK P w K mg CL x C [f1, f2] [par2, par] [1, 0] := by
  unfold errB2 errB at hB
  simp only [Bool.and_eq_true, decide_eq_true_eq] at hB
  obtain ⟨⟨b1, b2, b3, b4, b5, b6, b7, b8, b9, b10, b11⟩, b12⟩ := hB
  have hcls : ∃ nm q N bs bm sn sub ab col dd k0 k1 k2 k3 k5, K.lookup (CL C) = some (PySem.excClassObj nm q (CL C) N bs bm true sn sub ab col dd k0 k1 k2 k3 k5 "ValueError.__new__") ∧ PySem.HandSPX.refsVE bm = true := ⟨_, _, _, _, _, _, _, _, _, _, _, _, _, _, _, hC, hbm⟩
  have S : SxK P K (CL C) f cc cda qual params (sxB2 par par2 f1 f2 p0 p1 p2 p3 p4 p5 p6 p7 p8 p9 q3 q6 q7 q8 q9) scope := ⟨hcls, ⟨_, _, _, _, _, _, _, _, _, hf⟩, hcd, ⟨_, _, _, _, _, _, hcda, hfile, hmain⟩, ⟨_, _, _, hcell⟩, b1, b2, b3, b4, b5, hsup, harg, ks, kc, k0', kf⟩
  refine ⟨⟨f, fl2 f1 f2, hm, ⟨hcls, b5, b6, b7, b8⟩, b10, b9, sx_go2 S Z hxy hf12 V V1 V2 b11 b12 hms fun fd ⟨oc', od', osl', h'⟩ => ?_, (by show 2 ≤ 1000; decide), fun vs hvs => fl2_zip vs hvs⟩,
    ⟨f, fl2r f1 f2, hm, ⟨hcls, b5, b6, b7, b8⟩, b10, b9, sx_goK2 S Z hxy hf12 V V1 V2 b11 b12 hms fun fd ⟨oc', od', osl', h'⟩ => ?_, fun vs hvs => fl2r_pick vs hvs⟩⟩
  · rw [hf] at h'; cases h'; exact hb
  · rw [hf] at h'; cases h'; exact hbk
end
end Y

set_option Elab.async false
set_option linter.all false
set_option maxRecDepth 100000
set_option maxHeartbeats 2000000
/-! Y76: bool(x) of an own instance; a, b = a list; isinstance(an own error, ValueError). -/
namespace Y
open PySem PySem.Spec PyProof.Rows L2
theorem Rm.in2 {k : Nat} {A : Around} (r : Rm (k + 1) A) : Rm k A.in1.in1 :=
  ⟨⟨r.room.hd, by have := r.room.dp; show A.depth + 3 * k + 5 < _; omega, by have := r.room.un; show A.units + 1 + 1 + 16 * k + 200 < _; omega⟩, r.gd⟩
/-- bool(x), x an own instance -/
theorem call_boolO {X : Cx} {k : Nat} {C f : Addr} {fd : FuncData} {ps : List Str} {sp : Sp} {E : XK} (hs : PySem.W.findIn X.K (.ref C) "__bool__" = some (some (.ref f))) (hf : PySem.W.isFn X.K (.ref f) = true) (F : FnG X.prog X.w X.K X.mg X.base k f fd ps sp) (hr : Rm (k + 1) X.A) (hb : Binds X.K fd ps [])
    (hx : Passes (L2.CX X.prog X.w) X E) : CallR X (.type "bool") (fun xs H Q => ∃ x, xs = [x] ∧ rTruB C sp E x H fun b H' => Q (.bl b) H') := by
  intro pins s σ H xs us Q I r hq
  obtain ⟨x, rfl, a, dx, fs, rfl, ea, q⟩ := hq
  obtain rfl := Vals.ref1 r
  obtain ⟨mA, J, _⟩ := ins_get I.hok ea
  obtain ⟨od, J, _⟩ := J.look
  obtain ⟨m, hF⟩ := I.fr
  have tru : ∀ {Q' : Bool → Shared → Prop}, (∀ b H' s', Inv X pins σ H' s' → Q (.bl b) H' → Q' b s') → wpAny (model X.prog X.w) X.A.in1.in1 (truthy (.ref a)) Q' X.xe s := fun {Q'} h => by
    refine PySem.W.truthy_K hF I.ok.mod.kin J hs hf ?_
    have hb2 := hb s [.ref a] I.kIn (by
      have := F.len _ _ _ _ q
      rw [List.append_nil]; exact this)
    rw [List.append_nil] at hb2
    refine wpAny_call (codeAny_mono (F.run X.A.in1.in1 X.stack s H ⟨[.ref a], []⟩ [.ref a] [.ref a] _ E hr.in2 I.env0.in1.in1 hb2 (.cons rfl .nil) q) fun res s' got => ?_)
    match res, got with
    | .error e, got => exact hx pins σ H s e s' I got
    | .ok (.ret u), got =>
      obtain ⟨v, H', I', rv, b, ev, qv⟩ := I.after got
      subst ev
      obtain rfl : u = Value.bool b := rv
      exact h b H' s' I' qv
    | .ok .next, got => exact got.elim
    | .ok .brk, got => exact got.elim
    | .ok .cont, got => exact got.elim
  refine PySem.ks_callType_codesW (Q₁ := fun obj s₁ => ∃ b H', obj = .bool b ∧ Inv X pins σ H' s₁ ∧ Q (.bl b) H') PySem.F.called_bool (fun hq => wpAny_of_eq (PySem.F.typeCall_bool_1 _) hq) PySem.F.entry_object_init (codeAny_call_builtin PySem.F.called_bool.plain PySem.F.entry_bool_new (wpAny_of_eq (PySem.F.newCall_bool_1 _) ?_)) fun obj s₁ h₁ => ?_
  · obtain ⟨hp, g, d, tk, os⟩ := s
    have f1 := PySem.F.conv_sub_bool
    unfold PySem.Builtin.«bool.__new__»
    repeat (any_goals (first | assumption | (with_reducible refine tru fun b H' s' I' q' => ?_) | wp_step))
    all_goals first | exact ⟨_, _, rfl, I', q'⟩ | skip
  · obtain ⟨b, H', rfl, I', q'⟩ := h₁
    refine ⟨rfl, PySem.F.args_object_init_2 _ _, ?_⟩
    refine PySem.object_init_meets PySem.F.called_bool.init.lookup PySem.F.called_bool.made PySem.F.newNe_bool X.prog X.w X.A.in1 _ s₁ ⟨rfl, ?_⟩
    exact ⟨rfl, .bl b, H', I', rfl, q'⟩
def eBoolO (C : Nat) (F : List Vd → Mu → T (Vd × Mu)) (fo : FE) : FE := fun ρ μ => (fo ρ μ).bind fun o => if instOf C "__bool__" o.2 o.1 then (F [o.1] o.2).bind fun p => (T.ofO (blOf p.1)).bind fun b => .ret (.t (.bl b), p.2) else .bad
section
variable {X : Cx} {B : Bd} {CL : Nat → Addr} {k j C : Nat} {F : List Vd → Mu → T (Vd × Mu)} {a : Expr} {fo : FE} {p pos : Pos}
theorem se_boolO (h : BoK X.prog X.w X.K X.mg X.base CL j C F) (hr : Rm k X.A) (hj : j + 1 ≤ k) (hx : Lets X B) (hcl : B.g.cl = CL) (hm : X.mg "bool" = none) (ha : PE X a (tM B X.K fo)) (hg : Gl X "bool" := by rfl)
    (he : starEach (a :: []) X.env = (false, eval a X.env) :: starEach [] X.env := by rfl) (hpl : (backTo pos (starEach [] X.env)).any (·.1) = false := by rfl) : PE X (.Call (.Name "bool" p) [a] [] pos) (tM B X.K (eBoolO C F fo)) := by
  obtain ⟨f, fd, ps, h1, h2, h3, h4⟩ := h.h
  obtain ⟨E, hp, hE⟩ := hx
  refine PEimp (pe_callTy (call_boolO h1 h2 h4 (hr.mono hj) h3 hp) hg hm bt_bool (pa_cons ha pa_nil he) (by decide) (by decide) he hpl) fun σ H Q q => ?_
  obtain ⟨ρ, μ, W, n, R, w⟩ := q
  refine ⟨ρ, μ, W, n, R, (T.All.bind w).mono fun o n1 w1 v1 W1 H1 k1 R1 r1 => ?_⟩
  by_cases hi : instOf C "__bool__" o.2 o.1 = true
  · rw [if_pos hi] at w1
    obtain ⟨a, dx, fs, rfl, g1, _⟩ := inst_ok hcl R1.st r1 hi
    refine ⟨_, rfl, a, dx, fs, rfl, g1, rfl, B.g, W1, o.2, n1, [o.1], hcl, R1.st, .cons r1 .nil, T.All.mono2 (T.All.bind w1) (fun q b' hq v W' H' ex st mo rv => ?_) fun C fs es b' y d H' pk ex => hE C fs es b' d H' y (R1.outS pk) (R1.exat ex)⟩
    have R2 := R1.go ex st fun a h => mo a (R1.mono a h)
    obtain ⟨b, eb, hq⟩ := T.All.ofO (T.All.bind hq)
    exact ⟨b, blV rv eb, hq _ W' H' (k1.trans ex) R2 (.t (.bl b))⟩
  · rw [if_neg hi] at w1; exact w1.elim
end
/-! a, b = a list -/
def sUnl (is : List Nat) (fe : FE) : FS := fun ρ μ => (fe ρ μ).bind fun p => match p.1 with
  | .t (.lst ds) => (T.ofO (putN is ds ρ)).bind fun ρ' => .ret (.nx ρ' p.2)
  | _ => .bad
section
variable {X : Cx} {B : Bd} {es : List Expr} {is : List Nat} {e : Expr} {fe : FE} {pos p2 : Pos} {kk : Nat}
theorem ss_unl (hc : X.calm = true) (he : PE X e (tM B X.K fe)) (h : PGs X es (gsOf is)) (hn : (assignEach es X.env).length = is.length := by rfl) (hst : (assignEach es X.env).findIdx? (·.1) = none := by rfl)
    (hs : swapsWithSole [.Tuple es kk p2] e pos.line X.env = pure false := by rfl) (hw : swappedStores [.Tuple es kk p2] e X.env = pure none := by rfl) : PS X (.Assign [.Tuple es kk p2] e pos) (tS B X.K (sUnl is fe)) :=
  PSimp (ps_asg he (pg_unl (n := is.length) hc h hn hst) hs hw) fun Dn σ H ⟨ρ, μ, W, b, R, w⟩ => ⟨ρ, μ, W, b, R, (T.All.bind w).mono fun p b1 w1 v W1 H1 k1 R1 rv => by
    obtain ⟨x, μ1⟩ := p
    match x, w1, rv with
    | .t (.lst ds), w1, rv =>
      cases rv with
      | t rv =>
      cases rv with
      | @lst a vs ds hl rs =>
      obtain ⟨ρ', ep, w2⟩ := T.All.ofO (T.All.bind w1)
      exact ⟨a, vs, rfl, hl.sq, rs.length.trans (gsLen (Q := fun _ _ => True) ep), putN_ok R1 rs ep fun R2 => w2 _ _ W1 k1 R2⟩⟩
end
/-! isinstance(an own error, ValueError) -/
def eIsVE (cs : List Nat) (fe : FE) : FE := fun ρ μ => (fe ρ μ).bind fun p => match p.1 with
  | .t (.err C _ _) => if C ∈ cs then .ret (.t (.bl true), p.2) else .bad
  | _ => .bad
def IsVE (K : PySem.W.Frag) (CL : Nat → Addr) (cs : List Nat) : Prop := ∀ C ∈ cs, ExcC K (CL C) ∧ PySem.W.kitOne K (.ref (CL C)) (.type "ValueError") = some true
theorem bt_VE : bootBuiltins "ValueError" = some (.type "ValueError") := by decide +kernel
section
variable {X : Cx} {B : Bd} {CL : Nat → Addr} {cs : List Nat} {e : Expr} {fe : FE} {p p2 pos : Pos}
theorem se_isVE (I : IsVE X.K CL cs) (hcl : B.g.cl = CL) (hm : X.mg "isinstance" = none) (hv : X.mg "ValueError" = none) (ha : PE X e (tM B X.K fe)) (hg : Gl X "isinstance" := by rfl) (hg2 : Gl X "ValueError" := by rfl)
    (he : starEach [e, .Name "ValueError" p2] X.env = (false, eval e X.env) :: starEach [.Name "ValueError" p2] X.env := by rfl) (he2 : starEach [.Name "ValueError" p2] X.env = (false, eval (.Name "ValueError" p2) X.env) :: starEach [] X.env := by rfl) (hpl : (backTo pos (starEach [.Name "ValueError" p2] X.env)).any (·.1) = false := by rfl) :
    PE X (.Call (.Name "isinstance" p) [e, .Name "ValueError" p2] [] pos) (tM B X.K (eIsVE cs fe)) :=
  PEimp (pe_callB (call_isX (X := X)) hg hm bt_isinstance (pa_cons ha (pa_cons (pe_bltn (v := .ty "ValueError") hg2 hv bt_VE rfl (by decide) (by decide)) pa_nil he2) he) (by decide) (by decide) he hpl) fun σ H Q ⟨ρ, μ, W, n, R, h⟩ => ⟨ρ, μ, W, n, R, (T.All.bind h).mono fun p n1 h1 v1 W1 H1 k1 R1 r1 => by
    obtain ⟨x, μ1⟩ := p
    match x, h1, r1 with
    | .t (.err C fs ds), h1, r1 =>
      cases r1 with
      | t r1 =>
      cases r1 with
      | @err a dd C fs vs ds x n1' n2' rs =>
      have h1 : T.All (if C ∈ cs then T.ret (Vd.t (.bl true), μ1) else .bad) n1 (fun p b' => ∀ v W' H', Ext B.g.pa W H W' H' → Rep B X.K ρ p.2 W' b' H' σ → RW B.g X.K W' H' v p.1 → Q v H') B.Y := h1
      by_cases hc : C ∈ cs
      · rw [if_pos hc] at h1
        obtain ⟨g1, g2⟩ := I C hc
        have x1 := x.at_
        rw [hcl] at x1
        exact ⟨a, _, dd, _, .ty "ValueError", _, true, rfl, x1, x.fl, g1, .ty _, g2, h1 _ W1 H1 k1 R1 (.t (.bl true))⟩
      · rw [if_neg hc] at h1; exact h1.elim⟩
end
def isveB (K : PySem.W.Frag) (CL : Nat → Addr) (cs : List Nat) : Bool := cs.all fun C => decide (PySem.W.kitOne K (.ref (CL C)) (.type "ValueError") = some true)
theorem isveB_ok {K : PySem.W.Frag} {CL : Nat → Addr} {cs : List Nat} {sup : Nat → Nat → Bool} (S : IsaX K CL cs sup) (h : isveB K CL cs = true) : IsVE K CL cs := fun C hC => ⟨S.ex C hC, of_decide_eq_true (List.all_eq_true.mp h C hC)⟩
theorem IsaK.sub {K : PySem.W.Frag} {CL : Nat → Addr} {cs cs' : List Nat} {sup : Nat → Nat → Bool} (S : IsaK K CL cs sup) (h : ∀ C ∈ cs', C ∈ cs) : IsaK K CL cs' sup :=
  ⟨fun t D hD => S.tc t D (h D hD), fun C hC D hD => S.cc C (h C hC) D (h D hD), fun C hC t => S.ct C (h C hC) t, fun C hC => S.cl C (h C hC), S.gs, S.tk⟩
end Y

set_option Elab.async false
set_option linter.all false
set_option maxRecDepth 100000
set_option maxHeartbeats 2000000
/-! Y77: an __init__ with a star parameter; what the written part says of super().__init__ by a test. -/
namespace Y
open PySem PySem.Spec PyProof.Rows L2 NdefX
theorem starS_imp {n : Nat} {F F' : List Vd → Mu → T (Vd × Mu)} (h : ∀ xs μ b P Y, (F xs μ).All b P Y → (F' xs μ).All b P Y) (xs : List Vd) (μ : Mu) (b : Nat) (P : Vd × Mu → Nat → Prop) (Y : XP) (q : (starS n F xs μ).All b P Y) : (starS n F' xs μ).All b P Y := by
  unfold starS at q ⊢
  by_cases hl : n ≤ xs.length
  · rw [if_pos hl] at q ⊢
    obtain ⟨ds, eds, q⟩ := T.All.ofO (T.All.bind q)
    rw [eds]
    show T.All (if ds.length ≤ lim then _ else _) b P Y
    by_cases hz : ds.length ≤ lim
    · rw [if_pos hz] at q ⊢; exact h _ _ _ _ _ q
    · rw [if_neg hz] at q; exact q.elim
  · rw [if_neg hl] at q; exact q.elim
theorem ends_star {n : Nat} {F : List Vd → Mu → T (Vd × Mu)} (h : EndsNon F) : EndsNon (starS n F) := fun xs μ b P Y q => by
  unfold starS at q ⊢
  by_cases hl : n ≤ xs.length
  · rw [if_pos hl] at q ⊢
    obtain ⟨ds, eds, q⟩ := T.All.ofO (T.All.bind q)
    rw [eds]
    show T.All (if ds.length ≤ lim then _ else _) b _ Y
    by_cases hz : ds.length ≤ lim
    · rw [if_pos hz] at q ⊢; exact h _ _ _ _ _ q
    · rw [if_neg hz] at q; exact q.elim
  · rw [if_neg hl] at q; exact q.elim
section
variable {P : Program} {w : World} {K : PySem.W.Frag} {mg : Str → Option Value} {base : Heap} {CL : Nat → Addr} {k m N n : Nat} {f : Addr} {fs : FS}
theorem fnQ_starI (G : FnQ P w K mg base k f (spQ CL K (starS m (fnS N n fs)))) : FnQ P w K mg base k f (spQ CL K (starS m (fnI N n fs))) := by
  intro A outer s H us vs Q E hr e0 r ⟨g, W, μ, b, xs, hcl, st, rv, hall⟩
  exact G A outer s H us vs Q E hr e0 r ⟨g, W, μ, b, xs, hcl, st, rv, starS_imp (fun _ _ _ _ _ z => fnI_S z) _ _ _ _ _ hall⟩
end
def suB (K : PySem.W.Frag) (C f2 : Addr) : Bool := (PySem.W.clsIn K C).isSome && (decide (PySem.W.mroIn K C (.ref C) = some true) && (decide (PySem.W.ks_superIn K C C "__init__" = some (some (.ref f2))) && (decide (PySem.W.typeIn K (.ref f2) = some (.type "function")) && (PySem.W.fnIn K f2 && decide (PySem.W.nsIn K cStatics "thirdparty.any" = some none)))))
theorem suK_mk {prog : Program} {K : PySem.W.Frag} {C f cc cda f2 : Addr} {qual : Str} {params : Arguments} {body : List Stmt} {scope : Scope} {oc dV kV doc pm ct : Value} {an od : Option Addr} {osl : Array (Option Value)} {ccl cl : Value} {cdd cld : Option Addr} {vs : Array Value} {ccs csl : Array (Option Value)} {file : Str} {tf : Tok}
    (h : suB K C f2 = true) (hf : K.lookup f = some ⟨oc, od, .func (PySem.W.ksFn "__init__" qual params body scope dV kV doc pm an (.ref cda) ct cc), osl⟩) (hcd : PySem.W.codeIn K (.ref cda) qual = true) (hcda : K.lookup cda = some ⟨ccl, cdd, .fields vs, ccs⟩) (hfile : vs[2]? = some (.str file tf)) (hmain : ((prog.main.file : Str) == file) = true)
    (hcell : K.lookup cc = some ⟨cl, cld, .cell (some (.ref C)), csl⟩) (hsup : (prog.main.scope.names.lookup ("super" : Str)).isSome = false)
    (harg : ∃ ar, (params.posonlyargs ++ params.args).head? = some ar ∧ ar.arg = "self") (ks : scope.names.lookup ("super" : Str) = some .globalImplicit) (kc : scope.names.lookup ("__class__" : Str) = some .free) (k0 : scope.names.lookup ("self" : Str) = some .local) (kf : scope.kind = .function) :
    SuK prog K C f cc cda f2 (PySem.W.ksFn "__init__" qual params body scope dV kV doc pm an (.ref cda) ct cc) qual params body scope := by
  unfold suB at h
  simp only [Bool.and_eq_true, decide_eq_true_eq] at h
  obtain ⟨h1, h2, h3, h4, h5, h6⟩ := h
  exact ⟨⟨_, _, _, _, _, _, _, _, _, rfl, hf⟩, hcd, ⟨_, _, _, _, _, _, hcda, hfile, hmain⟩, ⟨_, _, _, hcell⟩, Option.isSome_iff_exists.mp h1, h2, h3, h4, h5, h6, hsup, harg, ks, kc, k0, kf⟩
end Y

set_option Elab.async false
set_option linter.all false
set_option maxRecDepth 100000
set_option maxHeartbeats 2000000
/-! Y78: a loop whose turns are shown by trying. -/
namespace Y
open PySem PySem.Spec PyProof.Rows L2
theorem loop_pen {n m i : Nat} {body : FS} {Y : XP} (hb : ∀ (x : D) (ρ : Env') (μ : Mu), okPen n ρ = true → chk (goodFl n) m (body (ρ.set i (some (.t x))) μ) = true) :
    ∀ (xs : List D) (ρ : Env') (μ : Mu) (b : Nat), okPen n ρ = true → m * xs.length ≤ b → (loop (.one i) body xs ρ μ).All b (fun r _ => ∃ ρ2 μ2, r = .nx ρ2 μ2 ∧ okPen n ρ2 = true) Y
  | [], ρ, μ, b, h, _ => ⟨ρ, μ, rfl, h⟩
  | x :: xs, ρ, μ, b, h, l => by
    rw [List.length_cons, Nat.mul_succ] at l
    show T.All (T.bind (body (ρ.set i (some (.t x))) μ) _) b _ _
    refine T.All.of_bind ((chk_all (hb x ρ μ h) (by omega)).mono fun r b' ⟨q, l2⟩ => ?_)
    cases r with
    | nx ρ2 μ2 => exact loop_pen hb xs ρ2 μ2 b' q (by omega)
    | ct ρ2 μ2 => exact loop_pen hb xs ρ2 μ2 b' q (by omega)
    | bk _ _ => cases q
    | rt _ _ => cases q
section
variable {P : Program} {w : World} {K : PySem.W.Frag} {mg mb : Str → Option Value} {k : Nat} {fa a : Addr} {fd : FuncData} {x : Str} {sp : Sp} {s1 : Shared} {vals : List Value} {ns : List Int}
/-- from an abstract heap that knows the script alone, or nothing -/
theorem law_fromS (T : Hp) (kin : K.In s1.heap) (nsG : s1.heap.Ns mainGlobals mg) (nsB : s1.heap.Ns builtinsNs mb) (isB : ∀ y : Str, y ≠ "__name__" → mb y = bootBuiltins y) (nolim : s1.heap.NoLimit) (ngen : s1.gens = #[])
    (hscr : s1.heap.get? a = some { cls := .type "list", data := .seq vals.toArray }) (room : Rm k callerA) (sysm : ∃ mm, s1.heap.Ns sysModules mm) (F : ∀ base : Heap, K.In base → base.Ns mainGlobals mg → (∃ o, base.get? sysModules = some o) → FnG P w K mg base k fa fd [x] sp) (bnd : ∀ (s : Shared) (u : Value), BindsTo s fd ⟨[u], []⟩ [(x, u)])
    (only : Only T) (hok : HOk P w T s1.heap) (atA : ∀ b, T b ≠ none → b = a) (notK : T a ≠ none → K.lookup a = none) (prom : sp [.ref a] T (fun v _ => v = .bl true) fun _ _ _ => False) :
    codeAny (model P w) callerA (.call (.ref fa) ⟨[.ref a], []⟩) (fun r s' => r = .ok (.ret (.bool true)) ∧ OldK s1.heap s'.heap ∧ s'.os = s1.os ∧ AllBare s'.gens) s1 := by
  have bare : ∀ {b : Addr} {o : Obj}, s1.heap.get? b = some o → T b = none → (hidT s1.heap T).get? b = some o := fun h1 h2 => hidT_get h1 h2
  have away : ∀ {b : Addr} {o : Obj} {es : Array DictEntry} {ep : Nat}, s1.heap.get? b = some o → o.data = .dict es ep → T b = none := by
    intro b o es ep h1 h2
    cases hb : T b with
    | none => rfl
    | some u =>
      obtain rfl : b = a := atA b (by rw [hb]; exact fun z => nomatch z)
      rw [hscr] at h1
      cases h1
      exact nomatch (show Data.seq vals.toArray _ = Data.dict es ep from h2)
  have carry : ∀ {b : Addr} {m : Str → Option Value}, s1.heap.Ns b m → (hidT s1.heap T).Ns b m := fun {b m} hn => by
    obtain ⟨o, es, ep, h1, h2, h3⟩ := hn
    exact ⟨o, es, ep, bare h1 (away h1 h2), h2, h3⟩
  have kinB : K.In (hidT s1.heap T) := by
    intro b o hl
    refine bare (kin b o hl) ?_
    cases hb : T b with
    | none => rfl
    | some u =>
      obtain rfl : b = a := atA b (by rw [hb]; exact fun z => nomatch z)
      have := notK (by rw [hb]; exact fun z => nomatch z)
      rw [this] at hl
      cases hl
  have md : Mod K mg (hidT s1.heap T) := by
    obtain ⟨mc, l1, l2⟩ := nolim
    exact ⟨kinB, carry nsG, ⟨mb, carry nsB, isB⟩, ⟨mc, carry l1, l2⟩⟩
  have entry : Env0 P w K mg (hidT s1.heap T) callerA [] s1 T := ⟨rfl, md, fun _ _ => of_hidT, Nat.le_of_eq (hidT_size _ _), trivial, fun _ hb => (List.not_mem_nil hb).elim, hok, .of_eq ngen⟩
  obtain ⟨mm, nsM⟩ := sysm
  refine codeAny_mono ((F _ kinB (carry nsG) (by obtain ⟨o, _, _, h1, _⟩ := carry nsM; exact ⟨o, h1⟩)).run callerA [] s1 T ⟨[.ref a], []⟩ [.ref a] [.ref a] _ _ room entry (bnd s1 (.ref a)) (.cons rfl .nil) prom) fun res s' got => ?_
  match res, got with
  | .error e, got =>
    obtain ⟨_, _, _, _, _, _, _, _, _, _, _, _, z⟩ := got
    exact z.elim
  | .ok .next, got => exact got.elim
  | .ok .brk, got => exact got.elim
  | .ok .cont, got => exact got.elim
  | .ok (.ret u), got =>
    obtain ⟨v, T', eos, egens, un, hok', rv, ev⟩ := got
    replace ev : v = .bl true := ev
    subst ev
    obtain rfl : u = Value.bool true := rv
    refine ⟨rfl, OldK.of_keep fun b o h1 => ?_, eos, egens⟩
    rcases only b with hb | ⟨ob, xs, hb⟩
    · exact un.keep b o h1 hb (fun z => (List.not_mem_nil z).elim) (fun z => (List.not_mem_nil z).elim)
    · have g1 := (hok b _ hb).1
      have g2 := (hok' b _ (un.frzs b ob _ hb)).1
      rw [h1] at g1
      cases g1
      exact g2
theorem law_wholeS (kin : K.In s1.heap) (nsG : s1.heap.Ns mainGlobals mg) (nsB : s1.heap.Ns builtinsNs mb) (isB : ∀ y : Str, y ≠ "__name__" → mb y = bootBuiltins y) (nolim : s1.heap.NoLimit) (ngen : s1.gens = #[])
    (hscr : s1.heap.get? a = some { cls := .type "list", data := .seq vals.toArray }) (hnt : IntsAre vals ns) (few : ns.length ≤ sizeLine) (room : Rm k callerA) (sysm : ∃ mm, s1.heap.Ns sysModules mm) (F : ∀ base : Heap, K.In base → base.Ns mainGlobals mg → (∃ o, base.get? sysModules = some o) → FnG P w K mg base k fa fd [x] sp) (bnd : ∀ (s : Shared) (u : Value), BindsTo s fd ⟨[u], []⟩ [(x, u)])
    (prom : ∀ T : Hp, Only T → SqL K T a (ns.map V.int) → sp [.ref a] T (fun v _ => v = .bl true) fun _ _ _ => False) :
    codeAny (model P w) callerA (.call (.ref fa) ⟨[.ref a], []⟩) (fun r s' => r = .ok (.ret (.bool true)) ∧ OldK s1.heap s'.heap ∧ s'.os = s1.os ∧ AllBare s'.gens) s1 := by
  have vv := vals_ints hnt
  cases hk : K.lookup a with
  | some o =>
    have same := kin a o hk
    rw [hscr] at same
    cases same
    have none0 : Only (fun _ => none) := fun _ => .inl rfl
    refine law_fromS (fun _ => none) kin nsG nsB isB nolim ngen hscr room sysm F bnd none0 (fun b u z => nomatch z) (fun b z => (z rfl).elim) (fun z => (z rfl).elim) (prom _ none0 (.inr ⟨_, vals.toArray, _, hk, rfl, rfl, rfl, ?_, ?_⟩))
    · rw [List.size_toArray, hnt.length]; exact few
    · simpa using vv
  | none =>
    let T : Hp := fun b => if b = a then some (.frz { cls := .type "list", data := .seq vals.toArray } (.lst (ns.map V.int))) else none
    have hit : T a = some (.frz { cls := .type "list", data := .seq vals.toArray } (.lst (ns.map V.int))) := if_pos rfl
    have miss : ∀ {b}, b ≠ a → T b = none := fun h => if_neg h
    have only : Only T := fun b => by
      by_cases hb : b = a
      · subst hb; exact .inr ⟨_, _, hit⟩
      · exact .inl (miss hb)
    refine law_fromS T kin nsG nsB isB nolim ngen hscr room sysm F bnd only (fun b u z => ?_) (fun b z => ?_) (fun _ => hk) (prom T only (.inl (.inr ⟨_, hit⟩)))
    · by_cases hb : b = a
      · subst hb
        rw [hit] at z
        cases z
        exact ⟨hscr, by rw [List.length_map]; exact few, vals, _, vv, hscr⟩
      · rw [miss hb] at z; cases z
    · by_cases hb : b = a
      · exact hb
      · exact (z (miss hb)).elim
end
/-- what the head leaves to be shown -/
theorem walkS {l : PySem.W.OpenLaw} {n k : Nat} {q : Program} {loose : List Str} {XP : (Str → Option Value) → Heap → Prop} {YP : World → Heap → Prop} {d : DefRec} {K : Params → PySem.W.Frag} {sp : World → Sp} {x : Str}
    (hi : importsNone q = true) (hn : l.most = some n) (hn2 : n ≤ sizeLine) (hdf : d.params.defaults = []) (room : Rm k callerA) (hY : ∀ (w : World) (h : Heap), YP w h → (K w.params).In h)
    (F : ∀ (w : World) (mg : Str → Option Value) (fa : Addr) (h : Heap), (K w.params).In h → h.Ns mainGlobals mg → mg d.name = some (.ref fa) →
      ∃ fd : FuncData, (∀ (s : Shared) (u : Value), BindsTo s fd ⟨[u], []⟩ [(x, u)]) ∧ ∀ base : Heap, (K w.params).In base → base.Ns mainGlobals mg → (∃ o, base.get? sysModules = some o) → FnG l.prog w (K w.params) mg base k fa fd [x] (sp w))
    (prom : ∀ (w : World) (H : Hp) (a : Addr) (ns : List Int), ns.length ≤ n → Only H → SqL (K w.params) H a (ns.map V.int) → sp w [.ref a] H (fun v _ => v = .bl true) fun _ _ _ => False) :
    PySem.W.WalkO q loose XP YP l.row.toRowW d [] (fun f vs => PySem.call f vs) := by
  refine Att.attach_call hn hdf fun w s₀ s₁ mg mb fa o pm cd doc a vs ns G Y ho hd hcd hmg hobj hints hlen hg => ?_
  have kin := hY w _ Y
  obtain ⟨fd, hb, hF⟩ := F w mg fa _ kin G.T.g hmg
  exact law_wholeS kin G.T.g G.T.b G.T.builtins G.T.nolimit hg hobj hints (Nat.le_trans hlen hn2) room (let ⟨mm, h, _⟩ := (G.T.seer hi).mods; ⟨mm, h⟩) hF hb fun H hO hS => prom w H a ns hlen hO hS

end Y

set_option Elab.async false
set_option linter.all false
set_option maxRecDepth 100000
set_option maxHeartbeats 4000000
namespace V
open PySem PySem.Spec PyProof.Rows L2 Y
def top (i : Nat) : Stmt := PySem.Challenge.pw_wallorplot_k23_papers_and_errors.main.body.getD i (.Pass ⟨0, 0, 0, 0⟩)
section
variable {P : Program} {w : World} {K : PySem.W.Frag} {mg : Str → Option Value} {base : Heap} {CL : Nat → Addr}
abbrev s_law_draw : Stmt := top 20
theorem sc_law_draw : FnScope ["pen", "many", "rest", "turn", "cell", "mixed"] ["pen", "many"] (defScope s_law_draw) := ⟨rfl, rfl, rfl, by decide +kernel, rfl, by decide +kernel, by decide +kernel⟩
theorem ok_law_draw {f : Addr} {fd : FuncData} (F : Fun K "_law_draw" "_law_draw" s_law_draw f fd) (mint : mg "int" = none) (mlen : mg "len" = none) (mabs : mg "abs" = none) : FnG P w K mg base 1 f fd ["pen", "many"] (spD CL K 2 drawD) := by
  refine fnG_raw F sc_law_draw (fun vs H Q E h => h.1) fun cdv A outer s H vs Q E hr h => ?_
  obtain ⟨a, c, t, r, n, cells, rfl, hn, hn2, hA, hC, hca, ht, ht2, hr0, fin⟩ := draw_open h
  have nd := sc_law_draw.nd
  have hd1 : n ≠ 0 ∧ n.natAbs < 1073741824 := by omega
  refine ⟨_, pss_cons (ps_if (pt_cmpR op_gt (pe_ix ix_list (pv 0) pe_int (fun _ _ => rfl)) pe_int (nomark _))
      (pss_cons (ps_set (i := 2) nd rfl (.inl rfl) (pe_callTy call_int1 (by rfl) mint (by decide +kernel) (pa_cons (pe_ix ix_list (pv 0) pe_int (fun _ _ => rfl)) pa_nil)))
      (pss_cons (ps_asg (pe_op op_fdivN (pv 2) (pv 1)) (pg_sub (pv 0) pe_int set_list))
      (pss_one (ps_ret (pe_op op_modN (pe_callTy call_int1 (by rfl) mint (by decide +kernel) (pa_cons (pv 2) pa_nil)) (pv 1)))))) pss_nil)
    (pss_cons (ps_set (i := 3) nd rfl (.inl rfl) (pe_ix ix_list (pv 0) pe_int (fun _ _ => rfl)))
    (pss_cons (ps_asg (pe_op op_add (pv 3) pe_int) (pg_sub (pv 0) pe_int set_list))
    (pss_cons (ps_set (i := 4) nd rfl (.inl rfl) (pe_op op_add (pe_op op_mul pe_int (pv 3)) pe_int))
    (pss_cons (ps_if (pt_cmpR (op_neD hr.room.units) (pe_ix ix_list (pv 0) pe_int (fun _ _ => rfl)) (pe_lst pa_nil) (nomark _))
      (pss_one (ps_set (i := 4) nd rfl (.inl rfl) (pe_ix ix_list (pe_ix ix_list (pv 0) pe_int (fun _ _ => rfl)) (pe_op op_modN (pe_callTy call_int1 (by rfl) mint (by decide +kernel) (pa_cons (pv 3) pa_nil)) (pe_callB call_len_seq (by rfl) mlen (by decide +kernel) (pa_cons (pe_ix ix_list (pv 0) pe_int (fun _ _ => rfl)) pa_nil))) (fun _ _ => rfl)))) pss_nil)
    (pss_cons (ps_if (PW.pt (pw_and (pt_cmpR op_lt (pv 3) (pe_callB call_len_seq (by rfl) mlen (by decide +kernel) (pa_cons (pe_ix ix_list (pv 0) pe_int (fun _ _ => rfl)) pa_nil)) (nomark _)) (pw_and1 (pt_cmpR op_ge (pe_callB call_abs (by rfl) mabs (by decide +kernel) (pa_cons (pv 4) pa_nil)) (pe_op op_pow pe_int pe_int) (nomark _)))))
      (pss_cons (ps_set (i := 2) nd rfl (.inl rfl) (pe_op op_add (pe_op op_mul pe_int (pe_op op_sub (pe_callB call_abs (by rfl) mabs (by decide +kernel) (pa_cons (pv 4) pa_nil)) (pe_op op_pow pe_int pe_int))) (pe_callTy call_int1 (by rfl) mint (by decide +kernel) (pa_cons (pe_cmpR op_lt (pv 4) pe_int (nomark _)) pa_nil))))
      (pss_cons (ps_asg (pe_op op_fdivN (pe_callTy call_int1 (by rfl) mint (by decide +kernel) (pa_cons (pv 2) pa_nil)) (pv 1)) (pg_sub (pv 0) pe_int set_list))
      (pss_one (ps_ret (pe_op op_modN (pe_callTy call_int1 (by rfl) mint (by decide +kernel) (pa_cons (pv 2) pa_nil)) (pv 1)))))) pss_nil)
    (pss_cons (ps_set (i := 5) nd rfl (.inl rfl) (pe_op op_modN (pe_callTy call_int1 (by rfl) mint (by decide +kernel) (pa_cons (pe_op op_pow (pe_op op_add (pe_op op_add (pe_op op_modN (pe_callTy call_int1 (by rfl) mint (by decide +kernel) (pa_cons (pv 4) pa_nil)) pe_int) (pe_op op_mul pe_int (pv 3))) pe_int) pe_int) pa_nil)) pe_int))
    (pss_cons (ps_set (i := 5) nd rfl (.inl rfl) (pe_op op_modN (pe_callTy call_int1 (by rfl) mint (by decide +kernel) (pa_cons (pe_op op_pow (pe_op op_add (pe_op op_add (pe_op op_mul (pv 5) (pe_op op_add (pe_op op_mul pe_int (pv 3)) pe_int)) (pe_op op_mul (pe_op op_mul pe_int (pv 3)) (pv 3))) pe_int) pe_int) pa_nil)) pe_int))
    (pss_one (ps_ret (pe_op op_modN (pe_callTy call_int1 (by rfl) mint (by decide +kernel) (pa_cons (pe_op op_fdivN (pv 5) pe_int) pa_nil)) (pv 1))))))))))), ?_⟩
  have hn0 : n ≠ 0 := by omega
  -- if pen[2] > 0
  refine ⟨.ref a, rfl, a, _, 2, .int r, rfl, rfl, SqL.of hA, rfl, r, 0, rfl, rfl, _, rfl, ite2 (fun _ => ?_) (fun _ => ?_)⟩
  · refine ⟨.ref a, rfl, a, _, 2, .int r, rfl, rfl, SqL.of hA, rfl, .inl ⟨r, rfl, ?_⟩⟩
    refine ⟨.int r, rfl, .int n, rfl, r, n, rfl, rfl, hd1, .ref a, rfl, a, _, 2, 2, rfl, rfl, hA, rfl, ?_⟩
    refine ⟨.int r, rfl, .inl ⟨r, rfl, .int n, rfl, r, n, rfl, rfl, hn0, ?_⟩⟩
    exact fin _ t (r.fdiv n) _ (fun x o e ne => by rw [upd_ne ne]; exact e) upd_same ht (by omega) (fdiv_nn hr0 hn) (fmod_lt hn).1 (fmod_lt hn).2
  · -- turn, cell
    refine ⟨.ref a, rfl, a, _, 1, .int t, rfl, rfl, SqL.of hA, rfl, ?_⟩
    refine ⟨.int t, rfl, t, 1, rfl, rfl, .ref a, rfl, a, _, 1, 1, rfl, rfl, hA, rfl, ?_⟩
    have hA1 : (upd H a (.lst [.ref c, .int (t + 1), .int r])) a = some (.lst [.ref c, .int (t + 1), .int r]) := upd_same
    have hC1 : (upd H a (.lst [.ref c, .int (t + 1), .int r])) c = some (.lst (cells.map V.int)) := by rw [upd_ne hca]; exact hC
    have k1 : ∀ x o, H x = some o → x ≠ a → (upd H a (.lst [.ref c, .int (t + 1), .int r])) x = some o := fun x o e ne => by rw [upd_ne ne]; exact e
    refine ⟨.int t, rfl, _, t, rfl, rfl, .inl (by decide), _, _, rfl, rfl, ?_⟩
    refine ⟨.ref a, rfl, a, _, 0, .ref c, rfl, rfl, SqL.of hA1, rfl, Nat.zero_le _, fun p hp => ?_⟩
    have hA2 := same_new (o := .lst []) hp _ _ hA1
    have hC2 := same_new (o := .lst []) hp _ _ hC1
    have k2 : ∀ x o, H x = some o → x ≠ a → (upd (upd H a (.lst [.ref c, .int (t + 1), .int r])) p (.lst [])) x = some o := fun x o e ne => same_new hp _ _ (k1 x o e ne)
    refine ⟨.list (cells.map PyData.int), .list [], .lst (SqL.of hC2) (cells_dp cells), .lst (SqL.of upd_same) .nil, cells_shaped cells, by decide +kernel, _, rfl, ?_⟩
    have hpow : (0 : Int) ≤ 18 ∧ (18 : Int) ≤ 1000000 ∧ (10 : Int).natAbs < 2 ^ 64 := by decide
    refine ite2 (fun hne => ?_) (fun _ => ?_)
    · -- a cell of the script
      have hne2 : (!cells.isEmpty) = true := by rw [← cells_eqv]; exact hne
      have hlen : 0 < cells.length := by
        cases cells with
        | nil => cases hne2
        | cons _ _ => exact Nat.zero_lt_succ _
      have hix : ∃ z, atI (cells.map V.int) (t.fmod (((cells.map V.int).length : Nat) : Int)) = some (.int z) := by
        have hb := fmod_lt (a := t) (n := ((cells.length : Nat) : Int)) (by omega)
        rw [List.length_map]
        have e : t.fmod (cells.length : Int) = (((t.fmod (cells.length : Int)).toNat : Nat) : Int) := (Int.toNat_of_nonneg hb.1).symm
        have hl : (t.fmod (cells.length : Int)).toNat < cells.length := by omega
        refine ⟨cells[(t.fmod (cells.length : Int)).toNat], ?_⟩
        refine (congrArg (atI (cells.map V.int)) e).trans (atI_nat ?_)
        rw [List.getElem?_map, List.getElem?_eq_getElem hl]; rfl
      obtain ⟨z0, hz0⟩ := hix
      refine ⟨.ref a, rfl, a, _, 0, .ref c, rfl, rfl, SqL.of hA2, rfl, .int t, rfl, .inl ⟨t, rfl, .ref a, rfl, a, _, 0, .ref c, rfl, rfl, SqL.of hA2, rfl, c, _, rfl, .inl (SqL.of hC2), t, _, rfl, rfl, ?_, c, _, _, .int z0, rfl, rfl, SqL.of hC2, hz0, ?_⟩⟩
      · rw [List.length_map]; omega
      refine ⟨.int t, rfl, .ref a, rfl, a, _, 0, .ref c, rfl, rfl, SqL.of hA2, rfl, c, _, rfl, .inl (SqL.of hC2), t, _, rfl, rfl, _, rfl, ite2 (fun _ => ?_) (fun _ => iteF ?_)⟩
      · refine ⟨.int z0, rfl, z0, rfl, 10, 18, rfl, rfl, hpow, _, _, rfl, rfl, _, rfl, ite2 (fun hge => ?_) (fun _ => ?_)⟩
        · refine ⟨.int z0, rfl, z0, rfl, 10, 18, rfl, rfl, hpow, _, _, rfl, rfl, 2, _, rfl, rfl, .inl (by decide), .int z0, rfl, z0, 0, rfl, rfl, .inr ⟨_, rfl, _, _, rfl, rfl, ?_⟩⟩
          refine ⟨_, rfl, .inl ⟨_, rfl, .int n, rfl, _, n, rfl, rfl, hd1, .ref a, rfl, a, _, 2, 2, rfl, rfl, hA2, rfl, ?_⟩⟩
          refine ⟨_, rfl, .inl ⟨_, rfl, .int n, rfl, _, n, rfl, rfl, hn0, ?_⟩⟩
          refine fin _ (t + 1) _ _ (fun x o e ne => by rw [upd_ne ne]; exact k2 x o e ne) upd_same (by omega) (by omega) (fdiv_nn ?_ hn) (fmod_lt hn).1 (fmod_lt hn).2
          have hg2 := of_decide_eq_true hge
          have e18 : (10 : Int) ^ (18 : Int).toNat = 1000000000000000000 := by decide
          rw [e18] at hg2 ⊢
          have hb : (0 : Int) ≤ (if decide (z0 < 0) = true then 1 else 0) := by split <;> decide
          omega
        · refine ⟨.int z0, rfl, .inl ⟨z0, rfl, z0, _, rfl, rfl, (by show (_ : Int) ≠ 0; decide), .int t, rfl, _, t, rfl, rfl, .inl (by decide), _, _, rfl, rfl, _, _, rfl, rfl, _, _, rfl, rfl, ⟨by decide, by decide, draw_bound1 ht ht2 (by decide) (by decide) (by decide) (by decide)⟩, .inl ⟨_, rfl, _, _, rfl, rfl, (by show (_ : Int) ≠ 0; decide), ?_⟩⟩⟩
          refine ⟨_, rfl, .int t, rfl, _, t, rfl, rfl, .inl (by decide), _, _, rfl, rfl, _, _, rfl, rfl, .inl ?_, .int t, rfl, _, t, rfl, rfl, .inl (by decide), .int t, rfl, _, t, rfl, rfl, .inl ?_, _, _, rfl, rfl, _, _, rfl, rfl, _, _, rfl, rfl, ⟨by decide, by decide, draw_bound (fmod_lt (by decide)).1 (Int.lt_trans (fmod_lt (by decide)).2 (by decide)) ht ht2 (by decide) (by decide)⟩, .inl ⟨_, rfl, _, _, rfl, rfl, (by show (_ : Int) ≠ 0; decide), ?_⟩⟩
          · have hm := fmod_lt (a := (z0.fmod 2147483563 + 76086 * t + 10024) ^ (5 : Int).toNat) (n := 2147483629) (by decide)
            exact ⟨Int.lt_of_lt_of_le (by decide) hm.1, Int.lt_trans hm.2 (by decide)⟩
          · omega
          refine ⟨_, rfl, _, _, rfl, rfl, ⟨by decide, by decide⟩, .inl ⟨_, rfl, .int n, rfl, _, n, rfl, rfl, hn0, ?_⟩⟩
          exact fin _ (t + 1) r _ k2 hA2 (by omega) (by omega) hr0 (fmod_lt hn).1 (fmod_lt hn).2
      · refine ⟨.int z0, rfl, .inl ⟨z0, rfl, z0, _, rfl, rfl, (by show (_ : Int) ≠ 0; decide), .int t, rfl, _, t, rfl, rfl, .inl (by decide), _, _, rfl, rfl, _, _, rfl, rfl, _, _, rfl, rfl, ⟨by decide, by decide, draw_bound1 ht ht2 (by decide) (by decide) (by decide) (by decide)⟩, .inl ⟨_, rfl, _, _, rfl, rfl, (by show (_ : Int) ≠ 0; decide), ?_⟩⟩⟩
        refine ⟨_, rfl, .int t, rfl, _, t, rfl, rfl, .inl (by decide), _, _, rfl, rfl, _, _, rfl, rfl, .inl ?_, .int t, rfl, _, t, rfl, rfl, .inl (by decide), .int t, rfl, _, t, rfl, rfl, .inl ?_, _, _, rfl, rfl, _, _, rfl, rfl, _, _, rfl, rfl, ⟨by decide, by decide, draw_bound (fmod_lt (by decide)).1 (Int.lt_trans (fmod_lt (by decide)).2 (by decide)) ht ht2 (by decide) (by decide)⟩, .inl ⟨_, rfl, _, _, rfl, rfl, (by show (_ : Int) ≠ 0; decide), ?_⟩⟩
        · have hm := fmod_lt (a := (z0.fmod 2147483563 + 76086 * t + 10024) ^ (5 : Int).toNat) (n := 2147483629) (by decide)
          exact ⟨Int.lt_of_lt_of_le (by decide) hm.1, Int.lt_trans hm.2 (by decide)⟩
        · omega
        refine ⟨_, rfl, _, _, rfl, rfl, ⟨by decide, by decide⟩, .inl ⟨_, rfl, .int n, rfl, _, n, rfl, rfl, hn0, ?_⟩⟩
        exact fin _ (t + 1) r _ k2 hA2 (by omega) (by omega) hr0 (fmod_lt hn).1 (fmod_lt hn).2
    · skip
      refine ⟨.int t, rfl, .ref a, rfl, a, _, 0, .ref c, rfl, rfl, SqL.of hA2, rfl, c, _, rfl, .inl (SqL.of hC2), t, _, rfl, rfl, _, rfl, ite2 (fun _ => ?_) (fun _ => iteF ?_)⟩
      · refine ⟨.int (76086 * t + 10024), rfl, (76086 * t + 10024), rfl, 10, 18, rfl, rfl, hpow, _, _, rfl, rfl, _, rfl, ite2 (fun hge => ?_) (fun _ => ?_)⟩
        · refine ⟨.int (76086 * t + 10024), rfl, (76086 * t + 10024), rfl, 10, 18, rfl, rfl, hpow, _, _, rfl, rfl, 2, _, rfl, rfl, .inl (by decide), .int (76086 * t + 10024), rfl, (76086 * t + 10024), 0, rfl, rfl, .inr ⟨_, rfl, _, _, rfl, rfl, ?_⟩⟩
          refine ⟨_, rfl, .inl ⟨_, rfl, .int n, rfl, _, n, rfl, rfl, hd1, .ref a, rfl, a, _, 2, 2, rfl, rfl, hA2, rfl, ?_⟩⟩
          refine ⟨_, rfl, .inl ⟨_, rfl, .int n, rfl, _, n, rfl, rfl, hn0, ?_⟩⟩
          refine fin _ (t + 1) _ _ (fun x o e ne => by rw [upd_ne ne]; exact k2 x o e ne) upd_same (by omega) (by omega) (fdiv_nn ?_ hn) (fmod_lt hn).1 (fmod_lt hn).2
          have hg2 := of_decide_eq_true hge
          have e18 : (10 : Int) ^ (18 : Int).toNat = 1000000000000000000 := by decide
          rw [e18] at hg2 ⊢
          have hb : (0 : Int) ≤ (if decide ((76086 * t + 10024) < 0) = true then 1 else 0) := by split <;> decide
          omega
        · refine ⟨.int (76086 * t + 10024), rfl, .inl ⟨(76086 * t + 10024), rfl, (76086 * t + 10024), _, rfl, rfl, (by show (_ : Int) ≠ 0; decide), .int t, rfl, _, t, rfl, rfl, .inl (by decide), _, _, rfl, rfl, _, _, rfl, rfl, _, _, rfl, rfl, ⟨by decide, by decide, draw_bound1 ht ht2 (by decide) (by decide) (by decide) (by decide)⟩, .inl ⟨_, rfl, _, _, rfl, rfl, (by show (_ : Int) ≠ 0; decide), ?_⟩⟩⟩
          refine ⟨_, rfl, .int t, rfl, _, t, rfl, rfl, .inl (by decide), _, _, rfl, rfl, _, _, rfl, rfl, .inl ?_, .int t, rfl, _, t, rfl, rfl, .inl (by decide), .int t, rfl, _, t, rfl, rfl, .inl ?_, _, _, rfl, rfl, _, _, rfl, rfl, _, _, rfl, rfl, ⟨by decide, by decide, draw_bound (fmod_lt (by decide)).1 (Int.lt_trans (fmod_lt (by decide)).2 (by decide)) ht ht2 (by decide) (by decide)⟩, .inl ⟨_, rfl, _, _, rfl, rfl, (by show (_ : Int) ≠ 0; decide), ?_⟩⟩
          · have hm := fmod_lt (a := ((76086 * t + 10024).fmod 2147483563 + 76086 * t + 10024) ^ (5 : Int).toNat) (n := 2147483629) (by decide)
            exact ⟨Int.lt_of_lt_of_le (by decide) hm.1, Int.lt_trans hm.2 (by decide)⟩
          · omega
          refine ⟨_, rfl, _, _, rfl, rfl, ⟨by decide, by decide⟩, .inl ⟨_, rfl, .int n, rfl, _, n, rfl, rfl, hn0, ?_⟩⟩
          exact fin _ (t + 1) r _ k2 hA2 (by omega) (by omega) hr0 (fmod_lt hn).1 (fmod_lt hn).2
      · refine ⟨.int (76086 * t + 10024), rfl, .inl ⟨(76086 * t + 10024), rfl, (76086 * t + 10024), _, rfl, rfl, (by show (_ : Int) ≠ 0; decide), .int t, rfl, _, t, rfl, rfl, .inl (by decide), _, _, rfl, rfl, _, _, rfl, rfl, _, _, rfl, rfl, ⟨by decide, by decide, draw_bound1 ht ht2 (by decide) (by decide) (by decide) (by decide)⟩, .inl ⟨_, rfl, _, _, rfl, rfl, (by show (_ : Int) ≠ 0; decide), ?_⟩⟩⟩
        refine ⟨_, rfl, .int t, rfl, _, t, rfl, rfl, .inl (by decide), _, _, rfl, rfl, _, _, rfl, rfl, .inl ?_, .int t, rfl, _, t, rfl, rfl, .inl (by decide), .int t, rfl, _, t, rfl, rfl, .inl ?_, _, _, rfl, rfl, _, _, rfl, rfl, _, _, rfl, rfl, ⟨by decide, by decide, draw_bound (fmod_lt (by decide)).1 (Int.lt_trans (fmod_lt (by decide)).2 (by decide)) ht ht2 (by decide) (by decide)⟩, .inl ⟨_, rfl, _, _, rfl, rfl, (by show (_ : Int) ≠ 0; decide), ?_⟩⟩
        · have hm := fmod_lt (a := ((76086 * t + 10024).fmod 2147483563 + 76086 * t + 10024) ^ (5 : Int).toNat) (n := 2147483629) (by decide)
          exact ⟨Int.lt_of_lt_of_le (by decide) hm.1, Int.lt_trans hm.2 (by decide)⟩
        · omega
        refine ⟨_, rfl, _, _, rfl, rfl, ⟨by decide, by decide⟩, .inl ⟨_, rfl, .int n, rfl, _, n, rfl, rfl, hn0, ?_⟩⟩
        exact fin _ (t + 1) r _ k2 hA2 (by omega) (by omega) hr0 (fmod_lt hn).1 (fmod_lt hn).2
abbrev s_law_pen : Stmt := top 19
theorem sc_law_pen : FnScope ["script", "cell"] ["script"] (defScope s_law_pen) := ⟨rfl, rfl, rfl, by decide +kernel, rfl, by decide +kernel, by decide +kernel⟩
def spPen (K : PySem.W.Frag) : Sp := fun vs H Q E => ∃ (s : Addr) (ns : List Int), vs = [.ref s] ∧ SqL K H s (ns.map V.int) ∧ ns.length ≤ 63 ∧ ∀ (a c : Addr) (cells : List Int) (H' : Hp), Same H H' → H a = none → H c = none → c ≠ a →
  H' a = some (.lst [.ref c, .int 0, .int 0]) → H' c = some (.lst (cells.map V.int)) → Q (.ref a) H'
theorem ok_law_pen {f : Addr} {fd : FuncData} (F : Fun K "_law_pen" "_law_pen" s_law_pen f fd) (mint : mg "int" = none) : FnG P w K mg base 1 f fd ["script"] (spPen K) := by
  have S := sc_law_pen
  refine fnG_raw F S (fun vs H Q E h => by obtain ⟨s, ns, rfl, _⟩ := h; rfl) fun cdv A outer s0 H vs Q E hr h => ?_
  obtain ⟨s, ns, rfl, hS, hl, fin⟩ := h
  refine ⟨_, pss_one (ps_ret (pe_lst (pa_cons (pe_lc (own := [("cell", 1)]) rfl S.nd (pi_list (pe_slice sl_list (pv 0) po_none (po_some pe_int))) (blkOk_by rfl) (fun _ _ _ _ _ => pg_name (i := 1) S.nd rfl (Or.inl rfl)) (fun _ _ _ _ _ => pts_nil) (fun _ _ _ _ _ => pe_callTy call_int1 (by rfl) mint bt_int (pa_cons (pv 1) pa_nil))) (pa_cons pe_int (pa_cons pe_int pa_nil))))), ?_⟩
  have ecut : ∃ cells : List Int, cutV (ns.map V.int) none (some 63) = cells.map V.int ∧ cells.length ≤ 63 := by
    unfold cutV
    rw [← List.map_drop, ← List.map_take]
    refine ⟨_, rfl, ?_⟩
    rw [List.length_take, List.length_drop]; omega
  obtain ⟨cells, ec, el⟩ := ecut
  refine ⟨.ref s, rfl, 63, rfl, s, _, rfl, hS, fun l hL => ⟨l, rfl, ⟨_, SqL.of upd_same⟩, fun c hc => ?_⟩⟩
  rw [ec] at hc ⊢
  have s1 : Same H (upd H l (.lst (cells.map V.int))) := same_new hL
  have cl : c ≠ l := fun z => by rw [z, upd_same] at hc; cases hc
  have hc0 : H c = none := by rw [upd_ne cl] at hc; exact hc
  refine lc_list (K := K) (a := l) (xs := cells.map V.int) (fun i H' => H' c = some (.lst ((cells.take i).map V.int)) ∧ Same H H' ∧ H' l = some (.lst (cells.map V.int))) ⟨?_, ?_, ?_⟩ (fun i H' _ q => SqL.of q.2.2) ?_ ?_
  · rw [upd_same]; rfl
  · exact s1.trans (same_new hc)
  · rw [upd_ne cl.symm, upd_same]
  · rintro i x H' hi ⟨q1, q2, q3⟩
    have hi2 : i < cells.length := by
      have := (List.getElem?_eq_some_iff.mp hi).1
      rw [List.length_map] at this; exact this
    obtain rfl : x = .int cells[i] := by
      rw [List.getElem?_map, List.getElem?_eq_getElem hi2] at hi
      exact (Option.some.inj hi).symm
    refine ⟨rfl, ?_⟩
    simp only [tYes, reduceIte]
    refine ⟨.int cells[i], rfl, .inl ⟨_, rfl, _, q1, ?_, ?_, ?_, ?_⟩⟩
    · rw [List.length_map, List.length_take]
      exact Nat.lt_of_le_of_lt (Nat.le_trans (Nat.min_le_left _ _) (Nat.le_trans (Nat.le_of_lt hi2) el)) (by decide)
    · rw [upd_same, List.take_succ, List.getElem?_eq_getElem hi2, List.map_append]; rfl
    · intro b o e
      rw [upd_ne (ne_of_none e hc0)]; exact q2 b o e
    · rw [upd_ne cl.symm]; exact q3
  · rintro H' ⟨q1, q2, q3⟩
    rw [List.length_map, List.take_length] at q1
    refine ⟨by show 3 ≤ sizeLine; decide, fun a ha => ?_⟩
    have ca : c ≠ a := fun z => by rw [← z, q1] at ha; cases ha
    refine fin a c cells _ (q2.trans (same_new ha)) ?_ hc0 ca upd_same (by rw [upd_ne ca]; exact q1)
    cases e : H a with
    | none => rfl
    | some o => rw [q2 a o e] at ha; cases ha
end
end V

set_option Elab.async false
set_option linter.all false
set_option maxRecDepth 100000
set_option maxHeartbeats 4000000
namespace V
open PySem PySem.Spec PyProof.Rows L2 Y
structure Txt (K : PySem.W.Frag) (w : World) (mg : Str → Option Value) : Prop where
  m_int : mg "int" = none
  m_len : mg "len" = none
  m_abs : mg "abs" = none
  m_isinstance : mg "isinstance" = none
  m_bool : mg "bool" = none
  m_list : mg "list" = none
  m_tuple : mg "tuple" = none
  m_repr : mg "repr" = none
  m_range : mg "range" = none
  m_super : mg "super" = none
  m_all : mg "all" = none
  m_zip : mg "zip" = none
  m_enumerate : mg "enumerate" = none
  m_ValueError : mg "ValueError" = none
section
variable {P : Program} {w : World} {K : PySem.W.Frag} {mg : Str → Option Value} {base : Heap} {CL : Nat → Addr}
abbrev f__law_draw : List D → T D := drawD
theorem ar__law_draw : Ar 2 f__law_draw := ar_drawD
/-! fixed -/
abbrev s_fixed : Stmt := top 1
theorem sc_fixed : FnScope ["value", "part"] ["value"] (defScope s_fixed) := ⟨rfl, rfl, rfl, by decide +kernel, rfl, by decide +kernel, by decide +kernel⟩
def b_fixed (f_fixed : List D → T D) : FS := sSeq (sIf (kTru (eCallB opIsi (aCons (eVar 0) (aCons (eTup (aCons (eC (.ty .list)) (aCons (eC (.ty .tuple)) (aNil)))) (aNil))))) (sRet (eCallB opTuple (aCons (eComp (.one 1) (aSeq (eVar 0)) (kYes) (eCallF f_fixed (aCons (eVar 1) (aNil)))) (aNil)))) (sNext)) (sRet (eVar 0))
def st_fixed (G : List D → T D) : List D → T D := fnP 2 1 (b_fixed G)
def f_fixed : List D → T D := byDepth st_fixed 8
theorem ar_fixed : Ar 1 f_fixed := fun ds h => by show fnP 2 1 _ ds = .bad; exact ar_fnP ds h
theorem ok_fixed {f : Addr} {fd : FuncData} (F : Fun K "fixed" "fixed" s_fixed f fd) (T : Txt K w mg) (hm : mg "fixed" = some (.ref f)) (hb : Binds K fd ["value"] []) : Fn P w K mg base CL 9 "fixed" 1 f_fixed ∧ Ar 1 f_fixed := by
  have S := sc_fixed
  refine fn_rec (ps := ["value"]) 1 1 rfl hm F.kp hb (fun k f_fixed hk ar_fixed c_fixed => ?_) (fun G h => ar_fnP) 8
  refine fnG_P ["value", "part"] ["value"] 2 1 (fs := b_fixed f_fixed) rfl rfl rfl F S ?_
  intro cdv A outer s H E B hr hx hcl hW0
  exact sss_cons (ss_if (sk_tru (se_callB c_isi vc_isi T.m_isinstance (sa_cons (se_var 0) (sa_cons (se_tup (sa_cons (se_ty .list T.m_list (hv := bt_list)) (sa_cons (se_ty .tuple T.m_tuple (hv := bt_tuple)) (sa_nil)))) (sa_nil))) (hb := bt_isinstance))) (sss_one (ss_ret (se_callTy call_tuple_of vc_tuple T.m_tuple (sa_cons (se_comp (tg := .one 1) (own := [("part", 1)]) rfl S.nd (si_seq (se_var 0)) (blkOk_by rfl) rfl (fun _ _ _ _ _ => sg_one 1 S.nd) (fun _ _ _ _ _ => pts_nil) tt_yes (fun _ _ _ _ _ => se_call c_fixed ar_fixed hr (Nat.le_refl _) (Lets.no fun _ _ _ _ h => h) hcl (sa_cons (se_var 1) (sa_nil)))) (sa_nil)) (hb := bt_tuple)))) (sss_nil)) (sss_one (ss_ret (se_var 0)))
/-! are_alike -/
abbrev s_are_alike : Stmt := top 2
theorem sc_are_alike : FnScope ["one", "other", "part", "its"] ["one", "other"] (defScope s_are_alike) := ⟨rfl, rfl, rfl, by decide +kernel, rfl, by decide +kernel, by decide +kernel⟩
def b_are_alike (f_are_alike : List D → T D) : FS := sSeq (sIf (kAnd (kTru (eCallB opIsi (aCons (eVar 0) (aCons (eC (.ty .tuple)) (aNil))))) (kTru (eCallB opIsi (aCons (eVar 1) (aCons (eC (.ty .tuple)) (aNil)))))) (sRet (eAnd (eOp2 opEq (eCallB opLen (aCons (eVar 0) (aNil))) (eCallB opLen (aCons (eVar 1) (aNil)))) (eCallB opAll (aCons (eComp (.tup [2, 3]) (aZip (aCons (eVar 0) (aCons (eVar 1) (aNil)))) (kYes) (eCallF f_are_alike (aCons (eVar 2) (aCons (eVar 3) (aNil))))) (aNil))))) (sNext)) (sSeq (sIf (kBl (eOp2 opNe (eCallB opIsi (aCons (eVar 0) (aCons (eC (.ty .bool)) (aNil)))) (eCallB opIsi (aCons (eVar 1) (aCons (eC (.ty .bool)) (aNil)))))) (sRet (eC (.bl false))) (sNext)) (sRet (eCallB opBool (aCons (eCmp eqXV (eVar 0) (eVar 1)) (aNil)))))
def st_are_alike (G : List D → T D) : List D → T D := fnP 4 2 (b_are_alike G)
def f_are_alike : List D → T D := byDepth st_are_alike 9
theorem ar_are_alike : Ar 2 f_are_alike := fun ds h => by show fnP 4 2 _ ds = .bad; exact ar_fnP ds h
theorem ok_are_alike {f : Addr} {fd : FuncData} (F : Fun K "are_alike" "are_alike" s_are_alike f fd) (T : Txt K w mg) (hm : mg "are_alike" = some (.ref f)) (hb : Binds K fd ["one", "other"] []) : Fn P w K mg base CL 10 "are_alike" 2 f_are_alike ∧ Ar 2 f_are_alike := by
  have S := sc_are_alike
  refine fn_rec (ps := ["one", "other"]) 1 2 rfl hm F.kp hb (fun k f_are_alike hk ar_are_alike c_are_alike => ?_) (fun G h => ar_fnP) 9
  refine fnG_P ["one", "other", "part", "its"] ["one", "other"] 4 2 (fs := b_are_alike f_are_alike) rfl rfl rfl F S ?_
  intro cdv A outer s H E B hr hx hcl hW0
  exact sss_cons (ss_if (PW.pt (sk_and (sk_tru (se_callB c_isi vc_isi T.m_isinstance (sa_cons (se_var 0) (sa_cons (se_ty .tuple T.m_tuple (hv := bt_tuple)) (sa_nil))) (hb := bt_isinstance))) (sk_and1 (sk_tru (se_callB c_isi vc_isi T.m_isinstance (sa_cons (se_var 1) (sa_cons (se_ty .tuple T.m_tuple (hv := bt_tuple)) (sa_nil))) (hb := bt_isinstance)))))) (sss_one (ss_ret (se_and (se_cmp (o_eq hr.room.units) v_eq (se_callB call_len vc_len T.m_len (sa_cons (se_var 0) (sa_nil)) (hb := bt_len)) (se_callB call_len vc_len T.m_len (sa_cons (se_var 1) (sa_nil)) (hb := bt_len))) (se_one (se_callB (cr_all rfl) vc_all T.m_all (sa_cons (se_comp (tg := .tup [2, 3]) (own := [("part", 2), ("its", 3)]) rfl S.nd (si_zip T.m_zip (sa_cons (se_var 0) (sa_cons (se_var 1) (sa_nil)))) (blkOk_by rfl) rfl (fun _ _ _ _ _ => sg_tup rfl (sg_cons 2 S.nd (sg_cons 3 S.nd (sg_nil)))) (fun _ _ _ _ _ => pts_nil) tt_yes (fun _ _ _ _ _ => se_call c_are_alike ar_are_alike hr (Nat.le_refl _) (Lets.no fun _ _ _ _ h => h) hcl (sa_cons (se_var 2) (sa_cons (se_var 3) (sa_nil))))) (sa_nil)) (hb := bt_all)))))) (sss_nil)) (sss_cons (ss_if (sk_cmp (o_ne hr.room.units) v_ne (se_callB c_isi vc_isi T.m_isinstance (sa_cons (se_var 0) (sa_cons (se_ty .bool T.m_bool (hv := bt_bool)) (sa_nil))) (hb := bt_isinstance)) (se_callB c_isi vc_isi T.m_isinstance (sa_cons (se_var 1) (sa_cons (se_ty .bool T.m_bool (hv := bt_bool)) (sa_nil))) (hb := bt_isinstance))) (sss_one (ss_ret (se_bl))) (sss_nil)) (sss_one (ss_ret (se_callTy call_bool1 vc_bool T.m_bool (sa_cons (se_eqX hr (se_var 0) (se_var 1)) (sa_nil)) (hb := bt_bool)))))
/-! _law_pick -/
abbrev s__law_pick : Stmt := top 21
theorem sc__law_pick : FnScope ["pen", "some"] ["pen", "some"] (defScope s__law_pick) := ⟨rfl, rfl, rfl, by decide +kernel, rfl, by decide +kernel, by decide +kernel⟩
def b__law_pick : FS := sRet (eOp2 opIx (eVar 1) (eCallF f__law_draw (aCons (eVar 0) (aCons (eCallB opLen (aCons (eVar 1) (aNil))) (aNil)))))
def f__law_pick : List D → T D := fnP 2 2 b__law_pick
theorem ar__law_pick : Ar 2 f__law_pick := ar_fnP
theorem ok__law_pick {f : Addr} {fd : FuncData} (F : Fun K "_law_pick" "_law_pick" s__law_pick f fd) (T : Txt K w mg) (c__law_draw : Fn P w K mg base CL 1 "_law_draw" 2 f__law_draw) : FnG P w K mg base 2 f fd ["pen", "some"] (spD CL K 2 f__law_pick) := by
  have S := sc__law_pick
  refine fnG_P (k := 1) ["pen", "some"] ["pen", "some"] 2 2 (fs := b__law_pick) rfl rfl rfl F S ?_
  intro cdv A outer s H E B hr hx hcl hW0
  exact sss_one (ss_ret (se_ix ix_seq v_ix (se_var 1) (se_call c__law_draw ar__law_draw hr (by decide) hx.lets hcl (sa_cons (se_var 0) (sa_cons (se_callB call_len vc_len T.m_len (sa_cons (se_var 1) (sa_nil)) (hb := bt_len)) (sa_nil))))))
end
end V

set_option Elab.async false
set_option linter.all false
set_option maxRecDepth 100000
set_option maxHeartbeats 4000000
namespace V
open PySem PySem.Spec PyProof.Rows L2 Y
def sub (s : Stmt) (i : Nat) : Stmt := match s with
  | .ClassDef _ _ _ b _ _ _ _ _ _ _ => b.getD i (.Pass ⟨0, 0, 0, 0⟩)
  | _ => .Pass ⟨0, 0, 0, 0⟩
def Pl_sup (C D : Nat) : Bool := decide (C = D) || (decide (D = 9) || (decide (C = 12) && decide (D = 10)))
def Er_cs : List Nat := [1, 2, 3, 4, 5, 6, 7, 8]
def Er_all : List Nat := [0, 1, 2, 3, 4, 5, 6, 7, 8]
def Er_sup (C D : Nat) : Bool := decide (C = D) || decide (D = 0)
def CN : List (Nat × Str) := [(9, "Paper"), (10, "Denial"), (11, "Wall"), (12, "Plot")]
theorem se_clsV {X : Cx} {B : Bd} {CL : Nat → Addr} {x : Str} {pos : Pos} (n : Nat) (hm : X.mg x = some (.ref (CL n))) (hcl : B.g.cl = CL) (hg : Gl X x := by rfl) (hd : (x == ("__debug__" : Str)) = false := by decide) : PE X (.Name x pos) (tM B X.K (eC (.cls n))) := se_c (pe_glob hg hm (v := .ref (CL n)) rfl hd) fun _ _ => by rw [← hcl]; exact .cls n
structure Zc1 (P : Program) (w : World) (K : PySem.W.Frag) (mg : Str → Option Value) (CL : Nat → Addr) : Prop where
  isa : IsaK K CL [9, 10, 11, 12] Pl_sup
  nm : NmK K CL (nmOf CN)
  isx : IsaX K CL Er_all Er_sup
  isve : IsVE K CL Er_cs
  cl_word : ClsT K CL [9, 10, 11, 12] "word"
  cl_parts : ClsT K CL [9, 10, 11, 12] "parts"
  cl_kinds : ClsT K CL [9, 10, 11, 12] "kinds"
  cl_lots : ClsT K CL [9, 10, 11, 12] "lots"
  cl_deeds : ClsT K CL [9, 10, 11, 12] "deeds"
  xf_part : ClsX K CL Er_cs "part"
  xf_at : ClsX K CL Er_cs "at"
  xf_line : ClsX K CL Er_cs "line"
  xf_word : ClsX K CL Er_cs "word"
  xf_what : ClsX K CL Er_cs "what"
  xf_most : ClsX K CL Er_cs "most"
  g_PlotError : mg "PlotError" = some (.ref (CL 0))
  g_BadValue : mg "BadValue" = some (.ref (CL 1))
  g_BadNumber : mg "BadNumber" = some (.ref (CL 2))
  g_BadDeeds : mg "BadDeeds" = some (.ref (CL 3))
  g_BadText : mg "BadText" = some (.ref (CL 4))
  g_BadBytes : mg "BadBytes" = some (.ref (CL 5))
  g_Misfit : mg "Misfit" = some (.ref (CL 6))
  g_Nothing : mg "Nothing" = some (.ref (CL 7))
  g_TooMany : mg "TooMany" = some (.ref (CL 8))
  g_Paper : mg "Paper" = some (.ref (CL 9))
  g_Denial : mg "Denial" = some (.ref (CL 10))
  g_Wall : mg "Wall" = some (.ref (CL 11))
  g_Plot : mg "Plot" = some (.ref (CL 12))
  er_BadValue : Er P w K mg CL "BadValue" 1 ["part"]
  ek_BadValue : ErK P w K mg CL "BadValue" 1 ["part"] ["part"] [0]
  er_BadNumber : Er P w K mg CL "BadNumber" 2 ["part"]
  ek_BadNumber : ErK P w K mg CL "BadNumber" 2 ["part"] ["part"] [0]
  er_BadDeeds : Er P w K mg CL "BadDeeds" 3 ["at"]
  ek_BadDeeds : ErK P w K mg CL "BadDeeds" 3 ["at"] ["at"] [0]
  er_BadText : Er P w K mg CL "BadText" 4 ["line", "word"]
  ek_BadText : ErK P w K mg CL "BadText" 4 ["line", "word"] ["word", "line"] [1, 0]
  er_BadBytes : Er P w K mg CL "BadBytes" 5 ["at"]
  ek_BadBytes : ErK P w K mg CL "BadBytes" 5 ["at"] ["at"] [0]
  er_Misfit : Er P w K mg CL "Misfit" 6 ["part"]
  ek_Misfit : ErK P w K mg CL "Misfit" 6 ["part"] ["part"] [0]
  er_Nothing : Er P w K mg CL "Nothing" 7 ["word"]
  ek_Nothing : ErK P w K mg CL "Nothing" 7 ["word"] ["word"] [0]
  er_TooMany : Er P w K mg CL "TooMany" 8 ["what", "most"]
  ek_TooMany : ErK P w K mg CL "TooMany" 8 ["what", "most"] ["most", "what"] [1, 0]
section
variable {P : Program} {w : World} {K : PySem.W.Frag} {mg : Str → Option Value} {base : Heap} {CL : Nat → Addr}
theorem fns_S {x qual : Str} {st : Stmt} {f : Addr} {fd : FuncData} {k : Nat} {fs : FS} (N ps : List Str) (n m : Nat) (hn : N.length = n) (hm : ps.length = m) (F : Fun K x qual st f fd) (S : FnScope N ps (defScope st))
    (hbody : ∀ (cdv : Value) (A : Around) (outer : List Env) (s : Shared) (H : Hp) (E : XK) (B : Bd), Rm k (A.deeper (envOfC qual (defScope st) s.heap.objs.size f cdv)) → LetsT (cxOf (L2.CX P w) P w K mg base N qual (defScope st) f cdv A outer s H E) B → B.g.cl = CL →
      PSs (cxOf (L2.CX P w) P w K mg base N qual (defScope st) f cdv A outer s H E) (defBody st) (tS B K fs)) : FnG P w K mg base (k + 1) f fd ps (spS CL K m (fnS n m fs)) := fnG_S N ps n m rfl hn hm F S hbody
abbrev s_Paper_init : Stmt := sub (top 3) 0
theorem sc_Paper_init : FnScope ["self", "word", "parts"] ((["self", "word"] : List Str) ++ (["parts"] : List Str)) (defScope s_Paper_init) := ⟨rfl, rfl, rfl, by decide +kernel, rfl, by decide +kernel, by decide +kernel⟩
def b_Paper_init : FS := sSeq (sSetF [9, 10, 11, 12] "word" (eVar 0) (eCallF f_fixed (aCons (eVar 1) (aNil)))) (sSetF [9, 10, 11, 12] "parts" (eVar 0) (eCallF f_fixed (aCons (eVar 2) (aNil))))
def f_Paper_init : List Vd → Mu → T (Vd × Mu) := starS 2 (fnI 3 3 b_Paper_init)
theorem ends_Paper_init : EndsNon f_Paper_init := ends_star ends_fnI
theorem ok_Paper_init {f : Addr} {fd : FuncData} (F : Fun K "__init__" "Paper.__init__" s_Paper_init f fd) (T : Txt K w mg) (Z : Zc1 P w K mg CL) (hb : ∀ us rest : List Value, us.length = (["self", "word"] : List Str).length → bindArgs fd ⟨us ++ rest, []⟩ = (newTuple rest >>= fun t => pure ((["self", "word"] : List Str).zip us ++ [(("parts" : Str), t)]))) (c_fixed : Fn P w K mg base CL 9 "fixed" 1 f_fixed) : FnQ P w K mg base 10 f (spQ CL K f_Paper_init) := by
  have S := sc_Paper_init
  refine fnQ_starI (fnQ_star (k := 9) (fs := b_Paper_init) ["self", "word", "parts"] ["self", "word"] 3 2 rfl rfl F S hb ?_)
  intro cdv A outer s H E B hr hx hcl
  exact sss_cons (ss_setF [9, 10, 11, 12] Z.cl_word hcl (se_var 0) (se_call c_fixed ar_fixed hr (by decide) hx.lets hcl (sa_cons (se_var 1) (sa_nil)))) (sss_one (ss_setF [9, 10, 11, 12] Z.cl_parts hcl (se_var 0) (se_call c_fixed ar_fixed hr (by decide) hx.lets hcl (sa_cons (se_var 2) (sa_nil)))))
abbrev s_Paper_bool : Stmt := sub (top 3) 1
theorem sc_Paper_bool : FnScope ["self"] ["self"] (defScope s_Paper_bool) := ⟨rfl, rfl, rfl, by decide +kernel, rfl, by decide +kernel, by decide +kernel⟩
def b_Paper_bool : FS := sRet (eC (.bl true))
def f_Paper_bool : List Vd → Mu → T (Vd × Mu) := fnS 1 1 b_Paper_bool
theorem ar_Paper_bool : ArS 1 f_Paper_bool := ar_fnS
theorem ok_Paper_bool {f : Addr} {fd : FuncData} (F : Fun K "__bool__" "Paper.__bool__" s_Paper_bool f fd) (T : Txt K w mg) (Z : Zc1 P w K mg CL) : FnG P w K mg base 1 f fd ["self"] (spS CL K 1 f_Paper_bool) := by
  have S := sc_Paper_bool
  refine fns_S (k := 0) ["self"] ["self"] 1 1 (fs := b_Paper_bool) rfl rfl F S ?_
  intro cdv A outer s H E B hr hx hcl
  exact sss_one (ss_ret (se_bl))
abbrev s_Denial_bool : Stmt := sub (top 4) 0
theorem sc_Denial_bool : FnScope ["self"] ["self"] (defScope s_Denial_bool) := ⟨rfl, rfl, rfl, by decide +kernel, rfl, by decide +kernel, by decide +kernel⟩
def b_Denial_bool : FS := sRet (eC (.bl false))
def f_Denial_bool : List Vd → Mu → T (Vd × Mu) := fnS 1 1 b_Denial_bool
theorem ar_Denial_bool : ArS 1 f_Denial_bool := ar_fnS
theorem ok_Denial_bool {f : Addr} {fd : FuncData} (F : Fun K "__bool__" "Denial.__bool__" s_Denial_bool f fd) (T : Txt K w mg) (Z : Zc1 P w K mg CL) : FnG P w K mg base 1 f fd ["self"] (spS CL K 1 f_Denial_bool) := by
  have S := sc_Denial_bool
  refine fns_S (k := 0) ["self"] ["self"] 1 1 (fs := b_Denial_bool) rfl rfl F S ?_
  intro cdv A outer s H E B hr hx hcl
  exact sss_one (ss_ret (se_bl))
abbrev s_Paper_eq : Stmt := sub (top 3) 2
theorem sc_Paper_eq : FnScope ["self", "other"] ["self", "other"] (defScope s_Paper_eq) := ⟨rfl, rfl, rfl, by decide +kernel, rfl, by decide +kernel, by decide +kernel⟩
def b_Paper_eq : FS := sSeq (sIf (kOr (kNot (kTru (eCallB (opIsiO [9, 10, 11, 12] Pl_sup) (aCons (eVar 1) (aCons (eC (.cls 9)) (aNil)))))) (kBl (eOp2 opNe (eNm (nmOf CN) (eCls [9, 10, 11, 12] (eVar 0))) (eNm (nmOf CN) (eCls [9, 10, 11, 12] (eVar 1)))))) (sRet (eC (.bl false))) (sNext)) (sRet (eCallF f_are_alike (aCons (eTup (aCons (eFld [9, 10, 11, 12] "word" (eVar 0)) (aCons (eFld [9, 10, 11, 12] "parts" (eVar 0)) (aNil)))) (aCons (eTup (aCons (eFld [9, 10, 11, 12] "word" (eVar 1)) (aCons (eFld [9, 10, 11, 12] "parts" (eVar 1)) (aNil)))) (aNil)))))
def f_Paper_eq : List Vd → Mu → T (Vd × Mu) := fnS 2 2 b_Paper_eq
theorem ar_Paper_eq : ArS 2 f_Paper_eq := ar_fnS
theorem ok_Paper_eq {f : Addr} {fd : FuncData} (F : Fun K "__eq__" "Paper.__eq__" s_Paper_eq f fd) (T : Txt K w mg) (Z : Zc1 P w K mg CL) (c_are_alike : Fn P w K mg base CL 10 "are_alike" 2 f_are_alike) : FnG P w K mg base 11 f fd ["self", "other"] (spS CL K 2 f_Paper_eq) := by
  have S := sc_Paper_eq
  refine fns_S (k := 10) ["self", "other"] ["self", "other"] 2 2 (fs := b_Paper_eq) rfl rfl F S ?_
  intro cdv A outer s H E B hr hx hcl
  exact sss_cons (ss_if (PW.pt (sk_or (sk_not (sk_tru (se_isi Z.isa hcl T.m_isinstance (sa_cons (se_var 1) (sa_cons (se_clsV 9 Z.g_Paper hcl) (sa_nil)))))) (sk_or1 (sk_cmp (o_ne hr.room.units) v_ne (se_nm Z.nm hcl (Y.se_cls Z.isa hcl (se_var 0))) (se_nm Z.nm hcl (Y.se_cls Z.isa hcl (se_var 1))))))) (sss_one (ss_ret (se_bl))) (sss_nil)) (sss_one (ss_ret (se_call c_are_alike ar_are_alike hr (by decide) hx.lets hcl (sa_cons (se_tup (sa_cons (se_fld [9, 10, 11, 12] Z.cl_word hcl (se_var 0)) (sa_cons (se_fld [9, 10, 11, 12] Z.cl_parts hcl (se_var 0)) (sa_nil)))) (sa_cons (se_tup (sa_cons (se_fld [9, 10, 11, 12] Z.cl_word hcl (se_var 1)) (sa_cons (se_fld [9, 10, 11, 12] Z.cl_parts hcl (se_var 1)) (sa_nil)))) (sa_nil))))))
abbrev s_Wall_init : Stmt := sub (top 16) 0
theorem sc_Wall_init : NdefX.NScope ["self", "kinds", "lots", "__class__"] ["self", "kinds", "lots"] ["__class__"] (defScope s_Wall_init) := NdefX.nscope_by (by decide +kernel)
def a_Wall_init : FA := aCons (eC (.str "wall")) (aCons (eVar 1) (aCons (eVar 2) (aNil)))
def r_Wall_init : FS := s2F [9, 10, 11, 12] "kinds" "lots" (eVar 0) (eVar 0) (eFld [9, 10, 11, 12] "parts" (eVar 0))
def f_Wall_init : List Vd → Mu → T (Vd × Mu) := fnI 4 3 (sSeq (sSup 11 f_Paper_init a_Wall_init) r_Wall_init)
theorem ar_Wall_init : ArS 3 f_Wall_init := ar_fnI
theorem ends_Wall_init : EndsNon f_Wall_init := ends_fnI
theorem ok_Wall_init {f cc cda f2 : Addr} {fd : FuncData} (S : SuK P K (CL 11) f cc cda f2 fd "Wall.__init__" (defArgs s_Wall_init) (defBody s_Wall_init) (defScope s_Wall_init)) (T : Txt K w mg) (Z : Zc1 P w K mg CL) (G : FnQ P w K mg base 10 f2 (spQ CL K f_Paper_init)) : FnG P w K mg base 11 f fd ["self", "kinds", "lots"] (spS CL K 3 f_Wall_init) := by
  refine fnG_I (fnG_sup (k := 10) (fa := a_Wall_init) (fs := r_Wall_init) (N := ["self", "kinds", "lots", "__class__"]) _ 4 3 rfl rfl rfl rfl S sc_Wall_init rfl T.m_super G ?_ ?_)
  · intro A outer s H E B hr hx hcl
    exact sa_cons (se_str) (sa_cons (se_var 1) (sa_cons (se_var 2) (sa_nil)))
  · have S := sc_Wall_init
    intro A outer s H E B hr hx hcl
    exact sss_one (ss_2F [9, 10, 11, 12] Z.cl_kinds Z.cl_lots hcl rfl (se_var 0) (se_var 0) (se_fld [9, 10, 11, 12] Z.cl_parts hcl (se_var 0)))
abbrev s_Plot_init : Stmt := sub (top 17) 0
theorem sc_Plot_init : NdefX.NScope ["self", "deeds", "__class__"] ["self", "deeds"] ["__class__"] (defScope s_Plot_init) := NdefX.nscope_by (by decide +kernel)
def a_Plot_init : FA := aCons (eC (.str "plot")) (aCons (eVar 1) (aNil))
def r_Plot_init : FS := sSetF [9, 10, 11, 12] "deeds" (eVar 0) (eOp2 opIx (eFld [9, 10, 11, 12] "parts" (eVar 0)) (eC (.int 0)))
def f_Plot_init : List Vd → Mu → T (Vd × Mu) := fnI 3 2 (sSeq (sSup 12 f_Paper_init a_Plot_init) r_Plot_init)
theorem ar_Plot_init : ArS 2 f_Plot_init := ar_fnI
theorem ends_Plot_init : EndsNon f_Plot_init := ends_fnI
theorem ok_Plot_init {f cc cda f2 : Addr} {fd : FuncData} (S : SuK P K (CL 12) f cc cda f2 fd "Plot.__init__" (defArgs s_Plot_init) (defBody s_Plot_init) (defScope s_Plot_init)) (T : Txt K w mg) (Z : Zc1 P w K mg CL) (G : FnQ P w K mg base 10 f2 (spQ CL K f_Paper_init)) : FnG P w K mg base 11 f fd ["self", "deeds"] (spS CL K 2 f_Plot_init) := by
  refine fnG_I (fnG_sup (k := 10) (fa := a_Plot_init) (fs := r_Plot_init) (N := ["self", "deeds", "__class__"]) _ 3 2 rfl rfl rfl rfl S sc_Plot_init rfl T.m_super G ?_ ?_)
  · intro A outer s H E B hr hx hcl
    exact sa_cons (se_str) (sa_cons (se_var 1) (sa_nil))
  · have S := sc_Plot_init
    intro A outer s H E B hr hx hcl
    exact sss_one (ss_setF [9, 10, 11, 12] Z.cl_deeds hcl (se_var 0) (se_ix ix_seq v_ix (se_fld [9, 10, 11, 12] Z.cl_parts hcl (se_var 0)) (se_int)))
/-! _law_classes -/
abbrev s__law_classes : Stmt := top 22
theorem sc__law_classes : FnScope ["error", "found"] ["error"] (defScope s__law_classes) := ⟨rfl, rfl, rfl, by decide +kernel, rfl, by decide +kernel, by decide +kernel⟩
def b__law_classes : FS := sSeq (sSet 1 (eLst (aCons (eCallB (opIsX Er_all Er_sup) (aCons (eVar 0) (aCons (eC (.cls 1)) (aNil)))) (aCons (eCallB (opIsX Er_all Er_sup) (aCons (eVar 0) (aCons (eC (.cls 2)) (aNil)))) (aCons (eCallB (opIsX Er_all Er_sup) (aCons (eVar 0) (aCons (eC (.cls 3)) (aNil)))) (aCons (eCallB (opIsX Er_all Er_sup) (aCons (eVar 0) (aCons (eC (.cls 4)) (aNil)))) (aNil))))))) (sRet (eOp2 opAdd (eVar 1) (eLst (aCons (eCallB (opIsX Er_all Er_sup) (aCons (eVar 0) (aCons (eC (.cls 5)) (aNil)))) (aCons (eCallB (opIsX Er_all Er_sup) (aCons (eVar 0) (aCons (eC (.cls 6)) (aNil)))) (aCons (eCallB (opIsX Er_all Er_sup) (aCons (eVar 0) (aCons (eC (.cls 7)) (aNil)))) (aCons (eCallB (opIsX Er_all Er_sup) (aCons (eVar 0) (aCons (eC (.cls 8)) (aNil)))) (aNil))))))))
def f__law_classes : List D → T D := fnP 2 1 b__law_classes
theorem ar__law_classes : Ar 1 f__law_classes := ar_fnP
theorem ok__law_classes {f : Addr} {fd : FuncData} (F : Fun K "_law_classes" "_law_classes" s__law_classes f fd) (T : Txt K w mg) (Z : Zc1 P w K mg CL) : FnG P w K mg base 1 f fd ["error"] (spD CL K 1 f__law_classes) := by
  have S := sc__law_classes
  refine fnG_P (k := 0) ["error", "found"] ["error"] 2 1 (fs := b__law_classes) rfl rfl rfl F S ?_
  intro cdv A outer s H E B hr hx hcl hW0
  exact sss_cons (ss_set 1 S.nd (se_lst (sa_cons (se_isX Z.isx hcl T.m_isinstance (sa_cons (se_var 0) (sa_cons (se_clsV 1 Z.g_BadValue hcl) (sa_nil)))) (sa_cons (se_isX Z.isx hcl T.m_isinstance (sa_cons (se_var 0) (sa_cons (se_clsV 2 Z.g_BadNumber hcl) (sa_nil)))) (sa_cons (se_isX Z.isx hcl T.m_isinstance (sa_cons (se_var 0) (sa_cons (se_clsV 3 Z.g_BadDeeds hcl) (sa_nil)))) (sa_cons (se_isX Z.isx hcl T.m_isinstance (sa_cons (se_var 0) (sa_cons (se_clsV 4 Z.g_BadText hcl) (sa_nil)))) (sa_nil))))))) (sss_one (ss_ret (se_op o_add v_add (se_var 1) (se_lst (sa_cons (se_isX Z.isx hcl T.m_isinstance (sa_cons (se_var 0) (sa_cons (se_clsV 5 Z.g_BadBytes hcl) (sa_nil)))) (sa_cons (se_isX Z.isx hcl T.m_isinstance (sa_cons (se_var 0) (sa_cons (se_clsV 6 Z.g_Misfit hcl) (sa_nil)))) (sa_cons (se_isX Z.isx hcl T.m_isinstance (sa_cons (se_var 0) (sa_cons (se_clsV 7 Z.g_Nothing hcl) (sa_nil)))) (sa_cons (se_isX Z.isx hcl T.m_isinstance (sa_cons (se_var 0) (sa_cons (se_clsV 8 Z.g_TooMany hcl) (sa_nil)))) (sa_nil)))))))))
end
end V

set_option Elab.async false
set_option linter.all false
set_option maxRecDepth 100000
set_option maxHeartbeats 4000000
namespace V
open PySem PySem.Spec PyProof.Rows L2 Y
/-! slots: 0 script 1 pen 2 turn 3 told 4 due 5 by_place 6 by_name 7 some 8 one 9 other 10 wall 11 plot 12 paper 13 denial 14 kept 15 lap 16 at 17 error 18 value 19 spot -/
abbrev s_law : Stmt := top 23
theorem sc_law : FnScope ["script", "pen", "turn", "told", "due", "by_place", "by_name", "some", "one", "other", "wall", "plot", "paper", "denial", "kept", "lap", "at", "error", "value", "spot"] ["script"] (defScope s_law) := ⟨rfl, rfl, rfl, by decide +kernel, rfl, by decide +kernel, by decide +kernel⟩
/-- for some in (by_place, by_name): -/
def u_15 : FS := sFor (.one 7) (aSeq (eTup (aCons (eVar 5) (aCons (eVar 6) (aNil))))) (sSeq (sSet 14 (eLst (aCons (eOp1 (fldX Er_cs "part") (eOp2 opIx (eVar 7) (eC (.int 0)))) (aCons (eOp1 (fldX Er_cs "part") (eOp2 opIx (eVar 7) (eC (.int 1)))) (aCons (eOp1 (fldX Er_cs "at") (eOp2 opIx (eVar 7) (eC (.int 2)))) (aCons (eOp1 (fldX Er_cs "line") (eOp2 opIx (eVar 7) (eC (.int 3)))) (aCons (eOp1 (fldX Er_cs "at") (eOp2 opIx (eVar 7) (eC (.int 4)))) (aCons (eOp1 (fldX Er_cs "part") (eOp2 opIx (eVar 7) (eC (.int 5)))) (aCons (eOp1 (fldX Er_cs "word") (eOp2 opIx (eVar 7) (eC (.int 6)))) (aCons (eOp1 (fldX Er_cs "what") (eOp2 opIx (eVar 7) (eC (.int 7)))) (aNil))))))))))) (sSeq (sIf (kOr (kBl (eOp2 opNe (eComp (.one 18) (aSeq (eVar 14)) (kBl (eOp2 opNe (eCallB (op1 opReprX) (aCons (eVar 18) (aNil))) (eCallB (op1 opReprX) (aCons (eVar 8) (aNil))))) (eVar 18)) (eLst (aNil)))) (kBl (eOp2 opNe (eCallB (op1 opReprX) (aCons (eLst (aCons (eOp1 (fldX Er_cs "word") (eOp2 opIx (eVar 7) (eC (.int 3)))) (aCons (eOp1 (fldX Er_cs "most") (eOp2 opIx (eVar 7) (eC (.int 7)))) (aNil)))) (aNil))) (eCallB (op1 opReprX) (aCons (eOp2 opMul (eLst (aCons (eVar 9) (aNil))) (eC (.int 2))) (aNil)))))) (sRet (eC (.bl false))) (sNext)) (sSeq (sIf (kBl (eOp2 opNe (eComp (.one 17) (aSeq (eVar 7)) (kOr (kNot (kTru (eCallB (opIsX Er_all Er_sup) (aCons (eVar 17) (aCons (eC (.cls 0)) (aNil)))))) (kNot (kTru (eIsVE Er_cs (eVar 17))))) (eVar 17)) (eLst (aNil)))) (sRet (eC (.bl false))) (sNext)) (sFor (.tup [16, 17]) (aEnum (aCons (eVar 7) (aNil))) (sIf (kBl (eOp2 opNe (eCallF f__law_classes (aCons (eVar 17) (aNil))) (eComp (.one 19) (aRng (aCons (eC (.int 8)) (aNil))) (kYes) (eOp2 opEq (eVar 19) (eVar 16))))) (sRet (eC (.bl false))) (sNext))))))
def t_15 : FS := u_15
/-- by_name = [BadValue(part=one), BadNumber(part=one), BadDeeds(at=one), BadText(word=other,  -/
def u_14 : FS := sSet 6 (eLst (aCons (eErr 1 ["part"] (aPick 1 [0] (aCons (eVar 8) (aNil)))) (aCons (eErr 2 ["part"] (aPick 1 [0] (aCons (eVar 8) (aNil)))) (aCons (eErr 3 ["at"] (aPick 1 [0] (aCons (eVar 8) (aNil)))) (aCons (eErr 4 ["line", "word"] (aPick 2 [1, 0] (aCons (eVar 9) (aCons (eVar 8) (aNil))))) (aCons (eErr 5 ["at"] (aPick 1 [0] (aCons (eVar 8) (aNil)))) (aCons (eErr 6 ["part"] (aPick 1 [0] (aCons (eVar 8) (aNil)))) (aCons (eErr 7 ["word"] (aPick 1 [0] (aCons (eVar 8) (aNil)))) (aCons (eErr 8 ["what", "most"] (aPick 2 [1, 0] (aCons (eVar 9) (aCons (eVar 8) (aNil))))) (aNil))))))))))
def t_14 : FS := sSeq u_14 t_15
/-- by_place = [BadValue(one), BadNumber(one), BadDeeds(one), BadText(one, other), BadBytes(on -/
def u_13 : FS := sSet 5 (eLst (aCons (eErr 1 ["part"] (aCons (eVar 8) (aNil))) (aCons (eErr 2 ["part"] (aCons (eVar 8) (aNil))) (aCons (eErr 3 ["at"] (aCons (eVar 8) (aNil))) (aCons (eErr 4 ["line", "word"] (aCons (eVar 8) (aCons (eVar 9) (aNil)))) (aCons (eErr 5 ["at"] (aCons (eVar 8) (aNil))) (aCons (eErr 6 ["part"] (aCons (eVar 8) (aNil))) (aCons (eErr 7 ["word"] (aCons (eVar 8) (aNil))) (aCons (eErr 8 ["what", "most"] (aCons (eVar 8) (aCons (eVar 9) (aNil)))) (aNil))))))))))
def t_13 : FS := sSeq u_13 t_14
/-- if Paper('x', 1) == Paper('x', True) or Paper('x', 1) == Paper('y', 1) or Paper('x', [1])  -/
def u_12 : FS := sIf (kOr (kBl (eOwn [9] 9 f_Paper_eq (eCallF (mkD 9 f_Paper_init) (aCons (eC (.str "x")) (aCons (eC (.int 1)) (aNil)))) (eCallF (mkD 9 f_Paper_init) (aCons (eC (.str "x")) (aCons (eC (.bl true)) (aNil)))))) (kOr (kBl (eOwn [9] 9 f_Paper_eq (eCallF (mkD 9 f_Paper_init) (aCons (eC (.str "x")) (aCons (eC (.int 1)) (aNil)))) (eCallF (mkD 9 f_Paper_init) (aCons (eC (.str "y")) (aCons (eC (.int 1)) (aNil)))))) (kBl (eOwnN [9] 9 f_Paper_eq (eCallF (mkD 9 f_Paper_init) (aCons (eC (.str "x")) (aCons (eLst (aCons (eC (.int 1)) (aNil))) (aNil)))) (eCallF (mkD 9 f_Paper_init) (aCons (eC (.str "x")) (aCons (eTup (aCons (eC (.int 1)) (aNil))) (aNil)))))))) (sRet (eC (.bl false))) (sNext)
def t_12 : FS := sSeq u_12 t_13
/-- if not isinstance(wall, Paper) or isinstance(wall, Denial) or (not isinstance(plot, Denial -/
def u_11 : FS := sIf (kOr (kNot (kTru (eCallB (opIsiO [9, 10, 11, 12] Pl_sup) (aCons (eVar 10) (aCons (eC (.cls 9)) (aNil)))))) (kOr (kTru (eCallB (opIsiO [9, 10, 11, 12] Pl_sup) (aCons (eVar 10) (aCons (eC (.cls 10)) (aNil))))) (kOr (kNot (kTru (eCallB (opIsiO [9, 10, 11, 12] Pl_sup) (aCons (eVar 11) (aCons (eC (.cls 10)) (aNil)))))) (kNot (kTru (eCallB (opIsiO [9, 10, 11, 12] Pl_sup) (aCons (eVar 13) (aCons (eC (.cls 9)) (aNil))))))))) (sRet (eC (.bl false))) (sNext)
def t_11 : FS := sSeq u_11 t_12
/-- if repr([paper.word, paper.parts, bool(paper), denial.word, denial.parts, bool(denial)]) ! -/
def u_10 : FS := sIf (kBl (eOp2 opNe (eCallB (op1 opReprX) (aCons (eLst (aCons (eFld [9, 10, 11, 12] "word" (eVar 12)) (aCons (eFld [9, 10, 11, 12] "parts" (eVar 12)) (aCons (eBoolO 9 f_Paper_bool (eVar 12)) (aCons (eFld [9, 10, 11, 12] "word" (eVar 13)) (aCons (eFld [9, 10, 11, 12] "parts" (eVar 13)) (aCons (eBoolO 10 f_Denial_bool (eVar 13)) (aNil)))))))) (aNil))) (eCallB (op1 opReprX) (aCons (eLst (aCons (eC (.str "x")) (aCons (eTup (aCons (eCallF f_fixed (aCons (eVar 8) (aNil))) (aCons (eCallF f_fixed (aCons (eVar 9) (aNil))) (aNil)))) (aCons (eC (.bl true)) (aCons (eC (.str "y")) (aCons (eTup (aCons (eCallF f_fixed (aCons (eVar 8) (aNil))) (aNil))) (aCons (eC (.bl false)) (aNil)))))))) (aNil))))) (sRet (eC (.bl false))) (sNext)
def t_10 : FS := sSeq u_10 t_11
/-- paper, denial = (Paper('x', one, other), Denial('y', one)) -/
def u_9 : FS := sSet2 12 13 (eCallF (mkD 9 f_Paper_init) (aCons (eC (.str "x")) (aCons (eVar 8) (aCons (eVar 9) (aNil))))) (eCallF (mkD 10 f_Paper_init) (aCons (eC (.str "y")) (aCons (eVar 8) (aNil))))
def t_9 : FS := sSeq u_9 t_10
/-- if (plot == Plot(other)) != (repr(fixed(one)) == repr(fixed(other))) or (plot != Plot(othe -/
def u_8 : FS := sIf (kOr (kBl (eOp2 opNe (eOwn [9, 10, 11, 12] 12 f_Paper_eq (eVar 11) (eCallF (mkD 12 f_Plot_init) (aCons (eVar 9) (aNil)))) (eOp2 opEq (eCallB (op1 opReprX) (aCons (eCallF f_fixed (aCons (eVar 8) (aNil))) (aNil))) (eCallB (op1 opReprX) (aCons (eCallF f_fixed (aCons (eVar 9) (aNil))) (aNil)))))) (kBl (eOp2 opNe (eOwnN [9, 10, 11, 12] 12 f_Paper_eq (eVar 11) (eCallF (mkD 12 f_Plot_init) (aCons (eVar 9) (aNil)))) (eOp2 opNe (eCallB (op1 opReprX) (aCons (eCallF f_fixed (aCons (eVar 8) (aNil))) (aNil))) (eCallB (op1 opReprX) (aCons (eCallF f_fixed (aCons (eVar 9) (aNil))) (aNil))))))) (sRet (eC (.bl false))) (sNext)
def t_8 : FS := sSeq u_8 t_9
/-- if wall != Wall(lots=other, kinds=one) or plot != Plot(deeds=one) or wall == plot or (plot -/
def u_7 : FS := sIf (kOr (kBl (eOwnN [9, 10, 11, 12] 11 f_Paper_eq (eVar 10) (eCallF (mkD 11 f_Wall_init) (aPick 2 [1, 0] (aCons (eVar 9) (aCons (eVar 8) (aNil))))))) (kOr (kBl (eOwnN [9, 10, 11, 12] 12 f_Paper_eq (eVar 11) (eCallF (mkD 12 f_Plot_init) (aPick 1 [0] (aCons (eVar 8) (aNil)))))) (kOr (kBl (eOwn [9, 10, 11, 12] 11 f_Paper_eq (eVar 10) (eVar 11))) (kOr (kBl (eOwn [9, 10, 11, 12] 12 f_Paper_eq (eVar 11) (eCallF (mkD 9 f_Paper_init) (aCons (eC (.str "plot")) (aCons (eVar 8) (aNil)))))) (kOr (kBl (eOwn [9, 10, 11, 12] 12 f_Paper_eq (eVar 11) (eCallF (mkD 10 f_Paper_init) (aCons (eC (.str "plot")) (aCons (eVar 8) (aNil)))))) (kBl (eOwn [9, 10, 11, 12] 11 f_Paper_eq (eVar 10) (eTup (aCons (eVar 8) (aCons (eVar 9) (aNil))))))))))) (sRet (eC (.bl false))) (sNext)
def t_7 : FS := sSeq u_7 t_8
/-- if repr([plot.word, plot.deeds, plot.parts, bool(plot)]) != repr(['plot', fixed(one), (fix -/
def u_6 : FS := sIf (kBl (eOp2 opNe (eCallB (op1 opReprX) (aCons (eLst (aCons (eFld [9, 10, 11, 12] "word" (eVar 11)) (aCons (eFld [9, 10, 11, 12] "deeds" (eVar 11)) (aCons (eFld [9, 10, 11, 12] "parts" (eVar 11)) (aCons (eBoolO 12 f_Denial_bool (eVar 11)) (aNil)))))) (aNil))) (eCallB (op1 opReprX) (aCons (eLst (aCons (eC (.str "plot")) (aCons (eCallF f_fixed (aCons (eVar 8) (aNil))) (aCons (eTup (aCons (eCallF f_fixed (aCons (eVar 8) (aNil))) (aNil))) (aCons (eC (.bl false)) (aNil)))))) (aNil))))) (sRet (eC (.bl false))) (sNext)
def t_6 : FS := sSeq u_6 t_7
/-- if repr([wall.word, wall.kinds, wall.lots, wall.parts, bool(wall)]) != repr(['wall', fixed -/
def u_5 : FS := sIf (kBl (eOp2 opNe (eCallB (op1 opReprX) (aCons (eLst (aCons (eFld [9, 10, 11, 12] "word" (eVar 10)) (aCons (eFld [9, 10, 11, 12] "kinds" (eVar 10)) (aCons (eFld [9, 10, 11, 12] "lots" (eVar 10)) (aCons (eFld [9, 10, 11, 12] "parts" (eVar 10)) (aCons (eBoolO 11 f_Paper_bool (eVar 10)) (aNil))))))) (aNil))) (eCallB (op1 opReprX) (aCons (eLst (aCons (eC (.str "wall")) (aCons (eCallF f_fixed (aCons (eVar 8) (aNil))) (aCons (eCallF f_fixed (aCons (eVar 9) (aNil))) (aCons (eTup (aCons (eCallF f_fixed (aCons (eVar 8) (aNil))) (aCons (eCallF f_fixed (aCons (eVar 9) (aNil))) (aNil)))) (aCons (eC (.bl true)) (aNil))))))) (aNil))))) (sRet (eC (.bl false))) (sNext)
def t_5 : FS := sSeq u_5 t_6
/-- wall, plot = (Wall(one, other), Plot(one)) -/
def u_4 : FS := sSet2 10 11 (eCallF (mkD 11 f_Wall_init) (aCons (eVar 8) (aCons (eVar 9) (aNil)))) (eCallF (mkD 12 f_Plot_init) (aCons (eVar 8) (aNil)))
def t_4 : FS := sSeq u_4 t_5
/-- if repr(told) != due or repr(fixed(value=[one, (one,)])) != '(' + due + ', (' + due + ',)) -/
def u_3 : FS := sIf (kOr (kBl (eOp2 opNe (eCallB (op1 opReprX) (aCons (eVar 3) (aNil))) (eVar 4))) (kBl (eOp2 opNe (eCallB (op1 opReprX) (aCons (eCallF f_fixed (aPick 1 [0] (aCons (eLst (aCons (eVar 8) (aCons (eTup (aCons (eVar 8) (aNil))) (aNil)))) (aNil)))) (aNil))) (eOp2 opAdd (eOp2 opAdd (eOp2 opAdd (eOp2 opAdd (eC (.str "(")) (eVar 4)) (eC (.str ", ("))) (eVar 4)) (eC (.str ",))")))))) (sRet (eC (.bl false))) (sNext)
def t_3 : FS := sSeq u_3 t_4
/-- due = {'[1, [2, (3,)]]': '(1, (2, (3,)))', '([], [[]])': '((), ((),))'}.get(repr(one), rep -/
def u_2 : FS := sSet 4 (eGet2 (eDic [.inr "[1, [2, (3,)]]", .inr "([], [[]])"] (aCons (eC (.str "(1, (2, (3,)))")) (aCons (eC (.str "((), ((),))")) (aNil)))) (eCallB (op1 opReprX) (aCons (eVar 8) (aNil))) (eCallB (op1 opReprX) (aCons (eVar 8) (aNil))))
def t_2 : FS := sSeq u_2 t_3
/-- told = fixed(one) -/
def u_1 : FS := sSet 3 (eCallF f_fixed (aCons (eVar 8) (aNil)))
def t_1 : FS := sSeq u_1 t_2
/-- one, other = [_law_pick(pen, [None, 5, True, 1, 'x', [1, [2, (3,)]], ([], [[]]), {'a': [1] -/
def u_0 : FS := sUnl [8, 9] (eComp (.one 15) (aRng (aCons (eC (.int 2)) (aNil))) (kYes) (eCallF f__law_pick (aCons (eVar 1) (aCons (eLst (aCons (eC .non) (aCons (eC (.int 5)) (aCons (eC (.bl true)) (aCons (eC (.int 1)) (aCons (eC (.str "x")) (aCons (eLst (aCons (eC (.int 1)) (aCons (eLst (aCons (eC (.int 2)) (aCons (eTup (aCons (eC (.int 3)) (aNil))) (aNil)))) (aNil)))) (aCons (eTup (aCons (eLst (aNil)) (aCons (eLst (aCons (eLst (aNil)) (aNil))) (aNil)))) (aCons (eDic [.inr "a"] (aCons (eLst (aCons (eC (.int 1)) (aNil))) (aNil))) (aCons (eTup (aCons (eC (.str "mark")) (aCons (eC (.str "m")) (aNil)))) (aNil))))))))))) (aNil)))))
def t_0 : FS := sSeq u_0 t_1
def b_law : FS := sSeq (sFor (.one 2) (aRng (aCons (eC (.int 20)) (aNil))) t_0) (sRet (eC (.bl true)))
def spLaw (K : PySem.W.Frag) : Sp := fun vs H Q _ => ∃ (s : Addr) (ns : List Int), vs = [.ref s] ∧ SqL K H s (ns.map V.int) ∧ ns.length ≤ 63 ∧ ∀ H2, Q (.bl true) H2
structure Zc (P : Program) (w : World) (K : PySem.W.Frag) (mg : Str → Option Value) (base : Heap) (CL : Nat → Addr) : Prop extends Zc1 P w K mg CL where
  eq9 : EqK P w K mg base CL [9] 11 9 f_Paper_eq
  ne9 : NeK K CL 9
  eq11 : EqK P w K mg base CL [9, 10, 11, 12] 11 11 f_Paper_eq
  ne11 : NeK K CL 11
  eq12 : EqK P w K mg base CL [9, 10, 11, 12] 11 12 f_Paper_eq
  ne12 : NeK K CL 12
  bo9 : BoK P w K mg base CL 1 9 f_Paper_bool
  bo10 : BoK P w K mg base CL 1 10 f_Denial_bool
  bo11 : BoK P w K mg base CL 1 11 f_Paper_bool
  bo12 : BoK P w K mg base CL 1 12 f_Denial_bool
  kq_Paper : KlQ P w K mg base CL 10 "Paper" 9 f_Paper_init
  kq_Denial : KlQ P w K mg base CL 10 "Denial" 10 f_Paper_init
  kl_Wall : Kl P w K mg base CL 11 "Wall" 11 2 f_Wall_init
  kl_Plot : Kl P w K mg base CL 11 "Plot" 12 1 f_Plot_init
  kk_Plot : KlK P w K mg base CL 11 "Plot" 12 1 ["deeds"] [0] f_Plot_init
  kk_Wall : KlK P w K mg base CL 11 "Wall" 11 2 ["lots", "kinds"] [1, 0] f_Wall_init
section
variable {P : Program} {w : World} {K : PySem.W.Frag} {mg : Str → Option Value} {base : Heap} {CL : Nat → Addr}
theorem ok_law (plain : (b_law (penEnv 20) []).All 4194304 (fun r _ => ∃ ρ, r = .rt (.t (.bl true)) ρ) (fun _ _ _ _ => False)) (hS : ∃ o, base.get? sysModules = some o) {f fp : Addr} {fd fdp : FuncData} (F : Fun K "law" "law" s_law f fd) (T : Txt K w mg) (Z : Zc P w K mg base CL)
    (mp : mg "_law_pen" = some (.ref fp)) (FP : Fun K "_law_pen" "_law_pen" s_law_pen fp fdp) (bp : Binds K fdp ["script"] []) (c__law_classes : Fn P w K mg base CL 1 "_law_classes" 1 f__law_classes) (c__law_pick : Fn P w K mg base CL 2 "_law_pick" 2 f__law_pick) (c_fixed : Fn P w K mg base CL 9 "fixed" 1 f_fixed) (k_fixed__value : FnK P w K mg base CL 9 "fixed" 1 ["value"] [0] f_fixed) : FnG P w K mg base 13 f fd ["script"] (spLaw K) := by
  have S := sc_law
  refine fnG_raw F S (fun vs H Q E h => by obtain ⟨s, ns, rfl, _⟩ := h; rfl) fun cdv A outer s0 H vs Q E hr h => ?_
  obtain ⟨s, ns, rfl, hs, hl, fin⟩ := h
  have G := ok_law_pen (P := P) (w := w) (base := base) FP T.m_int
  refine ⟨_, pss_cons (ps_set (i := 1) S.nd rfl (by first | exact Or.inl rfl | exact Or.inr rfl) (pe_callG G (hr.mono (by decide)) mp FP.kp bp passL (pa_cons (pv 0) pa_nil))) (rest_by (X := cxOf (L2.CX P w) P w K mg base ["script", "pen", "turn", "told", "due", "by_place", "by_name", "some", "one", "other", "wall", "plot", "paper", "denial", "kept", "lap", "at", "error", "value", "spot"] "law" (defScope s_law) f cdv A outer s0 H E) (fs := b_law) (fun B => LetsT (cxOf (L2.CX P w) P w K mg base ["script", "pen", "turn", "told", "due", "by_place", "by_name", "some", "one", "other", "wall", "plot", "paper", "denial", "kept", "lap", "at", "error", "value", "spot"] "law" (defScope s_law) f cdv A outer s0 H E) B ∧ B.g.cl = CL) fun B hB => ?D), ?_⟩
  case D =>
    obtain ⟨hx, hcl⟩ := hB
    exact sss_cons (ss_for (passes_of rfl) rfl (si_rng T.m_range (sa_cons (se_int) (sa_nil))) (sg_one 2 S.nd) (sss_cons (ss_unl rfl (se_comp (tg := .one 15) (own := [("lap", 15)]) rfl S.nd (si_rng T.m_range (sa_cons (se_int) (sa_nil))) (blkOk_by rfl) rfl (fun _ _ _ _ _ => sg_one 15 S.nd) (fun _ _ _ _ _ => pts_nil) tt_yes (fun _ _ _ _ _ => se_call c__law_pick ar__law_pick hr (by decide) (Lets.no fun _ _ _ _ h => h) hcl (sa_cons (se_var 1) (sa_cons (se_lst (sa_cons (se_non) (sa_cons (se_int) (sa_cons (se_bl) (sa_cons (se_int) (sa_cons (se_str) (sa_cons (se_lst (sa_cons (se_int) (sa_cons (se_lst (sa_cons (se_int) (sa_cons (se_tup (sa_cons (se_int) (sa_nil))) (sa_nil)))) (sa_nil)))) (sa_cons (se_tup (sa_cons (se_lst (sa_nil)) (sa_cons (se_lst (sa_cons (se_lst (sa_nil)) (sa_nil))) (sa_nil)))) (sa_cons (se_dic (sp_cons (kd := .inr "a") pe_str (se_lst (sa_cons (se_int) (sa_nil))) (sp_nil)) (by decide) rfl rfl (by exact fun z => nomatch z) (by decide) (by decide)) (sa_cons (se_tup (sa_cons (se_str) (sa_cons (se_str) (sa_nil)))) (sa_nil))))))))))) (sa_nil))))) (sg_cons 8 S.nd (sg_cons 9 S.nd (sg_nil)))) (sss_cons (ss_set 3 S.nd (se_call c_fixed ar_fixed hr (by decide) hx.lets hcl (sa_cons (se_var 8) (sa_nil)))) (sss_cons (ss_set 4 S.nd (se_get2 hr.u1 (se_dic (sp_cons (kd := .inr "[1, [2, (3,)]]") pe_str (se_str) (sp_cons (kd := .inr "([], [[]])") pe_str (se_str) (sp_nil))) (by decide) rfl rfl (by exact fun z => nomatch z) (by decide) (by decide)) (se_callB (call_reprX hr.gd hr.u200 hS) vc_reprX T.m_repr (sa_cons (se_var 8) (sa_nil)) (hb := bt_repr)) (se_callB (call_reprX hr.gd hr.u200 hS) vc_reprX T.m_repr (sa_cons (se_var 8) (sa_nil)) (hb := bt_repr)) ⟨rfl, rfl, rfl, rfl⟩)) (sss_cons (ss_if (PW.pt (sk_or (sk_cmp (o_ne hr.room.units) v_ne (se_callB (call_reprX hr.gd hr.u200 hS) vc_reprX T.m_repr (sa_cons (se_var 3) (sa_nil)) (hb := bt_repr)) (se_var 4)) (sk_or1 (sk_cmp (o_ne hr.room.units) v_ne (se_callB (call_reprX hr.gd hr.u200 hS) vc_reprX T.m_repr (sa_cons (se_callK 1 [0] k_fixed__value rfl ar_fixed hr (by decide) hx.lets hcl (sn_cons (se_lst (sa_cons (se_var 8) (sa_cons (se_tup (sa_cons (se_var 8) (sa_nil))) (sa_nil)))) (sn_nil))) (sa_nil)) (hb := bt_repr)) (se_op o_add v_add (se_op o_add v_add (se_op o_add v_add (se_op o_add v_add (se_str) (se_var 4)) (se_str)) (se_var 4)) (se_str)))))) (sss_one (ss_ret (se_bl))) (sss_nil)) (sss_cons (ss_set2 10 11 rfl S.nd (se_make Z.kl_Wall (ar_mkD ar_Wall_init) ends_Wall_init hr (by decide) hx.lets hcl (sa_cons (se_var 8) (sa_cons (se_var 9) (sa_nil)))) (se_make Z.kl_Plot (ar_mkD ar_Plot_init) ends_Plot_init hr (by decide) hx.lets hcl (sa_cons (se_var 8) (sa_nil)))) (sss_cons (ss_if (sk_cmp (o_ne hr.room.units) v_ne (se_callB (call_reprX hr.gd hr.u200 hS) vc_reprX T.m_repr (sa_cons (se_lst (sa_cons (se_fld [9, 10, 11, 12] Z.cl_word hcl (se_var 10)) (sa_cons (se_fld [9, 10, 11, 12] Z.cl_kinds hcl (se_var 10)) (sa_cons (se_fld [9, 10, 11, 12] Z.cl_lots hcl (se_var 10)) (sa_cons (se_fld [9, 10, 11, 12] Z.cl_parts hcl (se_var 10)) (sa_cons (se_boolO Z.bo11 hr (by decide) hx.lets hcl T.m_bool (se_var 10)) (sa_nil))))))) (sa_nil)) (hb := bt_repr)) (se_callB (call_reprX hr.gd hr.u200 hS) vc_reprX T.m_repr (sa_cons (se_lst (sa_cons (se_str) (sa_cons (se_call c_fixed ar_fixed hr (by decide) hx.lets hcl (sa_cons (se_var 8) (sa_nil))) (sa_cons (se_call c_fixed ar_fixed hr (by decide) hx.lets hcl (sa_cons (se_var 9) (sa_nil))) (sa_cons (se_tup (sa_cons (se_call c_fixed ar_fixed hr (by decide) hx.lets hcl (sa_cons (se_var 8) (sa_nil))) (sa_cons (se_call c_fixed ar_fixed hr (by decide) hx.lets hcl (sa_cons (se_var 9) (sa_nil))) (sa_nil)))) (sa_cons (se_bl) (sa_nil))))))) (sa_nil)) (hb := bt_repr))) (sss_one (ss_ret (se_bl))) (sss_nil)) (sss_cons (ss_if (sk_cmp (o_ne hr.room.units) v_ne (se_callB (call_reprX hr.gd hr.u200 hS) vc_reprX T.m_repr (sa_cons (se_lst (sa_cons (se_fld [9, 10, 11, 12] Z.cl_word hcl (se_var 11)) (sa_cons (se_fld [9, 10, 11, 12] Z.cl_deeds hcl (se_var 11)) (sa_cons (se_fld [9, 10, 11, 12] Z.cl_parts hcl (se_var 11)) (sa_cons (se_boolO Z.bo12 hr (by decide) hx.lets hcl T.m_bool (se_var 11)) (sa_nil)))))) (sa_nil)) (hb := bt_repr)) (se_callB (call_reprX hr.gd hr.u200 hS) vc_reprX T.m_repr (sa_cons (se_lst (sa_cons (se_str) (sa_cons (se_call c_fixed ar_fixed hr (by decide) hx.lets hcl (sa_cons (se_var 8) (sa_nil))) (sa_cons (se_tup (sa_cons (se_call c_fixed ar_fixed hr (by decide) hx.lets hcl (sa_cons (se_var 8) (sa_nil))) (sa_nil))) (sa_cons (se_bl) (sa_nil)))))) (sa_nil)) (hb := bt_repr))) (sss_one (ss_ret (se_bl))) (sss_nil)) (sss_cons (ss_if (PW.pt (sk_or (sk_ownN Z.eq11 Z.ne11 Z.isa ar_Paper_eq hr hr.u1 (by decide) hx.lets hcl (se_var 10) (se_makeK 2 [1, 0] Z.kk_Wall rfl (ar_mkD ar_Wall_init) ends_Wall_init hr (by decide) hx.lets hcl (sn_cons (se_var 9) (sn_cons (se_var 8) (sn_nil))))) (sk_or (sk_ownN Z.eq12 Z.ne12 Z.isa ar_Paper_eq hr hr.u1 (by decide) hx.lets hcl (se_var 11) (se_makeK 1 [0] Z.kk_Plot rfl (ar_mkD ar_Plot_init) ends_Plot_init hr (by decide) hx.lets hcl (sn_cons (se_var 8) (sn_nil)))) (sk_or (sk_own Z.eq11 Z.isa ar_Paper_eq hr (Nat.lt_of_succ_lt hr.u1) (by decide) hx.lets hcl (se_var 10) (se_var 11)) (sk_or (sk_own Z.eq12 Z.isa ar_Paper_eq hr (Nat.lt_of_succ_lt hr.u1) (by decide) hx.lets hcl (se_var 11) (se_makeQ Z.kq_Paper ends_Paper_init hr (by decide) hx.lets hcl (sa_cons (se_str) (sa_cons (se_var 8) (sa_nil))))) (sk_or (sk_own Z.eq12 Z.isa ar_Paper_eq hr (Nat.lt_of_succ_lt hr.u1) (by decide) hx.lets hcl (se_var 11) (se_makeQ Z.kq_Denial ends_Paper_init hr (by decide) hx.lets hcl (sa_cons (se_str) (sa_cons (se_var 8) (sa_nil))))) (sk_or1 (sk_own Z.eq11 Z.isa ar_Paper_eq hr (Nat.lt_of_succ_lt hr.u1) (by decide) hx.lets hcl (se_var 10) (se_tup (sa_cons (se_var 8) (sa_cons (se_var 9) (sa_nil)))))))))))) (sss_one (ss_ret (se_bl))) (sss_nil)) (sss_cons (ss_if (PW.pt (sk_or (sk_cmp (o_ne hr.room.units) v_ne (se_own Z.eq12 Z.isa ar_Paper_eq hr (Nat.lt_of_succ_lt hr.u1) (by decide) hx.lets hcl (se_var 11) (se_make Z.kl_Plot (ar_mkD ar_Plot_init) ends_Plot_init hr (by decide) hx.lets hcl (sa_cons (se_var 9) (sa_nil)))) (se_cmp (o_eq hr.room.units) v_eq (se_callB (call_reprX hr.gd hr.u200 hS) vc_reprX T.m_repr (sa_cons (se_call c_fixed ar_fixed hr (by decide) hx.lets hcl (sa_cons (se_var 8) (sa_nil))) (sa_nil)) (hb := bt_repr)) (se_callB (call_reprX hr.gd hr.u200 hS) vc_reprX T.m_repr (sa_cons (se_call c_fixed ar_fixed hr (by decide) hx.lets hcl (sa_cons (se_var 9) (sa_nil))) (sa_nil)) (hb := bt_repr)))) (sk_or1 (sk_cmp (o_ne hr.room.units) v_ne (se_ownN Z.eq12 Z.ne12 Z.isa ar_Paper_eq hr hr.u1 (by decide) hx.lets hcl (se_var 11) (se_make Z.kl_Plot (ar_mkD ar_Plot_init) ends_Plot_init hr (by decide) hx.lets hcl (sa_cons (se_var 9) (sa_nil)))) (se_cmp (o_ne hr.room.units) v_ne (se_callB (call_reprX hr.gd hr.u200 hS) vc_reprX T.m_repr (sa_cons (se_call c_fixed ar_fixed hr (by decide) hx.lets hcl (sa_cons (se_var 8) (sa_nil))) (sa_nil)) (hb := bt_repr)) (se_callB (call_reprX hr.gd hr.u200 hS) vc_reprX T.m_repr (sa_cons (se_call c_fixed ar_fixed hr (by decide) hx.lets hcl (sa_cons (se_var 9) (sa_nil))) (sa_nil)) (hb := bt_repr))))))) (sss_one (ss_ret (se_bl))) (sss_nil)) (sss_cons (ss_set2 12 13 rfl S.nd (se_makeQ Z.kq_Paper ends_Paper_init hr (by decide) hx.lets hcl (sa_cons (se_str) (sa_cons (se_var 8) (sa_cons (se_var 9) (sa_nil))))) (se_makeQ Z.kq_Denial ends_Paper_init hr (by decide) hx.lets hcl (sa_cons (se_str) (sa_cons (se_var 8) (sa_nil))))) (sss_cons (ss_if (sk_cmp (o_ne hr.room.units) v_ne (se_callB (call_reprX hr.gd hr.u200 hS) vc_reprX T.m_repr (sa_cons (se_lst (sa_cons (se_fld [9, 10, 11, 12] Z.cl_word hcl (se_var 12)) (sa_cons (se_fld [9, 10, 11, 12] Z.cl_parts hcl (se_var 12)) (sa_cons (se_boolO Z.bo9 hr (by decide) hx.lets hcl T.m_bool (se_var 12)) (sa_cons (se_fld [9, 10, 11, 12] Z.cl_word hcl (se_var 13)) (sa_cons (se_fld [9, 10, 11, 12] Z.cl_parts hcl (se_var 13)) (sa_cons (se_boolO Z.bo10 hr (by decide) hx.lets hcl T.m_bool (se_var 13)) (sa_nil)))))))) (sa_nil)) (hb := bt_repr)) (se_callB (call_reprX hr.gd hr.u200 hS) vc_reprX T.m_repr (sa_cons (se_lst (sa_cons (se_str) (sa_cons (se_tup (sa_cons (se_call c_fixed ar_fixed hr (by decide) hx.lets hcl (sa_cons (se_var 8) (sa_nil))) (sa_cons (se_call c_fixed ar_fixed hr (by decide) hx.lets hcl (sa_cons (se_var 9) (sa_nil))) (sa_nil)))) (sa_cons (se_bl) (sa_cons (se_str) (sa_cons (se_tup (sa_cons (se_call c_fixed ar_fixed hr (by decide) hx.lets hcl (sa_cons (se_var 8) (sa_nil))) (sa_nil))) (sa_cons (se_bl) (sa_nil)))))))) (sa_nil)) (hb := bt_repr))) (sss_one (ss_ret (se_bl))) (sss_nil)) (sss_cons (ss_if (PW.pt (sk_or (sk_not (sk_tru (se_isi Z.isa hcl T.m_isinstance (sa_cons (se_var 10) (sa_cons (se_clsV 9 Z.g_Paper hcl) (sa_nil)))))) (sk_or (sk_tru (se_isi Z.isa hcl T.m_isinstance (sa_cons (se_var 10) (sa_cons (se_clsV 10 Z.g_Denial hcl) (sa_nil))))) (sk_or (sk_not (sk_tru (se_isi Z.isa hcl T.m_isinstance (sa_cons (se_var 11) (sa_cons (se_clsV 10 Z.g_Denial hcl) (sa_nil)))))) (sk_or1 (sk_not (sk_tru (se_isi Z.isa hcl T.m_isinstance (sa_cons (se_var 13) (sa_cons (se_clsV 9 Z.g_Paper hcl) (sa_nil))))))))))) (sss_one (ss_ret (se_bl))) (sss_nil)) (sss_cons (ss_if (PW.pt (sk_or (sk_own Z.eq9 (Z.isa.sub (by decide)) ar_Paper_eq hr (Nat.lt_of_succ_lt hr.u1) (by decide) hx.lets hcl (se_makeQ Z.kq_Paper ends_Paper_init hr (by decide) hx.lets hcl (sa_cons (se_str) (sa_cons (se_int) (sa_nil)))) (se_makeQ Z.kq_Paper ends_Paper_init hr (by decide) hx.lets hcl (sa_cons (se_str) (sa_cons (se_bl) (sa_nil))))) (sk_or (sk_own Z.eq9 (Z.isa.sub (by decide)) ar_Paper_eq hr (Nat.lt_of_succ_lt hr.u1) (by decide) hx.lets hcl (se_makeQ Z.kq_Paper ends_Paper_init hr (by decide) hx.lets hcl (sa_cons (se_str) (sa_cons (se_int) (sa_nil)))) (se_makeQ Z.kq_Paper ends_Paper_init hr (by decide) hx.lets hcl (sa_cons (se_str) (sa_cons (se_int) (sa_nil))))) (sk_or1 (sk_ownN Z.eq9 Z.ne9 (Z.isa.sub (by decide)) ar_Paper_eq hr hr.u1 (by decide) hx.lets hcl (se_makeQ Z.kq_Paper ends_Paper_init hr (by decide) hx.lets hcl (sa_cons (se_str) (sa_cons (se_lst (sa_cons (se_int) (sa_nil))) (sa_nil)))) (se_makeQ Z.kq_Paper ends_Paper_init hr (by decide) hx.lets hcl (sa_cons (se_str) (sa_cons (se_tup (sa_cons (se_int) (sa_nil))) (sa_nil))))))))) (sss_one (ss_ret (se_bl))) (sss_nil)) (sss_cons (ss_set 5 S.nd (se_lst (sa_cons (se_err (k := 11) Z.er_BadValue hr hcl (sa_cons (se_var 8) (sa_nil))) (sa_cons (se_err (k := 11) Z.er_BadNumber hr hcl (sa_cons (se_var 8) (sa_nil))) (sa_cons (se_err (k := 11) Z.er_BadDeeds hr hcl (sa_cons (se_var 8) (sa_nil))) (sa_cons (se_err (k := 11) Z.er_BadText hr hcl (sa_cons (se_var 8) (sa_cons (se_var 9) (sa_nil)))) (sa_cons (se_err (k := 11) Z.er_BadBytes hr hcl (sa_cons (se_var 8) (sa_nil))) (sa_cons (se_err (k := 11) Z.er_Misfit hr hcl (sa_cons (se_var 8) (sa_nil))) (sa_cons (se_err (k := 11) Z.er_Nothing hr hcl (sa_cons (se_var 8) (sa_nil))) (sa_cons (se_err (k := 11) Z.er_TooMany hr hcl (sa_cons (se_var 8) (sa_cons (se_var 9) (sa_nil)))) (sa_nil))))))))))) (sss_cons (ss_set 6 S.nd (se_lst (sa_cons (se_errK (k := 11) 1 [0] Z.ek_BadValue rfl hr hcl (sn_cons (se_var 8) (sn_nil))) (sa_cons (se_errK (k := 11) 1 [0] Z.ek_BadNumber rfl hr hcl (sn_cons (se_var 8) (sn_nil))) (sa_cons (se_errK (k := 11) 1 [0] Z.ek_BadDeeds rfl hr hcl (sn_cons (se_var 8) (sn_nil))) (sa_cons (se_errK (k := 11) 2 [1, 0] Z.ek_BadText rfl hr hcl (sn_cons (se_var 9) (sn_cons (se_var 8) (sn_nil)))) (sa_cons (se_errK (k := 11) 1 [0] Z.ek_BadBytes rfl hr hcl (sn_cons (se_var 8) (sn_nil))) (sa_cons (se_errK (k := 11) 1 [0] Z.ek_Misfit rfl hr hcl (sn_cons (se_var 8) (sn_nil))) (sa_cons (se_errK (k := 11) 1 [0] Z.ek_Nothing rfl hr hcl (sn_cons (se_var 8) (sn_nil))) (sa_cons (se_errK (k := 11) 2 [1, 0] Z.ek_TooMany rfl hr hcl (sn_cons (se_var 9) (sn_cons (se_var 8) (sn_nil)))) (sa_nil))))))))))) (sss_one (ss_for (passes_of rfl) rfl (si_seq (se_tup (sa_cons (se_var 5) (sa_cons (se_var 6) (sa_nil))))) (sg_one 7 S.nd) (sss_cons (ss_set 14 S.nd (se_lst (sa_cons (se_fldX Z.xf_part hcl (se_ix ix_seq v_ix (se_var 7) (se_int))) (sa_cons (se_fldX Z.xf_part hcl (se_ix ix_seq v_ix (se_var 7) (se_int))) (sa_cons (se_fldX Z.xf_at hcl (se_ix ix_seq v_ix (se_var 7) (se_int))) (sa_cons (se_fldX Z.xf_line hcl (se_ix ix_seq v_ix (se_var 7) (se_int))) (sa_cons (se_fldX Z.xf_at hcl (se_ix ix_seq v_ix (se_var 7) (se_int))) (sa_cons (se_fldX Z.xf_part hcl (se_ix ix_seq v_ix (se_var 7) (se_int))) (sa_cons (se_fldX Z.xf_word hcl (se_ix ix_seq v_ix (se_var 7) (se_int))) (sa_cons (se_fldX Z.xf_what hcl (se_ix ix_seq v_ix (se_var 7) (se_int))) (sa_nil))))))))))) (sss_cons (ss_if (PW.pt (sk_or (sk_cmp (o_ne hr.room.units) v_ne (se_comp (tg := .one 18) (own := [("value", 18)]) rfl S.nd (si_seq (se_var 14)) (blkOk_by rfl) rfl (fun _ _ _ _ _ => sg_one 18 S.nd) (fun _ _ _ _ _ => pts_one (sk_cmp (o_ne hr.room.units) v_ne (se_callB (call_reprX hr.gd hr.u200 hS) vc_reprX T.m_repr (sa_cons (se_var 18) (sa_nil)) (hb := bt_repr)) (se_callB (call_reprX hr.gd hr.u200 hS) vc_reprX T.m_repr (sa_cons (se_var 8) (sa_nil)) (hb := bt_repr)))) tt_one (fun _ _ _ _ _ => se_var 18)) (se_lst (sa_nil))) (sk_or1 (sk_cmp (o_ne hr.room.units) v_ne (se_callB (call_reprX hr.gd hr.u200 hS) vc_reprX T.m_repr (sa_cons (se_lst (sa_cons (se_fldX Z.xf_word hcl (se_ix ix_seq v_ix (se_var 7) (se_int))) (sa_cons (se_fldX Z.xf_most hcl (se_ix ix_seq v_ix (se_var 7) (se_int))) (sa_nil)))) (sa_nil)) (hb := bt_repr)) (se_callB (call_reprX hr.gd hr.u200 hS) vc_reprX T.m_repr (sa_cons (se_op o_mul v_mul (se_lst (sa_cons (se_var 9) (sa_nil))) (se_int)) (sa_nil)) (hb := bt_repr)))))) (sss_one (ss_ret (se_bl))) (sss_nil)) (sss_cons (ss_if (sk_cmp (o_ne hr.room.units) v_ne (se_comp (tt := tK B.nox K (kOr (kNot (kTru (eCallB (opIsX Er_all Er_sup) (aCons (eVar 17) (aCons (eC (.cls 0)) (aNil)))))) (kNot (kTru (eIsVE Er_cs (eVar 17)))))) (tg := .one 17) (own := [("error", 17)]) rfl S.nd (si_seq (se_var 7)) (blkOk_by rfl) rfl (fun _ _ _ _ _ => sg_one 17 S.nd) (fun _ _ _ _ _ => pts_one (by exact PW.pt (sk_or (sk_not (sk_tru (se_isX Z.isx hcl T.m_isinstance (sa_cons (se_var 17) (sa_cons (se_clsV 0 Z.g_PlotError hcl) (sa_nil)))))) (sk_or1 (sk_not (sk_tru (se_isVE Z.isve hcl T.m_isinstance T.m_ValueError (se_var 17)))))))) tt_one (fun _ _ _ _ _ => se_var 17)) (se_lst (sa_nil))) (sss_one (ss_ret (se_bl))) (sss_nil)) (sss_one (ss_for (passes_of rfl) rfl (si_enum T.m_enumerate (sa_cons (se_var 7) (sa_nil))) (sg_tup rfl (sg_cons 16 S.nd (sg_cons 17 S.nd (sg_nil)))) (sss_one (ss_if (sk_cmp (o_ne hr.room.units) v_ne (se_call c__law_classes ar__law_classes hr (by decide) hx.lets hcl (sa_cons (se_var 17) (sa_nil))) (se_comp (tg := .one 19) (own := [("spot", 19)]) rfl S.nd (si_rng T.m_range (sa_cons (se_int) (sa_nil))) (blkOk_by rfl) rfl (fun _ _ _ _ _ => sg_one 19 S.nd) (fun _ _ _ _ _ => pts_nil) tt_yes (fun _ _ _ _ _ => se_cmp (o_eq hr.room.units) v_eq (se_var 19) (se_var 16)))) (sss_one (ss_ret (se_bl))) (sss_nil)))))))))))))))))))))))))) (sss_one (ss_ret (se_bl)))
  refine ⟨.ref s, rfl, s, ns, rfl, hs, hl, fun a c cells H1 sm ha hc hca hA hC => ?_⟩
  refine ⟨⟨⟨some a, CL, fun _ => 0, []⟩, H1, pureW [a], fun _ _ _ _ => False⟩, ⟨⟨E, takes_of rfl rfl rfl rfl, fun C fs ds b d H' y _ _ => y.elim⟩, rfl⟩, penEnv 20, [], pureW [a], 4194304, pen_rep rfl rfl hca hA hC (fun p hp => nomatch hp), plain.mono fun r b e => ?_⟩
  obtain ⟨μ, rfl⟩ := e
  intro v W' H' _ _ _ rv
  cases rv with
  | t rv => cases rv; exact fin H'
end
end V

set_option Elab.async false
set_option linter.all false
set_option maxRecDepth 100000
set_option maxHeartbeats 4000000
namespace V
open PySem PySem.Spec PyProof.Rows L2 Y
set_option maxHeartbeats 0
def goK {α : Type} : T α → Nat → T α
  | .ask _ k, c => k c
  | t, _ => t
def isAsk {α : Type} (m : Nat) : T α → Bool
  | .ask k _ => decide (k = m)
  | _ => false
theorem chk_ask {α : Type} {p : α → Bool} {n m : Nat} : ∀ {t : T α}, isAsk m t = true → (∀ c, c < m → chk p n (goK t c) = true) → chk p (n + 1) t = true
  | .ask k f, h, h2 => by
    have e : k = m := of_decide_eq_true h
    subst e
    unfold chk
    exact List.all_eq_true.mpr fun c hc => h2 c (List.mem_range.mp hc)
  | .ret _, h, _ => by cases h
  | .exc _ _ _, h, _ => by cases h
  | .bad, h, _ => by cases h
theorem lt9 {P : Nat → Prop} (h0 : P 0) (h1 : P 1) (h2 : P 2) (h3 : P 3) (h4 : P 4) (h5 : P 5) (h6 : P 6) (h7 : P 7) (h8 : P 8) : ∀ c, c < 9 → P c
  | 0, _ => h0 | 1, _ => h1 | 2, _ => h2 | 3, _ => h3 | 4, _ => h4 | 5, _ => h5 | 6, _ => h6 | 7, _ => h7 | 8, _ => h8
  | n + 9, h => absurd h (by omega)
theorem pen_is {ρ : Env'} (h : okPen 20 ρ = true) : ∃ s0 s2 s3 s4 s5 s6 s7 s8 s9 s10 s11 s12 s13 s14 s15 s16 s17 s18 s19 : Option Vd, ρ = [s0, some (.t .pen), s2, s3, s4, s5, s6, s7, s8, s9, s10, s11, s12, s13, s14, s15, s16, s17, s18, s19] := by
  unfold okPen at h
  rw [Bool.and_eq_true, decide_eq_true_eq] at h
  obtain ⟨h1, h2⟩ := h
  match ρ, h1 with
  | [s0, s1, s2, s3, s4, s5, s6, s7, s8, s9, s10, s11, s12, s13, s14, s15, s16, s17, s18, s19], _ =>
    match s1, h2 with
    | some (.t .pen), _ => exact ⟨s0, s2, s3, s4, s5, s6, s7, s8, s9, s10, s11, s12, s13, s14, s15, s16, s17, s18, s19, rfl⟩
theorem k_ask (s0 s3 s4 s5 s6 s7 s8 s9 s10 s11 s12 s13 s14 s15 s16 s17 s18 s19 : Option Vd) (x : D) (μ : Mu) : isAsk 9 (t_0 [s0, some (.t .pen), some (.t x), s3, s4, s5, s6, s7, s8, s9, s10, s11, s12, s13, s14, s15, s16, s17, s18, s19] μ) = true := by kernel_rfl
theorem k_ask_0 (s0 s3 s4 s5 s6 s7 s8 s9 s10 s11 s12 s13 s14 s15 s16 s17 s18 s19 : Option Vd) (x : D) (μ : Mu) : isAsk 9 (goK (t_0 [s0, some (.t .pen), some (.t x), s3, s4, s5, s6, s7, s8, s9, s10, s11, s12, s13, s14, s15, s16, s17, s18, s19] μ) 0) = true := by kernel_rfl
theorem k_ask_1 (s0 s3 s4 s5 s6 s7 s8 s9 s10 s11 s12 s13 s14 s15 s16 s17 s18 s19 : Option Vd) (x : D) (μ : Mu) : isAsk 9 (goK (t_0 [s0, some (.t .pen), some (.t x), s3, s4, s5, s6, s7, s8, s9, s10, s11, s12, s13, s14, s15, s16, s17, s18, s19] μ) 1) = true := by kernel_rfl
theorem k_ask_2 (s0 s3 s4 s5 s6 s7 s8 s9 s10 s11 s12 s13 s14 s15 s16 s17 s18 s19 : Option Vd) (x : D) (μ : Mu) : isAsk 9 (goK (t_0 [s0, some (.t .pen), some (.t x), s3, s4, s5, s6, s7, s8, s9, s10, s11, s12, s13, s14, s15, s16, s17, s18, s19] μ) 2) = true := by kernel_rfl
theorem k_ask_3 (s0 s3 s4 s5 s6 s7 s8 s9 s10 s11 s12 s13 s14 s15 s16 s17 s18 s19 : Option Vd) (x : D) (μ : Mu) : isAsk 9 (goK (t_0 [s0, some (.t .pen), some (.t x), s3, s4, s5, s6, s7, s8, s9, s10, s11, s12, s13, s14, s15, s16, s17, s18, s19] μ) 3) = true := by kernel_rfl
theorem k_ask_4 (s0 s3 s4 s5 s6 s7 s8 s9 s10 s11 s12 s13 s14 s15 s16 s17 s18 s19 : Option Vd) (x : D) (μ : Mu) : isAsk 9 (goK (t_0 [s0, some (.t .pen), some (.t x), s3, s4, s5, s6, s7, s8, s9, s10, s11, s12, s13, s14, s15, s16, s17, s18, s19] μ) 4) = true := by kernel_rfl
theorem k_ask_5 (s0 s3 s4 s5 s6 s7 s8 s9 s10 s11 s12 s13 s14 s15 s16 s17 s18 s19 : Option Vd) (x : D) (μ : Mu) : isAsk 9 (goK (t_0 [s0, some (.t .pen), some (.t x), s3, s4, s5, s6, s7, s8, s9, s10, s11, s12, s13, s14, s15, s16, s17, s18, s19] μ) 5) = true := by kernel_rfl
theorem k_ask_6 (s0 s3 s4 s5 s6 s7 s8 s9 s10 s11 s12 s13 s14 s15 s16 s17 s18 s19 : Option Vd) (x : D) (μ : Mu) : isAsk 9 (goK (t_0 [s0, some (.t .pen), some (.t x), s3, s4, s5, s6, s7, s8, s9, s10, s11, s12, s13, s14, s15, s16, s17, s18, s19] μ) 6) = true := by kernel_rfl
theorem k_ask_7 (s0 s3 s4 s5 s6 s7 s8 s9 s10 s11 s12 s13 s14 s15 s16 s17 s18 s19 : Option Vd) (x : D) (μ : Mu) : isAsk 9 (goK (t_0 [s0, some (.t .pen), some (.t x), s3, s4, s5, s6, s7, s8, s9, s10, s11, s12, s13, s14, s15, s16, s17, s18, s19] μ) 7) = true := by kernel_rfl
theorem k_ask_8 (s0 s3 s4 s5 s6 s7 s8 s9 s10 s11 s12 s13 s14 s15 s16 s17 s18 s19 : Option Vd) (x : D) (μ : Mu) : isAsk 9 (goK (t_0 [s0, some (.t .pen), some (.t x), s3, s4, s5, s6, s7, s8, s9, s10, s11, s12, s13, s14, s15, s16, s17, s18, s19] μ) 8) = true := by kernel_rfl
end V

set_option Elab.async false
set_option linter.all false
set_option maxRecDepth 100000
set_option maxHeartbeats 4000000
namespace V
open PySem PySem.Spec PyProof.Rows L2 Y
set_option maxHeartbeats 0
theorem k_0_0 (s0 s3 s4 s5 s6 s7 s8 s9 s10 s11 s12 s13 s14 s15 s16 s17 s18 s19 : Option Vd) (x : D) (μ : Mu) : chk (goodFl 20) 0 (goK (goK (t_0 [s0, some (.t .pen), some (.t x), s3, s4, s5, s6, s7, s8, s9, s10, s11, s12, s13, s14, s15, s16, s17, s18, s19] μ) 0) 0) = true := by kernel_rfl
theorem k_0_1 (s0 s3 s4 s5 s6 s7 s8 s9 s10 s11 s12 s13 s14 s15 s16 s17 s18 s19 : Option Vd) (x : D) (μ : Mu) : chk (goodFl 20) 0 (goK (goK (t_0 [s0, some (.t .pen), some (.t x), s3, s4, s5, s6, s7, s8, s9, s10, s11, s12, s13, s14, s15, s16, s17, s18, s19] μ) 0) 1) = true := by kernel_rfl
theorem k_0_2 (s0 s3 s4 s5 s6 s7 s8 s9 s10 s11 s12 s13 s14 s15 s16 s17 s18 s19 : Option Vd) (x : D) (μ : Mu) : chk (goodFl 20) 0 (goK (goK (t_0 [s0, some (.t .pen), some (.t x), s3, s4, s5, s6, s7, s8, s9, s10, s11, s12, s13, s14, s15, s16, s17, s18, s19] μ) 0) 2) = true := by kernel_rfl
theorem k_0_3 (s0 s3 s4 s5 s6 s7 s8 s9 s10 s11 s12 s13 s14 s15 s16 s17 s18 s19 : Option Vd) (x : D) (μ : Mu) : chk (goodFl 20) 0 (goK (goK (t_0 [s0, some (.t .pen), some (.t x), s3, s4, s5, s6, s7, s8, s9, s10, s11, s12, s13, s14, s15, s16, s17, s18, s19] μ) 0) 3) = true := by kernel_rfl
theorem k_0_4 (s0 s3 s4 s5 s6 s7 s8 s9 s10 s11 s12 s13 s14 s15 s16 s17 s18 s19 : Option Vd) (x : D) (μ : Mu) : chk (goodFl 20) 0 (goK (goK (t_0 [s0, some (.t .pen), some (.t x), s3, s4, s5, s6, s7, s8, s9, s10, s11, s12, s13, s14, s15, s16, s17, s18, s19] μ) 0) 4) = true := by kernel_rfl
theorem k_0_5 (s0 s3 s4 s5 s6 s7 s8 s9 s10 s11 s12 s13 s14 s15 s16 s17 s18 s19 : Option Vd) (x : D) (μ : Mu) : chk (goodFl 20) 0 (goK (goK (t_0 [s0, some (.t .pen), some (.t x), s3, s4, s5, s6, s7, s8, s9, s10, s11, s12, s13, s14, s15, s16, s17, s18, s19] μ) 0) 5) = true := by kernel_rfl
theorem k_0_6 (s0 s3 s4 s5 s6 s7 s8 s9 s10 s11 s12 s13 s14 s15 s16 s17 s18 s19 : Option Vd) (x : D) (μ : Mu) : chk (goodFl 20) 0 (goK (goK (t_0 [s0, some (.t .pen), some (.t x), s3, s4, s5, s6, s7, s8, s9, s10, s11, s12, s13, s14, s15, s16, s17, s18, s19] μ) 0) 6) = true := by kernel_rfl
theorem k_0_7 (s0 s3 s4 s5 s6 s7 s8 s9 s10 s11 s12 s13 s14 s15 s16 s17 s18 s19 : Option Vd) (x : D) (μ : Mu) : chk (goodFl 20) 0 (goK (goK (t_0 [s0, some (.t .pen), some (.t x), s3, s4, s5, s6, s7, s8, s9, s10, s11, s12, s13, s14, s15, s16, s17, s18, s19] μ) 0) 7) = true := by kernel_rfl
theorem k_0_8 (s0 s3 s4 s5 s6 s7 s8 s9 s10 s11 s12 s13 s14 s15 s16 s17 s18 s19 : Option Vd) (x : D) (μ : Mu) : chk (goodFl 20) 0 (goK (goK (t_0 [s0, some (.t .pen), some (.t x), s3, s4, s5, s6, s7, s8, s9, s10, s11, s12, s13, s14, s15, s16, s17, s18, s19] μ) 0) 8) = true := by kernel_rfl
end V

set_option Elab.async false
set_option linter.all false
set_option maxRecDepth 100000
set_option maxHeartbeats 4000000
namespace V
open PySem PySem.Spec PyProof.Rows L2 Y
set_option maxHeartbeats 0
theorem k_1_0 (s0 s3 s4 s5 s6 s7 s8 s9 s10 s11 s12 s13 s14 s15 s16 s17 s18 s19 : Option Vd) (x : D) (μ : Mu) : chk (goodFl 20) 0 (goK (goK (t_0 [s0, some (.t .pen), some (.t x), s3, s4, s5, s6, s7, s8, s9, s10, s11, s12, s13, s14, s15, s16, s17, s18, s19] μ) 1) 0) = true := by kernel_rfl
theorem k_1_1 (s0 s3 s4 s5 s6 s7 s8 s9 s10 s11 s12 s13 s14 s15 s16 s17 s18 s19 : Option Vd) (x : D) (μ : Mu) : chk (goodFl 20) 0 (goK (goK (t_0 [s0, some (.t .pen), some (.t x), s3, s4, s5, s6, s7, s8, s9, s10, s11, s12, s13, s14, s15, s16, s17, s18, s19] μ) 1) 1) = true := by kernel_rfl
theorem k_1_2 (s0 s3 s4 s5 s6 s7 s8 s9 s10 s11 s12 s13 s14 s15 s16 s17 s18 s19 : Option Vd) (x : D) (μ : Mu) : chk (goodFl 20) 0 (goK (goK (t_0 [s0, some (.t .pen), some (.t x), s3, s4, s5, s6, s7, s8, s9, s10, s11, s12, s13, s14, s15, s16, s17, s18, s19] μ) 1) 2) = true := by kernel_rfl
theorem k_1_3 (s0 s3 s4 s5 s6 s7 s8 s9 s10 s11 s12 s13 s14 s15 s16 s17 s18 s19 : Option Vd) (x : D) (μ : Mu) : chk (goodFl 20) 0 (goK (goK (t_0 [s0, some (.t .pen), some (.t x), s3, s4, s5, s6, s7, s8, s9, s10, s11, s12, s13, s14, s15, s16, s17, s18, s19] μ) 1) 3) = true := by kernel_rfl
theorem k_1_4 (s0 s3 s4 s5 s6 s7 s8 s9 s10 s11 s12 s13 s14 s15 s16 s17 s18 s19 : Option Vd) (x : D) (μ : Mu) : chk (goodFl 20) 0 (goK (goK (t_0 [s0, some (.t .pen), some (.t x), s3, s4, s5, s6, s7, s8, s9, s10, s11, s12, s13, s14, s15, s16, s17, s18, s19] μ) 1) 4) = true := by kernel_rfl
theorem k_1_5 (s0 s3 s4 s5 s6 s7 s8 s9 s10 s11 s12 s13 s14 s15 s16 s17 s18 s19 : Option Vd) (x : D) (μ : Mu) : chk (goodFl 20) 0 (goK (goK (t_0 [s0, some (.t .pen), some (.t x), s3, s4, s5, s6, s7, s8, s9, s10, s11, s12, s13, s14, s15, s16, s17, s18, s19] μ) 1) 5) = true := by kernel_rfl
theorem k_1_6 (s0 s3 s4 s5 s6 s7 s8 s9 s10 s11 s12 s13 s14 s15 s16 s17 s18 s19 : Option Vd) (x : D) (μ : Mu) : chk (goodFl 20) 0 (goK (goK (t_0 [s0, some (.t .pen), some (.t x), s3, s4, s5, s6, s7, s8, s9, s10, s11, s12, s13, s14, s15, s16, s17, s18, s19] μ) 1) 6) = true := by kernel_rfl
theorem k_1_7 (s0 s3 s4 s5 s6 s7 s8 s9 s10 s11 s12 s13 s14 s15 s16 s17 s18 s19 : Option Vd) (x : D) (μ : Mu) : chk (goodFl 20) 0 (goK (goK (t_0 [s0, some (.t .pen), some (.t x), s3, s4, s5, s6, s7, s8, s9, s10, s11, s12, s13, s14, s15, s16, s17, s18, s19] μ) 1) 7) = true := by kernel_rfl
theorem k_1_8 (s0 s3 s4 s5 s6 s7 s8 s9 s10 s11 s12 s13 s14 s15 s16 s17 s18 s19 : Option Vd) (x : D) (μ : Mu) : chk (goodFl 20) 0 (goK (goK (t_0 [s0, some (.t .pen), some (.t x), s3, s4, s5, s6, s7, s8, s9, s10, s11, s12, s13, s14, s15, s16, s17, s18, s19] μ) 1) 8) = true := by kernel_rfl
end V

set_option Elab.async false
set_option linter.all false
set_option maxRecDepth 100000
set_option maxHeartbeats 4000000
namespace V
open PySem PySem.Spec PyProof.Rows L2 Y
set_option maxHeartbeats 0
theorem k_2_0 (s0 s3 s4 s5 s6 s7 s8 s9 s10 s11 s12 s13 s14 s15 s16 s17 s18 s19 : Option Vd) (x : D) (μ : Mu) : chk (goodFl 20) 0 (goK (goK (t_0 [s0, some (.t .pen), some (.t x), s3, s4, s5, s6, s7, s8, s9, s10, s11, s12, s13, s14, s15, s16, s17, s18, s19] μ) 2) 0) = true := by kernel_rfl
theorem k_2_1 (s0 s3 s4 s5 s6 s7 s8 s9 s10 s11 s12 s13 s14 s15 s16 s17 s18 s19 : Option Vd) (x : D) (μ : Mu) : chk (goodFl 20) 0 (goK (goK (t_0 [s0, some (.t .pen), some (.t x), s3, s4, s5, s6, s7, s8, s9, s10, s11, s12, s13, s14, s15, s16, s17, s18, s19] μ) 2) 1) = true := by kernel_rfl
theorem k_2_2 (s0 s3 s4 s5 s6 s7 s8 s9 s10 s11 s12 s13 s14 s15 s16 s17 s18 s19 : Option Vd) (x : D) (μ : Mu) : chk (goodFl 20) 0 (goK (goK (t_0 [s0, some (.t .pen), some (.t x), s3, s4, s5, s6, s7, s8, s9, s10, s11, s12, s13, s14, s15, s16, s17, s18, s19] μ) 2) 2) = true := by kernel_rfl
theorem k_2_3 (s0 s3 s4 s5 s6 s7 s8 s9 s10 s11 s12 s13 s14 s15 s16 s17 s18 s19 : Option Vd) (x : D) (μ : Mu) : chk (goodFl 20) 0 (goK (goK (t_0 [s0, some (.t .pen), some (.t x), s3, s4, s5, s6, s7, s8, s9, s10, s11, s12, s13, s14, s15, s16, s17, s18, s19] μ) 2) 3) = true := by kernel_rfl
theorem k_2_4 (s0 s3 s4 s5 s6 s7 s8 s9 s10 s11 s12 s13 s14 s15 s16 s17 s18 s19 : Option Vd) (x : D) (μ : Mu) : chk (goodFl 20) 0 (goK (goK (t_0 [s0, some (.t .pen), some (.t x), s3, s4, s5, s6, s7, s8, s9, s10, s11, s12, s13, s14, s15, s16, s17, s18, s19] μ) 2) 4) = true := by kernel_rfl
theorem k_2_5 (s0 s3 s4 s5 s6 s7 s8 s9 s10 s11 s12 s13 s14 s15 s16 s17 s18 s19 : Option Vd) (x : D) (μ : Mu) : chk (goodFl 20) 0 (goK (goK (t_0 [s0, some (.t .pen), some (.t x), s3, s4, s5, s6, s7, s8, s9, s10, s11, s12, s13, s14, s15, s16, s17, s18, s19] μ) 2) 5) = true := by kernel_rfl
theorem k_2_6 (s0 s3 s4 s5 s6 s7 s8 s9 s10 s11 s12 s13 s14 s15 s16 s17 s18 s19 : Option Vd) (x : D) (μ : Mu) : chk (goodFl 20) 0 (goK (goK (t_0 [s0, some (.t .pen), some (.t x), s3, s4, s5, s6, s7, s8, s9, s10, s11, s12, s13, s14, s15, s16, s17, s18, s19] μ) 2) 6) = true := by kernel_rfl
theorem k_2_7 (s0 s3 s4 s5 s6 s7 s8 s9 s10 s11 s12 s13 s14 s15 s16 s17 s18 s19 : Option Vd) (x : D) (μ : Mu) : chk (goodFl 20) 0 (goK (goK (t_0 [s0, some (.t .pen), some (.t x), s3, s4, s5, s6, s7, s8, s9, s10, s11, s12, s13, s14, s15, s16, s17, s18, s19] μ) 2) 7) = true := by kernel_rfl
theorem k_2_8 (s0 s3 s4 s5 s6 s7 s8 s9 s10 s11 s12 s13 s14 s15 s16 s17 s18 s19 : Option Vd) (x : D) (μ : Mu) : chk (goodFl 20) 0 (goK (goK (t_0 [s0, some (.t .pen), some (.t x), s3, s4, s5, s6, s7, s8, s9, s10, s11, s12, s13, s14, s15, s16, s17, s18, s19] μ) 2) 8) = true := by kernel_rfl
end V

set_option Elab.async false
set_option linter.all false
set_option maxRecDepth 100000
set_option maxHeartbeats 4000000
namespace V
open PySem PySem.Spec PyProof.Rows L2 Y
set_option maxHeartbeats 0
theorem k_3_0 (s0 s3 s4 s5 s6 s7 s8 s9 s10 s11 s12 s13 s14 s15 s16 s17 s18 s19 : Option Vd) (x : D) (μ : Mu) : chk (goodFl 20) 0 (goK (goK (t_0 [s0, some (.t .pen), some (.t x), s3, s4, s5, s6, s7, s8, s9, s10, s11, s12, s13, s14, s15, s16, s17, s18, s19] μ) 3) 0) = true := by kernel_rfl
theorem k_3_1 (s0 s3 s4 s5 s6 s7 s8 s9 s10 s11 s12 s13 s14 s15 s16 s17 s18 s19 : Option Vd) (x : D) (μ : Mu) : chk (goodFl 20) 0 (goK (goK (t_0 [s0, some (.t .pen), some (.t x), s3, s4, s5, s6, s7, s8, s9, s10, s11, s12, s13, s14, s15, s16, s17, s18, s19] μ) 3) 1) = true := by kernel_rfl
theorem k_3_2 (s0 s3 s4 s5 s6 s7 s8 s9 s10 s11 s12 s13 s14 s15 s16 s17 s18 s19 : Option Vd) (x : D) (μ : Mu) : chk (goodFl 20) 0 (goK (goK (t_0 [s0, some (.t .pen), some (.t x), s3, s4, s5, s6, s7, s8, s9, s10, s11, s12, s13, s14, s15, s16, s17, s18, s19] μ) 3) 2) = true := by kernel_rfl
theorem k_3_3 (s0 s3 s4 s5 s6 s7 s8 s9 s10 s11 s12 s13 s14 s15 s16 s17 s18 s19 : Option Vd) (x : D) (μ : Mu) : chk (goodFl 20) 0 (goK (goK (t_0 [s0, some (.t .pen), some (.t x), s3, s4, s5, s6, s7, s8, s9, s10, s11, s12, s13, s14, s15, s16, s17, s18, s19] μ) 3) 3) = true := by kernel_rfl
theorem k_3_4 (s0 s3 s4 s5 s6 s7 s8 s9 s10 s11 s12 s13 s14 s15 s16 s17 s18 s19 : Option Vd) (x : D) (μ : Mu) : chk (goodFl 20) 0 (goK (goK (t_0 [s0, some (.t .pen), some (.t x), s3, s4, s5, s6, s7, s8, s9, s10, s11, s12, s13, s14, s15, s16, s17, s18, s19] μ) 3) 4) = true := by kernel_rfl
theorem k_3_5 (s0 s3 s4 s5 s6 s7 s8 s9 s10 s11 s12 s13 s14 s15 s16 s17 s18 s19 : Option Vd) (x : D) (μ : Mu) : chk (goodFl 20) 0 (goK (goK (t_0 [s0, some (.t .pen), some (.t x), s3, s4, s5, s6, s7, s8, s9, s10, s11, s12, s13, s14, s15, s16, s17, s18, s19] μ) 3) 5) = true := by kernel_rfl
theorem k_3_6 (s0 s3 s4 s5 s6 s7 s8 s9 s10 s11 s12 s13 s14 s15 s16 s17 s18 s19 : Option Vd) (x : D) (μ : Mu) : chk (goodFl 20) 0 (goK (goK (t_0 [s0, some (.t .pen), some (.t x), s3, s4, s5, s6, s7, s8, s9, s10, s11, s12, s13, s14, s15, s16, s17, s18, s19] μ) 3) 6) = true := by kernel_rfl
theorem k_3_7 (s0 s3 s4 s5 s6 s7 s8 s9 s10 s11 s12 s13 s14 s15 s16 s17 s18 s19 : Option Vd) (x : D) (μ : Mu) : chk (goodFl 20) 0 (goK (goK (t_0 [s0, some (.t .pen), some (.t x), s3, s4, s5, s6, s7, s8, s9, s10, s11, s12, s13, s14, s15, s16, s17, s18, s19] μ) 3) 7) = true := by kernel_rfl
theorem k_3_8 (s0 s3 s4 s5 s6 s7 s8 s9 s10 s11 s12 s13 s14 s15 s16 s17 s18 s19 : Option Vd) (x : D) (μ : Mu) : chk (goodFl 20) 0 (goK (goK (t_0 [s0, some (.t .pen), some (.t x), s3, s4, s5, s6, s7, s8, s9, s10, s11, s12, s13, s14, s15, s16, s17, s18, s19] μ) 3) 8) = true := by kernel_rfl
end V

set_option Elab.async false
set_option linter.all false
set_option maxRecDepth 100000
set_option maxHeartbeats 4000000
namespace V
open PySem PySem.Spec PyProof.Rows L2 Y
set_option maxHeartbeats 0
theorem k_4_0 (s0 s3 s4 s5 s6 s7 s8 s9 s10 s11 s12 s13 s14 s15 s16 s17 s18 s19 : Option Vd) (x : D) (μ : Mu) : chk (goodFl 20) 0 (goK (goK (t_0 [s0, some (.t .pen), some (.t x), s3, s4, s5, s6, s7, s8, s9, s10, s11, s12, s13, s14, s15, s16, s17, s18, s19] μ) 4) 0) = true := by kernel_rfl
theorem k_4_1 (s0 s3 s4 s5 s6 s7 s8 s9 s10 s11 s12 s13 s14 s15 s16 s17 s18 s19 : Option Vd) (x : D) (μ : Mu) : chk (goodFl 20) 0 (goK (goK (t_0 [s0, some (.t .pen), some (.t x), s3, s4, s5, s6, s7, s8, s9, s10, s11, s12, s13, s14, s15, s16, s17, s18, s19] μ) 4) 1) = true := by kernel_rfl
theorem k_4_2 (s0 s3 s4 s5 s6 s7 s8 s9 s10 s11 s12 s13 s14 s15 s16 s17 s18 s19 : Option Vd) (x : D) (μ : Mu) : chk (goodFl 20) 0 (goK (goK (t_0 [s0, some (.t .pen), some (.t x), s3, s4, s5, s6, s7, s8, s9, s10, s11, s12, s13, s14, s15, s16, s17, s18, s19] μ) 4) 2) = true := by kernel_rfl
theorem k_4_3 (s0 s3 s4 s5 s6 s7 s8 s9 s10 s11 s12 s13 s14 s15 s16 s17 s18 s19 : Option Vd) (x : D) (μ : Mu) : chk (goodFl 20) 0 (goK (goK (t_0 [s0, some (.t .pen), some (.t x), s3, s4, s5, s6, s7, s8, s9, s10, s11, s12, s13, s14, s15, s16, s17, s18, s19] μ) 4) 3) = true := by kernel_rfl
theorem k_4_4 (s0 s3 s4 s5 s6 s7 s8 s9 s10 s11 s12 s13 s14 s15 s16 s17 s18 s19 : Option Vd) (x : D) (μ : Mu) : chk (goodFl 20) 0 (goK (goK (t_0 [s0, some (.t .pen), some (.t x), s3, s4, s5, s6, s7, s8, s9, s10, s11, s12, s13, s14, s15, s16, s17, s18, s19] μ) 4) 4) = true := by kernel_rfl
theorem k_4_5 (s0 s3 s4 s5 s6 s7 s8 s9 s10 s11 s12 s13 s14 s15 s16 s17 s18 s19 : Option Vd) (x : D) (μ : Mu) : chk (goodFl 20) 0 (goK (goK (t_0 [s0, some (.t .pen), some (.t x), s3, s4, s5, s6, s7, s8, s9, s10, s11, s12, s13, s14, s15, s16, s17, s18, s19] μ) 4) 5) = true := by kernel_rfl
theorem k_4_6 (s0 s3 s4 s5 s6 s7 s8 s9 s10 s11 s12 s13 s14 s15 s16 s17 s18 s19 : Option Vd) (x : D) (μ : Mu) : chk (goodFl 20) 0 (goK (goK (t_0 [s0, some (.t .pen), some (.t x), s3, s4, s5, s6, s7, s8, s9, s10, s11, s12, s13, s14, s15, s16, s17, s18, s19] μ) 4) 6) = true := by kernel_rfl
theorem k_4_7 (s0 s3 s4 s5 s6 s7 s8 s9 s10 s11 s12 s13 s14 s15 s16 s17 s18 s19 : Option Vd) (x : D) (μ : Mu) : chk (goodFl 20) 0 (goK (goK (t_0 [s0, some (.t .pen), some (.t x), s3, s4, s5, s6, s7, s8, s9, s10, s11, s12, s13, s14, s15, s16, s17, s18, s19] μ) 4) 7) = true := by kernel_rfl
theorem k_4_8 (s0 s3 s4 s5 s6 s7 s8 s9 s10 s11 s12 s13 s14 s15 s16 s17 s18 s19 : Option Vd) (x : D) (μ : Mu) : chk (goodFl 20) 0 (goK (goK (t_0 [s0, some (.t .pen), some (.t x), s3, s4, s5, s6, s7, s8, s9, s10, s11, s12, s13, s14, s15, s16, s17, s18, s19] μ) 4) 8) = true := by kernel_rfl
end V

set_option Elab.async false
set_option linter.all false
set_option maxRecDepth 100000
set_option maxHeartbeats 4000000
namespace V
open PySem PySem.Spec PyProof.Rows L2 Y
set_option maxHeartbeats 0
theorem k_5_0 (s0 s3 s4 s5 s6 s7 s8 s9 s10 s11 s12 s13 s14 s15 s16 s17 s18 s19 : Option Vd) (x : D) (μ : Mu) : chk (goodFl 20) 0 (goK (goK (t_0 [s0, some (.t .pen), some (.t x), s3, s4, s5, s6, s7, s8, s9, s10, s11, s12, s13, s14, s15, s16, s17, s18, s19] μ) 5) 0) = true := by kernel_rfl
theorem k_5_1 (s0 s3 s4 s5 s6 s7 s8 s9 s10 s11 s12 s13 s14 s15 s16 s17 s18 s19 : Option Vd) (x : D) (μ : Mu) : chk (goodFl 20) 0 (goK (goK (t_0 [s0, some (.t .pen), some (.t x), s3, s4, s5, s6, s7, s8, s9, s10, s11, s12, s13, s14, s15, s16, s17, s18, s19] μ) 5) 1) = true := by kernel_rfl
theorem k_5_2 (s0 s3 s4 s5 s6 s7 s8 s9 s10 s11 s12 s13 s14 s15 s16 s17 s18 s19 : Option Vd) (x : D) (μ : Mu) : chk (goodFl 20) 0 (goK (goK (t_0 [s0, some (.t .pen), some (.t x), s3, s4, s5, s6, s7, s8, s9, s10, s11, s12, s13, s14, s15, s16, s17, s18, s19] μ) 5) 2) = true := by kernel_rfl
theorem k_5_3 (s0 s3 s4 s5 s6 s7 s8 s9 s10 s11 s12 s13 s14 s15 s16 s17 s18 s19 : Option Vd) (x : D) (μ : Mu) : chk (goodFl 20) 0 (goK (goK (t_0 [s0, some (.t .pen), some (.t x), s3, s4, s5, s6, s7, s8, s9, s10, s11, s12, s13, s14, s15, s16, s17, s18, s19] μ) 5) 3) = true := by kernel_rfl
theorem k_5_4 (s0 s3 s4 s5 s6 s7 s8 s9 s10 s11 s12 s13 s14 s15 s16 s17 s18 s19 : Option Vd) (x : D) (μ : Mu) : chk (goodFl 20) 0 (goK (goK (t_0 [s0, some (.t .pen), some (.t x), s3, s4, s5, s6, s7, s8, s9, s10, s11, s12, s13, s14, s15, s16, s17, s18, s19] μ) 5) 4) = true := by kernel_rfl
theorem k_5_5 (s0 s3 s4 s5 s6 s7 s8 s9 s10 s11 s12 s13 s14 s15 s16 s17 s18 s19 : Option Vd) (x : D) (μ : Mu) : chk (goodFl 20) 0 (goK (goK (t_0 [s0, some (.t .pen), some (.t x), s3, s4, s5, s6, s7, s8, s9, s10, s11, s12, s13, s14, s15, s16, s17, s18, s19] μ) 5) 5) = true := by kernel_rfl
theorem k_5_6 (s0 s3 s4 s5 s6 s7 s8 s9 s10 s11 s12 s13 s14 s15 s16 s17 s18 s19 : Option Vd) (x : D) (μ : Mu) : chk (goodFl 20) 0 (goK (goK (t_0 [s0, some (.t .pen), some (.t x), s3, s4, s5, s6, s7, s8, s9, s10, s11, s12, s13, s14, s15, s16, s17, s18, s19] μ) 5) 6) = true := by kernel_rfl
theorem k_5_7 (s0 s3 s4 s5 s6 s7 s8 s9 s10 s11 s12 s13 s14 s15 s16 s17 s18 s19 : Option Vd) (x : D) (μ : Mu) : chk (goodFl 20) 0 (goK (goK (t_0 [s0, some (.t .pen), some (.t x), s3, s4, s5, s6, s7, s8, s9, s10, s11, s12, s13, s14, s15, s16, s17, s18, s19] μ) 5) 7) = true := by kernel_rfl
theorem k_5_8 (s0 s3 s4 s5 s6 s7 s8 s9 s10 s11 s12 s13 s14 s15 s16 s17 s18 s19 : Option Vd) (x : D) (μ : Mu) : chk (goodFl 20) 0 (goK (goK (t_0 [s0, some (.t .pen), some (.t x), s3, s4, s5, s6, s7, s8, s9, s10, s11, s12, s13, s14, s15, s16, s17, s18, s19] μ) 5) 8) = true := by kernel_rfl
end V

set_option Elab.async false
set_option linter.all false
set_option maxRecDepth 100000
set_option maxHeartbeats 4000000
namespace V
open PySem PySem.Spec PyProof.Rows L2 Y
set_option maxHeartbeats 0
theorem k_6_0 (s0 s3 s4 s5 s6 s7 s8 s9 s10 s11 s12 s13 s14 s15 s16 s17 s18 s19 : Option Vd) (x : D) (μ : Mu) : chk (goodFl 20) 0 (goK (goK (t_0 [s0, some (.t .pen), some (.t x), s3, s4, s5, s6, s7, s8, s9, s10, s11, s12, s13, s14, s15, s16, s17, s18, s19] μ) 6) 0) = true := by kernel_rfl
theorem k_6_1 (s0 s3 s4 s5 s6 s7 s8 s9 s10 s11 s12 s13 s14 s15 s16 s17 s18 s19 : Option Vd) (x : D) (μ : Mu) : chk (goodFl 20) 0 (goK (goK (t_0 [s0, some (.t .pen), some (.t x), s3, s4, s5, s6, s7, s8, s9, s10, s11, s12, s13, s14, s15, s16, s17, s18, s19] μ) 6) 1) = true := by kernel_rfl
theorem k_6_2 (s0 s3 s4 s5 s6 s7 s8 s9 s10 s11 s12 s13 s14 s15 s16 s17 s18 s19 : Option Vd) (x : D) (μ : Mu) : chk (goodFl 20) 0 (goK (goK (t_0 [s0, some (.t .pen), some (.t x), s3, s4, s5, s6, s7, s8, s9, s10, s11, s12, s13, s14, s15, s16, s17, s18, s19] μ) 6) 2) = true := by kernel_rfl
theorem k_6_3 (s0 s3 s4 s5 s6 s7 s8 s9 s10 s11 s12 s13 s14 s15 s16 s17 s18 s19 : Option Vd) (x : D) (μ : Mu) : chk (goodFl 20) 0 (goK (goK (t_0 [s0, some (.t .pen), some (.t x), s3, s4, s5, s6, s7, s8, s9, s10, s11, s12, s13, s14, s15, s16, s17, s18, s19] μ) 6) 3) = true := by kernel_rfl
theorem k_6_4 (s0 s3 s4 s5 s6 s7 s8 s9 s10 s11 s12 s13 s14 s15 s16 s17 s18 s19 : Option Vd) (x : D) (μ : Mu) : chk (goodFl 20) 0 (goK (goK (t_0 [s0, some (.t .pen), some (.t x), s3, s4, s5, s6, s7, s8, s9, s10, s11, s12, s13, s14, s15, s16, s17, s18, s19] μ) 6) 4) = true := by kernel_rfl
theorem k_6_5 (s0 s3 s4 s5 s6 s7 s8 s9 s10 s11 s12 s13 s14 s15 s16 s17 s18 s19 : Option Vd) (x : D) (μ : Mu) : chk (goodFl 20) 0 (goK (goK (t_0 [s0, some (.t .pen), some (.t x), s3, s4, s5, s6, s7, s8, s9, s10, s11, s12, s13, s14, s15, s16, s17, s18, s19] μ) 6) 5) = true := by kernel_rfl
theorem k_6_6 (s0 s3 s4 s5 s6 s7 s8 s9 s10 s11 s12 s13 s14 s15 s16 s17 s18 s19 : Option Vd) (x : D) (μ : Mu) : chk (goodFl 20) 0 (goK (goK (t_0 [s0, some (.t .pen), some (.t x), s3, s4, s5, s6, s7, s8, s9, s10, s11, s12, s13, s14, s15, s16, s17, s18, s19] μ) 6) 6) = true := by kernel_rfl
theorem k_6_7 (s0 s3 s4 s5 s6 s7 s8 s9 s10 s11 s12 s13 s14 s15 s16 s17 s18 s19 : Option Vd) (x : D) (μ : Mu) : chk (goodFl 20) 0 (goK (goK (t_0 [s0, some (.t .pen), some (.t x), s3, s4, s5, s6, s7, s8, s9, s10, s11, s12, s13, s14, s15, s16, s17, s18, s19] μ) 6) 7) = true := by kernel_rfl
theorem k_6_8 (s0 s3 s4 s5 s6 s7 s8 s9 s10 s11 s12 s13 s14 s15 s16 s17 s18 s19 : Option Vd) (x : D) (μ : Mu) : chk (goodFl 20) 0 (goK (goK (t_0 [s0, some (.t .pen), some (.t x), s3, s4, s5, s6, s7, s8, s9, s10, s11, s12, s13, s14, s15, s16, s17, s18, s19] μ) 6) 8) = true := by kernel_rfl
end V

set_option Elab.async false
set_option linter.all false
set_option maxRecDepth 100000
set_option maxHeartbeats 4000000
namespace V
open PySem PySem.Spec PyProof.Rows L2 Y
set_option maxHeartbeats 0
theorem k_7_0 (s0 s3 s4 s5 s6 s7 s8 s9 s10 s11 s12 s13 s14 s15 s16 s17 s18 s19 : Option Vd) (x : D) (μ : Mu) : chk (goodFl 20) 0 (goK (goK (t_0 [s0, some (.t .pen), some (.t x), s3, s4, s5, s6, s7, s8, s9, s10, s11, s12, s13, s14, s15, s16, s17, s18, s19] μ) 7) 0) = true := by kernel_rfl
theorem k_7_1 (s0 s3 s4 s5 s6 s7 s8 s9 s10 s11 s12 s13 s14 s15 s16 s17 s18 s19 : Option Vd) (x : D) (μ : Mu) : chk (goodFl 20) 0 (goK (goK (t_0 [s0, some (.t .pen), some (.t x), s3, s4, s5, s6, s7, s8, s9, s10, s11, s12, s13, s14, s15, s16, s17, s18, s19] μ) 7) 1) = true := by kernel_rfl
theorem k_7_2 (s0 s3 s4 s5 s6 s7 s8 s9 s10 s11 s12 s13 s14 s15 s16 s17 s18 s19 : Option Vd) (x : D) (μ : Mu) : chk (goodFl 20) 0 (goK (goK (t_0 [s0, some (.t .pen), some (.t x), s3, s4, s5, s6, s7, s8, s9, s10, s11, s12, s13, s14, s15, s16, s17, s18, s19] μ) 7) 2) = true := by kernel_rfl
theorem k_7_3 (s0 s3 s4 s5 s6 s7 s8 s9 s10 s11 s12 s13 s14 s15 s16 s17 s18 s19 : Option Vd) (x : D) (μ : Mu) : chk (goodFl 20) 0 (goK (goK (t_0 [s0, some (.t .pen), some (.t x), s3, s4, s5, s6, s7, s8, s9, s10, s11, s12, s13, s14, s15, s16, s17, s18, s19] μ) 7) 3) = true := by kernel_rfl
theorem k_7_4 (s0 s3 s4 s5 s6 s7 s8 s9 s10 s11 s12 s13 s14 s15 s16 s17 s18 s19 : Option Vd) (x : D) (μ : Mu) : chk (goodFl 20) 0 (goK (goK (t_0 [s0, some (.t .pen), some (.t x), s3, s4, s5, s6, s7, s8, s9, s10, s11, s12, s13, s14, s15, s16, s17, s18, s19] μ) 7) 4) = true := by kernel_rfl
theorem k_7_5 (s0 s3 s4 s5 s6 s7 s8 s9 s10 s11 s12 s13 s14 s15 s16 s17 s18 s19 : Option Vd) (x : D) (μ : Mu) : chk (goodFl 20) 0 (goK (goK (t_0 [s0, some (.t .pen), some (.t x), s3, s4, s5, s6, s7, s8, s9, s10, s11, s12, s13, s14, s15, s16, s17, s18, s19] μ) 7) 5) = true := by kernel_rfl
theorem k_7_6 (s0 s3 s4 s5 s6 s7 s8 s9 s10 s11 s12 s13 s14 s15 s16 s17 s18 s19 : Option Vd) (x : D) (μ : Mu) : chk (goodFl 20) 0 (goK (goK (t_0 [s0, some (.t .pen), some (.t x), s3, s4, s5, s6, s7, s8, s9, s10, s11, s12, s13, s14, s15, s16, s17, s18, s19] μ) 7) 6) = true := by kernel_rfl
theorem k_7_7 (s0 s3 s4 s5 s6 s7 s8 s9 s10 s11 s12 s13 s14 s15 s16 s17 s18 s19 : Option Vd) (x : D) (μ : Mu) : chk (goodFl 20) 0 (goK (goK (t_0 [s0, some (.t .pen), some (.t x), s3, s4, s5, s6, s7, s8, s9, s10, s11, s12, s13, s14, s15, s16, s17, s18, s19] μ) 7) 7) = true := by kernel_rfl
theorem k_7_8 (s0 s3 s4 s5 s6 s7 s8 s9 s10 s11 s12 s13 s14 s15 s16 s17 s18 s19 : Option Vd) (x : D) (μ : Mu) : chk (goodFl 20) 0 (goK (goK (t_0 [s0, some (.t .pen), some (.t x), s3, s4, s5, s6, s7, s8, s9, s10, s11, s12, s13, s14, s15, s16, s17, s18, s19] μ) 7) 8) = true := by kernel_rfl
end V

set_option Elab.async false
set_option linter.all false
set_option maxRecDepth 100000
set_option maxHeartbeats 4000000
namespace V
open PySem PySem.Spec PyProof.Rows L2 Y
set_option maxHeartbeats 0
theorem k_8_0 (s0 s3 s4 s5 s6 s7 s8 s9 s10 s11 s12 s13 s14 s15 s16 s17 s18 s19 : Option Vd) (x : D) (μ : Mu) : chk (goodFl 20) 0 (goK (goK (t_0 [s0, some (.t .pen), some (.t x), s3, s4, s5, s6, s7, s8, s9, s10, s11, s12, s13, s14, s15, s16, s17, s18, s19] μ) 8) 0) = true := by kernel_rfl
theorem k_8_1 (s0 s3 s4 s5 s6 s7 s8 s9 s10 s11 s12 s13 s14 s15 s16 s17 s18 s19 : Option Vd) (x : D) (μ : Mu) : chk (goodFl 20) 0 (goK (goK (t_0 [s0, some (.t .pen), some (.t x), s3, s4, s5, s6, s7, s8, s9, s10, s11, s12, s13, s14, s15, s16, s17, s18, s19] μ) 8) 1) = true := by kernel_rfl
theorem k_8_2 (s0 s3 s4 s5 s6 s7 s8 s9 s10 s11 s12 s13 s14 s15 s16 s17 s18 s19 : Option Vd) (x : D) (μ : Mu) : chk (goodFl 20) 0 (goK (goK (t_0 [s0, some (.t .pen), some (.t x), s3, s4, s5, s6, s7, s8, s9, s10, s11, s12, s13, s14, s15, s16, s17, s18, s19] μ) 8) 2) = true := by kernel_rfl
theorem k_8_3 (s0 s3 s4 s5 s6 s7 s8 s9 s10 s11 s12 s13 s14 s15 s16 s17 s18 s19 : Option Vd) (x : D) (μ : Mu) : chk (goodFl 20) 0 (goK (goK (t_0 [s0, some (.t .pen), some (.t x), s3, s4, s5, s6, s7, s8, s9, s10, s11, s12, s13, s14, s15, s16, s17, s18, s19] μ) 8) 3) = true := by kernel_rfl
theorem k_8_4 (s0 s3 s4 s5 s6 s7 s8 s9 s10 s11 s12 s13 s14 s15 s16 s17 s18 s19 : Option Vd) (x : D) (μ : Mu) : chk (goodFl 20) 0 (goK (goK (t_0 [s0, some (.t .pen), some (.t x), s3, s4, s5, s6, s7, s8, s9, s10, s11, s12, s13, s14, s15, s16, s17, s18, s19] μ) 8) 4) = true := by kernel_rfl
theorem k_8_5 (s0 s3 s4 s5 s6 s7 s8 s9 s10 s11 s12 s13 s14 s15 s16 s17 s18 s19 : Option Vd) (x : D) (μ : Mu) : chk (goodFl 20) 0 (goK (goK (t_0 [s0, some (.t .pen), some (.t x), s3, s4, s5, s6, s7, s8, s9, s10, s11, s12, s13, s14, s15, s16, s17, s18, s19] μ) 8) 5) = true := by kernel_rfl
theorem k_8_6 (s0 s3 s4 s5 s6 s7 s8 s9 s10 s11 s12 s13 s14 s15 s16 s17 s18 s19 : Option Vd) (x : D) (μ : Mu) : chk (goodFl 20) 0 (goK (goK (t_0 [s0, some (.t .pen), some (.t x), s3, s4, s5, s6, s7, s8, s9, s10, s11, s12, s13, s14, s15, s16, s17, s18, s19] μ) 8) 6) = true := by kernel_rfl
theorem k_8_7 (s0 s3 s4 s5 s6 s7 s8 s9 s10 s11 s12 s13 s14 s15 s16 s17 s18 s19 : Option Vd) (x : D) (μ : Mu) : chk (goodFl 20) 0 (goK (goK (t_0 [s0, some (.t .pen), some (.t x), s3, s4, s5, s6, s7, s8, s9, s10, s11, s12, s13, s14, s15, s16, s17, s18, s19] μ) 8) 7) = true := by kernel_rfl
theorem k_8_8 (s0 s3 s4 s5 s6 s7 s8 s9 s10 s11 s12 s13 s14 s15 s16 s17 s18 s19 : Option Vd) (x : D) (μ : Mu) : chk (goodFl 20) 0 (goK (goK (t_0 [s0, some (.t .pen), some (.t x), s3, s4, s5, s6, s7, s8, s9, s10, s11, s12, s13, s14, s15, s16, s17, s18, s19] μ) 8) 8) = true := by kernel_rfl
end V

set_option Elab.async false
set_option linter.all false
set_option maxRecDepth 100000
set_option maxHeartbeats 4000000
namespace V
open PySem PySem.Spec PyProof.Rows L2 Y
set_option maxHeartbeats 0
theorem two {t : T Fl} {p : Fl → Bool} (h : isAsk 9 t = true) (h1 : ∀ a, a < 9 → isAsk 9 (goK t a) = true) (h2 : ∀ a, a < 9 → ∀ b, b < 9 → chk p 0 (goK (goK t a) b) = true) : chk p 2 t = true := chk_ask h fun a ha => chk_ask (h1 a ha) fun b hb => h2 a ha b hb
theorem r_0 (s0 s3 s4 s5 s6 s7 s8 s9 s10 s11 s12 s13 s14 s15 s16 s17 s18 s19 : Option Vd) (x : D) (μ : Mu) : ∀ b, b < 9 → chk (goodFl 20) 0 (goK (goK (t_0 [s0, some (.t .pen), some (.t x), s3, s4, s5, s6, s7, s8, s9, s10, s11, s12, s13, s14, s15, s16, s17, s18, s19] μ) 0) b) = true := by
  refine lt9 (P := fun b => chk (goodFl 20) 0 (goK (goK (t_0 [s0, some (.t .pen), some (.t x), s3, s4, s5, s6, s7, s8, s9, s10, s11, s12, s13, s14, s15, s16, s17, s18, s19] μ) 0) b) = true) ?_ ?_ ?_ ?_ ?_ ?_ ?_ ?_ ?_
  · exact k_0_0 s0 s3 s4 s5 s6 s7 s8 s9 s10 s11 s12 s13 s14 s15 s16 s17 s18 s19 x μ
  · exact k_0_1 s0 s3 s4 s5 s6 s7 s8 s9 s10 s11 s12 s13 s14 s15 s16 s17 s18 s19 x μ
  · exact k_0_2 s0 s3 s4 s5 s6 s7 s8 s9 s10 s11 s12 s13 s14 s15 s16 s17 s18 s19 x μ
  · exact k_0_3 s0 s3 s4 s5 s6 s7 s8 s9 s10 s11 s12 s13 s14 s15 s16 s17 s18 s19 x μ
  · exact k_0_4 s0 s3 s4 s5 s6 s7 s8 s9 s10 s11 s12 s13 s14 s15 s16 s17 s18 s19 x μ
  · exact k_0_5 s0 s3 s4 s5 s6 s7 s8 s9 s10 s11 s12 s13 s14 s15 s16 s17 s18 s19 x μ
  · exact k_0_6 s0 s3 s4 s5 s6 s7 s8 s9 s10 s11 s12 s13 s14 s15 s16 s17 s18 s19 x μ
  · exact k_0_7 s0 s3 s4 s5 s6 s7 s8 s9 s10 s11 s12 s13 s14 s15 s16 s17 s18 s19 x μ
  · exact k_0_8 s0 s3 s4 s5 s6 s7 s8 s9 s10 s11 s12 s13 s14 s15 s16 s17 s18 s19 x μ
theorem r_1 (s0 s3 s4 s5 s6 s7 s8 s9 s10 s11 s12 s13 s14 s15 s16 s17 s18 s19 : Option Vd) (x : D) (μ : Mu) : ∀ b, b < 9 → chk (goodFl 20) 0 (goK (goK (t_0 [s0, some (.t .pen), some (.t x), s3, s4, s5, s6, s7, s8, s9, s10, s11, s12, s13, s14, s15, s16, s17, s18, s19] μ) 1) b) = true := by
  refine lt9 (P := fun b => chk (goodFl 20) 0 (goK (goK (t_0 [s0, some (.t .pen), some (.t x), s3, s4, s5, s6, s7, s8, s9, s10, s11, s12, s13, s14, s15, s16, s17, s18, s19] μ) 1) b) = true) ?_ ?_ ?_ ?_ ?_ ?_ ?_ ?_ ?_
  · exact k_1_0 s0 s3 s4 s5 s6 s7 s8 s9 s10 s11 s12 s13 s14 s15 s16 s17 s18 s19 x μ
  · exact k_1_1 s0 s3 s4 s5 s6 s7 s8 s9 s10 s11 s12 s13 s14 s15 s16 s17 s18 s19 x μ
  · exact k_1_2 s0 s3 s4 s5 s6 s7 s8 s9 s10 s11 s12 s13 s14 s15 s16 s17 s18 s19 x μ
  · exact k_1_3 s0 s3 s4 s5 s6 s7 s8 s9 s10 s11 s12 s13 s14 s15 s16 s17 s18 s19 x μ
  · exact k_1_4 s0 s3 s4 s5 s6 s7 s8 s9 s10 s11 s12 s13 s14 s15 s16 s17 s18 s19 x μ
  · exact k_1_5 s0 s3 s4 s5 s6 s7 s8 s9 s10 s11 s12 s13 s14 s15 s16 s17 s18 s19 x μ
  · exact k_1_6 s0 s3 s4 s5 s6 s7 s8 s9 s10 s11 s12 s13 s14 s15 s16 s17 s18 s19 x μ
  · exact k_1_7 s0 s3 s4 s5 s6 s7 s8 s9 s10 s11 s12 s13 s14 s15 s16 s17 s18 s19 x μ
  · exact k_1_8 s0 s3 s4 s5 s6 s7 s8 s9 s10 s11 s12 s13 s14 s15 s16 s17 s18 s19 x μ
theorem r_2 (s0 s3 s4 s5 s6 s7 s8 s9 s10 s11 s12 s13 s14 s15 s16 s17 s18 s19 : Option Vd) (x : D) (μ : Mu) : ∀ b, b < 9 → chk (goodFl 20) 0 (goK (goK (t_0 [s0, some (.t .pen), some (.t x), s3, s4, s5, s6, s7, s8, s9, s10, s11, s12, s13, s14, s15, s16, s17, s18, s19] μ) 2) b) = true := by
  refine lt9 (P := fun b => chk (goodFl 20) 0 (goK (goK (t_0 [s0, some (.t .pen), some (.t x), s3, s4, s5, s6, s7, s8, s9, s10, s11, s12, s13, s14, s15, s16, s17, s18, s19] μ) 2) b) = true) ?_ ?_ ?_ ?_ ?_ ?_ ?_ ?_ ?_
  · exact k_2_0 s0 s3 s4 s5 s6 s7 s8 s9 s10 s11 s12 s13 s14 s15 s16 s17 s18 s19 x μ
  · exact k_2_1 s0 s3 s4 s5 s6 s7 s8 s9 s10 s11 s12 s13 s14 s15 s16 s17 s18 s19 x μ
  · exact k_2_2 s0 s3 s4 s5 s6 s7 s8 s9 s10 s11 s12 s13 s14 s15 s16 s17 s18 s19 x μ
  · exact k_2_3 s0 s3 s4 s5 s6 s7 s8 s9 s10 s11 s12 s13 s14 s15 s16 s17 s18 s19 x μ
  · exact k_2_4 s0 s3 s4 s5 s6 s7 s8 s9 s10 s11 s12 s13 s14 s15 s16 s17 s18 s19 x μ
  · exact k_2_5 s0 s3 s4 s5 s6 s7 s8 s9 s10 s11 s12 s13 s14 s15 s16 s17 s18 s19 x μ
  · exact k_2_6 s0 s3 s4 s5 s6 s7 s8 s9 s10 s11 s12 s13 s14 s15 s16 s17 s18 s19 x μ
  · exact k_2_7 s0 s3 s4 s5 s6 s7 s8 s9 s10 s11 s12 s13 s14 s15 s16 s17 s18 s19 x μ
  · exact k_2_8 s0 s3 s4 s5 s6 s7 s8 s9 s10 s11 s12 s13 s14 s15 s16 s17 s18 s19 x μ
theorem r_3 (s0 s3 s4 s5 s6 s7 s8 s9 s10 s11 s12 s13 s14 s15 s16 s17 s18 s19 : Option Vd) (x : D) (μ : Mu) : ∀ b, b < 9 → chk (goodFl 20) 0 (goK (goK (t_0 [s0, some (.t .pen), some (.t x), s3, s4, s5, s6, s7, s8, s9, s10, s11, s12, s13, s14, s15, s16, s17, s18, s19] μ) 3) b) = true := by
  refine lt9 (P := fun b => chk (goodFl 20) 0 (goK (goK (t_0 [s0, some (.t .pen), some (.t x), s3, s4, s5, s6, s7, s8, s9, s10, s11, s12, s13, s14, s15, s16, s17, s18, s19] μ) 3) b) = true) ?_ ?_ ?_ ?_ ?_ ?_ ?_ ?_ ?_
  · exact k_3_0 s0 s3 s4 s5 s6 s7 s8 s9 s10 s11 s12 s13 s14 s15 s16 s17 s18 s19 x μ
  · exact k_3_1 s0 s3 s4 s5 s6 s7 s8 s9 s10 s11 s12 s13 s14 s15 s16 s17 s18 s19 x μ
  · exact k_3_2 s0 s3 s4 s5 s6 s7 s8 s9 s10 s11 s12 s13 s14 s15 s16 s17 s18 s19 x μ
  · exact k_3_3 s0 s3 s4 s5 s6 s7 s8 s9 s10 s11 s12 s13 s14 s15 s16 s17 s18 s19 x μ
  · exact k_3_4 s0 s3 s4 s5 s6 s7 s8 s9 s10 s11 s12 s13 s14 s15 s16 s17 s18 s19 x μ
  · exact k_3_5 s0 s3 s4 s5 s6 s7 s8 s9 s10 s11 s12 s13 s14 s15 s16 s17 s18 s19 x μ
  · exact k_3_6 s0 s3 s4 s5 s6 s7 s8 s9 s10 s11 s12 s13 s14 s15 s16 s17 s18 s19 x μ
  · exact k_3_7 s0 s3 s4 s5 s6 s7 s8 s9 s10 s11 s12 s13 s14 s15 s16 s17 s18 s19 x μ
  · exact k_3_8 s0 s3 s4 s5 s6 s7 s8 s9 s10 s11 s12 s13 s14 s15 s16 s17 s18 s19 x μ
theorem r_4 (s0 s3 s4 s5 s6 s7 s8 s9 s10 s11 s12 s13 s14 s15 s16 s17 s18 s19 : Option Vd) (x : D) (μ : Mu) : ∀ b, b < 9 → chk (goodFl 20) 0 (goK (goK (t_0 [s0, some (.t .pen), some (.t x), s3, s4, s5, s6, s7, s8, s9, s10, s11, s12, s13, s14, s15, s16, s17, s18, s19] μ) 4) b) = true := by
  refine lt9 (P := fun b => chk (goodFl 20) 0 (goK (goK (t_0 [s0, some (.t .pen), some (.t x), s3, s4, s5, s6, s7, s8, s9, s10, s11, s12, s13, s14, s15, s16, s17, s18, s19] μ) 4) b) = true) ?_ ?_ ?_ ?_ ?_ ?_ ?_ ?_ ?_
  · exact k_4_0 s0 s3 s4 s5 s6 s7 s8 s9 s10 s11 s12 s13 s14 s15 s16 s17 s18 s19 x μ
  · exact k_4_1 s0 s3 s4 s5 s6 s7 s8 s9 s10 s11 s12 s13 s14 s15 s16 s17 s18 s19 x μ
  · exact k_4_2 s0 s3 s4 s5 s6 s7 s8 s9 s10 s11 s12 s13 s14 s15 s16 s17 s18 s19 x μ
  · exact k_4_3 s0 s3 s4 s5 s6 s7 s8 s9 s10 s11 s12 s13 s14 s15 s16 s17 s18 s19 x μ
  · exact k_4_4 s0 s3 s4 s5 s6 s7 s8 s9 s10 s11 s12 s13 s14 s15 s16 s17 s18 s19 x μ
  · exact k_4_5 s0 s3 s4 s5 s6 s7 s8 s9 s10 s11 s12 s13 s14 s15 s16 s17 s18 s19 x μ
  · exact k_4_6 s0 s3 s4 s5 s6 s7 s8 s9 s10 s11 s12 s13 s14 s15 s16 s17 s18 s19 x μ
  · exact k_4_7 s0 s3 s4 s5 s6 s7 s8 s9 s10 s11 s12 s13 s14 s15 s16 s17 s18 s19 x μ
  · exact k_4_8 s0 s3 s4 s5 s6 s7 s8 s9 s10 s11 s12 s13 s14 s15 s16 s17 s18 s19 x μ
theorem r_5 (s0 s3 s4 s5 s6 s7 s8 s9 s10 s11 s12 s13 s14 s15 s16 s17 s18 s19 : Option Vd) (x : D) (μ : Mu) : ∀ b, b < 9 → chk (goodFl 20) 0 (goK (goK (t_0 [s0, some (.t .pen), some (.t x), s3, s4, s5, s6, s7, s8, s9, s10, s11, s12, s13, s14, s15, s16, s17, s18, s19] μ) 5) b) = true := by
  refine lt9 (P := fun b => chk (goodFl 20) 0 (goK (goK (t_0 [s0, some (.t .pen), some (.t x), s3, s4, s5, s6, s7, s8, s9, s10, s11, s12, s13, s14, s15, s16, s17, s18, s19] μ) 5) b) = true) ?_ ?_ ?_ ?_ ?_ ?_ ?_ ?_ ?_
  · exact k_5_0 s0 s3 s4 s5 s6 s7 s8 s9 s10 s11 s12 s13 s14 s15 s16 s17 s18 s19 x μ
  · exact k_5_1 s0 s3 s4 s5 s6 s7 s8 s9 s10 s11 s12 s13 s14 s15 s16 s17 s18 s19 x μ
  · exact k_5_2 s0 s3 s4 s5 s6 s7 s8 s9 s10 s11 s12 s13 s14 s15 s16 s17 s18 s19 x μ
  · exact k_5_3 s0 s3 s4 s5 s6 s7 s8 s9 s10 s11 s12 s13 s14 s15 s16 s17 s18 s19 x μ
  · exact k_5_4 s0 s3 s4 s5 s6 s7 s8 s9 s10 s11 s12 s13 s14 s15 s16 s17 s18 s19 x μ
  · exact k_5_5 s0 s3 s4 s5 s6 s7 s8 s9 s10 s11 s12 s13 s14 s15 s16 s17 s18 s19 x μ
  · exact k_5_6 s0 s3 s4 s5 s6 s7 s8 s9 s10 s11 s12 s13 s14 s15 s16 s17 s18 s19 x μ
  · exact k_5_7 s0 s3 s4 s5 s6 s7 s8 s9 s10 s11 s12 s13 s14 s15 s16 s17 s18 s19 x μ
  · exact k_5_8 s0 s3 s4 s5 s6 s7 s8 s9 s10 s11 s12 s13 s14 s15 s16 s17 s18 s19 x μ
theorem r_6 (s0 s3 s4 s5 s6 s7 s8 s9 s10 s11 s12 s13 s14 s15 s16 s17 s18 s19 : Option Vd) (x : D) (μ : Mu) : ∀ b, b < 9 → chk (goodFl 20) 0 (goK (goK (t_0 [s0, some (.t .pen), some (.t x), s3, s4, s5, s6, s7, s8, s9, s10, s11, s12, s13, s14, s15, s16, s17, s18, s19] μ) 6) b) = true := by
  refine lt9 (P := fun b => chk (goodFl 20) 0 (goK (goK (t_0 [s0, some (.t .pen), some (.t x), s3, s4, s5, s6, s7, s8, s9, s10, s11, s12, s13, s14, s15, s16, s17, s18, s19] μ) 6) b) = true) ?_ ?_ ?_ ?_ ?_ ?_ ?_ ?_ ?_
  · exact k_6_0 s0 s3 s4 s5 s6 s7 s8 s9 s10 s11 s12 s13 s14 s15 s16 s17 s18 s19 x μ
  · exact k_6_1 s0 s3 s4 s5 s6 s7 s8 s9 s10 s11 s12 s13 s14 s15 s16 s17 s18 s19 x μ
  · exact k_6_2 s0 s3 s4 s5 s6 s7 s8 s9 s10 s11 s12 s13 s14 s15 s16 s17 s18 s19 x μ
  · exact k_6_3 s0 s3 s4 s5 s6 s7 s8 s9 s10 s11 s12 s13 s14 s15 s16 s17 s18 s19 x μ
  · exact k_6_4 s0 s3 s4 s5 s6 s7 s8 s9 s10 s11 s12 s13 s14 s15 s16 s17 s18 s19 x μ
  · exact k_6_5 s0 s3 s4 s5 s6 s7 s8 s9 s10 s11 s12 s13 s14 s15 s16 s17 s18 s19 x μ
  · exact k_6_6 s0 s3 s4 s5 s6 s7 s8 s9 s10 s11 s12 s13 s14 s15 s16 s17 s18 s19 x μ
  · exact k_6_7 s0 s3 s4 s5 s6 s7 s8 s9 s10 s11 s12 s13 s14 s15 s16 s17 s18 s19 x μ
  · exact k_6_8 s0 s3 s4 s5 s6 s7 s8 s9 s10 s11 s12 s13 s14 s15 s16 s17 s18 s19 x μ
theorem r_7 (s0 s3 s4 s5 s6 s7 s8 s9 s10 s11 s12 s13 s14 s15 s16 s17 s18 s19 : Option Vd) (x : D) (μ : Mu) : ∀ b, b < 9 → chk (goodFl 20) 0 (goK (goK (t_0 [s0, some (.t .pen), some (.t x), s3, s4, s5, s6, s7, s8, s9, s10, s11, s12, s13, s14, s15, s16, s17, s18, s19] μ) 7) b) = true := by
  refine lt9 (P := fun b => chk (goodFl 20) 0 (goK (goK (t_0 [s0, some (.t .pen), some (.t x), s3, s4, s5, s6, s7, s8, s9, s10, s11, s12, s13, s14, s15, s16, s17, s18, s19] μ) 7) b) = true) ?_ ?_ ?_ ?_ ?_ ?_ ?_ ?_ ?_
  · exact k_7_0 s0 s3 s4 s5 s6 s7 s8 s9 s10 s11 s12 s13 s14 s15 s16 s17 s18 s19 x μ
  · exact k_7_1 s0 s3 s4 s5 s6 s7 s8 s9 s10 s11 s12 s13 s14 s15 s16 s17 s18 s19 x μ
  · exact k_7_2 s0 s3 s4 s5 s6 s7 s8 s9 s10 s11 s12 s13 s14 s15 s16 s17 s18 s19 x μ
  · exact k_7_3 s0 s3 s4 s5 s6 s7 s8 s9 s10 s11 s12 s13 s14 s15 s16 s17 s18 s19 x μ
  · exact k_7_4 s0 s3 s4 s5 s6 s7 s8 s9 s10 s11 s12 s13 s14 s15 s16 s17 s18 s19 x μ
  · exact k_7_5 s0 s3 s4 s5 s6 s7 s8 s9 s10 s11 s12 s13 s14 s15 s16 s17 s18 s19 x μ
  · exact k_7_6 s0 s3 s4 s5 s6 s7 s8 s9 s10 s11 s12 s13 s14 s15 s16 s17 s18 s19 x μ
  · exact k_7_7 s0 s3 s4 s5 s6 s7 s8 s9 s10 s11 s12 s13 s14 s15 s16 s17 s18 s19 x μ
  · exact k_7_8 s0 s3 s4 s5 s6 s7 s8 s9 s10 s11 s12 s13 s14 s15 s16 s17 s18 s19 x μ
theorem r_8 (s0 s3 s4 s5 s6 s7 s8 s9 s10 s11 s12 s13 s14 s15 s16 s17 s18 s19 : Option Vd) (x : D) (μ : Mu) : ∀ b, b < 9 → chk (goodFl 20) 0 (goK (goK (t_0 [s0, some (.t .pen), some (.t x), s3, s4, s5, s6, s7, s8, s9, s10, s11, s12, s13, s14, s15, s16, s17, s18, s19] μ) 8) b) = true := by
  refine lt9 (P := fun b => chk (goodFl 20) 0 (goK (goK (t_0 [s0, some (.t .pen), some (.t x), s3, s4, s5, s6, s7, s8, s9, s10, s11, s12, s13, s14, s15, s16, s17, s18, s19] μ) 8) b) = true) ?_ ?_ ?_ ?_ ?_ ?_ ?_ ?_ ?_
  · exact k_8_0 s0 s3 s4 s5 s6 s7 s8 s9 s10 s11 s12 s13 s14 s15 s16 s17 s18 s19 x μ
  · exact k_8_1 s0 s3 s4 s5 s6 s7 s8 s9 s10 s11 s12 s13 s14 s15 s16 s17 s18 s19 x μ
  · exact k_8_2 s0 s3 s4 s5 s6 s7 s8 s9 s10 s11 s12 s13 s14 s15 s16 s17 s18 s19 x μ
  · exact k_8_3 s0 s3 s4 s5 s6 s7 s8 s9 s10 s11 s12 s13 s14 s15 s16 s17 s18 s19 x μ
  · exact k_8_4 s0 s3 s4 s5 s6 s7 s8 s9 s10 s11 s12 s13 s14 s15 s16 s17 s18 s19 x μ
  · exact k_8_5 s0 s3 s4 s5 s6 s7 s8 s9 s10 s11 s12 s13 s14 s15 s16 s17 s18 s19 x μ
  · exact k_8_6 s0 s3 s4 s5 s6 s7 s8 s9 s10 s11 s12 s13 s14 s15 s16 s17 s18 s19 x μ
  · exact k_8_7 s0 s3 s4 s5 s6 s7 s8 s9 s10 s11 s12 s13 s14 s15 s16 s17 s18 s19 x μ
  · exact k_8_8 s0 s3 s4 s5 s6 s7 s8 s9 s10 s11 s12 s13 s14 s15 s16 s17 s18 s19 x μ
theorem r_all (s0 s3 s4 s5 s6 s7 s8 s9 s10 s11 s12 s13 s14 s15 s16 s17 s18 s19 : Option Vd) (x : D) (μ : Mu) : ∀ a, a < 9 → ∀ b, b < 9 → chk (goodFl 20) 0 (goK (goK (t_0 [s0, some (.t .pen), some (.t x), s3, s4, s5, s6, s7, s8, s9, s10, s11, s12, s13, s14, s15, s16, s17, s18, s19] μ) a) b) = true := by
  refine lt9 (P := fun a => ∀ b, b < 9 → chk (goodFl 20) 0 (goK (goK (t_0 [s0, some (.t .pen), some (.t x), s3, s4, s5, s6, s7, s8, s9, s10, s11, s12, s13, s14, s15, s16, s17, s18, s19] μ) a) b) = true) ?_ ?_ ?_ ?_ ?_ ?_ ?_ ?_ ?_
  · exact r_0 s0 s3 s4 s5 s6 s7 s8 s9 s10 s11 s12 s13 s14 s15 s16 s17 s18 s19 x μ
  · exact r_1 s0 s3 s4 s5 s6 s7 s8 s9 s10 s11 s12 s13 s14 s15 s16 s17 s18 s19 x μ
  · exact r_2 s0 s3 s4 s5 s6 s7 s8 s9 s10 s11 s12 s13 s14 s15 s16 s17 s18 s19 x μ
  · exact r_3 s0 s3 s4 s5 s6 s7 s8 s9 s10 s11 s12 s13 s14 s15 s16 s17 s18 s19 x μ
  · exact r_4 s0 s3 s4 s5 s6 s7 s8 s9 s10 s11 s12 s13 s14 s15 s16 s17 s18 s19 x μ
  · exact r_5 s0 s3 s4 s5 s6 s7 s8 s9 s10 s11 s12 s13 s14 s15 s16 s17 s18 s19 x μ
  · exact r_6 s0 s3 s4 s5 s6 s7 s8 s9 s10 s11 s12 s13 s14 s15 s16 s17 s18 s19 x μ
  · exact r_7 s0 s3 s4 s5 s6 s7 s8 s9 s10 s11 s12 s13 s14 s15 s16 s17 s18 s19 x μ
  · exact r_8 s0 s3 s4 s5 s6 s7 s8 s9 s10 s11 s12 s13 s14 s15 s16 s17 s18 s19 x μ
theorem a_all (s0 s3 s4 s5 s6 s7 s8 s9 s10 s11 s12 s13 s14 s15 s16 s17 s18 s19 : Option Vd) (x : D) (μ : Mu) : ∀ a, a < 9 → isAsk 9 (goK (t_0 [s0, some (.t .pen), some (.t x), s3, s4, s5, s6, s7, s8, s9, s10, s11, s12, s13, s14, s15, s16, s17, s18, s19] μ) a) = true := by
  refine lt9 (P := fun a => isAsk 9 (goK (t_0 [s0, some (.t .pen), some (.t x), s3, s4, s5, s6, s7, s8, s9, s10, s11, s12, s13, s14, s15, s16, s17, s18, s19] μ) a) = true) ?_ ?_ ?_ ?_ ?_ ?_ ?_ ?_ ?_
  · exact k_ask_0 s0 s3 s4 s5 s6 s7 s8 s9 s10 s11 s12 s13 s14 s15 s16 s17 s18 s19 x μ
  · exact k_ask_1 s0 s3 s4 s5 s6 s7 s8 s9 s10 s11 s12 s13 s14 s15 s16 s17 s18 s19 x μ
  · exact k_ask_2 s0 s3 s4 s5 s6 s7 s8 s9 s10 s11 s12 s13 s14 s15 s16 s17 s18 s19 x μ
  · exact k_ask_3 s0 s3 s4 s5 s6 s7 s8 s9 s10 s11 s12 s13 s14 s15 s16 s17 s18 s19 x μ
  · exact k_ask_4 s0 s3 s4 s5 s6 s7 s8 s9 s10 s11 s12 s13 s14 s15 s16 s17 s18 s19 x μ
  · exact k_ask_5 s0 s3 s4 s5 s6 s7 s8 s9 s10 s11 s12 s13 s14 s15 s16 s17 s18 s19 x μ
  · exact k_ask_6 s0 s3 s4 s5 s6 s7 s8 s9 s10 s11 s12 s13 s14 s15 s16 s17 s18 s19 x μ
  · exact k_ask_7 s0 s3 s4 s5 s6 s7 s8 s9 s10 s11 s12 s13 s14 s15 s16 s17 s18 s19 x μ
  · exact k_ask_8 s0 s3 s4 s5 s6 s7 s8 s9 s10 s11 s12 s13 s14 s15 s16 s17 s18 s19 x μ
theorem turn_try (s0 s3 s4 s5 s6 s7 s8 s9 s10 s11 s12 s13 s14 s15 s16 s17 s18 s19 : Option Vd) (x : D) (μ : Mu) : chk (goodFl 20) 2 (t_0 [s0, some (.t .pen), some (.t x), s3, s4, s5, s6, s7, s8, s9, s10, s11, s12, s13, s14, s15, s16, s17, s18, s19] μ) = true := two (k_ask s0 s3 s4 s5 s6 s7 s8 s9 s10 s11 s12 s13 s14 s15 s16 s17 s18 s19 x μ) (a_all s0 s3 s4 s5 s6 s7 s8 s9 s10 s11 s12 s13 s14 s15 s16 s17 s18 s19 x μ) (r_all s0 s3 s4 s5 s6 s7 s8 s9 s10 s11 s12 s13 s14 s15 s16 s17 s18 s19 x μ)
theorem turn_ok (x : D) (ρ : Env') (μ : Mu) (h : okPen 20 ρ = true) : chk (goodFl 20) 2 (t_0 (ρ.set 2 (some (.t x))) μ) = true := by
  obtain ⟨s0, s2, s3, s4, s5, s6, s7, s8, s9, s10, s11, s12, s13, s14, s15, s16, s17, s18, s19, e⟩ := pen_is h
  have e2 : ρ.set 2 (some (.t x)) = [s0, some (.t .pen), some (.t x), s3, s4, s5, s6, s7, s8, s9, s10, s11, s12, s13, s14, s15, s16, s17, s18, s19] := by rw [e]; rfl
  rw [e2]
  exact turn_try s0 s3 s4 s5 s6 s7 s8 s9 s10 s11 s12 s13 s14 s15 s16 s17 s18 s19 x μ
end V

set_option Elab.async false
set_option linter.all false
set_option maxRecDepth 100000
set_option maxHeartbeats 4000000
namespace V
open PySem PySem.Spec PyProof.Rows L2 Y

theorem law_plain (f : FS) (src : FI) (xs : List D) (ρ : Env') (n m i : Nat) (hb : ∀ (x : D) (ρ : Env') (μ : Mu), okPen n ρ = true → chk (goodFl n) m (f (ρ.set i (some (.t x))) μ) = true) (hs : src ρ [] = .ret (xs, [])) (h : okPen n ρ = true) (l : m * xs.length ≤ 4194304) :
    (sSeq (sFor (.one i) src f) (sRet (eC (.bl true))) ρ []).All 4194304 (fun r _ => ∃ ρ, r = .rt (.t (.bl true)) ρ) (fun _ _ _ _ => False) := by
  refine T.All.of_bind ?_
  have e : sFor (.one i) src f ρ [] = loop (.one i) f xs ρ [] := by unfold sFor; rw [hs]; exact T.bind_ret _ _
  rw [e]
  refine (loop_pen hb xs ρ [] _ h l).mono fun r b ⟨ρ2, μ2, e2, h2⟩ => ?_
  subst e2
  exact ⟨μ2, rfl⟩
theorem src_ok : aRng (aCons (eC (.int 20)) aNil) (penEnv 20) [] = .ret (rangeOf 20, []) := by kernel_rfl
theorem few : 2 * (rangeOf 20).length ≤ 4194304 := by decide +kernel
theorem pen0 : okPen 20 (penEnv 20) = true := by decide +kernel
theorem plain : (b_law (penEnv 20) []).All 4194304 (fun r _ => ∃ ρ, r = .rt (.t (.bl true)) ρ) (fun _ _ _ _ => False) := by
  unfold b_law
  exact law_plain t_0 (aRng (aCons (eC (.int 20)) (aNil))) (rangeOf 20) (penEnv 20) 20 2 2 turn_ok src_ok pen0 few
end V

set_option Elab.async false
set_option linter.all false
set_option maxRecDepth 100000
set_option maxHeartbeats 4000000
namespace V
open PySem PySem.Spec PyProof.Rows L2 Y
section
variable {P : Program} {w : World} {K : PySem.W.Frag} {mg : Str → Option Value} {base : Heap} {CL : Nat → Addr}
theorem fn_recG {x : Str} {f : Addr} {fd : FuncData} {ps : List Str} {step : (List D → T D) → List D → T D} (k0 m : Nat) (hps : ps.length = m) (hm : mg x = some (.ref f)) (hk : PySem.W.keepIn K (.ref f) = true) (hb : Binds K fd ps [])
    (h : ∀ (k : Nat) (F : List D → T D), k0 ≤ k → Ar m F → Fn P w K mg base CL k x m F → FnG P w K mg base (k + 1) f fd ps (spD CL K m (step F))) (ha : ∀ F, Ar m F → Ar m (step F)) (n : Nat) : FnG P w K mg base (k0 + n + 1) f fd ps (spD CL K m (byDepth step (n + 1))) := by
  obtain ⟨h1, h2⟩ := fn_rec k0 m hps hm hk hb h ha n
  exact h (k0 + n) _ (Nat.le_add_right _ _) h2 h1
theorem IsaX.sub {cs cs' : List Nat} {sup : Nat → Nat → Bool} (S : IsaX K CL cs sup) (h : ∀ C ∈ cs', C ∈ cs) : IsaX K CL cs' sup := ⟨fun C hC => S.ex C (h C hC), fun C hC D hD => S.cc C (h C hC) D (h D hD)⟩
theorem okG_fixed {f : Addr} {fd : FuncData} (F : Fun K "fixed" "fixed" s_fixed f fd) (T : Txt K w mg) (hm : mg "fixed" = some (.ref f)) (hb : Binds K fd ["value"] []) : FnG P w K mg base 9 f fd ["value"] (spD CL K 1 f_fixed) := by
  have S := sc_fixed
  refine fn_recG (ps := ["value"]) 1 1 rfl hm F.kp hb (fun k f_fixed hk ar_fixed c_fixed => ?_) (fun G h => ar_fnP) 7
  refine fnG_P ["value", "part"] ["value"] 2 1 (fs := b_fixed f_fixed) rfl rfl rfl F S ?_
  intro cdv A outer s H E B hr hx hcl hW0
  exact sss_cons (ss_if (sk_tru (se_callB c_isi vc_isi T.m_isinstance (sa_cons (se_var 0) (sa_cons (se_tup (sa_cons (se_ty .list T.m_list (hv := bt_list)) (sa_cons (se_ty .tuple T.m_tuple (hv := bt_tuple)) (sa_nil)))) (sa_nil))) (hb := bt_isinstance))) (sss_one (ss_ret (se_callTy call_tuple_of vc_tuple T.m_tuple (sa_cons (se_comp (tg := .one 1) (own := [("part", 1)]) rfl S.nd (si_seq (se_var 0)) (blkOk_by rfl) rfl (fun _ _ _ _ _ => sg_one 1 S.nd) (fun _ _ _ _ _ => pts_nil) tt_yes (fun _ _ _ _ _ => se_call c_fixed ar_fixed hr (Nat.le_refl _) (Lets.no fun _ _ _ _ h => h) hcl (sa_cons (se_var 1) (sa_nil)))) (sa_nil)) (hb := bt_tuple)))) (sss_nil)) (sss_one (ss_ret (se_var 0)))
end
abbrev s_BadValue : Stmt := sub (top 7) 0
abbrev s_BadNumber : Stmt := sub (top 8) 0
abbrev s_BadDeeds : Stmt := sub (top 9) 0
abbrev s_BadText : Stmt := sub (top 10) 0
abbrev s_BadBytes : Stmt := sub (top 11) 0
abbrev s_Misfit : Stmt := sub (top 12) 0
abbrev s_Nothing : Stmt := sub (top 13) 0
abbrev s_TooMany : Stmt := sub (top 14) 0
theorem all_mk {l : PySem.W.OpenLaw} {w : World} {K : PySem.W.Frag} {h : Heap} {mg : Str → Option Value} {fa f0 f1 f2 f3 f4 f5 f6 r_pi r_pb r_pe r_db C0 C1 C2 C3 C4 C5 C6 C7 C8 C9 C10 C11 C12 wf wcda wcc pf pcda pcc e1f e1cda e1cc e2f e2cda e2cc e3f e3cda e3cc e4f e4cda e4cc e5f e5cda e5cc e6f e6cda e6cc e7f e7cda e7cc e8f e8cda e8cc e1N e2N e3N e4N e5N e6N e7N e8N : Addr} {oc0 kV0 dc0 pm0 cd0 ct0 oc1 kV1 dc1 pm1 cd1 ct1 oc2 kV2 dc2 pm2 cd2 ct2 oc3 kV3 dc3 pm3 cd3 ct3 oc4 kV4 dc4 pm4 cd4 ct4 oc5 kV5 dc5 pm5 cd5 ct5 oc6 kV6 dc6 pm6 cd6 ct6 oc_pi kV_pi dc_pi pm_pi cd_pi ct_pi oc_pb kV_pb dc_pb pm_pb cd_pb ct_pb oc_pe kV_pe dc_pe pm_pe cd_pe ct_pe oc_db kV_db dc_db pm_db cd_db ct_db woc wkV wdoc wpm wct wccl wcl poc pkV pdoc ppm pct pccl pcl e1oc e1kV e1doc e1pm e1ct e1ccl e1cl e2oc e2kV e2doc e2pm e2ct e2ccl e2cl e3oc e3kV e3doc e3pm e3ct e3ccl e3cl e4oc e4kV e4doc e4pm e4ct e4ccl e4cl e5oc e5kV e5doc e5pm e5ct e5ccl e5cl e6oc e6kV e6doc e6pm e6ct e6ccl e6cl e7oc e7kV e7doc e7pm e7ct e7ccl e7cl e8oc e8kV e8doc e8pm e8ct e8ccl e8cl : Value} {od0 an0 od1 an1 od2 an2 od3 an3 od4 an4 od5 an5 od6 an6 od_pi an_pi od_pb an_pb od_pe an_pe od_db an_db wod wan wcdd wcld pod pan pcdd pcld e1od e1an e1cdd e1cld e2od e2an e2cdd e2cld e3od e3an e3cdd e3cld e4od e4an e4cdd e4cld e5od e5an e5cdd e5cld e6od e6an e6cdd e6cld e7od e7an e7cdd e7cld e8od e8an e8cdd e8cld e1dd e2dd e3dd e4dd e5dd e6dd e7dd e8dd : Option Addr} {sl0 sl1 sl2 sl3 sl4 sl5 sl6 sl_pi sl_pb sl_pe sl_db wosl wccs wcsl posl pccs pcsl e1osl e1ccs e1csl e2osl e2ccs e2csl e3osl e3ccs e3csl e4osl e4ccs e4csl e5osl e5ccs e5csl e6osl e6ccs e6csl e7osl e7ccs e7csl e8osl e8ccs e8csl : Array (Option Value)} {wtf ptf e1tf e2tf e3tf e4tf e5tf e6tf e7tf e8tf : Tok} {wvs pvs e1vs e2vs e3vs e4vs e5vs e6vs e7vs e8vs : Array Value} {wfile pfile e1file e2file e3file e4file e5file e6file e7file e8file e1nm e1q e2nm e2q e3nm e3q e4nm e4q e5nm e5q e6nm e6q e7nm e7q e8nm e8q : Str} {e1bs e1bm e1sub e2bs e2bm e2sub e3bs e3bm e3sub e4bs e4bm e4sub e5bs e5bm e5sub e6bs e6bm e6sub e7bs e7bm e7sub e8bs e8bm e8sub : List Value} {e1sn e2sn e3sn e4sn e5sn e6sn e7sn e8sn : List Str} {e1ab e2ab e3ab e4ab e5ab e6ab e7ab e8ab : Bool} {e1col e2col e3col e4col e5col e6col e7col e8col : Option Bool} {e1k0 e1k1 e1k2 e1k3 e1k5 e2k0 e2k1 e2k2 e2k3 e2k5 e3k0 e3k1 e3k2 e3k3 e3k5 e4k0 e4k1 e4k2 e4k3 e4k5 e5k0 e5k1 e5k2 e5k3 e5k5 e6k0 e6k1 e6k2 e6k3 e6k5 e7k0 e7k1 e7k2 e7k3 e7k5 e8k0 e8k1 e8k2 e8k3 e8k5 : Option Value}
    (X : K.In h) (G : h.Ns mainGlobals mg) (hfa : mg "law" = some (.ref fa))
    (a0 : PySem.W.nsIn K mainGlobals "fixed" = some (some (.ref f0)))
    (l0 : K.lookup f0 = some ⟨oc0, od0, .func (PySem.W.fnOf "fixed" "fixed" (defArgs s_fixed) (defBody s_fixed) (defScope s_fixed) .none kV0 dc0 pm0 an0 cd0 ct0), sl0⟩)
    (c0 : PySem.W.codeIn K cd0 "fixed" = true)
    (k0 : PySem.W.keepIn K (.ref f0) = true)
    (a1 : PySem.W.nsIn K mainGlobals "are_alike" = some (some (.ref f1)))
    (l1 : K.lookup f1 = some ⟨oc1, od1, .func (PySem.W.fnOf "are_alike" "are_alike" (defArgs s_are_alike) (defBody s_are_alike) (defScope s_are_alike) .none kV1 dc1 pm1 an1 cd1 ct1), sl1⟩)
    (c1 : PySem.W.codeIn K cd1 "are_alike" = true)
    (k1 : PySem.W.keepIn K (.ref f1) = true)
    (a2 : PySem.W.nsIn K mainGlobals "_law_pick" = some (some (.ref f2)))
    (l2 : K.lookup f2 = some ⟨oc2, od2, .func (PySem.W.fnOf "_law_pick" "_law_pick" (defArgs s__law_pick) (defBody s__law_pick) (defScope s__law_pick) .none kV2 dc2 pm2 an2 cd2 ct2), sl2⟩)
    (c2 : PySem.W.codeIn K cd2 "_law_pick" = true)
    (k2 : PySem.W.keepIn K (.ref f2) = true)
    (a3 : PySem.W.nsIn K mainGlobals "_law_classes" = some (some (.ref f3)))
    (l3 : K.lookup f3 = some ⟨oc3, od3, .func (PySem.W.fnOf "_law_classes" "_law_classes" (defArgs s__law_classes) (defBody s__law_classes) (defScope s__law_classes) .none kV3 dc3 pm3 an3 cd3 ct3), sl3⟩)
    (c3 : PySem.W.codeIn K cd3 "_law_classes" = true)
    (k3 : PySem.W.keepIn K (.ref f3) = true)
    (a4 : PySem.W.nsIn K mainGlobals "_law_pen" = some (some (.ref f4)))
    (l4 : K.lookup f4 = some ⟨oc4, od4, .func (PySem.W.fnOf "_law_pen" "_law_pen" (defArgs s_law_pen) (defBody s_law_pen) (defScope s_law_pen) .none kV4 dc4 pm4 an4 cd4 ct4), sl4⟩)
    (c4 : PySem.W.codeIn K cd4 "_law_pen" = true)
    (k4 : PySem.W.keepIn K (.ref f4) = true)
    (a5 : PySem.W.nsIn K mainGlobals "_law_draw" = some (some (.ref f5)))
    (l5 : K.lookup f5 = some ⟨oc5, od5, .func (PySem.W.fnOf "_law_draw" "_law_draw" (defArgs s_law_draw) (defBody s_law_draw) (defScope s_law_draw) .none kV5 dc5 pm5 an5 cd5 ct5), sl5⟩)
    (c5 : PySem.W.codeIn K cd5 "_law_draw" = true)
    (k5 : PySem.W.keepIn K (.ref f5) = true)
    (a6 : PySem.W.nsIn K mainGlobals "law" = some (some (.ref f6)))
    (l6 : K.lookup f6 = some ⟨oc6, od6, .func (PySem.W.fnOf "law" "law" (defArgs s_law) (defBody s_law) (defScope s_law) .none kV6 dc6 pm6 an6 cd6 ct6), sl6⟩)
    (c6 : PySem.W.codeIn K cd6 "law" = true)
    (k6 : PySem.W.keepIn K (.ref f6) = true)
    (z_ValueError : PySem.W.nsIn K mainGlobals "ValueError" = some none)
    (z_abs : PySem.W.nsIn K mainGlobals "abs" = some none)
    (z_all : PySem.W.nsIn K mainGlobals "all" = some none)
    (z_bool : PySem.W.nsIn K mainGlobals "bool" = some none)
    (z_enumerate : PySem.W.nsIn K mainGlobals "enumerate" = some none)
    (z_int : PySem.W.nsIn K mainGlobals "int" = some none)
    (z_isinstance : PySem.W.nsIn K mainGlobals "isinstance" = some none)
    (z_len : PySem.W.nsIn K mainGlobals "len" = some none)
    (z_list : PySem.W.nsIn K mainGlobals "list" = some none)
    (z_range : PySem.W.nsIn K mainGlobals "range" = some none)
    (z_repr : PySem.W.nsIn K mainGlobals "repr" = some none)
    (z_super : PySem.W.nsIn K mainGlobals "super" = some none)
    (z_tuple : PySem.W.nsIn K mainGlobals "tuple" = some none)
    (z_zip : PySem.W.nsIn K mainGlobals "zip" = some none)
    (gc0 : PySem.W.nsIn K mainGlobals "PlotError" = some (some (.ref C0)))
    (gc1 : PySem.W.nsIn K mainGlobals "BadValue" = some (some (.ref C1)))
    (gc2 : PySem.W.nsIn K mainGlobals "BadNumber" = some (some (.ref C2)))
    (gc3 : PySem.W.nsIn K mainGlobals "BadDeeds" = some (some (.ref C3)))
    (gc4 : PySem.W.nsIn K mainGlobals "BadText" = some (some (.ref C4)))
    (gc5 : PySem.W.nsIn K mainGlobals "BadBytes" = some (some (.ref C5)))
    (gc6 : PySem.W.nsIn K mainGlobals "Misfit" = some (some (.ref C6)))
    (gc7 : PySem.W.nsIn K mainGlobals "Nothing" = some (some (.ref C7)))
    (gc8 : PySem.W.nsIn K mainGlobals "TooMany" = some (some (.ref C8)))
    (gc9 : PySem.W.nsIn K mainGlobals "Paper" = some (some (.ref C9)))
    (gc10 : PySem.W.nsIn K mainGlobals "Denial" = some (some (.ref C10)))
    (gc11 : PySem.W.nsIn K mainGlobals "Wall" = some (some (.ref C11)))
    (gc12 : PySem.W.nsIn K mainGlobals "Plot" = some (some (.ref C12)))
    (m_pi : PySem.W.findIn K (.ref C9) "__init__" = some (some (.ref r_pi)))
    (ml_pi : K.lookup r_pi = some ⟨oc_pi, od_pi, .func (PySem.W.fnOf "__init__" "Paper.__init__" (defArgs s_Paper_init) (defBody s_Paper_init) (defScope s_Paper_init) .none kV_pi dc_pi pm_pi an_pi cd_pi ct_pi), sl_pi⟩)
    (mc_pi : PySem.W.codeIn K cd_pi "Paper.__init__" = true)
    (mk_pi : PySem.W.keepIn K (.ref r_pi) = true)
    (mf_pi : PySem.W.isFn K (.ref r_pi) = true)
    (m_pb : PySem.W.findIn K (.ref C9) "__bool__" = some (some (.ref r_pb)))
    (ml_pb : K.lookup r_pb = some ⟨oc_pb, od_pb, .func (PySem.W.fnOf "__bool__" "Paper.__bool__" (defArgs s_Paper_bool) (defBody s_Paper_bool) (defScope s_Paper_bool) .none kV_pb dc_pb pm_pb an_pb cd_pb ct_pb), sl_pb⟩)
    (mc_pb : PySem.W.codeIn K cd_pb "Paper.__bool__" = true)
    (mk_pb : PySem.W.keepIn K (.ref r_pb) = true)
    (mf_pb : PySem.W.isFn K (.ref r_pb) = true)
    (m_pe : PySem.W.findIn K (.ref C9) "__eq__" = some (some (.ref r_pe)))
    (ml_pe : K.lookup r_pe = some ⟨oc_pe, od_pe, .func (PySem.W.fnOf "__eq__" "Paper.__eq__" (defArgs s_Paper_eq) (defBody s_Paper_eq) (defScope s_Paper_eq) .none kV_pe dc_pe pm_pe an_pe cd_pe ct_pe), sl_pe⟩)
    (mc_pe : PySem.W.codeIn K cd_pe "Paper.__eq__" = true)
    (mk_pe : PySem.W.keepIn K (.ref r_pe) = true)
    (mf_pe : PySem.W.isFn K (.ref r_pe) = true)
    (m_db : PySem.W.findIn K (.ref C10) "__bool__" = some (some (.ref r_db)))
    (ml_db : K.lookup r_db = some ⟨oc_db, od_db, .func (PySem.W.fnOf "__bool__" "Denial.__bool__" (defArgs s_Denial_bool) (defBody s_Denial_bool) (defScope s_Denial_bool) .none kV_db dc_db pm_db an_db cd_db ct_db), sl_db⟩)
    (mc_db : PySem.W.codeIn K cd_db "Denial.__bool__" = true)
    (mk_db : PySem.W.keepIn K (.ref r_db) = true)
    (mf_db : PySem.W.isFn K (.ref r_db) = true)
    (n_11pe : PySem.W.findIn K (.ref C11) "__eq__" = some (some (.ref r_pe)))
    (n_12pe : PySem.W.findIn K (.ref C12) "__eq__" = some (some (.ref r_pe)))
    (n_11pb : PySem.W.findIn K (.ref C11) "__bool__" = some (some (.ref r_pb)))
    (n_12db : PySem.W.findIn K (.ref C12) "__bool__" = some (some (.ref r_db)))
    (w_init : PySem.W.findIn K (.ref C11) "__init__" = some (some (.ref wf)))
    (w_f : K.lookup wf = some ⟨woc, wod, .func (PySem.W.ksFn "__init__" "Wall.__init__" (defArgs s_Wall_init) (defBody s_Wall_init) (defScope s_Wall_init) .none wkV wdoc wpm wan (.ref wcda) wct wcc), wosl⟩)
    (w_code : PySem.W.codeIn K (.ref wcda) "Wall.__init__" = true)
    (w_cda : K.lookup wcda = some ⟨wccl, wcdd, .fields wvs, wccs⟩)
    (w_file : wvs[2]? = some (.str wfile wtf))
    (w_main : ((l.prog.main.file : Str) == wfile) = true)
    (w_cell : K.lookup wcc = some ⟨wcl, wcld, .cell (some (.ref C11)), wcsl⟩)
    (p_init : PySem.W.findIn K (.ref C12) "__init__" = some (some (.ref pf)))
    (p_f : K.lookup pf = some ⟨poc, pod, .func (PySem.W.ksFn "__init__" "Plot.__init__" (defArgs s_Plot_init) (defBody s_Plot_init) (defScope s_Plot_init) .none pkV pdoc ppm pan (.ref pcda) pct pcc), posl⟩)
    (p_code : PySem.W.codeIn K (.ref pcda) "Plot.__init__" = true)
    (p_cda : K.lookup pcda = some ⟨pccl, pcdd, .fields pvs, pccs⟩)
    (p_file : pvs[2]? = some (.str pfile ptf))
    (p_main : ((l.prog.main.file : Str) == pfile) = true)
    (p_cell : K.lookup pcc = some ⟨pcl, pcld, .cell (some (.ref C12)), pcsl⟩)
    (v_sup : (l.prog.main.scope.names.lookup ("super" : Str)).isSome = false)
    (su_w : suB K C11 r_pi = true)
    (su_p : suB K C12 r_pi = true)
    (b_mk9 : mkB K C9 r_pi = true)
    (b_mk10 : mkB K C10 r_pi = true)
    (b_mk11 : mkB K C11 wf = true)
    (b_mk12 : mkB K C12 pf = true)
    (e1_cls : K.lookup C1 = some (PySem.excClassObj e1nm e1q C1 e1N e1bs e1bm true e1sn e1sub e1ab e1col e1dd e1k0 e1k1 e1k2 e1k3 e1k5 "ValueError.__new__"))
    (e1_bm : PySem.HandSPX.refsVE e1bm = true)
    (e1_init : PySem.W.findIn K (.ref C1) "__init__" = some (some (.ref e1f)))
    (e1_f : K.lookup e1f = some ⟨e1oc, e1od, .func (PySem.W.ksFn "__init__" "BadValue.__init__" (defArgs s_BadValue) (defBody s_BadValue) (defScope s_BadValue) .none e1kV e1doc e1pm e1an (.ref e1cda) e1ct e1cc), e1osl⟩)
    (e1_code : PySem.W.codeIn K (.ref e1cda) "BadValue.__init__" = true)
    (e1_cda : K.lookup e1cda = some ⟨e1ccl, e1cdd, .fields e1vs, e1ccs⟩)
    (e1_file : e1vs[2]? = some (.str e1file e1tf))
    (e1_main : ((l.prog.main.file : Str) == e1file) = true)
    (e1_cell : K.lookup e1cc = some ⟨e1cl, e1cld, .cell (some (.ref C1)), e1csl⟩)
    (e1_err : errB K C1 e1f "part" = true)
    (e2_cls : K.lookup C2 = some (PySem.excClassObj e2nm e2q C2 e2N e2bs e2bm true e2sn e2sub e2ab e2col e2dd e2k0 e2k1 e2k2 e2k3 e2k5 "ValueError.__new__"))
    (e2_bm : PySem.HandSPX.refsVE e2bm = true)
    (e2_init : PySem.W.findIn K (.ref C2) "__init__" = some (some (.ref e2f)))
    (e2_f : K.lookup e2f = some ⟨e2oc, e2od, .func (PySem.W.ksFn "__init__" "BadNumber.__init__" (defArgs s_BadNumber) (defBody s_BadNumber) (defScope s_BadNumber) .none e2kV e2doc e2pm e2an (.ref e2cda) e2ct e2cc), e2osl⟩)
    (e2_code : PySem.W.codeIn K (.ref e2cda) "BadNumber.__init__" = true)
    (e2_cda : K.lookup e2cda = some ⟨e2ccl, e2cdd, .fields e2vs, e2ccs⟩)
    (e2_file : e2vs[2]? = some (.str e2file e2tf))
    (e2_main : ((l.prog.main.file : Str) == e2file) = true)
    (e2_cell : K.lookup e2cc = some ⟨e2cl, e2cld, .cell (some (.ref C2)), e2csl⟩)
    (e2_err : errB K C2 e2f "part" = true)
    (e3_cls : K.lookup C3 = some (PySem.excClassObj e3nm e3q C3 e3N e3bs e3bm true e3sn e3sub e3ab e3col e3dd e3k0 e3k1 e3k2 e3k3 e3k5 "ValueError.__new__"))
    (e3_bm : PySem.HandSPX.refsVE e3bm = true)
    (e3_init : PySem.W.findIn K (.ref C3) "__init__" = some (some (.ref e3f)))
    (e3_f : K.lookup e3f = some ⟨e3oc, e3od, .func (PySem.W.ksFn "__init__" "BadDeeds.__init__" (defArgs s_BadDeeds) (defBody s_BadDeeds) (defScope s_BadDeeds) .none e3kV e3doc e3pm e3an (.ref e3cda) e3ct e3cc), e3osl⟩)
    (e3_code : PySem.W.codeIn K (.ref e3cda) "BadDeeds.__init__" = true)
    (e3_cda : K.lookup e3cda = some ⟨e3ccl, e3cdd, .fields e3vs, e3ccs⟩)
    (e3_file : e3vs[2]? = some (.str e3file e3tf))
    (e3_main : ((l.prog.main.file : Str) == e3file) = true)
    (e3_cell : K.lookup e3cc = some ⟨e3cl, e3cld, .cell (some (.ref C3)), e3csl⟩)
    (e3_err : errB K C3 e3f "at" = true)
    (e4_cls : K.lookup C4 = some (PySem.excClassObj e4nm e4q C4 e4N e4bs e4bm true e4sn e4sub e4ab e4col e4dd e4k0 e4k1 e4k2 e4k3 e4k5 "ValueError.__new__"))
    (e4_bm : PySem.HandSPX.refsVE e4bm = true)
    (e4_init : PySem.W.findIn K (.ref C4) "__init__" = some (some (.ref e4f)))
    (e4_f : K.lookup e4f = some ⟨e4oc, e4od, .func (PySem.W.ksFn "__init__" "BadText.__init__" (defArgs s_BadText) (defBody s_BadText) (defScope s_BadText) .none e4kV e4doc e4pm e4an (.ref e4cda) e4ct e4cc), e4osl⟩)
    (e4_code : PySem.W.codeIn K (.ref e4cda) "BadText.__init__" = true)
    (e4_cda : K.lookup e4cda = some ⟨e4ccl, e4cdd, .fields e4vs, e4ccs⟩)
    (e4_file : e4vs[2]? = some (.str e4file e4tf))
    (e4_main : ((l.prog.main.file : Str) == e4file) = true)
    (e4_cell : K.lookup e4cc = some ⟨e4cl, e4cld, .cell (some (.ref C4)), e4csl⟩)
    (e4_err : errB2 K C4 e4f "line" "word" = true)
    (e5_cls : K.lookup C5 = some (PySem.excClassObj e5nm e5q C5 e5N e5bs e5bm true e5sn e5sub e5ab e5col e5dd e5k0 e5k1 e5k2 e5k3 e5k5 "ValueError.__new__"))
    (e5_bm : PySem.HandSPX.refsVE e5bm = true)
    (e5_init : PySem.W.findIn K (.ref C5) "__init__" = some (some (.ref e5f)))
    (e5_f : K.lookup e5f = some ⟨e5oc, e5od, .func (PySem.W.ksFn "__init__" "BadBytes.__init__" (defArgs s_BadBytes) (defBody s_BadBytes) (defScope s_BadBytes) .none e5kV e5doc e5pm e5an (.ref e5cda) e5ct e5cc), e5osl⟩)
    (e5_code : PySem.W.codeIn K (.ref e5cda) "BadBytes.__init__" = true)
    (e5_cda : K.lookup e5cda = some ⟨e5ccl, e5cdd, .fields e5vs, e5ccs⟩)
    (e5_file : e5vs[2]? = some (.str e5file e5tf))
    (e5_main : ((l.prog.main.file : Str) == e5file) = true)
    (e5_cell : K.lookup e5cc = some ⟨e5cl, e5cld, .cell (some (.ref C5)), e5csl⟩)
    (e5_err : errB K C5 e5f "at" = true)
    (e6_cls : K.lookup C6 = some (PySem.excClassObj e6nm e6q C6 e6N e6bs e6bm true e6sn e6sub e6ab e6col e6dd e6k0 e6k1 e6k2 e6k3 e6k5 "ValueError.__new__"))
    (e6_bm : PySem.HandSPX.refsVE e6bm = true)
    (e6_init : PySem.W.findIn K (.ref C6) "__init__" = some (some (.ref e6f)))
    (e6_f : K.lookup e6f = some ⟨e6oc, e6od, .func (PySem.W.ksFn "__init__" "Misfit.__init__" (defArgs s_Misfit) (defBody s_Misfit) (defScope s_Misfit) .none e6kV e6doc e6pm e6an (.ref e6cda) e6ct e6cc), e6osl⟩)
    (e6_code : PySem.W.codeIn K (.ref e6cda) "Misfit.__init__" = true)
    (e6_cda : K.lookup e6cda = some ⟨e6ccl, e6cdd, .fields e6vs, e6ccs⟩)
    (e6_file : e6vs[2]? = some (.str e6file e6tf))
    (e6_main : ((l.prog.main.file : Str) == e6file) = true)
    (e6_cell : K.lookup e6cc = some ⟨e6cl, e6cld, .cell (some (.ref C6)), e6csl⟩)
    (e6_err : errB K C6 e6f "part" = true)
    (e7_cls : K.lookup C7 = some (PySem.excClassObj e7nm e7q C7 e7N e7bs e7bm true e7sn e7sub e7ab e7col e7dd e7k0 e7k1 e7k2 e7k3 e7k5 "ValueError.__new__"))
    (e7_bm : PySem.HandSPX.refsVE e7bm = true)
    (e7_init : PySem.W.findIn K (.ref C7) "__init__" = some (some (.ref e7f)))
    (e7_f : K.lookup e7f = some ⟨e7oc, e7od, .func (PySem.W.ksFn "__init__" "Nothing.__init__" (defArgs s_Nothing) (defBody s_Nothing) (defScope s_Nothing) .none e7kV e7doc e7pm e7an (.ref e7cda) e7ct e7cc), e7osl⟩)
    (e7_code : PySem.W.codeIn K (.ref e7cda) "Nothing.__init__" = true)
    (e7_cda : K.lookup e7cda = some ⟨e7ccl, e7cdd, .fields e7vs, e7ccs⟩)
    (e7_file : e7vs[2]? = some (.str e7file e7tf))
    (e7_main : ((l.prog.main.file : Str) == e7file) = true)
    (e7_cell : K.lookup e7cc = some ⟨e7cl, e7cld, .cell (some (.ref C7)), e7csl⟩)
    (e7_err : errB K C7 e7f "word" = true)
    (e8_cls : K.lookup C8 = some (PySem.excClassObj e8nm e8q C8 e8N e8bs e8bm true e8sn e8sub e8ab e8col e8dd e8k0 e8k1 e8k2 e8k3 e8k5 "ValueError.__new__"))
    (e8_bm : PySem.HandSPX.refsVE e8bm = true)
    (e8_init : PySem.W.findIn K (.ref C8) "__init__" = some (some (.ref e8f)))
    (e8_f : K.lookup e8f = some ⟨e8oc, e8od, .func (PySem.W.ksFn "__init__" "TooMany.__init__" (defArgs s_TooMany) (defBody s_TooMany) (defScope s_TooMany) .none e8kV e8doc e8pm e8an (.ref e8cda) e8ct e8cc), e8osl⟩)
    (e8_code : PySem.W.codeIn K (.ref e8cda) "TooMany.__init__" = true)
    (e8_cda : K.lookup e8cda = some ⟨e8ccl, e8cdd, .fields e8vs, e8ccs⟩)
    (e8_file : e8vs[2]? = some (.str e8file e8tf))
    (e8_main : ((l.prog.main.file : Str) == e8file) = true)
    (e8_cell : K.lookup e8cc = some ⟨e8cl, e8cld, .cell (some (.ref C8)), e8csl⟩)
    (e8_err : errB2 K C8 e8f "what" "most" = true)
    (b_isa : isaB K (clOf [C0, C1, C2, C3, C4, C5, C6, C7, C8, C9, C10, C11, C12]) [9, 10, 11, 12] Pl_sup = true)
    (b_nm : CN.all (nmB K (clOf [C0, C1, C2, C3, C4, C5, C6, C7, C8, C9, C10, C11, C12])) = true)
    (b_t_word : clstB K (clOf [C0, C1, C2, C3, C4, C5, C6, C7, C8, C9, C10, C11, C12]) [9, 10, 11, 12] "word" = true)
    (b_t_parts : clstB K (clOf [C0, C1, C2, C3, C4, C5, C6, C7, C8, C9, C10, C11, C12]) [9, 10, 11, 12] "parts" = true)
    (b_t_kinds : clstB K (clOf [C0, C1, C2, C3, C4, C5, C6, C7, C8, C9, C10, C11, C12]) [9, 10, 11, 12] "kinds" = true)
    (b_t_lots : clstB K (clOf [C0, C1, C2, C3, C4, C5, C6, C7, C8, C9, C10, C11, C12]) [9, 10, 11, 12] "lots" = true)
    (b_t_deeds : clstB K (clOf [C0, C1, C2, C3, C4, C5, C6, C7, C8, C9, C10, C11, C12]) [9, 10, 11, 12] "deeds" = true)
    (b_isx : isxB K (clOf [C0, C1, C2, C3, C4, C5, C6, C7, C8, C9, C10, C11, C12]) Er_all Er_sup = true)
    (b_isve : isveB K (clOf [C0, C1, C2, C3, C4, C5, C6, C7, C8, C9, C10, C11, C12]) Er_cs = true)
    (b_x_part : clsxB K (clOf [C0, C1, C2, C3, C4, C5, C6, C7, C8, C9, C10, C11, C12]) Er_cs "part" = true)
    (b_x_at : clsxB K (clOf [C0, C1, C2, C3, C4, C5, C6, C7, C8, C9, C10, C11, C12]) Er_cs "at" = true)
    (b_x_line : clsxB K (clOf [C0, C1, C2, C3, C4, C5, C6, C7, C8, C9, C10, C11, C12]) Er_cs "line" = true)
    (b_x_word : clsxB K (clOf [C0, C1, C2, C3, C4, C5, C6, C7, C8, C9, C10, C11, C12]) Er_cs "word" = true)
    (b_x_what : clsxB K (clOf [C0, C1, C2, C3, C4, C5, C6, C7, C8, C9, C10, C11, C12]) Er_cs "what" = true)
    (b_x_most : clsxB K (clOf [C0, C1, C2, C3, C4, C5, C6, C7, C8, C9, C10, C11, C12]) Er_cs "most" = true)
    (b_eq9 : eqB K (clOf [C0, C1, C2, C3, C4, C5, C6, C7, C8, C9, C10, C11, C12]) [9] 9 = true)
    (b_ne9 : neB K (clOf [C0, C1, C2, C3, C4, C5, C6, C7, C8, C9, C10, C11, C12]) 9 = true)
    (b_eq11 : eqB K (clOf [C0, C1, C2, C3, C4, C5, C6, C7, C8, C9, C10, C11, C12]) [9, 10, 11, 12] 11 = true)
    (b_ne11 : neB K (clOf [C0, C1, C2, C3, C4, C5, C6, C7, C8, C9, C10, C11, C12]) 11 = true)
    (b_eq12 : eqB K (clOf [C0, C1, C2, C3, C4, C5, C6, C7, C8, C9, C10, C11, C12]) [9, 10, 11, 12] 12 = true)
    (b_ne12 : neB K (clOf [C0, C1, C2, C3, C4, C5, C6, C7, C8, C9, C10, C11, C12]) 12 = true) :
    ∃ fd : FuncData, (∀ (s : Shared) (v : Value), BindsTo s fd ⟨[v], []⟩ [("script", v)]) ∧ ∀ base : Heap, K.In base → base.Ns mainGlobals mg → (∃ o, base.get? sysModules = some o) → FnG l.prog w K mg base 13 fa fd ["script"] (spLaw K) := by
  have e := hfa.symm.trans (PySem.W.mg_of X G a6)
  cases e
  have T : Txt K w mg := { m_int := PySem.W.mg_none_of X G z_int, m_len := PySem.W.mg_none_of X G z_len, m_abs := PySem.W.mg_none_of X G z_abs, m_isinstance := PySem.W.mg_none_of X G z_isinstance, m_bool := PySem.W.mg_none_of X G z_bool, m_list := PySem.W.mg_none_of X G z_list, m_tuple := PySem.W.mg_none_of X G z_tuple, m_repr := PySem.W.mg_none_of X G z_repr, m_range := PySem.W.mg_none_of X G z_range, m_super := PySem.W.mg_none_of X G z_super, m_all := PySem.W.mg_none_of X G z_all, m_zip := PySem.W.mg_none_of X G z_zip, m_enumerate := PySem.W.mg_none_of X G z_enumerate, m_ValueError := PySem.W.mg_none_of X G z_ValueError }
  have F0 := fun_mk (st := s_fixed) l0 c0 k0
  have F1 := fun_mk (st := s_are_alike) l1 c1 k1
  have F2 := fun_mk (st := s__law_pick) l2 c2 k2
  have F3 := fun_mk (st := s__law_classes) l3 c3 k3
  have F4 := fun_mk (st := s_law_pen) l4 c4 k4
  have F5 := fun_mk (st := s_law_draw) l5 c5 k5
  have F6 := fun_mk (st := s_law) l6 c6 k6
  refine ⟨PySem.W.fnOf "law" "law" (defArgs s_law) (defBody s_law) (defScope s_law) .none kV6 dc6 pm6 an6 cd6 ct6, fun s v => .of_eq rfl, fun base _ _ hS => ?_⟩
  have b0 := F0.binds (ps := ["value"]) fun _ _ _ _ _ _ us hl => match us, hl with | [_], _ => rfl
  have b1 := F1.binds (ps := ["one", "other"]) fun _ _ _ _ _ _ us hl => match us, hl with | [_, _], _ => rfl
  have b2 := F2.binds (ps := ["pen", "some"]) fun _ _ _ _ _ _ us hl => match us, hl with | [_, _], _ => rfl
  have b3 := F3.binds (ps := ["error"]) fun _ _ _ _ _ _ us hl => match us, hl with | [_], _ => rfl
  have b4 := F4.binds (ps := ["script"]) fun _ _ _ _ _ _ us hl => match us, hl with | [_], _ => rfl
  have b5 := F5.binds (ps := ["pen", "many"]) fun _ _ _ _ _ _ us hl => match us, hl with | [_, _], _ => rfl
  have c__law_draw : Fn l.prog w K mg base (clOf [C0, C1, C2, C3, C4, C5, C6, C7, C8, C9, C10, C11, C12]) 1 "_law_draw" 2 f__law_draw := ⟨_, _, _, PySem.W.mg_of X G a5, F5.kp, b5, rfl, ok_law_draw F5 T.m_int T.m_len T.m_abs⟩
  have c_fixed := (ok_fixed (P := l.prog) (base := base) (CL := clOf [C0, C1, C2, C3, C4, C5, C6, C7, C8, C9, C10, C11, C12]) F0 T (PySem.W.mg_of X G a0) b0).1
  have c_are_alike := (ok_are_alike (P := l.prog) (base := base) (CL := clOf [C0, C1, C2, C3, C4, C5, C6, C7, C8, C9, C10, C11, C12]) F1 T (PySem.W.mg_of X G a1) b1).1
  have c__law_pick : Fn l.prog w K mg base (clOf [C0, C1, C2, C3, C4, C5, C6, C7, C8, C9, C10, C11, C12]) 2 "_law_pick" 2 f__law_pick := ⟨_, _, _, PySem.W.mg_of X G a2, F2.kp, b2, rfl, ok__law_pick F2 T c__law_draw⟩
  have G_fixed : FnG l.prog w K mg base 9 f0 _ ["value"] (spD (clOf [C0, C1, C2, C3, C4, C5, C6, C7, C8, C9, C10, C11, C12]) K 1 f_fixed) := okG_fixed (P := l.prog) (base := base) (CL := clOf [C0, C1, C2, C3, C4, C5, C6, C7, C8, C9, C10, C11, C12]) F0 T (PySem.W.mg_of X G a0) b0
  have k_fixed__value : FnK l.prog w K mg base (clOf [C0, C1, C2, C3, C4, C5, C6, C7, C8, C9, C10, C11, C12]) 9 "fixed" 1 ["value"] [0] f_fixed := ⟨_, _, _, PySem.W.mg_of X G a0, F0.kp, fun s ws _ hl => match ws, hl with | [_], _ => .of_eq rfl, rfl, G_fixed⟩
  have xe1 := er1 (P := l.prog) (w := w) (CL := clOf [C0, C1, C2, C3, C4, C5, C6, C7, C8, C9, C10, C11, C12]) (x := "BadValue") (C := 1) (par := "part") (fld := "part") (qual := "BadValue.__init__") (PySem.W.mg_of X G gc1) e1_err e1_cls e1_bm e1_f e1_code e1_cda e1_file e1_main e1_cell v_sup T.m_super ⟨_, rfl, rfl⟩ rfl rfl rfl rfl ⟨by decide +kernel, by decide +kernel, by decide +kernel, by decide +kernel, rfl, rfl⟩ ⟨fun _ => rfl, fun _ => rfl, fun _ => rfl⟩ (fun _ => rfl) (fun s us _ hl => match us, hl with | [_, _], _ => .of_eq rfl) (fun s e u => .of_eq rfl)
  have xe2 := er1 (P := l.prog) (w := w) (CL := clOf [C0, C1, C2, C3, C4, C5, C6, C7, C8, C9, C10, C11, C12]) (x := "BadNumber") (C := 2) (par := "part") (fld := "part") (qual := "BadNumber.__init__") (PySem.W.mg_of X G gc2) e2_err e2_cls e2_bm e2_f e2_code e2_cda e2_file e2_main e2_cell v_sup T.m_super ⟨_, rfl, rfl⟩ rfl rfl rfl rfl ⟨by decide +kernel, by decide +kernel, by decide +kernel, by decide +kernel, rfl, rfl⟩ ⟨fun _ => rfl, fun _ => rfl, fun _ => rfl⟩ (fun _ => rfl) (fun s us _ hl => match us, hl with | [_, _], _ => .of_eq rfl) (fun s e u => .of_eq rfl)
  have xe3 := er1 (P := l.prog) (w := w) (CL := clOf [C0, C1, C2, C3, C4, C5, C6, C7, C8, C9, C10, C11, C12]) (x := "BadDeeds") (C := 3) (par := "at") (fld := "at") (qual := "BadDeeds.__init__") (PySem.W.mg_of X G gc3) e3_err e3_cls e3_bm e3_f e3_code e3_cda e3_file e3_main e3_cell v_sup T.m_super ⟨_, rfl, rfl⟩ rfl rfl rfl rfl ⟨by decide +kernel, by decide +kernel, by decide +kernel, by decide +kernel, rfl, rfl⟩ ⟨fun _ => rfl, fun _ => rfl, fun _ => rfl⟩ (fun _ => rfl) (fun s us _ hl => match us, hl with | [_, _], _ => .of_eq rfl) (fun s e u => .of_eq rfl)
  have xe4 := er2 (P := l.prog) (w := w) (CL := clOf [C0, C1, C2, C3, C4, C5, C6, C7, C8, C9, C10, C11, C12]) (x := "BadText") (C := 4) (par := "line") (par2 := "word") (f1 := "line") (f2 := "word") (qual := "BadText.__init__") (PySem.W.mg_of X G gc4) e4_err e4_cls e4_bm e4_f e4_code e4_cda e4_file e4_main e4_cell v_sup T.m_super ⟨_, rfl, rfl⟩ rfl rfl rfl rfl ⟨by decide +kernel, by decide +kernel, by decide +kernel, by decide +kernel, rfl, rfl⟩ (by decide) (by decide) ⟨fun _ => rfl, fun _ => rfl, fun _ => rfl⟩ (fun _ => rfl) (fun _ => rfl) (fun s us _ hl => match us, hl with | [_, _, _], _ => .of_eq rfl) (fun s e u v => .of_eq rfl)
  have xe5 := er1 (P := l.prog) (w := w) (CL := clOf [C0, C1, C2, C3, C4, C5, C6, C7, C8, C9, C10, C11, C12]) (x := "BadBytes") (C := 5) (par := "at") (fld := "at") (qual := "BadBytes.__init__") (PySem.W.mg_of X G gc5) e5_err e5_cls e5_bm e5_f e5_code e5_cda e5_file e5_main e5_cell v_sup T.m_super ⟨_, rfl, rfl⟩ rfl rfl rfl rfl ⟨by decide +kernel, by decide +kernel, by decide +kernel, by decide +kernel, rfl, rfl⟩ ⟨fun _ => rfl, fun _ => rfl, fun _ => rfl⟩ (fun _ => rfl) (fun s us _ hl => match us, hl with | [_, _], _ => .of_eq rfl) (fun s e u => .of_eq rfl)
  have xe6 := er1 (P := l.prog) (w := w) (CL := clOf [C0, C1, C2, C3, C4, C5, C6, C7, C8, C9, C10, C11, C12]) (x := "Misfit") (C := 6) (par := "part") (fld := "part") (qual := "Misfit.__init__") (PySem.W.mg_of X G gc6) e6_err e6_cls e6_bm e6_f e6_code e6_cda e6_file e6_main e6_cell v_sup T.m_super ⟨_, rfl, rfl⟩ rfl rfl rfl rfl ⟨by decide +kernel, by decide +kernel, by decide +kernel, by decide +kernel, rfl, rfl⟩ ⟨fun _ => rfl, fun _ => rfl, fun _ => rfl⟩ (fun _ => rfl) (fun s us _ hl => match us, hl with | [_, _], _ => .of_eq rfl) (fun s e u => .of_eq rfl)
  have xe7 := er1 (P := l.prog) (w := w) (CL := clOf [C0, C1, C2, C3, C4, C5, C6, C7, C8, C9, C10, C11, C12]) (x := "Nothing") (C := 7) (par := "word") (fld := "word") (qual := "Nothing.__init__") (PySem.W.mg_of X G gc7) e7_err e7_cls e7_bm e7_f e7_code e7_cda e7_file e7_main e7_cell v_sup T.m_super ⟨_, rfl, rfl⟩ rfl rfl rfl rfl ⟨by decide +kernel, by decide +kernel, by decide +kernel, by decide +kernel, rfl, rfl⟩ ⟨fun _ => rfl, fun _ => rfl, fun _ => rfl⟩ (fun _ => rfl) (fun s us _ hl => match us, hl with | [_, _], _ => .of_eq rfl) (fun s e u => .of_eq rfl)
  have xe8 := er2 (P := l.prog) (w := w) (CL := clOf [C0, C1, C2, C3, C4, C5, C6, C7, C8, C9, C10, C11, C12]) (x := "TooMany") (C := 8) (par := "what") (par2 := "most") (f1 := "what") (f2 := "most") (qual := "TooMany.__init__") (PySem.W.mg_of X G gc8) e8_err e8_cls e8_bm e8_f e8_code e8_cda e8_file e8_main e8_cell v_sup T.m_super ⟨_, rfl, rfl⟩ rfl rfl rfl rfl ⟨by decide +kernel, by decide +kernel, by decide +kernel, by decide +kernel, rfl, rfl⟩ (by decide) (by decide) ⟨fun _ => rfl, fun _ => rfl, fun _ => rfl⟩ (fun _ => rfl) (fun _ => rfl) (fun s us _ hl => match us, hl with | [_, _, _], _ => .of_eq rfl) (fun s e u v => .of_eq rfl)
  have isx := isxB_ok b_isx
  have Z1 : Zc1 l.prog w K mg (clOf [C0, C1, C2, C3, C4, C5, C6, C7, C8, C9, C10, C11, C12]) := { isa := isaB_ok b_isa, nm := nmB_ok b_nm, isx := isx, isve := isveB_ok (IsaX.sub isx (by decide)) b_isve, cl_word := clstB_ok b_t_word, cl_parts := clstB_ok b_t_parts, cl_kinds := clstB_ok b_t_kinds, cl_lots := clstB_ok b_t_lots, cl_deeds := clstB_ok b_t_deeds, xf_part := clsxB_ok b_x_part, xf_at := clsxB_ok b_x_at, xf_line := clsxB_ok b_x_line, xf_word := clsxB_ok b_x_word, xf_what := clsxB_ok b_x_what, xf_most := clsxB_ok b_x_most, g_PlotError := PySem.W.mg_of X G gc0, g_BadValue := PySem.W.mg_of X G gc1, g_BadNumber := PySem.W.mg_of X G gc2, g_BadDeeds := PySem.W.mg_of X G gc3, g_BadText := PySem.W.mg_of X G gc4, g_BadBytes := PySem.W.mg_of X G gc5, g_Misfit := PySem.W.mg_of X G gc6, g_Nothing := PySem.W.mg_of X G gc7, g_TooMany := PySem.W.mg_of X G gc8, g_Paper := PySem.W.mg_of X G gc9, g_Denial := PySem.W.mg_of X G gc10, g_Wall := PySem.W.mg_of X G gc11, g_Plot := PySem.W.mg_of X G gc12, er_BadValue := xe1.1, ek_BadValue := xe1.2, er_BadNumber := xe2.1, ek_BadNumber := xe2.2, er_BadDeeds := xe3.1, ek_BadDeeds := xe3.2, er_BadText := xe4.1, ek_BadText := xe4.2, er_BadBytes := xe5.1, ek_BadBytes := xe5.2, er_Misfit := xe6.1, ek_Misfit := xe6.2, er_Nothing := xe7.1, ek_Nothing := xe7.2, er_TooMany := xe8.1, ek_TooMany := xe8.2 }
  have F_pi := fun_mk (st := s_Paper_init) ml_pi mc_pi mk_pi
  have F_pb := fun_mk (st := s_Paper_bool) ml_pb mc_pb mk_pb
  have b_pb := F_pb.binds (ps := ["self"]) fun _ _ _ _ _ _ us hl => match us, hl with | [_], _ => rfl
  have G_pb := ok_Paper_bool (P := l.prog) (base := base) F_pb T Z1
  have F_pe := fun_mk (st := s_Paper_eq) ml_pe mc_pe mk_pe
  have b_pe := F_pe.binds (ps := ["self", "other"]) fun _ _ _ _ _ _ us hl => match us, hl with | [_, _], _ => rfl
  have G_pe := ok_Paper_eq (P := l.prog) (base := base) F_pe T Z1 c_are_alike
  have F_db := fun_mk (st := s_Denial_bool) ml_db mc_db mk_db
  have b_db := F_db.binds (ps := ["self"]) fun _ _ _ _ _ _ us hl => match us, hl with | [_], _ => rfl
  have G_db := ok_Denial_bool (P := l.prog) (base := base) F_db T Z1
  have G_pi := ok_Paper_init (P := l.prog) (base := base) F_pi T Z1 (fun us rest hl => match us, rest, hl with | [_, _], [], _ => rfl | [_, _], _ :: _, _ => rfl) c_fixed
  have S_w := suK_mk (prog := l.prog) (C := C11) su_w w_f w_code w_cda w_file w_main w_cell v_sup ⟨_, rfl, rfl⟩ rfl rfl rfl rfl
  have G_w := ok_Wall_init (P := l.prog) (base := base) (CL := clOf [C0, C1, C2, C3, C4, C5, C6, C7, C8, C9, C10, C11, C12]) S_w T Z1 G_pi
  have S_p := suK_mk (prog := l.prog) (C := C12) su_p p_f p_code p_cda p_file p_main p_cell v_sup ⟨_, rfl, rfl⟩ rfl rfl rfl rfl
  have G_p := ok_Plot_init (P := l.prog) (base := base) (CL := clOf [C0, C1, C2, C3, C4, C5, C6, C7, C8, C9, C10, C11, C12]) S_p T Z1 G_pi
  have Z : Zc l.prog w K mg base (clOf [C0, C1, C2, C3, C4, C5, C6, C7, C8, C9, C10, C11, C12]) := { Z1 with eq9 := eqK_mk b_eq9 m_pe mf_pe b_pe G_pe, eq11 := eqK_mk b_eq11 n_11pe mf_pe b_pe G_pe, eq12 := eqK_mk b_eq12 n_12pe mf_pe b_pe G_pe, ne9 := neB_ok b_ne9, ne11 := neB_ok b_ne11, ne12 := neB_ok b_ne12, bo9 := ⟨_, _, _, m_pb, mf_pb, b_pb, G_pb⟩, bo10 := ⟨_, _, _, m_db, mf_db, b_db, G_db⟩, bo11 := ⟨_, _, _, n_11pb, mf_pb, b_pb, G_pb⟩, bo12 := ⟨_, _, _, n_12db, mf_db, b_db, G_db⟩, kq_Paper := ⟨_, PySem.W.mg_of X G gc9, mkB_ok b_mk9, G_pi⟩, kq_Denial := ⟨_, PySem.W.mg_of X G gc10, mkB_ok b_mk10, G_pi⟩, kl_Wall := ⟨_, _, _, PySem.W.mg_of X G gc11, mkB_ok b_mk11, (fun s us _ hl => match us, hl with | [_, _, _], _ => .of_eq rfl), G_w⟩, kk_Wall := ⟨_, _, _, PySem.W.mg_of X G gc11, mkB_ok b_mk11, (fun s u ws _ hl => match ws, hl with | [_, _], _ => .of_eq rfl), G_w⟩, kl_Plot := ⟨_, _, _, PySem.W.mg_of X G gc12, mkB_ok b_mk12, (fun s us _ hl => match us, hl with | [_, _], _ => .of_eq rfl), G_p⟩, kk_Plot := ⟨_, _, _, PySem.W.mg_of X G gc12, mkB_ok b_mk12, (fun s u ws _ hl => match ws, hl with | [_], _ => .of_eq rfl), G_p⟩ }
  have c__law_classes : Fn l.prog w K mg base (clOf [C0, C1, C2, C3, C4, C5, C6, C7, C8, C9, C10, C11, C12]) 1 "_law_classes" 1 f__law_classes := ⟨_, _, _, PySem.W.mg_of X G a3, F3.kp, b3, rfl, ok__law_classes F3 T Z1⟩
  exact ok_law plain hS F6 T Z (PySem.W.mg_of X G a4) F4 b4 c__law_classes c__law_pick c_fixed k_fixed__value
theorem walk {l : PySem.W.OpenLaw} {q : Program} {loose : List Str} {XP : (Str → Option Value) → Heap → Prop} {YP : World → Heap → Prop} {d : DefRec} {K : Params → PySem.W.Frag} (hi : importsNone q = true) (hn : l.most = some 63) (hdf : d.params.defaults = [])
    (hY : ∀ (w : World) (h : Heap), YP w h → (K w.params).In h)
    (F : ∀ (w : World) (mg : Str → Option Value) (fa : Addr) (h : Heap), (K w.params).In h → h.Ns mainGlobals mg → mg d.name = some (.ref fa) →
      ∃ fd : FuncData, (∀ (s : Shared) (u : Value), BindsTo s fd ⟨[u], []⟩ [("script", u)]) ∧ ∀ base : Heap, (K w.params).In base → base.Ns mainGlobals mg → (∃ o, base.get? sysModules = some o) → FnG l.prog w (K w.params) mg base 13 fa fd ["script"] (spLaw (K w.params))) :
    PySem.W.WalkO q loose XP YP l.row.toRowW d [] (fun f vs => PySem.call f vs) :=
  walkS (n := 63) (k := 13) (x := "script") (sp := fun w => spLaw (K w.params)) hi hn (by decide) hdf ⟨⟨rfl, by decide, by decide⟩, rfl⟩ hY F fun w H a ns hl _ hS => ⟨a, ns, rfl, hS, hl, fun _ => rfl⟩
end V
open PySem PySem.W PyProof.Rows in
set_option maxRecDepth 100000 in
set_option maxHeartbeats 0 in
theorem PySem.Challenge.cw_wallorplot_k23_papers_and_errors_holds : PySem.Challenge.rw_wallorplot_k23_papers_and_errors.Holds := by
  w_on; o_law; k_head; (case hw => w_witness2)
  k_fill
  refine V.walk (l := PySem.Challenge.rw_wallorplot_k23_papers_and_errors) (by kernel_rfl) rfl rfl (fun w h Y => PySem.W.kIn_of Y) ?F
  case F =>
    intro w mg fa h KX G hmg
    refine' V.all_mk KX G hmg ?a0 ?l0 ?c0 ?k0 ?a1 ?l1 ?c1 ?k1 ?a2 ?l2 ?c2 ?k2 ?a3 ?l3 ?c3 ?k3 ?a4 ?l4 ?c4 ?k4 ?a5 ?l5 ?c5 ?k5 ?a6 ?l6 ?c6 ?k6 ?z_ValueError ?z_abs ?z_all ?z_bool ?z_enumerate ?z_int ?z_isinstance ?z_len ?z_list ?z_range ?z_repr ?z_super ?z_tuple ?z_zip ?gc0 ?gc1 ?gc2 ?gc3 ?gc4 ?gc5 ?gc6 ?gc7 ?gc8 ?gc9 ?gc10 ?gc11 ?gc12 ?m_pi ?ml_pi ?mc_pi ?mk_pi ?mf_pi ?m_pb ?ml_pb ?mc_pb ?mk_pb ?mf_pb ?m_pe ?ml_pe ?mc_pe ?mk_pe ?mf_pe ?m_db ?ml_db ?mc_db ?mk_db ?mf_db ?n_11pe ?n_12pe ?n_11pb ?n_12db ?w_init ?w_f ?w_code ?w_cda ?w_file ?w_main ?w_cell ?p_init ?p_f ?p_code ?p_cda ?p_file ?p_main ?p_cell ?v_sup ?su_w ?su_p ?b_mk9 ?b_mk10 ?b_mk11 ?b_mk12 ?e1_cls ?e1_bm ?e1_init ?e1_f ?e1_code ?e1_cda ?e1_file ?e1_main ?e1_cell ?e1_err ?e2_cls ?e2_bm ?e2_init ?e2_f ?e2_code ?e2_cda ?e2_file ?e2_main ?e2_cell ?e2_err ?e3_cls ?e3_bm ?e3_init ?e3_f ?e3_code ?e3_cda ?e3_file ?e3_main ?e3_cell ?e3_err ?e4_cls ?e4_bm ?e4_init ?e4_f ?e4_code ?e4_cda ?e4_file ?e4_main ?e4_cell ?e4_err ?e5_cls ?e5_bm ?e5_init ?e5_f ?e5_code ?e5_cda ?e5_file ?e5_main ?e5_cell ?e5_err ?e6_cls ?e6_bm ?e6_init ?e6_f ?e6_code ?e6_cda ?e6_file ?e6_main ?e6_cell ?e6_err ?e7_cls ?e7_bm ?e7_init ?e7_f ?e7_code ?e7_cda ?e7_file ?e7_main ?e7_cell ?e7_err ?e8_cls ?e8_bm ?e8_init ?e8_f ?e8_code ?e8_cda ?e8_file ?e8_main ?e8_cell ?e8_err ?b_isa ?b_nm ?b_t_word ?b_t_parts ?b_t_kinds ?b_t_lots ?b_t_deeds ?b_isx ?b_isve ?b_x_part ?b_x_at ?b_x_line ?b_x_word ?b_x_what ?b_x_most ?b_eq9 ?b_ne9 ?b_eq11 ?b_ne11 ?b_eq12 ?b_ne12
    (case a0 => k_is)
    (case l0 => k_is)
    (case c0 => k_is)
    (case k0 => k_is)
    (case a1 => k_is)
    (case l1 => k_is)
    (case c1 => k_is)
    (case k1 => k_is)
    (case a2 => k_is)
    (case l2 => k_is)
    (case c2 => k_is)
    (case k2 => k_is)
    (case a3 => k_is)
    (case l3 => k_is)
    (case c3 => k_is)
    (case k3 => k_is)
    (case a4 => k_is)
    (case l4 => k_is)
    (case c4 => k_is)
    (case k4 => k_is)
    (case a5 => k_is)
    (case l5 => k_is)
    (case c5 => k_is)
    (case k5 => k_is)
    (case a6 => k_is)
    (case l6 => k_is)
    (case c6 => k_is)
    (case k6 => k_is)
    (case z_ValueError => k_is)
    (case z_abs => k_is)
    (case z_all => k_is)
    (case z_bool => k_is)
    (case z_enumerate => k_is)
    (case z_int => k_is)
    (case z_isinstance => k_is)
    (case z_len => k_is)
    (case z_list => k_is)
    (case z_range => k_is)
    (case z_repr => k_is)
    (case z_super => k_is)
    (case z_tuple => k_is)
    (case z_zip => k_is)
    (case gc0 => k_is)
    (case gc1 => k_is)
    (case gc2 => k_is)
    (case gc3 => k_is)
    (case gc4 => k_is)
    (case gc5 => k_is)
    (case gc6 => k_is)
    (case gc7 => k_is)
    (case gc8 => k_is)
    (case gc9 => k_is)
    (case gc10 => k_is)
    (case gc11 => k_is)
    (case gc12 => k_is)
    (case m_pi => k_is)
    (case ml_pi => k_is)
    (case mc_pi => k_is)
    (case mk_pi => k_is)
    (case mf_pi => k_is)
    (case m_pb => k_is)
    (case ml_pb => k_is)
    (case mc_pb => k_is)
    (case mk_pb => k_is)
    (case mf_pb => k_is)
    (case m_pe => k_is)
    (case ml_pe => k_is)
    (case mc_pe => k_is)
    (case mk_pe => k_is)
    (case mf_pe => k_is)
    (case m_db => k_is)
    (case ml_db => k_is)
    (case mc_db => k_is)
    (case mk_db => k_is)
    (case mf_db => k_is)
    (case n_11pe => k_is)
    (case n_12pe => k_is)
    (case n_11pb => k_is)
    (case n_12db => k_is)
    (case w_init => k_is)
    (case w_f => k_is)
    (case w_code => k_is)
    (case w_cda => k_is)
    (case w_file => rfl)
    (case w_main => kernel_rfl)
    (case w_cell => k_is)
    (case p_init => k_is)
    (case p_f => k_is)
    (case p_code => k_is)
    (case p_cda => k_is)
    (case p_file => rfl)
    (case p_main => kernel_rfl)
    (case p_cell => k_is)
    (case v_sup => kernel_rfl)
    (case su_w => kernel_rfl)
    (case su_p => kernel_rfl)
    (case b_mk9 => kernel_rfl)
    (case b_mk10 => kernel_rfl)
    (case b_mk11 => kernel_rfl)
    (case b_mk12 => kernel_rfl)
    (case e1_cls => k_is)
    (case e1_bm => decide +kernel)
    (case e1_init => k_is)
    (case e1_f => k_is)
    (case e1_code => k_is)
    (case e1_cda => k_is)
    (case e1_file => rfl)
    (case e1_main => kernel_rfl)
    (case e1_cell => k_is)
    (case e1_err => kernel_rfl)
    (case e2_cls => k_is)
    (case e2_bm => decide +kernel)
    (case e2_init => k_is)
    (case e2_f => k_is)
    (case e2_code => k_is)
    (case e2_cda => k_is)
    (case e2_file => rfl)
    (case e2_main => kernel_rfl)
    (case e2_cell => k_is)
    (case e2_err => kernel_rfl)
    (case e3_cls => k_is)
    (case e3_bm => decide +kernel)
    (case e3_init => k_is)
    (case e3_f => k_is)
    (case e3_code => k_is)
    (case e3_cda => k_is)
    (case e3_file => rfl)
    (case e3_main => kernel_rfl)
    (case e3_cell => k_is)
    (case e3_err => kernel_rfl)
    (case e4_cls => k_is)
    (case e4_bm => decide +kernel)
    (case e4_init => k_is)
    (case e4_f => k_is)
    (case e4_code => k_is)
    (case e4_cda => k_is)
    (case e4_file => rfl)
    (case e4_main => kernel_rfl)
    (case e4_cell => k_is)
    (case e4_err => kernel_rfl)
    (case e5_cls => k_is)
    (case e5_bm => decide +kernel)
    (case e5_init => k_is)
    (case e5_f => k_is)
    (case e5_code => k_is)
    (case e5_cda => k_is)
    (case e5_file => rfl)
    (case e5_main => kernel_rfl)
    (case e5_cell => k_is)
    (case e5_err => kernel_rfl)
    (case e6_cls => k_is)
    (case e6_bm => decide +kernel)
    (case e6_init => k_is)
    (case e6_f => k_is)
    (case e6_code => k_is)
    (case e6_cda => k_is)
    (case e6_file => rfl)
    (case e6_main => kernel_rfl)
    (case e6_cell => k_is)
    (case e6_err => kernel_rfl)
    (case e7_cls => k_is)
    (case e7_bm => decide +kernel)
    (case e7_init => k_is)
    (case e7_f => k_is)
    (case e7_code => k_is)
    (case e7_cda => k_is)
    (case e7_file => rfl)
    (case e7_main => kernel_rfl)
    (case e7_cell => k_is)
    (case e7_err => kernel_rfl)
    (case e8_cls => k_is)
    (case e8_bm => decide +kernel)
    (case e8_init => k_is)
    (case e8_f => k_is)
    (case e8_code => k_is)
    (case e8_cda => k_is)
    (case e8_file => rfl)
    (case e8_main => kernel_rfl)
    (case e8_cell => k_is)
    (case e8_err => kernel_rfl)
    (case b_isa => kernel_rfl)
    (case b_nm => kernel_rfl)
    (case b_t_word => kernel_rfl)
    (case b_t_parts => kernel_rfl)
    (case b_t_kinds => kernel_rfl)
    (case b_t_lots => kernel_rfl)
    (case b_t_deeds => kernel_rfl)
    (case b_isx => kernel_rfl)
    (case b_isve => kernel_rfl)
    (case b_x_part => kernel_rfl)
    (case b_x_at => kernel_rfl)
    (case b_x_line => kernel_rfl)
    (case b_x_word => kernel_rfl)
    (case b_x_what => kernel_rfl)
    (case b_x_most => kernel_rfl)
    (case b_eq9 => kernel_rfl)
    (case b_ne9 => kernel_rfl)
    (case b_eq11 => kernel_rfl)
    (case b_ne11 => kernel_rfl)
    (case b_eq12 => kernel_rfl)
    (case b_ne12 => kernel_rfl)

