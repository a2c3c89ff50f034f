import PyProof.Rows.All
import Wide.All
import OpenK.AllK
import Wide.FinOn
import HandS.ForMost
import HandS.Evl
import HandS.IsInst
import HandS.Flow
import HandS.Defaults
import HandS.Wide
import HandS.WideMore
import HandS.Style
import HandS.ForExc
import HandS.TryOnly
import HandS.CallSlots
import HandS.ExcIs
import HandS.Walk
import HandS.Iter
import HandS.More
import HandS.TryMany
import HandS.ClsMeth
import HandS.TupAny
import HandS.SortKw
import HandS.WideBits
import HandS.Deep
import HandS.FStr
import KE.KCallOwn
import PyProof.Rows.FactsN_divmod
import KE.GoesRaise
import HandS.TupMul
import HandS.Strs
import HandS.Dict
import HandS.Text
import HandS.IntHex
import HandS.Lambda
import HandS.EndTab
import PySem.Challenge.RW_lanescroll_k31_numbers_in_bytes
set_option Elab.async false
set_option linter.all false
set_option maxRecDepth 100000
set_option maxHeartbeats 2000000
namespace Y
open PySem PySem.Spec PyProof.Rows
open L2

/-- data: what a value stands for, through the heap -/
inductive D where
  | non | bl (b : Bool) | int (i : Int) | str (x : Str)
  | lst (ds : List D) | tup (ds : List D) | dic (kvs : List (Key × D))
  | obj (nm : Str) (fs : List (Str × D))

/-- a class of the text: its name, its address; what isinstance asks -/
structure KC (K : PySem.W.Frag) (nm : Str) (C : Addr) : Prop where
  a : PySem.W.nsIn K mainGlobals nm = some (some (.ref C))
  c : Cls K C
  ha : PySem.W.findIn K (.ref C) "__class__" = some (some (.builtin "object.__class__"))
  hn : PySem.W.specialIn K (.builtin "object.__class__") "__get__" = some (some (.builtin "getset_descriptor.__get__"))
  ht : PySem.W.takesIn K (.builtin "object.__class__") = some true
  hm : PySem.W.mroIn K C (.type "object") = some true
  bt : ∀ t ∈ ["bool", "int", "str", "list", "tuple", "dict"], PySem.W.subIn K (.ref C) (.type t) = some false

abbrev Ex (H H' : Hp) : Prop := ∀ a o, H a = some o → H' a = some o
theorem Ex.refl (H : Hp) : Ex H H := fun _ _ h => h
theorem Ex.trans {H H1 H2 : Hp} (a : Ex H H1) (b : Ex H1 H2) : Ex H H2 := fun x o h => b x o (a x o h)
theorem Ex.new {H : Hp} {p : Addr} {o : HO} (h : H p = none) : Ex H (upd H p o) := fun a u e => by
  rw [upd_ne (ne_of_none e h)]
  exact e
theorem Ex.upd {B H : Hp} {p : Addr} {o : HO} (e : Ex B H) (h : B p = none) : Ex B (upd H p o) := fun a u ha => by
  rw [upd_ne (ne_of_none ha h)]
  exact e a u ha
theorem Ex.both {B H : Hp} {p : Addr} {o : HO} (e : Ex B H) : Ex (L2.upd B p o) (L2.upd H p o) := fun a u ha => by
  by_cases q : a = p
  · subst q; rw [upd_same] at ha; cases ha; exact upd_same
  · rw [upd_ne q] at ha; rw [upd_ne q]; exact e a u ha
theorem Ex.none {H H' : Hp} {p : Addr} (e : Ex H H') (h : H' p = none) : H p = none := by
  cases h1 : H p with
  | none => rfl
  | some o => rw [e p o h1] at h; cases h
theorem Ex.rd {H H' : Hp} {a : Addr} {u : HO} (e : Ex H H') (h : Rd H a u) : Rd H' a u := by
  rcases h with h | ⟨o, h⟩
  · exact Or.inl (e a _ h)
  · exact Or.inr ⟨o, e a _ h⟩
theorem Ex.l {K : PySem.W.Frag} {H H' : Hp} {a : Addr} {xs : List V} (e : Ex H H') (h : SqL K H a xs) : SqL K H' a xs := by
  rcases h with h | h
  · exact Or.inl (e.rd h)
  · exact Or.inr h
theorem Ex.t {K : PySem.W.Frag} {H H' : Hp} {a : Addr} {xs : List V} (e : Ex H H') (h : SqT K H a xs) : SqT K H' a xs := by
  rcases h with h | h
  · exact Or.inl (e.rd h)
  · exact Or.inr h

mutual
/-- v stands for d -/
inductive Rep (K : PySem.W.Frag) (B : Hp) : V → D → Prop where
  | non : Rep K B .non .non
  | bl (b : Bool) : Rep K B (.bl b) (.bl b)
  | int (i : Int) : Rep K B (.int i) (.int i)
  | str (x : Str) : Rep K B (.str x) (.str x)
  | lst {p : Addr} {xs : List V} {ds : List D} (h : SqL K B p xs) (r : RepL K B xs ds) : Rep K B (.ref p) (.lst ds)
  | tup {p : Addr} {xs : List V} {ds : List D} (h : SqT K B p xs) (r : RepL K B xs ds) : Rep K B (.ref p) (.tup ds)
  | dic {p : Addr} {kvs : List (Key × V)} {ds : List (Key × D)} (h : B p = some (.dK kvs)) (r : RepK K B kvs ds) : Rep K B (.ref p) (.dic ds)
  | obj {p C dx : Addr} {nm : Str} {fs : List (Str × V)} {ds : List (Str × D)} (h : B p = some (.ins C dx fs)) (k : KC K nm C) (r : RepF K B fs ds) : Rep K B (.ref p) (.obj nm ds)
inductive RepL (K : PySem.W.Frag) (B : Hp) : List V → List D → Prop where
  | nil : RepL K B [] []
  | cons {v : V} {d : D} {vs : List V} {ds : List D} (h : Rep K B v d) (t : RepL K B vs ds) : RepL K B (v :: vs) (d :: ds)
inductive RepK (K : PySem.W.Frag) (B : Hp) : List (Key × V) → List (Key × D) → Prop where
  | nil : RepK K B [] []
  | cons {k : Key} {v : V} {d : D} {vs : List (Key × V)} {ds : List (Key × D)} (h : Rep K B v d) (t : RepK K B vs ds) : RepK K B ((k, v) :: vs) ((k, d) :: ds)
inductive RepF (K : PySem.W.Frag) (B : Hp) : List (Str × V) → List (Str × D) → Prop where
  | nil : RepF K B [] []
  | cons {k : Str} {v : V} {d : D} {vs : List (Str × V)} {ds : List (Str × D)} (h : Rep K B v d) (t : RepF K B vs ds) : RepF K B ((k, v) :: vs) ((k, d) :: ds)
end
section
variable {K : PySem.W.Frag} {B B' H : Hp}
mutual
theorem Rep.mono (e : Ex B B') : ∀ {v : V} {d : D}, Rep K B v d → Rep K B' v d
  | _, _, .non => .non
  | _, _, .bl b => .bl b
  | _, _, .int i => .int i
  | _, _, .str x => .str x
  | _, _, .lst h r => .lst (e.l h) (RepL.mono e r)
  | _, _, .tup h r => .tup (e.t h) (RepL.mono e r)
  | _, _, .dic h r => .dic (e _ _ h) (RepK.mono e r)
  | _, _, .obj h k r => .obj (e _ _ h) k (RepF.mono e r)
theorem RepL.mono (e : Ex B B') : ∀ {vs : List V} {ds : List D}, RepL K B vs ds → RepL K B' vs ds
  | _, _, .nil => .nil
  | _, _, .cons h t => .cons (Rep.mono e h) (RepL.mono e t)
theorem RepK.mono (e : Ex B B') : ∀ {vs : List (Key × V)} {ds : List (Key × D)}, RepK K B vs ds → RepK K B' vs ds
  | _, _, .nil => .nil
  | _, _, .cons h t => .cons (Rep.mono e h) (RepK.mono e t)
theorem RepF.mono (e : Ex B B') : ∀ {vs : List (Str × V)} {ds : List (Str × D)}, RepF K B vs ds → RepF K B' vs ds
  | _, _, .nil => .nil
  | _, _, .cons h t => .cons (Rep.mono e h) (RepF.mono e t)
end
theorem RepL.length : ∀ {vs : List V} {ds : List D}, RepL K B vs ds → vs.length = ds.length
  | _, _, .nil => rfl
  | _, _, .cons _ t => congrArg Nat.succ (RepL.length t)
theorem RepL.get : ∀ {vs : List V} {ds : List D} {i : Nat} {d : D}, RepL K B vs ds → ds[i]? = some d → ∃ v, vs[i]? = some v ∧ Rep K B v d
  | _, _, _, _, .nil, e => by simp at e
  | _, _, 0, _, .cons r _, e => by simp at e; subst e; exact ⟨_, rfl, r⟩
  | _, _, i + 1, x, .cons _ t, e => by
    obtain ⟨u, h1, h2⟩ := RepL.get (i := i) (d := x) t (by simpa using e)
    exact ⟨u, by simpa using h1, h2⟩
theorem RepL.append : ∀ {vs ws : List V} {ds es : List D}, RepL K B vs ds → RepL K B ws es → RepL K B (vs ++ ws) (ds ++ es)
  | _, _, _, _, .nil, s => s
  | _, _, _, _, .cons r t, s => .cons r (RepL.append t s)
theorem RepL.at {vs : List V} {ds : List D} {i : Int} {d : D} (r : RepL K B vs ds) (h : atI ds i = some d) : ∃ v, atI vs i = some v ∧ Rep K B v d := by
  unfold atI at h ⊢
  rw [r.length]
  cases e : ixN ds.length i with
  | none => rw [e] at h; cases h
  | some j => rw [e] at h; exact r.get h
theorem RepL.ints : ∀ (ns : List Int), RepL K B (ns.map V.int) (ns.map D.int)
  | [] => .nil
  | n :: r => .cons (.int n) (RepL.ints r)
theorem RepL.of_ints : ∀ {vs : List V} {ns : List Int}, RepL K B vs (ns.map D.int) → vs = ns.map V.int
  | [], [], _ => rfl
  | _ :: _, [], r => nomatch r
  | [], _ :: _, r => nomatch r
  | v :: vs, n :: ns, r => by
    cases r with
    | cons h t =>
      cases h
      rw [RepL.of_ints t]
      rfl
end

/-- from (B, H), what is known and the heap, to (B', H'), writing at most at W -/
structure Stp (W : List Addr) (B H B' H' : Hp) : Prop where
  ex : Ex B B'
  ok : Ex B' H'
  fr : ∀ a o, a ∉ W → H a = some o → H' a = some o
  al : ∀ a o, H a = some o → ∃ o', H' a = some o'
  nw : ∀ a o, B a = none → H a = some o → B' a = none
section
variable {W W' : List Addr} {B H B' H' B1 H1 B2 H2 : Hp} {p : Addr} {o : HO}
theorem Stp.refl (w : Ex B H) : Stp W B H B H := ⟨Ex.refl B, w, fun _ _ _ h => h, fun _ o h => ⟨o, h⟩, fun _ _ h _ => h⟩
theorem Stp.trans (a : Stp W B H B1 H1) (b : Stp W B1 H1 B2 H2) : Stp W B H B2 H2 :=
  ⟨a.ex.trans b.ex, b.ok, fun x o hx h => b.fr x o hx (a.fr x o hx h), fun x o h => let ⟨o1, h1⟩ := a.al x o h; b.al x o1 h1, fun x o hb h => let ⟨o1, h1⟩ := a.al x o h; b.nw x o1 (a.nw x o hb h) h1⟩
theorem Stp.w (a : Stp W B H B1 H1) (h : ∀ x, x ∈ W → x ∈ W') : Stp W' B H B1 H1 := ⟨a.ex, a.ok, fun x o hx e => a.fr x o (fun z => hx (h x z)) e, a.al, a.nw⟩
theorem Stp.w0 (a : Stp [] B H B1 H1) : Stp W B H B1 H1 := a.w fun _ h => nomatch h
/-- a new object that stays -/
theorem Stp.new (w : Ex B H) (h : H p = none) : Stp W B H (upd B p o) (upd H p o) :=
  ⟨Ex.new (w.none h), w.both, fun a u _ e => Ex.new h a u e, fun a u e => ⟨u, Ex.new h a u e⟩, fun a u hb e => by rw [upd_ne (ne_of_none e h)]; exact hb⟩
/-- a new object that may change -/
theorem Stp.newM (w : Ex B H) (h : H p = none) : Stp W B H B (upd H p o) :=
  ⟨Ex.refl B, w.upd (w.none h), fun a u _ e => Ex.new h a u e, fun a u e => ⟨u, Ex.new h a u e⟩, fun a u hb _ => hb⟩
/-- a changed object of W -/
theorem Stp.set (w : Ex B H) (hp : p ∈ W) (hb : B p = none) {u : HO} (hu : H p = some u) : Stp W B H B (upd H p o) :=
  ⟨Ex.refl B, w.upd hb, fun a u hx e => by rw [upd_ne (fun z => hx (by rw [z]; exact hp))]; exact e, fun a u e => by
    by_cases q : a = p
    · subst q; exact ⟨o, upd_same⟩
    · exact ⟨u, by rw [upd_ne q]; exact e⟩, fun _ _ h _ => h⟩
/-- an object of our own, made behind the entry, changed -/
theorem Stp.own (a : Stp W B H B1 H1) (h0 : H p = none) (hb : B1 p = none) (h : ∃ u, H1 p = some u) : Stp W B H B1 (upd H1 p o) :=
  ⟨a.ex, a.ok.upd hb, fun x u hx e => by rw [upd_ne (ne_of_none e h0)]; exact a.fr x u hx e, fun x u e => by
    rw [upd_ne (ne_of_none e h0)]; exact a.al x u e, a.nw⟩
/-- an object of our own turns into one that stays -/
theorem Stp.keep (w : Ex B H) (a : Stp W B H B1 H1) (h0 : H p = none) (hb : B1 p = none) (h : H1 p = some o) : Stp W B H (upd B1 p o) H1 :=
  ⟨fun x u e => by rw [upd_ne (ne_of_none e (w.none h0))]; exact a.ex x u e, fun x u e => by
    by_cases q : x = p
    · subst q; rw [upd_same] at e; cases e; exact h
    · rw [upd_ne q] at e; exact a.ok x u e, a.fr, a.al, fun x u hb e => by rw [upd_ne (ne_of_none e h0)]; exact a.nw x u hb e⟩
end
/-! ### mirrors -/
/-- an error that is raised: the class's name, what it is told -/
structure Err where
  cls : Str
  args : List D := []
/-- what a mirror gives: a value, an error, or a place that the model does not serve -/
inductive Res (α : Type) where
  | ok (a : α) | err (e : Err) | stuck
def Res.bind {α β : Type} (m : Res α) (k : α → Res β) : Res β := match m with | .ok a => k a | .err e => .err e | .stuck => .stuck
/-- an error that nobody waits for -/
def Res.noErr {α : Type} (m : Res α) : Res α := match m with | .ok a => .ok a | _ => .stuck
instance : Monad Res where
  pure := Res.ok
  bind := Res.bind
def Post0 {α : Type} (m : Res α) (P : α → Prop) (R : Err → Prop) : Prop := match m with | .ok a => P a | .err e => R e | .stuck => False
/-- what the mirror gives is wished for: a structure, so that nothing looks into it -/
structure Post {α : Type} (m : Res α) (P : α → Prop) (R : Err → Prop) : Prop where
  h0 : Post0 m P R
section
variable {α β : Type} {m : Res α} {P P' : α → Prop} {R R' : Err → Prop} {a : α}
theorem Post.mono (h : Post m P R) (hp : ∀ a, P a → P' a) (hr : ∀ e, R e → R' e) : Post m P' R' := by
  obtain ⟨h⟩ := h
  refine ⟨?_⟩
  cases m with
  | ok a => exact hp a h
  | err e => exact hr e h
  | stuck => exact h
theorem Post.bind {k : α → Res β} {P : β → Prop} (h : Post (m.bind k) P R) : Post m (fun a => Post (k a) P R) R := by
  obtain ⟨h⟩ := h
  refine ⟨?_⟩
  cases m
  · exact ⟨h⟩
  · exact h
  · exact h
theorem Post.noErr (h : Post m.noErr P R) : Post m P (fun _ => False) := by
  obtain ⟨h⟩ := h
  refine ⟨?_⟩
  cases m with
  | ok a => exact h
  | err e => exact h
  | stuck => exact h
theorem Post.ok (h : Post (.ok a) P R) : P a := h.h0
theorem Post.err {e : Err} (h : Post (.err e : Res α) P R) : R e := h.h0
theorem Post.elim {C : Prop} (h : Post (.stuck : Res α) P R) : C := False.elim h.h0
theorem Post.mk' (h : P a) : Post (.ok a) P R := ⟨h⟩
theorem Post.iteT {c : Bool} {m m' : Res α} (h : Post (if c = true then m else m') P R) (hc : c = true) : Post m P R := by
  rw [if_pos hc] at h; exact h
theorem Post.iteF {c : Bool} {m m' : Res α} (h : Post (if c = true then m else m') P R) (hc : c = false) : Post m' P R := by
  rw [hc, if_neg Bool.false_ne_true] at h; exact h
theorem Post.is {m' : Res α} (h : Post m P R) (e : m = m') : Post m' P R := e ▸ h
end
/-- an item -/
def ixR {α : Type} (l : List α) (i : Int) : Res α := match atI l i with | some x => .ok x | none => .stuck
theorem Post.ix {α β : Type} {l : List α} {i : Int} {k : α → Res β} {P : β → Prop} {R : Err → Prop} (h : Post ((ixR l i).bind k) P R) : ∃ x, atI l i = some x ∧ Post (k x) P R := by
  unfold ixR at h
  cases e : atI l i with
  | none => rw [e] at h; exact h.elim
  | some x => rw [e] at h; exact ⟨x, rfl, h⟩
/-- where c holds -/
def guardR {α : Type} (c : Prop) [Decidable c] (m : Res α) : Res α := if c then m else .stuck
theorem Post.guard {α : Type} {c : Prop} [Decidable c] {m : Res α} {P : α → Prop} {R : Err → Prop} (h : Post (guardR c m) P R) : c ∧ Post m P R := by
  unfold guardR at h
  by_cases e : c
  · rw [if_pos e] at h; exact ⟨e, h⟩
  · rw [if_neg e] at h; exact h.elim
instance (i j : Int) : Decidable (CMulW i j) := by unfold CMulW; infer_instance
instance (i j : Int) : Decidable (CDivW i j) := by unfold CDivW; infer_instance
/-- a loop's turn: on, or a value that is returned, or out -/
inductive Fl (S R : Type) where
  | nx (s : S) | rt (r : R) | bk (s : S)
def forR {α S R : Type} : List α → S → (α → S → Res (Fl S R)) → Res (Fl S R)
  | [], s, _ => .ok (.nx s)
  | x :: xs, s, f => (f x s).bind fun r => match r with | .nx s' => forR xs s' f | r => .ok r
theorem Post.forS {α S R : Type} {l : List α} {i : Nat} {s : S} {f : α → S → Res (Fl S R)} {P : Fl S R → Prop} {E : Err → Prop} {x : α} (h : Post (forR (l.drop i) s f) P E) (hx : l[i]? = some x) :
    Post (f x s) (fun r => match r with | .nx s' => Post (forR (l.drop (i + 1)) s' f) P E | .rt v => P (.rt v) | .bk s' => P (.bk s')) E := by
  obtain ⟨hi, e⟩ := List.getElem?_eq_some_iff.mp hx
  rw [List.drop_eq_getElem_cons hi, e] at h
  exact (Post.bind h).mono (fun r q => by
    cases r
    · exact q
    · exact q.ok
    · exact q.ok) fun _ q => q
theorem Post.forN {α S R : Type} {l : List α} {i : Nat} {s : S} {f : α → S → Res (Fl S R)} {P : Fl S R → Prop} {E : Err → Prop} (h : Post (forR (l.drop i) s f) P E) (hi : l.length ≤ i) : P (.nx s) := by
  rw [List.drop_eq_nil_of_le hi] at h
  exact h.ok

/-! ### what stands for data -/
class Enc (α : Type) where
  enc : α → D
open Enc (enc)
structure Tp1 (α : Type) where
  a : α
structure Tp2 (α β : Type) where
  a : α
  b : β
structure Tp3 (α β γ : Type) where
  a : α
  b : β
  c : γ
structure Tp4 (α β γ δ : Type) where
  a : α
  b : β
  c : γ
  d : δ
structure Tp5 (α β γ δ ε : Type) where
  a : α
  b : β
  c : γ
  d : δ
  e : ε
instance : Enc Int := ⟨.int⟩
instance : Enc Bool := ⟨.bl⟩
instance : Enc Str := ⟨.str⟩
instance : Enc Unit := ⟨fun _ => .non⟩
instance : Enc D := ⟨id⟩
instance {α : Type} [Enc α] : Enc (List α) := ⟨fun l => .lst (l.map enc)⟩
instance {α : Type} [Enc α] : Enc (Option α) := ⟨fun o => match o with | some x => enc x | none => .non⟩
instance {α : Type} [Enc α] : Enc (Tp1 α) := ⟨fun t => .tup [enc t.a]⟩
instance {α β : Type} [Enc α] [Enc β] : Enc (Tp2 α β) := ⟨fun t => .tup [enc t.a, enc t.b]⟩
instance {α β γ : Type} [Enc α] [Enc β] [Enc γ] : Enc (Tp3 α β γ) := ⟨fun t => .tup [enc t.a, enc t.b, enc t.c]⟩
instance {α β γ δ : Type} [Enc α] [Enc β] [Enc γ] [Enc δ] : Enc (Tp4 α β γ δ) := ⟨fun t => .tup [enc t.a, enc t.b, enc t.c, enc t.d]⟩
instance {α β γ δ ε : Type} [Enc α] [Enc β] [Enc γ] [Enc δ] [Enc ε] : Enc (Tp5 α β γ δ ε) := ⟨fun t => .tup [enc t.a, enc t.b, enc t.c, enc t.d, enc t.e]⟩

/-- a list that may change: at p, outside of what is known for good -/
def Mu (K : PySem.W.Frag) (B H : Hp) (p : Addr) (ds : List D) : Prop := B p = none ∧ ∃ xs, H p = some (.lst xs) ∧ RepL K B xs ds
/-- a list that stands in the written part -/
def KL (K : PySem.W.Frag) (a : Addr) (xs : List V) : Prop := ∃ (o : Obj) (its : Array Value) (n : Nat), K.lookup a = some o ∧ o.cls = .type "list" ∧ o.dict = none ∧ o.data = .seq its n ∧ its.size ≤ sizeLine ∧ Vals xs its.toList
/-- a list that is read: at v now -/
def Bor (K : PySem.W.Frag) (B H : Hp) (W : List Addr) (v : V) (ds : List D) : Prop := ∃ p xs, v = .ref p ∧ ((Rd H p (.lst xs) ∧ p ∉ W) ∨ KL K p xs) ∧ RepL K B xs ds
/-- what a return hands on -/
def Ret (K : PySem.W.Frag) (W : List Addr) (B H : Hp) (d : D) (Q : VK) : Prop := ∀ v B' H', Stp W B H B' H' → Rep K B' v d → Q v H'
/-- .. where the list at p may have changed -/
def RetM (K : PySem.W.Frag) (p : Addr) (B H : Hp) (d : D) (ds : List D) (Q : VK) : Prop := ∀ v B' H', Stp [p] B H B' H' → Mu K B' H' p ds → Rep K B' v d → Q v H'
/-- .. that is raised -/
def Rai (mg : Str → Option Value) (W : List Addr) (B H : Hp) (e : Err) (E : XK) : Prop := ∀ C B' H', mg e.cls = some (.ref C) → Stp W B H B' H' → E (.ref C) none H'
section
variable {K : PySem.W.Frag} {B B' B1 H H' H1 : Hp} {W : List Addr} {p q : Addr} {ds es : List D} {xs : List V} {d : D} {v : V} {Q : VK} {mg : Str → Option Value} {E : XK}
theorem Mu.step (m : Mu K B H p ds) (s : Stp W B H B' H') (h : p ∉ W) : Mu K B' H' p ds := by
  obtain ⟨hb, xs, hp, r⟩ := m
  exact ⟨s.nw p _ hb hp, xs, s.fr p _ h hp, r.mono s.ex⟩
theorem Mu.new (w : Ex B H) (h : H p = none) (r : RepL K B xs ds) : Mu K B (upd H p (.lst xs)) p ds := ⟨w.none h, xs, upd_same, r⟩
theorem Mu.bor (m : Mu K B H p ds) (h : p ∉ W) : Bor K B H W (.ref p) ds := by
  obtain ⟨hb, xs, hp, r⟩ := m
  exact ⟨p, xs, rfl, .inl ⟨.inl hp, h⟩, r⟩
theorem Mu.ne (m : Mu K B H p ds) (h : H q = none) : p ≠ q := by
  obtain ⟨hb, xs, hp, r⟩ := m
  exact ne_of_none hp h
theorem Bor.step (m : Bor K B H W v ds) (s : Stp W B H B' H') : Bor K B' H' W v ds := by
  obtain ⟨p, xs, e, hp, r⟩ := m
  refine ⟨p, xs, e, ?_, r.mono s.ex⟩
  rcases hp with ⟨hp | ⟨o, hp⟩, hw⟩ | hp
  · exact .inl ⟨.inl (s.fr p _ hw hp), hw⟩
  · exact .inl ⟨.inr ⟨o, s.fr p _ hw hp⟩, hw⟩
  · exact .inr hp
theorem Bor.w {W' : List Addr} (m : Bor K B H W v ds) (h : ∀ x, x ∈ W' → x ∈ W) : Bor K B H W' v ds := by
  obtain ⟨p, xs, e, hp, r⟩ := m
  refine ⟨p, xs, e, ?_, r⟩
  rcases hp with ⟨hp, hw⟩ | hp
  · exact .inl ⟨hp, fun z => hw (h p z)⟩
  · exact .inr hp
theorem Bor.sq (m : Bor K B H W v ds) : ∃ p xs, v = .ref p ∧ SqL K H p xs ∧ RepL K B xs ds := by
  obtain ⟨p, xs, e, hp, r⟩ := m
  refine ⟨p, xs, e, ?_, r⟩
  rcases hp with ⟨hp, _⟩ | hp
  · exact .inl hp
  · exact .inr hp
theorem Rep.bor (w : Ex B H) (r : Rep K B v (.lst ds)) (h : ∀ x, x ∈ W → B x = none) : Bor K B H W v ds := by
  cases r with
  | @lst p xs _ hp r =>
    refine ⟨p, xs, rfl, ?_, r⟩
    rcases hp with hp | hp
    · refine .inl ⟨w.rd hp, fun z => ?_⟩
      have e := h p z
      rcases hp with hp | ⟨o, hp⟩
      · rw [hp] at e; cases e
      · rw [hp] at e; cases e
    · exact .inr hp
theorem Rep.bor0 (w : Ex B H) (r : Rep K B v (.lst ds)) : Bor K B H [] v ds := r.bor w (fun _ z => nomatch z)
theorem Rep.sq (w : Ex B H) (r : Rep K B v (.lst ds)) : ∃ p xs, v = .ref p ∧ SqL K H p xs ∧ RepL K B xs ds := by
  cases r with
  | @lst p xs _ hp r => exact ⟨p, xs, rfl, w.l hp, r⟩
theorem Rep.st (w : Ex B H) (r : Rep K B v (.tup ds)) : ∃ p xs, v = .ref p ∧ SqT K H p xs ∧ RepL K B xs ds := by
  cases r with
  | @tup p xs _ hp r => exact ⟨p, xs, rfl, w.t hp, r⟩
theorem Mu.sq (m : Mu K B H p ds) : ∃ xs, H p = some (.lst xs) ∧ SqL K H p xs ∧ RepL K B xs ds := by
  obtain ⟨hb, xs, hp, r⟩ := m
  exact ⟨xs, hp, SqL.of hp, r⟩
theorem Stp.mut (w : Ex B H) (m : Mu K B H p ds) (r : RepL K B xs es) : Stp [p] B H B (upd H p (.lst xs)) ∧ Mu K B (upd H p (.lst xs)) p es := by
  obtain ⟨hb, ys, hp, _⟩ := m
  exact ⟨Stp.set w (by simp) hb hp, hb, xs, upd_same, r⟩
end
/-- the built-in type of a thing -/
def tyD : D → String
  | .non => "NoneType" | .bl _ => "bool" | .int _ => "int" | .str _ => "str" | .lst _ => "list" | .tup _ => "tuple" | .dic _ => "dict" | .obj _ _ => "object"
def isObjD : D → Bool | .obj _ _ => true | _ => false
theorem Rep.ty {K : PySem.W.Frag} {B H : Hp} {v : V} {d : D} (w : Ex B H) (r : Rep K B v d) (hd : isObjD d = false) : TyX K H v (.type (tyD d)) := by
  cases r with
  | obj h k r => exact nomatch hd
  | non => exact .base .non
  | bl b => exact .base (.bl b)
  | int i => exact .base (.int i)
  | str x => exact .base (.str x)
  | lst h r =>
    rcases h with (h | ⟨o, h⟩) | ⟨o, its, n, h, hc, _⟩
    · exact .base (.lst (w _ _ h))
    · exact .base (.frz (w _ _ h))
    · exact .kList h hc
  | tup h r =>
    rcases h with (h | ⟨o, h⟩) | ⟨o, its, n, h, hc, _⟩
    · exact .base (.tup (w _ _ h))
    · exact .fTuple (w _ _ h)
    · exact .kTuple h hc
  | dic h r => exact .base (.dK (w _ _ h))
def isS (s t : String) : Bool := s == t || (s == "bool" && t == "int")
def isA (t : String) (d : D) : Bool := isS (tyD d) t
theorem kit_tab : ∀ s ∈ ["NoneType", "bool", "int", "str", "list", "tuple", "dict"], ∀ t ∈ ["bool", "int", "str", "list", "tuple", "dict"], kitB s t = some (isS s t) := by decide +kernel
theorem tyD_in (d : D) (hd : isObjD d = false) : tyD d ∈ ["NoneType", "bool", "int", "str", "list", "tuple", "dict"] := by
  cases d
  case obj => exact nomatch hd
  all_goals simp [tyD]
theorem isS_obj : ∀ t ∈ ["bool", "int", "str", "list", "tuple", "dict"], isS "object" t = false := by decide +kernel
theorem meta_tab : ∀ t ∈ ["bool", "int", "str", "list", "tuple", "dict"], PySem.W.kitMeta t = true := by decide +kernel
theorem KC.kit {K : PySem.W.Frag} {nm : Str} {C : Addr} (k : KC K nm C) {t : String} (ht : t ∈ ["bool", "int", "str", "list", "tuple", "dict"]) : PySem.W.kitOne K (.ref C) (.type t) = some false := by
  unfold PySem.W.kitOne
  rw [if_neg (by simp)]
  show (if PySem.W.kitMeta t = true then PySem.W.subIn K (.ref C) (.type t) else none) = some false
  rw [if_pos (meta_tab t ht)]
  exact k.bt t ht
theorem KC.tyx {K : PySem.W.Frag} {nm : Str} {C p dx : Addr} {H : Hp} {fs : List (Str × V)} (k : KC K nm C) (h : H p = some (.ins C dx fs)) : TyX K H (.ref p) (.ref C) := .base (.ins h k.c k.ha k.hn k.ht k.hm)
/-- isinstance(x, int | bool | str | list | tuple | dict) -/
theorem isi {K : PySem.W.Frag} {B H : Hp} {v : V} {d : D} {t : String} {Q : VK} (w : Ex B H) (r : Rep K B v d) (q : Q (.bl (isA t d)) H) (ht : t ∈ ["bool", "int", "str", "list", "tuple", "dict"] := by simp) : rIsi K [v, .ty t] H Q := by
  by_cases hd : isObjD d = true
  · cases r with
    | @obj p C dx nm fs ds h k r =>
      have e : isA t (.obj nm ds) = false := isS_obj t ht
      rw [e] at q
      exact ⟨_, .ty t, .ref C, .type t, false, rfl, .ty t, k.tyx (w _ _ h), k.kit ht, q⟩
    | _ => exact nomatch hd
  · have hd := Bool.eq_false_iff.mpr hd
    exact ⟨v, .ty t, _, .type t, isA t d, rfl, .ty t, r.ty w hd, kit_ty (kit_tab _ (tyD_in d hd) _ ht), q⟩
theorem boot_bool : bootBuiltins "bool" = some (.type "bool") := by decide +kernel
theorem boot_int : bootBuiltins "int" = some (.type "int") := by decide +kernel
theorem boot_str : bootBuiltins "str" = some (.type "str") := by decide +kernel
theorem boot_list : bootBuiltins "list" = some (.type "list") := by decide +kernel
theorem boot_tuple : bootBuiltins "tuple" = some (.type "tuple") := by decide +kernel
theorem boot_dict : bootBuiltins "dict" = some (.type "dict") := by decide +kernel

/-! ### readings, step by step -/
def NwL (xs : List V) (H : Hp) (Q : VK) : Prop := ∀ p, H p = none → Q (.ref p) (upd H p (.lst xs))
def NwT (xs : List V) (H : Hp) (Q : VK) : Prop := ∀ p, H p = none → Q (.ref p) (upd H p (.tup xs))
def NewL (xs : List V) (H : Hp) (Q : VK) : Prop := xs.length ≤ sizeLine ∧ NwL xs H Q
def NewT (xs : List V) (H : Hp) (Q : VK) : Prop := xs.length ≤ sizeLine ∧ NwT xs H Q
section
variable {K : PySem.W.Frag} {σ σ' : L2.St} {H : Hp} {Q : VK} {D' : Ends} {te ta tb tc : TE} {tt tt' : TT} {t u z : TS} {tl : TA} {v x y : V} {i j : Int} {n : Nat} {r r' : R2} {W : List Addr}
theorem h_seq (h : t { D' with nx := u D' } σ H) : tSeq t u D' σ H := h
theorem h_set (h : te σ H fun x H1 => u D' (σ.set n (some x)) H1) : tSeq (tAsg te (gName n)) u D' σ H := h
theorem h_set1 (h : te σ H fun x H1 => D'.nx (σ.set n (some x)) H1) : tAsg te (gName n) D' σ H := h
theorem h_nrm {T : L2.St → Hp → Prop} (h : T σ' H) (e : σ' = σ := by rfl) : T σ H := e ▸ h
theorem h_drop (h : te σ H fun _ H1 => D'.nx σ H1) : tDrop te D' σ H := h
theorem h_ret (h : te σ H D'.rt) : tRet te D' σ H := h
theorem h_if {c : TT} (h : c σ H fun b H1 => if b = true then t D' σ H1 else u D' σ H1) : tIfS c t u D' σ H := h
theorem h_next (h : D'.nx σ H) : tNext D' σ H := h
theorem h_nx {a c d : L2.St → Hp → Prop} {b : VK} (h : a σ H) : (Ends.mk a b c d).nx σ H := h
theorem h_var (e : σ[n]? = some (some v)) (h : Q v H) : tVar n σ H Q := ⟨v, e, h⟩
theorem h_c (h : Q v H) : tC v σ H Q := h
theorem h_op (h : ta σ H fun x H1 => tb σ H1 fun y H2 => r x y H2 Q) : tOp r ta tb σ H Q := h
theorem h_I0 {g : Int → Int → V} (h : Q (g i j) H) : rI0 g (.int i) (.int j) H Q := ⟨i, j, rfl, rfl, h⟩
theorem h_I {C : Int → Int → Prop} {g : Int → Int → V} (c : C i j) (h : Q (g i j) H) : rI C g (.int i) (.int j) H Q := ⟨i, j, rfl, rfl, c, h⟩
theorem h_un {f : V → Hp → VK → Prop} (h : ta σ H fun x H1 => f x H1 Q) : tUn f ta σ H Q := h
theorem h_U {g : Int → V} (h : Q (g i) H) : rU g (.int i) H Q := ⟨i, rfl, h⟩
theorem h_eq (s : scal x y = true) (h : Q (.bl (decide (x = y))) H) : rEq x y H Q := ⟨s, h⟩
theorem h_ne (s : scal x y = true) (h : Q (.bl (!decide (x = y))) H) : rNe x y H Q := ⟨s, h⟩
theorem dec_i : decide (V.int i = V.int j) = decide (i = j) := by simp
theorem dec_b {i j : Bool} : decide (V.bl i = V.bl j) = decide (i = j) := by simp
theorem dec_s {i j : Str} : decide (V.str i = V.str j) = decide (i = j) := by simp
theorem h_eqI (h : Q (.bl (decide (i = j))) H) : rEq (.int i) (.int j) H Q := ⟨rfl, by rw [dec_i]; exact h⟩
theorem h_neI (h : Q (.bl (!decide (i = j))) H) : rNe (.int i) (.int j) H Q := ⟨rfl, by rw [dec_i]; exact h⟩
theorem h_eqS {i j : Str} (h : Q (.bl (decide (i = j))) H) : rEq (.str i) (.str j) H Q := ⟨rfl, by rw [dec_s]; exact h⟩
theorem h_neS {i j : Str} (h : Q (.bl (!decide (i = j))) H) : rNe (.str i) (.str j) H Q := ⟨rfl, by rw [dec_s]; exact h⟩
theorem h_eqB {i j : Bool} (h : Q (.bl (decide (i = j))) H) : rEq (.bl i) (.bl j) H Q := ⟨rfl, by rw [dec_b]; exact h⟩
theorem h_neB {i j : Bool} (h : Q (.bl (!decide (i = j))) H) : rNe (.bl i) (.bl j) H Q := ⟨rfl, by rw [dec_b]; exact h⟩
theorem h_chain (h : ta σ H fun x H1 => tb σ H1 fun y H2 => r x y H2 fun z H3 => ∃ k, z = .bl k ∧ (if k = true then tc σ H3 fun w' H4 => r' y w' H4 Q else Q (.bl false) H3)) : tChain r r' ta tb tc σ H Q := h
theorem h_chk {k : Bool} {A : Prop} {w : V} {f : Bool → Prop} (hw : w = .bl k) (h : f k) : ∃ k, w = .bl k ∧ f k := ⟨k, hw, h⟩
theorem h_and (h : ta σ H fun x H1 => ∃ c, x = .bl c ∧ if c = true then tb σ H1 Q else Q (.bl false) H1) : tAndV ta tb σ H Q := h
theorem h_or (h : ta σ H fun x H1 => ∃ c, x = .bl c ∧ if c = true then Q (.bl true) H1 else tb σ H1 Q) : tOrV ta tb σ H Q := h
theorem h_not (h : ta σ H fun x H1 => ∃ c, x = .bl c ∧ Q (.bl (!c)) H1) : tNotV ta σ H Q := h
theorem h_tand {Q : Bool → Hp → Prop} (h : tt σ H fun c H1 => if c = true then tt' σ H1 Q else Q false H1) : tAnd tt tt' σ H Q := h
theorem h_tor {Q : Bool → Hp → Prop} (h : tt σ H fun c H1 => if c = true then Q true H1 else tt' σ H1 Q) : tOr tt tt' σ H Q := h
theorem h_tnot {Q : Bool → Hp → Prop} (h : tt σ H fun c H1 => Q (!c) H1) : tNot tt σ H Q := h
theorem h_test {Q : Bool → Hp → Prop} (h : te σ H fun x H' => ∃ k, x = .bl k ∧ Q k H') : tTest te σ H Q := h
theorem h_tB {Q : Bool → Hp → Prop} (h : te σ H fun x H' => ∃ k, x = .bl k ∧ Q k H') : tB te σ H Q := h
theorem h_bl {b : Bool} {f : Bool → Prop} (h : f b) : ∃ k, V.bl b = .bl k ∧ f k := ⟨b, rfl, h⟩
theorem h_iteT {A B : Prop} (h : A) : if true = true then A else B := by rw [if_pos rfl]; exact h
theorem h_iteF {A B : Prop} (h : B) : if false = true then A else B := by rw [if_neg Bool.false_ne_true]; exact h
theorem h_ite {b : Bool} {A B : Prop} (h1 : b = true → A) (h2 : b = false → B) : if b = true then A else B := by
  cases b
  · exact h_iteF (h2 rfl)
  · exact h_iteT (h1 rfl)
theorem h_ifE {c : TT} (h : c σ H fun b H1 => if b = true then ta σ H1 Q else tb σ H1 Q) : tIf c ta tb σ H Q := h
theorem h_nil {Q : List V → Hp → Prop} (h : Q [] H) : tNil σ H Q := h
theorem h_cons {Q : List V → Hp → Prop} (h : te σ H fun x H1 => tl σ H1 fun xs H2 => Q (x :: xs) H2) : tCons te tl σ H Q := h
theorem h_cb {f : List V → Hp → VK → Prop} (h : tl σ H fun vs H1 => f vs H1 Q) : tCB f tl σ H Q := h
theorem h_call {sp : Sp} {dvs : List V} {E : XK} (h : tl σ H fun vs H1 => sp (vs ++ dvs) H1 Q E) : tCall sp dvs E tl σ H Q := h
theorem h_callS {sp : Sp} {E : L2.St → XK} (h : tl σ H fun vs H1 => sp vs H1 Q (E σ)) : tCallS sp E tl σ H Q := h
theorem h_tup (h : tl σ H fun xs H1 => NewT xs H1 Q) : tTup tl σ H Q := h
theorem h_lst (h : tl σ H fun xs H1 => NewL xs H1 Q) : tLst tl σ H Q := h
theorem h_ixL {p : Addr} {xs : List V} (s : SqL K H p xs) (e : atI xs i = some v) (h : Q v H) : rIxL K (.ref p) (.int i) H Q := ⟨p, xs, i, v, rfl, rfl, s, e, h⟩
theorem h_ixT {p : Addr} {xs : List V} (s : SqT K H p xs) (e : atI xs i = some v) (h : Q v H) : rIxT K (.ref p) (.int i) H Q := ⟨p, xs, i, v, rfl, rfl, s, e, h⟩
end

section
variable {K : PySem.W.Frag} {σ : L2.St} {B B1 B' H H1 H' B0 H0 : Hp} {Q : VK} {W W' : List Addr} {p q : Addr} {xs ys : List V} {ds es : List D} {v : V} {d : D} {i j : Int} {te ta tb : TE}
theorem h_newL (w : Ex B H) (r : RepL K B xs ds) (h : ∀ p B' H', Stp [] B H B' H' → Rep K B' (.ref p) (.lst ds) → Q (.ref p) H') (hn : xs.length ≤ sizeLine) : NewL xs H Q :=
  ⟨hn, fun p hp => h p _ _ (Stp.new w hp) (.lst (SqL.of upd_same) (r.mono (Ex.new (w.none hp))))⟩
theorem h_newT (w : Ex B H) (r : RepL K B xs ds) (h : ∀ p B' H', Stp [] B H B' H' → Rep K B' (.ref p) (.tup ds) → Q (.ref p) H') (hn : xs.length ≤ sizeLine) : NewT xs H Q :=
  ⟨hn, fun p hp => h p _ _ (Stp.new w hp) (.tup (SqT.of upd_same) (r.mono (Ex.new (w.none hp))))⟩
theorem h_newM (w : Ex B H) (r : RepL K B xs ds) (h : ∀ p H', H p = none → Stp [] B H B H' → Mu K B H' p ds → Q (.ref p) H') (hn : xs.length ≤ sizeLine) : NewL xs H Q :=
  ⟨hn, fun p hp => h p _ hp (Stp.newM w hp) (Mu.new w hp r)⟩
theorem h_nwL (w : Ex B H) (r : RepL K B xs ds) (h : ∀ p B' H', Stp [] B H B' H' → Rep K B' (.ref p) (.lst ds) → Q (.ref p) H') : NwL xs H Q :=
  fun p hp => h p _ _ (Stp.new w hp) (.lst (SqL.of upd_same) (r.mono (Ex.new (w.none hp))))
theorem h_nwT (w : Ex B H) (r : RepL K B xs ds) (h : ∀ p B' H', Stp [] B H B' H' → Rep K B' (.ref p) (.tup ds) → Q (.ref p) H') : NwT xs H Q :=
  fun p hp => h p _ _ (Stp.new w hp) (.tup (SqT.of upd_same) (r.mono (Ex.new (w.none hp))))
theorem h_nwM (w : Ex B H) (r : RepL K B xs ds) (h : ∀ p H', H p = none → Stp [] B H B H' → Mu K B H' p ds → Q (.ref p) H') : NwL xs H Q :=
  fun p hp => h p _ hp (Stp.newM w hp) (Mu.new w hp r)
/-- what was free now was free at the entry -/
theorem Stp.nn (s : Stp W B0 H0 B H) (h : H p = none) : H0 p = none := by
  cases e : H0 p with
  | none => rfl
  | some o => obtain ⟨u, q⟩ := s.al p o e; rw [h] at q; cases q
/-- a step that writes at an object of our own -/
theorem Stp.own2 (a : Stp W B0 H0 B H) (s : Stp [p] B H B' H') (h0 : H0 p = none) : Stp W B0 H0 B' H' :=
  ⟨a.ex.trans s.ex, s.ok, fun x u hx e => s.fr x u (fun z => by
      rw [List.mem_singleton.mp z, h0] at e; cases e) (a.fr x u hx e), fun x u e => let ⟨u1, e1⟩ := a.al x u e; s.al x u1 e1, fun x u hb e => let ⟨u1, e1⟩ := a.al x u e; s.nw x u1 (a.nw x u hb e) e1⟩
theorem nm0 : p ∉ ([] : List Addr) := fun z => nomatch z
theorem nm1 (h : p ≠ q) : p ∉ [q] := fun z => h (List.mem_singleton.mp z)
theorem sub0 : ∀ x, x ∈ ([] : List Addr) → x ∈ W := fun _ z => nomatch z
/-- a list of our own is kept as it is -/
theorem Mu.keep (m : Mu K B H p ds) : ∃ B', Ex B B' ∧ (∀ q, q ≠ p → B q = none → B' q = none) ∧ (∀ W B0 H0, Stp W B0 H0 B H → Ex B0 H0 → H0 p = none → Stp W B0 H0 B' H) ∧ Rep K B' (.ref p) (.lst ds) := by
  obtain ⟨hb, xs, hp, r⟩ := m
  exact ⟨upd B p (.lst xs), Ex.new hb, fun q n e => by rw [upd_ne n]; exact e, fun W B0 H0 st w0 h0 => Stp.keep w0 st h0 hb hp, .lst (SqL.of upd_same) (r.mono (Ex.new hb))⟩
/-- a step that writes at what may be written and at objects of our own -/
theorem Stp.go (a : Stp W B0 H0 B H) (s : Stp W' B H B' H') (h : ∀ p, p ∈ W' → p ∈ W ∨ H0 p = none) : Stp W B0 H0 B' H' :=
  ⟨a.ex.trans s.ex, s.ok, fun x u hx e => s.fr x u (fun z => by
      rcases h x z with q | q
      · exact hx q
      · rw [q] at e; cases e) (a.fr x u hx e), fun x u e => let ⟨u1, e1⟩ := a.al x u e; s.al x u1 e1, fun x u hb e => let ⟨u1, e1⟩ := a.al x u e; s.nw x u1 (a.nw x u hb e) e1⟩
theorem go0 {F : Addr → Prop} : ∀ x, x ∈ ([] : List Addr) → F x := fun _ z => nomatch z
theorem go1 {F : Addr → Prop} (h : F p) : ∀ x, x ∈ [p] → F x := fun x z => by rw [List.mem_singleton.mp z]; exact h
theorem go2 {F : Addr → Prop} (h : F p) (h' : F q) : ∀ x, x ∈ [p, q] → F x := fun x z => by
  rcases List.mem_cons.mp z with e | e
  · rw [e]; exact h
  · rw [List.mem_singleton.mp e]; exact h'
theorem go3 {F : Addr → Prop} {r : Addr} (h : F p) (h' : F q) (h2 : F r) : ∀ x, x ∈ [p, q, r] → F x := fun x z => by
  rcases List.mem_cons.mp z with e | e
  · rw [e]; exact h
  · exact go2 h' h2 x e
theorem go4 {F : Addr → Prop} {r r2 : Addr} (h : F p) (h' : F q) (h2 : F r) (h3 : F r2) : ∀ x, x ∈ [p, q, r, r2] → F x := fun x z => by
  rcases List.mem_cons.mp z with e | e
  · rw [e]; exact h
  · exact go3 h' h2 h3 x e
theorem nm2 {r : Addr} (h : p ≠ q) (h' : p ≠ r) : p ∉ [q, r] := fun z => by
  rcases List.mem_cons.mp z with e | e
  · exact h e
  · exact h' (List.mem_singleton.mp e)
theorem nm3 {r r2 : Addr} (h : p ≠ q) (h' : p ≠ r) (h2 : p ≠ r2) : p ∉ [q, r, r2] := fun z => by
  rcases List.mem_cons.mp z with e | e
  · exact h e
  · exact nm2 h' h2 e
theorem nm4 {r r2 r3 : Addr} (h : p ≠ q) (h' : p ≠ r) (h2 : p ≠ r2) (h3 : p ≠ r3) : p ∉ [q, r, r2, r3] := fun z => by
  rcases List.mem_cons.mp z with e | e
  · exact h e
  · exact nm3 h' h2 h3 e
theorem Mu.kp (m : Mu K B H q es) (e : Ex B B') (k : ∀ q, q ≠ p → B q = none → B' q = none) (n : q ≠ p) : Mu K B' H q es := by
  obtain ⟨hb, xs, hp, r⟩ := m
  exact ⟨k q n hb, xs, hp, r.mono e⟩
theorem RepL.atE {α : Type} [Enc α] {l : List α} {x : α} (r : RepL K B xs (l.map enc)) (h : atI l i = some x) : ∃ v, atI xs i = some v ∧ Rep K B v (enc x) := by
  refine r.at ?_
  unfold atI at h ⊢
  rw [List.length_map]
  cases e : ixN l.length i with
  | none => rw [e] at h; cases h
  | some k =>
    rw [e] at h
    show (l.map enc)[k]? = _
    rw [List.getElem?_map, show l[k]? = some x from h]
    rfl
theorem h_pow {k : Int} (e : i ^ j.toNat = k) (c : CPow i j) (h : Q (.int k) H) : rI CPow (fun i j => .int (i ^ j.toNat)) (.int i) (.int j) H Q := ⟨i, j, rfl, rfl, c, by show Q (.int (i ^ j.toNat)) H; rw [e]; exact h⟩
instance (i j : Int) : Decidable (CPow i j) := by unfold CPow; infer_instance
instance (i j : Int) : Decidable (CMul i j) := by unfold CMul; infer_instance
instance (i j : Int) : Decidable (CDiv i j) := by unfold CDiv; infer_instance
def absI (i : Int) : Int := if i < 0 then -i else i
def b2z (b : Bool) : Int := if b then 1 else 0
theorem h_isB {a b : Bool} (h : Q (.bl (decide (a = b))) H) : rIsB (.bl a) (.bl b) H Q := ⟨a, b, rfl, rfl, h⟩
theorem h_isnotB {a b : Bool} (h : Q (.bl (!decide (a = b))) H) : rNotB (.bl a) (.bl b) H Q := ⟨a, b, rfl, rfl, h⟩
def rLenY (K : PySem.W.Frag) : List V → Hp → VK → Prop := fun xs H Q => ∃ p ys, xs = [.ref p] ∧ (SqL K H p ys ∨ SqT K H p ys) ∧ Q (.int ys.length) H
def rAbsY : List V → Hp → VK → Prop := fun xs H Q => ∃ i, xs = [.int i] ∧ Q (.int (if i < 0 then -i else i)) H
def rIntY : List V → Hp → VK → Prop := fun xs H Q => (∃ i, xs = [.int i] ∧ Q (.int i) H) ∨ ∃ k, xs = [.bl k] ∧ Q (.int (if k then 1 else 0)) H
def rStrY : List V → Hp → VK → Prop := fun xs H Q => ∃ i, xs = [.int i] ∧ i.natAbs.log2 < 1920 ∧ Q (.str (toString i)) H
def rListY (K : PySem.W.Frag) : List V → Hp → VK → Prop := fun xs H Q => ∃ p ys, xs = [.ref p] ∧ (SqL K H p ys ∨ SqT K H p ys) ∧ ∀ l, H l = none → Q (.ref l) (upd H l (.lst ys))
def rTupY (K : PySem.W.Frag) : List V → Hp → VK → Prop := fun xs H Q => ∃ p ys, xs = [.ref p] ∧ ((SqL K H p ys ∧ ∀ l, H l = none → Q (.ref l) (upd H l (.tup ys))) ∨ (SqT K H p ys ∧ Q (.ref p) H))
theorem cr_len {X : Cx} : CallR X (.builtin "len") (rLenY X.K) := call_len_seq
theorem cr_abs {X : Cx} : CallR X (.builtin "abs") rAbsY := call_abs
theorem cr_int {X : Cx} : CallR X (.type "int") rIntY := call_int1
theorem cr_str {X : Cx} : CallR X (.type "str") rStrY := call_str_int
theorem cr_list {X : Cx} : CallR X (.type "list") (rListY X.K) := call_list_of
theorem cr_tuple {X : Cx} : CallR X (.type "tuple") (rTupY X.K) := call_tuple_of
theorem h_len {α : Type} [Enc α] {l : List α} (s : SqL K H p xs) (r : RepL K B xs (l.map enc)) (h : Q (.int l.length) H) : rLenY K [V.ref p] H Q := by
  refine ⟨p, xs, rfl, .inl s, ?_⟩
  rw [show xs.length = l.length from by rw [r.length, List.length_map]]
  exact h
theorem h_lenT (s : SqT K H p xs) (r : RepL K B xs ds) (h : Q (.int ds.length) H) : rLenY K [V.ref p] H Q := by
  refine ⟨p, xs, rfl, .inr s, ?_⟩
  rw [r.length]
  exact h
theorem h_abs (h : Q (.int (absI i)) H) : rAbsY [V.int i] H Q := ⟨i, rfl, h⟩
theorem h_intB {b : Bool} (h : Q (.int (b2z b)) H) : rIntY [V.bl b] H Q := .inr ⟨b, rfl, h⟩
theorem h_intI (h : Q (.int i) H) : rIntY [V.int i] H Q := .inl ⟨i, rfl, h⟩
theorem h_str (c : i.natAbs.log2 < 1920) (h : Q (.str (toString i)) H) : rStrY [V.int i] H Q := ⟨i, rfl, c, h⟩
theorem h_listL (s : SqL K H p xs) (h : NwL xs H Q) : rListY K [V.ref p] H Q := ⟨p, xs, rfl, .inl s, h⟩
theorem h_listT (s : SqT K H p xs) (h : NwL xs H Q) : rListY K [V.ref p] H Q := ⟨p, xs, rfl, .inr s, h⟩
theorem h_tupL (s : SqL K H p xs) (h : NwT xs H Q) : rTupY K [V.ref p] H Q := ⟨p, xs, rfl, .inl ⟨s, h⟩⟩
theorem h_iteN {b : Bool} {A C : Prop} (h1 : b = false → A) (h2 : b = true → C) : if (!b) = true then A else C := by
  cases b
  · exact h_iteT (h1 rfl)
  · exact h_iteF (h2 rfl)
theorem h_iteNT {A C : Prop} (h : C) : if (!true) = true then A else C := h_iteF h
theorem h_iteNF {A C : Prop} (h : A) : if (!false) = true then A else C := h_iteT h
theorem Post.iteTn {α : Type} {m m' : Res α} {P : α → Prop} {R : Err → Prop} {c : Bool} (h : Post (if (!c) = true then m else m') P R) (hc : c = false) : Post m P R := by
  rw [hc] at h; exact h
theorem Post.iteFn {α : Type} {m m' : Res α} {P : α → Prop} {R : Err → Prop} {c : Bool} (h : Post (if (!c) = true then m else m') P R) (hc : c = true) : Post m' P R := by
  rw [hc] at h; exact h
end

/-! ### joins, loops, comprehensions, in step with the mirror -/
section
variable {K : PySem.W.Frag} {σ : L2.St} {B B1 B' H H1 H' B0 H0 : Hp} {Q : VK} {W W' : List Addr} {p q : Addr} {xs ys : List V} {ds es : List D} {v : V} {d : D} {t z tb : TS} {te : TE} {c tt : TT} {D' : Ends} {g : TG} {ti : TI}
variable {α β S R' : Type} {P : β → Prop} {R : Err → Prop}
theorem h_joinS {m : Res α} {k : α → Res β} (hP : Post (m.bind k) P R) (J : α → L2.St → Hp → Prop)
    (h1 : ∀ N : L2.St → Hp → Prop, (∀ a σ' H', J a σ' H' → Post (k a) P R → N σ' H') → Post m (fun a => Post (k a) P R) R → t { D' with nx := N } σ H)
    (h2 : ∀ a σ' H', J a σ' H' → Post (k a) P R → z D' σ' H') : tSeq t z D' σ H := h1 _ h2 hP.bind
theorem h_condJ {m : Res Bool} {k : Bool → Res β} {Qb : Bool → Hp → Prop} (hP : Post (m.bind k) P R) (J : Hp → Prop)
    (h1 : ∀ N : Bool → Hp → Prop, (∀ b H', J H' → Post (k b) P R → N b H') → Post m (fun b => Post (k b) P R) R → c σ H N)
    (h2 : ∀ b H', J H' → Post (k b) P R → Qb b H') : c σ H Qb := h1 _ h2 hP.bind
theorem h_exprJ {m : Res α} {k : α → Res β} (hP : Post (m.bind k) P R) (J : α → V → Hp → Prop)
    (h1 : ∀ N : VK, (∀ a v H', J a v H' → Post (k a) P R → N v H') → Post m (fun a => Post (k a) P R) R → te σ H N)
    (h2 : ∀ a v H', J a v H' → Post (k a) P R → Q v H') : te σ H Q := h1 _ h2 hP.bind
theorem h_gname {n : Nat} {Q : L2.St → Hp → Prop} (h : Q (σ.set n (some v)) H) : gName n v σ H Q := h
/-- behind a loop -/
def afterR (k : S → Res β) : Fl S β → Res β
  | .nx s => k s | .rt r => .ok r | .bk s => k s
/-- a join of ways of which some end the def (or the turn) -/
theorem h_joinF {m : Res (Fl S β)} {k : S → Res β} (hP : Post (m.bind (afterR k)) P R) (J : S → L2.St → Hp → Prop)
    (h1 : ∀ (N : L2.St → Hp → Prop) (T : Fl S β → Prop), (∀ a σ' H', J a σ' H' → T (.nx a) → N σ' H') → (∀ r, T (.rt r) → P r) → Post m T R → t { D' with nx := N } σ H)
    (h2 : ∀ a σ' H', J a σ' H' → Post (k a) P R → z D' σ' H') : tSeq t z D' σ H :=
  h1 _ (fun a => Post (afterR k a) P R) (fun a σ' H' j q => h2 a σ' H' j q) (fun _ q => (q : Post (.ok _) P R).ok) hP.bind
/-- what a turn hands on -/
def turnR (l : List α) (f : α → S → Res (Fl S R')) (i : Nat) (P : Fl S R' → Prop) (R : Err → Prop) : Fl S R' → Prop
  | .nx s => Post (forR (l.drop i) s f) P R | .rt r => P (.rt r) | .bk s => P (.bk s)
theorem Post.turn {l : List α} {i : Nat} {s : S} {f : α → S → Res (Fl S R')} {P : Fl S R' → Prop} {x : α} (h : Post (forR (l.drop i) s f) P R) (hx : l[i]? = some x) : Post (f x s) (turnR l f (i + 1) P R) R :=
  (Post.forS h hx).mono (fun r q => by cases r <;> exact q) fun _ q => q

theorem h_forE (h : te σ H fun x H1 => tFor (iList K (tC x)) g tb D' σ H1) : tFor (iList K te) g tb D' σ H := h
theorem h_forL [Enc α] {l : List α} {s0 : S} {f : α → S → Res (Fl S β)} {k : S → Res β} (hP : Post ((forR l s0 f).bind (afterR k)) P R) (hs : SqL K H p xs) (hr : RepL K B xs (l.map enc))
    (J : S → L2.St → Hp → Prop) (h0 : J s0 σ H) (hl : ∀ s σ' H', J s σ' H' → SqL K H' p xs)
    (hb : ∀ (N : L2.St → Hp → Prop) (T : Fl S β → Prop) (x : α) v s σ' H', J s σ' H' → Rep K B v (enc x) → (∀ s' σ2 H2, J s' σ2 H2 → T (.nx s') → N σ2 H2) → (∀ r, T (.rt r) → P r) → (∀ s' σ2 H2, J s' σ2 H2 → T (.bk s') → D'.nx σ2 H2) → Post (f x s) T R →
      g v σ' H' fun σ2 H2 => tb { D' with nx := N, ct := N, bk := D'.nx } σ2 H2)
    (hd : ∀ s σ' H', J s σ' H' → Post (k s) P R → D'.nx σ' H') : tFor (iList K (tC (.ref p))) g tb D' σ H := by
  refine ⟨p, rfl, ⟨xs, hs⟩, for_list (K := K) (a := p) (xs := xs) (fun i σ' H' => ∃ s, J s σ' H' ∧ Post (forR (l.drop i) s f) (fun a => Post (afterR k a) P R) R) ⟨s0, h0, hP.bind⟩ (fun i σ' H' _ ⟨s, j, _⟩ => hl s σ' H' j) ?_ ?_⟩
  · rintro i y σ' H' hi ⟨s, j, q⟩
    obtain ⟨x, hx⟩ : ∃ x, l[i]? = some x := by
      have h1 := (List.getElem?_eq_some_iff.mp hi).1
      rw [hr.length, List.length_map] at h1
      exact ⟨l[i], List.getElem?_eq_getElem h1⟩
    obtain ⟨u, hu, ru⟩ := hr.get (i := i) (d := enc x) (by rw [List.getElem?_map, hx]; rfl)
    rw [hi] at hu; cases hu
    exact hb _ _ x y s σ' H' j ru (fun s' σ2 H2 j2 t2 => ⟨s', j2, t2⟩) (fun r t2 => (t2 : Post (.ok r) P R).ok) (fun s' σ2 H2 j2 t2 => hd s' σ2 H2 j2 t2) (q.turn hx)
  · rintro σ' H' ⟨s, j, q⟩
    exact hd s σ' H' j (q.forN (by rw [hr.length, List.length_map]; exact Nat.le_refl _))
theorem h_forTE (h : te σ H fun x H1 => tFor (iTup K (tC x)) g tb D' σ H1) : tFor (iTup K te) g tb D' σ H := h
theorem h_forT [Enc α] {l : List α} {s0 : S} {f : α → S → Res (Fl S β)} {k : S → Res β} (hP : Post ((forR l s0 f).bind (afterR k)) P R) (hs : SqT K H p xs) (hr : RepL K B xs (l.map enc))
    (J : S → L2.St → Hp → Prop) (h0 : J s0 σ H) (hl : ∀ s σ' H', J s σ' H' → SqT K H' p xs)
    (hb : ∀ (N : L2.St → Hp → Prop) (T : Fl S β → Prop) (x : α) v s σ' H', J s σ' H' → Rep K B v (enc x) → (∀ s' σ2 H2, J s' σ2 H2 → T (.nx s') → N σ2 H2) → (∀ r, T (.rt r) → P r) → (∀ s' σ2 H2, J s' σ2 H2 → T (.bk s') → D'.nx σ2 H2) → Post (f x s) T R →
      g v σ' H' fun σ2 H2 => tb { D' with nx := N, ct := N, bk := D'.nx } σ2 H2)
    (hd : ∀ s σ' H', J s σ' H' → Post (k s) P R → D'.nx σ' H') : tFor (iTup K (tC (.ref p))) g tb D' σ H := by
  refine ⟨p, rfl, ⟨xs, hs⟩, for_tup (K := K) (a := p) (xs := xs) (fun i σ' H' => ∃ s, J s σ' H' ∧ Post (forR (l.drop i) s f) (fun a => Post (afterR k a) P R) R) ⟨s0, h0, hP.bind⟩ (fun i σ' H' _ ⟨s, j, _⟩ => hl s σ' H' j) ?_ ?_⟩
  · rintro i y σ' H' hi ⟨s, j, q⟩
    obtain ⟨x, hx⟩ : ∃ x, l[i]? = some x := by
      have h1 := (List.getElem?_eq_some_iff.mp hi).1
      rw [hr.length, List.length_map] at h1
      exact ⟨l[i], List.getElem?_eq_getElem h1⟩
    obtain ⟨u, hu, ru⟩ := hr.get (i := i) (d := enc x) (by rw [List.getElem?_map, hx]; rfl)
    rw [hi] at hu; cases hu
    exact hb _ _ x y s σ' H' j ru (fun s' σ2 H2 j2 t2 => ⟨s', j2, t2⟩) (fun r t2 => (t2 : Post (.ok r) P R).ok) (fun s' σ2 H2 j2 t2 => hd s' σ2 H2 j2 t2) (q.turn hx)
  · rintro σ' H' ⟨s, j, q⟩
    exact hd s σ' H' j (q.forN (by rw [hr.length, List.length_map]; exact Nat.le_refl _))
/-- the ints from lo on, below hi -/
def rngI (lo hi : Int) : List Int := (List.range (hi - lo).toNat).map fun (i : Nat) => lo + (i : Int)
theorem rngI_get {lo hi : Int} {i : Nat} (h : i < (hi - lo).toNat) : (rngI lo hi)[i]? = some (lo + (i : Int)) := by
  unfold rngI
  rw [List.getElem?_map, List.getElem?_range h]
  rfl
theorem rngI_len {lo hi : Int} : (rngI lo hi).length = (hi - lo).toNat := by
  unfold rngI
  rw [List.length_map, List.length_range]
def Rng1 (vs : List V) (g : TG) (tb : TS) (D' : Ends) (σ : L2.St) (H : Hp) : Prop := tFor (iRng1 (fun _ H Q => Q vs H)) g tb D' σ H
def Rng2 (vs : List V) (g : TG) (tb : TS) (D' : Ends) (σ : L2.St) (H : Hp) : Prop := tFor (iRng2 (fun _ H Q => Q vs H)) g tb D' σ H
theorem h_rng1 {ta : TA} (h : ta σ H fun vs H1 => Rng1 vs g tb D' σ H1) : tFor (iRng1 ta) g tb D' σ H := h
theorem h_rng2 {ta : TA} (h : ta σ H fun vs H1 => Rng2 vs g tb D' σ H1) : tFor (iRng2 ta) g tb D' σ H := h
theorem forRng {lo hi : Int} {s0 : S} {f : Int → S → Res (Fl S β)} {k : S → Res β} (hP : Post ((forR (rngI lo hi) s0 f).bind (afterR k)) P R)
    (J : S → L2.St → Hp → Prop) (h0 : J s0 σ H)
    (hb : ∀ (N : L2.St → Hp → Prop) (T : Fl S β → Prop) (x : Int) s σ' H', J s σ' H' → lo ≤ x → x < hi → (∀ s' σ2 H2, J s' σ2 H2 → T (.nx s') → N σ2 H2) → (∀ r, T (.rt r) → P r) → (∀ s' σ2 H2, J s' σ2 H2 → T (.bk s') → D'.nx σ2 H2) → Post (f x s) T R →
      g (.int x) σ' H' fun σ2 H2 => tb { D' with nx := N, ct := N, bk := D'.nx } σ2 H2)
    (hd : ∀ s σ' H', J s σ' H' → Post (k s) P R → D'.nx σ' H') :
    ∃ W : Nat → Nat → L2.St → Hp → Prop, (∃ m, W 0 m σ H) ∧ ∀ i m σ H, W i m σ H →
      ((Itr lo (hi - lo).toNat).stop i H ∧ D'.nx σ H) ∨ ((Itr lo (hi - lo).toNat).go i H ∧ ∃ N : L2.St → Hp → Prop, (∀ σ' H', N σ' H' → ∃ m', m' < m ∧ W (i + 1) m' σ' H') ∧ ∀ x H', (Itr lo (hi - lo).toNat).yld i H x H' → g x σ H' fun σ2 H2 => tb { D' with nx := N, ct := N, bk := D'.nx } σ2 H2) := by
  refine for_range (lo := lo) (n := (hi - lo).toNat) (fun i σ' H' => ∃ s, J s σ' H' ∧ Post (forR ((rngI lo hi).drop i) s f) (fun a => Post (afterR k a) P R) R) ⟨s0, h0, hP.bind⟩ ?_ ?_
  · rintro i σ' H' hi' ⟨s, j, q⟩
    exact hb _ _ (lo + (i : Int)) s σ' H' j (by omega) (by omega) (fun s' σ2 H2 j2 t2 => ⟨s', j2, t2⟩) (fun r t2 => (t2 : Post (.ok r) P R).ok) (fun s' σ2 H2 j2 t2 => hd s' σ2 H2 j2 t2) (q.turn (rngI_get hi'))
  · rintro σ' H' ⟨s, j, q⟩
    exact hd s σ' H' j (q.forN (by rw [rngI_len]; exact Nat.le_refl _))
theorem h_forR1 {hi : Int} {s0 : S} {f : Int → S → Res (Fl S β)} {k : S → Res β} (hP : Post ((forR (rngI 0 hi) s0 f).bind (afterR k)) P R) (hz : -(2 ^ 62) ≤ hi ∧ hi < 2 ^ 62)
    (J : S → L2.St → Hp → Prop) (h0 : J s0 σ H)
    (hb : ∀ (N : L2.St → Hp → Prop) (T : Fl S β → Prop) (x : Int) s σ' H', J s σ' H' → 0 ≤ x → x < hi → (∀ s' σ2 H2, J s' σ2 H2 → T (.nx s') → N σ2 H2) → (∀ r, T (.rt r) → P r) → (∀ s' σ2 H2, J s' σ2 H2 → T (.bk s') → D'.nx σ2 H2) → Post (f x s) T R →
      g (.int x) σ' H' fun σ2 H2 => tb { D' with nx := N, ct := N, bk := D'.nx } σ2 H2)
    (hd : ∀ s σ' H', J s σ' H' → Post (k s) P R → D'.nx σ' H') : Rng1 [.int hi] g tb D' σ H := by
  have q := forRng hP J h0 hb hd
  rw [Int.sub_zero] at q
  exact ⟨hi, rfl, hz.1, hz.2, q⟩
theorem h_forR2 {lo hi : Int} {s0 : S} {f : Int → S → Res (Fl S β)} {k : S → Res β} (hP : Post ((forR (rngI lo hi) s0 f).bind (afterR k)) P R) (hz : (-(2 ^ 62) ≤ lo ∧ lo < 2 ^ 62) ∧ -(2 ^ 62) ≤ hi ∧ hi < 2 ^ 62)
    (J : S → L2.St → Hp → Prop) (h0 : J s0 σ H)
    (hb : ∀ (N : L2.St → Hp → Prop) (T : Fl S β → Prop) (x : Int) s σ' H', J s σ' H' → lo ≤ x → x < hi → (∀ s' σ2 H2, J s' σ2 H2 → T (.nx s') → N σ2 H2) → (∀ r, T (.rt r) → P r) → (∀ s' σ2 H2, J s' σ2 H2 → T (.bk s') → D'.nx σ2 H2) → Post (f x s) T R →
      g (.int x) σ' H' fun σ2 H2 => tb { D' with nx := N, ct := N, bk := D'.nx } σ2 H2)
    (hd : ∀ s σ' H', J s σ' H' → Post (k s) P R → D'.nx σ' H') : Rng2 [.int lo, .int hi] g tb D' σ H :=
  ⟨lo, hi, rfl, ⟨hz.1.1, hz.1.2, hz.2.1, hz.2.2⟩, forRng hP J h0 hb hd⟩

/-! comprehensions -/
def compL : List α → S → (α → S → Res (Option R' × S)) → Res (List R' × S)
  | [], s, _ => .ok ([], s)
  | x :: xs, s, f => (f x s).bind fun r => (compL xs r.2 f).bind fun q => .ok (match r.1 with | some b => b :: q.1 | none => q.1, q.2)
def compR (l : List α) (s : S) (f : α → S → Res (Option R' × S)) : Res (List R' × S) := guardR (l.length ≤ 1000000) (compL l s f)
def compT (l : List α) (f : α → S → Res (Option R' × S)) (k : List R' × S → Res β) (acc : List R') (P : β → Prop) (R : Err → Prop) : Option R' × S → Prop
  | (some b, s) => Post ((compL l s f).bind fun q => k (acc ++ [b] ++ q.1, q.2)) P R
  | (none, s) => Post ((compL l s f).bind fun q => k (acc ++ q.1, q.2)) P R
theorem Post.compS {l : List α} {i : Nat} {s : S} {f : α → S → Res (Option R' × S)} {k : List R' × S → Res β} {acc : List R'} {x : α} (h : Post ((compL (l.drop i) s f).bind fun q => k (acc ++ q.1, q.2)) P R) (hx : l[i]? = some x) :
    Post (f x s) (compT (l.drop (i + 1)) f k acc P R) R := by
  obtain ⟨hi, e⟩ := List.getElem?_eq_some_iff.mp hx
  rw [List.drop_eq_getElem_cons hi, e] at h
  have h2 := (Post.bind (Post.bind h))
  refine h2.mono (fun r q => ?_) fun _ q => q
  obtain ⟨o, s'⟩ := r
  cases o with
  | some b =>
    show Post ((compL (l.drop (i + 1)) s' f).bind fun q => k (acc ++ [b] ++ q.1, q.2)) P R
    have q1 : Post ((compL (l.drop (i + 1)) s' f).bind fun q => .ok (b :: q.1, q.2)) (fun a => Post (k (acc ++ a.1, a.2)) P R) R := q
    generalize compL (l.drop (i + 1)) s' f = m at q1 ⊢
    cases m with
    | ok a =>
      have q2 : Post (k (acc ++ (b :: a.1), a.2)) P R := q1.ok
      show Post (k (acc ++ [b] ++ a.1, a.2)) P R
      rw [List.append_assoc]
      exact q2
    | err e => exact ⟨q1.h0⟩
    | stuck => exact ⟨q1.h0⟩
  | none =>
    show Post ((compL (l.drop (i + 1)) s' f).bind fun q => k (acc ++ q.1, q.2)) P R
    have q1 : Post ((compL (l.drop (i + 1)) s' f).bind fun q => .ok (q.1, q.2)) (fun a => Post (k (acc ++ a.1, a.2)) P R) R := q
    generalize compL (l.drop (i + 1)) s' f = m at q1 ⊢
    cases m
    · exact q1.ok
    · exact ⟨q1.h0⟩
    · exact ⟨q1.h0⟩
theorem h_app1 [Enc α] {l : List α} {b : α} {y : V} {N : Hp → Prop} (w : Ex B H) (m : Mu K B H p (l.map enc)) (r : Rep K B y (enc b)) (hz : l.length < sizeLine) (h : ∀ H', Stp [p] B H B H' → Mu K B H' p ((l ++ [b]).map enc) → N H') :
    ∃ acc, H p = some (.lst acc) ∧ acc.length < sizeLine ∧ N (upd H p (.lst (acc ++ [y]))) := by
  obtain ⟨hb, xs, hp, hr⟩ := id m
  refine ⟨xs, hp, by rw [hr.length, List.length_map]; exact hz, ?_⟩
  have rl : RepL K B (xs ++ [y]) ((l ++ [b]).map enc) := by
    rw [List.map_append]
    exact hr.append (.cons r .nil)
  obtain ⟨s, m'⟩ := Stp.mut w m rl
  exact h _ s m'
def LcL (K : PySem.W.Frag) (v : V) (g : TG) (tt : TT) (te : TE) (vs : List Nat) (σ : L2.St) (H : Hp) (Q : VK) : Prop := tLc (iList K (tC v)) g tt te vs σ H Q
theorem h_lcE {vs : List Nat} {tl : TE} (h : tl σ H fun x H1 => LcL K x g tt te vs σ H1 Q) : tLc (iList K tl) g tt te vs σ H Q := h
def LcT (σ : L2.St) (vs : List Nat) (tt : TT) (te : TE) (Dl : Addr) (N : Hp → Prop) : L2.St → Hp → Prop := fun σ2 H2 => wipe σ2 vs = wipe σ vs ∧ tt σ2 H2 fun b H3 =>
  if b = true then te σ2 H3 fun y H4 => ∃ acc, H4 Dl = some (.lst acc) ∧ acc.length < sizeLine ∧ N (upd H4 Dl (.lst (acc ++ [y]))) else N H3
def App (Dl : Addr) (N : Hp → Prop) : VK := fun y H4 => ∃ acc, H4 Dl = some (.lst acc) ∧ acc.length < sizeLine ∧ N (upd H4 Dl (.lst (acc ++ [y])))
theorem h_lcT {vs : List Nat} {Dl : Addr} {N : Hp → Prop} {σ2 : L2.St} (e : wipe σ2 vs = wipe σ vs) (h : te σ2 H (App Dl N)) : LcT σ vs tYes te Dl N σ2 H := ⟨e, h⟩
theorem h_lcI {vs : List Nat} {Dl : Addr} {N : Hp → Prop} {σ2 : L2.St} (e : wipe σ2 vs = wipe σ vs) (h : tt σ2 H fun b H3 => if b = true then te σ2 H3 (App Dl N) else N H3) : LcT σ vs tt te Dl N σ2 H := ⟨e, h⟩
theorem h_app [Enc α] {l : List α} {b : α} {y : V} {N : Hp → Prop} (w : Ex B H) (m : Mu K B H p (l.map enc)) (r : Rep K B y (enc b)) (hz : l.length < sizeLine) (h : ∀ H', Stp [p] B H B H' → Mu K B H' p ((l ++ [b]).map enc) → N H') : App p N y H := h_app1 w m r hz h
theorem h_lcL [Enc α] {l : List α} {s0 : S} {f : α → S → Res (Option R' × S)} {k : List R' × S → Res β} {vs : List Nat} (hP : Post ((compR l s0 f).bind k) P R) (hs : SqL K H p xs) (hr : RepL K B xs (l.map enc))
    (J : Addr → List R' → S → Hp → Prop) (h0 : ∀ Dl, H Dl = none → J Dl [] s0 (upd H Dl (.lst []))) (hl : ∀ Dl acc s H', J Dl acc s H' → SqL K H' p xs)
    (hb : ∀ (Dl : Addr) (N : Hp → Prop) (T : Option R' × S → Prop) (x : α) v acc s H', J Dl acc s H' → Rep K B v (enc x) → acc.length < sizeLine → (∀ b s' H2, J Dl (acc ++ [b]) s' H2 → T (some b, s') → N H2) → (∀ s' H2, J Dl acc s' H2 → T (none, s') → N H2) → Post (f x s) T R →
      g v (wipe σ vs) H' (LcT σ vs tt te Dl N))
    (hd : ∀ Dl acc s H', J Dl acc s H' → Post (k (acc, s)) P R → Q (.ref Dl) H') : LcL K (.ref p) g tt te vs σ H Q := by
  refine ⟨p, rfl, ⟨xs, hs⟩, fun Dl hD => ?_⟩
  unfold compR at hP
  have hz : l.length ≤ 1000000 := by
    by_cases c : l.length ≤ 1000000
    · exact c
    · unfold guardR at hP; rw [if_neg c] at hP; exact hP.elim
  unfold guardR at hP
  rw [if_pos hz] at hP
  refine lc_list (K := K) (a := p) (xs := xs) (fun i H' => ∃ acc s, J Dl acc s H' ∧ acc.length ≤ i ∧ Post ((compL (l.drop i) s f).bind fun q => k (acc ++ q.1, q.2)) P R) ⟨[], s0, h0 Dl hD, Nat.le_refl _, hP⟩ (fun i H' _ ⟨acc, s, j, _⟩ => hl Dl acc s H' j) ?_ ?_
  · rintro i y H' hi ⟨acc, s, j, hn, q⟩
    have h1 := (List.getElem?_eq_some_iff.mp hi).1
    rw [hr.length, List.length_map] at h1
    obtain ⟨x, hx⟩ : ∃ x, l[i]? = some x := ⟨l[i], List.getElem?_eq_getElem h1⟩
    obtain ⟨u, hu, ru⟩ := hr.get (i := i) (d := enc x) (by rw [List.getElem?_map, hx]; rfl)
    rw [hi] at hu; cases hu
    exact hb Dl _ _ x y acc s H' j ru (Nat.lt_of_le_of_lt (Nat.le_trans hn (Nat.le_trans (Nat.le_of_lt h1) hz)) (by decide)) (fun b s' H2 j2 t2 => ⟨acc ++ [b], s', j2, by rw [List.length_append]; exact Nat.succ_le_succ hn, t2⟩) (fun s' H2 j2 t2 => ⟨acc, s', j2, Nat.le_succ_of_le hn, t2⟩) (q.compS hx)
  · rintro H' ⟨acc, s, j, _, q⟩
    rw [hr.length, List.length_map, List.drop_eq_nil_of_le (Nat.le_refl _)] at q
    have q2 : Post (k (acc ++ [], s)) P R := q
    rw [List.append_nil] at q2
    exact hd Dl acc s H' j q2
def LcR1 (ws : List V) (g : TG) (tt : TT) (te : TE) (vs : List Nat) (σ : L2.St) (H : Hp) (Q : VK) : Prop := tLc (iRng1 (fun _ H Q => Q ws H)) g tt te vs σ H Q
theorem h_lcR1E {vs : List Nat} {ta : TA} (h : ta σ H fun ws H1 => LcR1 ws g tt te vs σ H1 Q) : tLc (iRng1 ta) g tt te vs σ H Q := h
theorem h_lcR1 {hi : Int} {s0 : S} {f : Int → S → Res (Option R' × S)} {k : List R' × S → Res β} {vs : List Nat} (hP : Post ((compR (rngI 0 hi) s0 f).bind k) P R)
    (J : Addr → List R' → S → Hp → Prop) (h0 : ∀ Dl, H Dl = none → J Dl [] s0 (upd H Dl (.lst [])))
    (hb : ∀ (Dl : Addr) (N : Hp → Prop) (T : Option R' × S → Prop) (x : Int) acc s H', J Dl acc s H' → 0 ≤ x → x < hi → acc.length < sizeLine → (∀ b s' H2, J Dl (acc ++ [b]) s' H2 → T (some b, s') → N H2) → (∀ s' H2, J Dl acc s' H2 → T (none, s') → N H2) → Post (f x s) T R →
      g (.int x) (wipe σ vs) H' (LcT σ vs tt te Dl N))
    (hd : ∀ Dl acc s H', J Dl acc s H' → Post (k (acc, s)) P R → Q (.ref Dl) H') (hlo : -(2 ^ 62) ≤ hi) : LcR1 [.int hi] g tt te vs σ H Q := by
  unfold compR at hP
  have hz : (rngI 0 hi).length ≤ 1000000 := by
    by_cases c : (rngI 0 hi).length ≤ 1000000
    · exact c
    · unfold guardR at hP; rw [if_neg c] at hP; exact hP.elim
  unfold guardR at hP
  rw [if_pos hz] at hP
  rw [rngI_len, Int.sub_zero] at hz
  refine ⟨hi, rfl, hlo, by omega, fun Dl hD => ?_⟩
  refine lc_range (lo := 0) (n := hi.toNat) (fun i H' => ∃ acc s, J Dl acc s H' ∧ acc.length ≤ i ∧ Post ((compL ((rngI 0 hi).drop i) s f).bind fun q => k (acc ++ q.1, q.2)) P R) ⟨[], s0, h0 Dl hD, Nat.le_refl _, hP⟩ ?_ ?_
  · rintro i H' hi' ⟨acc, s, j, hn, q⟩
    have hx := rngI_get (lo := 0) (hi := hi) (i := i) (by omega)
    have e : (0 : Int) + (i : Int) = (i : Int) := Int.zero_add _
    exact hb Dl _ _ (0 + (i : Int)) acc s H' j (by omega) (by omega) (Nat.lt_of_le_of_lt (Nat.le_trans hn (Nat.le_trans (Nat.le_of_lt hi') hz)) (by decide)) (fun b s' H2 j2 t2 => ⟨acc ++ [b], s', j2, by rw [List.length_append]; exact Nat.succ_le_succ hn, t2⟩) (fun s' H2 j2 t2 => ⟨acc, s', j2, Nat.le_succ_of_le hn, t2⟩) (q.compS hx)
  · rintro H' ⟨acc, s, j, _, q⟩
    rw [List.drop_eq_nil_of_le (by rw [rngI_len]; omega)] at q
    have q2 : Post (k (acc ++ [], s)) P R := q
    rw [List.append_nil] at q2
    exact hd Dl acc s H' j q2
end

section
variable {K : PySem.W.Frag} {B B' H H' B0 H0 : Hp} {W : List Addr} {p : Addr} {xs : List V} {ds : List D} {v : V} {a b c d : L2.St → Hp → Prop} {rt : VK} {σ : L2.St}
theorem Rep.sqB (r : Rep K B v (.lst ds)) : ∃ p xs, v = .ref p ∧ SqL K B p xs ∧ RepL K B xs ds := by
  cases r with
  | @lst p xs _ hp r => exact ⟨p, xs, rfl, hp, r⟩
theorem Rep.stB (r : Rep K B v (.tup ds)) : ∃ p xs, v = .ref p ∧ SqT K B p xs ∧ RepL K B xs ds := by
  cases r with
  | @tup p xs _ hp r => exact ⟨p, xs, rfl, hp, r⟩
theorem Bor.sq0 (m : Bor K B0 H0 W v ds) : ∃ p xs, v = .ref p ∧ RepL K B0 xs ds ∧ ∀ B' H', Stp W B0 H0 B' H' → SqL K H' p xs := by
  obtain ⟨p, xs, e, hp, r⟩ := m
  refine ⟨p, xs, e, r, fun B' H' s => ?_⟩
  rcases hp with ⟨hp | ⟨o, hp⟩, hw⟩ | hp
  · exact .inl (.inl (s.fr p _ hw hp))
  · exact .inl (.inr ⟨o, s.fr p _ hw hp⟩)
  · exact .inr hp
theorem h_ct (h : d σ H) : tCont (Ends.mk a rt b d) σ H := h
theorem h_bk (h : b σ H) : tBreak (Ends.mk a rt b d) σ H := h
end

/-! ### lists that change -/
def setR {α : Type} (l : List α) (i : Int) (x : α) : Res (List α) := match ixN l.length i with | some j => .ok (l.set j x) | none => .stuck
def Bm (K : PySem.W.Frag) (T : String) (r : V → List V → Hp → VK → Prop) (t : TA) (σ : L2.St) (x : V) (H : Hp) (Q : VK) : Prop := tyV K T x H ∧ t σ H fun xs H2 => r x xs H2 Q
def Bm0 (K : PySem.W.Frag) (T : String) (r : V → List V → Hp → VK → Prop) (σ : L2.St) (x : V) (H : Hp) (Q : VK) : Prop := tyV K T x H ∧ r x [] H Q
section
variable {K : PySem.W.Frag} {σ : L2.St} {B H : Hp} {Q : VK} {p q : Addr} {v y : V} {te to ti : TE} {t : TA} {D' : Ends} {z : TS} {i : Int} {r : V → List V → Hp → VK → Prop}
theorem h_bm {T : String} (h : to σ H fun x H1 => Bm K T r t σ x H1 Q) : tBM K T r to t σ H Q := h
theorem h_bm0 {T : String} (h : to σ H fun x H1 => Bm0 K T r σ x H1 Q) : tBM0 K T r to σ H Q := h
theorem Mu.tyV {ds : List D} (m : Mu K B H p ds) : tyV K "list" (.ref p) H := by
  obtain ⟨hb, xs, hp, _⟩ := m
  exact .inl ⟨rfl, _, .inl (.inl hp)⟩
theorem h_bmL {ds : List D} (m : Mu K B H p ds) (h : t σ H fun xs H2 => r (.ref p) xs H2 Q) : Bm K "list" r t σ (.ref p) H Q := ⟨m.tyV, h⟩
theorem h_bmL0 {ds : List D} (m : Mu K B H p ds) (h : r (.ref p) [] H Q) : Bm0 K "list" r σ (.ref p) H Q := ⟨m.tyV, h⟩
theorem h_append {α : Type} [Enc α] {l : List α} {b : α} (w : Ex B H) (m : Mu K B H p (l.map enc)) (ry : Rep K B y (enc b)) (hz : l.length < 1000000) (h : ∀ H', Stp [p] B H B H' → Mu K B H' p ((l ++ [b]).map enc) → Q .non H') : rAppend (.ref p) [y] H Q := by
  obtain ⟨hb, xs, hp, hr⟩ := id m
  refine ⟨p, xs, y, rfl, rfl, hp, by rw [hr.length, List.length_map]; exact Nat.lt_of_lt_of_le hz (by decide), ?_⟩
  have rl : RepL K B (xs ++ [y]) ((l ++ [b]).map enc) := by
    rw [List.map_append]
    exact hr.append (.cons ry .nil)
  obtain ⟨s, m'⟩ := Stp.mut w m rl
  exact h _ s m'
theorem h_extend {α : Type} [Enc α] {l l2 : List α} (w : Ex B H) (m : Mu K B H p (l.map enc)) (m2 : Mu K B H q (l2.map enc)) (hz : l.length + l2.length ≤ 1000000) (h : ∀ H', Stp [p] B H B H' → Mu K B H' p ((l ++ l2).map enc) → Q .non H') : rExtend (.ref p) [.ref q] H Q := by
  obtain ⟨hb, xs, hp, hr⟩ := id m
  obtain ⟨hb2, ys, hp2, hr2⟩ := id m2
  refine ⟨p, q, xs, ys, rfl, rfl, hp, hp2, by rw [hr.length, hr2.length, List.length_map, List.length_map]; exact Nat.le_trans hz (by decide), ?_⟩
  have rl : RepL K B (xs ++ ys) ((l ++ l2).map enc) := by
    rw [List.map_append]
    exact hr.append hr2
  obtain ⟨s, m'⟩ := Stp.mut w m rl
  exact h _ s m'
theorem RepL.set : ∀ {vs : List V} {ds : List D} {j : Nat} {d : D}, RepL K B vs ds → Rep K B v d → RepL K B (vs.set j v) (ds.set j d)
  | _, _, _, _, .nil, _ => .nil
  | _, _, 0, _, .cons _ t, r => .cons r t
  | _, _, j + 1, _, .cons h t, r => .cons h (RepL.set t r)
theorem Post.set {α β : Type} {l : List α} {x : α} {k : List α → Res β} {P : β → Prop} {R : Err → Prop} (h : Post ((setR l i x).bind k) P R) : ∃ j, ixN l.length i = some j ∧ Post (k (l.set j x)) P R := by
  unfold setR at h
  cases e : ixN l.length i with
  | none => rw [e] at h; exact h.elim
  | some j => rw [e] at h; exact ⟨j, rfl, h⟩
def SubS (K : PySem.W.Frag) (to ti : TE) (σ : L2.St) (v : V) (H : Hp) (N : L2.St → Hp → Prop) : Prop := gSub to ti rSetL v σ H N
theorem h_sub {N : L2.St → Hp → Prop} (h : to σ H fun o H1 => ti σ H1 fun i H2 => rSetL o i v H2 fun H3 => N σ H3) : gSub to ti rSetL v σ H N := h
theorem h_asg {g : TG} (h : te σ H fun x H1 => g x σ H1 D'.nx) : tAsg te g D' σ H := h
theorem h_setL {α : Type} [Enc α] {l : List α} {b : α} {N : Hp → Prop} {j : Nat} (w : Ex B H) (m : Mu K B H p (l.map enc)) (ry : Rep K B v (enc b)) (hj : ixN l.length i = some j) (h : ∀ H', Stp [p] B H B H' → Mu K B H' p ((l.set j b).map enc) → N H') : rSetL (.ref p) (.int i) v H N := by
  obtain ⟨hb, xs, hp, hr⟩ := id m
  refine ⟨p, xs, i, j, rfl, rfl, hp, by rw [hr.length, List.length_map]; exact hj, ?_⟩
  have rl : RepL K B (xs.set j v) ((l.set j b).map enc) := by
    rw [List.map_set]
    exact hr.set ry
  obtain ⟨s, m'⟩ := Stp.mut w m rl
  exact h _ s m'
end

/-- a value with a name -/
def lt {α β : Type} (d : α) (k : α → Res β) : Res β := k d
theorem Post.lt {α β : Type} {d : α} {k : α → Res β} {P : β → Prop} {R : Err → Prop} (h : Post (Y.lt d k) P R) : Post (k d) P R := h

/-! ### lists put together, cut, compared; keywords alone -/
def rCatQ (K : PySem.W.Frag) : R2 := fun x y H Q => ∃ a b xs ys, x = .ref a ∧ y = .ref b ∧ SqL K H a xs ∧ SqL K H b ys ∧ xs.length + ys.length ≤ sizeLine ∧ NwL (xs ++ ys) H Q
theorem op_catQ {X : Cx} : OpR X (binaryOp .Add) (rCatQ X.K) := by
  intro pins s σ H x y v u Q I rx ry h
  obtain ⟨a, b, xs, ys, rfl, rfl, ha, hb, hz, q⟩ := h
  cases rx
  cases ry
  obtain ⟨its, r, p1, z1⟩ := I.list ha
  obtain ⟨its2, r2, p2, z2⟩ := I.list hb
  have hl1 := r.length
  have hl2 := r2.length
  obtain ⟨⟨cls, dd, data, sl⟩, ho, hc, n, hd⟩ := p1.isList
  obtain ⟨⟨cls2, dd2, data2, sl2⟩, ho2, hc2, n2, hd2⟩ := p2.isList
  simp only at hc hd hc2 hd2
  subst hc hd hc2 hd2
  have e : its.toArray ++ its2.toArray = (its ++ its2).toArray := by simp
  refine concat_meets ⟨_, ho, rfl⟩ ⟨_, ho2, rfl⟩ noFill_list_add seq_list_add PySem.F.slot_list_add PySem.F.entry_list_add (PySem.F.args_list_add_2 _ _) (list_addW a b its.toArray its2.toArray n n2 dd dd2 sl sl2 (by rw [List.size_toArray, List.size_toArray]; omega)) ⟨ho, ho2, ?_⟩
  rw [e]
  exact ⟨.ref _, _, I.lnew (t' := s.toks) (r.append r2) (by rw [List.length_append]; omega), rfl, q _ I.fresh⟩
def rSlQ (K : PySem.W.Frag) : V → Option Int → Option Int → Hp → VK → Prop := fun x lo hi H Q => ∃ a xs, x = .ref a ∧ SqL K H a xs ∧ NwL (cutV xs lo hi) H Q
theorem sl_Q {X : Cx} : SlR X (rSlQ X.K) := sl_list
/-- l[lo:hi] -/
def cutL {α : Type} (l : List α) (lo hi : Option Int) : List α := (l.drop (HT.sIx l.length 0 lo)).take (HT.sIx l.length l.length hi - HT.sIx l.length 0 lo)
mutual
/-- as the library's data -/
def pyD : D → PyData
  | .non => .none | .bl b => .bool b | .int i => .int i | .str x => .str x | .lst ds => .list (pyDs ds) | .tup ds => .tuple (pyDs ds) | .dic _ => .dict [] | .obj _ _ => .dict []
def pyDs : List D → List PyData
  | [] => []
  | d :: ds => pyD d :: pyDs ds
end
mutual
/-- no dict within -/
def flatD : D → Bool
  | .lst ds => flatDs ds | .tup ds => flatDs ds | .dic _ => false | .obj _ _ => false | _ => true
def flatDs : List D → Bool
  | [] => true
  | d :: ds => flatD d && flatDs ds
end
/-- == of data -/
def eqD (a b : D) : Bool := PyData.eqv (pyD a) (pyD b)
section
variable {K : PySem.W.Frag} {B B' H H' : Hp}
mutual
theorem Rep.dp (w : Ex B H) : ∀ {v : V} {d : D}, Rep K B v d → flatD d = true → Dp K H v (pyD d)
  | _, _, .non, _ => .non
  | _, _, .bl b, _ => .bl b
  | _, _, .int i, _ => .int i
  | _, _, .str x, _ => .str x
  | _, _, .lst h r, f => .lst (w.l h) (RepL.dp w r f)
  | _, _, .tup h r, f => .tup (w.t h) (RepL.dp w r f)
  | _, _, .dic h r, f => nomatch f
  | _, _, .obj h k r, f => nomatch f
theorem RepL.dp (w : Ex B H) : ∀ {vs : List V} {ds : List D}, RepL K B vs ds → flatDs ds = true → DpAll K H vs (pyDs ds)
  | _, _, .nil, _ => .nil
  | _, _, .cons h t, f => by
    have f' : (flatD _ && flatDs _) = true := f
    rw [Bool.and_eq_true] at f'
    exact .cons (Rep.dp w h f'.1) (RepL.dp w t f'.2)
end
variable {σ : L2.St} {Q : VK} {x y v : V} {d e : D} {p q : Addr} {xs ys : List V} {i j k : Int} {tc te ta tb : TE} {lo hi : Option Int} {to tu : TO}
/-- what may be compared by == here -/
def okEq (d e : D) : Prop := flatD d = true ∧ flatD e = true ∧ SeqAt.shaped (pyD d) = true ∧ SeqAt.shaped (pyD e) = true
instance (d e : D) : Decidable (okEq d e) := by unfold okEq; infer_instance
theorem h_eqD (w : Ex B H) (rx : Rep K B x d) (ry : Rep K B y e) (o : okEq d e) (h : Q (.bl (eqD d e)) H) : rEqD K x y H Q := ⟨_, _, rx.dp w o.1, ry.dp w o.2.1, o.2.2.1, o.2.2.2, h⟩
theorem h_neD (w : Ex B H) (rx : Rep K B x d) (ry : Rep K B y e) (o : okEq d e) (h : Q (.bl (!eqD d e)) H) : rNeD K x y H Q := ⟨_, _, rx.dp w o.1, ry.dp w o.2.1, o.2.2.1, o.2.2.2, h⟩
theorem h_cat (s1 : SqL K H p xs) (s2 : SqL K H q ys) (hz : xs.length + ys.length ≤ sizeLine) (h : NwL (xs ++ ys) H Q) : rCatQ K (.ref p) (.ref q) H Q := ⟨p, q, xs, ys, rfl, rfl, s1, s2, hz, h⟩
theorem RepL.cat {α : Type} [Enc α] {l l2 : List α} (r : RepL K B xs (l.map enc)) (r2 : RepL K B ys (l2.map enc)) : RepL K B (xs ++ ys) ((l ++ l2).map enc) := by
  rw [List.map_append]; exact r.append r2
theorem RepL.take : ∀ {vs : List V} {ds : List D} (n : Nat), RepL K B vs ds → RepL K B (vs.take n) (ds.take n)
  | _, _, 0, _ => .nil
  | _, _, _ + 1, .nil => .nil
  | _, _, n + 1, .cons r t => .cons r (RepL.take n t)
theorem RepL.drop : ∀ {vs : List V} {ds : List D} (n : Nat), RepL K B vs ds → RepL K B (vs.drop n) (ds.drop n)
  | _, _, 0, r => r
  | _, _, _ + 1, .nil => .nil
  | _, _, n + 1, .cons _ t => RepL.drop n t
theorem RepL.cut {α : Type} [Enc α] {l : List α} (r : RepL K B xs (l.map enc)) (lo hi : Option Int) : RepL K B (cutV xs lo hi) ((cutL l lo hi).map enc) := by
  unfold cutV cutL
  rw [List.map_take, List.map_drop, r.length, List.length_map]
  exact (r.drop _).take _
theorem h_sl {r : V → Option Int → Option Int → Hp → VK → Prop} (h : te σ H fun x H1 => to σ H1 fun l H2 => tu σ H2 fun u H3 => r x l u H3 Q) : tSl r te to tu σ H Q := h
theorem h_part {N : Option Int → Hp → Prop} (h : te σ H fun x H1 => ∃ i, x = .int i ∧ N (some i) H1) : tPart te σ H N := h
theorem h_isI {f : Int → Prop} (h : f i) : ∃ j, V.int i = .int j ∧ f j := ⟨i, rfl, h⟩
theorem h_nopart {N : Option Int → Hp → Prop} (h : N none H) : tNoPart σ H N := h
theorem h_slQ (s : SqL K H p xs) (h : NwL (cutV xs lo hi) H Q) : rSlQ K (.ref p) lo hi H Q := ⟨p, xs, rfl, s, h⟩
theorem h_ch {g g' : Int → Int → Bool} (hc : ∀ Q : VK, Q (.int k) H → tc σ H Q) (h : Q (.bl (g i j && g' j k)) H) :
    rI0 (fun i j => .bl (g i j)) (.int i) (.int j) H (fun z H3 => ∃ c, z = .bl c ∧ (if c = true then tc σ H3 fun w' H4 => rI0 (fun i j => .bl (g' i j)) (.int j) w' H4 Q else Q (.bl false) H3)) := by
  refine ⟨i, j, rfl, rfl, g i j, rfl, ?_⟩
  cases e : g i j with
  | true =>
    refine h_iteT (hc _ ?_)
    rw [e, Bool.true_and] at h
    exact ⟨j, k, rfl, rfl, h⟩
  | false =>
    rw [e, Bool.false_and] at h
    exact h_iteF h
end
/-- f(k = v, ..) -/
def tCallK0 (sp : Sp) (gV : List V → List V) (E : XK) (tk : TA) : TE := fun σ H Q => tk σ H fun zs H2 => sp (gV zs) H2 Q E
theorem pe_callK0 {X : Cx} {CX : CXT} {k : Nat} {f : Addr} {fd : FuncData} {ps ks : List Str} {sp : Sp} {E : XK} {x : Str} {p pos : Pos} {kws : List Keyword} {tk : TA} {g : List Value → List Value → List Value} {gV : List V → List V → List V}
    (F : FnOk X.prog X.w X.K X.mg X.base CX k f fd ps sp) (hr : Room k X.A) (hg : Gl X x) (hm : X.mg x = some (.ref f)) (hk : PySem.W.keepIn X.K (.ref f) = true) (hb : KBinds X.K fd ps ks g gV) (hx : Passes CX X E)
    (hkw : PK X kws tk) (hall : (backToKw pos (keywordEach kws X.env)).all (·.1.isSome) = true := by rfl) (hks : (backToKw pos (keywordEach kws X.env)).filterMap (·.1) = ks := by rfl)
    (hdb : (x == ("__debug__" : Str)) = false := by decide)
    (hpl : ((backTo pos (starEach [] X.env)).any (·.1) || (backToKw pos (keywordEach kws X.env)).any (·.1.isNone)) = false := by rfl) :
    PE X (.Call (.Name x p) [] kws pos) (tCallK0 sp (gV []) E tk) := by
  refine ⟨fun pins s σ H Q I h => ?_⟩
  refine wpAny_Call_Name_kw (ld_glob I hg hm ?_ hdb)
  refine PySem.W.callWith_KW0 (h₀ := X.base) I.ok.mod.kin hk hall ?_ hpl
  refine thn (hkw.run pos pins s σ H _ I h) fun ws s2 ⟨zs, H2, I2, rz, q2⟩ => ⟨I2.kIn, ?_⟩
  rw [hks]
  exact run_fnk F hr hb hx I2 .nil rz q2
theorem h_callK0 {σ : L2.St} {H : Hp} {Q : VK} {sp : Sp} {gV : List V → List V} {E : XK} {tk : TA} (h : tk σ H fun zs H2 => sp (gV zs) H2 Q E) : tCallK0 sp gV E tk σ H Q := h
theorem h_callK {σ : L2.St} {H : Hp} {Q : VK} {sp : Sp} {gV : List V → List V → List V} {E : XK} {t tk : TA} (h : t σ H fun vs H1 => tk σ H1 fun zs H2 => sp (gV vs zs) H2 Q E) : tCallK sp gV E t tk σ H Q := h
theorem hu64_of {A : Around} {k : Nat} (hr : Room k A) : A.units + 64 < cLine := Nat.lt_of_le_of_lt (Nat.add_le_add_left (by decide : 64 ≤ 64) _) hr.units

/-! ### dicts as data -/
section
variable {K : PySem.W.Frag} {B H : Hp} {σ : L2.St} {Q : VK} {tk tv : TE} {v : V} {d : D} {i : Int} {p : Addr} {xs : List V}
theorem h_disp1I (hk : ∀ (H' : Hp) (Q : VK), Q (.int i) H' → tk σ H' Q) (hv : ∀ (H' : Hp) (Q : VK), Q v H' → tv σ H' Q) (w : Ex B H) (rv : Rep K B v d)
    (h : ∀ p B' H', Stp [] B H B' H' → Rep K B' (.ref p) (.dic [(.inl i, d)]) → Q (.ref p) H') : tDisp [(tk, tv)] σ H Q := fun p hp => by
  show tk σ (upd H p (.dK [])) _
  refine hk _ _ (hv _ _ ⟨upd_same, [(.inl i, v)], rfl, (by show 1 ≤ 15; decide), ?_⟩)
  rw [upd_upd]
  have hb := w.none hp
  exact h p _ _ (Stp.new w hp) (.dic upd_same (.cons (rv.mono (Ex.new hb)) .nil))
theorem h_dnew (w : Ex B H) (h : ∀ p B' H', Stp [] B H B' H' → Rep K B' (.ref p) (.dic []) → Q (.ref p) H') : tDNewK σ H Q := fun p hp => h p _ _ (Stp.new w hp) (.dic upd_same .nil)
def rDictP (K : PySem.W.Frag) : List V → Hp → VK → Prop := fun xs H Q => ∃ (a : Addr) (ps : List Addr) (kvs : List (Key × V)), xs = [.ref a] ∧ SqL K H a (ps.map V.ref) ∧ Paired (fun p kv => SqT K H p [kV kv.1, kv.2]) ps kvs ∧
    ∀ p, H p = none → Q (.ref p) (upd H p (.dK (mergeK [] kvs)))
theorem cr_dict {X : Cx} (hc : X.calm = true) : CallR X (.type "dict") (rDictP X.K) := call_dictP hc
def vD : V → D
  | .int i => .int i | .bl b => .bl b | .str x => .str x | _ => .non
/-- dict(pairs of ints), as data -/
def dictI (l : List (Tp2 Int Int)) : List (Key × D) := (mergeK [] (l.map fun t => ((Sum.inl t.a : Key), V.int t.b))).map fun kv => (kv.1, vD kv.2)
theorem putK_ints {kvs : List (Key × V)} {k : Key} {j : Int} (h : ∀ kv ∈ kvs, ∃ i, kv.2 = V.int i) : ∀ kv ∈ putK kvs k (V.int j), ∃ i, kv.2 = V.int i := by
  intro kv m
  unfold putK at m
  split at m
  · obtain ⟨q, hq, e⟩ := List.mem_map.mp m
    rw [← e]
    split
    · exact ⟨j, rfl⟩
    · exact h q hq
  · rcases List.mem_append.mp m with m | m
    · exact h kv m
    · rw [List.mem_singleton.mp m]; exact ⟨j, rfl⟩
theorem merge_ints : ∀ {l : List (Tp2 Int Int)} {acc : List (Key × V)}, (∀ kv ∈ acc, ∃ i, kv.2 = V.int i) → ∀ kv ∈ mergeK acc (l.map fun t => ((Sum.inl t.a : Key), V.int t.b)), ∃ i, kv.2 = V.int i
  | [], _, h => h
  | t :: r, acc, h => merge_ints (l := r) (putK_ints h)
theorem RepK.ints : ∀ {kvs : List (Key × V)}, (∀ kv ∈ kvs, ∃ i, kv.2 = V.int i) → RepK K B kvs (kvs.map fun kv => (kv.1, vD kv.2))
  | [], _ => .nil
  | (k, v) :: r, h => by
    obtain ⟨i, e⟩ := h (k, v) List.mem_cons_self
    have e' : v = V.int i := e
    subst e'
    exact .cons (.int i) (RepK.ints fun kv m => h kv (List.mem_cons_of_mem _ m))
theorem pairs_D (w : Ex B H) : ∀ {xs : List V} {l : List (Tp2 Int Int)}, RepL K B xs (l.map enc) → ∃ ps : List Addr, xs = ps.map V.ref ∧ Paired (fun p (kv : Key × V) => SqT K H p [kV kv.1, kv.2]) ps (l.map fun t => ((Sum.inl t.a : Key), V.int t.b))
  | [], [], _ => ⟨[], rfl, .nil⟩
  | _ :: _, [], r => nomatch r
  | [], _ :: _, r => nomatch r
  | v :: vs, t :: l, r => by
    cases r with
    | cons h q =>
      obtain ⟨ps, e, pr⟩ := pairs_D w q
      obtain ⟨p, ys, rfl, hs, hr⟩ := Rep.st w (show Rep K B v (.tup [enc t.a, enc t.b]) from h)
      cases hr with
      | cons h1 t1 =>
        cases t1 with
        | cons h2 t2 =>
          cases t2
          cases h1
          cases h2
          exact ⟨p :: ps, by rw [e]; rfl, .cons hs pr⟩
theorem h_dictP {l : List (Tp2 Int Int)} (w : Ex B H) (s : SqL K H p xs) (r : RepL K B xs (l.map enc)) (h : ∀ p B' H', Stp [] B H B' H' → Rep K B' (.ref p) (.dic (dictI l)) → Q (.ref p) H') : rDictP K [.ref p] H Q := by
  obtain ⟨ps, e, pr⟩ := pairs_D w r
  subst e
  exact ⟨p, ps, _, rfl, s, pr, fun q hq => h q _ _ (Stp.new w hq) (.dic upd_same (RepK.ints (merge_ints fun _ m => nomatch m)))⟩
end
theorem RepL.toD {K : PySem.W.Frag} {B : Hp} {α : Type} [Enc α] {xs : List V} {l : List α} (r : RepL K B xs (l.map enc)) : RepL K B xs ((l.map enc : List D).map enc) := by
  have e : (l.map enc : List D).map enc = l.map enc := List.map_id' _
  rw [e]; exact r
/-- a thing that is an int -/
def asI (d : D) : Res Int := match d with | .int i => .ok i | _ => .stuck
theorem Post.asI {β : Type} {d : D} {k : Int → Res β} {P : β → Prop} {R : Err → Prop} (h : Post ((Y.asI d).bind k) P R) : ∃ i, d = .int i ∧ Post (k i) P R := by
  cases d with
  | int i => exact ⟨i, rfl, h⟩
  | _ => exact h.elim
/-- a pair taken apart -/
def un2 {α β γ : Type} (k : α → β → γ) (p : α × β) : γ := k p.1 p.2
theorem Post.un2 {α β γ : Type} {k : α → β → Res γ} {a : α} {b : β} {P : γ → Prop} {R : Err → Prop} (h : Post (Y.un2 k (a, b)) P R) : Post (k a b) P R := h
/-- a thing that is a list | a tuple -/
def asL (d : D) : Res (List D) := match d with | .lst l => .ok l | _ => .stuck
def asT (d : D) : Res (List D) := match d with | .tup l => .ok l | _ => .stuck
theorem enc_Ds (l : List D) : (l.map enc : List D) = l := List.map_id' _
theorem Post.asL {β : Type} {d : D} {k : List D → Res β} {P : β → Prop} {R : Err → Prop} (h : Post ((Y.asL d).bind k) P R) : ∃ l : List D, d = .lst (l.map enc) ∧ Post (k l) P R := by
  cases d with
  | lst l => exact ⟨l, by rw [enc_Ds], h⟩
  | _ => exact h.elim
theorem Post.asT {β : Type} {d : D} {k : List D → Res β} {P : β → Prop} {R : Err → Prop} (h : Post ((Y.asT d).bind k) P R) : ∃ l : List D, d = .tup (l.map enc) ∧ Post (k l) P R := by
  cases d with
  | tup l => exact ⟨l, by rw [enc_Ds], h⟩
  | _ => exact h.elim
section
variable {K : PySem.W.Frag} {B H : Hp} {Q : VK} {p : Addr} {xs : List V}
theorem RepL.bools : ∀ {xs : List V} {bs : List Bool}, RepL K B xs (bs.map enc) → xs = bs.map V.bl
  | [], [], _ => rfl
  | _ :: _, [], r => nomatch r
  | [], _ :: _, r => nomatch r
  | v :: vs, b :: bs, r => by
    cases r with
    | cons h t =>
      cases h
      rw [RepL.bools t]
      rfl
theorem RepL.intsV : ∀ {xs : List V} {bs : List Int}, RepL K B xs (bs.map enc) → xs = bs.map V.int
  | [], [], _ => rfl
  | _ :: _, [], r => nomatch r
  | [], _ :: _, r => nomatch r
  | v :: vs, b :: bs, r => by
    cases r with
    | cons h t =>
      cases h
      rw [RepL.intsV t]
      rfl
theorem h_all {bs : List Bool} (s : SqL K H p xs) (r : RepL K B xs (bs.map enc)) (h : Q (.bl (bs.all id)) H) : rAll K [.ref p] H Q := ⟨p, bs, rfl, by rw [← r.bools]; exact s, h⟩
theorem h_any {bs : List Bool} (s : SqL K H p xs) (r : RepL K B xs (bs.map enc)) (h : Q (.bl (bs.any id)) H) : rAny K [.ref p] H Q := ⟨p, bs, rfl, by rw [← r.bools]; exact s, h⟩
theorem h_sum {ns : List Int} (s : SqL K H p xs) (r : RepL K B xs (ns.map enc)) (h : Q (.int ns.sum) H) : rSum K [.ref p] H Q := ⟨p, ns, rfl, by rw [← r.intsV]; exact s, h⟩
end
/-! ### the top -/
/-- the law's promise -/
def spTop (K : PySem.W.Frag) : Sp := fun vs H Q _ => ∃ (a : Addr) (ns : List Int), vs = [.ref a] ∧ ns.length ≤ 63 ∧ SqL K H a (ns.map V.int) ∧ ∀ H', Q (.bl true) H'
theorem top_of {K : PySem.W.Frag} {m : List Int → Res Bool} (hm : ∀ ns : List Int, ns.length ≤ 63 → m ns = .ok true) {vs : List V} {H : Hp} {Q : VK} {E : XK} (h : spTop K vs H Q E) :
    ∃ (B : Hp) (v : V) (a : List Int), Ex B H ∧ vs = [v] ∧ Bor K B H [] v (a.map enc) ∧ Post (m a) (fun r => Ret K [] B H (enc r) Q) (fun _ => False) := by
  obtain ⟨a, ns, e, hl, hs, k⟩ := h
  refine ⟨H, .ref a, ns, Ex.refl H, e, ⟨a, _, rfl, ?_, RepL.ints ns⟩, ?_⟩
  · rcases hs with hs | hs
    · exact .inl ⟨hs, fun z => nomatch z⟩
    · exact .inr hs
  · rw [hm ns hl]
    refine ⟨fun v B' H' st r => ?_⟩
    cases r
    exact k H'
theorem walk_top {l : PySem.W.OpenLaw} {q : Program} {loose : List Str} {XP : (Str → Option Value) → Heap → Prop} {YP : World → Heap → Prop} {d : DefRec} {K : Params → PySem.W.Frag} {x : Str} {k : Nat} (hn : l.most = some 63) (hdf : d.params.defaults = [])
    (hr : Room k callerA) (hY : ∀ (w : World) (h : Heap), YP w h → (K w.params).In h)
    (F : ∀ (w : World) (mg : Str → Option Value) (fa : Addr) (h : Heap), (K w.params).In h → h.Ns mainGlobals mg → mg d.name = some (.ref fa) →
      ∃ fd : FuncData, (∀ (s : Shared) (u : Value), BindsTo s fd ⟨[u], []⟩ [(x, u)]) ∧ ∀ base : Heap, (K w.params).In base → base.Ns mainGlobals mg → FnOk l.prog w (K w.params) mg base CX0 k fa fd [x] (spTop (K w.params))) :
    PySem.W.WalkO q loose XP YP l.row.toRowW d [] (fun f vs => PySem.call f vs) :=
  L2.walk_of (n := 63) (k := k) (x := x) (CX := fun _ => CX0) (sp := fun w => spTop (K w.params)) hn (by decide) hdf hr hY F (fun _ _ a ns hl _ hS => ⟨a, ns, rfl, hl, hS, fun _ => rfl⟩) fun _ _ _ _ _ z => z
/-- how its arguments bind by keywords -/
theorem _root_.L2.Fun.kb {K : PySem.W.Frag} {x qual : Str} {st : Stmt} {f : Addr} {fd : FuncData} {ps ks : List Str} {g : List Value → List Value → List Value} {gV : List V → List V → List V} (F : Fun K x qual st f fd)
    (h : ∀ (kV doc pm : Value) (an : Option Addr) (cdv ct : Value) (us ws : List Value), (g us ws).length = ps.length → bindArgs (PySem.W.fnOf x qual (defArgs st) (defBody st) (defScope st) .none kV doc pm an cdv ct) ⟨us, ks.zip ws⟩ = pure (ps.zip (g us ws)))
    (r : ∀ {vs : List V} {us : List Value} {zs : List V} {ws : List Value}, Vals vs us → Vals zs ws → Vals (gV vs zs) (g us ws)) : KBinds K fd ps ks g gV := by
  obtain ⟨oc, od, kV, doc, pm, an, cdv, ct, osl, rfl, lk, hcd⟩ := F.ex
  exact ⟨fun s us ws _ hl => .of_eq (h kV doc pm an cdv ct us ws hl), r⟩

/-! ### while -/
def whileR {S R : Type} : Nat → S → (S → Res (Fl S R)) → Res (Fl S R)
  | 0, _, _ => .stuck
  | n + 1, s, g => (g s).bind fun r => match r with | .nx s' => whileR n s' g | r => .ok r
section
variable {K : PySem.W.Frag} {σ : L2.St} {H : Hp} {Q : VK} {tb t : TS} {c : TT} {D' : Ends} {S β : Type} {P : β → Prop} {E : Err → Prop}
theorem h_while {n : Nat} {s0 : S} {f : S → Res (Fl S β)} {k : S → Res β} (hP : Post ((whileR n s0 f).bind (afterR k)) P E) (J : S → L2.St → Hp → Prop) (h0 : J s0 σ H)
    (hb : ∀ (N : L2.St → Hp → Prop) (C : (L2.St → Hp → Prop) → Prop) (T : Fl S β → Prop) s σ' H', J s σ' H' → C N → (∀ s' σ2 H2, J s' σ2 H2 → T (.nx s') → N σ2 H2) → (∀ r, T (.rt r) → P r) → (∀ s' σ2 H2, J s' σ2 H2 → T (.bk s') → D'.nx σ2 H2) → Post (f s) T E →
      c σ' H' fun b H1 => if b = true then ∃ N, C N ∧ tb { D' with nx := N, ct := N, bk := D'.nx } σ' H1 else D'.nx σ' H1)
    (hd : ∀ s σ' H', J s σ' H' → Post (k s) P E → D'.nx σ' H') : tWhile c tb D' σ H := by
  refine ⟨fun m σ' H' => ∃ s, J s σ' H' ∧ Post (whileR m s f) (fun a => Post (afterR k a) P E) E, ⟨n, s0, h0, hP.bind⟩, ?_⟩
  rintro m σ' H' ⟨s, j, q⟩
  cases m with
  | zero => exact Post.elim q
  | succ m =>
    refine hb (fun σ2 H2 => ∃ s', J s' σ2 H2 ∧ Post (whileR m s' f) (fun a => Post (afterR k a) P E) E) (fun N => ∀ σ2 H2, N σ2 H2 → ∃ m', m' < m + 1 ∧ ∃ s, J s σ2 H2 ∧ Post (whileR m' s f) (fun a => Post (afterR k a) P E) E)
      (fun r => match r with | .nx s' => Post (whileR m s' f) (fun a => Post (afterR k a) P E) E | .rt r => Post (.ok r) P E | .bk s' => Post (k s') P E) s σ' H' j (fun σ2 H2 h => ⟨m, Nat.lt_succ_self m, h⟩)
      (fun s' σ2 H2 j2 t2 => ⟨s', j2, t2⟩) (fun r t2 => Post.ok t2) (fun s' σ2 H2 j2 t2 => hd s' σ2 H2 j2 t2) ?_
    refine (Post.bind q).mono (fun r q => ?_) fun _ q => q
    cases r with
    | nx s' => exact q
    | rt r => exact q.ok
    | bk s' => exact q.ok
theorem h_par {i j : Nat} {ta : TA} (h : ta σ H fun vs H1 => ∃ v w, vs = [v, w] ∧ D'.nx ((σ.set i (some v)).set j (some w)) H1) : tPar i j ta D' σ H := h
theorem h_two {N : V → V → Prop} {x y : V} (h : N x y) : ∃ v w, [x, y] = [v, w] ∧ N v w := ⟨x, y, rfl, h⟩

/-! ### errors -/
def tryR {α : Type} (m : Res α) (h : Err → Res α) : Res α := match m with | .ok a => .ok a | .err e => h e | .stuck => .stuck
theorem Post.tr {α : Type} {m : Res α} {h : Err → Res α} {P : α → Prop} {R : Err → Prop} (q : Post (tryR m h) P R) : Post m P (fun e => Post (h e) P R) := by
  obtain ⟨q⟩ := q
  refine ⟨?_⟩
  cases m
  · exact q
  · exact ⟨q⟩
  · exact q
theorem h_tryJ {m : Res (Fl S β)} {h : Err → Res (Fl S β)} {k : S → Res β} (hP : Post ((tryR m h).bind (afterR k)) P E) (J : S → L2.St → Hp → Prop)
    (h1 : ∀ (N : L2.St → Hp → Prop) (T : Fl S β → Prop), (∀ s σ' H', J s σ' H' → T (.nx s) → N σ' H') → (∀ r, T (.rt r) → P r) → Post m T (fun e => Post (h e) T E) → t { D' with nx := N } σ H)
    (h2 : ∀ s σ' H', J s σ' H' → Post (k s) P E → D'.nx σ' H') : t D' σ H := by
  refine h1 _ (fun a => Post (afterR k a) P E) (fun s σ' H' j q => h2 s σ' H' j q) (fun r q => (q : Post (.ok r) P E).ok) ?_
  exact (Post.bind hP).tr
/-- what the written part says of an error's class -/
structure ExcT (K : PySem.W.Frag) (mg : Str → Option Value) (nm : Str) (C : Addr) : Prop where
  g : mg nm = some (.ref C)
  ec : ExcC K C
  ty : PySem.W.typeIn K (.ref C) = some (.type "type")
  kp : PySem.W.keepIn K (.ref C) = true
  ve : PySem.W.subIn K (.ref C) (.type "ValueError") = some true
  is : PySem.W.isClsIn K C = true
  self : PySem.W.subIn K (.ref C) (.ref C) = some true
/-- an error that is raised with a text alone -/
structure ExcR (K : PySem.W.Frag) (mg : Str → Option Value) (nm : Str) (C : Addr) : Prop extends ExcT K mg nm C where
  ex : PySem.W.excIn K C [.type "ValueError", .type "Exception", .type "BaseException", .type "object"] "ValueError.__new__" = true
theorem ExcT.names {X : Cx} {nm : Str} {C : Addr} (T : ExcT X.K X.mg nm C) (hg : Gl X nm) (hd : (nm == ("__debug__" : Str)) = false) : Names X nm (.ref C) := ⟨hg, hd, .inl T.g⟩
theorem ExcT.exm {mg : Str → Option Value} {nm : Str} {C : Addr} (T : ExcT K mg nm C) {cls : Value} {b : Bool} (h : PySem.W.subIn K cls (.ref C) = some b) : PySem.W.exmOne K cls (.ref C) = some b := PySem.W.exm_ref T.ec.hs T.ec.hd T.ty h
theorem ExcT.kit {mg : Str → Option Value} {nm : Str} {C C2 : Addr} (T : ExcT K mg nm C) {b : Bool} (h : PySem.W.subIn K (.ref C2) (.ref C) = some b) : PySem.W.kitOne K (.ref C2) (.ref C) = some b := by
  unfold PySem.W.kitOne
  by_cases e : (Value.ref C2 == Value.ref C) = true
  · rw [if_pos e]
    have e2 : C2 = C := Value.ref.inj (beq_iff_eq.mp e)
    subst e2
    exact T.self.symm.trans h
  · rw [if_neg e]
    have h2 : (PySem.W.clsIn K C).isSome = true := T.is
    show (if ((PySem.W.clsIn K C).isSome && PySem.W.typeIn K (.ref C) == some (.type "type")) = true then PySem.W.subIn K (.ref C2) (.ref C) else none) = some b
    rw [if_pos (by rw [h2, T.ty] <;> rfl)]
    exact h
theorem ExcT.kitVE {mg : Str → Option Value} {nm : Str} {C : Addr} (T : ExcT K mg nm C) : PySem.W.kitOne K (.ref C) (.type "ValueError") = some true := by
  unfold PySem.W.kitOne
  rw [if_neg (by simp)]
  show (if PySem.W.kitMeta "ValueError" = true then PySem.W.subIn K (.ref C) (.type "ValueError") else none) = some true
  rw [if_pos (by decide +kernel)]
  exact T.ve
def tIsE (K : PySem.W.Frag) (a : Addr) (cls : Value) (d : Option Addr) (targs : TA) : TE := fun σ H Q => ∃ Dc, cls = .ref Dc ∧ d = none ∧ ExcC K Dc ∧ tCB (rIsE K Dc a) targs σ H Q
theorem pe_isE {X : Cx} {e : Expr} {a : Addr} {cls : Value} {d : Option Addr} {targs : TA} (hK : X.K = K) (h : ∀ Dc, cls = .ref Dc → d = none → ExcC K Dc → PE X e (tCB (rIsE K Dc a) targs)) : PE X e (tIsE K a cls d targs) :=
  ⟨fun pins s σ H Q I q => by
    obtain ⟨Dc, e1, e2, ec, q⟩ := q
    exact (h Dc e1 e2 ec).run pins s σ H Q I q⟩
theorem h_isE {a C : Addr} {targs : TA} {mg : Str → Option Value} {nm : Str} (T : ExcT K mg nm C) (h : targs σ H fun vs H1 => rIsE K C a vs H1 Q) : tIsE K a (.ref C) none targs σ H Q := ⟨C, rfl, rfl, T.ec, h⟩
theorem h_isER {a C C2 : Addr} {b : Bool} (h : PySem.W.kitOne K (.ref C) (.ref C2) = some b) (q : Q (.bl b) H) : rIsE K C a [.ref a, .ref C2] H Q := ⟨.ref C2, .ref C2, b, rfl, fun _ r => r, h, q⟩
theorem h_isEB {a C : Addr} {n : String} {b : Bool} (h : PySem.W.kitOne K (.ref C) (.type n) = some b) (q : Q (.bl b) H) : rIsE K C a [.ref a, .ty n] H Q := ⟨.ty n, .type n, b, rfl, fun _ r => r, h, q⟩
/-- the clause of a try meets the error -/
theorem h_wAs {C S' : Addr} {i : Nat} {ts : Addr → Value → Option Addr → TS} {Wout : WX} {mg : Str → Option Value} {nm : Str} (T : ExcT K mg nm S') (hs : PySem.W.subIn K (.ref C) (.ref S') = some true)
    (h : ∀ a, H a = none → ts a (.ref C) none { nx := fun σ' H' => D'.nx (σ'.set i none) H', rt := D'.rt, bk := fun σ' H' => D'.bk (σ'.set i none) H', ct := fun σ' H' => D'.ct (σ'.set i none) H' } (σ.set i (some (.ref a))) H) :
    wAs K (.ref S') i ts Wout D' (.ref C) none σ H := ⟨true, T.exm hs, fun _ a ha => h a ha, fun q => nomatch q⟩
theorem h_wOnly {C S' : Addr} {ts : Addr → Value → Option Addr → TS} {Wout : WX} {mg : Str → Option Value} {nm : Str} (T : ExcT K mg nm S') (hs : PySem.W.subIn K (.ref C) (.ref S') = some true)
    (h : ∀ a, H a = none → ts a (.ref C) none D' σ H) : wOnly K (.ref S') ts Wout D' (.ref C) none σ H := ⟨true, T.exm hs, fun _ a ha => h a ha, fun q => nomatch q⟩
end

/-! ### a try by its name -/
def tTryA (K : PySem.W.Frag) (c : Value) (i : Nat) (ts : Addr → Value → Option Addr → TS) (Wout : WX) (tb : WX → TS) : TS := fun D σ H => tb (wAs K c i ts Wout D) D σ H
def tTryO (K : PySem.W.Frag) (c : Value) (ts : Addr → Value → Option Addr → TS) (Wout : WX) (tb : WX → TS) : TS := fun D σ H => tb (wOnly K c ts Wout D) D σ H
section
variable {X : Cx} {n x : Str} {c : Value} {i : Nat} {body suite : List Stmt} {b₀ : Stmt} {np pos pos' : Pos} {tb : WX → TS} {ts : Addr → Value → Option Addr → TS} {Wout : WX} {D' : Ends} {σ : L2.St} {H : Hp} {K : PySem.W.Frag}
theorem ps_tryA (hs : X.stack = X.env :: X.outer) (hf : X.env.frame = some X.env.locals) (hN : X.N.Nodup) (hi : X.N[i]? = some n) (hln : X.env.kindOf n = some .local) (hc : Names X x c) (tk : Takes X Wout)
    (hb : ∀ (W : WX) (pn : List (Addr × Obj)) (xe : Value → Shared → Prop), Takes (X.tr pn xe) W → PassesOwn (model X.prog X.w) X.A X.env xe → PSs (X.tr pn xe) body (tb W))
    (hsu : ∀ (a : Addr) (oe : Obj) (cls : Value) (d : Option Addr) (pn : List (Addr × Obj)), Zc cls d oe → (∃ vs, oe.data = .fields vs) → PSs (X.suite a ((a, oe) :: pn)) (b₀ :: suite) (ts a cls d)) (hK : X.K = K := by rfl) :
    PS X (.Try body [.ExceptHandler (some (.Name x np)) (some n) (b₀ :: suite) pos'] [] [] pos) (tTryA K c i ts Wout tb) := hK ▸ ps_try_as hs hf hN hi hln hc tk hb hsu
theorem ps_tryO (hs : X.stack = X.env :: X.outer) (hf : X.env.frame = some X.env.locals) (hc : Names X x c) (tk : Takes X Wout)
    (hb : ∀ (W : WX) (pn : List (Addr × Obj)) (xe : Value → Shared → Prop), Takes (X.tr pn xe) W → PassesOwn (model X.prog X.w) X.A X.env xe → PSs (X.tr pn xe) body (tb W))
    (hsu : ∀ (a : Addr) (oe : Obj) (cls : Value) (d : Option Addr) (pn : List (Addr × Obj)), Zc cls d oe → (∃ vs, oe.data = .fields vs) → PSs (X.suite a ((a, oe) :: pn)) (b₀ :: suite) (ts a cls d)) (hK : X.K = K := by rfl) :
    PS X (.Try body [.ExceptHandler (some (.Name x np)) none (b₀ :: suite) pos'] [] [] pos) (tTryO K c ts Wout tb) := hK ▸ ps_try_only hs hf hc tk hb hsu
theorem h_tryA (h : tb (wAs K c i ts Wout D') D' σ H) : tTryA K c i ts Wout tb D' σ H := h
theorem h_tryO (h : tb (wOnly K c ts Wout D') D' σ H) : tTryO K c ts Wout tb D' σ H := h
end
theorem Post.mono2 {α : Type} {m : Res α} {P P' : α → Prop} {R R' : Err → Prop} (h : Post m P R) (hr : ∀ e, R e → R' e) (hp : ∀ a, P a → P' a) : Post m P' R' := h.mono hp hr
theorem boot_ValueError : bootBuiltins "ValueError" = some (.type "ValueError") := by decide +kernel
/-! ### things that are lists or tuples -/
def lenD (d : D) : Res Int := match d with | .lst l => .ok l.length | .tup l => .ok l.length | .str x => .ok x.length | _ => .stuck
section
variable {K : PySem.W.Frag} {B H : Hp} {Q : VK} {v : V} {d : D} {σ : L2.St} {g : TGs}
theorem Post.lenD {β : Type} {k : Int → Res β} {P : β → Prop} {R : Err → Prop} (h : Post ((Y.lenD d).bind k) P R) (hs : ∀ x, d ≠ .str x) : ∃ ds : List D, (d = .lst ds ∨ d = .tup ds) ∧ Post (k ds.length) P R := by
  cases d with
  | lst l => exact ⟨l, .inl rfl, h⟩
  | tup l => exact ⟨l, .inr rfl, h⟩
  | str x => exact absurd rfl (hs x)
  | _ => exact h.elim
theorem h_tupG {n : Nat} {p : Addr} {xs : List V} {N : L2.St → Hp → Prop} (s : SqT K H p xs) (hl : xs.length = n) (h : g xs σ H N) : gTup K n g (.ref p) σ H N := ⟨p, xs, rfl, s, hl, h⟩
theorem h_gcons {t : TG} {u : TGs} {x : V} {xs : List V} {N : L2.St → Hp → Prop} (h : t x σ H fun σ' H' => u xs σ' H' N) : gCons t u (x :: xs) σ H N := ⟨x, xs, rfl, h⟩
theorem h_gnil {N : L2.St → Hp → Prop} (h : N σ H) : gNil [] σ H N := ⟨rfl, h⟩
end

section
variable {K : PySem.W.Frag} {B H : Hp} {Q : VK} {p : Addr} {xs : List V} {d1 d2 d3 d4 d5 : D}
theorem h_lenTl {l : List D} (s : SqT K H p xs) (r : RepL K B xs (l.map enc)) (h : Q (.int l.length) H) : rLenY K [V.ref p] H Q := by
  refine ⟨p, xs, rfl, .inr s, ?_⟩
  rw [show xs.length = l.length from by rw [r.length, List.length_map]]
  exact h
theorem tup2 {x y : V} (hl : xs.length = 2) (h0 : atI xs 0 = some x) (h1 : atI xs 1 = some y) : xs = [x, y] := by
  match xs, hl with
  | [a, b], _ =>
    have e0 : a = x := Option.some.inj h0
    have e1 : b = y := Option.some.inj h1
    rw [e0, e1]
theorem tup3 {x y z : V} (hl : xs.length = 3) (h0 : atI xs 0 = some x) (h1 : atI xs 1 = some y) (h2 : atI xs 2 = some z) : xs = [x, y, z] := by
  match xs, hl with
  | [a, b, c], _ =>
    have e0 : a = x := Option.some.inj h0
    have e1 : b = y := Option.some.inj h1
    have e2 : c = z := Option.some.inj h2
    rw [e0, e1, e2]
theorem tup4 {x y z u : V} (hl : xs.length = 4) (h0 : atI xs 0 = some x) (h1 : atI xs 1 = some y) (h2 : atI xs 2 = some z) (h3 : atI xs 3 = some u) : xs = [x, y, z, u] := by
  match xs, hl with
  | [a, b, c, d], _ =>
    have e0 : a = x := Option.some.inj h0
    have e1 : b = y := Option.some.inj h1
    have e2 : c = z := Option.some.inj h2
    have e3 : d = u := Option.some.inj h3
    rw [e0, e1, e2, e3]
theorem RepL.open2 (r : RepL K B xs [d1, d2]) : ∃ u1 u2, xs = [u1, u2] ∧ Rep K B u1 d1 ∧ Rep K B u2 d2 := by
  cases r with | cons h1 r => cases r with | cons h2 r => cases r; exact ⟨_, _, rfl, h1, h2⟩
theorem RepL.open3 (r : RepL K B xs [d1, d2, d3]) : ∃ u1 u2 u3, xs = [u1, u2, u3] ∧ Rep K B u1 d1 ∧ Rep K B u2 d2 ∧ Rep K B u3 d3 := by
  cases r with | cons h1 r => cases r with | cons h2 r => cases r with | cons h3 r => cases r; exact ⟨_, _, _, rfl, h1, h2, h3⟩
theorem RepL.open4 (r : RepL K B xs [d1, d2, d3, d4]) : ∃ u1 u2 u3 u4, xs = [u1, u2, u3, u4] ∧ Rep K B u1 d1 ∧ Rep K B u2 d2 ∧ Rep K B u3 d3 ∧ Rep K B u4 d4 := by
  cases r with | cons h1 r => cases r with | cons h2 r => cases r with | cons h3 r => cases r with | cons h4 r => cases r; exact ⟨_, _, _, _, rfl, h1, h2, h3, h4⟩
end
/-! ### defs with defaults -/
structure FunV (K : PySem.W.Frag) (x qual : Str) (st : Stmt) (dv : List Value) (f : Addr) (fd : FuncData) : Prop where
  ex : ∃ (oc : Value) (od : Option Addr) (T : Addr) (o : Obj) (n : Nat) (kV doc pm : Value) (an : Option Addr) (cdv ct : Value) (osl : Array (Option Value)),
    fd = PySem.W.fnOf x qual (defArgs st) (defBody st) (defScope st) (.ref T) kV doc pm an cdv ct ∧ K.lookup f = some ⟨oc, od, .func fd, osl⟩ ∧ PySem.W.codeIn K cdv qual = true ∧ K.lookup T = some o ∧ o.data = .seq dv.toArray n
  kp : PySem.W.keepIn K (.ref f) = true
section
variable {P : Program} {w : World} {K : PySem.W.Frag} {mg : Str → Option Value} {base : Heap} {x qual : Str} {st : Stmt} {dv : List Value} {f : Addr} {fd : FuncData} {ps ks : List Str}
theorem funV_mk {oc : Value} {od an oT : Option Addr} {osl sT : Array (Option Value)} {kV doc pm cdv ct cT : Value} {T : Addr} {n : Nat} (l : K.lookup f = some ⟨oc, od, .func (PySem.W.fnOf x qual (defArgs st) (defBody st) (defScope st) (.ref T) kV doc pm an cdv ct), osl⟩)
    (c : PySem.W.codeIn K cdv qual = true) (k : PySem.W.keepIn K (.ref f) = true) (lT : K.lookup T = some ⟨cT, oT, .seq dv.toArray n, sT⟩) : FunV K x qual st dv f (PySem.W.fnOf x qual (defArgs st) (defBody st) (defScope st) (.ref T) kV doc pm an cdv ct) :=
  ⟨⟨oc, od, T, _, n, kV, doc, pm, an, cdv, ct, osl, rfl, l, c, lT, rfl⟩, k⟩
theorem FunV.okX {N : List Str} {k : Nat} {sp : Sp} (F : FunV K x qual st dv f fd) (S : FnScope N ps (defScope st)) (len : ∀ vs H Q E, sp vs H Q E → vs.length = ps.length)
    (hbody : ∀ (cdv : Value) (A : Around) (outer : List Env) (s : Shared) (H : Hp) (vs : List V) (Q : VK) (E : XK), Room k (A.deeper (envOfC qual (defScope st) s.heap.objs.size f cdv)) → sp vs H Q E →
      ∃ t, PSs (cxOf (L2.CX P w) P w K mg base N qual (defScope st) f cdv A outer s H E) (defBody st) t ∧ t { nx := fun _ H' => Q .non H', rt := Q } (start N vs) H) : FnOk P w K mg base (L2.CX P w) (k + 1) f fd ps sp := by
  obtain ⟨oc, od, T, o, n, kV, doc, pm, an, cdv, ct, osl, rfl, lk, hcd, _, _⟩ := F.ex
  exact fn_of lk hcd S len fun A outer s H vs Q E hr hsp => hbody cdv A outer s H vs Q E hr hsp
theorem FunV.ok {N : List Str} {k : Nat} {sp : Sp} (F : FunV K x qual st dv f fd) (S : FnScope N ps (defScope st)) (len : ∀ vs H Q E, sp vs H Q E → vs.length = ps.length)
    (hbody : ∀ (cdv : Value) (A : Around) (outer : List Env) (s : Shared) (H : Hp) (vs : List V) (Q : VK) (E : XK), Room k (A.deeper (envOfC qual (defScope st) s.heap.objs.size f cdv)) → sp vs H Q E →
      ∃ t, PSs (cxOf CX0 P w K mg base N qual (defScope st) f cdv A outer s H E).nox (defBody st) t ∧ t { nx := fun _ H' => Q .non H', rt := Q } (start N vs) H) : FnOk P w K mg base CX0 (k + 1) f fd ps sp := by
  obtain ⟨oc, od, T, o, n, kV, doc, pm, an, cdv, ct, osl, rfl, lk, hcd, _, _⟩ := F.ex
  refine fn_of lk hcd S len fun A outer s H vs Q E hr hsp => ?_
  obtain ⟨t, h, q⟩ := hbody cdv A outer s H vs Q E hr hsp
  exact ⟨t, h.nox, q⟩
/-- n values are written, the defaults behind the first j fill up -/
theorem FunV.binds (F : FunV K x qual st dv f fd) (n j : Nat) (hn : n + (dv.length - j) = ps.length)
    (h : ∀ (T : Addr) (kV doc pm : Value) (an : Option Addr) (cdv ct : Value) (us : List Value), us.length = n →
      ∃ k, bindArgs (PySem.W.fnOf x qual (defArgs st) (defBody st) (defScope st) (.ref T) kV doc pm an cdv ct) ⟨us, []⟩ = seqItems? (.ref T) >>= k ∧ k (some dv.toArray) = pure (ps.zip (us ++ dv.drop j))) : Binds K fd ps (dv.drop j) := by
  obtain ⟨oc, od, T, o, m, kV, doc, pm, an, cdv, ct, osl, rfl, lk, hcd, lT, oT⟩ := F.ex
  refine fun s us X hlen => ?_
  have l2 : us.length = n := by
    rw [List.length_append, List.length_drop] at hlen
    omega
  obtain ⟨k, e1, e2⟩ := h T kV doc pm an cdv ct us l2
  refine BindsTo.of_looks fun M => ?_
  rw [e1]
  exact looks_items X lT oT (.of_pure e2)
theorem FunV.kb {g : List Value → List Value → List Value} {gV : List V → List V → List V} (F : FunV K x qual st dv f fd)
    (h : ∀ (T : Addr) (kV doc pm : Value) (an : Option Addr) (cdv ct : Value) (us ws : List Value), (g us ws).length = ps.length → ∃ k, bindArgs (PySem.W.fnOf x qual (defArgs st) (defBody st) (defScope st) (.ref T) kV doc pm an cdv ct) ⟨us, ks.zip ws⟩ = seqItems? (.ref T) >>= k ∧ k (some dv.toArray) = pure (ps.zip (g us ws)))
    (r : ∀ {vs : List V} {us : List Value} {zs : List V} {ws : List Value}, Vals vs us → Vals zs ws → Vals (gV vs zs) (g us ws)) : KBinds K fd ps ks g gV := by
  obtain ⟨oc, od, T, o, m, kV, doc, pm, an, cdv, ct, osl, rfl, lk, hcd, lT, oT⟩ := F.ex
  refine ⟨fun s us ws X hl => ?_, r⟩
  obtain ⟨k, e1, e2⟩ := h T kV doc pm an cdv ct us ws hl
  refine BindsTo.of_looks fun M => ?_
  rw [e1]
  exact looks_items X lT oT (.of_pure e2)
end
/-! ### // by what may be negative -/
def CDivZ (_ j : Int) : Prop := j ≠ 0 ∧ j.natAbs.log2 < 9000
instance {i j : Int} : Decidable (CDivZ i j) := inferInstanceAs (Decidable (_ ∧ _))
theorem op_fdivZ {X : Cx} : OpR X (binaryOp .FloorDiv) (rI CDivZ fun i j => .int (Int.fdiv i j)) := opI fun i j _ _ _ _ _ hc q => floordiv_int hc.1 q (.inl (PyProof.noPylong_of_log2 hc.2))
/-! ### x is None -/
def isNonD : D → Bool | .non => true | _ => false
def rIsN : V → V → Hp → VK → Prop := fun x y H Q => y = .non ∧ Q (.bl (decide (x = .non))) H
def rNotN : V → V → Hp → VK → Prop := fun x y H Q => y = .non ∧ Q (.bl (!decide (x = .non))) H
theorem op_isNn {X : Cx} : OpR X (compareOp .Is) rIsN := op_isN
theorem op_notNn {X : Cx} : OpR X (compareOp .IsNot) rNotN := op_notN
section
variable {K : PySem.W.Frag} {B H : Hp} {Q : VK} {v : V} {d : D}
theorem Rep.isNon (r : Rep K B v d) : decide (v = .non) = isNonD d := by
  cases r <;> rfl
theorem h_isN (r : Rep K B v d) (h : Q (.bl (isNonD d)) H) : rIsN v .non H Q := ⟨rfl, by rw [r.isNon]; exact h⟩
theorem h_notN (r : Rep K B v d) (h : Q (.bl (!isNonD d)) H) : rNotN v .non H Q := ⟨rfl, by rw [r.isNon]; exact h⟩
end
/-! ### bool + bool, comparisons of lists, xs[::-1], xs.pop(i) -/
theorem int_add_bb (a b : Bool) : Gives (Builtin.«int.__add__» ⟨[.bool a, .bool b], []⟩) (.int ((if a = true then (1 : Int) else 0) + (if b = true then (1 : Int) else 0))) :=
  .of_wp fun M A E s Q h => by obtain ⟨hp, g, d, tk, os⟩ := s; wp_walk; exact ⟨_, rfl, h⟩
def rAddBB : V → V → Hp → VK → Prop := fun x y H Q => ∃ a b, x = .bl a ∧ y = .bl b ∧ Q (.int (b2z a + b2z b)) H
theorem op_addBB {X : Cx} : OpR X (binaryOp .Add) rAddBB := by
  intro pins s σ H x y v u Q I rx ry h
  obtain ⟨a, b, rfl, rfl, q⟩ := h
  cases rx
  cases ry
  exact binaryOp_gives (op := .Add) (T := "bool") rfl rfl F.fills_bool_add F.slot_bool_add F.entry_int_add (F.args_int_add_2 _ _) (int_add_bb a b) trivial ⟨.int (b2z a + b2z b), H, I.tok _, ⟨_, rfl⟩, q⟩
def rAddIB : V → V → Hp → VK → Prop := fun x y H Q => ∃ i k, x = .int i ∧ y = .bl k ∧ Q (.int (i + b2i k)) H
theorem op_addIB {X : Cx} : OpR X (binaryOp .Add) rAddIB := op_add_ib
section
variable {K : PySem.W.Frag} {B B' H H' : Hp} {σ : L2.St} {Q : VK} {x y v : V} {d e : D} {p q : Addr} {xs ys : List V} {te : TE}
theorem h_addBB {a b : Bool} (h : Q (.int (b2z a + b2z b)) H) : rAddBB (.bl a) (.bl b) H Q := ⟨a, b, rfl, rfl, h⟩
theorem h_addIB {i : Int} {k : Bool} (h : Q (.int (i + b2z k)) H) : rAddIB (.int i) (.bl k) H Q := ⟨i, k, rfl, rfl, by cases k <;> exact h⟩
/-- what may be compared as data -/
def Cmp (K : PySem.W.Frag) (H : Hp) (v : V) (d : D) : Prop := flatD d = true → Dp K H v (pyD d)
theorem Rep.cp (w : Ex B H) (r : Rep K B v d) : Cmp K H v d := r.dp w
theorem SqL.cp {ds : List D} (w : Ex B H) (s : SqL K H p xs) (r : RepL K B xs ds) : Cmp K H (.ref p) (.lst ds) := fun f => .lst s (RepL.dp w r f)
theorem h_eqC (rx : Cmp K H x d) (ry : Cmp K H y e) (o : okEq d e) (h : Q (.bl (eqD d e)) H) : rEqD K x y H Q := ⟨_, _, rx o.1, ry o.2.1, o.2.2.1, o.2.2.2, h⟩
theorem h_neC (rx : Cmp K H x d) (ry : Cmp K H y e) (o : okEq d e) (h : Q (.bl (!eqD d e)) H) : rNeD K x y H Q := ⟨_, _, rx o.1, ry o.2.1, o.2.2.1, o.2.2.2, h⟩
/-- xs[::-1] -/
theorem h_revL (h : te σ H fun x H1 => ∃ a xs, x = .ref a ∧ SqL K H1 a xs ∧ NwL xs.reverse H1 Q) : tRevL K te σ H Q := h
theorem h_revQ (s : SqL K H p xs) (h : NwL xs.reverse H Q) : ∃ a ys, V.ref p = .ref a ∧ SqL K H a ys ∧ NwL ys.reverse H Q := ⟨p, xs, rfl, s, h⟩
theorem RepL.rev0 : ∀ {xs : List V} {ds : List D}, RepL K B xs ds → RepL K B xs.reverse ds.reverse
  | _, _, .nil => .nil
  | _, _, .cons h t => by rw [List.reverse_cons, List.reverse_cons]; exact (RepL.rev0 t).append (.cons h .nil)
theorem RepL.rev {α : Type} [Enc α] {l : List α} (r : RepL K B xs (l.map enc)) : RepL K B xs.reverse (l.reverse.map enc) := by
  rw [List.map_reverse]
  exact RepL.rev0 r
theorem RepL.erase : ∀ {xs : List V} {ds : List D} (k : Nat), RepL K B xs ds → RepL K B (xs.eraseIdx k) (ds.eraseIdx k)
  | _, _, _, .nil => .nil
  | _, _, 0, .cons h t => t
  | _, _, k + 1, .cons h t => .cons h (RepL.erase k t)
theorem map_erase {α : Type} [Enc α] : ∀ (l : List α) (k : Nat), (l.eraseIdx k).map (enc : α → D) = (l.map enc).eraseIdx k
  | [], _ => rfl
  | _ :: _, 0 => rfl
  | x :: xs, k + 1 => congrArg (enc x :: ·) (map_erase xs k)
/-- l.pop(i), i from 0 on -/
def popR {α : Type} (l : List α) (i : Int) : Res (α × List α) := if 0 ≤ i ∧ i < (l.length : Int) ∧ l.length ≤ 1000000 then match l[i.toNat]? with | some x => .ok (x, l.eraseIdx i.toNat) | none => .stuck else .stuck
theorem Post.pop {α β : Type} {l : List α} {i : Int} {k : α × List α → Res β} {P : β → Prop} {R : Err → Prop} (h : Post ((popR l i).bind k) P R) : ∃ x, (0 ≤ i ∧ i < (l.length : Int) ∧ l.length ≤ 1000000) ∧ l[i.toNat]? = some x ∧ Post (k (x, l.eraseIdx i.toNat)) P R := by
  unfold popR at h
  by_cases c : 0 ≤ i ∧ i < (l.length : Int) ∧ l.length ≤ 1000000
  · rw [if_pos c] at h
    cases e : l[i.toNat]? with
    | none => rw [e] at h; exact h.elim
    | some x => rw [e] at h; exact ⟨x, c, rfl, h⟩
  · rw [if_neg c] at h; exact h.elim
theorem h_popL {α : Type} [Enc α] {l : List α} {i : Int} {b : α} (w : Ex B H) (m : Mu K B H p (l.map enc)) (hi : 0 ≤ i ∧ i < (l.length : Int) ∧ l.length ≤ 1000000) (hb : l[i.toNat]? = some b)
    (h : ∀ y H', Stp [p] B H B H' → Mu K B H' p ((l.eraseIdx i.toNat).map enc) → Rep K B y (enc b) → Q y H') : rPopAt (.ref p) [.int i] H Q := by
  obtain ⟨hb0, xs, hp, hr⟩ := id m
  have hl : xs.length = l.length := by rw [hr.length, List.length_map]
  obtain ⟨u, hu, ru⟩ := hr.get (i := i.toNat) (d := enc b) (by rw [List.getElem?_map, hb]; rfl)
  have rl : RepL K B (xs.eraseIdx i.toNat) ((l.eraseIdx i.toNat).map enc) := by
    rw [map_erase]
    exact RepL.erase _ hr
  refine ⟨p, xs, i, i.toNat, u, rfl, rfl, hp, by omega, by omega, ?_, hu, ?_⟩
  · unfold seqIndex?
    rw [hl]
    simp [show ¬ i < 0 from by omega, hi.1, hi.2.1]
  · obtain ⟨s, m'⟩ := Stp.mut w m rl
    exact h _ _ s m' ru
end
theorem pg_tupK {X : Cx} {pos : Pos} {es : List Expr} {k : Nat} {t : TGs} {n : Nat} {K : PySem.W.Frag} (hc : X.calm = true) (hK : X.K = K) (h : PGs X es t)
    (hn : (assignEach es X.env).length = n := by rfl) (hst : (assignEach es X.env).findIdx? (·.1) = none := by rfl) : PG X (.Tuple es k pos) (gTup K n t) := hK ▸ pg_tup hc h hn hst
/-! ### l * k, casts, constants -/
theorem list_mulW (l : Addr) (items : Array Value) (n : Nat) (dd : Option Addr) (sl : Array (Option Value)) (x : Int) (u : Tok) (hc0 : ¬(!Builtin.List.listFitsIndex x) = true) (hc1 : ¬items.size * x.toNat > (2 ^ 63 - 1) / 8) (hc2 : ¬Builtin.List.listTooLong (items.size * x.toNat) = true) :
    Meets (Builtin.«list.__mul__» ⟨[.ref l, .int x u], []⟩) (fun _ R s => s.heap.get? l = some { cls := .type "list", dict := dd, data := .seq items n, slots := sl } ∧ R (.ok (.ret (Value.ref s.heap.objs.size))) { s with heap := s.heap.push { cls := Value.type "list", data := Data.seq (List.foldl (fun x1 x2 => x1 ++ x2) #[] (List.replicate (if items.isEmpty = true then 0 else x.toNat) items)) }, toks := s.toks }) :=
  .of_wp fun prog w A R s h => by
    obtain ⟨hp, g, d, tk, os⟩ := s; obtain ⟨hl, h⟩ := h
    have hsz := PySem.AutoListH.joined_fits hc2
    wp_walk; refine wpAny_ite_false (decide_eq_false (Nat.not_lt.mpr hsz)) ?_; wp_walk; exact ⟨_, rfl, h⟩
theorem int_rmulW (a : Int) (t : Tok) (l : Addr) (items : Array Value) (n : Nat) (dd : Option Addr) (sl : Array (Option Value)) :
    Meets (Builtin.«int.__rmul__» ⟨[.int a t, .ref l], []⟩) (fun _ R s => s.heap.get? l = some { cls := .type "list", dict := dd, data := .seq items n, slots := sl } ∧ R (.ok (.ret Value.notImplemented)) s) :=
  .of_wp fun prog w A R s h => by obtain ⟨hp, g, d, tk, os⟩ := s; obtain ⟨hl, h⟩ := h; wp_walk; exact ⟨_, rfl, h⟩
def rRepQ (K : PySem.W.Frag) : R2 := fun x y H Q => ∃ l k xs, x = .ref l ∧ y = .int k ∧ SqL K H l xs ∧ -(2 ^ 63) ≤ k ∧ k < 2 ^ 63 ∧ xs.length * k.toNat ≤ sizeLine ∧ NwL (List.replicate k.toNat xs).flatten H Q
theorem op_repQ {X : Cx} : OpR X (binaryOp .Mult) (rRepQ X.K) := by
  intro pins s σ H x y v u Q I rx ry h
  obtain ⟨l, k, xs, rfl, rfl, hH, h1, h2, hz, q⟩ := h
  cases rx
  obtain ⟨t, rfl⟩ := ry
  obtain ⟨its, r, p1, z⟩ := I.list hH
  have hl := r.length
  obtain ⟨⟨cls, dd, data, sl⟩, e, hc, n, hd⟩ := p1.isList
  simp only at hc hd
  subst hc hd
  have hlen : its.toArray.size * k.toNat ≤ sizeLine := by rw [List.size_toArray, ← hl]; exact hz
  have hcap : ¬ its.toArray.size * k.toNat > (2 ^ 63 - 1) / 8 := by
    have : (sizeLine : Nat) ≤ (2 ^ 63 - 1) / 8 := by decide
    omega
  have hfit : ¬ (!Builtin.List.listFitsIndex k) = true := by
    rw [fitsIndex_both h1 h2]
    exact Bool.false_ne_true
  have hlong : ¬ Builtin.List.listTooLong (its.toArray.size * k.toNat) = true := by
    rw [notLongL hlen]
    exact Bool.false_ne_true
  have hnew : List.foldl (fun x1 x2 => x1 ++ x2) #[] (List.replicate (if its.toArray.isEmpty = true then 0 else k.toNat) its.toArray) = (List.replicate k.toNat its).flatten.toArray := by
    have f0 : ∀ m : Nat, List.foldl (fun x1 x2 => x1 ++ x2) #[] (List.replicate m its.toArray) = (List.replicate m its).flatten.toArray := fun m => by
      have := foldl_rep its m []
      rw [List.nil_append] at this
      exact this
    rw [f0]
    cases its with
    | nil => simp
    | cons a r' => rw [if_neg (by simp)]
  refine wpAny_binaryOp_repeat_ref (T := "list") (U := "int") (by decide) ⟨_, e, rfl⟩ (fun s' => typeIs_int s' k t) noFill_list_mul F.fills_int_mul F.slot_int_rmul repeat_list F.slot_int_index.lookup
    (call_meets F.slot_int_rmul (typeIs_int s k t) F.entry_int_rmul (F.args_int_rmul_2 _ _) (int_rmulW k t l its.toArray n dd sl)
      ⟨e, rfl, ⟨_, e, rfl⟩, call_meets F.slot_list_mul ⟨_, e, rfl⟩ F.entry_list_mul (F.args_list_mul_2 _ _) (list_mulW l its.toArray n dd sl k t hfit hcap hlong) ⟨e, ?_⟩⟩)
  rw [hnew]
  exact ⟨.ref _, _, I.lnew (t' := s.toks) (r.rep k.toNat) (by rw [PyProof.Rows.lm_len_rep_flat, Nat.mul_comm]; exact hz), rfl, q _ I.fresh⟩
section
variable {K : PySem.W.Frag} {B B' H H' : Hp} {σ : L2.St} {Q : VK} {x y v : V} {d e : D} {p q : Addr} {xs ys : List V} {te : TE}
theorem h_repQ {k : Int} {n : Nat} (s : SqL K H p xs) (hn : xs.length = n) (hz : n * k.toNat ≤ 1000000 ∧ -(2 ^ 62) ≤ k ∧ k < 2 ^ 62) (h : NwL (List.replicate k.toNat xs).flatten H Q) : rRepQ K (.ref p) (.int k) H Q :=
  ⟨p, k, xs, rfl, rfl, s, by omega, by omega, by rw [hn]; exact Nat.le_trans hz.1 (by decide), h⟩
theorem RepL.rep0 {ds : List D} (r : RepL K B xs ds) : ∀ k : Nat, RepL K B (List.replicate k xs).flatten (List.replicate k ds).flatten
  | 0 => .nil
  | k + 1 => by rw [List.replicate_succ, List.replicate_succ, List.flatten_cons, List.flatten_cons]; exact r.append (RepL.rep0 r k)
/-- l * k -/
def timesL {α : Type} (l : List α) (k : Int) : List α := (List.replicate k.toNat l).flatten
theorem RepL.times {α : Type} [Enc α] {l : List α} (r : RepL K B xs (l.map enc)) (k : Int) : RepL K B (List.replicate k.toNat xs).flatten ((timesL l k).map enc) := by
  have e : (timesL l k).map (enc : α → D) = (List.replicate k.toNat (l.map enc)).flatten := by
    unfold timesL
    rw [List.map_flatten, List.map_replicate]
  rw [e]
  exact r.rep0 _
/-- isinstance of a list that is only read, or of our own -/
theorem isiL {t : String} {l : List D} (s : SqL K H p xs) (q : Q (.bl (isA t (.lst l))) H) (ht : t ∈ ["bool", "int", "str", "list", "tuple", "dict"] := by simp) : rIsi K [.ref p, .ty t] H Q := by
  have ty : TyX K H (.ref p) (.type "list") := by
    rcases s with (h | ⟨o, h⟩) | ⟨o, its, n, h, hc, _⟩
    · exact .base (.lst h)
    · exact .base (.frz h)
    · exact .kList h hc
  exact ⟨.ref p, .ty t, _, .type t, isA t (.lst l), rfl, .ty t, ty, kit_ty (kit_tab _ (tyD_in (.lst l) rfl) _ ht), q⟩
end
/-! ### things read as what they are -/
class Dec (α : Type) [Enc α] where
  dec : D → Option α
  ok : ∀ d x, dec d = some x → d = enc x
instance : Dec D := ⟨fun d => some d, fun d x e => Option.some.inj e⟩
instance : Dec Int := ⟨fun d => match d with | .int i => some i | _ => none, fun d x e => by cases d <;> simp at e; rw [e]; rfl⟩
instance : Dec Bool := ⟨fun d => match d with | .bl i => some i | _ => none, fun d x e => by cases d <;> simp at e; rw [e]; rfl⟩
instance : Dec Str := ⟨fun d => match d with | .str i => some i | _ => none, fun d x e => by cases d <;> simp at e; rw [e]; rfl⟩
instance {α : Type} [Enc α] [Dec α] : Dec (Option α) := ⟨fun d => match d with | .non => some none | d => (Dec.dec d).map some, fun d x e => by
  cases d with
  | non => cases Option.some.inj e; rfl
  | _ => all_goals
    obtain ⟨y, e1, e2⟩ := Option.map_eq_some_iff.mp (show Option.map some _ = some x from e)
    rw [← e2]
    show _ = (enc y : D)
    exact Dec.ok _ _ e1⟩
instance {α β : Type} [Enc α] [Enc β] [Dec α] [Dec β] : Dec (Tp2 α β) := ⟨fun d => match d with | .tup [a, b] => (Dec.dec a).bind fun x => (Dec.dec b).bind fun y => some ⟨x, y⟩ | _ => none, fun d x e => by
  split at e
  · obtain ⟨u, e1, e⟩ := Option.bind_eq_some_iff.mp e
    obtain ⟨w, e2, e⟩ := Option.bind_eq_some_iff.mp e
    cases Option.some.inj e
    rw [Dec.ok _ _ e1, Dec.ok _ _ e2]
    rfl
  · cases e⟩
instance {α β γ : Type} [Enc α] [Enc β] [Enc γ] [Dec α] [Dec β] [Dec γ] : Dec (Tp3 α β γ) := ⟨fun d => match d with | .tup [a, b, c] => (Dec.dec a).bind fun x => (Dec.dec b).bind fun y => (Dec.dec c).bind fun z => some ⟨x, y, z⟩ | _ => none, fun d x e => by
  split at e
  · obtain ⟨u, e1, e⟩ := Option.bind_eq_some_iff.mp e
    obtain ⟨w, e2, e⟩ := Option.bind_eq_some_iff.mp e
    obtain ⟨w2, e3, e⟩ := Option.bind_eq_some_iff.mp e
    cases Option.some.inj e
    rw [Dec.ok _ _ e1, Dec.ok _ _ e2, Dec.ok _ _ e3]
    rfl
  · cases e⟩
def decs {α : Type} [Enc α] [Dec α] : List D → Option (List α)
  | [] => some []
  | d :: ds => (Dec.dec d).bind fun x => (decs ds).bind fun xs => some (x :: xs)
theorem decs_ok {α : Type} [Enc α] [Dec α] : ∀ (ds : List D) (l : List α), decs ds = some l → ds = l.map enc
  | [], l, e => by cases Option.some.inj e; rfl
  | d :: ds, l, e => by
    obtain ⟨u, e1, e⟩ := Option.bind_eq_some_iff.mp e
    obtain ⟨w, e2, e⟩ := Option.bind_eq_some_iff.mp e
    cases Option.some.inj e
    rw [Dec.ok _ _ e1, decs_ok _ _ e2]
    rfl
instance {α : Type} [Enc α] [Dec α] : Dec (List α) := ⟨fun d => match d with | .lst ds => decs ds | _ => none, fun d x e => by
  split at e
  · rw [decs_ok _ _ e]; rfl
  · cases e⟩
def asD (α : Type) [Enc α] [Dec α] (d : D) : Res α := match Dec.dec d with | some x => .ok x | none => .stuck
theorem Post.asD {α β : Type} [Enc α] [Dec α] {d : D} {k : α → Res β} {P : β → Prop} {R : Err → Prop} (h : Post ((Y.asD α d).bind k) P R) : ∃ x, d = enc x ∧ Post (k x) P R := by
  unfold Y.asD at h
  cases e : Dec.dec (α := α) d with
  | none => rw [e] at h; exact h.elim
  | some x => rw [e] at h; exact ⟨x, Dec.ok _ _ e, h⟩
/-- what is there -/
def someR {α : Type} (o : Option α) : Res α := match o with | some x => .ok x | none => .stuck
theorem Post.some {α β : Type} {o : Option α} {k : α → Res β} {P : β → Prop} {R : Err → Prop} (h : Post ((someR o).bind k) P R) : ∃ x, o = Option.some x ∧ Post (k x) P R := by
  cases o with
  | none => exact h.elim
  | some x => exact ⟨x, rfl, h⟩
/-- a constant of the module: data that is written out -/
structure CT {α : Type} [Enc α] (K : PySem.W.Frag) (mg : Str → Option Value) (nm : Str) (C : Addr) (x : α) : Prop where
  g : mg nm = Option.some (.ref C)
  rep : ∀ B, Rep K B (.ref C) (enc x)
/-! ### defs that hand a new list back; l.pop() -/
def RetF (K : PySem.W.Frag) (W : List Addr) (B H : Hp) (ds : List D) (Q : VK) : Prop := ∀ p B' H', Stp W B H B' H' → H p = none → Mu K B' H' p ds → Q (.ref p) H'
def RetMF (K : PySem.W.Frag) (q : Addr) (B H : Hp) (ds es : List D) (Q : VK) : Prop := ∀ p B' H', Stp [q] B H B' H' → H p = none → Mu K B' H' p ds → Mu K B' H' q es → Q (.ref p) H'
def popE {α : Type} (l : List α) : Res (α × List α) := match l[l.length - 1]? with | some x => .ok (x, l.dropLast) | none => .stuck
theorem Post.popE {α β : Type} {l : List α} {k : α × List α → Res β} {P : β → Prop} {R : Err → Prop} (h : Post ((Y.popE l).bind k) P R) : ∃ x, l[l.length - 1]? = Option.some x ∧ Post (k (x, l.dropLast)) P R := by
  unfold Y.popE at h
  cases e : l[l.length - 1]? with
  | none => rw [e] at h; exact h.elim
  | some x => rw [e] at h; exact ⟨x, rfl, h⟩
section
variable {K : PySem.W.Frag} {B H : Hp} {Q : VK} {p : Addr} {xs : List V}
theorem RepL.dropLast : ∀ {xs : List V} {ds : List D}, RepL K B xs ds → RepL K B xs.dropLast ds.dropLast
  | _, _, .nil => .nil
  | _, _, .cons _ .nil => .nil
  | _, _, .cons h (.cons h2 t) => .cons h (RepL.dropLast (.cons h2 t))
theorem h_popE {α : Type} [Enc α] {l : List α} {b : α} (w : Ex B H) (m : Mu K B H p (l.map enc)) (hb : l[l.length - 1]? = some b)
    (h : ∀ y H', Stp [p] B H B H' → Mu K B H' p (l.dropLast.map enc) → Rep K B y (enc b) → Q y H') : rPop (.ref p) [] H Q := by
  obtain ⟨hb0, xs, hp, hr⟩ := id m
  have hl : xs.length = l.length := by rw [hr.length, List.length_map]
  obtain ⟨u, hu, ru⟩ := hr.get (i := l.length - 1) (d := enc b) (by rw [List.getElem?_map, hb]; rfl)
  have rl : RepL K B xs.dropLast (l.dropLast.map enc) := by
    rw [List.map_dropLast]
    exact RepL.dropLast hr
  obtain ⟨s, m'⟩ := Stp.mut w m rl
  exact ⟨p, xs, u, rfl, rfl, hp, by rw [hl]; exact hu, h _ _ s m' ru⟩
end
end Y

set_option Elab.async false
set_option linter.all false
set_option maxRecDepth 100000
set_option maxHeartbeats 2000000
namespace Y
open PySem PySem.Spec PyProof.Rows
open L2
open Enc (enc)
/-! # more readings: max of two, insert, enumerate -/
theorem h_fr {t : TS} {D' : Ends} {σ σ' : L2.St} {H : Hp} (e : σ = σ') (h : t D' σ' H) : t D' σ H := by rw [e]; exact h
def maxI (i j : Int) : Int := if j > i then j else i
def rMaxY : List V → Hp → VK → Prop := fun xs H Q => ∃ i j, xs = [.int i, .int j] ∧ Q (.int (if j > i then j else i)) H
theorem cr_max {X : Cx} (hc : X.calm = true) : CallR X (.builtin "max") rMaxY := call_max2 hc
theorem h_max {i j : Int} {H : Hp} {Q : VK} (h : Q (.int (maxI i j)) H) : rMaxY [.int i, .int j] H Q := ⟨i, j, rfl, h⟩
def rInsY : V → List V → Hp → VK → Prop := fun x vs H Q => ∃ (l : Addr) (xs : List V) (i : Int) (y : V), x = .ref l ∧ vs = [.int i, y] ∧ H l = some (.lst xs) ∧ xs.length < sizeLine ∧ 0 ≤ i ∧ i < 2 ^ 63 ∧ Q .non (upd H l (.lst (xs.take i.toNat ++ [y] ++ xs.drop i.toNat)))
theorem mt_insY {X : Cx} : MtR X "list.insert" rInsY := mt_insert
def insL {α : Type} (l : List α) (i : Int) (b : α) : List α := l.take i.toNat ++ [b] ++ l.drop i.toNat
section
variable {K : PySem.W.Frag} {B B' H H' : Hp} {Q : VK} {p : Addr} {y : V} {i : Int}
theorem h_insert {α : Type} [Enc α] {l : List α} {b : α} (w : Ex B H) (m : Mu K B H p (l.map enc)) (ry : Rep K B y (enc b)) (hz : l.length < 1000000 ∧ 0 ≤ i ∧ i < 2 ^ 63) (h : ∀ H', Stp [p] B H B H' → Mu K B H' p ((insL l i b).map enc) → Q .non H') : rInsY (.ref p) [.int i, y] H Q := by
  obtain ⟨hb, xs, hp, hr⟩ := id m
  refine ⟨p, xs, i, y, rfl, rfl, hp, by rw [hr.length, List.length_map]; exact Nat.lt_of_lt_of_le hz.1 (by decide), hz.2.1, hz.2.2, ?_⟩
  have rl : RepL K B (xs.take i.toNat ++ [y] ++ xs.drop i.toNat) ((insL l i b).map enc) := by
    unfold insL
    rw [List.map_append, List.map_append, List.map_take, List.map_drop]
    exact ((hr.take _).append (.cons ry .nil)).append (hr.drop _)
  obtain ⟨s, m'⟩ := Stp.mut w m rl
  exact h _ s m'
end
/-- the things with their places -/
def enumL {α : Type} (l : List α) : List (Tp2 Int α) := l.mapIdx fun i x => ⟨(i : Int), x⟩
def En (K : PySem.W.Frag) (vs : List V) (g : TG) (tb : TS) (D' : Ends) (σ : L2.St) (H : Hp) : Prop := tFor (iEnum K (fun _ H Q => Q vs H)) g tb D' σ H
section
variable {K : PySem.W.Frag} {σ : L2.St} {B H : Hp} {p : Addr} {xs : List V} {tb : TS} {D' : Ends} {g : TG} {α β S : Type} {P : β → Prop} {R : Err → Prop}
theorem h_enumE {ta : TA} (h : ta σ H fun vs H1 => En K vs g tb D' σ H1) : tFor (iEnum K ta) g tb D' σ H := h
theorem h_forEn [Enc α] {l : List α} {s0 : S} {f : Tp2 Int α → S → Res (Fl S β)} {k : S → Res β} (hP : Post ((forR (enumL l) s0 f).bind (afterR k)) P R) (hs : SqL K H p xs) (hr : RepL K B xs (l.map enc))
    (J : S → L2.St → Hp → Prop) (h0 : J s0 σ H) (hl : ∀ s σ' H', J s σ' H' → SqL K H' p xs)
    (hb : ∀ (N : L2.St → Hp → Prop) (T : Fl S β → Prop) (x : Tp2 Int α) u s σ' H', J s σ' H' → Rep K B u (enc x.b) → (∀ s' σ2 H2, J s' σ2 H2 → T (.nx s') → N σ2 H2) → (∀ r, T (.rt r) → P r) → (∀ s' σ2 H2, J s' σ2 H2 → T (.bk s') → D'.nx σ2 H2) → Post (f x s) T R →
      NewT [.int x.a, u] H' fun v H1 => g v σ' H1 fun σ2 H2 => tb { D' with nx := N, ct := N, bk := D'.nx } σ2 H2)
    (hd : ∀ s σ' H', J s σ' H' → Post (k s) P R → D'.nx σ' H') : En K [.ref p] g tb D' σ H := by
  refine ⟨p, xs, rfl, hs, for_it (n := xs.length) walk_enum (fun i σ' H' => ∃ s, J s σ' H' ∧ Post (forR ((enumL l).drop i) s f) (fun a => Post (afterR k a) P R) R) ⟨s0, h0, hP.bind⟩ (fun i σ' H' _ ⟨s, j, _⟩ => hl s σ' H' j) ?_ ?_⟩
  · rintro i v σ' H' H2 hi ⟨s, j, q⟩ ⟨T, y1, y2, rfl, hT, rfl, h1, h2⟩
    cases Option.some.inj h1
    have hll : xs.length = l.length := by rw [hr.length, List.length_map]
    have hil : i < l.length := by omega
    have hx : (enumL l)[i]? = some ⟨(i : Int), l[i]⟩ := by
      unfold enumL
      rw [List.getElem?_mapIdx, List.getElem?_eq_getElem hil]
      rfl
    obtain ⟨u, hu, ru⟩ := hr.get (i := i) (d := enc l[i]) (by rw [List.getElem?_map, List.getElem?_eq_getElem hil]; rfl)
    have h2 : xs[i]? = some y2 := h2
    rw [h2] at hu; cases hu
    exact (hb _ _ ⟨(i : Int), l[i]⟩ y2 s σ' H' j ru (fun s' σ2 H2 j2 t2 => ⟨s', j2, t2⟩) (fun r t2 => (t2 : Post (.ok r) P R).ok) (fun s' σ2 H2 j2 t2 => hd s' σ2 H2 j2 t2) (q.turn hx)).2 T hT
  · rintro σ' H' ⟨s, j, q⟩
    exact hd s σ' H' j (q.forN (by unfold enumL; rw [List.length_mapIdx, hr.length, List.length_map]; exact Nat.le_refl _))
end
end Y

set_option Elab.async false
set_option linter.all false
set_option maxRecDepth 100000
set_option maxHeartbeats 4000000
namespace Y
open PySem PySem.Spec PyProof.Rows
open L2
/-! # a try whose clauses may each have a name -/
/-- a clause: what it names, the slot of its name, its suite's reading -/
structure Cl where
  c : Value
  nm : Option Nat
  ts : Addr → Value → Option Addr → TS
def Cl.ends (k : Cl) (D : Ends) : Ends := match k.nm with
  | none => D
  | some i => ⟨fun σ H => D.nx (σ.set i none) H, D.rt, fun σ H => D.bk (σ.set i none) H, fun σ H => D.ct (σ.set i none) H⟩
def Cl.slots (k : Cl) (σ : L2.St) (a : Addr) : L2.St := match k.nm with | none => σ | some i => σ.set i (some (.ref a))
def wMix (K : PySem.W.Frag) (Wout : WX) (D : Ends) : List Cl → WX
  | [] => Wout
  | k :: r => fun cls d σ H => ∃ b, PySem.W.exmOne K cls k.c = some b ∧ (b = true → ∀ a, H a = none → k.ts a cls d (k.ends D) (k.slots σ a) H) ∧ (b = false → wMix K Wout D r cls d σ H)
abbrev SuOk (X : Cx) (b₀ : Stmt) (su : List Stmt) (ts : Addr → Value → Option Addr → TS) : Prop :=
  ∀ (a : Addr) (oe : Obj) (cls : Value) (d : Option Addr) (pn : List (Addr × Obj)), Zc cls d oe → (∃ vs, oe.data = .fields vs) → PSs (X.suite a ((a, oe) :: pn)) (b₀ :: su) (ts a cls d)
inductive Mix (X : Cx) : List ExceptHandler → List Cl → Prop
  | nil : Mix X [] []
  | plain {x : Str} {c : Value} {ts : Addr → Value → Option Addr → TS} {b₀ : Stmt} {su : List Stmt} {p q : Pos} {hs : List ExceptHandler} {ks : List Cl}
      (hc : Names X x c) (hsu : SuOk X b₀ su ts) (r : Mix X hs ks) : Mix X (.ExceptHandler (some (.Name x p)) none (b₀ :: su) q :: hs) (⟨c, none, ts⟩ :: ks)
  | named {x n : Str} {i : Nat} {c : Value} {ts : Addr → Value → Option Addr → TS} {b₀ : Stmt} {su : List Stmt} {p q : Pos} {hs : List ExceptHandler} {ks : List Cl}
      (hN : X.N.Nodup) (hi : X.N[i]? = some n) (hl : X.env.kindOf n = some .local) (hc : Names X x c) (hsu : SuOk X b₀ su ts) (r : Mix X hs ks) : Mix X (.ExceptHandler (some (.Name x p)) (some n) (b₀ :: su) q :: hs) (⟨c, some i, ts⟩ :: ks)
/-- the exception is in flight here: what was known ahead of it -/
structure Fly (X : Cx) (a : Addr) (B : Heap) (sI s1 : Shared) (pins : List (Addr × Obj)) (σ : L2.St) (H : Hp) (cls : Value) (d : Option Addr) (h : Heap) : Prop where
  J : Inv X pins σ H sI
  nb : ∀ b o, sI.heap.get? b = some o → b ∉ frs X.stack → B.get? b = some o
  up : sI.heap.UpToSlots h
  na : H a = none
  os : s1.os = sI.os
  ag : AllBare s1.gens
  fl : HandSPX.FlyingZ B (X.env :: X.outer) a (Zc cls d) h
section
variable {X : Cx} {a : Addr} {B : Heap} {sI s1 : Shared} {pins : List (Addr × Obj)} {σ : L2.St} {H : Hp} {cls : Value} {d : Option Addr} {h : Heap}
theorem Fly.inv (F : Fly X a B sI s1 pins σ H cls d h) : Inv X pins σ H { s1 with heap := h } := F.J.landed F.nb F.fl.1 F.up F.os F.ag
theorem Fly.apart (F : Fly X a B sI s1 pins σ H cls d h) (hf : X.env.frame = some X.env.locals) (hs : X.stack = X.env :: X.outer) : a ≠ X.env.locals ∧ a ∉ X.fs := by
  obtain ⟨oe, vs, he, hz, hd⟩ := F.fl.there
  have key : ∀ e ∈ X.env :: X.outer, e.frame ≠ some a := fun e me q => by
    obtain ⟨_, o, ho, hn⟩ := F.fl.2.2.1.mem (List.mem_filterMap.mpr ⟨e, me, q⟩)
    rw [he] at ho
    cases ho
    exact hn _ hd
  exact ⟨fun z => key X.env List.mem_cons_self (by rw [hf, z]), fun m => by
    obtain ⟨e, me, q⟩ := List.mem_filterMap.mp m
    exact key e (List.mem_cons_of_mem _ me) q⟩
end
section
variable {X : Cx} {body : List Stmt} {h₀ : ExceptHandler} {hds : List ExceptHandler} {ks : List Cl} {pos : Pos} {tb : WX → TS} {Wout : WX}
/-- none of the clauses is right: it goes on -/
theorem fly_on {a : Addr} {B : Heap} {sI s1 : Shared} {pins : List (Addr × Obj)} {σ : L2.St} {H : Hp} {cls : Value} {d : Option Addr} {h : Heap} {Q : Flow → Shared → Prop} (hs : X.stack = X.env :: X.outer) (hf : X.env.frame = some X.env.locals) (tk : Takes X Wout)
    (F : Fly X a B sI s1 pins σ H cls d h) (w : Wout cls d σ H) : wpAny (model X.prog X.w) X.A (handleBy (.ref a) X.env []) Q X.xe { s1 with heap := h } := by
  apply wpAny_handleBy_nil
  have fl := F.fl
  obtain ⟨_, _, _, oe, vs, T, oT, tsl, he, hz, hd, h1, hr⟩ := fl
  have up1 : wpAny (model X.prog X.w) X.A (setFlight (.ref a) X.env.frame) (fun _ z => wpAny (model X.prog X.w) X.A (throw (.ref a) : Sem Flow) Q X.xe z) X.xe { s1 with heap := h } := by
    rw [hf]
    apply HandSPX.setFlight_upZ F.fl
    intro k hk uk
    apply wpAny_throw
    exact tk _ _ ⟨a, B, sI, pins, σ, H, cls, d, rfl, F.J, F.nb, F.up.trans uk, .inr (.inr (by rw [hs]; exact hk)), F.na, F.os, F.ag, w⟩
  unfold PySem.passOn
  apply wpAny_bind
  apply wpAny_field he hd h1
  rw [if_neg (show ¬ ((Value.ref T == Value.none) = true) from by simp)]
  first
    | exact wpAny_bind (wpAny_pure (wpAny_bind up1))
    | exact wpAny_bind up1
theorem fly_mix {a : Addr} {B : Heap} {sI s1 : Shared} {pins : List (Addr × Obj)} {σ : L2.St} {H : Hp} {cls : Value} {d : Option Addr} {h : Heap} {D : Ends} (hs : X.stack = X.env :: X.outer) (hf : X.env.frame = some X.env.locals) (tk : Takes X Wout) (ok : X.Ok)
    (F : Fly X a B sI s1 pins σ H cls d h) : ∀ {hds : List ExceptHandler} {ks : List Cl}, Mix X hds ks → wMix X.K Wout D ks cls d σ H → wpAny (model X.prog X.w) X.A (handleBy (.ref a) X.env hds) (SP X pins D) X.xe { s1 with heap := h } := by
  intro hds ks M
  obtain ⟨oe, vs, he, hz, hd⟩ := F.fl.there
  obtain ⟨nL, nF⟩ := F.apart hf hs
  have S := F.inv.suite he hd F.na nL nF
  have LT : PySem.W.Looks (model X.prog X.w) h (typeOf (.ref a)) cls := fun A Q E s k q => wpAny_typeOf_ref (k _ _ he) (by rw [hz.1]; exact q)
  have named : ∀ {x : Str} {c : Value} {np : Pos}, Names X x c → ∀ {Q E : Value → Shared → Prop}, Q c { s1 with heap := h } → wpAny (model X.prog X.w) (X.A.mark (some (.ref a))) (eval (.Name x np) X.env) Q E { s1 with heap := h } := by
    intro x c np hc Q E q
    rcases hc with ⟨g, db, g2 | ⟨g2, g3, g4⟩⟩
    · exact ld_glob (X := X.suite a ((a, oe) :: (X.pn ++ pins))) S g g2 q db
    · exact ld_blt (X := X.suite a ((a, oe) :: (X.pn ++ pins))) S g g2 g3 q g4 db
  induction M with
  | nil => exact fun w => fly_on hs hf tk F w
  | @plain x c ts b₀ su p q hs' ks' hc hsu r ih =>
    rintro ⟨b, hb, yes, no⟩
    apply wpAny_handleBy_cons (codeAny_handlers_test ?_) (by intro z; cases z)
    apply named hc
    apply (PySem.W.exm_one (M := model X.prog X.w) F.inv.kIn LT hb).here
    cases b
    · exact ih (no rfl)
    · apply codeAny_handlers_suite
      apply HandSPX.lands_againZ F.fl
      intro k fk uk
      have F' : Fly X a B sI s1 pins σ H cls d k := ⟨F.J, F.nb, F.up.trans uk, F.na, F.os, F.ag, fk⟩
      obtain ⟨oe', vs', he', hz', hd'⟩ := fk.there
      have S' := F'.inv.suite he' hd' F.na nL nF
      apply wpAny_mono ((hsu a oe' cls d (X.pn ++ pins) hz' ⟨_, hd'⟩).run [] _ _ H _ S' (yes rfl a F.na)) ?_ (fun _ _ z => z.elim)
      intro f t ht
      cases f <;> obtain ⟨σ6, ht⟩ := ht
      case ret => obtain ⟨σ7, H7, S7, r7, q7⟩ := ht; exact ⟨_, _, _, S7.unsuite ok, r7, q7⟩
      all_goals (obtain ⟨H6, S6, q6⟩ := ht; exact ⟨_, _, S6.unsuite ok, q6⟩)
  | @named x n i c ts b₀ su p q hs' ks' hN hi hl hc hsu r ih =>
    rintro ⟨b, hb, yes, no⟩
    apply wpAny_handleBy_cons (codeAny_handlers_test ?_) (by intro z; cases z)
    apply named hc
    apply (PySem.W.exm_one (M := model X.prog X.w) F.inv.kIn LT hb).here
    cases b
    · exact ih (no rfl)
    · apply codeAny_handlers_suite_as
      apply HandSPX.lands_againZ F.fl
      intro k fk uk
      have F' : Fly X a B sI s1 pins σ H cls d k := ⟨F.J, F.nb, F.up.trans uk, F.na, F.os, F.ag, fk⟩
      obtain ⟨oe', vs', he', hz', hd'⟩ := fk.there
      have S' := F'.inv.suite he' hd' F.na nL nF
      have hx : Loc X.env.scope n := .inl hl
      refine store_ok (X := X.suite a ((a, oe') :: (X.pn ++ pins))) (v := .ref a) S' hN hi hx rfl (fun t2 T2 => ?_) (.inr hl)
      apply wpAny_mono ((hsu a oe' cls d (X.pn ++ pins) hz' ⟨_, hd'⟩).run [] t2 _ H _ T2 (yes rfl a F.na)) ?_ (fun _ _ z => z.elim)
      intro f t ht
      have leave : ∀ {σ6 : L2.St} {H6 : Hp} {Q : Shared → Prop}, Inv (X.suite a ((a, oe') :: (X.pn ++ pins))) [] σ6 H6 t → (∀ t7, Inv X pins (σ6.set i none) H6 t7 → Q t7) →
          wpAny (model X.prog X.w) X.A (do bindName X.env n .none; unbindBehindTheSuite X.env n q) (fun _ t7 => Q t7) X.xe t := fun S6 hq => gone_ok (S6.unsuite ok) hN hi hl hq
      cases f <;> obtain ⟨σ6, ht⟩ := ht
      case ret => obtain ⟨σ7, H7, S7, r7, q7⟩ := ht; exact leave S7 fun t7 J7 => ⟨_, _, _, J7, r7, q7⟩
      all_goals (obtain ⟨H6, S6, q6⟩ := ht; exact leave S6 fun t7 J7 => ⟨_, _, J7, q6⟩)
def tTryM (K : PySem.W.Frag) (ks : List Cl) (Wout : WX) (tb : WX → TS) : TS := fun D σ H => tb (wMix K Wout D ks) D σ H
theorem ps_tryM {K : PySem.W.Frag} (hs : X.stack = X.env :: X.outer) (hf : X.env.frame = some X.env.locals) (tk : Takes X Wout)
    (hb : ∀ (W : WX) (pn : List (Addr × Obj)) (xe : Value → Shared → Prop), Takes (X.tr pn xe) W → PassesOwn (model X.prog X.w) X.A X.env xe → PSs (X.tr pn xe) body (tb W))
    (M : Mix X (h₀ :: hds) ks) (hK : X.K = K := by rfl) : PS X (.Try body (h₀ :: hds) [] [] pos) (tTryM K ks Wout tb) := by
  subst hK
  refine ⟨fun pins s σ H D I h => ?_⟩
  have ok := I.ok
  have hfr : X.A.frames = some (X.env :: X.outer) := by rw [ok.frames, hs]
  apply wpAny_Try_except
  refine wpAny_mono ((hb (wMix X.K Wout D ks) (X.pn ++ pins) _ ?_ PassesOwn.looking).run [] s σ H D (I.toTry _) h) ?_ (fun e t he => he)
  · intro u t xx
    obtain ⟨a, B, sI, pins', σ', H', cls, d, rfl, J', nb, up, sky, na, os, ag, w⟩ := xx
    rw [show (X.tr (X.pn ++ pins) _).stack = X.env :: X.outer from hs] at sky
    refine Sky.land Zc.steady hfr hf sky fun k fk uk => ?_
    exact fly_mix hs hf tk ok (D := D) ⟨J'.ofTry ok, nb, up.trans uk, na, os, ag, fk⟩ M w
  · intro f t ht
    cases f
    case ret => obtain ⟨v, σ', H', J', r, q⟩ := ht; exact ⟨v, σ', H', J'.ofTry ok, r, q⟩
    case next => obtain ⟨σ', H', J', q⟩ := ht; exact wpAny_execs_nil ⟨σ', H', J'.ofTry ok, q⟩
    all_goals (obtain ⟨σ', H', J', q⟩ := ht; exact ⟨σ', H', J'.ofTry ok, q⟩)
end

/-! ## isinstance of the exception, several classes -/
def rIsET (K : PySem.W.Frag) (D a : Addr) : List V → Hp → VK → Prop := fun xs H Q => ∃ (tp : Addr) (cs : List V) (us : List Value) (b : Bool), xs = [.ref a, .ref tp] ∧ H tp = some (.tup cs) ∧ Paired ClsV cs us ∧ PySem.W.kitAny K (.ref D) us = some b ∧ Q (.bl b) H
theorem call_isET {X : Cx} {a D : Addr} {oe : Obj} {pn : List (Addr × Obj)} (C : ExcC X.K D) (hz : Zc (.ref D) none oe) (hf : ∃ vs, oe.data = .fields vs) : CallR (X.suite a ((a, oe) :: pn)) (.builtin "isinstance") (rIsET X.K D a) := by
  rintro pins s σ H _ us Q I r ⟨tp, cs, ws, b, rfl, hT, k, e, q⟩
  obtain ⟨u1, u2, rfl, r1, r2⟩ := r.two
  cases (show u1 = Value.ref a from r1)
  cases (show u2 = Value.ref tp from r2)
  have hget := (I.pin (a, oe) (List.mem_append.mpr (.inl List.mem_cons_self))).1
  obtain ⟨vs, hv⟩ := hf
  obtain ⟨h1, h2⟩ := hz
  obtain ⟨c0, d0, dt0, sl0⟩ := oe
  dsimp only at h1 h2 hv
  subst h1 h2 hv
  have J : PySem.W.InstAt s.heap a ⟨.ref D, none, .fields vs, sl0⟩ D none := ⟨hget, rfl, rfl, trivial⟩
  obtain ⟨_, its, rv, o, g1, g2, n, g3⟩ := (show ObjOk X.prog X.w H s.heap tp (.tup cs) from I.hok tp _ hT)
  have e3 := ClsV.all k rv
  subst e3
  obtain ⟨oc, od, dt, sl⟩ := o
  dsimp only at g2 g3
  subst g2 g3
  exact PySem.W.kia_tup (PySem.W.handS_kitx_exc C.hg C.hk C.hs C.hd C.ha C.hn C.ht C.hm) I.kIn J g1 e (fun z => nomatch z) fun tk => ⟨.bl b, H, I.kept (t' := tk) fun _ _ z => z, rfl, q⟩
def tIsET (K : PySem.W.Frag) (a : Addr) (cls : Value) (d : Option Addr) (targs : TA) : TE := fun σ H Q => ∃ Dc, cls = .ref Dc ∧ d = none ∧ ExcC K Dc ∧ tCB (rIsET K Dc a) targs σ H Q
section
variable {K : PySem.W.Frag} {σ : L2.St} {B H : Hp} {Q : VK} {D' : Ends} {Wout : WX} {k : Cl} {r : List Cl} {mg : Str → Option Value} {nm : Str}
theorem pe_isET {X : Cx} {e : Expr} {a : Addr} {cls : Value} {d : Option Addr} {targs : TA} (hK : X.K = K) (h : ∀ Dc, cls = .ref Dc → d = none → ExcC K Dc → PE X e (tCB (rIsET K Dc a) targs)) : PE X e (tIsET K a cls d targs) :=
  ⟨fun pins s σ H Q I q => by
    obtain ⟨Dc, e1, e2, ec, q⟩ := q
    exact (h Dc e1 e2 ec).run pins s σ H Q I q⟩
theorem h_isET {a C : Addr} {targs : TA} (T : ExcT K mg nm C) (h : targs σ H fun vs H1 => rIsET K C a vs H1 Q) : tIsET K a (.ref C) none targs σ H Q := ⟨C, rfl, rfl, T.ec, h⟩
theorem kitA_nil {t : Value} : PySem.W.kitAny K t [] = some false := rfl
theorem kitA_f {t c : Value} {r : List Value} {b : Bool} (h : PySem.W.kitOne K t c = some false) (hr : PySem.W.kitAny K t r = some b) : PySem.W.kitAny K t (c :: r) = some b := by
  unfold PySem.W.kitAny
  rw [h]
  exact hr
theorem kitA_t {t c : Value} {r : List Value} (h : PySem.W.kitOne K t c = some true) : PySem.W.kitAny K t (c :: r) = some true := by
  unfold PySem.W.kitAny
  rw [h]
/-- a tuple of classes that was just laid -/
theorem h_clsTup {xs : List V} (w : Ex B H) (hn : xs.length ≤ sizeLine) (h : ∀ p, Stp [] B H B (upd H p (.tup xs)) → Q (.ref p) (upd H p (.tup xs))) : NewT xs H Q := ⟨hn, fun p hp => h p (Stp.newM w hp)⟩
theorem h_isETR {a C tp : Addr} {xs : List V} {us : List Value} {b : Bool} (hp : Paired ClsV xs us) (e : PySem.W.kitAny K (.ref C) us = some b) (q : Q (.bl b) (upd H tp (.tup xs))) : rIsET K C a [.ref a, .ref tp] (upd H tp (.tup xs)) Q := ⟨tp, xs, us, b, rfl, upd_same, hp, e, q⟩
/-- the clause meets the error -/
theorem h_mixHitA {C S' : Addr} {i : Nat} {ts : Addr → Value → Option Addr → TS} (T : ExcT K mg nm S') (hs : PySem.W.subIn K (.ref C) (.ref S') = some true)
    (h : ∀ a, H a = none → ts a (.ref C) none ⟨fun σ H => D'.nx (σ.set i none) H, D'.rt, fun σ H => D'.bk (σ.set i none) H, fun σ H => D'.ct (σ.set i none) H⟩ (σ.set i (some (.ref a))) H) : wMix K Wout D' (⟨.ref S', some i, ts⟩ :: r) (.ref C) none σ H :=
  ⟨true, T.exm hs, fun _ a ha => h a ha, fun q => nomatch q⟩
theorem h_mixHitO {C S' : Addr} {ts : Addr → Value → Option Addr → TS} (T : ExcT K mg nm S') (hs : PySem.W.subIn K (.ref C) (.ref S') = some true)
    (h : ∀ a, H a = none → ts a (.ref C) none D' σ H) : wMix K Wout D' (⟨.ref S', none, ts⟩ :: r) (.ref C) none σ H :=
  ⟨true, T.exm hs, fun _ a ha => h a ha, fun q => nomatch q⟩
theorem h_mixSkip {C S' : Addr} (hc : k.c = .ref S') (T : ExcT K mg nm S') (hs : PySem.W.subIn K (.ref C) (.ref S') = some false) (h : wMix K Wout D' r (.ref C) none σ H) : wMix K Wout D' (k :: r) (.ref C) none σ H :=
  ⟨false, by rw [hc]; exact T.exm hs, (fun q => nomatch q), fun _ => h⟩
theorem h_tryM {ks : List Cl} {tb : WX → TS} (h : tb (wMix K Wout D' ks) D' σ H) : tTryM K ks Wout tb D' σ H := h
end

/-! ## a list of lists of our own -/
def Raw (B H : Hp) (p : Addr) (xs : List V) : Prop := B p = none ∧ H p = some (.lst xs)
section
variable {K : PySem.W.Frag} {B B' H H' : Hp} {W : List Addr} {p q : Addr} {xs : List V} {Q : VK} {d e : D} {v u : V}
theorem Raw.step (m : Raw B H p xs) (s : Stp W B H B' H') (h : p ∉ W) : Raw B' H' p xs := ⟨s.nw p _ m.1 m.2, s.fr p _ h m.2⟩
theorem Raw.ne (m : Raw B H p xs) (h : H q = none) : p ≠ q := ne_of_none m.2 h
theorem Raw.kp {r : Addr} (m : Raw B H q xs) (_ : Ex B B') (k : ∀ q, q ≠ r → B q = none → B' q = none) (n : q ≠ r) : Raw B' H q xs := ⟨k q n m.1, m.2⟩
theorem Raw.sq (m : Raw B H p xs) : SqL K H p xs := SqL.of m.2
theorem h_newRaw (w : Ex B H) (hn : xs.length ≤ sizeLine) (h : ∀ p H', H p = none → Stp [] B H B H' → Raw B H' p xs → Q (.ref p) H') : NewL xs H Q := ⟨hn, fun p hp => h p _ hp (Stp.newM w hp) ⟨w.none hp, upd_same⟩⟩
theorem Cmp.pair (s : SqL K H p [v, u]) (h : Cmp K H v d) (h' : Cmp K H u e) : Cmp K H (.ref p) (.lst [d, e]) := fun f => by
  have f' : (flatD d && (flatD e && true)) = true := f
  simp only [Bool.and_true, Bool.and_eq_true] at f'
  exact .lst s (.cons (h f'.1) (.cons (h' f'.2) .nil))
end
end Y

/-! # a local name that holds a def -/
namespace Y
open PySem PySem.Spec PyProof.Rows
open L2
section
variable {X : Cx} {CX : CXT} {k : Nat} {f : Addr} {fd : FuncData} {ps : List Str} {sp : Sp} {dvs : List V} {ds : List Value} {E : L2.St → XK} {x : Str} {p pos : Pos} {e : Expr} {es : List Expr} {t tl : TA}
def tCallLS (i : Nat) (f : Addr) (sp : Sp) (dvs : List V) (E : L2.St → XK) (t : TA) : TE := fun σ H Q => σ[i]? = some (some (.ref f)) ∧ t σ H fun vs H1 => sp (vs ++ dvs) H1 Q (E σ)
theorem atOf {E : XK} (h : Passes CX X E) : ∀ σ, PassesAt CX X σ ((fun _ : L2.St => E) σ) := fun σ pins H s e s' I c => h pins σ H s e s' I c
theorem pe_callLS (i : Nat) (F : FnOk X.prog X.w X.K X.mg X.base CX k f fd ps sp) (hr : Room k X.A) (hk : PySem.W.keepIn X.K (.ref f) = true) (hb : L2.Binds X.K fd ps ds) (hd : Vals dvs ds) (hx : ∀ σ, PassesAt CX X σ (E σ)) (ha : PA X (e :: es) t)
    (hN : X.N[i]? = some x := by rfl) (hv : Vis X.env.scope x := by first | exact Or.inl rfl | exact Or.inr (Or.inl rfl) | exact Or.inr (Or.inr rfl))
    (hdb : (x == ("__debug__" : Str)) = false := by decide) (hcd : (x == ("__classdict__" : Str)) = false := by decide)
    (he : starEach (e :: es) X.env = (false, eval e X.env) :: starEach es X.env := by rfl) (hpl : (backTo pos (starEach es X.env)).any (·.1) = false := by rfl) : PE X (.Call (.Name x p) (e :: es) [] pos) (tCallLS i f sp dvs E t) := by
  refine ⟨fun pins s σ H Q I h => ?_⟩
  obtain ⟨hs, ht⟩ := h
  refine wpAny_Call_Name_kw (thn ((pe_var (pos := p) hN hv hdb hcd).run pins s σ H (fun v H1 => v = .ref f ∧ H1 = H) I ⟨.ref f, hs, rfl, rfl⟩) fun u s1 ⟨v, H1, I1, r1, q1⟩ => ?_)
  obtain ⟨rfl, rfl⟩ := q1
  cases r1
  refine PySem.W.callWith_K (h₀ := X.base) I.ok.mod.kin hk (thn (ha.run pos pins s1 σ _ _ I1 ht) fun us s2 ⟨vs, H2, I2, r, q⟩ => ⟨I2.kIn, ?_⟩) he hpl
  exact run_fnSD F hr hb hd (hx σ) I2 r q
theorem h_callLS {i : Nat} {σ : L2.St} {H : Hp} {Q : VK} (hs : σ[i]? = some (some (.ref f))) (h : tl σ H fun vs H1 => sp (vs ++ dvs) H1 Q (E σ)) : tCallLS i f sp dvs E tl σ H Q := ⟨hs, h⟩
end
end Y

set_option Elab.async false
set_option linter.all false
set_option maxRecDepth 100000
set_option maxHeartbeats 4000000
namespace Y
open PySem PySem.Spec PyProof.Rows
open L2
/-! # instances of the text's classes that stay as they are -/
/-- a class of the text, a name of the module -/
structure KI (K : PySem.W.Frag) (mg : Str → Option Value) (nm : Str) (C : Addr) : Prop extends KC K nm C where
  g : mg nm = some (.ref C)
  ty : PySem.W.typeIn K (.ref C) = some (.type "type")
  is : PySem.W.isClsIn K C = true
  self : PySem.W.subIn K (.ref C) (.ref C) = some true
theorem bt_of {K : PySem.W.Frag} {C : Addr} (a : PySem.W.subIn K (.ref C) (.type "bool") = some false) (b : PySem.W.subIn K (.ref C) (.type "int") = some false) (c : PySem.W.subIn K (.ref C) (.type "str") = some false)
    (d : PySem.W.subIn K (.ref C) (.type "list") = some false) (e : PySem.W.subIn K (.ref C) (.type "tuple") = some false) (f : PySem.W.subIn K (.ref C) (.type "dict") = some false) :
    ∀ t ∈ ["bool", "int", "str", "list", "tuple", "dict"], PySem.W.subIn K (.ref C) (.type t) = some false := by
  intro t ht
  simp only [List.mem_cons, List.not_mem_nil, or_false] at ht
  rcases ht with rfl | rfl | rfl | rfl | rfl | rfl
  · exact a
  · exact b
  · exact c
  · exact d
  · exact e
  · exact f
section
variable {K : PySem.W.Frag} {mg : Str → Option Value} {nm nm' f m : Str} {C C' C2 p dx : Addr} {B H B' H' : Hp} {fs : List (Str × V)} {ds : List (Str × D)} {d : D} {v : V} {Q : VK} {b : Bool} {σ : L2.St} {ta : TE} {tab : List (Str × Bool)}
theorem KC.uniq (k : KC K nm C) (k' : KC K nm C') : C = C' := by
  have := k.a.symm.trans k'.a
  cases this
  rfl
theorem KI.kit (T : KI K mg nm C) (h : PySem.W.subIn K (.ref C2) (.ref C) = some b) : PySem.W.kitOne K (.ref C2) (.ref C) = some b := by
  unfold PySem.W.kitOne
  by_cases e : (Value.ref C2 == Value.ref C) = true
  · rw [if_pos e]
    have e2 : C2 = C := Value.ref.inj (beq_iff_eq.mp e)
    subst e2
    exact T.self.symm.trans h
  · rw [if_neg e]
    have h2 : (PySem.W.clsIn K C).isSome = true := T.is
    show (if ((PySem.W.clsIn K C).isSome && PySem.W.typeIn K (.ref C) == some (.type "type")) = true then PySem.W.subIn K (.ref C2) (.ref C) else none) = some b
    rw [if_pos (by rw [h2, T.ty] <;> rfl)]
    exact h
theorem sub_bt (C : Addr) : ∀ s ∈ ["NoneType", "bool", "int", "str", "list", "tuple", "dict"], PySem.W.subIn K (.type s) (.ref C) = some false := by
  intro s hs
  simp only [List.mem_cons, List.not_mem_nil, or_false] at hs
  rcases hs with rfl | rfl | rfl | rfl | rfl | rfl | rfl <;> rfl
theorem KI.kitB (T : KI K mg nm C) {s : String} (hs : s ∈ ["NoneType", "bool", "int", "str", "list", "tuple", "dict"]) : PySem.W.kitOne K (.type s) (.ref C) = some false := by
  unfold PySem.W.kitOne
  rw [if_neg (by simp)]
  have h2 : (PySem.W.clsIn K C).isSome = true := T.is
  show (if ((PySem.W.clsIn K C).isSome && PySem.W.typeIn K (.ref C) == some (.type "type")) = true then PySem.W.subIn K (.type s) (.ref C) else none) = some false
  rw [if_pos (by rw [h2, T.ty] <;> rfl)]
  exact sub_bt C s hs
/-- isinstance(x, an own class): the classes that are known, and whether each is under it -/
def isCR (tab : List (Str × Bool)) (d : D) : Res Bool := match d with
  | .obj nm _ => (match tab.lookup nm with | some b => .ok b | none => .stuck)
  | _ => .ok false
theorem Post.isC {β : Type} {k : Bool → Res β} {P : β → Prop} {R : Err → Prop} (h : Post ((isCR tab d).bind k) P R) : ∃ b, isCR tab d = .ok b ∧ Post (k b) P R := by
  cases e : isCR tab d with
  | ok b => rw [e] at h; exact ⟨b, rfl, h⟩
  | err x =>
    cases d with
    | obj nm ds =>
      have e' : (match tab.lookup nm with | Option.some b => Res.ok b | Option.none => .stuck) = Res.err x := e
      cases q : tab.lookup nm <;> rw [q] at e' <;> exact nomatch e'
    | _ => exact nomatch e
  | stuck => rw [e] at h; exact h.elim
def TabOk (K : PySem.W.Frag) (C : Addr) : List (Str × Bool) → Prop
  | [] => True
  | (nm, b) :: r => (∃ C2, KC K nm C2 ∧ PySem.W.subIn K (.ref C2) (.ref C) = some b) ∧ TabOk K C r
theorem TabOk.get : ∀ {tab : List (Str × Bool)}, TabOk K C tab → tab.lookup nm = some b → ∃ C2, KC K nm C2 ∧ PySem.W.subIn K (.ref C2) (.ref C) = some b
  | [], _, e => nomatch e
  | (x, y) :: r, h, e => by
    have e' : (match nm == x with | true => some y | false => r.lookup nm) = some b := e
    by_cases q : (nm == x) = true
    · rw [q] at e'
      cases e'
      rw [beq_iff_eq.mp q]
      exact h.1
    · rw [Bool.eq_false_iff.mpr q] at e'
      exact TabOk.get h.2 e'
theorem h_isK (w : Ex B H) (r : Rep K B v d) (T : KI K mg nm C) (tb : TabOk K C tab) (e : isCR tab d = .ok b) (q : Q (.bl b) H) : rIsi K [v, .ref C] H Q := by
  by_cases hd : isObjD d = true
  · cases r with
    | @obj p C' dx nm' fs ds h k r =>
      have e' : (match tab.lookup nm' with | some b => Res.ok b | none => .stuck) = Res.ok b := e
      cases l : tab.lookup nm' with
      | none => rw [l] at e'; exact nomatch e'
      | some y =>
        rw [l] at e'
        cases e'
        obtain ⟨C2, k2, hs⟩ := tb.get l
        rw [k2.uniq k] at hs
        exact ⟨_, .ref C, .ref C', .ref C, b, rfl, .own C, k.tyx (w _ _ h), T.kit hs, q⟩
    | _ => exact nomatch hd
  · have hd := Bool.eq_false_iff.mpr hd
    have eb : b = false := by
      cases d with
      | obj nm ds => exact nomatch hd
      | _ => cases e; rfl
    subst eb
    exact ⟨v, .ref C, _, .ref C, false, rfl, .own C, r.ty w hd, T.kitB (tyD_in d hd), q⟩
theorem RepF.get : ∀ {fs : List (Str × V)} {ds : List (Str × D)}, RepF K B fs ds → ds.lookup f = some d → ∃ v, fs.lookup f = some v ∧ Rep K B v d
  | _, _, .nil, e => nomatch e
  | _, _, @RepF.cons _ _ k v d' vs ds h t, e => by
    have e' : (match f == k with | true => some d' | false => ds.lookup f) = some d := e
    show ∃ u, (match f == k with | true => some v | false => vs.lookup f) = some u ∧ _
    cases q : f == k with
    | true =>
      rw [q] at e'
      cases e'
      exact ⟨v, rfl, h⟩
    | false =>
      rw [q] at e'
      exact RepF.get t e'
theorem RepF.none : ∀ {fs : List (Str × V)} {ds : List (Str × D)}, RepF K B fs ds → ds.lookup f = Option.none → fs.lookup f = Option.none
  | _, _, .nil, _ => rfl
  | _, _, @RepF.cons _ _ k v d' vs ds h t, e => by
    have e' : (match f == k with | true => some d' | false => ds.lookup f) = Option.none := e
    show (match f == k with | true => some v | false => vs.lookup f) = Option.none
    cases q : f == k with
    | true => rw [q] at e'; exact nomatch e'
    | false =>
      rw [q] at e'
      exact RepF.none t e'
theorem Rep.ins (w : Ex B H) (r : Rep K B v (.obj nm ds)) (T : KC K nm C) : ∃ p dx fs, v = .ref p ∧ H p = some (.ins C dx fs) ∧ RepF K B fs ds := by
  cases r with
  | @obj p C' dx _ fs _ h k r =>
    have e := T.uniq k
    subst e
    exact ⟨p, dx, fs, rfl, w _ _ h, r⟩
/-! ### a field -/
def Fld (K : PySem.W.Frag) (f : Str) (x : V) (H : Hp) (Q : VK) : Prop := ∃ a C dx fs v, x = .ref a ∧ H a = some (.ins C dx fs) ∧ Cls K C ∧ NoAttr K C f ∧ fs.lookup f = some v ∧ Q v H
theorem h_fldE (h : ta σ H fun x H1 => Fld K f x H1 Q) : tFld K ta f σ H Q := h
theorem h_fld (w : Ex B H) (r : Rep K B v (.obj nm ds)) (T : KC K nm C) (n : NoAttr K C f) (e : ds.lookup f = some d) (h : ∀ u, Rep K B u d → Q u H) : Fld K f v H Q := by
  obtain ⟨p, dx, fs, rfl, hp, rf⟩ := r.ins w T
  obtain ⟨u, hu, ru⟩ := rf.get e
  exact ⟨p, C, dx, fs, u, rfl, hp, T.c, n, hu, h u ru⟩
/-! ### C(..) -/
/-- an __init__ that lays these fields, in this order -/
def LaysOk (K : PySem.W.Frag) (C : Addr) : List Str → Prop
  | [] => True
  | f :: r => NoAttr K C f ∧ LaysOk K C r
def spInit (K : PySem.W.Frag) (ns : List Str) : Sp := fun vs H Q _ => ∃ (C p dx : Addr) (us : List V), vs = .ref p :: us ∧ us.length = ns.length ∧ H p = some (.ins C dx []) ∧ Cls K C ∧ LaysOk K C ns ∧ Q .non (upd H p (.ins C dx (ns.zip us)))
theorem h_made (w : Ex B H) (hp : H p = none) (hx : H dx = none) (ne : dx ≠ p) (T : KC K nm C) (r : RepF K B fs ds) (h : ∀ B' H', Stp [] B H B' H' → Rep K B' (.ref p) (.obj nm ds) → Q (.ref p) H') : Q (.ref p) (upd (upd (upd H dx (.own p)) p (.ins C dx [])) p (.ins C dx fs)) := by
  rw [upd_upd]
  have s1 : Stp [] B H (upd B dx (.own p)) (upd H dx (.own p)) := Stp.new w hx
  have hp' : (upd H dx (.own p)) p = none := by rw [upd_ne ne.symm]; exact hp
  have s2 : Stp [] (upd B dx (.own p)) (upd H dx (.own p)) (upd (upd B dx (.own p)) p (.ins C dx fs)) (upd (upd H dx (.own p)) p (.ins C dx fs)) := Stp.new s1.ok hp'
  exact h _ _ (s1.trans s2) (.obj upd_same T (r.mono (s1.trans s2).ex))
theorem h_make {ns : List Str} {E : XK} {us : List V} (hl : us.length = ns.length) (w : Ex B H) (T : KC K nm C) (lo : LaysOk K C ns) (r : RepF K B (ns.zip us) ds) (h : ∀ p B' H', Stp [] B H B' H' → Rep K B' (.ref p) (.obj nm ds) → Q (.ref p) H') :
    ∀ x dx, H x = none → H dx = none → dx ≠ x → spInit K ns (.ref x :: us) (upd (upd H dx (.own x)) x (.ins C dx [])) (fun v H2 => v = .non ∧ Q (.ref x) H2) E := fun x dx hx hdx ne =>
  ⟨C, x, dx, us, rfl, hl, upd_same, T.c, lo, rfl, h_made w hx hdx ne T r fun B' H' s rr => h x B' H' s rr⟩
end
/-! ### o.m(..) of one of several classes -/
structure MAlt (P : Program) (wo : World) (K : PySem.W.Frag) (mg : Str → Option Value) (base : Heap) (CX : CXT) (k : Nat) (m : Str) (C : Addr) (sp : Sp) : Prop where
  ex : ∃ (f : Addr) (fd : FuncData) (ps : List Str), Cls K C ∧ Meth K C m f ∧ FnOk P wo K mg base CX k f fd ps sp ∧ L2.Binds K fd ps []
def tMethP (A : Addr → Sp → Prop) (m : Str) (E : L2.St → XK) (ta : TE) (t : TA) : TE := fun σ H Q => ta σ H fun x H1 => ∃ a C dx fs sp, x = .ref a ∧ H1 a = some (.ins C dx fs) ∧ A C sp ∧ fs.lookup m = none ∧ t σ H1 fun vs H2 => sp (x :: vs) H2 Q (E σ)
section
variable {X : Cx} {CX : CXT} {k : Nat} {E : L2.St → XK} {m : Str} {pos apos : Pos} {e o : Expr} {es : List Expr} {ta : TE} {t : TA} {A : Addr → Sp → Prop}
theorem pe_methP {pl : Sem Bool} (he : PE X o ta) (hA : ∀ C sp, A C sp → MAlt X.prog X.w X.K X.mg X.base CX k m C sp) (hr : Room k X.A) (hx : ∀ σ, PassesAt CX X σ (E σ)) (ha : PA X (e :: es) t)
    (hst : starEach (e :: es) X.env = (false, eval e X.env) :: starEach es X.env := by rfl) (hpl : (backTo pos (starEach es X.env)).any (·.1) = false := by rfl)
    (ht : eval (.Call (.Attribute o m apos) (e :: es) [] pos) X.env = (do
      let ov ← eval o X.env
      standAt apos.atName
      let (f, first) ← holding [ov] (getMethod ov m pl)
      callWith pos f first (backTo pos (starEach (e :: es) X.env)) (backToKw pos (keywordEach [] X.env))) := by rfl) :
    PE X (.Call (.Attribute o m apos) (e :: es) [] pos) (tMethP A m E ta t) := by
  refine ⟨fun pins s σ H Q I h => ?_⟩
  refine PySem.W.methodCall_KW (pl := pl) (thn (he.run pins s σ H _ I h) fun u s1 ⟨x, H1, I1, rx, a, C, dx, fs, sp, ex, ea, hAC, l, q⟩ => ?_) ht
  subst ex
  obtain rfl : u = Value.ref a := rx
  obtain ⟨f, fd, ps, c, hm, F, hb⟩ := (hA C sp hAC).ex
  refine getmeth_ok I1 ea c hm l ?_
  refine PySem.W.callWith_K (first := [.ref a]) (h₀ := X.base) I.ok.mod.kin hm.kp (thn (ha.run pos pins s1 σ H1 _ I1 q) fun us s2 ⟨vs, H2, I2, r, q2⟩ => ⟨I2.kIn, ?_⟩) hst hpl
  exact run_fnSD (us := .ref a :: us) (vs := .ref a :: vs) (dvs := []) (ds := []) F hr hb .nil (hx σ) I2 (.cons rfl r) (by rw [List.append_nil]; exact q2)
theorem pe_methP0 {pl : Sem Bool} (he : PE X o ta) (hA : ∀ C sp, A C sp → MAlt X.prog X.w X.K X.mg X.base CX k m C sp) (hr : Room k X.A) (hx : ∀ σ, PassesAt CX X σ (E σ))
    (ht : eval (.Call (.Attribute o m apos) [] [] pos) X.env = (do
      let ov ← eval o X.env
      standAt apos.atName
      let (f, first) ← holding [ov] (getMethod ov m pl)
      callWith pos f first (backTo pos (starEach [] X.env)) (backToKw pos (keywordEach [] X.env))) := by rfl) :
    PE X (.Call (.Attribute o m apos) [] [] pos) (tMethP A m E ta tNil) := by
  refine ⟨fun pins s σ H Q I h => ?_⟩
  refine PySem.W.methodCall_KW (pl := pl) (thn (he.run pins s σ H _ I h) fun u s1 ⟨x, H1, I1, rx, a, C, dx, fs, sp, ex, ea, hAC, l, q⟩ => ?_) ht
  subst ex
  obtain rfl : u = Value.ref a := rx
  obtain ⟨f, fd, ps, c, hm, F, hb⟩ := (hA C sp hAC).ex
  refine getmeth_ok I1 ea c hm l ?_
  exact PySem.W.callWith_K0 (first := [.ref a]) I1.kIn hm.kp (run_fnSD (us := [.ref a]) (vs := [.ref a]) (dvs := []) (ds := []) F hr hb .nil (hx σ) I1 (.cons rfl .nil) (by rw [List.append_nil]; exact q))
end
section
variable {K : PySem.W.Frag} {σ : L2.St} {H : Hp} {Q : VK} {A : Addr → Sp → Prop} {m : Str} {E : L2.St → XK} {ta : TE} {t : TA} {C : Addr} {sp : Sp} {dvs : List V} {E0 : XK}
theorem h_methE (h : ta σ H fun x H1 => ∃ a C dx fs sp, x = .ref a ∧ H1 a = some (.ins C dx fs) ∧ A C sp ∧ fs.lookup m = none ∧ t σ H1 fun vs H2 => sp (x :: vs) H2 Q (E σ)) : tMethP A m E ta t σ H Q := h
theorem h_makeE (h : t σ H fun vs H1 => ∀ x dx, H1 x = none → H1 dx = none → dx ≠ x → sp (.ref x :: (vs ++ dvs)) (upd (upd H1 dx (.own x)) x (.ins C dx [])) (fun v H2 => v = .non ∧ Q (.ref x) H2) E0) : tMake C sp dvs E0 t σ H Q := h
theorem lk0 {α : Type} {f : Str} {d : α} {r : List (Str × α)} : List.lookup f ((f, d) :: r) = some d := by
  show (match f == f with | true => some d | false => r.lookup f) = some d
  rw [beq_self_eq_true]
theorem lkS {α : Type} {f g : Str} {d e : α} {r : List (Str × α)} (h : (f == g) = false) (t : List.lookup f r = some d) : List.lookup f ((g, e) :: r) = some d := by
  show (match f == g with | true => some e | false => r.lookup f) = some d
  rw [h]
  exact t
theorem lkN {α : Type} {f g : Str} {e : α} {r : List (Str × α)} (h : (f == g) = false) (t : List.lookup f r = none) : List.lookup f ((g, e) :: r) = none := by
  show (match f == g with | true => some e | false => r.lookup f) = none
  rw [h]
  exact t
theorem lkE {α : Type} {f : Str} : List.lookup f ([] : List (Str × α)) = none := rfl
theorem putS {f g : Str} {v u : V} {r q : List (Str × V)} (h : ¬ g = f) (e : putF f v r = q) : putF f v ((g, u) :: r) = (g, u) :: q := by
  show (if g = f then (g, v) :: r else (g, u) :: putF f v r) = _
  rw [if_neg h, e]
theorem putE {f : Str} {v : V} : putF f v [] = [(f, v)] := rfl
end
/-! ### C(.., k = v) -/
def tMakeB (C : Addr) (sp : Sp) (gV : List V → List V → List V) (E : XK) (t tk : TA) : TE := fun σ H Q => t σ H fun vs H1 => tk σ H1 fun zs H2 =>
  ∀ x dx, H2 x = none → H2 dx = none → dx ≠ x → sp (gV (.ref x :: vs) zs) (upd (upd H2 dx (.own x)) x (.ins C dx [])) (fun v H3 => v = .non ∧ Q (.ref x) H3) E
section
variable {X : Cx} {CX : CXT} {k : Nat} {f C : Addr} {fd : FuncData} {ps ks : List Str} {sp : Sp} {E : XK} {x : Str} {p pos : Pos} {e : Expr} {es : List Expr} {kws : List Keyword} {t tk : TA} {g : List Value → List Value → List Value} {gV : List V → List V → List V}
theorem run_makeB {pins : List (Addr × Obj)} {σ : L2.St} {H : Hp} {s : Shared} {Q : VK} {us ws : List Value} {vs zs : List V} (M : Mk X.K C f) (F : FnOk X.prog X.w X.K X.mg X.base CX k f fd ps sp) (hr : Room (k + 1) X.A) (hb : KBinds X.K fd ps ks g gV)
    (hx : Passes CX X E) (I : Inv X pins σ H s) (r : Vals vs us) (rz : Vals zs ws)
    (h : ∀ x dx, H x = none → H dx = none → dx ≠ x → sp (gV (.ref x :: vs) zs) (upd (upd H dx (.own x)) x (.ins C dx [])) (fun v H2 => v = .non ∧ Q (.ref x) H2) E) :
    wpAny (model X.prog X.w) X.A (call (.ref C) us (ks.zip ws)) (EP X pins σ Q) X.xe s := by
  have hq := h (s.heap.objs.size + 1) s.heap.objs.size (I.hok.fresh (Nat.le_succ _)) (I.hok.fresh (Nat.le_refl _)) (Nat.ne_of_lt (Nat.lt_succ_self _))
  have I2 := Inv.made (C := C) I
  have r1 : Vals (V.ref (s.heap.objs.size + 1) :: vs) (Value.ref (s.heap.objs.size + 1) :: us) := .cons rfl r
  have r2 := hb.rel r1 rz
  have hl : (g (Value.ref (s.heap.objs.size + 1) :: us) ws).length = ps.length := by rw [← r2.length]; exact F.len _ _ _ _ hq
  refine wpAny_call (make_map (f := f) I.kIn M.makes M.init (beq_iff_eq.mp M.fn) (codeAny_mono (F.run _ X.stack _ _ ⟨Value.ref (s.heap.objs.size + 1) :: us, ks.zip ws⟩ (g (Value.ref (s.heap.objs.size + 1) :: us) ws) _ _ E (hr.make C us (ks.zip ws))
    (I2.env0.make C us (ks.zip ws)) (hb.to _ (Value.ref (s.heap.objs.size + 1) :: us) ws I2.kIn hl) r2 hq) fun r s' hq' => ?_))
  cases r with
  | error e => exact hx pins σ _ _ e s' I2 hq'
  | ok fl =>
    cases fl with
    | ret u =>
      obtain ⟨v, H', I3, rv, ev, q3⟩ := I2.after hq'
      subst ev
      exact ⟨rv, ⟨V.ref (s.heap.objs.size + 1), H', I3, rfl, q3⟩⟩
    | next => exact False.elim hq'
    | brk => exact False.elim hq'
    | cont => exact False.elim hq'
theorem pe_makeB (M : Mk X.K C f) (F : FnOk X.prog X.w X.K X.mg X.base CX k f fd ps sp) (hr : Room (k + 1) X.A) (hg : Gl X x) (hm : X.mg x = some (.ref C)) (hb : KBinds X.K fd ps ks g gV) (hx : Passes CX X E)
    (ha : PA X (e :: es) t) (hkw : PK X kws tk) (hall : (backToKw pos (keywordEach kws X.env)).all (·.1.isSome) = true := by rfl) (hks : (backToKw pos (keywordEach kws X.env)).filterMap (·.1) = ks := by rfl)
    (hdb : (x == ("__debug__" : Str)) = false := by decide) (he : starEach (e :: es) X.env = (false, eval e X.env) :: starEach es X.env := by rfl)
    (hpl : ((backTo pos (starEach (e :: es) X.env)).any (·.1) || (backToKw pos (keywordEach kws X.env)).any (·.1.isNone)) = false := by rfl) :
    PE X (.Call (.Name x p) (e :: es) kws pos) (tMakeB C sp gV E t tk) := by
  refine ⟨fun pins s σ H Q I h => ?_⟩
  refine wpAny_Call_Name_kw (ld_glob I hg hm ?_ hdb)
  refine PySem.W.callWith_KW (h₀ := X.base) I.ok.mod.kin M.kp hall (thn (ha.run pos pins s σ H _ I h) fun us s1 ⟨vs, H1, I1, r, q⟩ => ?_) hpl he
  refine thn (hkw.run pos pins s1 σ H1 _ I1 q) fun ws s2 ⟨zs, H2, I2, rz, q2⟩ => ⟨I2.kIn, ?_⟩
  rw [hks]
  exact run_makeB M F hr hb hx I2 r rz q2
theorem pe_makeB0 (M : Mk X.K C f) (F : FnOk X.prog X.w X.K X.mg X.base CX k f fd ps sp) (hr : Room (k + 1) X.A) (hg : Gl X x) (hm : X.mg x = some (.ref C)) (hb : KBinds X.K fd ps ks g gV) (hx : Passes CX X E) (hkw : PK X kws tk)
    (hall : (backToKw pos (keywordEach kws X.env)).all (·.1.isSome) = true := by rfl) (hks : (backToKw pos (keywordEach kws X.env)).filterMap (·.1) = ks := by rfl) (hdb : (x == ("__debug__" : Str)) = false := by decide)
    (hpl : ((backTo pos (starEach [] X.env)).any (·.1) || (backToKw pos (keywordEach kws X.env)).any (·.1.isNone)) = false := by rfl) :
    PE X (.Call (.Name x p) [] kws pos) (tMakeB C sp gV E tNil tk) := by
  refine ⟨fun pins s σ H Q I h => ?_⟩
  refine wpAny_Call_Name_kw (ld_glob I hg hm ?_ hdb)
  refine PySem.W.callWith_KW0 (h₀ := X.base) I.ok.mod.kin M.kp hall ?_ hpl
  refine thn (hkw.run pos pins s σ H _ I h) fun ws s2 ⟨zs, H2, I2, rz, q2⟩ => ⟨I2.kIn, ?_⟩
  rw [hks]
  exact run_makeB (us := []) (vs := []) M F hr hb hx I2 .nil rz q2
theorem h_makeBE {σ : L2.St} {H : Hp} {Q : VK} (h : t σ H fun vs H1 => tk σ H1 fun zs H2 => ∀ x dx, H2 x = none → H2 dx = none → dx ≠ x → sp (gV (.ref x :: vs) zs) (upd (upd H2 dx (.own x)) x (.ins C dx [])) (fun v H3 => v = .non ∧ Q (.ref x) H3) E) : tMakeB C sp gV E t tk σ H Q := h
end
section
variable {K : PySem.W.Frag} {B H : Hp} {σ : L2.St} {Q : VK} {tk tv : TE} {v : V} {d : D} {x : Str}
theorem h_disp1S (hk : ∀ (H' : Hp) (Q : VK), Q (.str x) H' → tk σ H' Q) (hv : ∀ (H' : Hp) (Q : VK), Q v H' → tv σ H' Q) (w : Ex B H) (rv : Rep K B v d)
    (h : ∀ p B' H', Stp [] B H B' H' → Rep K B' (.ref p) (.dic [(.inr x, d)]) → Q (.ref p) H') : tDisp [(tk, tv)] σ H Q := fun p hp => by
  show tk σ (upd H p (.dK [])) _
  refine hk _ _ (hv _ _ ⟨upd_same, [(.inr x, v)], rfl, (by show 1 ≤ 15; decide), ?_⟩)
  rw [L2.upd_upd]
  have hb := w.none hp
  exact h p _ _ (Stp.new w hp) (.dic upd_same (.cons (rv.mono (Ex.new hb)) .nil))
end
/-! ### C.m(..), a def of the class C -/
def tClsF (C : Addr) (sp : Sp) (dvs : List V) (E : XK) (ta : TE) (t : TA) : TE := fun σ H Q => ta σ H fun x H1 => x = .ref C ∧ t σ H1 fun vs H2 => sp (vs ++ dvs) H2 Q E
section
variable {X : Cx} {CX : CXT} {k : Nat} {E : XK} {m : Str} {pos apos : Pos} {e o : Expr} {es : List Expr} {ta : TE} {t : TA} {C g : Addr} {mc : Value} {fd : FuncData} {ps : List Str} {sp : Sp} {dvs : List V} {ds : List Value}
theorem pe_clsf {pl : Sem Bool} (he : PE X o ta) (r : ClX.CRead X.K C mc) (c : ClX.CVal X.K C mc m (.ref g) (.ref g)) (F : FnOk X.prog X.w X.K X.mg X.base CX k g fd ps sp) (hk : PySem.W.keepIn X.K (.ref g) = true) (hr : Room k X.A)
    (hb : L2.Binds X.K fd ps ds) (hd : Vals dvs ds) (hx : Passes CX X E) (ha : PA X (e :: es) t)
    (hst : starEach (e :: es) X.env = (false, eval e X.env) :: starEach es X.env := by rfl) (hpl : (backTo pos (starEach es X.env)).any (·.1) = false := by rfl)
    (ht : eval (.Call (.Attribute o m apos) (e :: es) [] pos) X.env = (do
      let ov ← eval o X.env
      standAt apos.atName
      let (f, first) ← holding [ov] (getMethod ov m pl)
      callWith pos f first (backTo pos (starEach (e :: es) X.env)) (backToKw pos (keywordEach [] X.env))) := by rfl) :
    PE X (.Call (.Attribute o m apos) (e :: es) [] pos) (tClsF C sp dvs E ta t) := by
  refine ⟨fun pins s σ H Q I h => ?_⟩
  refine PySem.W.methodCall_KW (pl := pl) (thn (he.run pins s σ H _ I h) fun u s1 ⟨x, H1, I1, rx, ex, q⟩ => ?_) ht
  subst ex
  obtain rfl : u = Value.ref C := rx
  refine PySem.W.method_cls I1.kIn r.ga (ClX.getcval_ok I1 r c fun s2 I2 => ?_)
  refine PySem.W.callWith_K (first := []) (h₀ := X.base) I2.ok.mod.kin hk (thn (ha.run pos pins s2 σ H1 _ I2 q) fun us s3 ⟨vs, H2, I3, rv, q2⟩ => ⟨I3.kIn, ?_⟩) hst hpl
  exact run_fn F hr hb hd hx I3 rv q2
end
/-! # min of two -/
def minI (i j : Int) : Int := if j < i then j else i
def rMinY : List V → Hp → VK → Prop := fun xs H Q => ∃ i j, xs = [.int i, .int j] ∧ Q (.int (minI i j)) H
theorem cr_minY {X : Cx} (hc : X.calm = true) : CallR X (.builtin "min") rMinY := call_min2 hc
theorem h_min {i j : Int} {H : Hp} {Q : VK} (h : Q (.int (minI i j)) H) : rMinY [.int i, .int j] H Q := ⟨i, j, rfl, h⟩
/-! # a comprehension over a tuple -/
section
variable {K : PySem.W.Frag} {B H : Hp} {σ : L2.St} {Q : VK} {p : Addr} {xs : List V} {g : TG} {tt : TT} {te : TE} {α β S R' : Type} {P : β → Prop} {R : Err → Prop}
def LcU (K : PySem.W.Frag) (v : V) (g : TG) (tt : TT) (te : TE) (vs : List Nat) (σ : L2.St) (H : Hp) (Q : VK) : Prop := tLc (iTup K (tC v)) g tt te vs σ H Q
theorem h_lcUE {vs : List Nat} {tl : TE} (h : tl σ H fun x H1 => LcU K x g tt te vs σ H1 Q) : tLc (iTup K tl) g tt te vs σ H Q := h
theorem h_lcU [Enc α] {l : List α} {s0 : S} {f : α → S → Res (Option R' × S)} {k : List R' × S → Res β} {vs : List Nat} (hP : Post ((compR l s0 f).bind k) P R) (hs : SqT K H p xs) (hr : RepL K B xs (l.map enc))
    (J : Addr → List R' → S → Hp → Prop) (h0 : ∀ Dl, H Dl = none → J Dl [] s0 (upd H Dl (.lst []))) (hl : ∀ Dl acc s H', J Dl acc s H' → SqT K H' p xs)
    (hb : ∀ (Dl : Addr) (N : Hp → Prop) (T : Option R' × S → Prop) (x : α) v acc s H', J Dl acc s H' → Rep K B v (enc x) → acc.length < sizeLine → (∀ b s' H2, J Dl (acc ++ [b]) s' H2 → T (some b, s') → N H2) → (∀ s' H2, J Dl acc s' H2 → T (none, s') → N H2) → Post (f x s) T R →
      g v (wipe σ vs) H' (LcT σ vs tt te Dl N))
    (hd : ∀ Dl acc s H', J Dl acc s H' → Post (k (acc, s)) P R → Q (.ref Dl) H') : LcU K (.ref p) g tt te vs σ H Q := by
  refine ⟨p, rfl, ⟨xs, hs⟩, fun Dl hD => ?_⟩
  unfold compR at hP
  have hz : l.length ≤ 1000000 := by
    by_cases c : l.length ≤ 1000000
    · exact c
    · unfold guardR at hP; rw [if_neg c] at hP; exact hP.elim
  unfold guardR at hP
  rw [if_pos hz] at hP
  refine lc_tup (K := K) (a := p) (xs := xs) (fun i H' => ∃ acc s, J Dl acc s H' ∧ acc.length ≤ i ∧ Post ((compL (l.drop i) s f).bind fun q => k (acc ++ q.1, q.2)) P R) ⟨[], s0, h0 Dl hD, Nat.le_refl _, hP⟩ (fun i H' _ ⟨acc, s, j, _⟩ => hl Dl acc s H' j) ?_ ?_
  · rintro i y H' hi ⟨acc, s, j, hn, q⟩
    have h1 := (List.getElem?_eq_some_iff.mp hi).1
    rw [hr.length, List.length_map] at h1
    obtain ⟨x, hx⟩ : ∃ x, l[i]? = some x := ⟨l[i], List.getElem?_eq_getElem h1⟩
    obtain ⟨u, hu, ru⟩ := hr.get (i := i) (d := enc x) (by rw [List.getElem?_map, hx]; rfl)
    rw [hi] at hu; cases hu
    exact hb Dl _ _ x y acc s H' j ru (Nat.lt_of_le_of_lt (Nat.le_trans hn (Nat.le_trans (Nat.le_of_lt h1) hz)) (by decide)) (fun b s' H2 j2 t2 => ⟨acc ++ [b], s', j2, by rw [List.length_append]; exact Nat.succ_le_succ hn, t2⟩) (fun s' H2 j2 t2 => ⟨acc, s', j2, Nat.le_succ_of_le hn, t2⟩) (q.compS hx)
  · rintro H' ⟨acc, s, j, _, q⟩
    rw [hr.length, List.length_map, List.drop_eq_nil_of_le (Nat.le_refl _)] at q
    have q2 : Post (k (acc ++ [], s)) P R := q
    rw [List.append_nil] at q2
    exact hd Dl acc s H' j q2
end
end Y

set_option Elab.async false
set_option linter.all false
set_option maxRecDepth 100000
set_option maxHeartbeats 4000000
namespace Y
open PySem PySem.Spec PyProof.Rows
open L2
/-! # o.m(k = v) of one of several classes -/
structure MAltK (P : Program) (wo : World) (K : PySem.W.Frag) (mg : Str → Option Value) (base : Heap) (CX : CXT) (k : Nat) (m : Str) (ks : List Str) (gV : List V → List V → List V) (C : Addr) (sp : Sp) : Prop where
  ex : ∃ (f : Addr) (fd : FuncData) (ps : List Str) (g : List Value → List Value → List Value), Cls K C ∧ Meth K C m f ∧ FnOk P wo K mg base CX k f fd ps sp ∧ KBinds K fd ps ks g gV
def tMethK (A : Addr → Sp → Prop) (m : Str) (gV : List V → List V → List V) (E : L2.St → XK) (ta : TE) (tk : TA) : TE := fun σ H Q => ta σ H fun x H1 => ∃ a C dx fs sp, x = .ref a ∧ H1 a = some (.ins C dx fs) ∧ A C sp ∧ fs.lookup m = none ∧ tk σ H1 fun zs H2 => sp (gV [x] zs) H2 Q (E σ)
section
variable {X : Cx} {CX : CXT} {k : Nat} {E : L2.St → XK} {m : Str} {ks : List Str} {pos apos : Pos} {o : Expr} {kws : List Keyword} {ta : TE} {tk : TA} {A : Addr → Sp → Prop} {gV : List V → List V → List V} {f : Addr} {fd : FuncData} {ps : List Str} {sp : Sp} {g : List Value → List Value → List Value}
theorem run_fnkS {pins : List (Addr × Obj)} {σ : L2.St} {H : Hp} {s : Shared} {Q : VK} {us ws : List Value} {vs zs : List V} (F : FnOk X.prog X.w X.K X.mg X.base CX k f fd ps sp) (hr : Room k X.A) (hb : KBinds X.K fd ps ks g gV) (hx : PassesAt CX X σ (E σ))
    (I : Inv X pins σ H s) (r : Vals vs us) (rz : Vals zs ws) (h : sp (gV vs zs) H Q (E σ)) : wpAny (model X.prog X.w) X.A (call (.ref f) us (ks.zip ws)) (EP X pins σ Q) X.xe s := by
  have r2 := hb.rel r rz
  have hl : (g us ws).length = ps.length := by rw [← r2.length]; exact F.len _ _ _ _ h
  refine wpAny_call (codeAny_mono (F.run X.A X.stack s H ⟨us, ks.zip ws⟩ (g us ws) (gV vs zs) Q (E σ) hr I.env0 (hb.to s us ws I.kIn hl) r2 h) fun r s' hq => ?_)
  cases r with
  | error e => exact hx pins H s e s' I hq
  | ok fl =>
    cases fl with
    | ret u => exact I.after hq
    | next => exact False.elim hq
    | brk => exact False.elim hq
    | cont => exact False.elim hq
theorem pe_methK0 {pl : Sem Bool} (he : PE X o ta) (hA : ∀ C sp, A C sp → MAltK X.prog X.w X.K X.mg X.base CX k m ks gV C sp) (hr : Room k X.A) (hx : ∀ σ, PassesAt CX X σ (E σ)) (hkw : PK X kws tk)
    (hall : (backToKw pos (keywordEach kws X.env)).all (·.1.isSome) = true := by rfl) (hks : (backToKw pos (keywordEach kws X.env)).filterMap (·.1) = ks := by rfl)
    (hpl : ((backTo pos (starEach [] X.env)).any (·.1) || (backToKw pos (keywordEach kws X.env)).any (·.1.isNone)) = false := by rfl)
    (ht : eval (.Call (.Attribute o m apos) [] kws pos) X.env = (do
      let ov ← eval o X.env
      standAt apos.atName
      let (f, first) ← holding [ov] (getMethod ov m pl)
      callWith pos f first (backTo pos (starEach [] X.env)) (backToKw pos (keywordEach kws X.env))) := by rfl) :
    PE X (.Call (.Attribute o m apos) [] kws pos) (tMethK A m gV E ta tk) := by
  refine ⟨fun pins s σ H Q I h => ?_⟩
  refine PySem.W.methodCall_KW (pl := pl) (thn (he.run pins s σ H _ I h) fun u s1 ⟨x, H1, I1, rx, a, C, dx, fs, sp, ex, ea, hAC, l, q⟩ => ?_) ht
  subst ex
  obtain rfl : u = Value.ref a := rx
  obtain ⟨f, fd, ps, g, c, hm, F, hb⟩ := (hA C sp hAC).ex
  refine getmeth_ok I1 ea c hm l ?_
  refine PySem.W.callWith_KW0 (first := [.ref a]) (h₀ := X.base) I1.ok.mod.kin hm.kp hall ?_ hpl
  refine thn (hkw.run pos pins s1 σ H1 _ I1 q) fun ws s2 ⟨zs, H2, I2, rz, q2⟩ => ⟨I2.kIn, ?_⟩
  rw [hks]
  exact run_fnkS (us := [.ref a]) (vs := [.ref a]) F hr hb (hx σ) I2 (.cons rfl .nil) rz q2
theorem h_methKE {σ : L2.St} {H : Hp} {Q : VK} (h : ta σ H fun x H1 => ∃ a C dx fs sp, x = .ref a ∧ H1 a = some (.ins C dx fs) ∧ A C sp ∧ fs.lookup m = none ∧ tk σ H1 fun zs H2 => sp (gV [x] zs) H2 Q (E σ)) : tMethK A m gV E ta tk σ H Q := h
end
/-! # tuples: parts and sums -/
section
variable {K : PySem.W.Frag} {B H : Hp} {Q : VK} {p q : Addr} {lo hi : Option Int} {l l2 : List D}
theorem h_slA (w : Ex B H) (r : Rep K B (.ref p) (.tup (l.map Enc.enc))) (h : ∀ u B' H', Stp [] B H B' H' → Rep K B' u (.tup ((cutL l lo hi).map Enc.enc)) → Q u H') : rSlA K (.ref p) lo hi H Q := by
  obtain ⟨p', xs, e, s, rr⟩ := r.st w
  cases e
  refine ⟨p, xs, rfl, s, fun c => ?_, fun _ p2 hp2 => ?_⟩
  · have e : cutL l lo hi = l := by
      have hl : xs.length = l.length := by rw [rr.length, List.length_map]
      rw [hl] at c
      unfold cutL
      rw [c.1, c.2]
      simp
    refine h _ _ _ (Stp.refl w) ?_
    rw [e]
    exact r
  · exact h _ _ _ (Stp.new w hp2) (.tup (SqT.of upd_same) ((rr.cut lo hi).mono (Ex.new (w.none hp2))))
theorem h_catA (w : Ex B H) (r1 : Rep K B (.ref p) (.tup (l.map Enc.enc))) (r2 : Rep K B (.ref q) (.tup (l2.map Enc.enc))) (hz : l.length + l2.length ≤ 1000000) (h : ∀ u B' H', Stp [] B H B' H' → Rep K B' u (.tup ((l ++ l2).map Enc.enc)) → Q u H') : rCatA K (.ref p) (.ref q) H Q := by
  obtain ⟨p', xs, e, s1, rr1⟩ := r1.st w
  cases e
  obtain ⟨q', ys, e, s2, rr2⟩ := r2.st w
  cases e
  have hl : xs.length = l.length := by rw [rr1.length, List.length_map]
  have hl2 : ys.length = l2.length := by rw [rr2.length, List.length_map]
  refine ⟨p, q, xs, ys, rfl, rfl, s1, s2, by rw [hl, hl2]; exact Nat.le_trans hz (by decide), fun e => ?_, fun _ e => ?_, fun _ _ p2 hp2 => ?_⟩
  · subst e
    have : l = [] := List.eq_nil_of_length_eq_zero hl.symm
    subst this
    exact h _ _ _ (Stp.refl w) r2
  · subst e
    have : l2 = [] := List.eq_nil_of_length_eq_zero hl2.symm
    subst this
    refine h _ _ _ (Stp.refl w) ?_
    rw [List.append_nil]
    exact r1
  · exact h _ _ _ (Stp.new w hp2) (.tup (SqT.of upd_same) ((rr1.cat rr2).mono (Ex.new (w.none hp2))))
end
end Y

set_option Elab.async false
set_option linter.all false
set_option maxRecDepth 100000
set_option maxHeartbeats 4000000
/-! # max(xs, default = d): the loop with its keywords -/
namespace MxD
open PySem
section
variable {prog : Program} {w : World} {A : Around} {R : Result → Shared → Prop} {I : Addr} {fp wr : List Addr} {n : Nat} {P : Nat → Value → Prop} {St : Nat → Heap → Prop} {kw : List (Str × Value)}
theorem nm : (toString "max" ++ toString ".loop" : String) = "max.loop" := by decide
/-- behind the first item -/
theorem loop (W : Walks prog w A.in1 I fp wr n P St) (bt : Nat → Nat → Bool) (hcmp : CmpOf prog w A.in1 .Gt P bt) (S : Addr) (off : S ∉ fp) (k : Nat) : ∀ (j : Nat) (s : Shared) (best : Value) (c : Nat), n = j + 1 + k → St (j + 1) s.heap → P (argBest bt j) best →
    s.heap.get? S = some { cls := .type "list", dict := none, data := .seq #[best, best] c, slots := #[] } →
    (∀ v h' tk, P (argBest bt (n - 1)) v → (∀ b o, b ∉ wr → b ≠ S → s.heap.get? b = some o → h'.get? b = some o) → R (.ok (.ret v)) { s with heap := h', toks := tk }) → codeAny (model prog w) A (.builtin "max.loop" ⟨[.ref I, .none, .ref S], kw⟩) R s := by
  have offw : S ∉ wr := fun h => off (W.sub _ h)
  induction k with
  | zero =>
    intro j s best c en st pb hS fin
    refine codeAny_builtin F.entry_max_loop ?_
    rw [Around.under_plainId F.plain_max_loop _]
    show wpAny (model prog w) A.in1 (seqItems? (.ref S) >>= _) _ _ s
    refine wpAny_bind (wpAny_seqItems hS rfl ?_)
    show wpAny (model prog w) A.in1 (tryCatch (pyNext (.ref I)) _ >>= _) _ _ s
    refine wpAny_bind (wpAny_tryCatch (W.done s _ _ (en ▸ st) fun h' tk kept => ?_))
    show wpAny (model prog w) A.in1 (updateSeq S (fun _ => #[]) >>= _) _ _ _
    refine wpAny_bind (wpAny_updateSeq (kept S _ offw hS) rfl (wpAny_bind (wpAny_letGo (wpAny_pure ?_))))
    exact fin best _ tk (by rw [en]; exact pb) fun b o h1 h2 e => (Heap.get?_update_other _ _ h2.symm).trans (kept b o h1 e)
  | succ k ih =>
    intro j s best c en st pb hS fin
    refine codeAny_builtin F.entry_max_loop ?_
    rw [Around.under_plainId F.plain_max_loop _]
    show wpAny (model prog w) A.in1 (seqItems? (.ref S) >>= _) _ _ s
    refine wpAny_bind (wpAny_seqItems hS rfl ?_)
    show wpAny (model prog w) A.in1 (tryCatch (pyNext (.ref I)) _ >>= _) _ _ s
    refine wpAny_bind (wpAny_tryCatch (W.item (j + 1) s _ _ (by omega) st fun v h' tk pv st' kept => ?_))
    have hS' := kept S _ offw hS
    show wpAny (model prog w) A.in1 (tryCatch (holding [v, v] (richCompare .Gt v best >>= _)) _ >>= _) _ _ _
    refine wpAny_bind (wpAny_tryCatch (wpAny_holding (wpAny_bind (hcmp (j + 1) (argBest bt j) v best _ _ _ pv pb ?_))))
    refine wpAny_bind (wpAny_holding (wpAny_truthy_bool (wpAny_bind (wpAny_letGo (wpAny_pure ?_)))))
    by_cases hb : bt (j + 1) (argBest bt j) = true
    · rw [hb]
      simp only [if_true]
      refine wpAny_bind (wpAny_updateSeq hS' rfl (wpAny_bind (wpAny_letGo ?_)))
      rw [nm]
      refine wpAny_pure ⟨plainId_quiet F.plain_max_loop _, ih (j + 1) _ v _ (by omega) (W.frame _ _ _ st' fun b hf o e => (Heap.get?_update_other _ _ (fun q : S = b => off (by rw [q]; exact hf))).trans e) (by simp only [argBest, hb, if_true]; exact pv) (Heap.get?_update_self _ hS' rfl) fun v2 h2 tk2 p2 k2 => ?_⟩
      exact fin v2 h2 tk2 p2 fun b o h1 hn e => k2 b o h1 hn ((Heap.get?_update_other _ _ hn.symm).trans (kept b o h1 e))
    · have hb := Bool.eq_false_iff.mpr hb
      rw [hb]
      simp only [Bool.false_eq_true, if_false]
      refine wpAny_bind (wpAny_letGo ?_)
      rw [nm]
      refine wpAny_pure ⟨plainId_quiet F.plain_max_loop _, ih (j + 1) _ best c (by omega) st' (by simp only [argBest, hb, Bool.false_eq_true, if_false]; exact pb) hS' fun v2 h2 tk2 p2 k2 => ?_⟩
      exact fin v2 h2 tk2 p2 fun b o h1 hn e => k2 b o h1 hn (kept b o h1 e)
theorem first (W : Walks prog w A.in1 I fp wr n P St) (bt : Nat → Nat → Bool) (hcmp : CmpOf prog w A.in1 .Gt P bt) (S : Addr) (off : S ∉ fp) (hn : 0 < n) {s : Shared} {c : Nat} (st : St 0 s.heap)
    (hS : s.heap.get? S = some { cls := .type "list", dict := none, data := .seq #[] c, slots := #[] })
    (fin : ∀ v h' tk, P (argBest bt (n - 1)) v → (∀ b o, b ∉ wr → b ≠ S → s.heap.get? b = some o → h'.get? b = some o) → R (.ok (.ret v)) { s with heap := h', toks := tk }) : codeAny (model prog w) A (.builtin "max.loop" ⟨[.ref I, .none, .ref S], kw⟩) R s := by
  have offw : S ∉ wr := fun h => off (W.sub _ h)
  refine codeAny_builtin F.entry_max_loop ?_
  rw [Around.under_plainId F.plain_max_loop _]
  show wpAny (model prog w) A.in1 (seqItems? (.ref S) >>= _) _ _ s
  refine wpAny_bind (wpAny_seqItems hS rfl ?_)
  show wpAny (model prog w) A.in1 (tryCatch (pyNext (.ref I)) _ >>= _) _ _ s
  refine wpAny_bind (wpAny_tryCatch (W.item 0 s _ _ hn st fun v h' tk pv st' kept => ?_))
  have hS' := kept S _ offw hS
  show wpAny (model prog w) A.in1 (updateSeq S (fun _ => #[v, v]) >>= _) _ _ _
  refine wpAny_bind (wpAny_updateSeq hS' rfl ?_)
  rw [nm]
  refine wpAny_pure ⟨plainId_quiet F.plain_max_loop _, loop W bt hcmp S off (n - 1) 0 _ v _ (by omega) (W.frame _ _ _ st' fun b hf o e => (Heap.get?_update_other _ _ (fun q : S = b => off (by rw [q]; exact hf))).trans e) pv (Heap.get?_update_self _ hS' rfl) fun v2 h2 tk2 p2 k2 => ?_⟩
  exact fin v2 h2 tk2 p2 fun b o h1 hn e => k2 b o h1 hn ((Heap.get?_update_other _ _ hn.symm).trans (kept b o h1 e))
/-- no item: the default -/
theorem none_ (W : Walks prog w A.in1 I fp wr n P St) (n0 : n = 0) (S : Addr) (off : S ∉ fp) {s : Shared} {c : Nat} {d : Value} {x : Str} (st : St 0 s.heap)
    (hS : s.heap.get? S = some { cls := .type "list", dict := none, data := .seq #[] c, slots := #[] })
    (fin : ∀ h' tk, (∀ b o, b ∉ wr → b ≠ S → s.heap.get? b = some o → h'.get? b = some o) → R (.ok (.ret d)) { s with heap := h', toks := tk }) : codeAny (model prog w) A (.builtin "max.loop" ⟨[.ref I, .none, .ref S], [(x, d)]⟩) R s := by
  refine codeAny_builtin F.entry_max_loop ?_
  rw [Around.under_plainId F.plain_max_loop _]
  show wpAny (model prog w) A.in1 (seqItems? (.ref S) >>= _) _ _ s
  refine wpAny_bind (wpAny_seqItems hS rfl ?_)
  show wpAny (model prog w) A.in1 (tryCatch (pyNext (.ref I)) _ >>= _) _ _ s
  refine wpAny_bind (wpAny_tryCatch (W.done s _ _ (n0.symm ▸ st) fun h' tk kept => ?_))
  exact wpAny_bind (wpAny_rule (wpAny_pure (fin h' tk fun b o h1 _ e => kept b o h1 e)))
end
theorem args_max_d (a d : Value) : argsOk "max" ⟨[a], [(Str.ofString "default", d)]⟩ := by unfold argsOk; kernel_rfl
theorem call_tree_kw {prog : Program} {w : World} {A : Around} {s : Shared} {E : Value → Shared → Prop} {id : String} {b : Builtin} {args : List Value} {kw : List (Str × Value)} {Q : Value → Shared → Prop} (hk : builtinKind id = none) (hp : plainId id = true) (hb : entryFor table id = some b) (ha : argsOk id ⟨args, kw⟩)
    (hc : wpAny (model prog w) A.in1 (b ⟨args, kw⟩) (fun fin s' => match fin with
      | .done f => (match (Except.ok f : Result) with | .ok (.ret v) => Q v s' | .ok _ => False | .error e => E e s')
      | .again c => c.quiet = true ∧ codeAny (model prog w) A c (fun r s' => match r with | .ok (.ret v) => Q v s' | .ok _ => False | .error e => E e s') s') E s) : wpAny (model prog w) A (call (.builtin id) args kw) Q E s := by
  refine wpAny_call (codeAny_call_builtin hp hb ?_)
  simp only [checkBuiltinCall, hk]
  cases hsig : Manifest.signature? id with
  | none => exact wpAny_pure hc
  | some sig =>
    simp only [argsOk, hsig] at ha
    have h2 : Bind.checkArgs id sig ⟨args, kw⟩ = pure () := ha
    show wpAny (model prog w) A.in1 (Bind.checkArgs id sig ⟨args, kw⟩) _ _ s
    rw [h2]
    exact wpAny_pure hc
open PyProof.Rows L2 in
theorem raw {prog : Program} {w : World} {A : Around} {s : Shared} {E Q : Value → Shared → Prop} {l : Addr} {its : List Value} {ns : List Int} {d : Int} {td : Tok} (hh : A.handled = none) (hl : s.heap.IsList l its.toArray) (hi : IntsAre its ns)
    (h : ∀ h' tk M t', (∀ b o, s.heap.get? b = some o → h'.get? b = some o) → (ns ≠ [] → M ∈ ns ∧ ∀ a, a ∈ ns → a ≤ M) → (ns = [] → M = d) → Q (.int M t') { s with heap := h', toks := tk }) : wpAny (model prog w) A (call (.builtin "max") [.ref l] [(Str.ofString "default", .int d td)]) Q E s := by
  obtain ⟨xs, e⟩ := hi.allInts.items
  have hn : numsOf (intItems xs).toList = ns := by rw [← e]; exact hi.numsOf
  rw [nums_intItems] at hn
  subst hn
  rw [e] at hl
  refine call_tree_kw F.kind_max F.plain_max F.entry_max (args_max_d _ _) ?_
  show wpAny (model prog w) A.in1 (Builtin.Builtins.bindParams "max" ["key", "default"] 0 ⟨[], [(Str.ofString "default", .int d td)]⟩ >>= _) _ _ s
  refine wpAny_bind (wpAny_of_eq (show Builtin.Builtins.bindParams "max" ["key", "default"] 0 ⟨[], [(Str.ofString "default", .int d td)]⟩ = pure [none, some (.int d td)] by kernel_rfl) ?_)
  refine wpAny_bind (wpAny_pure ?_)
  refine wpAny_bind (wpAny_mono (iter_intList (Q := fun it s₂ => it = .ref s.heap.objs.size ∧ s₂ = { s with heap := s.heap.push { cls := .type "list_iterator", data := .fields #[.ref l, .int 0 0] } } ∧ (s₂.heap.IsListIter s.heap.objs.size l 0 ∧ s₂.heap.IsList l (intItems xs)) ∧ ∀ b ∈ [s.heap.objs.size, l], b < s₂.heap.objs.size) hl fun s₂ e st hfp hlI => ⟨rfl, e, st, hfp⟩) ?_ fun _ _ e => e)
  rintro _ s₂ ⟨rfl, e, st, hfp⟩
  subst e
  have hne : l ≠ s.heap.objs.size := by obtain ⟨_, e, _⟩ := hl; exact Nat.ne_of_lt (Heap.lt_size e)
  have W := Walks.list (prog := prog) (w := w) (A := A.in1) hh _ l hne (intItems xs)
  refine wpAny_bind (wpAny_newObj_type ?_)
  rw [nm]
  have off := fun hm => Nat.lt_irrefl _ (hfp _ hm)
  have st2 := fun o2 : Obj => W.frame 0 _ ((s.heap.push { cls := .type "list_iterator", data := .fields #[.ref l, .int 0 0] }).push o2) st fun b _ o e => Heap.get?_push_of_some _ e
  have old : ∀ (h' : Heap) {S : Addr}, S = s.heap.objs.size + 1 → (∀ b o, b ∉ [s.heap.objs.size] → b ≠ S → ((s.heap.push { cls := .type "list_iterator", data := .fields #[.ref l, .int 0 0] }).push { cls := .type "list", data := .seq #[] }).get? b = some o → h'.get? b = some o) → ∀ b o, s.heap.get? b = some o → h'.get? b = some o := fun h' S eS k b o e => by
    have hb := Heap.lt_size e
    refine k b o (fun m => ?_) (by rw [eS]; exact Nat.ne_of_lt (Nat.lt_succ_of_lt hb)) (Heap.get?_push_of_some _ (Heap.get?_push_of_some _ e))
    rw [List.mem_singleton.mp m] at hb
    exact Nat.lt_irrefl _ hb
  have eS : ∀ o : Obj, (s.heap.push o).objs.size = s.heap.objs.size + 1 := fun o => Heap.size_push ..
  have sz : (intItems xs).size = xs.size := by simp [intItems]
  by_cases hz : (intItems xs).size = 0
  · refine wpAny_pure ⟨plainId_quiet F.plain_max_loop _, none_ W hz _ off (st2 _) (Heap.get?_push_size _ rfl) fun h' tk kept => ?_⟩
    have : xs.toList = [] := by
      apply List.eq_nil_of_length_eq_zero
      rw [Array.length_toList]
      omega
    exact h h' tk d td (old h' (eS _) kept) (fun q => absurd (by rw [this]; rfl) q) fun _ => rfl
  · refine wpAny_pure ⟨plainId_quiet F.plain_max_loop _, first W _ (CmpOf.ints_gt (numAt xs) (fun _ _ => intItems_at)) _ off (by omega) (st2 _) (Heap.get?_push_size _ rfl) fun v h' tk pv kept => ?_⟩
    obtain ⟨t, rfl⟩ := intItems_at (show (intItems xs)[_]? = some v from pv)
    obtain ⟨h1, h2⟩ := argBest_gt (numAt xs) ((intItems xs).size - 1)
    refine h h' tk _ t (old h' (eS _) kept) (fun _ => ⟨?_, fun a ha => ?_⟩) fun q => absurd q ?_
    · rw [numAt_eq]; exact PySem.getD_mem (by rw [List.length_map, Array.length_toList]; omega)
    · obtain ⟨j, hj, rfl⟩ := mem_getD ha
      rw [List.length_map, Array.length_toList] at hj
      rw [← numAt_eq]; exact h2 j (by omega)
    · intro e2
      have := congrArg List.length e2
      rw [List.length_map, Array.length_toList] at this
      have : xs.size = 0 := this
      omega
open PyProof.Rows L2 in
theorem rawT {prog : Program} {w : World} {A : Around} {s : Shared} {E Q : Value → Shared → Prop} {l : Addr} {its : List Value} {ns : List Int} (hh : A.handled = none) (hT : s.heap.IsTuple l its.toArray) (hi : IntsAre its ns) (hne : ns ≠ [])
    (h : ∀ h' tk M t', (∀ b o, s.heap.get? b = some o → h'.get? b = some o) → M ∈ ns → (∀ a, a ∈ ns → a ≤ M) → Q (.int M t') { s with heap := h', toks := tk }) : wpAny (model prog w) A (call (.builtin "max") [.ref l]) Q E s := by
  obtain ⟨xs, e⟩ := hi.allInts.items
  have hn : numsOf (intItems xs).toList = ns := by rw [← e]; exact hi.numsOf
  rw [nums_intItems] at hn
  subst hn
  rw [e] at hT
  have lt : l < s.heap.objs.size := by obtain ⟨_, e, _⟩ := hT; exact Heap.lt_size e
  have sz : (intItems xs).size = xs.size := by simp [intItems]
  have hx : 0 < xs.size := by
    cases q : xs.size with
    | zero => exact absurd (List.eq_nil_of_length_eq_zero (by rw [List.length_map, Array.length_toList]; exact q)) hne
    | succ n => exact Nat.succ_pos n
  refine call_max_walk (wpAny_pyIter_tuple hT ?_)
  refine ⟨_, [_, l], [_], _, _, _, _, rfl, Walks.tuple (A := A.in1) hh _ l (Nat.ne_of_lt lt) (intItems xs), ⟨⟨_, Heap.get?_push_size _ rfl, rfl, rfl⟩, hT.push _⟩, fun c hc => ?_, by rw [sz]; exact hx, CmpOf.ints_gt (numAt xs) (fun _ _ => intItems_at), fun v h' tk pv hk => ?_⟩
  · show c < (s.heap.push _).objs.size
    rw [Heap.size_push]
    rcases List.mem_cons.mp hc with rfl | hc
    · exact Nat.lt_succ_self _
    · rw [List.mem_singleton.mp hc]; exact Nat.lt_succ_of_lt lt
  · obtain ⟨t, rfl⟩ := intItems_at (show (intItems xs)[_]? = some v from pv)
    obtain ⟨h1, h2⟩ := argBest_gt (numAt xs) ((intItems xs).size - 1)
    refine h h' tk _ t (fun b o e => hk b o (fun m => ?_) (Heap.get?_push_of_some _ e)) ?_ fun a ha => ?_
    · have := Heap.lt_size e
      rw [List.mem_singleton.mp m] at this
      exact Nat.lt_irrefl _ this
    · rw [numAt_eq]; exact PySem.getD_mem (by rw [List.length_map, Array.length_toList]; omega)
    · obtain ⟨j, hj, rfl⟩ := mem_getD ha
      rw [List.length_map, Array.length_toList] at hj
      rw [← numAt_eq]; exact h2 j (by omega)
end MxD
namespace Y
open PySem PySem.Spec PyProof.Rows
open L2
def maxL (d : Int) : List Int → Int
  | [] => d
  | n :: r => r.foldl (fun a b => if a < b then b else a) n
theorem foldmax : ∀ (r : List Int) (n : Int), (r.foldl (fun a b => if a < b then b else a) n = n ∨ r.foldl (fun a b => if a < b then b else a) n ∈ r) ∧ n ≤ r.foldl (fun a b => if a < b then b else a) n ∧ ∀ a ∈ r, a ≤ r.foldl (fun a b => if a < b then b else a) n
  | [], n => ⟨.inl rfl, Int.le_refl _, fun _ m => nomatch m⟩
  | x :: r, n => by
    obtain ⟨h1, h2, h3⟩ := foldmax r (if n < x then x else n)
    simp only [List.foldl_cons]
    have hx : n ≤ (if n < x then x else n) ∧ x ≤ (if n < x then x else n) := by split <;> omega
    refine ⟨?_, Int.le_trans hx.1 h2, fun a m => ?_⟩
    · rcases h1 with e | m
      · rw [e]
        split
        · exact .inr List.mem_cons_self
        · exact .inl rfl
      · exact .inr (List.mem_cons_of_mem _ m)
    · rcases List.mem_cons.mp m with rfl | m
      · exact Int.le_trans hx.2 h2
      · exact h3 a m
theorem maxL_eq {ns : List Int} {M d : Int} (h : ns ≠ [] → M ∈ ns ∧ ∀ a, a ∈ ns → a ≤ M) (h0 : ns = [] → M = d) : M = maxL d ns := by
  cases ns with
  | nil => exact h0 rfl
  | cons n r =>
    obtain ⟨m, u⟩ := h (by simp)
    obtain ⟨h1, h2, h3⟩ := foldmax r n
    refine Int.le_antisymm ?_ (u _ ?_)
    · rcases List.mem_cons.mp m with rfl | m
      · exact h2
      · exact h3 M m
    · rcases h1 with e | m
      · show r.foldl _ n ∈ _
        rw [e]; exact List.mem_cons_self
      · exact List.mem_cons_of_mem _ m
def rMaxD (K : PySem.W.Frag) : List V → List V → Hp → VK → Prop := fun vs zs H Q => ∃ (a : Addr) (ns : List Int) (d : Int), vs = [V.ref a] ∧ zs = [.int d] ∧ SqL K H a (ns.map V.int) ∧ Q (.int (maxL d ns)) H
theorem cr_maxDef {X : Cx} (hc : X.calm = true) : CallRK X (.builtin "max") [Str.ofString "default"] (rMaxD X.K) := by
  intro pins s σ H vs zs us ws Q I r rz h
  obtain ⟨a, ns, d, rfl, rfl, hs, q⟩ := h
  obtain ⟨its, rv, hl, _⟩ := I.list hs
  obtain rfl := Vals.ref1 r
  obtain ⟨w1, rfl, t, e1⟩ := vals1 rz
  subst e1
  refine MxD.raw (I.ok.hd hc) hl.isList rv.ints fun h' tk m t' hk h1 h2 => ⟨.int _, H, I.kept hk, ⟨_, rfl⟩, ?_⟩
  rw [maxL_eq h1 h2]
  exact q
def rMaxT (K : PySem.W.Frag) : List V → Hp → VK → Prop := fun vs H Q => ∃ (a : Addr) (ns : List Int), vs = [V.ref a] ∧ ns ≠ [] ∧ SqT K H a (ns.map V.int) ∧ Q (.int (maxL 0 ns)) H
theorem cr_maxTup {X : Cx} (hc : X.calm = true) : CallR X (.builtin "max") (rMaxT X.K) := by
  intro pins s σ H vs us Q I r h
  obtain ⟨a, ns, rfl, hne, hs, q⟩ := h
  obtain ⟨its, rv, hl, _⟩ := I.tuple hs
  obtain rfl := Vals.ref1 r
  refine MxD.rawT (I.ok.hd hc) hl rv.ints hne fun h' tk m t' hk h1 h2 => ⟨.int _, H, I.kept hk, ⟨_, rfl⟩, ?_⟩
  rw [maxL_eq (d := 0) (fun _ => ⟨h1, h2⟩) fun e => absurd e hne]
  exact q
/-- the numbers of a tuple of numbers -/
def intsO : List D → Option (List Int)
  | [] => some []
  | .int i :: r => (intsO r).map (i :: ·)
  | _ :: _ => none
theorem intsO_eq : ∀ {ds : List D} {ns : List Int}, intsO ds = some ns → ds = ns.map D.int
  | [], ns, e => by cases e; rfl
  | .int i :: r, ns, e => by
    cases q : intsO r with
    | none =>
      have e' : (intsO r).map (i :: ·) = some ns := e
      rw [q] at e'; exact nomatch e'
    | some m =>
      have e' : (intsO r).map (i :: ·) = some ns := e
      rw [q] at e'
      cases e'
      rw [intsO_eq q]
      rfl
def asIs (d : D) : Res (List Int) := match d with | .tup ds => (match intsO ds with | Option.some (n :: r) => .ok (n :: r) | _ => .stuck) | _ => .stuck
theorem Post.asIs {β : Type} {d : D} {k : List Int → Res β} {P : β → Prop} {R : Err → Prop} (h : Post ((Y.asIs d).bind k) P R) : ∃ ns : List Int, ns ≠ [] ∧ d = .tup (ns.map D.int) ∧ Post (k ns) P R := by
  cases d with
  | tup ds =>
    have h' : Post ((match intsO ds with | Option.some (n :: r) => Res.ok (n :: r) | _ => Res.stuck).bind k) P R := h
    cases q : intsO ds with
    | none => rw [q] at h'; exact h'.elim
    | some m =>
      rw [q] at h'
      cases m with
      | nil => exact h'.elim
      | cons n r => exact ⟨n :: r, by simp, by rw [intsO_eq q], h'⟩
  | _ => exact h.elim
theorem h_maxTup {K : PySem.W.Frag} {B H : Hp} {Q : VK} {v : V} {ns : List Int} (w : Ex B H) (hne : ns ≠ []) (r : Rep K B v (.tup (ns.map D.int))) (h : Q (.int (maxL 0 ns)) H) : rMaxT K [v] H Q := by
  obtain ⟨p, xs, rfl, s, rr⟩ := r.st w
  refine ⟨p, ns, rfl, hne, ?_, h⟩
  rw [← RepL.of_ints rr]
  exact s
theorem h_ckw {σ : L2.St} {H : Hp} {Q : VK} {r : List V → List V → Hp → VK → Prop} {t tk : TA} (h : t σ H fun vs H1 => tk σ H1 fun zs H2 => r vs zs H2 Q) : tCKw r t tk σ H Q := h
theorem h_maxDef {K : PySem.W.Frag} {B H : Hp} {Q : VK} {p : Addr} {xs : List V} {l : List Int} {d : Int} (s : SqL K H p xs) (r : RepL K B xs (l.map Enc.enc)) (h : Q (.int (maxL d l)) H) : rMaxD K [.ref p] [.int d] H Q := by
  refine ⟨p, l, d, rfl, rfl, ?_, h⟩
  rw [← r.intsV]
  exact s
/-! # x & 255 -/
def rAnd255 : V → V → Hp → VK → Prop := fun x y H Q => ∃ (i : Int) (k : Nat), x = .int i ∧ y = .int (2 ^ k - 1) ∧ Q (.int (i % 2 ^ k)) H
theorem op_and255 {X : Cx} : OpR X (binaryOp .BitAnd) rAnd255 := op_andM
theorem h_and255 {H : Hp} {Q : VK} {i : Int} (h : Q (.int (i % 256)) H) : rAnd255 (.int i) (.int 255) H Q := ⟨i, 8, rfl, rfl, h⟩
/-! # what is never reached -/
theorem ps_unreached {X : Cx} {st : Stmt} : PS X st (fun _ _ _ => False) := ⟨fun _ _ _ _ _ _ h => h.elim⟩
theorem pss_unreached {X : Cx} {ss : List Stmt} : PSs X ss (fun _ _ _ => False) := ⟨fun _ _ _ _ _ _ h => h.elim⟩
/-! # comprehensions with places, and over two lists -/
section
variable {K : PySem.W.Frag} {B H : Hp} {σ : L2.St} {Q : VK} {p p2 : Addr} {xs ys : List V} {g : TG} {tt : TT} {te : TE} {α α' β S R' : Type} {P : β → Prop} {R : Err → Prop}
def LcE (K : PySem.W.Frag) (ws : List V) (g : TG) (tt : TT) (te : TE) (vs : List Nat) (σ : L2.St) (H : Hp) (Q : VK) : Prop := tLc (iEnum K (fun _ H Q => Q ws H)) g tt te vs σ H Q
theorem h_lcEnE {vs : List Nat} {ta : TA} (h : ta σ H fun ws H1 => LcE K ws g tt te vs σ H1 Q) : tLc (iEnum K ta) g tt te vs σ H Q := h
theorem h_lcEn [Enc α] {l : List α} {s0 : S} {f : Tp2 Int α → S → Res (Option R' × S)} {k : List R' × S → Res β} {vs : List Nat} (hP : Post ((compR (enumL l) s0 f).bind k) P R) (hs : SqL K H p xs) (hr : RepL K B xs (l.map Enc.enc))
    (J : Addr → List R' → S → Hp → Prop) (h0 : ∀ Dl, H Dl = none → J Dl [] s0 (upd H Dl (.lst []))) (hl : ∀ Dl acc s H', J Dl acc s H' → SqL K H' p xs)
    (hb : ∀ (Dl : Addr) (N : Hp → Prop) (T : Option R' × S → Prop) (x : Tp2 Int α) u acc s H', J Dl acc s H' → Rep K B u (Enc.enc x.b) → acc.length < sizeLine → (∀ b s' H2, J Dl (acc ++ [b]) s' H2 → T (some b, s') → N H2) → (∀ s' H2, J Dl acc s' H2 → T (none, s') → N H2) → Post (f x s) T R →
      NewT [.int x.a, u] H' fun v H1 => g v (wipe σ vs) H1 (LcT σ vs tt te Dl N))
    (hd : ∀ Dl acc s H', J Dl acc s H' → Post (k (acc, s)) P R → Q (.ref Dl) H') : LcE K [.ref p] g tt te vs σ H Q := by
  refine ⟨p, xs, rfl, hs, fun Dl hD => ?_⟩
  unfold compR at hP
  have hll : xs.length = l.length := by rw [hr.length, List.length_map]
  have hel : (enumL l).length = l.length := by unfold enumL; rw [List.length_mapIdx]
  have hz : (enumL l).length ≤ 1000000 := by
    by_cases c : (enumL l).length ≤ 1000000
    · exact c
    · unfold guardR at hP; rw [if_neg c] at hP; exact hP.elim
  unfold guardR at hP
  rw [if_pos hz] at hP
  refine lc_it (n := xs.length) walk_enum (fun i H' => ∃ acc s, J Dl acc s H' ∧ acc.length ≤ i ∧ Post ((compL ((enumL l).drop i) s f).bind fun q => k (acc ++ q.1, q.2)) P R) ⟨[], s0, h0 Dl hD, Nat.le_refl _, hP⟩ (fun i H' _ ⟨acc, s, j, _⟩ => hl Dl acc s H' j) ?_ ?_
  · rintro i v H' H2 hi ⟨acc, s, j, hn, q⟩ ⟨T, y1, y2, rfl, hT, rfl, h1, h2⟩
    cases Option.some.inj h1
    have hil : i < l.length := by omega
    have hx : (enumL l)[i]? = some ⟨(i : Int), l[i]⟩ := by
      unfold enumL
      rw [List.getElem?_mapIdx, List.getElem?_eq_getElem hil]
      rfl
    obtain ⟨u, hu, ru⟩ := hr.get (i := i) (d := Enc.enc l[i]) (by rw [List.getElem?_map, List.getElem?_eq_getElem hil]; rfl)
    have h2 : xs[i]? = some y2 := h2
    rw [h2] at hu; cases hu
    exact (hb Dl _ _ ⟨(i : Int), l[i]⟩ y2 acc s H' j ru (Nat.lt_of_le_of_lt (Nat.le_trans hn (Nat.le_trans (Nat.le_of_lt (hel.symm ▸ hil)) hz)) (by decide)) (fun b s' H2 j2 t2 => ⟨acc ++ [b], s', j2, by rw [List.length_append]; exact Nat.succ_le_succ hn, t2⟩) (fun s' H2 j2 t2 => ⟨acc, s', j2, Nat.le_succ_of_le hn, t2⟩) (q.compS hx)).2 T hT
  · rintro H' ⟨acc, s, j, _, q⟩
    rw [List.drop_eq_nil_of_le (by rw [hel, hll]; exact Nat.le_refl _)] at q
    have q2 : Post (k (acc ++ [], s)) P R := q
    rw [List.append_nil] at q2
    exact hd Dl acc s H' j q2
end
/-! # reverse, clear -/
section
variable {K : PySem.W.Frag} {B H : Hp} {Q : VK} {p : Addr} {ds : List D}
theorem h_reverse {α : Type} [Enc α] {l : List α} (w : Ex B H) (m : Mu K B H p (l.map Enc.enc)) (h : ∀ H', Stp [p] B H B H' → Mu K B H' p (l.reverse.map Enc.enc) → Q .non H') : rReverse (.ref p) [] H Q := by
  obtain ⟨xs, hp, _, rl⟩ := m.sq
  obtain ⟨s, m'⟩ := Stp.mut w m (RepL.rev (l := l) rl)
  exact ⟨p, xs, rfl, rfl, hp, h _ s m'⟩
theorem h_clear {α : Type} [Enc α] {l : List α} (w : Ex B H) (m : Mu K B H p (l.map Enc.enc)) (h : ∀ H', Stp [p] B H B H' → Mu K B H' p (([] : List α).map Enc.enc) → Q .non H') : rClear (.ref p) [] H Q := by
  obtain ⟨xs, hp, _, rl⟩ := m.sq
  obtain ⟨s, m'⟩ := Stp.mut (es := []) w m .nil
  exact ⟨p, xs, rfl, rfl, hp, h _ s m'⟩
end
theorem ExcT.toExcT {K : PySem.W.Frag} {mg : Str → Option Value} {nm : Str} {C : Addr} (T : ExcT K mg nm C) : ExcT K mg nm C := T
end Y

set_option Elab.async false
set_option linter.all false
set_option maxRecDepth 100000
set_option maxHeartbeats 4000000
namespace Y
open PySem PySem.Spec PyProof.Rows
open L2
open Enc (enc)
/-! # ints that the module names; divmod; x in a list of data -/
structure CI (mg : Str → Option Value) (nm : Str) (i : Int) : Prop where
  g : ∃ t, mg nm = Option.some (.int i t)
theorem pe_globI {X : Cx} {x : Str} {i : Int} {pos : Pos} (hg : Gl X x) (c : CI X.mg x i) (hd : (x == ("__debug__" : Str)) = false := by decide) : PE X (.Name x pos) (tC (.int i)) := by
  obtain ⟨t, h⟩ := c.g
  exact pe_glob (v := .int i) hg h ⟨t, rfl⟩ hd
theorem hu65_of {A : Around} {k : Nat} (hr : Room k A) : A.units + 65 < cLine := by have := hr.un; omega
def rDivmod : List V → Hp → VK → Prop := fun xs H Q => ∃ i j, xs = [.int i, .int j] ∧ CDiv i j ∧ ∀ p, H p = none → Q (.ref p) (upd H p (.tup [.int (i / j), .int (i % j)]))
theorem cr_divmod {X : Cx} : CallR X (.builtin "divmod") rDivmod := call_divmod
/-- x in l, of data -/
def inD (x : D) (l : List D) : Bool := (pyDs l).any fun z => PyData.eqv z (pyD x)
section
variable {K : PySem.W.Frag} {B H : Hp} {Q : VK} {x y : V} {d : D} {es : List D} {i j : Int}
theorem h_divmod (w : Ex B H) (hc : CDiv i j) (h : ∀ p B' H', Stp [] B H B' H' → Rep K B' (.ref p) (enc (⟨i / j, i % j⟩ : Tp2 Int Int)) → Q (.ref p) H') : rDivmod [.int i, .int j] H Q :=
  ⟨i, j, rfl, hc, fun p hp => h p _ _ (Stp.new w hp) (.tup (SqT.of upd_same) (.cons (.int _) (.cons (.int _) .nil)))⟩
theorem h_inD (w : Ex B H) (rx : Rep K B x d) (ry : Rep K B y (.lst es)) (o : okEq d (.lst es)) (h : Q (.bl (inD d es)) H) : rInD K x y H Q := ⟨_, _, rx.dp w o.1, ry.dp w o.2.1, o.2.2.1, o.2.2.2, h⟩
end
end Y
/-! # zip in comprehensions; str(o) by its own __str__; f-strings; texts one behind the other -/
namespace Y
open PySem PySem.Spec PyProof.Rows
open L2
open Enc (enc)
def zipL {α α' : Type} (l : List α) (m : List α') : List (Tp2 α α') := List.zipWith Tp2.mk l m
section
variable {K : PySem.W.Frag} {B H : Hp} {σ : L2.St} {Q : VK} {p p2 : Addr} {xs ys : List V} {g : TG} {tt : TT} {te : TE} {α α' β S R' : Type} {P : β → Prop} {R : Err → Prop}
def LcZ (K : PySem.W.Frag) (ws : List V) (g : TG) (tt : TT) (te : TE) (vs : List Nat) (σ : L2.St) (H : Hp) (Q : VK) : Prop := tLc (iZip K (fun _ H Q => Q ws H)) g tt te vs σ H Q
theorem h_lcZipE {vs : List Nat} {ta : TA} (h : ta σ H fun ws H1 => LcZ K ws g tt te vs σ H1 Q) : tLc (iZip K ta) g tt te vs σ H Q := h
theorem h_lcZip [Enc α] [Enc α'] {l : List α} {m : List α'} {s0 : S} {f : Tp2 α α' → S → Res (Option R' × S)} {k : List R' × S → Res β} {vs : List Nat} (hP : Post ((compR (zipL l m) s0 f).bind k) P R) (hs : SqL K H p xs) (hr : RepL K B xs (l.map Enc.enc)) (hs2 : SqL K H p2 ys) (hr2 : RepL K B ys (m.map Enc.enc))
    (J : Addr → List R' → S → Hp → Prop) (h0 : ∀ Dl, H Dl = none → J Dl [] s0 (upd H Dl (.lst []))) (hl : ∀ Dl acc s H', J Dl acc s H' → SqL K H' p xs ∧ SqL K H' p2 ys)
    (hb : ∀ (Dl : Addr) (N : Hp → Prop) (T : Option R' × S → Prop) (x : Tp2 α α') u u2 acc s H', J Dl acc s H' → Rep K B u (Enc.enc x.a) → Rep K B u2 (Enc.enc x.b) → acc.length < sizeLine → (∀ b s' H2, J Dl (acc ++ [b]) s' H2 → T (some b, s') → N H2) → (∀ s' H2, J Dl acc s' H2 → T (none, s') → N H2) → Post (f x s) T R →
      NewT [u, u2] H' fun v H1 => g v (wipe σ vs) H1 (LcT σ vs tt te Dl N))
    (hd : ∀ Dl acc s H', J Dl acc s H' → Post (k (acc, s)) P R → Q (.ref Dl) H') : LcZ K [.ref p, .ref p2] g tt te vs σ H Q := by
  refine ⟨p, p2, xs, ys, rfl, hs, hs2, fun Dl hD => ?_⟩
  unfold compR at hP
  have hll : xs.length = l.length := by rw [hr.length, List.length_map]
  have hll2 : ys.length = m.length := by rw [hr2.length, List.length_map]
  have hel : (zipL l m).length = min l.length m.length := by unfold zipL; rw [List.length_zipWith]
  have hz : (zipL l m).length ≤ 1000000 := by
    by_cases c : (zipL l m).length ≤ 1000000
    · exact c
    · unfold guardR at hP; rw [if_neg c] at hP; exact hP.elim
  unfold guardR at hP
  rw [if_pos hz] at hP
  refine lc_it (n := min xs.length ys.length) (walk_zip rfl) (fun i H' => ∃ acc s, J Dl acc s H' ∧ acc.length ≤ i ∧ Post ((compL ((zipL l m).drop i) s f).bind fun q => k (acc ++ q.1, q.2)) P R) ⟨[], s0, h0 Dl hD, Nat.le_refl _, hP⟩ (fun i H' _ ⟨acc, s, j, _⟩ => hl Dl acc s H' j) ?_ ?_
  · rintro i v H' H2 hi ⟨acc, s, j, hn, q⟩ ⟨T, y1, y2, rfl, hT, rfl, h1, h2⟩
    have h1 : xs[i]? = some y1 := h1
    have h2 : ys[i]? = some y2 := h2
    have hil : i < l.length := by omega
    have hil2 : i < m.length := by omega
    have hx : (zipL l m)[i]? = some ⟨l[i], m[i]⟩ := by
      unfold zipL
      rw [List.getElem?_zipWith, List.getElem?_eq_getElem hil, List.getElem?_eq_getElem hil2]
    obtain ⟨u, hu, ru⟩ := hr.get (i := i) (d := Enc.enc l[i]) (by rw [List.getElem?_map, List.getElem?_eq_getElem hil]; rfl)
    rw [h1] at hu; cases hu
    obtain ⟨u2, hu2, ru2⟩ := hr2.get (i := i) (d := Enc.enc m[i]) (by rw [List.getElem?_map, List.getElem?_eq_getElem hil2]; rfl)
    rw [h2] at hu2; cases hu2
    exact (hb Dl _ _ ⟨l[i], m[i]⟩ y1 y2 acc s H' j ru ru2 (Nat.lt_of_le_of_lt (Nat.le_trans hn (Nat.le_trans (by rw [hel]; omega) hz)) (by decide)) (fun b s' H2 j2 t2 => ⟨acc ++ [b], s', j2, by rw [List.length_append]; exact Nat.succ_le_succ hn, t2⟩) (fun s' H2 j2 t2 => ⟨acc, s', j2, Nat.le_succ_of_le hn, t2⟩) (q.compS hx)).2 T hT
  · rintro H' ⟨acc, s, j, _, q⟩
    rw [List.drop_eq_nil_of_le (by rw [hel, hll, hll2]; exact Nat.le_refl _)] at q
    have q2 : Post (k (acc ++ [], s)) P R := q
    rw [List.append_nil] at q2
    exact hd Dl acc s H' j q2
end
def rAddS : V → V → Hp → VK → Prop := fun x y H Q => ∃ i j, x = .str i ∧ y = .str j ∧ i.length + j.length ≤ sizeLine ∧ Q (.str (i ++ j)) H
theorem op_addS {X : Cx} : OpR X (binaryOp .Add) rAddS := op_add_str
theorem h_addS {H : Hp} {Q : VK} {i j : Str} (hz : i.length + j.length ≤ 1000000) (h : Q (.str (i ++ j)) H) : rAddS (.str i) (.str j) H Q := ⟨i, j, rfl, rfl, Nat.le_trans hz (by decide), h⟩
theorem h_fmt {te : TE} {σ : L2.St} {H : Hp} {Q : VK} (h : te σ H fun x H1 => (∃ y : Str, x = .str y ∧ y.length ≤ sizeLine ∧ Q (.str y) H1) ∨ ∃ i : Int, x = .int i ∧ i.natAbs.log2 < 1920 ∧ Q (.str (toString i)) H1) : tFmt te σ H Q := h
theorem h_js {t : TE} {ts : List TE} {acc : Str} {σ : L2.St} {H : Hp} {Q : Str → Hp → Prop} (h : t σ H fun x H1 => ∃ y : Str, x = .str y ∧ (acc ++ y).length ≤ sizeLine ∧ tJs ts (acc ++ y) σ H1 Q) : tJs (t :: ts) acc σ H Q := h
theorem h_jsS {ts : List TE} {acc y : Str} {σ : L2.St} {H : Hp} {Q : Str → Hp → Prop} (hz : (acc ++ y).length ≤ 1000000) (h : tJs ts (acc ++ y) σ H Q) : ∃ z : Str, V.str y = .str z ∧ (acc ++ z).length ≤ sizeLine ∧ tJs ts (acc ++ z) σ H Q := ⟨y, rfl, Nat.le_trans hz (by decide), h⟩
theorem h_jsN {acc : Str} {σ : L2.St} {H : Hp} {Q : Str → Hp → Prop} (h : Q acc H) : tJs [] acc σ H Q := h
def tJoin (ts : List TE) : TE := fun σ H Q => tJs ts Str.empty σ H fun out H1 => Q (.str out) H1
theorem h_join {ts : List TE} {σ : L2.St} {H : Hp} {Q : VK} (h : tJs ts Str.empty σ H fun out H1 => Q (.str out) H1) : tJoin ts σ H Q := h
/-- str(o), o of one of several classes -/
def rStrO (A : Addr → Sp → Prop) : List V → Hp → VK → Prop := fun vs H Q => ∃ (a C dx : Addr) (fs : List (Str × V)) (sp : Sp), vs = [V.ref a] ∧ H a = some (.ins C dx fs) ∧ A C sp ∧ sp [V.ref a] H (fun v H2 => ∃ y, v = .str y ∧ Q v H2) (fun _ _ _ => False)
theorem cr_strO {X : Cx} {A : Addr → Sp → Prop} {k : Nat} (hA : ∀ C sp, A C sp → MAlt X.prog X.w X.K X.mg X.base CX0 k "__str__" C sp) (hr : Room (k + 1) X.A) : CallR X (.type "str") (rStrO A) := by
  intro pins s σ H xs us Q I r h
  obtain ⟨a, C, dx, fs, sp, rfl, ea, hAC, q⟩ := h
  cases r with
  | cons r1 r2 =>
    cases r2
    obtain rfl : _ = Value.ref a := r1
    obtain ⟨f, fd, ps, c, hm, F, hb⟩ := (hA C sp hAC).ex
    obtain ⟨mA, O, _⟩ := ins_get I.hok ea
    obtain ⟨od, J, _⟩ := O.look
    have un := hr.un
    have dp := hr.dp
    refine PySem.W.kso_call (by show X.A.in1.in1.units < cLine; simp only [Around.in1]; omega) I.kIn J hm.at_ hm.fn ?_
    have hr' : Room k X.A.in1.in1 := ⟨hr.hd, by show X.A.depth + 3 * k + 5 < recursionLimit; omega, by simp only [Around.in1]; omega⟩
    have r2 : Vals [V.ref a] [Value.ref a] := .cons rfl .nil
    have hl : ([Value.ref a] ++ []).length = ps.length := F.len _ _ _ _ q
    refine wpAny_call (codeAny_mono (F.run X.A.in1.in1 X.stack s H ⟨[.ref a], []⟩ [.ref a] [V.ref a] _ _ hr' I.env0.in1.in1 (hb s [.ref a] I.kIn hl) r2 q) fun r s' hq => ?_)
    cases r with
    | error e => exact False.elim hq
    | ok fl =>
      cases fl with
      | ret u =>
        obtain ⟨v, H', I', rv, y, rfl, q2⟩ := I.after hq
        obtain ⟨t, rfl⟩ := rv
        exact ⟨.str y, H', I', ⟨t, rfl⟩, q2⟩
      | next => exact False.elim hq
      | brk => exact False.elim hq
      | cont => exact False.elim hq
theorem h_strO {A : Addr → Sp → Prop} {H : Hp} {Q : VK} {v : V} (h : ∃ (a C dx : Addr) (fs : List (Str × V)) (sp : Sp), v = .ref a ∧ H a = some (.ins C dx fs) ∧ A C sp ∧ sp [v] H (fun v H2 => ∃ y, v = .str y ∧ Q v H2) (fun _ _ _ => False)) : rStrO A [v] H Q := by
  obtain ⟨a, C, dx, fs, sp, rfl, q⟩ := h
  exact ⟨a, C, dx, fs, sp, rfl, q⟩
end Y

set_option Elab.async false
set_option linter.all false
set_option maxRecDepth 100000
set_option maxHeartbeats 4000000
/-! # lists within what was told, free at the entry: they may be written -/
namespace Y
open PySem PySem.Spec PyProof.Rows
open L2
open Enc (enc)
section
variable {K : PySem.W.Frag} {σ : L2.St} {H : Hp} {Q : VK} {g : TG} {tt : TT} {te : TE} {β S R' : Type} {P : β → Prop} {R : Err → Prop}
def LcR2 (ws : List V) (g : TG) (tt : TT) (te : TE) (vs : List Nat) (σ : L2.St) (H : Hp) (Q : VK) : Prop := tLc (iRng2 (fun _ H Q => Q ws H)) g tt te vs σ H Q
theorem h_lcR2E {vs : List Nat} {ta : TA} (h : ta σ H fun ws H1 => LcR2 ws g tt te vs σ H1 Q) : tLc (iRng2 ta) g tt te vs σ H Q := h
theorem h_lcR2 {lo hi : Int} {s0 : S} {f : Int → S → Res (Option R' × S)} {k : List R' × S → Res β} {vs : List Nat} (hP : Post ((compR (rngI lo hi) s0 f).bind k) P R)
    (J : Addr → List R' → S → Hp → Prop) (h0 : ∀ Dl, H Dl = none → J Dl [] s0 (upd H Dl (.lst [])))
    (hb : ∀ (Dl : Addr) (N : Hp → Prop) (T : Option R' × S → Prop) (x : Int) acc s H', J Dl acc s H' → lo ≤ x → x < hi → acc.length < sizeLine → (∀ b s' H2, J Dl (acc ++ [b]) s' H2 → T (some b, s') → N H2) → (∀ s' H2, J Dl acc s' H2 → T (none, s') → N H2) → Post (f x s) T R →
      g (.int x) (wipe σ vs) H' (LcT σ vs tt te Dl N))
    (hd : ∀ Dl acc s H', J Dl acc s H' → Post (k (acc, s)) P R → Q (.ref Dl) H') (hz2 : (-(2 ^ 62) ≤ lo ∧ lo < 2 ^ 62) ∧ -(2 ^ 62) ≤ hi ∧ hi < 2 ^ 62) : LcR2 [.int lo, .int hi] g tt te vs σ H Q := by
  unfold compR at hP
  have hz : (rngI lo hi).length ≤ 1000000 := by
    by_cases c : (rngI lo hi).length ≤ 1000000
    · exact c
    · unfold guardR at hP; rw [if_neg c] at hP; exact hP.elim
  unfold guardR at hP
  rw [if_pos hz] at hP
  rw [rngI_len] at hz
  refine ⟨lo, hi, rfl, ⟨hz2.1.1, hz2.1.2, hz2.2.1, hz2.2.2⟩, fun Dl hD => ?_⟩
  refine lc_range (lo := lo) (n := (hi - lo).toNat) (fun i H' => ∃ acc s, J Dl acc s H' ∧ acc.length ≤ i ∧ Post ((compL ((rngI lo hi).drop i) s f).bind fun q => k (acc ++ q.1, q.2)) P R) ⟨[], s0, h0 Dl hD, Nat.le_refl _, hP⟩ ?_ ?_
  · rintro i H' hi' ⟨acc, s, j, hn, q⟩
    have hx := rngI_get (lo := lo) (hi := hi) (i := i) (by omega)
    exact hb Dl _ _ (lo + (i : Int)) acc s H' j (by omega) (by omega) (Nat.lt_of_le_of_lt (Nat.le_trans hn (Nat.le_trans (Nat.le_of_lt hi') hz)) (by decide)) (fun b s' H2 j2 t2 => ⟨acc ++ [b], s', j2, by rw [List.length_append]; exact Nat.succ_le_succ hn, t2⟩) (fun s' H2 j2 t2 => ⟨acc, s', j2, Nat.le_succ_of_le hn, t2⟩) (q.compS hx)
  · rintro H' ⟨acc, s, j, _, q⟩
    rw [List.drop_eq_nil_of_le (by rw [rngI_len]; omega)] at q
    have q2 : Post (k (acc ++ [], s)) P R := q
    rw [List.append_nil] at q2
    exact hd Dl acc s H' j q2
end
abbrev Bx3 := Tp3 Int (List Int) Int
abbrev Ix3 := Tp3 Int Int (List Int)
section
variable {K : PySem.W.Frag} {B B' B0 H H' H0 : Hp} {Q : VK} {xs ys : List V} {ds : List D} {p q : Addr} {v y : V} {W : List Addr}
theorem h_nwLn (w : Ex B H) (r : RepL K B xs ds) (h : ∀ p B' H', H p = none → (∃ ws, B' p = some (.lst ws) ∧ RepL K B' ws ds) → Stp [] B H B' H' → Rep K B' (.ref p) (.lst ds) → Q (.ref p) H') : NwL xs H Q :=
  fun p hp => h p _ _ hp ⟨xs, upd_same, r.mono (Ex.new (w.none hp))⟩ (Stp.new w hp) (.lst (SqL.of upd_same) (r.mono (Ex.new (w.none hp))))
theorem h_newTn (w : Ex B H) (r : RepL K B xs ds) (h : ∀ p B' H', B' p = some (.tup xs) → Stp [] B H B' H' → Rep K B' (.ref p) (.tup ds) → Q (.ref p) H') (hn : xs.length ≤ sizeLine) : NewT xs H Q :=
  ⟨hn, fun p hp => h p _ _ upd_same (Stp.new w hp) (.tup (SqT.of upd_same) (r.mono (Ex.new (w.none hp))))⟩
/-- a list that stands in the known part -/
def BLst (K : PySem.W.Frag) (B : Hp) (p : Addr) (ds : List D) : Prop := ∃ ws, B p = some (.lst ws) ∧ RepL K B ws ds
theorem BLst.mono (h : BLst K B p ds) (e : Ex B B') : BLst K B' p ds := by
  obtain ⟨ws, h1, h2⟩ := h
  exact ⟨ws, e _ _ h1, h2.mono e⟩
theorem BLst.rep (h : BLst K B p ds) : Rep K B (.ref p) (.lst ds) := by
  obtain ⟨ws, h1, h2⟩ := h
  exact .lst (SqL.of h1) h2
/-- a box that was told: its body is new -/
def LB (K : PySem.W.Frag) (B H : Hp) (v : V) : Option Bx3 → Prop
  | none => v = .non
  | some x => ∃ t p, v = .ref t ∧ B t = some (.tup [.int x.a, .ref p, .int x.c]) ∧ BLst K B p (x.b.map enc) ∧ H p = none
theorem LB.rep {r : Option Bx3} (h : LB K B H v r) : Rep K B v (enc r) := by
  cases r with
  | none => rw [show v = .non from h]; exact .non
  | some x =>
    obtain ⟨t, p, rfl, ht, hp, _⟩ := h
    exact .tup (SqT.of ht) (.cons (.int _) (.cons hp.rep (.cons (.int _) .nil)))
theorem LB.mono {r : Option Bx3} (h : LB K B H v r) (e : Ex B B') : LB K B' H v r := by
  cases r with
  | none => exact h
  | some x =>
    obtain ⟨t, p, rfl, ht, hp, hn⟩ := h
    exact ⟨t, p, rfl, e _ _ ht, hp.mono e, hn⟩
def RetB (K : PySem.W.Frag) (B H : Hp) (r : Option Bx3) (Q : VK) : Prop := ∀ v B' H', Stp [] B H B' H' → LB K B' H v r → Q v H'
/-- boxes that were told -/
def LX (K : PySem.W.Frag) (B H : Hp) (q : Addr) (v : V) (x : Ix3) : Prop := ∃ t p, v = .ref t ∧ B t = some (.tup [.int x.a, .int x.b, .ref p]) ∧ BLst K B p (x.c.map enc) ∧ H p = none ∧ p ≠ q
inductive LXs (K : PySem.W.Frag) (B H : Hp) (q : Addr) : List V → List Ix3 → Prop where
  | nil : LXs K B H q [] []
  | cons {v : V} {x : Ix3} {vs : List V} {l : List Ix3} (h : LX K B H q v x) (t : LXs K B H q vs l) : LXs K B H q (v :: vs) (x :: l)
theorem LX.rep {x : Ix3} (h : LX K B H q v x) : Rep K B v (enc x) := by
  obtain ⟨t, p, rfl, ht, hp, _⟩ := h
  exact .tup (SqT.of ht) (.cons (.int _) (.cons (.int _) (.cons hp.rep .nil)))
theorem LX.mono {x : Ix3} (h : LX K B H q v x) (e : Ex B B') : LX K B' H q v x := by
  obtain ⟨t, p, rfl, ht, hp, hn⟩ := h
  exact ⟨t, p, rfl, e _ _ ht, hp.mono e, hn⟩
theorem LXs.rep : ∀ {vs : List V} {l : List Ix3}, LXs K B H q vs l → RepL K B vs (l.map enc)
  | _, _, .nil => .nil
  | _, _, .cons h t => .cons h.rep t.rep
theorem LXs.mono (e : Ex B B') : ∀ {vs : List V} {l : List Ix3}, LXs K B H q vs l → LXs K B' H q vs l
  | _, _, .nil => .nil
  | _, _, .cons h t => .cons (h.mono e) (LXs.mono e t)
theorem LXs.snoc {x : Ix3} (h : LX K B H q v x) : ∀ {vs : List V} {l : List Ix3}, LXs K B H q vs l → LXs K B H q (vs ++ [v]) (l ++ [x])
  | _, _, .nil => .cons h .nil
  | _, _, .cons g t => .cons g (LXs.snoc h t)
def FaX (K : PySem.W.Frag) (B H H' : Hp) (q : Addr) (l : List Ix3) : Prop := B q = none ∧ ∃ xs, H' q = some (.lst xs) ∧ LXs K B H q xs l
theorem FaX.mu {l : List Ix3} (f : FaX K B H0 H q l) : Mu K B H q (l.map enc) := by
  obtain ⟨hb, xs, hq, r⟩ := f
  exact ⟨hb, xs, hq, r.rep⟩
theorem FaX.nil (w : Ex B H) (h : H q = none) : FaX K B H0 (upd H q (.lst [])) q [] := ⟨w.none h, [], upd_same, .nil⟩
theorem FaX.step {l : List Ix3} (f : FaX K B H0 H q l) (s : Stp W B H B' H') (h : q ∉ W) : FaX K B' H0 H' q l := by
  obtain ⟨hb, xs, hq, r⟩ := f
  exact ⟨s.nw _ _ hb hq, xs, s.fr _ _ h hq, r.mono s.ex⟩
def RetX (K : PySem.W.Frag) (B H : Hp) (r : List Ix3) (Q : VK) : Prop := ∀ q B' H', Stp [] B H B' H' → H q = none → FaX K B' H H' q r → Q (.ref q) H'
theorem h_newX (w : Ex B H) (h : ∀ p H', H p = none → Stp [] B H B H' → FaX K B H0 H' p [] → Q (.ref p) H') : NewL [] H Q :=
  ⟨Nat.zero_le _, fun p hp => h p _ hp (Stp.newM w hp) (FaX.nil w hp)⟩
theorem h_appX {l : List Ix3} {b : Ix3} (w : Ex B H) (f : FaX K B H0 H q l) (ry : LX K B H0 q y b) (hz : l.length < 1000000) (h : ∀ H', Stp [q] B H B H' → FaX K B H0 H' q (l ++ [b]) → Q .non H') : rAppend (.ref q) [y] H Q := by
  have m := f.mu
  obtain ⟨hb, xs, hp, hr⟩ := f
  have hlen : xs.length = l.length := by rw [hr.rep.length, List.length_map]
  refine ⟨q, xs, y, rfl, rfl, hp, by rw [hlen]; exact Nat.lt_of_lt_of_le hz (by decide), ?_⟩
  have r2 := hr.snoc ry
  obtain ⟨s, _⟩ := Stp.mut w m r2.rep
  exact h _ s ⟨hb, xs ++ [y], upd_same, r2⟩
/-! ### and now they are written, and never read again -/
theorem Stp.back (a : Stp W B H B' H') : Stp W B H B H' := ⟨Ex.refl B, a.ex.trans a.ok, a.fr, a.al, fun _ _ h _ => h⟩
theorem Stp.wr {o : HO} (a : Stp W B H B H') (h0 : H p = none) (w : Ex B H) (h : ∃ u, H' p = some u) : Stp W B H B (upd H' p o) := a.own h0 (w.none h0) h
/-- one of them, somewhen -/
def RvE (H0 H : Hp) (q : Addr) (M : Nat) (v : V) : Prop := ∃ t a b p zs, v = .ref t ∧ H t = some (.tup [.int a, .int b, .ref p]) ∧ H p = some (.lst ((zs : List Int).map V.int)) ∧ zs.length ≤ M ∧ H0 p = none ∧ p ≠ q
theorem ints_of : ∀ {vs : List V} {zs : List Int}, RepL K B vs (zs.map enc) → vs = zs.map V.int
  | _, [], .nil => rfl
  | _, z :: zs, .cons h t => by
    cases h
    rw [ints_of t]
    rfl
theorem repL_ints : ∀ (zs : List Int), RepL K B (zs.map V.int) (zs.map enc)
  | [] => .nil
  | z :: zs => .cons (.int z) (repL_ints zs)
theorem LXs.rv (w : Ex B H) {M : Nat} : ∀ {vs : List V} {l : List Ix3}, LXs K B H0 q vs l → (∀ x ∈ l, x.c.length ≤ M) → ∀ v ∈ vs, RvE H0 H q M v
  | _, _, .nil, _ => fun _ m => nomatch m
  | _, x :: l, .cons h t, hM => fun v m => by
    rcases List.mem_cons.mp m with rfl | m
    · obtain ⟨t, p, rfl, ht, ⟨ws, e1, e2⟩, hn, ne⟩ := h
      rw [ints_of e2] at e1
      exact ⟨t, x.a, x.b, p, x.c, rfl, w _ _ ht, w _ _ e1, hM x List.mem_cons_self, hn, ne⟩
    · exact LXs.rv w t (fun y m => hM y (List.mem_cons_of_mem _ m)) v m
/-- where each turn may write one of them -/
def Rav (B H H' : Hp) (q : Addr) (xs : List V) (M : Nat) : Prop := Stp [] B H B H' ∧ H' q = some (.lst xs) ∧ ∀ v ∈ xs, RvE H H' q M v
theorem Rav.wr {M : Nat} {t p : Addr} {a b : Int} {zs : List Int} (w : Ex B H) (r : Rav B H H' q xs M) (hp : H' p = some (.lst (zs.map V.int))) (hz : zs.length ≤ M) (h0 : H p = none) (ne : p ≠ q) : Rav B H (upd H' p (.lst ((zs ++ [0]).map V.int))) q xs (M + 1) := by
  obtain ⟨s, hq, hv⟩ := r
  refine ⟨s.wr h0 w ⟨_, hp⟩, by rw [upd_ne ne.symm]; exact hq, fun v m => ?_⟩
  obtain ⟨t, a, b, p2, z2, rfl, ht, hp2, hz2, h2, n2⟩ := hv v m
  have tp : t ≠ p := fun e => by rw [e, hp] at ht; exact nomatch ht
  by_cases e : p2 = p
  · subst e
    exact ⟨t, a, b, p2, zs ++ [0], rfl, by rw [upd_ne tp]; exact ht, upd_same, by rw [List.length_append]; exact Nat.succ_le_succ hz, h2, n2⟩
  · exact ⟨t, a, b, p2, z2, rfl, by rw [upd_ne tp]; exact ht, by rw [upd_ne e]; exact hp2, Nat.le_succ_of_le hz2, h2, n2⟩
theorem h_forRav {g : TG} {tb : TS} {D' : Ends} {σ : L2.St} {M n : Nat} (w : Ex B H) (r : Rav B H H' q xs M) (hn : xs.length = n) (hM : M + n < 1000000) (S : Option V → L2.St) (hσ : ∃ o, σ = S o)
    (hb : ∀ (N : L2.St → Hp → Prop) (t p : Addr) (a b : Int) (zs : List Int) (o : Option V) H2, H2 t = some (.tup [.int a, .int b, .ref p]) → H2 p = some (.lst (zs.map V.int)) → zs.length < 1000000 →
      (∀ o', N (S o') (upd H2 p (.lst ((zs ++ [0]).map V.int)))) → g (.ref t) (S o) H2 fun σ2 H2 => tb { D' with nx := N, ct := N, bk := D'.nx } σ2 H2)
    (hd : ∀ o H2, Stp [] B H B H2 → H2 q = some (.lst xs) → D'.nx (S o) H2) : tFor (iList K (tC (.ref q))) g tb D' σ H' := by
  refine ⟨q, rfl, ⟨xs, SqL.of r.2.1⟩, for_list (K := K) (a := q) (xs := xs) (fun i σ' H2 => (∃ o, σ' = S o) ∧ Rav B H H2 q xs (M + i)) ⟨hσ, r⟩ (fun i σ' H2 _ ⟨_, j⟩ => SqL.of j.2.1) ?_ ?_⟩
  · rintro i v σ' H2 hi ⟨⟨o, rfl⟩, j⟩
    have hil := (List.getElem?_eq_some_iff.mp hi).1
    obtain ⟨t, a, b, p, zs, rfl, ht, hp, hz, h0, ne⟩ := j.2.2 v (List.mem_of_getElem? hi)
    exact hb _ t p a b zs o H2 ht hp (by omega) fun o' => ⟨⟨o', rfl⟩, j.wr (t := t) (a := a) (b := b) w hp hz h0 ne⟩
  · rintro σ' H2 ⟨⟨o, rfl⟩, j⟩
    exact hd o H2 j.1 j.2.1
theorem h_bmR {r : V → List V → Hp → VK → Prop} {t : TA} {σ : L2.St} (h : H p = some (.lst xs)) (g : t σ H fun ys H2 => r (.ref p) ys H2 Q) : Bm K "list" r t σ (.ref p) H Q := ⟨.inl ⟨rfl, _, .inl (.inl h)⟩, g⟩
theorem h_bmR0 {r : V → List V → Hp → VK → Prop} {σ : L2.St} (h : H p = some (.lst xs)) (g : r (.ref p) [] H Q) : Bm0 K "list" r σ (.ref p) H Q := ⟨.inl ⟨rfl, _, .inl (.inl h)⟩, g⟩
theorem h_appR (h : H p = some (.lst xs)) (hz : xs.length < 1000000) (g : Q .non (upd H p (.lst (xs ++ [y])))) : rAppend (.ref p) [y] H Q := ⟨p, xs, y, rfl, rfl, h, Nat.lt_of_lt_of_le hz (by decide), g⟩
theorem h_revR (h : H p = some (.lst xs)) (g : Q .non (upd H p (.lst xs.reverse))) : rReverse (.ref p) [] H Q := ⟨p, xs, rfl, rfl, h, g⟩
theorem h_revRv (h : H p = some (.lst xs)) (s : Stp [] B H0 B H) (w : Ex B H0) (h0 : H0 p = none) (g : ∀ H', Stp [] B H0 B H' → H' p = some (.lst xs.reverse) → Q .non H') : rReverse (.ref p) [] H Q :=
  h_revR h (g _ (s.wr h0 w ⟨_, h⟩) upd_same)
theorem h_appRv (h : H p = some (.lst xs)) (hz : xs.length < 1000000) (s : Stp [] B H0 B H) (w : Ex B H0) (h0 : H0 p = none) (g : ∀ H', Stp [] B H0 B H' → H' p = some (.lst (xs ++ [y])) → Q .non H') : rAppend (.ref p) [y] H Q :=
  h_appR h hz (g _ (s.wr h0 w ⟨_, h⟩) upd_same)
theorem Rav.start {B1 H1 : Hp} {l : List Ix3} (s : Stp [] B H B1 H1) (fx : FaX K B1 H H1 q l) (gd : (l.all fun x => decide (x.c.length + l.length < 999999)) = true) : ∃ xs M, Rav B H H1 q xs M ∧ xs.length = l.length ∧ M + l.length < 1000000 := by
  obtain ⟨hb, xs, hq, r⟩ := fx
  have hl : xs.length = l.length := by rw [r.rep.length, List.length_map]
  have hg : ∀ x ∈ l, x.c.length + l.length < 999999 := fun x m => of_decide_eq_true (List.all_eq_true.mp gd x m)
  refine ⟨xs, 999999 - l.length, ⟨s.back, hq, r.rv s.ok fun x m => by have := hg x m; omega⟩, hl, ?_⟩
  cases l with
  | nil => decide
  | cons x l =>
    have := hg x List.mem_cons_self
    omega
theorem isA_tup3 {a b : Int} {zs : List Int} : isA "tuple" (enc (⟨a, b, zs⟩ : Ix3)) = true := (by decide +kernel : isS "tuple" "tuple" = true)
theorem isA_lst1 {zs : List Int} : isA "list" (enc zs) = true := (by decide +kernel : isS "list" "list" = true)
end
end Y

set_option Elab.async false
set_option linter.all false
set_option maxRecDepth 100000
set_option maxHeartbeats 4000000
/-! # instances that change; what a def hands back and may be written -/
namespace Y
open PySem PySem.Spec PyProof.Rows
open L2
open Enc (enc)
structure Tp6 (α β γ δ ε ζ : Type) where
  a : α
  b : β
  c : γ
  d : δ
  e : ε
  f : ζ
instance {α β γ δ ε ζ : Type} [Enc α] [Enc β] [Enc γ] [Enc δ] [Enc ε] [Enc ζ] : Enc (Tp6 α β γ δ ε ζ) := ⟨fun t => .tup [enc t.a, enc t.b, enc t.c, enc t.d, enc t.e, enc t.f]⟩
structure Tp7 (α β γ δ ε ζ η : Type) where
  a : α
  b : β
  c : γ
  d : δ
  e : ε
  f : ζ
  g : η
instance {α β γ δ ε ζ η : Type} [Enc α] [Enc β] [Enc γ] [Enc δ] [Enc ε] [Enc ζ] [Enc η] : Enc (Tp7 α β γ δ ε ζ η) := ⟨fun t => .tup [enc t.a, enc t.b, enc t.c, enc t.d, enc t.e, enc t.f, enc t.g]⟩
/-- an instance of the class at C, its fields by name -/
def MuN (K : PySem.W.Frag) (C : Addr) (ns : List Str) (B H : Hp) (p : Addr) (ds : List D) : Prop := B p = none ∧ ∃ dx vs, H p = some (.ins C dx (ns.zip vs)) ∧ vs.length = ns.length ∧ RepL K B vs ds
def RetMI (K : PySem.W.Frag) (C : Addr) (ns : List Str) (p : Addr) (B H : Hp) (d : D) (ds : List D) (Q : VK) : Prop := ∀ v B' H', Stp [p] B H B' H' → MuN K C ns B' H' p ds → Rep K B' v d → Q v H'
def nthR {α : Type} (l : List α) (k : Nat) : Res α := match l[k]? with | some x => .ok x | none => .stuck
theorem Post.nth {α β : Type} {l : List α} {k : Nat} {f : α → Res β} {P : β → Prop} {R : Err → Prop} (h : Post ((nthR l k).bind f) P R) : ∃ x, l[k]? = Option.some x ∧ Post (f x) P R := by
  unfold nthR at h
  cases e : l[k]? with
  | none => rw [e] at h; exact h.elim
  | some x => rw [e] at h; exact ⟨x, rfl, h⟩
/-- the place of a field -/
def ixS (f : Str) : List Str → Option Nat
  | [] => none
  | g :: r => if g = f then some 0 else (ixS f r).map (· + 1)
theorem lk_zip {f : Str} {v : V} : ∀ {ns : List Str} {vs : List V} {k : Nat}, ixS f ns = some k → vs[k]? = some v → (ns.zip vs).lookup f = some v
  | [], _, _, h, _ => nomatch h
  | g :: r, [], k, _, e => by simp at e
  | g :: r, x :: vs, k, h, e => by
    unfold ixS at h
    show (match f == g with | true => some x | false => (r.zip vs).lookup f) = some v
    by_cases c : g = f
    · rw [if_pos c] at h
      cases h
      rw [show (f == g) = true from beq_iff_eq.mpr c.symm]
      simpa using e
    · rw [if_neg c] at h
      obtain ⟨j, hj, rfl⟩ := Option.map_eq_some_iff.mp h
      rw [show (f == g) = false from beq_eq_false_iff_ne.mpr fun z => c z.symm]
      exact lk_zip hj (by simpa using e)
theorem put_zip {f : Str} {v : V} : ∀ {ns : List Str} {vs : List V} {k : Nat}, ixS f ns = some k → vs.length = ns.length → putF f v (ns.zip vs) = ns.zip (vs.set k v)
  | [], _, _, h, _ => nomatch h
  | g :: r, [], k, _, e => nomatch e
  | g :: r, x :: vs, k, h, e => by
    unfold ixS at h
    show (if g = f then (g, v) :: r.zip vs else (g, x) :: putF f v (r.zip vs)) = _
    by_cases c : g = f
    · rw [if_pos c] at h ⊢
      cases h
      rfl
    · rw [if_neg c] at h ⊢
      obtain ⟨j, hj, rfl⟩ := Option.map_eq_some_iff.mp h
      rw [put_zip hj (Nat.succ.inj e)]
      rfl
theorem lk_none {m : Str} : ∀ {ns : List Str} {vs : List V}, ns.contains m = false → (ns.zip vs).lookup m = none
  | [], _, _ => rfl
  | g :: r, [], _ => rfl
  | g :: r, x :: vs, h => by
    rw [List.contains_cons, Bool.or_eq_false_iff] at h
    show (match m == g with | true => some x | false => (r.zip vs).lookup m) = none
    rw [h.1]
    exact lk_none h.2
section
variable {K : PySem.W.Frag} {mg : Str → Option Value} {B B' H H' H0 : Hp} {W : List Addr} {C p q dx : Addr} {ns : List Str} {ds es : List D} {d : D} {v : V} {Q : VK} {xs : List V} {f m nm : Str} {ta tv : TE} {σ : L2.St} {D' : Ends} {k : Nat} {b : D}
theorem MuN.step (m : MuN K C ns B H p ds) (s : Stp W B H B' H') (h : p ∉ W) : MuN K C ns B' H' p ds := by
  obtain ⟨hb, dx, vs, hp, hl, r⟩ := m
  exact ⟨s.nw p _ hb hp, dx, vs, s.fr p _ h hp, hl, r.mono s.ex⟩
theorem MuN.ne (m : MuN K C ns B H p ds) (h : H q = none) : p ≠ q := by
  obtain ⟨hb, dx, vs, hp, hl, r⟩ := m
  exact ne_of_none hp h
theorem MuN.kp (m : MuN K C ns B H q es) (e : Ex B B') (k : ∀ q, q ≠ p → B q = none → B' q = none) (n : q ≠ p) : MuN K C ns B' H q es := by
  obtain ⟨hb, dx, vs, hp, hl, r⟩ := m
  exact ⟨k q n hb, dx, vs, hp, hl, r.mono e⟩
theorem h_fldN (m : MuN K C ns B H p ds) (T : KI K mg nm C) (n : NoAttr K C f) (hd : ds[k]? = some d) (h : ∀ u, Rep K B u d → Q u H) (hk : ixS f ns = some k := by decide +kernel) : Fld K f (.ref p) H Q := by
  obtain ⟨hb, dx, vs, hp, hl, r⟩ := m
  obtain ⟨u, hu, ru⟩ := r.get hd
  exact ⟨p, C, dx, _, u, rfl, hp, T.c, n, lk_zip hk hu, h u ru⟩
theorem h_sfldE (h : tv σ H fun y H1 => ta σ H1 fun x H2 => ∃ a C dx fs, x = .ref a ∧ H2 a = some (.ins C dx fs) ∧ Cls K C ∧ NoAttr K C f ∧ fs.length < 1000 ∧ D'.nx σ (upd H2 a (.ins C dx (putF f y fs)))) : sFld K ta tv f D' σ H := h
theorem h_sfldN (w : Ex B H) (m : MuN K C ns B H p ds) (T : KI K mg nm C) (n : NoAttr K C f) (r : Rep K B v b) (h : ∀ H', Stp [p] B H B H' → MuN K C ns B H' p (ds.set k b) → D'.nx σ H') (hk : ixS f ns = some k := by decide +kernel) (hn : ns.length < 1000 := by decide) :
    ∃ a C dx fs, V.ref p = .ref a ∧ H a = some (.ins C dx fs) ∧ Cls K C ∧ NoAttr K C f ∧ fs.length < 1000 ∧ D'.nx σ (upd H a (.ins C dx (putF f v fs))) := by
  obtain ⟨hb, dx, vs, hp, hl, r0⟩ := m
  refine ⟨p, C, dx, _, rfl, hp, T.c, n, by rw [List.length_zip, hl, Nat.min_self]; exact hn, ?_⟩
  rw [put_zip hk hl]
  exact h _ (Stp.set w (by simp) hb hp) ⟨hb, dx, _, upd_same, by rw [List.length_set]; exact hl, r0.set r⟩
/-- C(..), where the instance may change -/
theorem h_makeN {us : List V} {E : XK} {sp : Sp} {R : Addr → Hp → Prop} (w : Ex B H) (hl : us.length = ns.length) (r : RepL K B us ds)
    (hsp : ∀ x dx H', H' x = some (.ins C dx []) → ∀ Q : VK, Q .non (upd H' x (.ins C dx (ns.zip us))) → sp (.ref x :: xs) H' Q E)
    (h : ∀ p B' H', Stp [] B H B' H' → H p = none → MuN K C ns B' H' p ds → R p H') :
    ∀ x dx, H x = none → H dx = none → dx ≠ x → sp (.ref x :: (xs ++ [])) (upd (upd H dx (.own x)) x (.ins C dx [])) (fun v H2 => v = .non ∧ R x H2) E := fun x dx hx hdx ne => by
  rw [List.append_nil]
  refine hsp x dx _ upd_same _ ⟨rfl, ?_⟩
  rw [upd_upd]
  have s1 : Stp [] B H (upd B dx (.own x)) (upd H dx (.own x)) := Stp.new w hdx
  have hp' : (upd H dx (.own x)) x = none := by rw [upd_ne ne.symm]; exact hx
  have s2 := Stp.newM (W := []) s1.ok hp' (o := .ins C dx (ns.zip us))
  exact h x _ _ (s1.trans s2) hx ⟨by rw [upd_ne ne.symm]; exact w.none hx, dx, us, upd_same, hl, r.mono s1.ex⟩
/-- a method of what may change -/
def AOne (C : Addr) (sp : Sp) : Addr → Sp → Prop := fun C' sp' => C' = C ∧ sp' = sp
theorem AOne.alt {P : Program} {wo : World} {base : Heap} {CX : CXT} {k : Nat} {sp : Sp} (L : MAlt P wo K mg base CX k m C sp) : ∀ C' sp', AOne C sp C' sp' → MAlt P wo K mg base CX k m C' sp' := by
  rintro _ _ ⟨rfl, rfl⟩
  exact L
theorem MuN.meth {sp : Sp} {t : TA} {e : XK} (mu : MuN K C ns B H p ds) (h : t σ H fun vs H2 => sp (.ref p :: vs) H2 Q e) (hm : ns.contains m = false := by decide +kernel) :
    ∃ a C' dx fs sp', V.ref p = .ref a ∧ H a = some (.ins C' dx fs) ∧ AOne C sp C' sp' ∧ fs.lookup m = none ∧ t σ H fun vs H2 => sp' (V.ref p :: vs) H2 Q e := by
  obtain ⟨hb, dx, vs, hp, hl, r⟩ := mu
  exact ⟨p, C, dx, _, sp, rfl, hp, ⟨rfl, rfl⟩, lk_none hm, h⟩
end
section
variable {xs : List V} {x y z u v w : V}
theorem tup5 (hl : xs.length = 5) (h0 : atI xs 0 = some x) (h1 : atI xs 1 = some y) (h2 : atI xs 2 = some z) (h3 : atI xs 3 = some u) (h4 : atI xs 4 = some v) : xs = [x, y, z, u, v] := by
  match xs, hl with
  | [a, b, c, d, e], _ =>
    cases h0; cases h1; cases h2; cases h3; cases h4
    rfl
theorem tup6 (hl : xs.length = 6) (h0 : atI xs 0 = some x) (h1 : atI xs 1 = some y) (h2 : atI xs 2 = some z) (h3 : atI xs 3 = some u) (h4 : atI xs 4 = some v) (h5 : atI xs 5 = some w) : xs = [x, y, z, u, v, w] := by
  match xs, hl with
  | [a, b, c, d, e, f], _ =>
    cases h0; cases h1; cases h2; cases h3; cases h4; cases h5
    rfl
end
/-! ### what was told is new, its lists may be written -/
mutual
def noL : D → Bool
  | .lst _ => false
  | .dic _ => false
  | .obj _ _ => false
  | .tup ds => noLs ds
  | _ => true
def noLs : List D → Bool
  | [] => true
  | d :: r => noL d && noLs r
end
mutual
inductive RepN (K : PySem.W.Frag) (B : Hp) : Hp → V → D → Prop where
  | sc {H : Hp} {v : V} {d : D} (r : Rep K B v d) (h : noL d = true) : RepN K B H v d
  | lst {H : Hp} {p : Addr} {xs : List V} {ds : List D} (h : B p = some (.lst xs)) (n : H p = none) (r : RepNL K B (L2.upd H p (.lst [])) xs ds) : RepN K B H (.ref p) (.lst ds)
  | tup {H : Hp} {p : Addr} {xs : List V} {ds : List D} (h : SqT K B p xs) (r : RepNL K B H xs ds) : RepN K B H (.ref p) (.tup ds)
inductive RepNL (K : PySem.W.Frag) (B : Hp) : Hp → List V → List D → Prop where
  | nil {H : Hp} : RepNL K B H [] []
  | cons {H : Hp} {v : V} {d : D} {vs : List V} {ds : List D} (h : RepN K B H v d) (t : RepNL K B H vs ds) : RepNL K B H (v :: vs) (d :: ds)
end
section
variable {K : PySem.W.Frag} {B B' H H' H0 : Hp} {W : List Addr} {C p q dx : Addr} {ns : List Str} {ds es : List D} {d : D} {v : V} {Q : VK} {xs : List V}
mutual
theorem RepN.mono (e : Ex B B') : ∀ {H : Hp} {v : V} {d : D}, RepN K B H v d → RepN K B' H v d
  | _, _, _, .sc r h => .sc (r.mono e) h
  | _, _, _, .lst h n r => .lst (e _ _ h) n (RepNL.mono e r)
  | _, _, _, .tup h r => .tup (e.t h) (RepNL.mono e r)
theorem RepNL.mono (e : Ex B B') : ∀ {H : Hp} {vs : List V} {ds : List D}, RepNL K B H vs ds → RepNL K B' H vs ds
  | _, _, _, .nil => .nil
  | _, _, _, .cons h t => .cons (RepN.mono e h) (RepNL.mono e t)
end
theorem ago_upd {q : Addr} {o o' : HO} (e : ∀ p, H p = none → H' p = none) : ∀ p, (L2.upd H q o) p = none → (L2.upd H' q o') p = none := fun p h => by
  by_cases c : p = q
  · rw [c, upd_same] at h; exact nomatch h
  · rw [upd_ne c] at h ⊢; exact e p h
mutual
theorem RepN.ago : ∀ {H H' : Hp} (e : ∀ p, H p = none → H' p = none) {v : V} {d : D}, RepN K B H v d → RepN K B H' v d
  | _, _, _, _, _, .sc r h => .sc r h
  | _, _, e, _, _, .lst h n r => .lst h (e _ n) (RepNL.ago (ago_upd e) r)
  | _, _, e, _, _, .tup h r => .tup h (RepNL.ago e r)
theorem RepNL.ago : ∀ {H H' : Hp} (e : ∀ p, H p = none → H' p = none) {vs : List V} {ds : List D}, RepNL K B H vs ds → RepNL K B H' vs ds
  | _, _, _, _, _, .nil => .nil
  | _, _, e, _, _, .cons h t => .cons (RepN.ago e h) (RepNL.ago e t)
end
mutual
theorem RepN.rep : ∀ {H : Hp} {v : V} {d : D}, RepN K B H v d → Rep K B v d
  | _, _, _, .sc r _ => r
  | _, _, _, .lst h _ r => .lst (SqL.of h) (RepNL.rep r)
  | _, _, _, .tup h r => .tup h (RepNL.rep r)
theorem RepNL.rep : ∀ {H : Hp} {vs : List V} {ds : List D}, RepNL K B H vs ds → RepL K B vs ds
  | _, _, _, .nil => .nil
  | _, _, _, .cons h t => .cons (RepN.rep h) (RepNL.rep t)
end
theorem RepNL.of : ∀ {vs : List V} {ds : List D}, RepL K B vs ds → noLs ds = true → RepNL K B H vs ds
  | _, _, .nil, _ => .nil
  | _, _, .cons h t, e => by
    have e' : (noL _ && noLs _) = true := e
    rw [Bool.and_eq_true] at e'
    exact .cons (.sc h e'.1) (RepNL.of t e'.2)
theorem RepNL.get : ∀ {vs : List V} {ds : List D} {i : Nat} {d : D}, RepNL K B H vs ds → ds[i]? = some d → ∃ v, vs[i]? = some v ∧ RepN K B H v d
  | _, _, _, _, .nil, e => by simp at e
  | _, _, 0, _, .cons r _, e => by simp at e; subst e; exact ⟨_, rfl, r⟩
  | _, _, i + 1, x, .cons _ t, e => by
    obtain ⟨u, h1, h2⟩ := RepNL.get (i := i) (d := x) t (by simpa using e)
    exact ⟨u, by simpa using h1, h2⟩
theorem RepNL.length : ∀ {vs : List V} {ds : List D}, RepNL K B H vs ds → vs.length = ds.length
  | _, _, .nil => rfl
  | _, _, .cons _ t => congrArg Nat.succ (RepNL.length t)
theorem RepNL.at {vs : List V} {i : Int} (r : RepNL K B H vs ds) (h : atI ds i = some d) : ∃ v, atI vs i = some v ∧ RepN K B H v d := by
  unfold atI at h ⊢
  rw [r.length]
  cases e : ixN ds.length i with
  | none => rw [e] at h; cases h
  | some j => rw [e] at h; exact r.get h
theorem RepNL.snoc {b : D} (h : RepN K B H v b) : ∀ {vs : List V} {ds : List D}, RepNL K B H vs ds → RepNL K B H (vs ++ [v]) (ds ++ [b])
  | _, _, .nil => .cons h .nil
  | _, _, .cons g t => .cons g (RepNL.snoc h t)
theorem RepN.tupE (h : RepN K B H v (.tup ds)) (hn : noLs ds = false) : ∃ p xs, v = .ref p ∧ SqT K B p xs ∧ RepNL K B H xs ds := by
  cases h with
  | sc r h => rw [show noLs ds = true from h] at hn; exact nomatch hn
  | tup h r => exact ⟨_, _, rfl, h, r⟩
theorem RepN.lstE (h : RepN K B H v (.lst ds)) : ∃ p xs, v = .ref p ∧ B p = some (.lst xs) ∧ H p = none ∧ RepNL K B (L2.upd H p (.lst [])) xs ds := by
  cases h with
  | sc r h => exact nomatch h
  | lst h n r => exact ⟨_, _, rfl, h, n, r⟩
/-- back to what was known ahead -/
theorem Stp.back2 {B0 : Hp} (a : Stp W B H B' H') (e : Ex B0 B) : Stp W B0 H B0 H' := ⟨Ex.refl B0, e.trans (a.ex.trans a.ok), a.fr, a.al, fun _ _ h _ => h⟩
def RetN (K : PySem.W.Frag) (B H : Hp) (d : D) (Q : VK) : Prop := ∀ v B' H', Stp [] B H B' H' → RepN K B' H v d → Q v H'
def RetNI (K : PySem.W.Frag) (C : Addr) (ns : List Str) (p : Addr) (B H : Hp) (d : D) (ds : List D) (Q : VK) : Prop := ∀ v B' H', Stp [p] B H B' H' → MuN K C ns B' H' p ds → RepN K B' H v d → Q v H'
/-- a list of our own is kept as it is, and is known to be new -/
theorem Mu.keepN (m : Mu K B H p ds) (hs : noLs ds = true) (h0 : H0 p = none) : ∃ B', Ex B B' ∧ (∀ q, q ≠ p → B q = none → B' q = none) ∧ (∀ W B0 H0, Stp W B0 H0 B H → Ex B0 H0 → H0 p = none → Stp W B0 H0 B' H) ∧ Rep K B' (.ref p) (.lst ds) ∧ RepN K B' H0 (.ref p) (.lst ds) := by
  obtain ⟨hb, xs, hp, r⟩ := m
  exact ⟨L2.upd B p (.lst xs), Ex.new hb, fun q n e => by rw [upd_ne n]; exact e, fun W B0 H0 st w0 h0 => Stp.keep w0 st h0 hb hp, .lst (SqL.of upd_same) (r.mono (Ex.new hb)), .lst upd_same h0 (.of (r.mono (Ex.new hb)) hs)⟩
theorem h_newTN (w : Ex B H) (r : RepL K B xs ds) (rn : RepNL K B H0 xs ds) (h : ∀ p B' H', Stp [] B H B' H' → Rep K B' (.ref p) (.tup ds) → RepN K B' H0 (.ref p) (.tup ds) → Q (.ref p) H') (hn : xs.length ≤ sizeLine) : NewT xs H Q :=
  ⟨hn, fun p hp => h p _ _ (Stp.new w hp) (.tup (SqT.of upd_same) (r.mono (Ex.new (w.none hp)))) (.tup (SqT.of upd_same) (rn.mono (Ex.new (w.none hp))))⟩
/-- a list of our own whose things are new -/
def FaN (K : PySem.W.Frag) (B H0 H : Hp) (q : Addr) (ds : List D) : Prop := B q = none ∧ ∃ xs, H q = some (.lst xs) ∧ RepNL K B (L2.upd H0 q (.lst [])) xs ds
theorem FaN.new (w : Ex B H) (h : H q = none) : FaN K B H0 (L2.upd H q (.lst [])) q [] := ⟨w.none h, [], upd_same, .nil⟩
theorem FaN.step (f : FaN K B H0 H q ds) (s : Stp W B H B' H') (h : q ∉ W) : FaN K B' H0 H' q ds := by
  obtain ⟨hb, xs, hq, r⟩ := f
  exact ⟨s.nw _ _ hb hq, xs, s.fr _ _ h hq, r.mono s.ex⟩
theorem FaN.ne (f : FaN K B H0 H p ds) (h : H q = none) : p ≠ q := by
  obtain ⟨hb, xs, hp, r⟩ := f
  exact ne_of_none hp h
theorem FaN.kp (m : FaN K B H0 H q es) (e : Ex B B') (k : ∀ q, q ≠ p → B q = none → B' q = none) (n : q ≠ p) : FaN K B' H0 H q es := by
  obtain ⟨hb, xs, hp, r⟩ := m
  exact ⟨k q n hb, xs, hp, r.mono e⟩
theorem h_appN {α : Type} [Enc α] {l : List α} {b : α} {y : V} {N : Hp → Prop} (w : Ex B H) (m : FaN K B H0 H q (l.map enc)) (r : RepN K B (L2.upd H0 q (.lst [])) y (enc b)) (hz : l.length < sizeLine) (h : ∀ H', Stp [q] B H B H' → FaN K B H0 H' q ((l ++ [b]).map enc) → N H') : App q N y H := by
  obtain ⟨hb, xs, hq, rr⟩ := m
  refine ⟨xs, hq, by rw [rr.length, List.length_map]; exact hz, h _ (Stp.set w (by simp) hb hq) ⟨hb, xs ++ [y], upd_same, ?_⟩⟩
  rw [List.map_append]
  exact rr.snoc r
theorem FaN.keepN (m : FaN K B H0 H p ds) (h0 : H0 p = none) : ∃ B', Ex B B' ∧ (∀ q, q ≠ p → B q = none → B' q = none) ∧ (∀ W B0 H0, Stp W B0 H0 B H → Ex B0 H0 → H0 p = none → Stp W B0 H0 B' H) ∧ Rep K B' (.ref p) (.lst ds) ∧ RepN K B' H0 (.ref p) (.lst ds) := by
  obtain ⟨hb, xs, hp, r⟩ := m
  exact ⟨L2.upd B p (.lst xs), Ex.new hb, fun q n e => by rw [upd_ne n]; exact e, fun W B0 H0 st w0 h0 => Stp.keep w0 st h0 hb hp, .lst (SqL.of upd_same) (r.rep.mono (Ex.new hb)), .lst upd_same h0 (r.mono (Ex.new hb))⟩
/-- another one is written, and how the heap stands behind it -/
theorem h_appRw {y : V} (h : H p = some (.lst xs)) (hz : xs.length < 1000000) (s : Stp [] B H0 B H) (w : Ex B H0) (h0 : H0 p = none) (g : ∀ H', Stp [] B H0 B H' → (∀ a, a ≠ p → H' a = H a) → Q .non H') : rAppend (.ref p) [y] H Q :=
  h_appR h hz (g _ (s.wr h0 w ⟨_, h⟩) fun a n => upd_ne n)
theorem upd_nn {o : HO} (h : (L2.upd H q o) p = none) : p ≠ q ∧ H p = none := by
  by_cases c : p = q
  · rw [c, upd_same] at h; exact nomatch h
  · rw [upd_ne c] at h; exact ⟨c, h⟩
theorem ago_q {Hc : Hp} (nf : ∀ p, Hc p = none → H0 p = none) (qf : ∀ p, Hc p = none → q ≠ p) : ∀ p, Hc p = none → (L2.upd H0 q (.lst [])) p = none := fun p h => by
  rw [upd_ne (qf p h).symm]
  exact nf p h
theorem RepNL.atE {α : Type} [Enc α] {l : List α} {x : α} {i : Int} (r : RepNL K B H xs (l.map enc)) (h : atI l i = some x) : ∃ v, atI xs i = some v ∧ RepN K B H v (enc x) := by
  refine r.at ?_
  unfold atI at h ⊢
  rw [List.length_map]
  cases e : ixN l.length i with
  | none => rw [e] at h; cases h
  | some j => rw [e] at h; show (l.map enc)[j]? = _; rw [List.getElem?_map, show l[j]? = some x from h]; rfl
theorem SqT.but {ys : List V} (h : SqT K H q xs) (hp : H p = some (.lst ys)) (k : ∀ a, a ≠ p → H' a = H a) : SqT K H' q xs := by
  have kk : ∀ {a : Addr} {u : HO}, H a = some u → (∀ zs, u ≠ .lst zs) → H' a = some u := fun {a u} e n => by
    rw [k a fun z => n ys (by rw [z, hp] at e; exact (Option.some.inj e).symm)]
    exact e
  rcases h with (h | ⟨o, h⟩) | h
  · exact .inl (.inl (kk h fun zs z => nomatch z))
  · exact .inl (.inr ⟨o, kk h fun zs z => nomatch z⟩)
  · exact .inr h
end
end Y
namespace Y
open PySem PySem.Spec PyProof.Rows
open L2
/-- an __init__ that lays what it is handed, then constants -/
def spInitC (K : PySem.W.Frag) (ns : List Str) (cs : List V) : Sp := fun vs H Q _ => ∃ (C p dx : Addr) (us : List V), vs = .ref p :: us ∧ us.length + cs.length = ns.length ∧ H p = some (.ins C dx []) ∧ Cls K C ∧ LaysOk K C ns ∧ Q .non (upd H p (.ins C dx (ns.zip (us ++ cs))))
end Y

set_option Elab.async false
set_option linter.all false
set_option maxRecDepth 100000
set_option maxHeartbeats 4000000
/-! # a comprehension whose element may raise (out of a call) -/
namespace Y
open PySem PySem.Spec PyProof.Rows
open L2
section
variable {X : Cx}
theorem ns_slots {h h' : Heap} {C : Addr} {m : Str → Option Value} (n : h.Ns C m) (k : ∀ o, h.get? C = some o → (∀ vs, o.data ≠ .fields vs) → ∃ sl, h'.get? C = some { o with slots := sl }) : h'.Ns C m := by
  obtain ⟨o, es, ep, ho, hd, r⟩ := n
  obtain ⟨sl, e⟩ := k o ho fun vs q => by rw [hd] at q; cases q
  exact ⟨_, es, ep, e, hd, r⟩
theorem traced_but {h h' B B' : Heap} {a C : Addr} {Z : Obj → Prop} {fl : Value} {m : Str → Option Value} (t : HandSPX.TracedZ h B a Z fl) (n : h.Ns C m) (sb : ∀ b, b ≠ C → h'.get? b = h.get? b) (hB : ∀ b, B.get? b = none → B'.get? b = none) : HandSPX.TracedZ h' B' a Z fl := by
  obtain ⟨oe, vs, T, oT, ts, he, hz, hd, h1, hT, ne, ho, hdT, h3⟩ := t
  obtain ⟨o, es, ep, hC, hdC, _⟩ := n
  have a1 : a ≠ C := fun e => by
    rw [e, hC] at he; cases he
    rw [hdC] at hd; cases hd
  have a2 : T ≠ C := fun e => by
    rw [e, hC] at ho; cases ho
    rw [hdC] at hdT; cases hdT
  exact ⟨oe, vs, T, oT, ts, (sb a a1).trans he, hz, hd, h1, hB T hT, ne, (sb T a2).trans ho, hdT, h3⟩
/-- out of a call in the element: the block of names is let go, the exception is in the def's own air -/
theorem noted_call {E : XK} (tk : Takes X (fun cls d _ H => E cls d H)) (hs : X.stack = X.env :: X.outer) (hf : X.env.frame = some X.env.locals) {pins pins' : List (Addr × Obj)} {σ σ9 : L2.St} {H3 H9 : Hp} {s3 s9 s' : Shared} (I3 : Inv X pins σ H3 s3)
    {scope : Scope} {ce : Env} {fp : List Addr} {xe : Value → Shared → Prop} {pn : List (Addr × Obj)} (hcf : ce.frame = X.env.frame) (hCn : s3.heap.get? ce.locals = none) (hCs : ce.locals ∉ frs X.stack)
    (hfp : ∀ b ∈ fp, (b ∈ X.ex ∨ X.s_0.heap.objs.size ≤ b) ∧ b ≠ X.env.locals ∧ (∀ x c, X.env.cells.lookup x = some c → c ≠ b) ∧ ∀ p ∈ X.pn ++ pins, p.1 ≠ b)
    (I9 : Inv ((X.blk s3 H3 scope ce fp).tr pn xe) pins' σ9 H9 s9) {u : Value} (c : L2.CX X.prog X.w X.stack H9 s9 E u s') :
    notedBy (model X.prog X.w) X.A ce (CompFails (model X.prog X.w) X.A X.xe ce) u s' := by
  obtain ⟨a, B, H', cls, d, rfl, fl, hok, ub, na, os, ag, hE⟩ := c
  have hfr : X.A.frames = some (X.env :: X.outer) := by rw [I3.ok.frames, hs]
  obtain ⟨m, hn, _⟩ := I9.loc
  have hn : s9.heap.Ns ce.locals m := hn
  have free9 : H9 ce.locals = none := I9.free
  have b9 : Un (frs X.stack) fp H3 H9 s3.heap s9.heap := I9.base
  have os9 : s9.os = s3.os := I9.os
  show wpAny _ _ (noteFrame (.ref a) ce) _ _ s'
  rw [PySem.noteFrame_env _ hcf]
  have fl1 : HandSPX.FlyingZ B (X.env :: X.outer) a (Zc cls d) s'.heap := by rw [← hs]; exact fl
  refine HandSPX.looks_onZ Zc.steady hfr hf fl1 fun h1 hh up1 => ?_
  obtain ⟨k1, k2, k3, k4⟩ := hh
  have nB : B.get? ce.locals ≠ none ∧ s'.heap.Ns ce.locals m ∧ H' ce.locals = none := by
    obtain ⟨o, es, ep, ho, hd, r⟩ := hn
    have e := ub.keep _ o ho free9 hCs
    exact ⟨by rw [e]; simp, ⟨o, es, ep, fl.1 _ o e, hd, r⟩, ub.free _ o ho free9⟩
  have hn2 : h1.Ns ce.locals m := ns_slots nB.2.1 fun o e nf => up1 _ o e nf
  refine ⟨m, hn2, fun h2 m2 hn3 sb => ?_⟩
  obtain ⟨B', eB⟩ : ∃ B', B' = PySem.W.hideAll B [ce.locals] := ⟨_, rfl⟩
  have toB : ∀ b o, b ≠ ce.locals → B.get? b = some o → B'.get? b = some o := fun b o ne e => by
    rw [eB]; exact PySem.W.hideAll_get _ e (by simpa using ne)
  have ofB : ∀ b o, B'.get? b = some o → B.get? b = some o ∧ b ≠ ce.locals := fun b o e => by
    rw [eB] at e
    refine ⟨PySem.W.of_hideAll _ e, fun z => ?_⟩
    rw [z, PySem.W.hideAll_none _ (List.mem_singleton.mpr rfl)] at e
    cases e
  have noB : ∀ b, B.get? b = none → B'.get? b = none := fun b e => by
    cases q : B'.get? b with
    | none => rfl
    | some o => rw [(ofB b o q).1] at e; cases e
  have st2 : B'.StaysIn h2 := fun b o e => by
    obtain ⟨e1, ne⟩ := ofB b o e
    exact (sb.2 b ne).trans (k1 b o e1)
  have ff2 : h2.FunFrames B' (X.env :: X.outer) := funFrames_none (Heap.FunFrames.sameBut sb hn3 k3) fun L hL => noB L (k3.mem hL).1
  have tr2 := traced_but (B' := B') k4 hn2 sb.2 noB
  obtain ⟨oe, vs, T, oT, ts, he, hz, hd, h1', r2⟩ := id tr2
  unfold PySem.passOn
  refine wpAny_bind (wpAny_field he hd h1' ?_)
  rw [if_neg (show ¬ ((Value.ref T == Value.none) = true) from by simp), hcf, hf]
  refine wpAny_bind (HandSPX.setFlight_onZ (l := X.env :: X.outer) (L := X.env.locals) ⟨st2, noB a k2, ff2, tr2⟩ fun h3 hh3 up3 => ?_)
  refine wpAny_throw ?_
  refine tk _ _ ?_
  obtain ⟨G, g1, g2⟩ := restrict h3 fun b => (B'.get? b).isSome || decide (b ∈ frs X.stack)
  have st3 : B'.StaysIn h3 := hh3.1
  have gB : ∀ b o, B'.get? b = some o → G.get? b = some o := fun b o e => by
    rw [g1 b (by simp [e])]
    exact st3 b o e
  have gF : ∀ b, b ∈ frs X.stack → G.get? b = h3.get? b := fun b hb => g1 b (by simp [hb])
  have og : ∀ b o, G.get? b = some o → h3.get? b = some o ∧ ((B'.get? b).isSome = true ∨ b ∈ frs X.stack) := fun b o e => by
    cases q : ((B'.get? b).isSome || decide (b ∈ frs X.stack)) with
    | false => rw [g2 b q] at e; cases e
    | true =>
      rw [g1 b q] at e
      exact ⟨e, by simpa [Bool.or_eq_true] using q⟩
  have ne3 : ∀ b o, s3.heap.get? b = some o → b ≠ ce.locals := fun b o e z => by rw [z, hCn] at e; cases e
  have far : ∀ b o, s9.heap.get? b = some o → b ∈ frs X.stack → (∀ vs, o.data ≠ .fields vs) → ∃ sl, G.get? b = some { o with slots := sl } := fun b o e hb nf => by
    obtain ⟨sl, e1⟩ := ub.slot b o e hb
    obtain ⟨sl1, e2⟩ := up1 b _ e1 nf
    have e3 := (sb.2 b fun z => hCs (by rw [← z]; exact hb)).trans e2
    obtain ⟨sl2, e4⟩ := up3 b _ e3 nf
    exact ⟨sl2, by rw [gF b hb]; exact e4⟩
  have nfS : ∀ b ∈ frs X.stack, ∀ o, s3.heap.get? b = some o → ∀ vs, o.data ≠ .fields vs := fun b hb o e => by
    obtain ⟨_, o', e', hd⟩ := I3.stack.mem hb
    rw [e] at e'; cases e'
    exact hd
  refine ⟨a, B', { s' with heap := G }, pins, σ, H', cls, d, rfl, ?_, fun b o e hb => ?_, Heap.UpToSlots.of_keeps fun b o e => (og b o e).1, .inr (.inr (by rw [hs]; exact hh3)), na, rfl, ag, hE⟩
  · refine I3.call' (ch := fp) (os.trans os9) ⟨fun b o e n hb hx => ?_, fun b o e n hb hx => ?_, fun b o e n hx => ?_, fun b o e hx => ?_, fun b xs e => ub.tups b xs (b9.tups b xs e), fun b o xs e => ?_, fun b ps e => ?_⟩ ?_ ag hfp
    · exact gB b o (toB b o (ne3 b o e) (ub.keep b o (b9.keep b o e n hb hx) (b9.free b o e n hx) hb))
    · obtain ⟨sl, e1⟩ := b9.slot b o e n hb hx
      obtain ⟨sl2, e3⟩ := far b _ e1 hb (nfS b hb o e)
      exact ⟨sl2, e3⟩
    · obtain ⟨o1, e1⟩ := b9.there b o e hx
      exact ub.free b o1 e1 (b9.free b o e n hx)
    · obtain ⟨o1, e1⟩ := b9.there b o e hx
      by_cases hb : b ∈ frs X.stack
      · cases hH : H3 b with
        | none =>
          obtain ⟨sl, e2⟩ := b9.slot b o e hH hb hx
          obtain ⟨sl2, e3⟩ := far b _ e2 hb (nfS b hb o e)
          exact ⟨_, e3⟩
        | some w =>
          have z := I3.stkFree b hb
          rw [hH] at z; cases z
      · obtain ⟨o2, e2⟩ := ub.there b o1 e1 hb
        exact ⟨o2, gB b o2 (toB b o2 (ne3 b o e) e2)⟩
    · exact ub.frzs b o xs (b9.frzs b o xs e)
    · obtain ⟨m1, e1⟩ := b9.tbls b ps e
      obtain ⟨m2, e2⟩ := ub.tbls b _ e1
      exact ⟨m1 ++ m2, by rw [e2, Array.append_assoc]⟩
    · refine HOk.kept (h := B') (fun b o q => (hok b o q).stay (fun c u hc r => toB c u (fun z => ?_) r) (fun _ r => r) fun _ _ r => r) gB
      rcases hc with hc | hc
      · rw [hc] at z
        rw [z, nB.2.2] at q; cases q
      · rw [z, nB.2.2] at hc; cases hc
  · obtain ⟨e1, h⟩ := og b o e
    rcases h with h | h
    · obtain ⟨o', q⟩ := Option.isSome_iff_exists.mp h
      have z := st3 b o' q
      rw [e1] at z; cases z
      exact q
    · exact absurd h hb
/-- [elt for tg in iter if ..] as a value, where a call in elt may raise -/
theorem pe_lcX {E : XK} (tk : Takes X (fun cls d _ H => E cls d H)) (hst : X.stack = X.env :: X.outer) (hfr : X.env.frame = some X.env.locals) {elt tg iter : Expr} {ifs : List Expr} {scope : Scope} {own : List (Str × Nat)} {pos : Pos} {wi : TI} {g : TG} {tt : TT} {te : TE}
    (hc : X.calm = true) (hN : X.N.Nodup) (hi : PI X tg iter wi) (ok : BlkOk X.N X.env.scope scope own)
    (hg : ∀ (s : Shared) (H : Hp) (C : Addr) (cl : List (Str × Addr)) (fp : List Addr), PG (X.blk s H scope (compEnvC scope cl C X.env) fp) tg g) (ht : ∀ (s : Shared) (H : Hp) (C : Addr) (cl : List (Str × Addr)) (fp : List Addr), PTs (X.blk s H scope (compEnvC scope cl C X.env) fp) ifs tt)
    (he : ∀ (s : Shared) (H : Hp) (C : Addr) (cl : List (Str × Addr)) (fp : List Addr) (pn : List (Addr × Obj)) (xe : Value → Shared → Prop), (∀ σ, PassesAt (L2.CX X.prog X.w) ((X.blk s H scope (compEnvC scope cl C X.env) fp).tr pn xe) σ E) → PE ((X.blk s H scope (compEnvC scope cl C X.env) fp).tr pn xe) elt te)
    (hs : ∀ x, foldedSetIterable iter X.env x = pure x := by intro _; rfl) :
    PE X (.ListComp elt [⟨tg, iter, ifs, 0⟩] scope pos) (tLc wi g tt te (own.map (·.2))) := by
  refine ⟨fun pins s σ H Q I h => ?_⟩
  rw [eval_ListComp]
  have hfree : ∀ y ∈ scope.names, y.2 = .free → ∃ c, X.env.cells.lookup y.1 = some c := fun y hy e => by
    rcases ok.free y hy e with k | k
    · exact I.ok.has _ (.inl k)
    · exact I.ok.has _ (.inr k)
  refine comprehension_at (use := none) rfl hs (closure_ok hfree) ok.kind (fun y hy e => by rw [ok.uniq y hy, e]) (thn (hi.run pins s σ H _ I h) fun xv s1 hx => thn hx fun itv s2 h2 => ?_)
  obtain ⟨it, fp, tn, J, H2, rfl, I2, T, st2, f2, q⟩ := h2
  refine wpAny_newObj_type (newEnv_comp ?_) (by show 0 ≤ sizeLine; decide)
  obtain ⟨D, hD⟩ : ∃ D, D = s2.heap.objs.size := ⟨_, rfl⟩
  obtain ⟨W, ⟨m0, w0⟩, turn⟩ := q D (I2.hok.fresh (Nat.le_of_eq hD.symm))
  obtain ⟨s3, hs3⟩ : ∃ s3 : Shared, s3 = { s2 with heap := s2.heap.push { cls := .type "list", data := .seq ([] : List Value).toArray } } := ⟨_, rfl⟩
  obtain ⟨H3, hH3⟩ : ∃ H3 : Hp, H3 = upd H2 D (.lst []) := ⟨_, rfl⟩
  have h3 : s3.heap = s2.heap.push { cls := .type "list", data := .seq ([] : List Value).toArray } := by rw [hs3]
  have I3 : Inv X pins σ H3 s3 := by
    rw [hs3, hH3]
    refine I2.laid (t' := s2.toks) (fun b o e => Heap.get?_push_of_some _ e) (Nat.le_of_eq hD.symm) ⟨Nat.zero_le _, [], 0, .nil, ?_⟩
    rw [hD]
    exact Heap.get?_push_size _ rfl
  have f3 : ∀ b ∈ fp, FpOk X pins H3 b ∧ b < s3.heap.objs.size := fun b hb => by
    obtain ⟨o, e, _⟩ := T.obj _ _ st2 b hb
    have hlt := Heap.lt_size e
    refine ⟨⟨?_, (f2 b hb).2⟩, by rw [h3, Heap.size_push]; exact Nat.lt_succ_of_lt hlt⟩
    rw [hH3, upd_ne (by rw [hD]; exact Nat.ne_of_lt hlt)]
    exact (f2 b hb).1
  have st3 : tn 0 s3.heap := T.keep _ _ _ st2 fun b _ o e => by rw [h3]; exact Heap.get?_push_of_some _ e
  have I4 := block_start I3 ok hN f3
  obtain ⟨cl, hcl⟩ : ∃ cl, cl = cellsFrom (s3.heap.objs.size + 1) scope.names (cloFrom X.env.cells scope.names []) := ⟨_, rfl⟩
  obtain ⟨ce, hce⟩ : ∃ ce, ce = compEnvC scope cl s3.heap.objs.size X.env := ⟨_, rfl⟩
  obtain ⟨s4, hs4⟩ : ∃ s4 : Shared, s4 = { s3 with heap := pushCells (s3.heap.push { cls := .type "dict", data := .dict #[] }) scope.names } := ⟨_, rfl⟩
  have pg := hg s3 H3 s3.heap.objs.size cl fp
  have pt := ht s3 H3 s3.heap.objs.size cl fp
  have pe := he s3 H3 s3.heap.objs.size cl fp
  rw [← hcl, ← hce, ← hs4] at I4
  rw [← hce] at pg pt pe
  have cL : ce.locals = s3.heap.objs.size := by rw [hce]; rfl
  have cF : ce.frame = X.env.frame := by rw [hce]; rfl
  have hCn : s3.heap.get? ce.locals = none := by
    cases e : s3.heap.get? ce.locals with
    | none => rfl
    | some o =>
      have := Heap.lt_size e
      rw [cL] at this
      exact absurd this (Nat.lt_irrefl _)
  have hCs : ce.locals ∉ frs X.stack := fun z => by
    obtain ⟨_, o, e, _⟩ := I3.stack.mem z
    rw [hCn] at e; cases e
  have fpX : ∀ b ∈ fp, (b ∈ X.ex ∨ X.s_0.heap.objs.size ≤ b) ∧ b ≠ X.env.locals ∧ (∀ x c, X.env.cells.lookup x = some c → c ≠ b) ∧ ∀ p ∈ X.pn ++ pins, p.1 ≠ b := fun b hb => ⟨(f3 b hb).1.2.2.2.1, (f3 b hb).1.2.1, (f3 b hb).1.2.2.2.2.1, (f3 b hb).1.2.2.2.2.2⟩
  suffices loop : codeAny (model X.prog X.w) X.A (.compLoop (.ListComp elt [⟨tg, iter, ifs, 0⟩] scope pos) 0 (.ref it) (.ref D) ce) (compEnds (model X.prog X.w) X.A X.xe none (fun v s' => EP X pins σ Q v s') (.ref D) ce) s4 by
    have st4 : tn 0 s4.heap := T.keep _ _ _ st3 fun b _ o e => by rw [hs4]; exact pushCells_keeps _ _ _ _ (Heap.get?_push_of_some _ e)
    have fin := codeAny_compStart_list loop (T.self X.A 0 _ _ _ st4 loop)
    rw [hD, hce, hcl, hs4, hs3] at fin
    exact fin
  have st4 : tn 0 s4.heap := T.keep _ _ _ st3 fun b _ o e => by rw [hs4]; exact pushCells_keeps _ _ _ _ (Heap.get?_push_of_some _ e)
  have stat : ∀ {σ' : L2.St} {H' : Hp} {s' : Shared}, Inv (X.blk s3 H3 scope ce fp) [] σ' H' s' → (∀ b ∈ fp, H' b = none) → ∀ b ∈ fp, FpOk (X.blk s3 H3 scope ce fp) [] H' b := fun {σ' H' s'} I' hn b hb =>
    ⟨hn b hb, (I'.ok.exf b hb).1, I'.ok.exfs b hb, .inl hb, fun x c e => (I'.ok.exf b hb).2 x c e, fun p hp => absurd (show p ∈ ([] : List (Addr × Obj)) ++ [] from hp) (by simp)⟩
  rw [← hH3] at w0
  refine compLoop_any (fun n s' => ∃ i H', Inv (X.blk s3 H3 scope ce fp) [] (wipe σ (own.map (·.2))) H' s' ∧ tn i s'.heap ∧ (∀ b ∈ fp, H' b = none) ∧ W i n H') ?_ m0 ⟨0, H3, I4, st4, fun b hb => (f3 b hb).1.1, w0⟩
  rintro n s5 ⟨i, H5, I5, st5, n5, w5⟩
  rcases turn i n H5 w5 with ⟨stop, qq⟩ | ⟨go, Nx, hNx, step⟩
  · refine thnF (T.done (X.blk s3 H3 scope ce fp) rfl rfl rfl hc i [] s5 _ H5 (fun _ _ => False) I5 (stat I5 n5) st5 stop) fun r s6 ⟨hr, I6⟩ => ?_
    subst hr
    have I7 : Inv X pins σ H5 s6 := I3.call' (ch := fp) I6.os I6.base I6.hok I6.bare fpX
    obtain ⟨m, hn, _⟩ := I6.loc
    have nC : H5 ce.locals = none := I6.free
    have hn : s6.heap.Ns ce.locals m := hn
    obtain ⟨f0, f1, f2, f3, f4, f5⟩ := (I3.fpOk (H' := H5) (b := ce.locals) (Nat.le_of_eq cL.symm) nC : FpOk X pins H5 ce.locals)
    exact ⟨m, hn, fun h'' sb => ⟨.ref D, H5, I7.turned (t' := s6.toks) (fun b o hb e => (sb.2 b hb).trans e) f0 f1 f3 f4 f5, rfl, qq⟩⟩
  · refine thnF (T.item (X.blk s3 H3 scope ce fp) rfl rfl rfl hc i [] s5 _ H5 (fun _ _ => False) I5 (stat I5 n5) st5 go) fun r s6 ⟨u, hr, h6⟩ => ?_
    subst hr
    refine thnF h6 fun _ s7 ⟨x, H7, I7, r7, y7, st7, n7⟩ => ?_
    have I7' := I7.pinned (stat I7 n7) (T.obj _ _ st7)
    refine thnF (pg.run _ s7 _ H7 x u _ I7' r7 (step x H7 y7)) fun _ s8 ⟨σ8, H8, I8, hw8, q8⟩ => ?_
    refine thnF (pt.run _ s8 σ8 H8 _ I8 q8) fun b s9 ⟨H9, I9, q9⟩ => ?_
    have back : ∀ {s' : Shared} {H' : Hp}, Inv (X.blk s3 H3 scope ce fp) ([] ++ pinsAt fp s7.heap) σ8 H' s' → Nx H' → ∃ m, m < n ∧ ∃ i H', Inv (X.blk s3 H3 scope ce fp) [] (wipe σ (own.map (·.2))) H' s' ∧ tn i s'.heap ∧ (∀ b ∈ fp, H' b = none) ∧ W i m H' := fun {s' H'} I' nx => by
      obtain ⟨m', hm, w'⟩ := hNx H' nx
      have pin' : ∀ b ∈ fp, ∀ o, s7.heap.get? b = some o → s'.heap.get? b = some o ∧ H' b = none := fun b hb o e =>
        let z := I'.pin (b, o) (List.mem_append_right _ (List.mem_append_right _ (mem_pinsAt hb e)))
        ⟨z.1, z.2.1⟩
      refine ⟨m', hm, i + 1, H', (I'.unpinned (pins := [])).weak (by rw [← hw8, wipe_length]) (fun j v e => ?_), T.keep _ _ _ st7 fun b hb o e => (pin' b hb o e).1, fun b hb => ?_, w'⟩
      · rw [← hw8] at e
        exact (wipe_some e).1
      · obtain ⟨o, e, _⟩ := T.obj _ _ st7 b hb
        exact (pin' b hb o e).2
    cases b with
    | false =>
      simp only [Bool.false_eq_true, if_false] at q9 ⊢
      exact back I9 q9
    | true =>
      simp only [if_true] at q9 ⊢
      have okB := I9.ok
      have pe' := pe ((X.blk s3 H3 scope ce fp).pn ++ ([] ++ pinsAt fp s7.heap)) (notedBy (model X.prog X.w) X.A ce fun e s' => compEnds (model X.prog X.w) X.A X.xe none (fun v s' => EP X pins σ Q v s') (.ref D) ce (.error e) s')
        fun σ' pins' H' s' e s'' I' c' => noted_call tk hst hfr I3 cF hCn hCs fpX I' c'
      refine wpAny_mono (pe'.run [] s9 σ8 H9 _ (I9.toTry _) q9) ?_ fun _ _ z => z
      rintro z s10 ⟨yv, H10, I10, r10, acc, hD10, hz10, nx⟩
      exact app_ok (X := X.blk s3 H3 scope ce fp) (I10.ofTry okB) hD10 hz10 r10 fun s11 I11 => back I11 nx
end
end Y

set_option Elab.async false
set_option linter.all false
set_option maxRecDepth 100000
set_option maxHeartbeats 1000000
namespace Y
open PySem PySem.Spec PyProof.Rows L2
/-! ### tuple * k for any k -/
theorem tup_mul1 (l : Addr) (items : Array Value) (n : Nat) (dd : Option Addr) (sl : Array (Option Value)) (x : Int) (u : Tok) (h1 : x = 1) :
    Meets (Builtin.«tuple.__mul__» ⟨[.ref l, .int x u], []⟩) (fun _ R s => s.heap.get? l = some { cls := .type "tuple", dict := dd, data := .seq items n, slots := sl } ∧ R (.ok (.ret (.ref l))) s) :=
  .of_wp fun prog w A R s h => by
    subst h1
    obtain ⟨hp, g, d, tk, os⟩ := s; obtain ⟨hl, h⟩ := h
    wp_walk
    exact ⟨_, rfl, h⟩
theorem tup_mul0 (l : Addr) (items : Array Value) (n : Nat) (dd : Option Addr) (sl : Array (Option Value)) (x : Int) (u : Tok) (h1 : x ≤ 0) (h2 : -(2 ^ 63) ≤ x) (h3 : items.isEmpty = false) :
    Meets (Builtin.«tuple.__mul__» ⟨[.ref l, .int x u], []⟩) (fun _ R s => s.heap.get? l = some { cls := .type "tuple", dict := dd, data := .seq items n, slots := sl } ∧ R (.ok (.ret (Value.ref s.heap.objs.size))) { s with heap := s.heap.push { cls := Value.type "tuple", data := Data.seq #[] }, toks := s.toks }) :=
  .of_wp fun prog w A R s h => by
    obtain ⟨hp, g, d, tk, os⟩ := s; obtain ⟨hl, h⟩ := h
    wp_walk
    refine wpAny_ite_false (by rw [decide_eq_false (show ¬ x < -2 ^ 63 by omega), decide_eq_false (show ¬ x ≥ 2 ^ 63 by omega)]; rfl) ?_
    wp_walk
    refine wpAny_ite_false (by rw [h3, show (x == 1) = false from by simp; omega]; rfl) ?_
    wp_walk
    exact ⟨_, rfl, h⟩
theorem int_rmulT (a : Int) (t : Tok) (l : Addr) (items : Array Value) (n : Nat) (dd : Option Addr) (sl : Array (Option Value)) :
    Meets (Builtin.«int.__rmul__» ⟨[.int a t, .ref l], []⟩) (fun _ R s => s.heap.get? l = some { cls := .type "tuple", dict := dd, data := .seq items n, slots := sl } ∧ R (.ok (.ret Value.notImplemented)) s) :=
  .of_wp fun prog w A R s h => by obtain ⟨hp, g, d, tk, os⟩ := s; obtain ⟨hl, h⟩ := h; wp_walk; exact ⟨_, rfl, h⟩
def rRepTA (K : PySem.W.Frag) : R2 := fun x y H Q => ∃ l k xs, x = .ref l ∧ y = .int k ∧ SqT K H l xs ∧ xs ≠ [] ∧ -(2 ^ 62) ≤ k ∧ k ≤ 1000 ∧ xs.length ≤ 1000 ∧ (k = 1 → Q (.ref l) H) ∧ (k ≠ 1 → NwT (List.replicate k.toNat xs).flatten H Q)
theorem op_repTA {X : Cx} : OpR X (binaryOp .Mult) (rRepTA X.K) := by
  intro pins s σ H x y v u Q I rx ry h
  obtain ⟨l, k, xs, rfl, rfl, hH, hne, h1, h2, hl, q1, q2⟩ := h
  by_cases c2 : 2 ≤ k
  · exact op_repT pins s σ H _ _ v u Q I rx ry ⟨l, k, xs, rfl, rfl, hH, hne, c2, h2, hl, fun p hp => q2 (by omega) p hp⟩
  · cases rx
    obtain ⟨t, rfl⟩ := ry
    obtain ⟨its, r, p1, z⟩ := I.tuple hH
    obtain ⟨⟨cls, dd, data, sl⟩, e, hc, n, hd⟩ := p1
    simp only at hc hd
    subst hc hd
    refine wpAny_binaryOp_repeat_ref (T := "tuple") (U := "int") (by decide) ⟨_, e, rfl⟩ (fun s' => typeIs_int s' k t) noFill_tuple_mul F.fills_int_mul F.slot_int_rmul repeat_tuple F.slot_int_index.lookup
      (call_meets F.slot_int_rmul (typeIs_int s k t) F.entry_int_rmul (F.args_int_rmul_2 _ _) (int_rmulT k t l its.toArray n dd sl) ⟨e, rfl, ⟨_, e, rfl⟩, ?_⟩)
    by_cases c1 : k = 1
    · exact call_meets F.slot_tuple_mul ⟨_, e, rfl⟩ F.entry_tuple_mul (F.args_tuple_mul_2 _ _) (tup_mul1 l its.toArray n dd sl k t c1) ⟨e, .ref l, _, I, rfl, q1 c1⟩
    · have hits : its.toArray.isEmpty = false := by
        cases its with
        | nil => cases r; exact absurd rfl hne
        | cons a b => simp
      refine call_meets F.slot_tuple_mul ⟨_, e, rfl⟩ F.entry_tuple_mul (F.args_tuple_mul_2 _ _) (tup_mul0 l its.toArray n dd sl k t (by omega) (by omega) hits) ⟨e, ?_⟩
      have hk : k.toNat = 0 := by omega
      have q := q2 c1
      rw [hk] at q
      exact ⟨.ref _, _, Inv.laid I (fun x x_1 q => Heap.get?_push_of_some { cls := Value.type "tuple", data := Data.seq #[] } q) (Nat.le_refl s.heap.objs.size) (show ObjOk X.prog X.w (upd H s.heap.objs.size (HO.tup [])) (s.heap.push { cls := Value.type "tuple", data := Data.seq #[] }) s.heap.objs.size (HO.tup []) from ⟨Nat.zero_le _, [], .nil, ⟨_, Heap.get?_push_size s.heap rfl, rfl, 0, rfl⟩⟩), rfl, q _ I.fresh⟩
section
variable {K : PySem.W.Frag} {B H : Hp} {Q : VK} {p q : Addr} {l : List D} {k : Int}
theorem h_repTA (w : Ex B H) (r : Rep K B (.ref p) (.tup (l.map Enc.enc))) (hz : 1 ≤ l.length ∧ l.length ≤ 1000 ∧ -(2 ^ 62) ≤ k ∧ k ≤ 1000) (h : ∀ u B' H', Stp [] B H B' H' → Rep K B' u (.tup ((timesL l k).map Enc.enc)) → Q u H') : rRepTA K (.ref p) (.int k) H Q := by
  obtain ⟨p', xs, e, s1, rr⟩ := r.st w
  cases e
  have hl : xs.length = l.length := by rw [rr.length, List.length_map]
  refine ⟨p, k, xs, rfl, rfl, s1, fun e => ?_, hz.2.2.1, hz.2.2.2, by rw [hl]; exact hz.2.1, fun e => ?_, fun _ p2 hp2 => ?_⟩
  · subst e
    have := hz.1
    rw [← hl] at this
    exact absurd this (by decide)
  · subst e
    refine h _ _ _ (Stp.refl w) ?_
    have e : timesL l 1 = l := by
      show (List.replicate 1 l).flatten = l
      simp
    rw [e]
    exact r
  · exact h _ _ _ (Stp.new w hp2) (.tup (SqT.of upd_same) ((rr.times k).mono (Ex.new (w.none hp2))))
end
/-! ### tuple.index of texts -/
structure TI (K : PySem.W.Frag) (C : Addr) : Prop where
  h : ∃ o, K.lookup C = some o ∧ o.cls = .type "tuple" ∧ o.dict = none
def rTupIx (K : PySem.W.Frag) : V → List V → Hp → VK → Prop := fun x xs H Q => ∃ p, ∃ ys : List Str, ∃ z j, x = .ref p ∧ xs = [.str z] ∧ SqT K H p (ys.map V.str) ∧ ys[j]? = some z ∧ (∀ m, m < j → ys[m]? ≠ some z) ∧ Q (.int ↑(j : Nat)) H
theorem mt_tupIx {X : Cx} : MtR X "tuple.index" (rTupIx X.K) := mt_tup_index
def idxN : List Str → Str → Option Nat
  | [], _ => none
  | a :: l, z => if a = z then some 0 else (idxN l z).map (· + 1)
theorem idxN_some : ∀ {l : List Str} {z : Str} {j : Nat}, idxN l z = some j → l[j]? = some z ∧ ∀ m, m < j → l[m]? ≠ some z
  | [], _, _, h => nomatch h
  | a :: l, z, j, h => by
    unfold idxN at h
    by_cases c : a = z
    · rw [if_pos c] at h
      cases h
      exact ⟨by rw [← c]; rfl, fun m hm => absurd hm (Nat.not_lt_zero _)⟩
    · rw [if_neg c] at h
      cases e : idxN l z with
      | none => rw [e] at h; exact nomatch h
      | some i =>
        rw [e] at h
        cases h
        obtain ⟨h1, h2⟩ := idxN_some e
        refine ⟨h1, fun m hm => ?_⟩
        cases m with
        | zero => exact fun q => c (Option.some.inj q)
        | succ m => exact h2 m (Nat.lt_of_succ_lt_succ hm)
def idxR (l : List Str) (z : Str) : Res Int := match idxN l z with | some j => .ok (j : Int) | none => .stuck
def Idx (l : List Str) (z : Str) (i : Int) : Prop := ∃ j : Nat, idxN l z = some j ∧ i = (j : Int)
theorem Post.idx {α : Type} {l : List Str} {z : Str} {f : Int → Res α} {R : α → Prop} {E : Err → Prop} (P : Post ((idxR l z).bind f) R E) : ∃ i, Idx l z i ∧ Post (f i) R E := by
  unfold idxR at P
  cases e : idxN l z with
  | none => rw [e] at P; exact P.elim
  | some j => rw [e] at P; exact ⟨_, ⟨j, e, rfl⟩, P⟩
theorem RepL.strs {K : PySem.W.Frag} {B : Hp} : ∀ {xs : List V} {l : List Str}, RepL K B xs (l.map Enc.enc) → xs = l.map V.str
  | _, [], .nil => rfl
  | _, a :: l, .cons h t => by
    cases h
    rw [RepL.strs t]
    rfl
section
variable {K : PySem.W.Frag} {B H : Hp} {σ : L2.St} {Q : VK} {p : Addr} {xs : List V} {l : List Str} {z : Str} {i : Int} {t : TA} {r : V → List V → Hp → VK → Prop}
theorem h_bmT (ti : TI K p) (h : t σ H fun xs H2 => r (.ref p) xs H2 Q) : Bm K "tuple" r t σ (.ref p) H Q := ⟨.inr (.inl ⟨rfl, ti.h⟩), h⟩
theorem h_tupIx (hs : SqT K H p xs) (hr : RepL K B xs (l.map Enc.enc)) (hj : Idx l z i) (h : Q (.int i) H) : rTupIx K (.ref p) [.str z] H Q := by
  obtain ⟨j, hj, rfl⟩ := hj
  obtain ⟨h1, h2⟩ := idxN_some hj
  cases RepL.strs hr
  exact ⟨p, l, z, j, rfl, rfl, hs, h1, h2, h⟩
end
/-! ### a display with text keys, d[x] -/
def valD (ds : List (Key × D)) (k : Key) : Option D := (ds.find? fun kv => decide (kv.1 = k)).map (·.2)
def dgR (ds : List (Key × D)) (k : Key) : Res D := match valD ds k with | some d => .ok d | none => .stuck
theorem Post.dg {α : Type} {ds : List (Key × D)} {k : Key} {f : D → Res α} {R : α → Prop} {E : Err → Prop} (P : Post ((dgR ds k).bind f) R E) : ∃ d, valD ds k = Option.some d ∧ Post (f d) R E := by
  unfold dgR at P
  cases e : valD ds k with
  | none => rw [e] at P; exact P.elim
  | some j => rw [e] at P; exact ⟨_, rfl, P⟩
theorem RepK.val {K : PySem.W.Frag} {B : Hp} {k : Key} : ∀ {kvs : List (Key × V)} {ds : List (Key × D)} {d : D}, RepK K B kvs ds → valD ds k = some d → ∃ u, valV kvs k = some u ∧ Rep K B u d
  | _, _, _, .nil, h => nomatch h
  | _, _, d, .cons (k := k') (v := v) (d := d') (vs := vs) (ds := ds) h t, e => by
    unfold valD at e
    unfold valV
    rw [List.find?_cons] at e ⊢
    by_cases c : k' = k
    · rw [decide_eq_true c] at e ⊢
      cases e
      exact ⟨_, rfl, h⟩
    · rw [decide_eq_false c] at e ⊢
      exact RepK.val t e
def rDG : R2 := fun x y H Q => ∃ a v, x = .ref a ∧ DGet H a y (some v) ∧ Q v H
section
variable {K : PySem.W.Frag} {B H : Hp} {σ : L2.St} {Q : VK} {p : Addr} {z : Str} {d : D} {u : V} {td ty : TE} {ds : List (Key × D)}
theorem h_dg (h : td σ H fun x H1 => ty σ H1 fun y H2 => rDG x y H2 Q) : tDGet td ty σ H Q := h
theorem Rep.dg (w : Ex B H) (r : Rep K B (.ref p) (.dic ds)) (e : valD ds (.inr z) = some d) : ∃ u, DGet H p (.str z) (some u) ∧ Rep K B u d := by
  cases r with
  | dic h r =>
    obtain ⟨u, hu, ru⟩ := RepK.val r e
    exact ⟨u, .inl ⟨_, .inr z, .inl (w _ _ h), rfl, hu.symm⟩, ru⟩
theorem h_dgI (g : DGet H p (.str z) (some u)) (h : Q u H) : rDG (.ref p) (.str z) H Q := ⟨p, u, rfl, g, h⟩
variable {k1 k2 k3 v1 v2 v3 : TE} {x1 x2 x3 : Str} {y1 y2 y3 : V} {d1 d2 d3 : D}
theorem h_disp3S (a1 : ∀ (H' : Hp) (Q : VK), Q (.str x1) H' → k1 σ H' Q) (b1 : ∀ (H' : Hp) (Q : VK), Q y1 H' → v1 σ H' Q)
    (a2 : ∀ (H' : Hp) (Q : VK), Q (.str x2) H' → k2 σ H' Q) (b2 : ∀ (H' : Hp) (Q : VK), Q y2 H' → v2 σ H' Q)
    (a3 : ∀ (H' : Hp) (Q : VK), Q (.str x3) H' → k3 σ H' Q) (b3 : ∀ (H' : Hp) (Q : VK), Q y3 H' → v3 σ H' Q)
    (hn : x1 ≠ x2 ∧ x1 ≠ x3 ∧ x2 ≠ x3) (w : Ex B H) (r1 : Rep K B y1 d1) (r2 : Rep K B y2 d2) (r3 : Rep K B y3 d3)
    (h : ∀ p B' H', Stp [] B H B' H' → Rep K B' (.ref p) (.dic [(.inr x1, d1), (.inr x2, d2), (.inr x3, d3)]) → Q (.ref p) H') : tDisp [(k1, v1), (k2, v2), (k3, v3)] σ H Q := fun p hp => by
  show k1 σ (upd H p (.dK [])) _
  refine a1 _ _ (b1 _ _ ?_)
  show k2 σ (upd H p (.dK [])) _
  refine a2 _ _ (b2 _ _ ?_)
  show k3 σ (upd H p (.dK [])) _
  refine a3 _ _ (b3 _ _ ⟨upd_same, [(.inr x1, y1), (.inr x2, y2), (.inr x3, y3)], rfl, (by show 3 ≤ 15; decide), ?_⟩)
  have e : mergeK [] [((.inr x1 : Key), y1), (.inr x2, y2), (.inr x3, y3)] = [((.inr x1 : Key), y1), (.inr x2, y2), (.inr x3, y3)] := by
    have n1 : ¬ ((.inr x1 : Key) = .inr x2) := fun q => hn.1 (Sum.inr.inj q)
    have n2 : ¬ ((.inr x1 : Key) = .inr x3) := fun q => hn.2.1 (Sum.inr.inj q)
    have n3 : ¬ ((.inr x2 : Key) = .inr x3) := fun q => hn.2.2 (Sum.inr.inj q)
    simp [mergeK, putK, n1, n2, n3]
  rw [e, L2.upd_upd]
  have hb := w.none hp
  exact h p _ _ (Stp.new w hp) (.dic upd_same (.cons (r1.mono (Ex.new hb)) (.cons (r2.mono (Ex.new hb)) (.cons (r3.mono (Ex.new hb)) .nil))))
end
theorem pe_dgetY {X : Cx} {o i : Expr} {pos : Pos} {td ty : TE} (hu : X.A.units + 65 < cLine) (h1 : PE X o td) (h2 : PE X i ty) (hn : NoSl i) : PE X (o.Subscript i pos) (tDGet td ty) := pe_dget (by omega) h1 h2 hn
end Y

set_option Elab.async false
set_option linter.all false
set_option maxRecDepth 100000
set_option maxHeartbeats 4000000
namespace Y
open PySem PySem.Spec PyProof.Rows
open L2
open Enc (enc)
/-! # texts: their signs one by one, parts, places, numbers -/
/-- the signs of a text, each a text -/
def signsL (z : Str) : List Str := z.cps.toList.map fun c => (⟨#[c]⟩ : Str)
theorem signs_len (z : Str) : (signsL z).length = z.cps.size := by unfold signsL; rw [List.length_map, Array.length_toList]
section
variable {K : PySem.W.Frag} {B H : Hp} {σ : L2.St} {Q : VK} {g : TG} {tt : TT} {te to : TE} {β S R' : Type} {P : β → Prop} {R : Err → Prop}
def LcS (v : V) (g : TG) (tt : TT) (te : TE) (vs : List Nat) (σ : L2.St) (H : Hp) (Q : VK) : Prop := tLc (iStr (tC v)) g tt te vs σ H Q
theorem h_lcSE {vs : List Nat} {tl : TE} (h : tl σ H fun x H1 => LcS x g tt te vs σ H1 Q) : tLc (iStr tl) g tt te vs σ H Q := h
theorem h_lcS {z : Str} {s0 : S} {f : Str → S → Res (Option R' × S)} {k : List R' × S → Res β} {vs : List Nat} (hP : Post ((compR (signsL z) s0 f).bind k) P R)
    (J : Addr → List R' → S → Hp → Prop) (h0 : ∀ Dl, H Dl = none → J Dl [] s0 (upd H Dl (.lst [])))
    (hb : ∀ (Dl : Addr) (N : Hp → Prop) (T : Option R' × S → Prop) (x : Str) v acc s H', J Dl acc s H' → Rep K B v (enc x) → acc.length < sizeLine → (∀ b s' H2, J Dl (acc ++ [b]) s' H2 → T (some b, s') → N H2) → (∀ s' H2, J Dl acc s' H2 → T (none, s') → N H2) → Post (f x s) T R →
      g v (wipe σ vs) H' (LcT σ vs tt te Dl N))
    (hd : ∀ Dl acc s H', J Dl acc s H' → Post (k (acc, s)) P R → Q (.ref Dl) H') : LcS (.str z) g tt te vs σ H Q := by
  refine ⟨z, rfl, fun Dl hD => ?_⟩
  unfold compR at hP
  have hz : (signsL z).length ≤ 1000000 := by
    by_cases c : (signsL z).length ≤ 1000000
    · exact c
    · unfold guardR at hP; rw [if_neg c] at hP; exact hP.elim
  unfold guardR at hP
  rw [if_pos hz] at hP
  refine lc_it (n := z.cps.size) walk_str (fun i H' => ∃ acc s, J Dl acc s H' ∧ acc.length ≤ i ∧ Post ((compL ((signsL z).drop i) s f).bind fun q => k (acc ++ q.1, q.2)) P R) ⟨[], s0, h0 Dl hD, Nat.le_refl _, hP⟩ (fun i H' _ _ => trivial) ?_ ?_
  · rintro i v H' H2 hi ⟨acc, s, j, hn, q⟩ ⟨rfl, c, hc, rfl⟩
    have hx : (signsL z)[i]? = some (⟨#[c]⟩ : Str) := by
      unfold signsL
      rw [List.getElem?_map, Array.getElem?_toList, hc]
      rfl
    exact hb Dl _ _ _ _ acc s _ j (Rep.str _) (Nat.lt_of_le_of_lt (Nat.le_trans hn (Nat.le_trans (Nat.le_of_lt ((signs_len z).symm ▸ hi)) hz)) (by decide)) (fun b s' H2 j2 t2 => ⟨acc ++ [b], s', j2, by rw [List.length_append]; exact Nat.succ_le_succ hn, t2⟩) (fun s' H2 j2 t2 => ⟨acc, s', j2, Nat.le_succ_of_le hn, t2⟩) (q.compS hx)
  · rintro H' ⟨acc, s, j, _, q⟩
    rw [List.drop_eq_nil_of_le (by rw [signs_len]; exact Nat.le_refl _)] at q
    have q2 : Post (k (acc ++ [], s)) P R := q
    rw [List.append_nil] at q2
    exact hd Dl acc s H' j q2
end
/-! ## len, a sign, a part -/
def rLenS : List V → Hp → VK → Prop := fun xs H Q => ∃ z : Str, xs = [.str z] ∧ z.length ≤ sizeLine ∧ Q (.int z.length) H
theorem cr_lenS {X : Cx} : CallR X (.builtin "len") rLenS := call_len_str
theorem Post.ixm {α β : Type} {l : List α} {i : Int} {k : α → Res β} {P : β → Prop} {R : Err → Prop} (h : Post ((ixR l i).bind k) P R) : ∃ x, atI l i = Option.some x ∧ Post (k x) P R := h.ix
theorem atI_map {α β : Type} (f : α → β) (l : List α) (i : Int) : atI (l.map f) i = (atI l i).map f := by
  unfold atI
  rw [List.length_map]
  cases ixN l.length i with
  | none => rfl
  | some j => exact List.getElem?_map ..
section
variable {K : PySem.W.Frag} {B H : Hp} {Q : VK} {z x a b : Str} {i : Int} {lo hi : Option Int}
theorem h_lenS (hz : z.length ≤ 1000000) (h : Q (.int (z.length : Int)) H) : rLenS [.str z] H Q := ⟨z, rfl, Nat.le_trans hz (by decide), h⟩
theorem h_ixS (hz : z.length ≤ 1000000) (hx : atI (signsL z) i = some x) (h : Q (.str x) H) : rIxS (.str z) (.int i) H Q := by
  unfold signsL at hx
  rw [atI_map] at hx
  cases e : atI z.cps.toList i with
  | none => rw [e] at hx; cases hx
  | some c =>
    rw [e] at hx
    cases hx
    exact ⟨z, i, c, rfl, rfl, Nat.le_trans hz (by decide), e, h⟩
theorem h_slS (hz : z.length ≤ 1000000) (h : Q (.str (cutS z lo hi)) H) : rSlS (.str z) lo hi H Q := ⟨z, rfl, Nat.le_trans hz (by decide), h⟩
end
/-! ## a sign in a text -/
def inS (c z : Str) : Res Bool := match c.cps.toList with | [x] => .ok (decide (x ∈ z.cps.toList)) | _ => .stuck
def rInS : V → V → Hp → VK → Prop := fun x y H Q => ∃ (c : Nat) (z : Str), x = .str ⟨#[c]⟩ ∧ y = .str z ∧ Q (.bl (decide (c ∈ z.cps.toList))) H
def rNotInS : V → V → Hp → VK → Prop := fun x y H Q => ∃ (c : Nat) (z : Str), x = .str ⟨#[c]⟩ ∧ y = .str z ∧ Q (.bl (!decide (c ∈ z.cps.toList))) H
theorem op_inS {X : Cx} : OpR X (compareOp .In) rInS := op_in_sign
theorem op_notInS {X : Cx} : OpR X (compareOp .NotIn) rNotInS := op_notIn_sign
theorem Post.inS {β : Type} {c z : Str} {k : Bool → Res β} {P : β → Prop} {R : Err → Prop} (h : Post ((Y.inS c z).bind k) P R) : ∃ n b, c = (⟨#[n]⟩ : Str) ∧ b = decide (n ∈ z.cps.toList) ∧ Post (k b) P R := by
  unfold Y.inS at h
  obtain ⟨⟨cs⟩⟩ := c
  match cs with
  | [n] => exact ⟨n, _, rfl, rfl, h⟩
  | [] => exact h.elim
  | _ :: _ :: _ => exact h.elim
section
variable {H : Hp} {Q : VK} {z c : Str} {n : Nat} {b : Bool}
theorem h_inS (e : c = (⟨#[n]⟩ : Str)) (eb : b = decide (n ∈ z.cps.toList)) (h : Q (.bl b) H) : rInS (.str c) (.str z) H Q := by
  subst e eb
  exact ⟨n, z, rfl, rfl, h⟩
theorem h_notInS (e : c = (⟨#[n]⟩ : Str)) (eb : b = decide (n ∈ z.cps.toList)) (h : Q (.bl (!b)) H) : rNotInS (.str c) (.str z) H Q := by
  subst e eb
  exact ⟨n, z, rfl, rfl, h⟩
end
/-! ## parts, places, texts one behind the other -/
def partT (a b : Str) : Tp3 Str Str Str := ⟨(Txt.partition a b).1, (Txt.partition a b).2.1, (Txt.partition a b).2.2⟩
def rPart : V → List V → Hp → VK → Prop := fun x xs H Q => ∃ a b, x = .str a ∧ xs = [.str b] ∧ (b.length == 0) = false ∧ a.length ≤ sizeLine ∧
    ∀ p, H p = none → Q (.ref p) (upd H p (.tup [.str (Txt.partition a b).1, .str (Txt.partition a b).2.1, .str (Txt.partition a b).2.2]))
def index0 (x y : Str) : Option Nat := (Builtin.Str.occurrences x y 0 x.length 1).head?
def idxS (a b : Str) : Res Int := match index0 a b with | some k => .ok (k : Int) | none => .stuck
theorem Post.idxS {β : Type} {a b : Str} {k : Int → Res β} {P : β → Prop} {R : Err → Prop} (h : Post ((Y.idxS a b).bind k) P R) : ∃ n : Nat, ∃ i : Int, index0 a b = Option.some n ∧ i = (n : Int) ∧ Post (k i) P R := by
  unfold Y.idxS at h
  cases e : index0 a b with
  | none => rw [e] at h; exact h.elim
  | some n => rw [e] at h; exact ⟨n, _, rfl, rfl, h⟩
def rIdxS : V → List V → Hp → VK → Prop := fun x xs H Q => ∃ (a b : Str) (n : Nat), x = .str a ∧ xs = [.str b] ∧ index0 a b = some n ∧ Q (.int (n : Nat)) H
theorem mt_idxS {X : Cx} : MtR X "str.index" rIdxS := by
  intro pins s σ H x xs v us Q I rx rs h
  obtain ⟨a, b, n, rfl, rfl, hn, q⟩ := h
  obtain ⟨t, rfl⟩ := rx
  cases rs with
  | cons r1 rs =>
    cases rs
    obtain ⟨u, rfl⟩ := r1
    cases e : Builtin.Str.occurrences a b 0 a.length 1 with
    | nil => unfold index0 at hn; rw [e] at hn; cases hn
    | cons k rest =>
      unfold index0 at hn
      rw [e] at hn
      cases hn
      exact PySem.SC.index e ⟨.int (n : Nat), H, I.tok _, ⟨_, rfl⟩, q⟩
theorem pe_idxS {X : Cx} {o e : Expr} {to te : TE} {apos pos : Pos} (ho : PE X o to) (he : PE X e te) (hs : starEach [e] X.env = [(false, eval e X.env)] := by rfl) (hbase : attributeBase o "index" X.env (eval o X.env) = eval o X.env := by rfl) (hline : (apos.endLine == pos.line) = true := by rfl) :
    PE X (.Call (.Attribute o "index" apos) [e] [] pos) (tM1 rIdxS to te) := pe_m1 F.slot_str_index F.type_str_index mt_idxS ho he hs hbase hline
theorem pe_partS {X : Cx} {o e : Expr} {to te : TE} {apos pos : Pos} (ho : PE X o to) (he : PE X e te) (hs : starEach [e] X.env = [(false, eval e X.env)] := by rfl) (hbase : attributeBase o "partition" X.env (eval o X.env) = eval o X.env := by rfl) (hline : (apos.endLine == pos.line) = true := by rfl) :
    PE X (.Call (.Attribute o "partition" apos) [e] [] pos) (tM1 rPart to te) := pe_partition ho he hs hbase hline
def rJoinS (K : PySem.W.Frag) : V → List V → Hp → VK → Prop := fun x xs H Q => ∃ a p, ∃ ys : List Str, x = .str a ∧ xs = [.ref p] ∧ (SqL K H p (ys.map V.str) ∨ SqT K H p (ys.map V.str)) ∧
    (ys.map (·.length)).sum + ys.length * a.length ≤ 16777216 ∧ Q (.str (Txt.join a ys)) H
theorem pe_joinS {X : Cx} {o e : Expr} {to te : TE} {apos pos : Pos} (ho : PE X o to) (he : PE X e te) (hs : starEach [e] X.env = [(false, eval e X.env)] := by rfl) (hbase : attributeBase o "join" X.env (eval o X.env) = eval o X.env := by rfl) (hline : (apos.endLine == pos.line) = true := by rfl) :
    PE X (.Call (.Attribute o "join" apos) [e] [] pos) (tM1 (rJoinS X.K) to te) := pe_join ho he hs hbase hline
theorem RepL.of_strs {K : PySem.W.Frag} {B : Hp} : ∀ {vs : List V} {ns : List Str}, RepL K B vs (ns.map enc) → vs = ns.map V.str
  | [], [], _ => rfl
  | _ :: _, [], r => nomatch r
  | [], _ :: _, r => nomatch r
  | v :: vs, n :: ns, r => by
    have r' : RepL K B (v :: vs) (.str n :: ns.map enc) := r
    cases r' with
    | cons h t =>
      cases h
      rw [RepL.of_strs t]
      rfl
section
variable {K : PySem.W.Frag} {B H : Hp} {σ : L2.St} {Q : VK} {a b : Str} {p : Addr} {xs : List V} {to te : TE} {r : V → List V → Hp → VK → Prop} {l : List Str} {n : Nat} {i : Int}
theorem h_m1 (h : to σ H fun x H1 => (∃ a, x = .str a) ∧ te σ H1 fun y H2 => r x [y] H2 Q) : tM1 r to te σ H Q := h
theorem h_partS (w : Ex B H) (hb : b.length ≠ 0) (hz : a.length ≤ 1000000) (h : ∀ p B' H', Stp [] B H B' H' → Rep K B' (.ref p) (enc (partT a b)) → Q (.ref p) H') : rPart (.str a) [.str b] H Q :=
  ⟨a, b, rfl, rfl, beq_eq_false_iff_ne.mpr hb, Nat.le_trans hz (by decide), fun p hp => h p _ _ (Stp.new w hp) (.tup (SqT.of upd_same) (.cons (.str _) (.cons (.str _) (.cons (.str _) .nil))))⟩
theorem h_idxS (hn : index0 a b = some n) (e : i = (n : Int)) (h : Q (.int i) H) : rIdxS (.str a) [.str b] H Q := by
  subst e
  exact ⟨a, b, n, rfl, rfl, hn, h⟩
theorem h_joinTx (hs : SqL K H p xs) (hr : RepL K B xs (l.map enc)) (hz : (l.map Str.length).sum + l.length * a.length ≤ 1000000) (h : Q (.str (Txt.join a l)) H) : rJoinS K (.str a) [.ref p] H Q := by
  have e := RepL.of_strs hr
  subst e
  exact ⟨a, p, l, rfl, rfl, .inl hs, Nat.le_trans hz (by decide), h⟩
end
/-! ## text * int -/
def rMulS : V → V → Hp → VK → Prop := fun x y H Q => ∃ z i, x = .str z ∧ y = .int i ∧ MulOk z i ∧ Q (.str (Txt.mul z i)) H
theorem op_mulS {X : Cx} : OpR X (binaryOp .Mult) rMulS := by
  intro pins s σ H x y v u Q I rx ry h
  obtain ⟨z, i, rfl, rfl, hm, q⟩ := h
  obtain ⟨t, rfl⟩ := rx
  obtain ⟨t', rfl⟩ := ry
  exact PySem.SB.mul hm fun t' k => ⟨.str (Txt.mul z i), H, I.tok _, ⟨_, rfl⟩, q⟩
theorem mul_ok {z : Str} {i : Int} (hz : z.length * i.toNat ≤ 1000000 ∧ -(2 ^ 62) ≤ i ∧ i < 2 ^ 62) : MulOk z i := by
  obtain ⟨h1, h2, h3⟩ := hz
  refine ⟨?_, fun hi hn hc => ?_, fun hi hn => ?_⟩
  · rw [Bool.or_eq_false_iff]
    exact ⟨decide_eq_false (by omega), decide_eq_false (by omega)⟩
  · have hi : 1 ≤ i := by omega
    obtain ⟨k, rfl⟩ : ∃ k : Nat, i = (k : Int) := ⟨i.toNat, by omega⟩
    rw [Int.toNat_natCast] at h1
    have e := (Int.ediv_lt_iff_lt_mul (by omega)).mp hc
    have : ((z.length * k : Nat) : Int) ≤ 1000000 := by omega
    rw [Int.natCast_mul] at this
    omega
  · unfold Builtin.Str.tooLong
    have : (1000000 : Nat) ≤ sizeLine := by decide
    exact decide_eq_false (by omega)
theorem h_mulS {H : Hp} {Q : VK} {z : Str} {i : Int} (hz : z.length * i.toNat ≤ 1000000 ∧ -(2 ^ 62) ≤ i ∧ i < 2 ^ 62) (h : Q (.str (Txt.mul z i)) H) : rMulS (.str z) (.int i) H Q := ⟨z, i, rfl, rfl, mul_ok hz, h⟩
/-! ## the number that a text writes -/
def intS (a : Str) : Res Int := if a.length ≤ 640 then match PySem.intText? a with | some n => .ok n | none => .stuck else .stuck
theorem Post.intS {β : Type} {a : Str} {k : Int → Res β} {P : β → Prop} {R : Err → Prop} (h : Post ((Y.intS a).bind k) P R) : ∃ n, PySem.intText? a = Option.some n ∧ a.length ≤ 640 ∧ Post (k n) P R := by
  unfold Y.intS at h
  by_cases c : a.length ≤ 640
  · rw [if_pos c] at h
    cases e : PySem.intText? a with
    | none => rw [e] at h; exact h.elim
    | some n => rw [e] at h; exact ⟨n, rfl, c, h⟩
  · rw [if_neg c] at h
    exact h.elim
def rIntS : List V → Hp → VK → Prop := fun xs H Q => ∃ a n, xs = [.str a] ∧ PySem.intText? a = some n ∧ a.length ≤ 640 ∧ Q (.int n) H
theorem cr_intS {X : Cx} : CallR X (.type "int") rIntS := call_int_str
theorem h_intS {H : Hp} {Q : VK} {a : Str} {n : Int} (e : PySem.intText? a = some n) (hz : a.length ≤ 640) (h : Q (.int n) H) : rIntS [.str a] H Q := ⟨a, n, rfl, e, hz, h⟩
def isHexB (c : Nat) : Bool := decide (48 ≤ c ∧ c ≤ 57) || decide (97 ≤ c ∧ c ≤ 102) || decide (65 ≤ c ∧ c ≤ 70)
theorem hex_of {c : Nat} (h : isHexB c = true) : Hx.IsHex c := by
  unfold isHexB at h
  simp only [Bool.or_eq_true, decide_eq_true_eq] at h
  unfold Hx.IsHex
  omega
def hexS (a : Str) : Res Int := if (decide (a.cps.toList ≠ []) && decide (a.cps.toList.length ≤ 640) && a.cps.toList.all isHexB) = true then .ok ((Hx.hexNum a.cps.toList : Nat) : Int) else .stuck
theorem Post.hexS {β : Type} {a : Str} {k : Int → Res β} {P : β → Prop} {R : Err → Prop} (h : Post ((Y.hexS a).bind k) P R) : ∃ n : Int, (a.cps.toList ≠ [] ∧ a.cps.toList.length ≤ 640 ∧ a.cps.toList.all isHexB = true ∧ n = ((Hx.hexNum a.cps.toList : Nat) : Int)) ∧ Post (k n) P R := by
  unfold Y.hexS at h
  by_cases c : (decide (a.cps.toList ≠ []) && decide (a.cps.toList.length ≤ 640) && a.cps.toList.all isHexB) = true
  · rw [if_pos c] at h
    simp only [Bool.and_eq_true, decide_eq_true_eq] at c
    exact ⟨_, ⟨c.1.1, c.1.2, c.2, rfl⟩, h⟩
  · rw [if_neg c] at h
    exact h.elim
theorem cr_hexS {X : Cx} : CallR X (.type "int") rIntHex := call_int_hex
theorem h_hexS {H : Hp} {Q : VK} {a : Str} {n : Int} (e : a.cps.toList ≠ [] ∧ a.cps.toList.length ≤ 640 ∧ a.cps.toList.all isHexB = true ∧ n = ((Hx.hexNum a.cps.toList : Nat) : Int)) (h : Q (.int n) H) : rIntHex [.str a, .int 16] H Q := by
  obtain ⟨e1, e2, e3, rfl⟩ := e
  exact ⟨a.cps.toList, rfl, e1, e2, fun c m => hex_of (List.all_eq_true.mp e3 c m), h⟩
/-! ## count and index of data -/
def rCountD (K : PySem.W.Frag) : V → List V → Hp → VK → Prop := fun x xs H Q => ∃ (a : Addr) (y : V) (d : PyData) (ds : List PyData), x = V.ref a ∧ xs = [y] ∧ Dp K H (V.ref a) (.list ds) ∧ Dp K H y d ∧
  SeqAt.shaped (.list ds) = true ∧ SeqAt.shaped d = true ∧ Q (.int ((ds.countP fun z => PyData.eqv z d : Nat) : Int)) H
theorem mt_countD {X : Cx} (hu : X.A.units + 65 < cLine) : MtR X "list.count" (rCountD X.K) := by
  intro pins s σ H x xs v us Q I rx rxs h
  obtain ⟨a, y, d, ds, rfl, rfl, hl, hy, sl, sd, q⟩ := h
  cases rx
  cases rxs with
  | cons ry rt =>
    rename_i uy ut
    cases rt
    obtain ⟨bs, r1⟩ := Dp.reads I d y uy hy ry
    have hxs : PyData.canLayAll0 ds = true := SeqAt.canLay_of_shaped sl
    have hroom : X.A.units + 1 + min (PyData.depthAll ds) d.depth < cLine := room_in_shaped sd hu
    cases hl with
    | lst hs ha =>
      obtain ⟨its, rv, ⟨⟨cls, dd, data, sls⟩, n, ho, hc, hdn, hdt⟩, hlen⟩ := I.list hs
      simp only at hc hdt
      subst hc hdt
      obtain ⟨as, h4⟩ := Dp.readsAll I ds _ its ha rv
      have hmap : its.map (SeqAt.readOf s.heap) = ds := SeqAt.readsAll_map ds its as hxs h4
      refine call_meets PySem.F.slot_list_count ⟨_, ho, rfl⟩ PySem.F.entry_list_count (PySem.F.args_list_count_2 _ _)
        (SeqAt.list_countAt a its.toArray n dd sls uy (fun u => PyData.eqv (SeqAt.readOf s.heap u) d)) ⟨ho, SeqAt.items_eqAt (vs := its.toArray) (show ReadsAll s.heap its.toArray.toList ds as from h4) r1 hxs (SeqAt.canLay_of_shaped sd) hroom, ?_⟩
      refine ⟨.int ((ds.countP fun z => PyData.eqv z d : Nat) : Int), H, I.tok _, ⟨s.toks, ?_⟩, q⟩
      rw [← hmap, List.countP_map]
      rfl
theorem pe_countD {K : PySem.W.Frag} {X : Cx} {o e : Expr} {to : TE} {t : TA} {apos pos : Pos} (ho : PE X o to) (ha : PA X [e] t) (hK : X.K = K) (hu : X.A.units + 65 < cLine) (hbase : attributeBase o "count" X.env (eval o X.env) = eval o X.env := by rfl)
    (hfew : ((backTo pos (starEach [e] X.env)).all (fun x => !x.1) && (backToKw pos (keywordEach [] X.env)).all (fun x => x.1.isSome) && decide ([e].length + ([] : List Keyword).length + (if ([] : List Keyword).isEmpty then 0 else 1) < 30)) = true := by rfl)
    (hline : (apos.endLine == pos.line) = true := by rfl) (hs : starEach [e] X.env = (false, eval e X.env) :: starEach [] X.env := by rfl) (hplain : (backTo pos (starEach [] X.env)).any (·.1) = false := by rfl) :
    PE X (.Call (.Attribute o "count" apos) [e] [] pos) (tBM K "list" (rCountD K) to t) := hK ▸ pe_bm PySem.F.plainAttrs_list PySem.F.slot_list_count PySem.F.type_list_count (mt_countD hu) ho ha hbase hfew hline hs hplain
theorem pe_posD {K : PySem.W.Frag} {X : Cx} {o e : Expr} {to : TE} {t : TA} {apos pos : Pos} (ho : PE X o to) (ha : PA X [e] t) (hK : X.K = K) (hu : X.A.units + 65 < cLine) (hbase : attributeBase o "index" X.env (eval o X.env) = eval o X.env := by rfl)
    (hfew : ((backTo pos (starEach [e] X.env)).all (fun x => !x.1) && (backToKw pos (keywordEach [] X.env)).all (fun x => x.1.isSome) && decide ([e].length + ([] : List Keyword).length + (if ([] : List Keyword).isEmpty then 0 else 1) < 30)) = true := by rfl)
    (hline : (apos.endLine == pos.line) = true := by rfl) (hs : starEach [e] X.env = (false, eval e X.env) :: starEach [] X.env := by rfl) (hplain : (backTo pos (starEach [] X.env)).any (·.1) = false := by rfl) :
    PE X (.Call (.Attribute o "index" apos) [e] [] pos) (tBM K "list" (rIndexD K) to t) := hK ▸ pe_bm PySem.F.plainAttrs_list PySem.F.slot_list_index PySem.F.type_list_index (mt_indexD hu) ho ha hbase hfew hline hs hplain
def cntD (x : D) (l : List D) : Int := (((pyDs l).countP fun z => PyData.eqv z (pyD x) : Nat) : Int)
def posD (x : D) (l : List D) : Res Int := match (pyDs l).findIdx? (fun z => PyData.eqv z (pyD x)) with | some j => .ok (j : Int) | none => .stuck
theorem Post.posD {β : Type} {x : D} {l : List D} {k : Int → Res β} {P : β → Prop} {R : Err → Prop} (h : Post ((Y.posD x l).bind k) P R) : ∃ i : Int, (∃ j : Nat, (pyDs l).findIdx? (fun z => PyData.eqv z (pyD x)) = Option.some j ∧ i = (j : Int)) ∧ Post (k i) P R := by
  unfold Y.posD at h
  cases e : (pyDs l).findIdx? (fun z => PyData.eqv z (pyD x)) with
  | none => rw [e] at h; exact h.elim
  | some n => rw [e] at h; exact ⟨_, ⟨n, rfl, rfl⟩, h⟩
section
variable {K : PySem.W.Frag} {B H : Hp} {Q : VK} {x y : V} {d : D} {es : List D} {i : Int}
theorem h_countD (w : Ex B H) (rx : Rep K B x d) (ry : Rep K B y (.lst es)) (o : okEq d (.lst es)) (h : Q (.int (cntD d es)) H) : rCountD K y [x] H Q := by
  obtain ⟨p, xs, rfl, _⟩ := Rep.sq w ry
  exact ⟨p, x, pyD d, pyDs es, rfl, rfl, ry.dp w o.2.1, rx.dp w o.1, o.2.2.2, o.2.2.1, h⟩
theorem h_posD (w : Ex B H) (rx : Rep K B x d) (ry : Rep K B y (.lst es)) (o : okEq d (.lst es)) (e : ∃ j : Nat, (pyDs es).findIdx? (fun z => PyData.eqv z (pyD d)) = some j ∧ i = (j : Int)) (h : Q (.int i) H) : rIndexD K y [x] H Q := by
  obtain ⟨p, xs, rfl, _⟩ := Rep.sq w ry
  obtain ⟨j, e, rfl⟩ := e
  rw [List.findIdx?_eq_some_iff_getElem] at e
  obtain ⟨hj, e1, e2⟩ := e
  refine ⟨p, x, pyD d, pyDs es, j, (pyDs es)[j], rfl, rfl, ry.dp w o.2.1, rx.dp w o.1, o.2.2.2, o.2.2.1, List.getElem?_eq_getElem hj, e1, fun m z' hm hz => ?_, h⟩
  obtain ⟨hl, rfl⟩ := List.getElem?_eq_some_iff.mp hz
  exact Bool.eq_false_iff.mpr (e2 m hm)
theorem h_bmQ {p : Addr} {xs : List V} {σ : L2.St} {r : V → List V → Hp → VK → Prop} {t : TA} (hs : SqL K H p xs) (h : t σ H fun xs H2 => r (.ref p) xs H2 Q) : Bm K "list" r t σ (.ref p) H Q := ⟨.inl ⟨rfl, _, hs⟩, h⟩
end
/-! ## texts that the module names -/
structure CS (mg : Str → Option Value) (nm : Str) (z : Str) : Prop where
  g : ∃ t, mg nm = Option.some (.str z t)
theorem pe_globS {X : Cx} {x : Str} {z : Str} {pos : Pos} (hg : Gl X x) (c : CS X.mg x z) (hd : (x == ("__debug__" : Str)) = false := by decide) : PE X (.Name x pos) (tC (.str z)) := by
  obtain ⟨t, h⟩ := c.g
  exact pe_glob (v := .str z) hg h ⟨t, rfl⟩ hd
/-! ## range(0, hi, 2) in a comprehension -/
def rng2 (hi : Int) : List Int := (List.range ((hi + 1) / 2).toNat).map fun (i : Nat) => (i : Int) * 2
theorem rng2_len {hi : Int} : (rng2 hi).length = ((hi + 1) / 2).toNat := by unfold rng2; rw [List.length_map, List.length_range]
theorem size2 {hi : Int} (h : 0 ≤ hi) : Builtin.Range.rangeSize 0 hi 2 = ((((hi + 1) / 2).toNat : Nat) : Int) := by
  unfold Builtin.Range.rangeSize
  rw [if_pos (by decide)]
  split <;> omega
theorem rgc2 {hi : Int} (h : 0 ≤ hi) (h' : hi < 2 ^ 62) : RgC 0 hi 2 ((hi + 1) / 2).toNat := by
  refine ⟨by decide, by decide, ?_, size2 h⟩
  unfold Builtin.Range.small
  rw [size2 h]
  simp only [Builtin.Range.rangeFitsLong, Bool.and_eq_true, Bool.or_eq_true, decide_eq_true_eq, beq_iff_eq, if_pos (show (2 : Int) > 0 by decide)]
  refine ⟨⟨⟨⟨by omega, by omega⟩, by omega⟩, by omega⟩, .inr ⟨by omega, by omega⟩⟩
section
variable {K : PySem.W.Frag} {B H : Hp} {σ : L2.St} {Q : VK} {g : TG} {tt : TT} {te : TE} {β S R' : Type} {P : β → Prop} {R : Err → Prop}
def LcR3 (ws : List V) (g : TG) (tt : TT) (te : TE) (vs : List Nat) (σ : L2.St) (H : Hp) (Q : VK) : Prop := tLc (iRng3 (fun _ H Q => Q ws H)) g tt te vs σ H Q
theorem h_lcR3E {vs : List Nat} {ta : TA} (h : ta σ H fun ws H1 => LcR3 ws g tt te vs σ H1 Q) : tLc (iRng3 ta) g tt te vs σ H Q := h
theorem h_lcR3 {hi : Int} {s0 : S} {f : Int → S → Res (Option R' × S)} {k : List R' × S → Res β} {vs : List Nat} (hP : Post ((compR (rng2 hi) s0 f).bind k) P R)
    (J : Addr → List R' → S → Hp → Prop) (h0 : ∀ Dl, H Dl = none → J Dl [] s0 (upd H Dl (.lst [])))
    (hb : ∀ (Dl : Addr) (N : Hp → Prop) (T : Option R' × S → Prop) (x : Int) acc s H', J Dl acc s H' → 0 ≤ x → x < hi → acc.length < sizeLine → (∀ b s' H2, J Dl (acc ++ [b]) s' H2 → T (some b, s') → N H2) → (∀ s' H2, J Dl acc s' H2 → T (none, s') → N H2) → Post (f x s) T R →
      g (.int x) (wipe σ vs) H' (LcT σ vs tt te Dl N))
    (hd : ∀ Dl acc s H', J Dl acc s H' → Post (k (acc, s)) P R → Q (.ref Dl) H') (hlo : 0 ≤ hi ∧ hi < 2 ^ 62) : LcR3 [.int 0, .int hi, .int 2] g tt te vs σ H Q := by
  unfold compR at hP
  have hz : (rng2 hi).length ≤ 1000000 := by
    by_cases c : (rng2 hi).length ≤ 1000000
    · exact c
    · unfold guardR at hP; rw [if_neg c] at hP; exact hP.elim
  unfold guardR at hP
  rw [if_pos hz] at hP
  rw [rng2_len] at hz
  refine ⟨0, hi, 2, _, rfl, rgc2 hlo.1 hlo.2, fun Dl hD => ?_⟩
  refine lc_it (n := ((hi + 1) / 2).toNat) walk_rangeC (fun i H' => ∃ acc s, J Dl acc s H' ∧ acc.length ≤ i ∧ Post ((compL ((rng2 hi).drop i) s f).bind fun q => k (acc ++ q.1, q.2)) P R) ⟨[], s0, h0 Dl hD, Nat.le_refl _, hP⟩ (fun i H' _ _ => trivial) ?_ ?_
  · rintro i v H' H2 hi' ⟨acc, s, j, hn, q⟩ ⟨rfl, rfl⟩
    have hx : (rng2 hi)[i]? = some ((i : Int) * 2) := by
      unfold rng2
      rw [List.getElem?_map, List.getElem?_range hi']
      rfl
    have e : (0 : Int) + (i : Nat) * 2 = (i : Int) * 2 := Int.zero_add _
    show g (.int (0 + (i : Nat) * 2)) _ _ _
    rw [e]
    exact hb Dl _ _ ((i : Int) * 2) acc s _ j (by omega) (by omega) (Nat.lt_of_le_of_lt (Nat.le_trans hn (Nat.le_trans (Nat.le_of_lt hi') hz)) (by decide)) (fun b s' H2 j2 t2 => ⟨acc ++ [b], s', j2, by rw [List.length_append]; exact Nat.succ_le_succ hn, t2⟩) (fun s' H2 j2 t2 => ⟨acc, s', j2, Nat.le_succ_of_le hn, t2⟩) (q.compS hx)
  · rintro H' ⟨acc, s, j, _, q⟩
    rw [List.drop_eq_nil_of_le (by rw [rng2_len]; exact Nat.le_refl _)] at q
    have q2 : Post (k (acc ++ [], s)) P R := q
    rw [List.append_nil] at q2
    exact hd Dl acc s H' j q2
end
/-! ## x ** c -/
theorem h_powV {i j : Int} {n : Nat} {H : Hp} {Q : VK} (c : CPow i j) (e : j.toNat = n) (h : Q (.int (i ^ n)) H) : rI CPow (fun i j => .int (i ^ j.toNat)) (.int i) (.int j) H Q := by
  subst e
  exact ⟨i, j, rfl, rfl, c, h⟩
theorem b2z_small (b : Bool) : -(2 ^ 64) < b2z b ∧ b2z b < 2 ^ 64 := by cases b <;> exact ⟨by decide, by decide⟩
end Y

set_option Elab.async false
set_option linter.all false
set_option maxRecDepth 100000
set_option maxHeartbeats 4000000
namespace Y
open PySem PySem.Spec PyProof.Rows
open L2
open Enc (enc)
open LamX (CodeO TabB LamS lamEnv lamCx GivesTo)
/-! # lambdas without parameters, handed to a def; the maker's table of code objects -/
/-- the table ps holds no code objects but those of the name q that H has -/
def TabOf (H : Hp) (q : Str) (ps : Array Value) : Prop := TriplesOk ps.toList ∧ ∀ (at_ : Pos) (u : Value), codeAmong at_ ps.toList = some u → ∃ b, u = .ref b ∧ H b = some (CodeO b q)
/-- what a lambda's making leaves behind -/
inductive Lam (H : Hp) (P : Addr) (q : Str) : Hp → Prop where
  | was : Lam H P q H
  | is (ps ms : Array Value) (b : Addr) (h1 : H P = some (.tbl ps)) (h2 : H b = none) (h3 : TriplesOk (ps ++ ms).toList) (h4 : ∀ at_ u, codeAmong at_ (ps ++ ms).toList = some u → codeAmong at_ ps.toList = some u ∨ u = .ref b) : Lam H P q (upd (upd H P (.tbl (ps ++ ms))) b (CodeO b q))
section
variable {X : Cx} {pins : List (Addr × Obj)} {σ : L2.St} {H : Hp} {s : Shared}
theorem lam_new {P c : Addr} {ar : Arguments} {ex : Expr} {sco : Scope} {where_ : Pos} {q : Str} {Er Q : Value → Shared → Prop} {ps : Array Value} (I : Inv X pins σ H s) (tb : TabB X.base X.mg c P) (hc : X.env.code = .ref c) (hq : X.env.qual ++ "<lambda>" = q)
    (hP : H P = some (.tbl ps)) (ht : TabOf H q ps) (dn : defaultsOf ar X.env = ([], [])) (fv : ∀ y ∈ sco.names, y.2 = .free → ∃ b, X.env.cells.lookup y.1 = some b)
    (k : ∀ (g b : Addr) (pm u : Value) (H1 : Hp) (s1 : Shared), Inv X pins σ H1 s1 → Lam H P q H1 → H1 g = none → g ∉ frs X.stack → H1 b = some (CodeO b q) →
      s1.heap.get? g = some (PySem.W.kla_obj "<lambda>" q ar ex sco (cloFrom X.env.cells sco.names []) pm b u) → Q (.ref g) s1) :
    wpAny (model X.prog X.w) X.A (eval (.Lambda ar ex sco where_) X.env) Q Er s := by
  subst hq
  have bi := tb.bm.keeps I.bk
  have pO : s.heap.get? P = some { cls := .none, data := .fields ps } := I.hok P _ hP
  have far : ∀ g, s.heap.objs.size ≤ g → g ∉ frs X.stack := by
    intro g hg m
    cases List.mem_cons.mp (I.stkSub _ m) with
    | inl e => subst e; exact Nat.lt_irrefl _ (Nat.lt_of_lt_of_le I.lt hg)
    | inr e => exact I.nofs hg e
  refine PySem.W.kla_eval dn ?_
  match hm : codeAmong where_ ps.toList with
  | some u =>
    obtain ⟨b, rfl, hb⟩ := ht.2 where_ u hm
    exact PySem.W.kla_makeFunctionHit (P := P) (c := c) (mg := X.mg) (ps := ps) (closure_ok fv) I.ok.glob (I.mod.glob.keeps I.bk) hc (tb.code.keeps I.bk) pO ht.1 hm bi fun u h2 tk up sz =>
      k h2.objs.size b _ u H _ (I.kept (h' := h2.push _) (t' := tk) fun d o e => Heap.get?_push_of_some _ (up d o e)) .was (I.hok.fresh sz) (far _ sz) hb (Heap.get?_push_size _ rfl)
  | none =>
    refine PySem.W.kla_makeFunction (P := P) (c := c) (mg := X.mg) (ps := ps) (closure_ok fv) I.ok.glob (I.mod.glob.keeps I.bk) hc (tb.code.keeps I.bk) pO ht.1 hm tb.gP bi fun b u h2 tk up lo hi rec_ tab => ?_
    obtain ⟨b', ob, us, t, eb, e1, e2, e3⟩ := rec_
    cases eb
    have big : s.heap.objs.size ≤ h2.objs.size := Nat.le_trans lo (Nat.le_of_lt hi)
    have fb : H b = none := I.hok.fresh lo
    have fP : h2.objs.size ≠ P := Nat.ne_of_gt (Nat.lt_of_lt_of_le (Heap.lt_size pO) big)
    have J := LamX.inv_table (q := X.env.qual ++ "<lambda>") (t' := tk) (more := #[rawInt where_.line, rawInt where_.col, .ref b]) (h' := h2.push (PySem.W.kla_obj "<lambda>" (X.env.qual ++ "<lambda>") ar ex sco (cloFrom X.env.cells sco.names []) ((X.mg "__name__").getD .none) b u)) I hP
      (fun d o n e => Heap.get?_push_of_some _ (up d o n e)) (Heap.get?_push_of_some _ tab) lo ⟨ob, us, t, Heap.get?_push_of_some _ e1, e2, e3⟩
    have el : (ps ++ #[rawInt where_.line, rawInt where_.col, .ref b]).toList = ps.toList ++ [rawInt where_.line, rawInt where_.col, .ref b] := by rw [Array.toList_append]
    refine k h2.objs.size b _ u _ _ J (.is ps _ b hP fb (by rw [el]; exact PySem.TriplesOk_snoc _ _ _ _ ht.1) fun at_ v e => ?_) ?_ (far _ big) upd_same (Heap.get?_push_size _ rfl)
    · rw [el] at e
      exact LamX.among_app _ ht.1 e
    · rw [upd_ne (Nat.ne_of_gt hi), upd_ne fP]
      exact I.hok.fresh big
end
/-- what x(lambda: ex) means -/
def tLam (P : Addr) (q : Str) (TT : (XK → Hp → VK → Prop) → Hp → VK → Prop) (t : XK → TE) : TE := fun σ H Q => ∃ ps, H P = some (.tbl ps) ∧ TabOf H q ps ∧ ∀ H1, Lam H P q H1 → TT (fun E H2 Q2 => t E σ H2 Q2) H1 Q
section
variable {X : Cx}
theorem pe_lamC {x a : Str} {g c P : Addr} {k : Nat} {st : Stmt} {gd : FuncData} {Ng : List Str} {q : Str} {TT : (XK → Hp → VK → Prop) → Hp → VK → Prop} {ar : Arguments} {ex : Expr} {sco : Scope} {lp p pos : Pos} {t : XK → TE}
    (F : L2.Fun X.K x x st g gd) (gl : Gl X x) (mg : X.mg x = some (.ref g)) (bn : L2.Binds X.K gd [a] []) (Sg : FnScope Ng [a] (defScope st)) (n0 : Ng[0]? = some a) (va : Vis (defScope st) a)
    (G : ∀ cdv : Value, GivesTo X Ng x (defScope st) g cdv (defBody st) a q TT) (tb : TabB X.base X.mg c P) (hc : X.env.code = .ref c) (hq : X.env.qual ++ "<lambda>" = q) (room : Room (k + 2) X.A)
    (L : LamS X.env.scope sco) (dn : defaultsOf ar X.env = ([], [])) (nb : ∀ (qn : Str) (cl : List (Str × Addr)) (pm cv u : Value), bindArgs (PySem.W.kla_fn "<lambda>" qn ar ex sco cl pm cv u) ⟨[], []⟩ = pure [])
    (bd : ∀ (A : Around) (outer : List Env) (s : Shared) (H : Hp) (E : XK) (f b : Addr), Room k (A.deeper (lamEnv X sco s.heap.objs.size f b)) → PE (lamCx X A outer s H E sco f b) ex (t E))
    (d1 : (x == ("__debug__" : Str)) = false := by decide) (d2 : (a == ("__debug__" : Str)) = false := by decide) (d3 : (a == ("__classdict__" : Str)) = false := by decide) :
    PE X (.Call (.Name x p) [.Lambda ar ex sco lp] [] pos) (tLam P q TT t) := by
  subst hq
  obtain ⟨oc, od, kV, doc, pm, an, cdv, ct, osl, rfl, lk, cc⟩ := F.ex
  refine ⟨fun pins s σ H Q I ⟨ps, hP, ht, h⟩ => wpAny_Call_Name_kw (ld_glob I gl mg ?_ d1)⟩
  refine PySem.W.callWith_K (h₀ := X.base) I.ok.mod.kin F.kp ?_ (by rfl) (by rfl)
  show wpAny _ _ (spliced ((false, eval (.Lambda ar ex sco lp) X.env) :: backTo pos (starEach [] X.env))) _ _ _
  refine Calls.spliced_cons (lam_new I tb hc rfl hP ht dn (L.has I.ok) fun f b pm2 u H1 s1 J made nf away isc obj => ?_)
  refine Calls.spliced_nil ⟨J.kIn, ?_⟩
  refine wpAny_call (codeAny_mono (LamX.run_ofS (CX := C8.CX0) (E := C8.E0) (outer := X.stack) (H := H1) (s := s1) (Q := Q) (N := Ng) (ps := [a]) (us := [.ref f]) (vs := [.ref f]) lk cc Sg room J.env0 (bn s1 [.ref f] J.kIn rfl) (.cons rfl .nil) rfl fun room2 => ?_) fun r s2 e => ?_)
  · obtain ⟨w, e1, e2⟩ := G cdv f b s1 H1 Q (fun E H2 Q2 => t E σ H2 Q2) (fun W pn xe E p1 p2 tk hW => LamX.pe_act (i := 0) J L obj nf away (nb _ _ _ _ _) tk hW room2 (fun A o s3 H3 r3 => bd A o s3 H3 E f b r3) n0 va d2 d3) isc (h H1 made)
    exact ⟨w, e1.nox, e2⟩
  · match r with
    | .error _ => exact (show False from e).elim
    | .ok .next => exact (show False from e).elim
    | .ok .brk => exact (show False from e).elim
    | .ok .cont => exact (show False from e).elim
    | .ok (.ret v) => exact J.after e
end
/-! ## the table, as a thing of our own -/
/-- the table at P; its code objects are known for good -/
def TabK (B H : Hp) (P : Addr) (q : Str) : Prop := B P = none ∧ ∃ ps, H P = some (.tbl ps) ∧ TabOf B q ps
section
variable {W : List Addr} {B H B' H' H1 : Hp} {P p : Addr} {q : Str} {σ : L2.St} {Q : VK}
theorem TabOf.up {ps : Array Value} (t : TabOf B q ps) (e : Ex B B') : TabOf B' q ps := ⟨t.1, fun at_ u h => let ⟨b, e1, e2⟩ := t.2 at_ u h; ⟨b, e1, e _ _ e2⟩⟩
theorem TabK.step (m : TabK B H P q) (s : Stp W B H B' H') (h : P ∉ W) : TabK B' H' P q := by
  obtain ⟨h0, ps, h1, h2⟩ := m
  exact ⟨s.nw P _ h0 h1, ps, s.fr P _ h h1, h2.up s.ex⟩
theorem TabK.ne (m : TabK B H P q) (h : H p = none) : P ≠ p := by
  obtain ⟨_, ps, h1, _⟩ := m
  exact ne_of_none h1 h
theorem TabK.kp (m : TabK B H P q) (e : Ex B B') (k : ∀ z, z ≠ p → B z = none → B' z = none) (n : P ≠ p) : TabK B' H P q := by
  obtain ⟨h0, ps, h1, h2⟩ := m
  exact ⟨k P n h0, ps, h1, h2.up e⟩
theorem _root_.Y.Mu.neT {K : PySem.W.Frag} {ds : List D} (m : Mu K B H p ds) (t : TabK B H P q) : p ≠ P := fun e => by
  obtain ⟨_, xs, h1, _⟩ := m
  obtain ⟨_, ps, h2, _⟩ := t
  rw [e, h2] at h1
  cases h1
theorem TabK.lam (w : Ex B H) (m : TabK B H P q) (l : Lam H P q H1) : ∃ B1, Stp [P] B H B1 H1 ∧ TabK B1 H1 P q := by
  cases l with
  | was => exact ⟨B, (Stp.refl w).w0, m⟩
  | is ps ms b h1 h2 h3 h4 =>
    obtain ⟨h0, ps', e1, t1, t2⟩ := m
    rw [h1] at e1
    cases e1
    have nb : B b = none := w.none h2
    have nP : P ≠ b := ne_of_none h1 h2
    have at1 : ∀ a o, a ≠ P → H a = some o → upd (upd H P (.tbl (ps ++ ms))) b (CodeO b q) a = some o := fun a o n e => by
      rw [upd_ne (ne_of_none e h2), upd_ne n]; exact e
    have ex : Ex B (upd B b (CodeO b q)) := Ex.new nb
    refine ⟨upd B b (CodeO b q), ⟨ex, fun a u e => ?_, fun a o n e => at1 a o (fun z => n (by rw [z]; exact List.mem_singleton.mpr rfl)) e, fun a o e => ?_, fun a o n e => by rw [upd_ne (ne_of_none e h2)]; exact n⟩, ?_, ps ++ ms, ?_, h3, fun at_ u e => ?_⟩
    · by_cases c : a = b
      · subst c
        rw [upd_same] at e ⊢
        exact e
      · rw [upd_ne c] at e
        exact at1 a u (fun z => by rw [z, h0] at e; cases e) (w a u e)
    · by_cases c : a = P
      · subst c
        exact ⟨_, by rw [upd_ne nP, upd_same]⟩
      · exact ⟨o, at1 a o c e⟩
    · rw [upd_ne nP]; exact h0
    · rw [upd_ne nP, upd_same]
    · rcases h4 at_ u e with z | z
      · obtain ⟨d, e1, e2⟩ := t2 at_ u z
        exact ⟨d, e1, ex _ _ e2⟩
      · exact ⟨b, z, upd_same⟩
theorem h_lam {TT : (XK → Hp → VK → Prop) → Hp → VK → Prop} {t : XK → TE} (w : Ex B H) (m : TabK B H P q) (h : ∀ B1 H1, Stp [P] B H B1 H1 → TabK B1 H1 P q → TT (fun E H2 Q2 => t E σ H2 Q2) H1 Q) : tLam P q TT t σ H Q := by
  obtain ⟨h0, ps, h1, h2⟩ := id m
  refine ⟨ps, h1, h2.up w, fun H1 l => ?_⟩
  obtain ⟨B1, s, m1⟩ := m.lam w l
  exact h B1 H1 s m1
end
/-- what a def of the shape «try: .. ask() .. except ..» makes of a lambda's reading -/
def TTw (K : PySem.W.Frag) (mg : Str → Option Value) (m : Res D → Res D) : (XK → Hp → VK → Prop) → Hp → VK → Prop := fun tl H Q =>
  ∃ (B : Hp) (ask : Res D), Ex B H ∧ (∀ (E : XK) (Q2 : VK), Post ask (fun d => Ret K [] B H d Q2) (fun e => Rai mg [] B H e E) → tl E H Q2) ∧ Post (m ask) (fun r => Ret K [] B H r Q) (fun _ => False)
/-- what a handler gets, whatever the names are -/
def EL (W : WX) (n : Nat) : XK := fun cls d H => ∀ σ : L2.St, σ.length = n → W cls d σ H
theorem takes_len {X : Cx} {W : WX} (tk : Takes X W) : Takes X (fun cls d σ H => σ.length = X.N.length → W cls d σ H) := fun u s ⟨a, B, sI, pins, σ, H, cls, d, e, I, nb, up, sky, na, os, ag, w⟩ => tk u s ⟨a, B, sI, pins, σ, H, cls, d, e, I, nb, up, sky, na, os, ag, w I.len⟩
theorem two_len {σ : L2.St} (h : σ.length = 2) : ∃ a b, σ = [a, b] := by
  match σ, h with
  | [a, b], _ => exact ⟨a, b, rfl⟩
/-! ## a def whose code object is told -/
structure FunC (K : PySem.W.Frag) (x qual : Str) (st : Stmt) (f : Addr) (fd : FuncData) (c : Addr) : Prop where
  ex : ∃ (oc : Value) (od : Option Addr) (kV doc pm : Value) (an : Option Addr) (ct : Value) (osl : Array (Option Value)),
    fd = PySem.W.fnOf x qual (defArgs st) (defBody st) (defScope st) .none kV doc pm an (.ref c) ct ∧ K.lookup f = some ⟨oc, od, .func fd, osl⟩ ∧ PySem.W.codeIn K (.ref c) qual = true
theorem FunC.okC {Pr : Program} {wo : World} {K : PySem.W.Frag} {mg : Str → Option Value} {base : Heap} {x qual : Str} {st : Stmt} {f c : Addr} {fd : FuncData} {N ps : List Str} {k : Nat} {sp : Sp} (F : FunC K x qual st f fd c) (S : FnScope N ps (defScope st)) (len : ∀ vs H Q E, sp vs H Q E → vs.length = ps.length)
    (run : ∀ (A : Around) (outer : List Env) (s : Shared) (H : Hp) (vs : List V) (Q : VK) (E : XK), Room k (A.deeper (envOfC qual (defScope st) s.heap.objs.size f (.ref c))) → sp vs H Q E →
      ∃ t, PSs (cxOf CX0 Pr wo K mg base N qual (defScope st) f (.ref c) A outer s H E).nox (defBody st) t ∧ t { nx := fun _ H' => Q .non H', rt := Q } (start N vs) H) : FnOk Pr wo K mg base CX0 (k + 1) f fd ps sp := by
  obtain ⟨oc, od, kV, doc, pm, an, ct, osl, rfl, lk, hcd⟩ := F.ex
  refine fn_of lk hcd S len fun A outer s H vs Q E hr hsp => ?_
  obtain ⟨t, h, q⟩ := run A outer s H vs Q E hr hsp
  exact ⟨t, h.nox, q⟩
/-- the name of a lambda within a def of the top -/
def qOf (x : Str) : Str := (x ++ ".<locals>.") ++ "<lambda>"
/-- what a return hands on, where tables may have grown -/
def RetT (K : PySem.W.Frag) (P : Addr) (q : Str) (B H : Hp) (d : D) (Q : VK) : Prop := ∀ v B' H', Stp [P] B H B' H' → TabK B' H' P q → Rep K B' v d → Q v H'
def RetMT (K : PySem.W.Frag) (p P : Addr) (q : Str) (B H : Hp) (d : D) (ds : List D) (Q : VK) : Prop := ∀ v B' H', Stp [p, P] B H B' H' → Mu K B' H' p ds → TabK B' H' P q → Rep K B' v d → Q v H'
/-! ## the top, with two tables -/
def spTop2 (K : PySem.W.Frag) (P1 P2 : Addr) : Sp := fun vs H Q _ => ∃ (a : Addr) (ns : List Int), vs = [.ref a] ∧ ns.length ≤ 63 ∧ SqL K H a (ns.map V.int) ∧ H P1 = some (.tbl #[]) ∧ H P2 = some (.tbl #[]) ∧ P1 ≠ P2 ∧ ∀ H', Q (.bl true) H'
theorem tab_nil {B : Hp} {q : Str} : TabOf B q #[] := ⟨True.intro, fun at_ u e => by
  have z : codeAmong at_ [] = some u := e
  simp [codeAmong] at z⟩
theorem top_of2 {K : PySem.W.Frag} {m : List Int → Res Bool} {P1 P2 : Addr} {q1 q2 : Str} (hm : ∀ ns : List Int, ns.length ≤ 63 → m ns = .ok true) {vs : List V} {H : Hp} {Q : VK} {E : XK} (h : spTop2 K P1 P2 vs H Q E) :
    ∃ (B : Hp) (v : V) (a : List Int), Ex B H ∧ vs = [v] ∧ Bor K B H [P1, P2] v (a.map enc) ∧ TabK B H P1 q1 ∧ TabK B H P2 q2 ∧ P1 ≠ P2 ∧ Post (m a) (fun r => Ret K [P1, P2] B H (enc r) Q) (fun _ => False) := by
  obtain ⟨a, ns, e, hl, hs, t1, t2, np, k⟩ := h
  refine ⟨fun b => if b = P1 ∨ b = P2 then none else H b, .ref a, ns, fun b u z => ?_, e, ⟨a, _, rfl, ?_, RepL.ints ns⟩, ⟨if_pos (.inl rfl), _, t1, tab_nil⟩, ⟨if_pos (.inr rfl), _, t2, tab_nil⟩, np, ?_⟩
  · by_cases c : b = P1 ∨ b = P2
    · have z' := (if_pos c).symm.trans z
      cases z'
    · exact (if_neg c).symm.trans z
  · rcases hs with hs | hs
    · refine .inl ⟨hs, fun z => ?_⟩
      have : H a = some (.tbl #[]) := by
        rcases List.mem_cons.mp z with z | z
        · rw [z]; exact t1
        · rw [List.mem_singleton.mp z]; exact t2
      rcases hs with hs | ⟨o, hs⟩
      · rw [this] at hs; cases hs
      · rw [this] at hs; cases hs
    · exact .inr hs
  · rw [hm ns hl]
    refine ⟨fun v B' H' st r => ?_⟩
    cases r
    exact k H'
/-- a def's code object and its table, in the written part -/
structure CodeAt (K : PySem.W.Frag) (f c P : Addr) : Prop where
  fn : ∃ (cl : Value) (dd : Option Addr) (fd : FuncData) (sl : Array (Option Value)), K.lookup f = some ⟨cl, dd, .func fd, sl⟩ ∧ fd.code = .ref c
  co : ∃ (cl : Value) (dd : Option Addr) (vs : Array Value) (sl : Array (Option Value)), K.lookup c = some ⟨cl, dd, .fields vs, sl⟩ ∧ vs[11]? = some (.ref P)
  hd : PySem.W.codeHdIn K c P = true
  no : K.lookup P = none
theorem walk_topT {l : PySem.W.OpenLaw} {q : Program} {loose : List Str} {XP : (Str → Option Value) → Heap → Prop} {YP : World → Heap → Prop} {d : DefRec} {K : Params → PySem.W.Frag} {x y1 y2 : Str} {k : Nat} (hn : l.most = some 63) (hdf : d.params.defaults = [])
    (hr : Room k callerA) (hY : ∀ (w : World) (h : Heap), YP w h → (K w.params).In h) (n1 : ((recsOf q).any fun e => e.name == y1) = true) (n2 : ((recsOf q).any fun e => e.name == y2) = true)
    (F : ∀ (w : World) (mg : Str → Option Value) (fa : Addr) (h : Heap), (K w.params).In h → h.Ns mainGlobals mg → mg d.name = some (.ref fa) →
      ∃ (f1 c1 P1 f2 c2 P2 : Addr) (fd : FuncData), P1 ≠ P2 ∧ (mg y1 = some (.ref f1) ∧ CodeAt (K w.params) f1 c1 P1) ∧ (mg y2 = some (.ref f2) ∧ CodeAt (K w.params) f2 c2 P2) ∧ (∀ (s : Shared) (u : Value), BindsTo s fd ⟨[u], []⟩ [(x, u)]) ∧
        ∀ base : Heap, (K w.params).In base → base.Ns mainGlobals mg → TabB base mg c1 P1 → TabB base mg c2 P2 → FnOk l.prog w (K w.params) mg base CX0 k fa fd [x] (spTop2 (K w.params) P1 P2)) :
    PySem.W.WalkO q loose XP YP l.row.toRowW d [] (fun f vs => PySem.call f vs) := by
  refine Att.attach_callB hn hdf fun w s0 s1 mg mb fa o pm cd doc a vs ns G Y ho hd hcd hmg hobj hints hlen hbits hg => ?_
  have KX := hY w _ Y
  obtain ⟨f1, c1, P1, f2, c2, P2, fd, np, ⟨m1, a1⟩, ⟨m2, a2⟩, bi, run⟩ := F w mg fa _ KX G.T.g hmg
  have tabs : ∀ (y : Str) (f c P : Addr), ((recsOf q).any fun e => e.name == y) = true → mg y = some (.ref f) → CodeAt (K w.params) f c P → s1.heap.get? P = some { cls := .none, data := .fields #[] } := by
    intro y f c P n m A
    obtain ⟨r, hm, e⟩ := List.any_eq_true.mp n
    obtain ⟨a', o', fd', c', P', t1, t2, t3, t4, _, ⟨oc, vc, u1, _, u3, u4⟩, t6⟩ := G.T.tab r hm
    rw [beq_iff_eq.mp e, m] at t1
    cases t1
    obtain ⟨_, _, _, _, k1, k2⟩ := A.fn
    rw [KX _ _ k1] at t2
    cases t2
    cases t3
    rw [k2] at t4
    cases t4
    obtain ⟨_, _, _, _, k3, k4⟩ := A.co
    rw [KX _ _ k3] at u1
    cases u1
    cases u3
    rw [k4] at u4
    cases u4
    exact t6
  have here : ∀ p ∈ [(c1, P1), (c2, P2)], p = (c1, P1) ∨ p = (c2, P2) := fun p h => by simpa using h
  refine LamX.law_callTs (cs := [(c1, P1), (c2, P2)]) (CX := CX0) (sp := spTop2 (K w.params) P1 P2) KX G.T.g G.T.b G.T.builtins G.T.nolimit hg (fun p h => ?_) (fun p h => ?_) (fun p h => ?_) G.T.bmain hobj hints (Nat.le_trans hlen (by decide)) hr
    (fun base kb nb tb => run base kb nb (tb _ (List.mem_cons_self ..)) (tb _ (List.mem_cons_of_mem _ (List.mem_cons_self ..)))) bi (fun H tt hs => ⟨a, ns, rfl, hlen, hs, tt _ (List.mem_cons_self ..), tt _ (List.mem_cons_of_mem _ (List.mem_cons_self ..)), np, fun _ => rfl⟩) fun _ _ _ z => z
  · rcases here p h with rfl | rfl
    · exact tabs y1 f1 c1 P1 n1 m1 a1
    · exact tabs y2 f2 c2 P2 n2 m2 a2
  · rcases here p h with rfl | rfl
    · exact a1.no
    · exact a2.no
  · rcases here p h with rfl | rfl
    · exact PySem.W.codeHd_of_K KX a1.hd
    · exact PySem.W.codeHd_of_K KX a2.hd
/-- a def that gets a lambda, told of the world's parts -/
def GivesK (Pr : Program) (wo : World) (K : PySem.W.Frag) (mg : Str → Option Value) (base : Heap) (Ng : List Str) (x : Str) (sg : Scope) (g : Addr) (cdg : Value) (bg : List Stmt) (a q : Str) (TT : (XK → Hp → VK → Prop) → Hp → VK → Prop) (A : Around) (outer : List Env) : Prop :=
  ∀ (f2 c2 : Addr) (s : Shared) (H0 : Hp) (Q : VK) (tl : XK → Hp → VK → Prop),
    (∀ (W : WX) (pn : List (Addr × Obj)) (xe : Value → Shared → Prop) (E : XK) (p1 p2 : Pos), Takes ((cxOf CX0 Pr wo K mg base Ng x sg g cdg A outer s H0 E0).tr pn xe) W → (∀ cls d σ2 H2, E cls d H2 → W cls d σ2 H2) →
      PE ((cxOf CX0 Pr wo K mg base Ng x sg g cdg A outer s H0 E0).tr pn xe) (.Call (.Name a p1) [] [] p2) (fun σ2 H2 Q2 => σ2[0]? = some (some (.ref f2)) ∧ H2 c2 = some (CodeO c2 q) ∧ tl E H2 Q2)) →
    H0 c2 = some (CodeO c2 q) → TT tl H0 Q → ∃ t, PSs (cxOf CX0 Pr wo K mg base Ng x sg g cdg A outer s H0 E0).nox bg t ∧ t { nx := fun _ H2 => Q .non H2, rt := Q } (L2.start Ng [.ref f2]) H0
theorem gives_of {X : Cx} {Ng : List Str} {x : Str} {sg : Scope} {g : Addr} {cdg : Value} {bg : List Stmt} {a q : Str} {TT : (XK → Hp → VK → Prop) → Hp → VK → Prop} (h : GivesK X.prog X.w X.K X.mg X.base Ng x sg g cdg bg a q TT X.A X.stack) : GivesTo X Ng x sg g cdg bg a q TT := h
end Y

set_option Elab.async false
set_option linter.all false
set_option maxRecDepth 100000
set_option maxHeartbeats 4000000
namespace A
open PySem PySem.Spec PyProof.Rows L2 Y
open Y.Enc (enc)
abbrev top (i : Nat) : Stmt := PySem.Challenge.pw_lanescroll_k31_numbers_in_bytes.main.body.getD i (.Pass ⟨0, 0, 0, 0⟩)
def isWhole (d : D) (lo hi : Int) : Bool := match d with
  | .int i => decide (lo ≤ i) && decide (i ≤ hi)
  | _ => false
def m_is_whole (d : D) (lo hi : Int) : Res Bool := .ok (isWhole d lo hi)
/-! ### is_whole -/
def sp_is_whole (K : PySem.W.Frag) : Sp := fun vs H Q _ => ∃ (B : Hp) (v_thing : V) (a_thing : D) (a_low : Int) (a_high : Int), Ex B H ∧ vs = [v_thing, .int a_low, .int a_high] ∧ Rep K B v_thing (enc a_thing) ∧ Post (m_is_whole a_thing a_low a_high) (fun r => Ret K [] B H (enc r) Q) (fun _ => False)
abbrev s_is_whole : Stmt := top 6
theorem sc_is_whole : FnScope ["thing", "low", "high"] ["thing", "low", "high"] (defScope s_is_whole) := ⟨rfl, rfl, rfl, by decide +kernel, rfl, by decide +kernel, by decide +kernel⟩
/-! ### is_bytes -/
def m_is_bytes (a_thing : D) : Res Bool :=
  (if (isA "list" a_thing) = true then (asL a_thing).bind fun l1 => (compR (l1) (() : Unit) (fun x11 (a15 : Unit) => (m_is_whole x11 0 255).bind fun x27 => .ok (some x27, ()))).bind <| un2 fun acc14 a15 => .ok (acc14.all id) else .ok false)
def sp_is_bytes (K : PySem.W.Frag) : Sp := fun vs H Q _ => ∃ (B : Hp) (v_thing : V) (a_thing : D), Ex B H ∧ vs = [v_thing] ∧ Rep K B v_thing (enc a_thing) ∧ Post (m_is_bytes a_thing) (fun r => Ret K [] B H (enc r) Q) (fun _ => False)
abbrev s_is_bytes : Stmt := top 7
theorem sc_is_bytes : FnScope ["thing", "byte"] ["thing"] (defScope s_is_bytes) := ⟨rfl, rfl, rfl, by decide +kernel, rfl, by decide +kernel, by decide +kernel⟩
/-! ### sure_row -/
def m_sure_row (a_row : D) : Res Unit :=
  ((m_is_bytes a_row).noErr).bind fun x1 => (if x1 = true then .ok () else .err ⟨"NoBytes", []⟩)
def sp_sure_row (K : PySem.W.Frag) (mg : Str → Option Value) : Sp := fun vs H Q E => ∃ (B : Hp) (v_row : V) (a_row : D), Ex B H ∧ vs = [v_row] ∧ Rep K B v_row (enc a_row) ∧ Post (m_sure_row a_row) (fun r => Ret K [] B H (enc r) Q) (fun e => Rai mg [] B H e E)
abbrev s_sure_row : Stmt := top 10
theorem sc_sure_row : FnScope ["row"] ["row"] (defScope s_sure_row) := ⟨rfl, rfl, rfl, by decide +kernel, rfl, by decide +kernel, by decide +kernel⟩
/-! ### sure_place -/
def m_sure_place (a_row : D) (a_at : D) : Res Unit :=
  (m_sure_row a_row).bind fun x1 => (asL a_row).bind fun l8 => ((m_is_whole a_at 0 (l8.length : Int)).noErr).bind fun x15 => (if x15 = true then .ok () else .err ⟨"NoPlace", []⟩)
def sp_sure_place (K : PySem.W.Frag) (mg : Str → Option Value) : Sp := fun vs H Q E => ∃ (B : Hp) (v_row : V) (a_row : D) (v_at : V) (a_at : D), Ex B H ∧ vs = [v_row, v_at] ∧ Rep K B v_row (enc a_row) ∧ Rep K B v_at (enc a_at) ∧ Post (m_sure_place a_row a_at) (fun r => Ret K [] B H (enc r) Q) (fun e => Rai mg [] B H e E)
abbrev s_sure_place : Stmt := top 11
theorem sc_sure_place : FnScope ["row", "at"] ["row", "at"] (defScope s_sure_place) := ⟨rfl, rfl, rfl, by decide +kernel, rfl, by decide +kernel, by decide +kernel⟩
/-! ### written -/
def m_written (a_number : D) : Res (List Int) :=
  ((m_is_whole a_number 0 1000000000000000000000000000000000000000000000000000000000000).noErr).bind fun x1 => (if x1 = true then (asI a_number).bind fun i7 => lt ((i7 / 128) : Int) fun x16 => (whileR (x16.natAbs + 1) ((x16, ([(i7 % 128)] : List Int)) : Int × (List Int)) (fun (a26 : Int × (List Int)) => (if (decide (0 < a26.1)) = true then guardR (a26.2.length < 1000000) <| lt ((a26.1 / 128) : Int) fun x32 => .ok (.nx (x32, (a26.2 ++ [(128 + (a26.1 % 128))]))) else .ok (.bk (a26.1, a26.2))))).bind (afterR fun a33 => .ok (a33.2.reverse)) else .err ⟨"NoNumber", []⟩)
def sp_written (K : PySem.W.Frag) (mg : Str → Option Value) : Sp := fun vs H Q E => ∃ (B : Hp) (v_number : V) (a_number : D), Ex B H ∧ vs = [v_number] ∧ Rep K B v_number (enc a_number) ∧ Post (m_written a_number) (fun r => RetF K [] B H (r.map enc) Q) (fun e => Rai mg [] B H e E)
abbrev s_written : Stmt := top 12
theorem sc_written : FnScope ["number", "found"] ["number"] (defScope s_written) := ⟨rfl, rfl, rfl, by decide +kernel, rfl, by decide +kernel, by decide +kernel⟩
/-! ### number_at -/
def m_number_at (a_row : (List Int)) (a_at : Int) : Res (Option (Tp2 Int Int)) :=
  guardR (okEq (enc (cutL a_row (some a_at) (some (a_at + 1)))) (enc ([128] : List Int))) <| (if (eqD (enc (cutL a_row (some a_at) (some (a_at + 1)))) (enc ([128] : List Int))) = true then .ok none else (whileR (a_row.length + 1) ((0, a_at) : Int × Int) (fun (a24 : Int × Int) => (if (decide (a24.2 < (a_row.length : Int))) = true then (ixR a_row a24.2).bind fun x36 => lt (((a24.1 * 128) + (x36 % 128)) : Int) fun x40 => lt ((a24.2 + 1) : Int) fun x41 => (if (decide (1000000000000000000000000000000000000000000000000000000000000 < x40)) = true then .ok (.rt none) else (ixR a_row (x41 - 1)).bind fun x46 => (if (decide (x46 < 128)) = true then .ok (.rt (some (⟨x40, x41⟩ : (Tp2 Int Int)))) else .ok (.nx (x40, x41)))) else .ok (.bk (a24.1, a24.2))))).bind (afterR fun a55 => .ok none))
def sp_number_at (K : PySem.W.Frag) : Sp := fun vs H Q _ => ∃ (B : Hp) (v_row : V) (a_row : (List Int)) (a_at : Int), Ex B H ∧ vs = [v_row, .int a_at] ∧ Rep K B v_row (enc a_row) ∧ Post (m_number_at a_row a_at) (fun r => Ret K [] B H (enc r) Q) (fun _ => False)
abbrev s_number_at : Stmt := top 13
theorem sc_number_at : FnScope ["row", "at", "number"] ["row", "at"] (defScope s_number_at) := ⟨rfl, rfl, rfl, by decide +kernel, rfl, by decide +kernel, by decide +kernel⟩
/-! ### read_number -/
def m_read_number (a_row : D) (a_at : D) : Res (Tp2 Int Int) :=
  (m_sure_place a_row a_at).bind fun x1 => (asD (List Int) a_row).bind fun x8 => (asI a_at).bind fun i11 => ((m_number_at x8 i11).noErr).bind fun x14 => (if (isNonD (enc x14)) = true then .err ⟨"NoNumber", []⟩ else (someR x14).bind fun x20 => .ok x20)
def sp_read_number (K : PySem.W.Frag) (mg : Str → Option Value) : Sp := fun vs H Q E => ∃ (B : Hp) (v_row : V) (a_row : D) (v_at : V) (a_at : D), Ex B H ∧ vs = [v_row, v_at] ∧ Rep K B v_row (enc a_row) ∧ Rep K B v_at (enc a_at) ∧ Post (m_read_number a_row a_at) (fun r => Ret K [] B H (enc r) Q) (fun e => Rai mg [] B H e E)
abbrev s_read_number : Stmt := top 14
theorem sc_read_number : FnScope ["row", "at", "found"] ["row", "at"] (defScope s_read_number) := ⟨rfl, rfl, rfl, by decide +kernel, rfl, by decide +kernel, by decide +kernel⟩
/-! ### _law_digit -/
def l_digit (a_state : (List Int)) (a_base : Int) : Res (Int × (List Int)) :=
  ((if (decide ((a_state.length : Int) = 1)) = true then (ixR a_state 0).bind fun x12 => guardR (a_state.length + ([(x12 % 2147483647), 0] : List Int).length ≤ 1000000) <| .ok (a_state ++ ([(x12 % 2147483647), 0] : List Int)) else .ok a_state) : Res ((List Int))).bind fun a26 => (ixR a26 0).bind fun x34 => (if (decide (a_base ≤ x34)) = true then (ixR a26 0).bind fun x42 => guardR (0 < a_base) <| lt ((x42 % a_base) : Int) fun x46 => (ixR a26 0).bind fun x51 => guardR (CDivW x51 a_base) <| (setR a26 0 (x51 / a_base)).bind fun x55 => .ok (x46, x55) else (ixR a26 2).bind fun x64 => (setR a26 2 (x64 + 1)).bind fun x68 => (ixR x68 1).bind fun x77 => (ixR x68 2).bind fun x85 => lt (((((x77 + (7919 * x85)) + 1) * 48271) % 2147483647) : Int) fun x89 => guardR (CMulW x89 ((x89 / 1009) + 69621)) <| lt (((x89 * ((x89 / 1009) + 69621)) % 2147483647) : Int) fun x90 => guardR (CMulW x90 ((x90 / 2003) + 40692)) <| guardR (0 < a_base) <| .ok ((((x90 * ((x90 / 2003) + 40692)) % 2147483399) % a_base), x68))
def sp__law_digit (K : PySem.W.Frag) : Sp := fun vs H Q _ => ∃ (B : Hp) (p_state : Addr) (a_state : (List Int)) (a_base : Int), Ex B H ∧ vs = [.ref p_state, .int a_base] ∧ Mu K B H p_state (a_state.map enc) ∧ Post (l_digit a_state a_base) (fun r => RetM K p_state B H (enc r.1) (r.2.map enc) Q) (fun _ => False)
abbrev s__law_digit : Stmt := top 16
theorem sc__law_digit : FnScope ["_law_state", "_law_base", "_law_found", "_law_number_here"] ["_law_state", "_law_base"] (defScope s__law_digit) := ⟨rfl, rfl, rfl, by decide +kernel, rfl, by decide +kernel, by decide +kernel⟩
/-! ### _law_figures -/
def l_figures (a_number_here : Int) : Res (List Int) :=
  (whileR (a_number_here.natAbs + 1) ((a_number_here, ([(a_number_here % 128)] : List Int)) : Int × (List Int)) (fun (a16 : Int × (List Int)) => (if (decide (128 ≤ a16.1)) = true then lt ((a16.1 / 128) : Int) fun x23 => guardR (([(128 + (x23 % 128))] : List Int).length + a16.2.length ≤ 1000000) <| .ok (.nx (x23, (([(128 + (x23 % 128))] : List Int) ++ a16.2))) else .ok (.bk (a16.1, a16.2))))).bind (afterR fun a45 => .ok a45.2)
def sp__law_figures (K : PySem.W.Frag) : Sp := fun vs H Q _ => ∃ (B : Hp) (a_number_here : Int), Ex B H ∧ vs = [.int a_number_here] ∧ Post (l_figures a_number_here) (fun r => RetF K [] B H (r.map enc) Q) (fun _ => False)
abbrev s__law_figures : Stmt := top 17
theorem sc__law_figures : FnScope ["_law_number_here", "_law_found"] ["_law_number_here"] (defScope s__law_figures) := ⟨rfl, rfl, rfl, by decide +kernel, rfl, by decide +kernel, by decide +kernel⟩
/-! ### _law_number_at -/
def l_number_at (a_row : (List Int)) (a_at : Int) : Res (Option (Tp2 Int Int)) :=
  (if (decide ((a_row.length : Int) ≤ a_at)) = true then .ok none else (ixR a_row a_at).bind fun x9 => (if (decide (x9 = 128)) = true then .ok none else guardR ((-(2 ^ 62) ≤ (a_at : Int) ∧ (a_at : Int) < 2 ^ 62) ∧ -(2 ^ 62) ≤ ((a_row.length : Int) : Int) ∧ ((a_row.length : Int) : Int) < 2 ^ 62) <| (forR (rngI a_at (a_row.length : Int)) (0 : Int) (fun x26 (a25 : Int) => (ixR a_row x26).bind fun x37 => lt (((a25 * 128) + (x37 % 128)) : Int) fun x41 => (if (decide (1000000000000000000000000000000000000000000000000000000000000 < x41)) = true then .ok (.rt none) else (ixR a_row x26).bind fun x46 => (if (decide (x46 < 128)) = true then .ok (.rt (some (⟨x41, (x26 + 1)⟩ : (Tp2 Int Int)))) else .ok (.nx x41))))).bind (afterR fun a55 => .ok none)))
def sp__law_number_at (K : PySem.W.Frag) : Sp := fun vs H Q _ => ∃ (B : Hp) (v_row : V) (a_row : (List Int)) (a_at : Int), Ex B H ∧ vs = [v_row, .int a_at] ∧ Rep K B v_row (enc a_row) ∧ Post (l_number_at a_row a_at) (fun r => Ret K [] B H (enc r) Q) (fun _ => False)
abbrev s__law_number_at : Stmt := top 18
theorem sc__law_number_at : FnScope ["_law_row", "_law_at", "_law_number_here", "_law_place"] ["_law_row", "_law_at"] (defScope s__law_number_at) := ⟨rfl, rfl, rfl, by decide +kernel, rfl, by decide +kernel, by decide +kernel⟩
/-! ### _law_odd_row -/
def l_odd_row (a_state : (List Int)) (a_row : (List Int)) : Res (D × (List Int)) :=
  (l_digit a_state 4).bind fun x1 => (if (decide (x1.1 = 0)) = true then (l_digit x1.2 7).bind fun x26 => (ixR ([(enc ()), (.tup (a_row.map enc) : D), (enc ("" : Str)), (enc (0 : Int)), (.dic [] : D), (enc ("ab" : Str)), (enc (255 : Int))] : List D) x26.1).bind fun x36 => .ok (x36, x26.2) else (l_digit x1.2 10).bind fun x55 => (ixR ([(enc (256 : Int)), (enc ((-1) : Int)), (enc (decide (1 = 1))), (enc ()), (enc ("0" : Str)), (enc ([0] : List Int)), (enc (⟨0⟩ : (Tp1 Int))), (enc (1000000000 : Int)), (enc ((-256) : Int)), (enc (decide (1 = 2)))] : List D) x55.1).bind fun x65 => (l_digit x55.2 ((a_row.length : Int) + 1)).bind fun x73 => guardR (((cutL a_row none (some x73.1)).map enc : List D).length + ([x65] : List D).length ≤ 1000000) <| guardR ((((cutL a_row none (some x73.1)).map enc : List D) ++ ([x65] : List D)).length + ((cutL a_row (some x73.1) none).map enc : List D).length ≤ 1000000) <| .ok ((enc ((((cutL a_row none (some x73.1)).map enc : List D) ++ ([x65] : List D)) ++ ((cutL a_row (some x73.1) none).map enc : List D))), x73.2))
def sp__law_odd_row (K : PySem.W.Frag) : Sp := fun vs H Q _ => ∃ (B : Hp) (p_state : Addr) (a_state : (List Int)) (v_row : V) (a_row : (List Int)), Ex B H ∧ vs = [.ref p_state, v_row] ∧ Mu K B H p_state (a_state.map enc) ∧ Rep K B v_row (enc a_row) ∧ Post (l_odd_row a_state a_row) (fun r => RetM K p_state B H (enc r.1) (r.2.map enc) Q) (fun _ => False)
abbrev s__law_odd_row : Stmt := top 19
theorem sc__law_odd_row : FnScope ["_law_state", "_law_row", "_law_odd", "_law_at"] ["_law_state", "_law_row"] (defScope s__law_odd_row) := ⟨rfl, rfl, rfl, by decide +kernel, rfl, by decide +kernel, by decide +kernel⟩
/-! ### _law_bytes -/
def l_bytes (a_state : (List Int)) (a_many : Int) : Res ((List Int) × (List Int)) :=
  (l_digit a_state 3).bind fun x1 => guardR (-(2 ^ 62) ≤ (a_many : Int) ∧ (a_many : Int) < 2 ^ 62) <| (forR (rngI 0 a_many) ((x1.2, ([] : List Int)) : (List Int) × (List Int)) (fun x23 (a22 : (List Int) × (List Int)) => (l_digit a22.1 256).bind fun x31 => (ixR ([0, 0, 1, 2, 255, x31.1] : List Int) (x31.1 % 6)).bind fun x46 => (ixR ([x31.1, (x31.1 % 3), x46] : List Int) x1.1).bind fun x59 => guardR (a22.2.length < 1000000) <| .ok (.nx (x31.2, (a22.2 ++ [x59]))))).bind (afterR fun a65 => .ok (a65.2, a65.1))
def sp__law_bytes (K : PySem.W.Frag) : Sp := fun vs H Q _ => ∃ (B : Hp) (p_state : Addr) (a_state : (List Int)) (a_many : Int), Ex B H ∧ vs = [.ref p_state, .int a_many] ∧ Mu K B H p_state (a_state.map enc) ∧ Post (l_bytes a_state a_many) (fun r => RetM K p_state B H (enc r.1) (r.2.map enc) Q) (fun _ => False)
abbrev s__law_bytes : Stmt := top 20
theorem sc__law_bytes : FnScope ["_law_state", "_law_many", "_law_plain_here", "_law_found", "_law_k", "_law_byte"] ["_law_state", "_law_many"] (defScope s__law_bytes) := ⟨rfl, rfl, rfl, by decide +kernel, rfl, by decide +kernel, by decide +kernel⟩
/-! ### _law_number -/
def l_number (a_state : (List Int)) : Res (Int × (List Int)) :=
  (l_digit a_state 4).bind fun x1 => (if (decide (x1.1 = 0)) = true then (l_digit x1.2 300).bind fun x7 => .ok (x7.1, x7.2) else (if (decide (x1.1 = 1)) = true then (l_digit x1.2 28).bind fun x13 => guardR (-(2 ^ 62) ≤ ((1 + x13.1) : Int) ∧ ((1 + x13.1) : Int) < 2 ^ 62) <| (forR (rngI 0 (1 + x13.1)) (1 : Int) (fun x28 (a27 : Int) => lt ((a27 * 128) : Int) fun x35 => .ok (.nx x35))).bind (afterR fun a36 => (l_digit x13.2 3).bind fun x41 => .ok (((a36 + x41.1) - 1), x41.2)) else (l_digit x1.2 6).bind fun x47 => guardR (-(2 ^ 62) ≤ ((1 + x47.1) : Int) ∧ ((1 + x47.1) : Int) < 2 ^ 62) <| (forR (rngI 0 (1 + x47.1)) ((0, x47.2) : Int × (List Int)) (fun x62 (a61 : Int × (List Int)) => (l_digit a61.2 10000000000).bind fun x69 => lt (((a61.1 * 10000000000) + x69.1) : Int) fun x75 => .ok (.nx (x75, x69.2)))).bind (afterR fun a76 => .ok (a76.1, a76.2))))
def sp__law_number (K : PySem.W.Frag) : Sp := fun vs H Q _ => ∃ (B : Hp) (p_state : Addr) (a_state : (List Int)), Ex B H ∧ vs = [.ref p_state] ∧ Mu K B H p_state (a_state.map enc) ∧ Post (l_number a_state) (fun r => RetM K p_state B H (enc r.1) (r.2.map enc) Q) (fun _ => False)
abbrev s__law_number : Stmt := top 21
theorem sc__law_number : FnScope ["_law_state", "_law_way", "_law_number_here", "_law_k"] ["_law_state"] (defScope s__law_number) := ⟨rfl, rfl, rfl, by decide +kernel, rfl, by decide +kernel, by decide +kernel⟩
/-! ### _law_word -/
def l_word (a_ask : Res D) : Res D :=
  (tryR ((a_ask).bind fun x7 => .ok (.rt (enc (⟨("told" : Str), x7⟩ : (Tp2 Str D)))) : Res (Fl (Unit) (D))) (fun ⟨ec, _⟩ => guardR (ec ∈ (["NoBytes", "NoPlace", "NoNumber"] : List Str)) <| (if decide (ec = "NoBytes") = true then ((if false = true then .ok true else .ok false) : Res (Bool)).bind fun a22 => .ok (.rt (enc (⟨("bytes" : Str), a22⟩ : (Tp2 Str Bool)))) else (if decide (ec = "NoPlace") = true then ((if false = true then .ok true else .ok false) : Res (Bool)).bind fun a37 => .ok (.rt (enc (⟨("place" : Str), a37⟩ : (Tp2 Str Bool)))) else ((if false = true then .ok true else .ok false) : Res (Bool)).bind fun a52 => .ok (.rt (enc (⟨("number" : Str), a52⟩ : (Tp2 Str Bool)))))))).bind (afterR fun a68 => .ok (enc ()))
abbrev s__law_word : Stmt := top 22
theorem sc__law_word : FnScope ["_law_ask", "e"] ["_law_ask"] (defScope s__law_word) := ⟨rfl, rfl, rfl, by decide +kernel, rfl, by decide +kernel, by decide +kernel⟩
/-! ### _law_plain -/
def l_plain (a_row : D) : Res Bool :=
  (if (isA "list" a_row) = true then (asL a_row).bind fun l1 => (compR (l1) (() : Unit) (fun x11 (a15 : Unit) => ((if (isA "int" x11) = true then .ok (!(isA "bool" x11)) else .ok false) : Res (Bool)).bind fun a30 => .ok (some a30, ()))).bind <| un2 fun acc14 a15 => .ok (acc14.all id) else .ok false)
def sp__law_plain (K : PySem.W.Frag) : Sp := fun vs H Q _ => ∃ (B : Hp) (v_row : V) (a_row : D), Ex B H ∧ vs = [v_row] ∧ Rep K B v_row (enc a_row) ∧ Post (l_plain a_row) (fun r => Ret K [] B H (enc r) Q) (fun _ => False)
abbrev s__law_plain : Stmt := top 23
theorem sc__law_plain : FnScope ["_law_row", "_law_byte"] ["_law_row"] (defScope s__law_plain) := ⟨rfl, rfl, rfl, by decide +kernel, rfl, by decide +kernel, by decide +kernel⟩
/-! ### _law_reads -/
def l_reads (a_row : (List Int)) (a_at : Int) : Res Bool :=
  (l_number_at a_row a_at).bind fun x10 => (l_word ((m_read_number (enc a_row) (enc (a_at : Int))).bind fun x19 => .ok (enc x19) : Res D)).bind fun x26 => guardR (okEq (enc a_row) (enc a_row)) <| (if (!(eqD (enc a_row) (enc a_row))) = true then .ok false else (if (isNonD (enc x10)) = true then guardR (okEq x26 (enc (⟨("number" : Str), false⟩ : (Tp2 Str Bool)))) <| .ok (eqD x26 (enc (⟨("number" : Str), false⟩ : (Tp2 Str Bool)))) else guardR (okEq x26 (enc (⟨("told" : Str), x10⟩ : (Tp2 Str (Option (Tp2 Int Int)))))) <| (if (eqD x26 (enc (⟨("told" : Str), x10⟩ : (Tp2 Str (Option (Tp2 Int Int)))))) = true then (asT x26).bind fun l42 => (ixR l42 1).bind fun x49 => (if (isA "tuple" x49) = true then (asT x26).bind fun l53 => (ixR l53 1).bind fun x60 => (asT x60).bind fun l64 => (l_plain (enc l64)).bind fun x76 => .ok x76 else .ok false) else .ok false)))
def sp__law_reads (K : PySem.W.Frag) (P__law_reads : Addr) : Sp := fun vs H Q _ => ∃ (B : Hp) (v_row : V) (a_row : (List Int)) (a_at : Int), Ex B H ∧ vs = [v_row, .int a_at] ∧ Rep K B v_row (enc a_row) ∧ TabK B H P__law_reads (qOf "_law_reads") ∧ Post (l_reads a_row a_at) (fun r => RetT K P__law_reads (qOf "_law_reads") B H (enc r) Q) (fun _ => False)
abbrev s__law_reads : Stmt := top 24
theorem sc__law_reads : FnScope ["_law_row", "_law_at", "_law_handed", "_law_due", "_law_found"] ["_law_row", "_law_at"] (defScope s__law_reads) := ⟨rfl, rfl, rfl, by decide +kernel, rfl, by decide +kernel, by decide +kernel⟩
/-! ### _law_odds -/
def l_odds (a_state : (List Int)) (a_row : (List Int)) : Res (Bool × (List Int)) :=
  (l_digit a_state 8).bind fun x25 => (ixR ([(enc ((-1) : Int)), (enc (((a_row.length : Int) + 1) : Int)), (enc (decide (1 = 2))), (enc ()), (enc ("0" : Str)), (enc ([0] : List Int)), (enc (⟨0⟩ : (Tp1 Int))), (enc (((a_row.length : Int) + 70) : Int))] : List D) x25.1).bind fun x35 => (l_odd_row x25.2 a_row).bind fun x39 => (l_digit x39.2 8).bind fun x65 => (ixR ([(enc ((-1) : Int)), (enc (decide (1 = 1))), (enc ()), (enc ("7" : Str)), (enc ([7] : List Int)), (enc (⟨7⟩ : (Tp1 Int))), (.dic [] : D), (enc ((-10000000000000000000000000000000000000000) : Int))] : List D) x65.1).bind fun x75 => (l_word ((m_read_number x39.1 x35).bind fun x82 => .ok (enc x82) : Res D)).bind fun x89 => guardR (okEq x89 (enc (⟨("bytes" : Str), false⟩ : (Tp2 Str Bool)))) <| (if (!(eqD x89 (enc (⟨("bytes" : Str), false⟩ : (Tp2 Str Bool))))) = true then .ok (false, x65.2) else (l_word ((m_read_number x39.1 (enc ((0 : Int) : Int))).bind fun x103 => .ok (enc x103) : Res D)).bind fun x110 => guardR (okEq x110 (enc (⟨("bytes" : Str), false⟩ : (Tp2 Str Bool)))) <| (if (!(eqD x110 (enc (⟨("bytes" : Str), false⟩ : (Tp2 Str Bool))))) = true then .ok (false, x65.2) else (l_word ((m_read_number (enc a_row) x35).bind fun x124 => .ok (enc x124) : Res D)).bind fun x131 => guardR (okEq x131 (enc (⟨("place" : Str), false⟩ : (Tp2 Str Bool)))) <| (if (!(eqD x131 (enc (⟨("place" : Str), false⟩ : (Tp2 Str Bool))))) = true then .ok (false, x65.2) else (l_word ((m_written x75).bind fun x145 => .ok (enc x145) : Res D)).bind fun x164 => guardR (okEq x164 (enc (⟨("number" : Str), false⟩ : (Tp2 Str Bool)))) <| .ok ((eqD x164 (enc (⟨("number" : Str), false⟩ : (Tp2 Str Bool)))), x65.2))))
def sp__law_odds (K : PySem.W.Frag) (P__law_odds : Addr) : Sp := fun vs H Q _ => ∃ (B : Hp) (p_state : Addr) (a_state : (List Int)) (v_row : V) (a_row : (List Int)), Ex B H ∧ vs = [.ref p_state, v_row] ∧ Mu K B H p_state (a_state.map enc) ∧ Rep K B v_row (enc a_row) ∧ TabK B H P__law_odds (qOf "_law_odds") ∧ Post (l_odds a_state a_row) (fun r => RetMT K p_state P__law_odds (qOf "_law_odds") B H (enc r.1) (r.2.map enc) Q) (fun _ => False)
abbrev s__law_odds : Stmt := top 25
theorem sc__law_odds : FnScope ["_law_state", "_law_row", "_law_place", "_law_odd", "_law_number_here"] ["_law_state", "_law_row"] (defScope s__law_odds) := ⟨rfl, rfl, rfl, by decide +kernel, rfl, by decide +kernel, by decide +kernel⟩
/-! ### law -/
def m_law (a_script : (List Int)) : Res Bool :=
  guardR ((cutL a_script none (some 10)).length + ([0, 1] : List Int).length ≤ 1000000) <| (forR (((cutL a_script none (some 10)) ++ ([0, 1] : List Int))) (((), ()) : Unit × Unit) (fun x40 (a39 : Unit × Unit) => (l_number ([x40] : List Int)).bind fun x65 => ((m_written (enc (x65.1 : Int))).noErr).bind fun x71 => (l_plain (enc x71)).bind fun x94 => (if x94 = true then (l_figures x65.1).bind fun x101 => guardR (okEq (enc x71) (enc x101)) <| (if (!(eqD (enc x71) (enc x101))) = true then .ok (.rt false) else guardR (x71.length < 1000000) <| (l_digit x65.2 5).bind fun x128 => (l_bytes x128.2 x128.1).bind fun x134 => (l_figures x65.1).bind fun x140 => guardR (x134.1.length + x140.length ≤ 1000000) <| (l_digit x134.2 5).bind fun x174 => (l_bytes x174.2 x174.1).bind fun x180 => guardR ((x134.1 ++ x140).length + x180.1.length ≤ 1000000) <| ((m_written (enc (x65.1 : Int))).noErr).bind fun x199 => (l_figures x65.1).bind fun x220 => guardR (okEq (enc x199) (enc x220)) <| (if (!(eqD (enc x199) (enc x220))) = true then .ok (.rt false) else (l_figures x65.1).bind fun x241 => ((m_read_number (enc x241) (enc ((0 : Int) : Int))).noErr).bind fun x262 => guardR (okEq (enc x262) (enc (⟨x65.1, (((x71 ++ [7]).length : Int) - 1)⟩ : (Tp2 Int Int)))) <| (if (!(eqD (enc x262) (enc (⟨x65.1, (((x71 ++ [7]).length : Int) - 1)⟩ : (Tp2 Int Int))))) = true then .ok (.rt false) else (l_digit x180.2 256).bind fun x292 => (l_digit x292.2 (((x134.1 ++ x140) ++ x180.1).length : Int)).bind fun x302 => (setR ((x134.1 ++ x140) ++ x180.1) x302.1 x292.1).bind fun x308 => (l_digit x302.2 127).bind fun x313 => (l_digit x313.2 30).bind fun x324 => guardR (([(129 + x313.1)] : List Int).length * (Int.toNat (20 + x324.1)) ≤ 1000000 ∧ -(2 ^ 62) ≤ ((20 + x324.1) : Int) ∧ ((20 + x324.1) : Int) < 2 ^ 62) <| (l_digit x324.2 256).bind fun x339 => guardR ((timesL ([(129 + x313.1)] : List Int) (20 + x324.1)).length + ([x339.1] : List Int).length ≤ 1000000) <| (forR (([((x134.1 ++ x140) ++ x180.1), x308, ((timesL ([(129 + x313.1)] : List Int) (20 + x324.1)) ++ ([x339.1] : List Int)), ([] : List Int)] : List (List Int))) (a39.1 : Unit) (fun x390 (a389 : Unit) => guardR (-(2 ^ 62) ≤ (((x390.length : Int) + 1) : Int) ∧ (((x390.length : Int) + 1) : Int) < 2 ^ 62) <| (forR (rngI 0 ((x390.length : Int) + 1)) (a389 : Unit) (fun x411 (a410 : Unit) => guardR (okEq (enc x390) (enc ((timesL ([(129 + x313.1)] : List Int) (20 + x324.1)) ++ ([x339.1] : List Int)))) <| (if (!(eqD (enc x390) (enc ((timesL ([(129 + x313.1)] : List Int) (20 + x324.1)) ++ ([x339.1] : List Int))))) = true then (l_reads x390 x411).bind fun x418 => (if x418 = true then .ok (.nx a410) else .ok (.rt (.rt (.rt false)))) else (if (decide (x411 < 9)) = true then (l_reads x390 x411).bind fun x424 => (if x424 = true then .ok (.nx a410) else .ok (.rt (.rt (.rt false)))) else .ok (.nx a410))))).bind (afterR fun a430 => .ok (.nx a430)))).bind (afterR fun a435 => (l_odds x339.2 ((x134.1 ++ x140) ++ x180.1)).bind fun x441 => (if x441.1 = true then .ok (.nx (a435, a39.2)) else .ok (.rt false)))))) else .ok (.rt false)))).bind (afterR fun a447 => .ok true)
def sp_law (K : PySem.W.Frag) (P__law_reads : Addr) (P__law_odds : Addr) : Sp := fun vs H Q _ => ∃ (B : Hp) (v_script : V) (a_script : (List Int)), Ex B H ∧ vs = [v_script] ∧ Bor K B H [P__law_reads, P__law_odds] v_script (a_script.map enc) ∧ TabK B H P__law_reads (qOf "_law_reads") ∧ TabK B H P__law_odds (qOf "_law_odds") ∧ P__law_reads ≠ P__law_odds ∧ Post (m_law a_script) (fun r => Ret K [P__law_reads, P__law_odds] B H (enc r) Q) (fun _ => False)
abbrev s_law : Stmt := top 26
theorem sc_law : FnScope ["_law_script", "_law_cell", "_law_state", "_law_number_here", "_law_bytes_told", "_law_ahead", "_law_row", "_law_turned", "_law_long", "_law_some", "_law_at"] ["_law_script"] (defScope s_law) := ⟨rfl, rfl, rfl, by decide +kernel, rfl, by decide +kernel, by decide +kernel⟩
section
variable {Pr : Program} {wo : World} {K : PySem.W.Frag} {mg : Str → Option Value} {base : Heap}
theorem ok_is_whole {f : Addr} {fd : FuncData}  (F : Fun K "is_whole" "is_whole" s_is_whole f fd) (bI_isinstance : mg "isinstance" = none) (bI_int : mg "int" = none) (bI_bool : mg "bool" = none) : FnOk Pr wo K mg base CX0 1 f fd ["thing", "low", "high"] (sp_is_whole K) := by
  refine F.ok sc_is_whole (fun vs H Q E h => ?_) (fun cdv A outer s H vs Q E hr h => ?_)
  · obtain ⟨_, _, _, _, _, _, rfl, _⟩ := h; rfl
  · obtain ⟨B, v, d, lo, hi, w, rfl, r, k⟩ := h
    have st := Stp.refl (W := []) w
    refine ⟨_, pss_one (ps_ret (pe_and (pe_callB call_isi (by rfl) bI_isinstance PyProof.Rows.boot_isinstance (pa_cons (pv 0) (pa_cons (pe_bltn (v := .ty "int") (by rfl) bI_int Y.boot_int rfl) pa_nil)))
      (pe_and (pe_not (pe_callB call_isi (by rfl) bI_isinstance PyProof.Rows.boot_isinstance (pa_cons (pv 0) (pa_cons (pe_bltn (v := .ty "bool") (by rfl) bI_bool Y.boot_bool rfl) pa_nil))))
       (pe_one (pe_chain op_le op_le (pv 1) (pv 0) (pv 2)))))), ?_⟩
    refine h_ret (h_and (h_cb (h_cons (h_var rfl (h_cons (h_c (h_nil (isi (t := "int") w r (h_bl ?_)))))))))
    cases d <;> try exact h_iteF (k.ok _ _ _ st (Rep.bl _))
    · refine h_iteT (h_and (h_not (h_cb (h_cons (h_var rfl (h_cons (h_c (h_nil (isi (t := "bool") w r (h_bl (h_bl ?_))))))))))) 
      exact h_iteF (k.ok _ _ _ st (Rep.bl _))
    · cases r
      refine h_iteT (h_and (h_not (h_cb (h_cons (h_var rfl (h_cons (h_c (h_nil (isi (t := "bool") w (Rep.int _) (h_bl (h_bl ?_)))))))))))
      refine h_iteT (h_chain (h_var rfl (h_var rfl (h_ch (fun Q q => h_var rfl q) ?_))))
      exact k.ok _ _ _ st (Rep.bl _)
theorem ok_is_bytes {f : Addr} {fd : FuncData}  (F : Fun K "is_bytes" "is_bytes" s_is_bytes f fd) {f_is_whole : Addr} {d_is_whole : FuncData} (g_is_whole : mg "is_whole" = some (.ref f_is_whole)) (k_is_whole : PySem.W.keepIn K (.ref f_is_whole) = true) (b_is_whole : L2.Binds K d_is_whole ["thing", "low", "high"] []) (G_is_whole : FnOk Pr wo K mg base CX0 1 f_is_whole d_is_whole ["thing", "low", "high"] (sp_is_whole K)) (bI_isinstance : mg "isinstance" = none) (bI_list : mg "list" = none) (bI_all : mg "all" = none) : FnOk Pr wo K mg base CX0 2 f fd ["thing"] (sp_is_bytes K) := by
  refine F.ok sc_is_bytes (fun vs H Q E h => ?_) (fun cdv A outer s H0 vs Q E hr h => ?_)
  · obtain ⟨_, _, _, _, rfl, _⟩ := h; rfl
  · obtain ⟨B0, v_thing, a_thing, w, rfl, r_thing, P⟩ := h
    have w0 := w
    have hu := hu_of hr
    have hu64 := hu64_of hr
    have hu65 := hu65_of hr
    have hr1 : Room 1 _ := hr.mono (by decide)
    refine ⟨_, (pss_one (ps_ret (pe_and (pe_callB (r := rIsi K) call_isi (by rfl) bI_isinstance PyProof.Rows.boot_isinstance (pa_cons (pv 0) (pa_cons (pe_bltn (v := .ty "list") (by rfl) bI_list Y.boot_list rfl) pa_nil))) (pe_one (pe_callB (r := rAll K) (cr_all rfl) (by rfl) bI_all PyProof.Rows.boot_all (pa_cons (pe_lc (own := [("byte", 1)]) rfl sc_is_bytes.nd (pi_list (pv 0)) (blkOk_by (N := ["thing", "byte"]) (sc := defScope s_is_bytes) (by decide +kernel)) (fun _ _ _ _ _ => (pg_name (i := 1) sc_is_bytes.nd rfl (by first | exact Or.inl rfl | exact Or.inr rfl))) (fun _ _ _ _ _ => pts_nil) (fun _ _ _ _ _ => (pe_call G_is_whole hr1 rfl g_is_whole k_is_whole b_is_whole .nil pass0 (pa_cons (pv 1) (pa_cons pe_int (pa_cons pe_int pa_nil)))))) pa_nil)))))), ?_⟩
    unfold m_is_bytes at P
    have st := Stp.refl (W := []) w
    refine h_ret ?_
    refine h_and ?_
    refine h_cb ?_
    refine h_cons ?_
    refine h_var rfl ?_
    refine h_cons ?_
    refine h_c ?_
    refine h_nil ?_
    refine isi (t := "list") w (r_thing.mono st.ex) ?_
    refine h_bl ?_
    refine h_ite (fun c1 => ?_) (fun c1 => ?_)
    · replace P := P.iteT c1
      refine h_cb ?_
      refine h_cons ?_
      refine h_lcE ?_
      refine h_var rfl ?_
      obtain ⟨l1, hl2, P⟩ := P.asL
      have rc3 := (r_thing.mono st.ex)
      rw [hl2] at rc3
      obtain ⟨p4, xs5, rfl, hb6, hr7⟩ := Rep.sqB rc3
      refine h_lcL P (w.l hb6) hr7 (fun Dl (acc : List Bool) (a : Unit) H' => ∃ B', Stp [] B0 H0 B' H' ∧ H0 Dl = none ∧ Mu K B' H' Dl (acc.map enc)) (fun Dl hD => ⟨_, Stp.newM w hD, hD, Mu.new w hD .nil⟩) (fun _ _ _ _ j => ?_) ?_ ?_
      · obtain ⟨B17, s18, hD19, m20⟩ := j
        exact s18.ok.l (s18.ex.l hb6)
      · rintro Dl8 N9 T10 x11 v12 acc14 a15 H16 ⟨B17, s18, hD19, m20⟩ r13 hz21 kk22 kn23 P
        have wj25 := w
        have sj24 := s18
        have n26 := st.nn hD19
        replace st := st.go s18 go0
        replace w := s18.ok
        replace r13 := r13.mono s18.ex
        refine h_gname ?_
        refine h_lcT rfl ?_
        refine h_call ?_
        refine h_cons ?_
        refine h_var rfl ?_
        refine h_cons ?_
        refine h_c ?_
        refine h_cons ?_
        refine h_c ?_
        refine h_nil ?_
        refine ⟨B17, v12, x11, 0, 255, w, rfl, r13, (P.bind).mono (fun x27 P => ?_) (fun _ z => z)⟩
        refine fun v31 B28 H29 s30 r32 => ?_
        replace r13 := r13.mono s30.ex
        replace m20 := m20.step s30 nm0
        replace st := st.go s30 go0
        replace sj24 := sj24.go s30 go0
        replace w := s30.ok
        cases r32
        refine h_app (b := x27) w m20 (Rep.bl _) hz21 (fun H33 s34 m20 => ?_)
        replace r13 := r13.mono s34.ex
        replace st := st.go s34 (go1 (.inr n26))
        replace sj24 := sj24.go s34 (go1 (.inr hD19))
        replace w := s34.ok
        exact kk22 x27 () _ ⟨_, sj24, hD19, m20⟩ P.ok
      · rintro Dl8 acc14 a15 H16 ⟨B17, s18, hD19, m20⟩ P
        have n35 := st.nn hD19
        replace st := st.go s18 go0
        replace w := s18.ok
        replace P := P.un2
        obtain ⟨B40, e36, k37, g38, r39⟩ := Mu.keep m20
        replace st := g38 _ _ _ st w0 n35
        replace w := st.ok
        replace r39 : Rep K B40 (.ref Dl8) (enc acc14) := r39
        refine h_nil ?_
        obtain ⟨p41, xs42, hv, hs43, hr44⟩ := Rep.sq w r39
        cases hv
        refine h_all hs43 hr44 ?_
        exact P.ok _ _ _ st (Rep.bl _)
    · replace P := P.iteF c1
      exact P.ok _ _ _ st (Rep.bl _)
theorem ok_sure_row {f : Addr} {fd : FuncData}  (F : Fun K "sure_row" "sure_row" s_sure_row f fd) {C_NoBytes : Addr} (T_NoBytes : ExcR K mg "NoBytes" C_NoBytes) {f_is_bytes : Addr} {d_is_bytes : FuncData} (g_is_bytes : mg "is_bytes" = some (.ref f_is_bytes)) (k_is_bytes : PySem.W.keepIn K (.ref f_is_bytes) = true) (b_is_bytes : L2.Binds K d_is_bytes ["thing"] []) (G_is_bytes : FnOk Pr wo K mg base CX0 2 f_is_bytes d_is_bytes ["thing"] (sp_is_bytes K)) : FnOk Pr wo K mg base (L2.CX Pr wo) 3 f fd ["row"] (sp_sure_row K mg) := by
  refine F.okX sc_sure_row (fun vs H Q E h => ?_) (fun cdv A outer s H0 vs Q E hr h => ?_)
  · obtain ⟨_, _, _, _, rfl, _⟩ := h; rfl
  · obtain ⟨B0, v_row, a_row, w, rfl, r_row, P⟩ := h
    have w0 := w
    have hu := hu_of hr
    have hu64 := hu64_of hr
    have hu65 := hu65_of hr
    have hr2 : Room 2 _ := hr.mono (by decide)
    refine ⟨_, (pss_one (ps_if (pt_not (pt_val (pe_call G_is_bytes hr2 rfl g_is_bytes k_is_bytes b_is_bytes .nil pass0 (pa_cons (pv 0) pa_nil)))) (pss_one (ps_raise rfl (takes_of rfl rfl rfl rfl) (pmk_own PySem.F.excBase_ValueError T_NoBytes.ex T_NoBytes.g T_NoBytes.kp (raises_own T_NoBytes.ec.hs T_NoBytes.ty) rfl))) pss_nil)), ?_⟩
    unfold m_sure_row at P
    have st := Stp.refl (W := []) w
    refine h_if ?_
    refine h_tnot ?_
    refine h_tB ?_
    refine h_call ?_
    refine h_cons ?_
    refine h_var rfl ?_
    refine h_nil ?_
    refine ⟨B0, v_row, a_row, w, rfl, (r_row.mono st.ex), (P.bind.noErr).mono (fun x1 P => ?_) (fun _ z => z.elim)⟩
    refine fun v5 B2 H3 s4 r6 => ?_
    replace st := st.go s4 go0
    replace w := s4.ok
    cases r6
    refine h_bl ?_
    refine h_iteN (fun c1 => ?_) (fun c1 => ?_)
    · replace P := P.iteF c1
      exact P.err _ _ _ T_NoBytes.g st
    · replace P := P.iteT c1
      refine h_next ?_
      exact P.ok _ _ _ st Rep.non
theorem ok_sure_place {f : Addr} {fd : FuncData}  (F : Fun K "sure_place" "sure_place" s_sure_place f fd) {C_NoPlace : Addr} (T_NoPlace : ExcR K mg "NoPlace" C_NoPlace) {f_sure_row : Addr} {d_sure_row : FuncData} (g_sure_row : mg "sure_row" = some (.ref f_sure_row)) (k_sure_row : PySem.W.keepIn K (.ref f_sure_row) = true) (b_sure_row : L2.Binds K d_sure_row ["row"] []) (G_sure_row : FnOk Pr wo K mg base (L2.CX Pr wo) 3 f_sure_row d_sure_row ["row"] (sp_sure_row K mg)) {f_is_whole : Addr} {d_is_whole : FuncData} (g_is_whole : mg "is_whole" = some (.ref f_is_whole)) (k_is_whole : PySem.W.keepIn K (.ref f_is_whole) = true) (b_is_whole : L2.Binds K d_is_whole ["thing", "low", "high"] []) (G_is_whole : FnOk Pr wo K mg base CX0 1 f_is_whole d_is_whole ["thing", "low", "high"] (sp_is_whole K)) (bI_len : mg "len" = none) : FnOk Pr wo K mg base (L2.CX Pr wo) 4 f fd ["row", "at"] (sp_sure_place K mg) := by
  refine F.okX sc_sure_place (fun vs H Q E h => ?_) (fun cdv A outer s H0 vs Q E hr h => ?_)
  · obtain ⟨_, _, _, _, _, _, rfl, _⟩ := h; rfl
  · obtain ⟨B0, v_row, a_row, v_at, a_at, w, rfl, r_row, r_at, P⟩ := h
    have w0 := w
    have hu := hu_of hr
    have hu64 := hu64_of hr
    have hu65 := hu65_of hr
    have hr1 : Room 1 _ := hr.mono (by decide)
    have hr3 : Room 3 _ := hr.mono (by decide)
    refine ⟨_, (pss_cons (ps_expr (pe_callS G_sure_row hr3 rfl g_sure_row k_sure_row b_sure_row (fun σ => passAt (takes_of rfl rfl rfl rfl) σ) (pa_cons (pv 0) pa_nil)))
      (pss_one (ps_if (pt_not (pt_val (pe_call G_is_whole hr1 rfl g_is_whole k_is_whole b_is_whole .nil pass0 (pa_cons (pv 1) (pa_cons pe_int (pa_cons (pe_callB (r := rLenY K) cr_len (by rfl) bI_len PySem.boot_len (pa_cons (pv 0) pa_nil)) pa_nil)))))) (pss_one (ps_raise rfl (takes_of rfl rfl rfl rfl) (pmk_own PySem.F.excBase_ValueError T_NoPlace.ex T_NoPlace.g T_NoPlace.kp (raises_own T_NoPlace.ec.hs T_NoPlace.ty) rfl))) pss_nil))), ?_⟩
    unfold m_sure_place at P
    have st := Stp.refl (W := []) w
    refine h_seq ?_
    refine h_drop ?_
    refine h_callS ?_
    refine h_cons ?_
    refine h_var rfl ?_
    refine h_nil ?_
    refine ⟨B0, v_row, a_row, w, rfl, (r_row.mono st.ex), Post.mono2 P.bind (fun e7 P => ?_) (fun x1 P => ?_)⟩
    · skip
      exact fun C B' H' g s => P C B' H' g (st.go s go0)
    refine fun v5 B2 H3 s4 r6 => ?_
    replace st := st.go s4 go0
    replace w := s4.ok
    cases r6
    refine h_nx ?_
    refine h_if ?_
    refine h_tnot ?_
    refine h_tB ?_
    refine h_call ?_
    refine h_cons ?_
    refine h_var rfl ?_
    refine h_cons ?_
    refine h_c ?_
    refine h_cons ?_
    refine h_cb ?_
    refine h_cons ?_
    refine h_var rfl ?_
    refine h_nil ?_
    obtain ⟨l8, hl9, P⟩ := P.asL
    have rc10 := (r_row.mono st.ex)
    rw [hl9] at rc10
    obtain ⟨p11, xs12, rfl, hs13, hr14⟩ := Rep.sq w rc10
    refine h_len hs13 hr14 ?_
    refine h_nil ?_
    refine ⟨B2, v_at, a_at, 0, (l8.length : Int), w, rfl, (r_at.mono st.ex), (P.bind.noErr).mono (fun x15 P => ?_) (fun _ z => z.elim)⟩
    refine fun v19 B16 H17 s18 r20 => ?_
    replace st := st.go s18 go0
    replace w := s18.ok
    cases r20
    refine h_bl ?_
    refine h_iteN (fun c1 => ?_) (fun c1 => ?_)
    · replace P := P.iteF c1
      exact P.err _ _ _ T_NoPlace.g st
    · replace P := P.iteT c1
      refine h_next ?_
      exact P.ok _ _ _ st Rep.non
theorem ok_written {f : Addr} {fd : FuncData}  (F : Fun K "written" "written" s_written f fd) (c_GREATEST : CI mg "GREATEST" 1000000000000000000000000000000000000000000000000000000000000) {C_NoNumber : Addr} (T_NoNumber : ExcR K mg "NoNumber" C_NoNumber) {f_is_whole : Addr} {d_is_whole : FuncData} (g_is_whole : mg "is_whole" = some (.ref f_is_whole)) (k_is_whole : PySem.W.keepIn K (.ref f_is_whole) = true) (b_is_whole : L2.Binds K d_is_whole ["thing", "low", "high"] []) (G_is_whole : FnOk Pr wo K mg base CX0 1 f_is_whole d_is_whole ["thing", "low", "high"] (sp_is_whole K)) : FnOk Pr wo K mg base (L2.CX Pr wo) 2 f fd ["number"] (sp_written K mg) := by
  refine F.okX sc_written (fun vs H Q E h => ?_) (fun cdv A outer s H0 vs Q E hr h => ?_)
  · obtain ⟨_, _, _, _, rfl, _⟩ := h; rfl
  · obtain ⟨B0, v_number, a_number, w, rfl, r_number, P⟩ := h
    have w0 := w
    have hu := hu_of hr
    have hu64 := hu64_of hr
    have hu65 := hu65_of hr
    have hr1 : Room 1 _ := hr.mono (by decide)
    refine ⟨_, (pss_cons (ps_if (pt_not (pt_val (pe_call G_is_whole hr1 rfl g_is_whole k_is_whole b_is_whole .nil pass0 (pa_cons (pv 0) (pa_cons pe_int (pa_cons (pe_globI (i := 1000000000000000000000000000000000000000000000000000000000000) (by rfl) c_GREATEST) pa_nil)))))) (pss_one (ps_raise rfl (takes_of rfl rfl rfl rfl) (pmk_own PySem.F.excBase_ValueError T_NoNumber.ex T_NoNumber.g T_NoNumber.kp (raises_own T_NoNumber.ec.hs T_NoNumber.ty) rfl))) pss_nil)
      (pss_cons (ps_set (i := 1) sc_written.nd rfl (by first | exact Or.inl rfl | exact Or.inr rfl) (pe_lst (pa_cons (pe_op op_mod (pv 0) pe_int) pa_nil)))
      (pss_cons (ps_set (i := 0) sc_written.nd rfl (by first | exact Or.inl rfl | exact Or.inr rfl) (pe_op op_fdiv (pv 0) pe_int))
      (pss_cons (ps_while (passes_of rfl) (pt_cmpR op_gt (pv 0) pe_int (nomark _)) (pss_cons (ps_expr (pe_bm PySem.F.plainAttrs_list PySem.F.slot_list_append PySem.F.type_list_append mt_append (pv 1) (pa_cons (pe_op op_add pe_int (pe_op op_mod (pv 0) pe_int)) pa_nil)))
      (pss_one (ps_set (i := 0) sc_written.nd rfl (by first | exact Or.inl rfl | exact Or.inr rfl) (pe_op op_fdiv (pv 0) pe_int)))))
      (pss_one (ps_ret (pe_revL (pv 1)))))))), ?_⟩
    unfold m_written at P
    have st := Stp.refl (W := []) w
    refine h_seq <| h_if ?_
    refine h_tnot ?_
    refine h_tB ?_
    refine h_call ?_
    refine h_cons ?_
    refine h_var rfl ?_
    refine h_cons ?_
    refine h_c ?_
    refine h_cons ?_
    refine h_c ?_
    refine h_nil ?_
    refine ⟨B0, v_number, a_number, 0, 1000000000000000000000000000000000000000000000000000000000000, w, rfl, (r_number.mono st.ex), (P.bind.noErr).mono (fun x1 P => ?_) (fun _ z => z.elim)⟩
    refine fun v5 B2 H3 s4 r6 => ?_
    replace st := st.go s4 go0
    replace w := s4.ok
    cases r6
    refine h_bl ?_
    refine h_iteN (fun c1 => ?_) (fun c1 => ?_)
    · replace P := P.iteF c1
      exact P.err _ _ _ T_NoNumber.g st
    · replace P := P.iteT c1
      refine h_next ?_
      refine h_nx ?_
      refine h_set ?_
      refine h_lst ?_
      refine h_cons ?_
      refine h_op ?_
      refine h_var rfl ?_
      refine h_c ?_
      obtain ⟨i7, hi8, P⟩ := P.asI
      have rc9 := (r_number.mono st.ex)
      rw [hi8] at rc9
      cases rc9
      refine h_I (by decide +kernel) ?_
      refine h_nil ?_
      refine h_newM w (ds := (([(i7 % 128)] : List Int)).map enc) (K := K) (.cons (Rep.int _) .nil) (fun p10 H11 hn14 s12 m13 => ?_) (by show 1 ≤ sizeLine; decide)
      have n15 := st.nn hn14
      replace st := st.go s12 go0
      replace w := s12.ok
      refine h_set ?_
      refine h_op ?_
      refine h_var rfl ?_
      refine h_c ?_
      refine h_I ⟨by decide +kernel, by decide +kernel⟩ ?_
      replace P := P.lt
      generalize hx : (i7 / 128) = x16 at P ⊢
      refine h_seq ?_
      have wj18 := w
      have sj17 := Stp.refl (W := [p10]) w
      refine h_while P (fun (a : Int × (List Int)) σ' H' => ∃ (B' : Hp), Stp [p10] B2 H11 B' H' ∧ σ' = [some (.int a.1), some ((.ref p10))] ∧ Mu K B' H' p10 (a.2.map enc)) ⟨_, sj17, rfl, m13⟩ ?_ ?_
      · rintro N19 C20 T21 a26 _ H28 ⟨B27, s29, rfl, m13⟩ kn22 kk23 kr24 kb25 P
        replace st := st.go s29 (go1 (.inr n15))
        replace w := s29.ok
        have sj17 := s29
        refine h_test ?_
        refine h_op ?_
        refine h_var rfl ?_
        refine h_c ?_
        refine h_I0 ?_
        refine h_bl ?_
        refine h_ite (fun c1 => ?_) (fun c1 => ?_)
        · replace P := P.iteT c1
          refine ⟨N19, kn22, ?_⟩
          refine h_seq ?_
          refine h_drop ?_
          refine h_bm ?_
          refine h_var rfl ?_
          refine h_bmL m13 ?_
          refine h_cons ?_
          refine h_op ?_
          refine h_c ?_
          refine h_op ?_
          refine h_var rfl ?_
          refine h_c ?_
          refine h_I (by decide +kernel) ?_
          refine h_I0 ?_
          refine h_nil ?_
          obtain ⟨gd, P⟩ := P.guard
          refine h_append (b := (128 + (a26.1 % 128))) w m13 (Rep.int _) gd (fun H30 s31 m13 => ?_)
          replace st := st.go s31 (go1 (.inr n15))
          replace sj17 := sj17.go s31 (go1 (.inl (by simp)))
          replace w := s31.ok
          refine h_nx ?_
          refine h_set1 ?_
          refine h_op ?_
          refine h_var rfl ?_
          refine h_c ?_
          refine h_I ⟨by decide +kernel, by decide +kernel⟩ ?_
          replace P := P.lt
          generalize hx : (a26.1 / 128) = x32 at P ⊢
          refine h_nx ?_
          exact kk23 (x32, (a26.2 ++ [(128 + (a26.1 % 128))])) _ _ ⟨_, sj17, rfl, m13⟩ P.ok
        · replace P := P.iteF c1
          exact kb25 (a26.1, a26.2) _ _ ⟨_, sj17, rfl, m13⟩ P.ok
      · rintro a33 _ H35 ⟨B34, s36, rfl, m13⟩ P
        replace st := st.go s36 (go1 (.inr n15))
        replace w := s36.ok
        refine h_nx ?_
        refine h_ret ?_
        refine h_revL ?_
        refine h_var rfl ?_
        obtain ⟨xs38, hv, hs39, hr40⟩ := Mu.sq m13
        refine h_revQ hs39 ?_
        refine h_nwM w (ds := ((a33.2.reverse)).map enc) (K := K) (RepL.rev hr40) (fun p41 H42 hn45 s43 m44 => ?_) 
        have n46 := st.nn hn45
        have ne47 := Mu.ne m13 hn45
        replace m13 := m13.step s43 nm0
        replace st := st.go s43 go0
        replace w := s43.ok
        exact P.ok _ _ _ st n46 m44
theorem ok_number_at {f : Addr} {fd : FuncData}  (F : Fun K "number_at" "number_at" s_number_at f fd) (c_GREATEST : CI mg "GREATEST" 1000000000000000000000000000000000000000000000000000000000000) (bI_len : mg "len" = none) : FnOk Pr wo K mg base CX0 1 f fd ["row", "at"] (sp_number_at K) := by
  refine F.ok sc_number_at (fun vs H Q E h => ?_) (fun cdv A outer s H0 vs Q E hr h => ?_)
  · obtain ⟨_, _, _, _, _, rfl, _⟩ := h; rfl
  · obtain ⟨B0, v_row, a_row, a_at, w, rfl, r_row, P⟩ := h
    have w0 := w
    have hu := hu_of hr
    have hu64 := hu64_of hr
    have hu65 := hu65_of hr
    refine ⟨_, (pss_cons (ps_if (pt_cmpR (r := rEqD K) (op_eqD hu64) (pe_slice (r := rSlQ K) sl_Q (pv 0) (po_some (pv 1)) (po_some (pe_op op_add (pv 1) pe_int))) (pe_lst (pa_cons pe_int pa_nil)) (nomark _)) (pss_one (ps_ret pe_non)) pss_nil)
      (pss_cons (ps_set (i := 2) sc_number_at.nd rfl (by first | exact Or.inl rfl | exact Or.inr rfl) pe_int)
      (pss_cons (ps_while PassesOwn.never (pt_cmpR op_lt (pv 1) (pe_callB (r := rLenY K) cr_len (by rfl) bI_len PySem.boot_len (pa_cons (pv 0) pa_nil)) (nomark _)) (pss_cons (ps_set (i := 2) sc_number_at.nd rfl (by first | exact Or.inl rfl | exact Or.inr rfl) (pe_op op_add (pe_op op_mul (pv 2) pe_int) (pe_op op_mod (pe_ix (r := rIxL K) ix_list (pv 0) (pv 1) (fun _ _ => rfl)) pe_int)))
      (pss_cons (ps_set (i := 1) sc_number_at.nd rfl (by first | exact Or.inl rfl | exact Or.inr rfl) (pe_op op_add (pv 1) pe_int))
      (pss_cons (ps_if (pt_cmpR op_gt (pv 2) (pe_globI (i := 1000000000000000000000000000000000000000000000000000000000000) (by rfl) c_GREATEST) (nomark _)) (pss_one (ps_ret pe_non)) pss_nil)
      (pss_one (ps_if (pt_cmpR op_lt (pe_ix (r := rIxL K) ix_list (pv 0) (pe_op op_sub (pv 1) pe_int) (fun _ _ => rfl)) pe_int (nomark _)) (pss_one (ps_ret (pe_tup (pa_cons (pv 2) (pa_cons (pv 1) pa_nil))))) pss_nil))))))
      (pss_one (ps_ret pe_non))))), ?_⟩
    unfold m_number_at at P
    have st := Stp.refl (W := []) w
    refine h_seq <| h_if ?_
    refine h_test ?_
    refine h_op ?_
    refine h_sl ?_
    refine h_var rfl ?_
    refine h_part ?_
    refine h_var rfl ?_
    refine h_isI ?_
    refine h_part ?_
    refine h_op ?_
    refine h_var rfl ?_
    refine h_c ?_
    refine h_I0 ?_
    refine h_isI ?_
    obtain ⟨p1, xs2, rfl, hs3, hr4⟩ := Rep.sq w (r_row.mono st.ex)
    refine h_slQ hs3 ?_
    refine h_nwL w (ds := ((cutL a_row (some a_at) (some (a_at + 1)))).map enc) (K := K) (hr4.cut (some a_at) (some (a_at + 1))) (fun p5 B6 H7 s8 r9 => ?_) 
    replace st := st.go s8 go0
    replace w := s8.ok
    replace r9 : Rep K B6 (.ref p5) (enc (cutL a_row (some a_at) (some (a_at + 1)))) := r9
    refine h_lst ?_
    refine h_cons ?_
    refine h_c ?_
    refine h_nil ?_
    refine h_newL w (ds := (([128] : List Int)).map enc) (K := K) (.cons (Rep.int _) .nil) (fun p10 B11 H12 s13 r14 => ?_) (by show 1 ≤ sizeLine; decide)
    replace r9 := r9.mono s13.ex
    replace st := st.go s13 go0
    replace w := s13.ok
    replace r14 : Rep K B11 (.ref p10) (enc ([128] : List Int)) := r14
    obtain ⟨gd, P⟩ := P.guard
    refine h_eqD (d := (enc (cutL a_row (some a_at) (some (a_at + 1))))) (e := (enc ([128] : List Int))) w r9 r14 gd ?_
    refine h_bl ?_
    refine h_ite (fun c1 => ?_) (fun c1 => ?_)
    · replace P := P.iteT c1
      refine h_ret ?_
      refine h_c ?_
      exact P.ok _ _ _ st Rep.non
    · replace P := P.iteF c1
      refine h_next ?_
      refine h_nx ?_
      refine h_set ?_
      refine h_c ?_
      refine h_seq ?_
      have wj16 := w
      have sj15 := Stp.refl (W := []) w
      refine h_while P (fun (a : Int × Int) σ' H' => ∃ (B' : Hp), Stp [] B11 H12 B' H' ∧ σ' = [some ((.ref p1)), some (.int a.2), some (.int a.1)]) ⟨_, sj15, rfl⟩ ?_ ?_
      · rintro N17 C18 T19 a24 _ H26 ⟨B25, s27, rfl⟩ kn20 kk21 kr22 kb23 P
        replace st := st.go s27 go0
        replace w := s27.ok
        have sj15 := s27
        refine h_test ?_
        refine h_op ?_
        refine h_var rfl ?_
        refine h_cb ?_
        refine h_cons ?_
        refine h_var rfl ?_
        refine h_nil ?_
        obtain ⟨p28, xs29, hv, hs30, hr31⟩ := Rep.sq w (r_row.mono st.ex)
        cases hv
        refine h_len hs30 hr31 ?_
        refine h_I0 ?_
        refine h_bl ?_
        refine h_ite (fun c1 => ?_) (fun c1 => ?_)
        · replace P := P.iteT c1
          refine ⟨N17, kn20, ?_⟩
          refine h_set ?_
          refine h_op ?_
          refine h_op ?_
          refine h_var rfl ?_
          refine h_c ?_
          refine h_I (.inr ⟨by decide +kernel, by decide +kernel⟩) ?_
          refine h_op ?_
          refine h_op ?_
          refine h_var rfl ?_
          refine h_var rfl ?_
          obtain ⟨p32, xs33, hv, hs34, hr35⟩ := Rep.sq w (r_row.mono st.ex)
          cases hv
          obtain ⟨x36, hx37, P⟩ := P.ix
          obtain ⟨u38, hu, r39⟩ := RepL.atE hr35 hx37
          refine h_ixL hs34 hu ?_
          cases r39
          refine h_c ?_
          refine h_I (by decide +kernel) ?_
          refine h_I0 ?_
          replace P := P.lt
          generalize hx : ((a24.1 * 128) + (x36 % 128)) = x40 at P ⊢
          refine h_set ?_
          refine h_op ?_
          refine h_var rfl ?_
          refine h_c ?_
          refine h_I0 ?_
          replace P := P.lt
          generalize hx : (a24.2 + 1) = x41 at P ⊢
          refine h_seq <| h_if ?_
          refine h_test ?_
          refine h_op ?_
          refine h_var rfl ?_
          refine h_c ?_
          refine h_I0 ?_
          refine h_bl ?_
          refine h_ite (fun c1 => ?_) (fun c1 => ?_)
          · replace P := P.iteT c1
            refine h_ret ?_
            refine h_c ?_
            exact (kr22 _ P.ok) _ _ _ st Rep.non
          · replace P := P.iteF c1
            refine h_next ?_
            refine h_nx ?_
            refine h_if ?_
            refine h_test ?_
            refine h_op ?_
            refine h_op ?_
            refine h_var rfl ?_
            refine h_op ?_
            refine h_var rfl ?_
            refine h_c ?_
            refine h_I0 ?_
            obtain ⟨p42, xs43, hv, hs44, hr45⟩ := Rep.sq w (r_row.mono st.ex)
            cases hv
            obtain ⟨x46, hx47, P⟩ := P.ix
            obtain ⟨u48, hu, r49⟩ := RepL.atE hr45 hx47
            refine h_ixL hs44 hu ?_
            cases r49
            refine h_c ?_
            refine h_I0 ?_
            refine h_bl ?_
            refine h_ite (fun c1 => ?_) (fun c1 => ?_)
            · replace P := P.iteT c1
              refine h_ret ?_
              refine h_tup ?_
              refine h_cons ?_
              refine h_var rfl ?_
              refine h_cons ?_
              refine h_var rfl ?_
              refine h_nil ?_
              refine h_newT w (K := K) (.cons (Rep.int _) (.cons (Rep.int _) .nil)) (fun p50 B51 H52 s53 r54 => ?_) (by show 2 ≤ sizeLine; decide)
              replace st := st.go s53 go0
              replace sj15 := sj15.go s53 go0
              replace w := s53.ok
              replace r54 : Rep K B51 (.ref p50) (enc (⟨x40, x41⟩ : (Tp2 Int Int))) := r54
              exact (kr22 _ P.ok) _ _ _ st r54
            · replace P := P.iteF c1
              refine h_next ?_
              refine h_nx ?_
              exact kk21 (x40, x41) _ _ ⟨_, sj15, rfl⟩ P.ok
        · replace P := P.iteF c1
          exact kb23 (a24.1, a24.2) _ _ ⟨_, sj15, rfl⟩ P.ok
      · rintro a55 _ H57 ⟨B56, s58, rfl⟩ P
        replace st := st.go s58 go0
        replace w := s58.ok
        refine h_nx ?_
        refine h_ret ?_
        refine h_c ?_
        exact P.ok _ _ _ st Rep.non
theorem ok_read_number {f : Addr} {fd : FuncData} {tk_read_number_at : Tok} (F : FunV K "read_number" "read_number" s_read_number [.int 0 tk_read_number_at] f fd) {C_NoNumber : Addr} (T_NoNumber : ExcR K mg "NoNumber" C_NoNumber) {f_sure_place : Addr} {d_sure_place : FuncData} (g_sure_place : mg "sure_place" = some (.ref f_sure_place)) (k_sure_place : PySem.W.keepIn K (.ref f_sure_place) = true) (b_sure_place : L2.Binds K d_sure_place ["row", "at"] []) (G_sure_place : FnOk Pr wo K mg base (L2.CX Pr wo) 4 f_sure_place d_sure_place ["row", "at"] (sp_sure_place K mg)) {f_number_at : Addr} {d_number_at : FuncData} (g_number_at : mg "number_at" = some (.ref f_number_at)) (k_number_at : PySem.W.keepIn K (.ref f_number_at) = true) (b_number_at : L2.Binds K d_number_at ["row", "at"] []) (G_number_at : FnOk Pr wo K mg base CX0 1 f_number_at d_number_at ["row", "at"] (sp_number_at K)) : FnOk Pr wo K mg base (L2.CX Pr wo) 5 f fd ["row", "at"] (sp_read_number K mg) := by
  refine F.okX sc_read_number (fun vs H Q E h => ?_) (fun cdv A outer s H0 vs Q E hr h => ?_)
  · obtain ⟨_, _, _, _, _, _, rfl, _⟩ := h; rfl
  · obtain ⟨B0, v_row, a_row, v_at, a_at, w, rfl, r_row, r_at, P⟩ := h
    have w0 := w
    have hu := hu_of hr
    have hu64 := hu64_of hr
    have hu65 := hu65_of hr
    have hr1 : Room 1 _ := hr.mono (by decide)
    have hr4 : Room 4 _ := hr.mono (by decide)
    refine ⟨_, (pss_cons (ps_expr (pe_callS G_sure_place hr4 rfl g_sure_place k_sure_place b_sure_place (fun σ => passAt (takes_of rfl rfl rfl rfl) σ) (pa_cons (pv 0) (pa_cons (pv 1) pa_nil))))
      (pss_cons (ps_set (i := 2) sc_read_number.nd rfl (by first | exact Or.inl rfl | exact Or.inr rfl) (pe_call G_number_at hr1 rfl g_number_at k_number_at b_number_at .nil pass0 (pa_cons (pv 0) (pa_cons (pv 1) pa_nil))))
      (pss_cons (ps_if (pt_cmpR op_isNn (pv 2) pe_non (nomark _)) (pss_one (ps_raise rfl (takes_of rfl rfl rfl rfl) (pmk_own PySem.F.excBase_ValueError T_NoNumber.ex T_NoNumber.g T_NoNumber.kp (raises_own T_NoNumber.ec.hs T_NoNumber.ty) rfl))) pss_nil)
      (pss_one (ps_ret (pv 2)))))), ?_⟩
    unfold m_read_number at P
    have st := Stp.refl (W := []) w
    refine h_seq ?_
    refine h_drop ?_
    refine h_callS ?_
    refine h_cons ?_
    refine h_var rfl ?_
    refine h_cons ?_
    refine h_var rfl ?_
    refine h_nil ?_
    refine ⟨B0, v_row, a_row, v_at, a_at, w, rfl, (r_row.mono st.ex), (r_at.mono st.ex), Post.mono2 P.bind (fun e7 P => ?_) (fun x1 P => ?_)⟩
    · skip
      exact fun C B' H' g s => P C B' H' g (st.go s go0)
    refine fun v5 B2 H3 s4 r6 => ?_
    replace st := st.go s4 go0
    replace w := s4.ok
    cases r6
    refine h_nx ?_
    refine h_set ?_
    refine h_call ?_
    refine h_cons ?_
    refine h_var rfl ?_
    refine h_cons ?_
    refine h_var rfl ?_
    refine h_nil ?_
    obtain ⟨x8, hx9, P⟩ := P.asD
    have rc10 := (r_row.mono st.ex)
    rw [hx9] at rc10
    obtain ⟨i11, hi12, P⟩ := P.asI
    have rc13 := (r_at.mono st.ex)
    rw [hi12] at rc13
    cases rc13
    refine ⟨B2, v_row, x8, i11, w, rfl, rc10, (P.bind.noErr).mono (fun x14 P => ?_) (fun _ z => z.elim)⟩
    refine fun v18 B15 H16 s17 r19 => ?_
    replace st := st.go s17 go0
    replace w := s17.ok
    refine h_seq <| h_if ?_
    refine h_test ?_
    refine h_op ?_
    refine h_var rfl ?_
    refine h_c ?_
    refine h_isN r19 ?_
    refine h_bl ?_
    refine h_ite (fun c1 => ?_) (fun c1 => ?_)
    · replace P := P.iteT c1
      exact P.err _ _ _ T_NoNumber.g st
    · replace P := P.iteF c1
      refine h_next ?_
      refine h_nx ?_
      refine h_ret ?_
      refine h_var rfl ?_
      obtain ⟨x20, hx21, P⟩ := P.some
      have rc22 := r19
      rw [hx21] at rc22
      replace rc22 : Rep K B15 v18 (enc x20) := rc22
      exact P.ok _ _ _ st rc22
theorem ok__law_digit {f : Addr} {fd : FuncData}  (F : Fun K "_law_digit" "_law_digit" s__law_digit f fd) (bI_len : mg "len" = none) : FnOk Pr wo K mg base CX0 1 f fd ["_law_state", "_law_base"] (sp__law_digit K) := by
  refine F.ok sc__law_digit (fun vs H Q E h => ?_) (fun cdv A outer s H0 vs Q E hr h => ?_)
  · obtain ⟨_, _, _, _, _, rfl, _⟩ := h; rfl
  · obtain ⟨B0, p_state, a_state, a_base, w, rfl, m_state, P⟩ := h
    have w0 := w
    have hu := hu_of hr
    have hu64 := hu64_of hr
    have hu65 := hu65_of hr
    refine ⟨_, (pss_cons (ps_if (pt_cmpR op_eq (pe_callB (r := rLenY K) cr_len (by rfl) bI_len PySem.boot_len (pa_cons (pv 0) pa_nil)) pe_int (nomark _)) (pss_one (ps_expr (pe_bm PySem.F.plainAttrs_list PySem.F.slot_list_extend PySem.F.type_list_extend mt_extend (pv 0) (pa_cons (pe_lst (pa_cons (pe_op op_mod (pe_ix (r := rIxL K) ix_list (pv 0) pe_int (fun _ _ => rfl)) pe_int) (pa_cons pe_int pa_nil))) pa_nil)))) pss_nil)
      (pss_cons (ps_if (pt_cmpR op_ge (pe_ix (r := rIxL K) ix_list (pv 0) pe_int (fun _ _ => rfl)) (pv 1) (nomark _)) (pss_cons (ps_set (i := 2) sc__law_digit.nd rfl (by first | exact Or.inl rfl | exact Or.inr rfl) (pe_op op_mod (pe_ix (r := rIxL K) ix_list (pv 0) pe_int (fun _ _ => rfl)) (pv 1)))
      (pss_cons (ps_asg (pe_op op_fdivW (pe_ix (r := rIxL K) ix_list (pv 0) pe_int (fun _ _ => rfl)) (pv 1)) (pg_sub (pv 0) pe_int set_list))
      (pss_one (ps_ret (pv 2))))) pss_nil)
      (pss_cons (ps_asg (pe_op op_add (pe_ix (r := rIxL K) ix_list (pv 0) pe_int (fun _ _ => rfl)) pe_int) (pg_sub (pv 0) pe_int set_list))
      (pss_cons (ps_set (i := 3) sc__law_digit.nd rfl (by first | exact Or.inl rfl | exact Or.inr rfl) (pe_op op_mod (pe_op op_mul (pe_op op_add (pe_op op_add (pe_ix (r := rIxL K) ix_list (pv 0) pe_int (fun _ _ => rfl)) (pe_op op_mul pe_int (pe_ix (r := rIxL K) ix_list (pv 0) pe_int (fun _ _ => rfl)))) pe_int) pe_int) pe_int))
      (pss_cons (ps_set (i := 3) sc__law_digit.nd rfl (by first | exact Or.inl rfl | exact Or.inr rfl) (pe_op op_mod (pe_op op_mulW (pv 3) (pe_op op_add (pe_op op_fdiv (pv 3) pe_int) pe_int)) pe_int))
      (pss_one (ps_ret (pe_op op_mod (pe_op op_mod (pe_op op_mulW (pv 3) (pe_op op_add (pe_op op_fdiv (pv 3) pe_int) pe_int)) pe_int) (pv 1))))))))), ?_⟩
    unfold l_digit at P
    have st := Stp.refl (W := [p_state]) w
    have wj2 := w
    have sj1 := Stp.refl (W := [p_state]) w
    refine h_joinS P (fun (a : (List Int)) σ' H' => ∃ (B' : Hp), Stp [p_state] B0 H0 B' H' ∧ σ' = [some ((.ref p_state)), some (.int a_base), none, none] ∧ Mu K B' H' p_state (a.map enc)) (fun N kk3 P => h_if ?_) ?_
    · skip
      refine h_test ?_
      refine h_op ?_
      refine h_cb ?_
      refine h_cons ?_
      refine h_var rfl ?_
      refine h_nil ?_
      obtain ⟨xs5, hv, hs6, hr7⟩ := Mu.sq m_state
      refine h_len hs6 hr7 ?_
      refine h_c ?_
      refine h_eqI ?_
      refine h_bl ?_
      refine h_ite (fun c1 => ?_) (fun c1 => ?_)
      · replace P := P.iteT c1
        refine h_drop ?_
        refine h_bm ?_
        refine h_var rfl ?_
        refine h_bmL m_state ?_
        refine h_cons ?_
        refine h_lst ?_
        refine h_cons ?_
        refine h_op ?_
        refine h_op ?_
        refine h_var rfl ?_
        refine h_c ?_
        obtain ⟨xs9, hv, hs10, hr11⟩ := Mu.sq m_state
        obtain ⟨x12, hx13, P⟩ := P.ix
        obtain ⟨u14, hu, r15⟩ := RepL.atE hr11 hx13
        refine h_ixL hs10 hu ?_
        cases r15
        refine h_c ?_
        refine h_I (by decide +kernel) ?_
        refine h_cons ?_
        refine h_c ?_
        refine h_nil ?_
        refine h_newM w (ds := (([(x12 % 2147483647), 0] : List Int)).map enc) (K := K) (.cons (Rep.int _) (.cons (Rep.int _) .nil)) (fun p16 H17 hn20 s18 m19 => ?_) (by show 2 ≤ sizeLine; decide)
        have n21 := st.nn hn20
        have n22 := sj1.nn hn20
        have ne23 := Mu.ne m_state hn20
        replace m_state := m_state.step s18 nm0
        replace st := st.go s18 go0
        replace sj1 := sj1.go s18 go0
        replace w := s18.ok
        refine h_nil ?_
        obtain ⟨gd, P⟩ := P.guard
        refine h_extend w m_state m19 gd (fun H24 s25 m_state => ?_)
        replace st := st.go s25 (go1 (.inl (by simp)))
        replace sj1 := sj1.go s25 (go1 (.inl (by simp)))
        replace w := s25.ok
        refine h_nx ?_
        exact kk3 (a_state ++ ([(x12 % 2147483647), 0] : List Int)) _ _ ⟨_, sj1, rfl, m_state⟩ P.ok
      · replace P := P.iteF c1
        refine h_next ?_
        refine h_nx ?_
        exact kk3 a_state _ _ ⟨_, sj1, rfl, m_state⟩ P.ok
    rintro a26 _ H28 ⟨B27, s29, rfl, m_state⟩ P
    replace st := st.go s29 (go1 (.inl (by simp)))
    replace w := s29.ok
    refine h_seq <| h_if ?_
    refine h_test ?_
    refine h_op ?_
    refine h_op ?_
    refine h_var rfl ?_
    refine h_c ?_
    obtain ⟨xs31, hv, hs32, hr33⟩ := Mu.sq m_state
    obtain ⟨x34, hx35, P⟩ := P.ix
    obtain ⟨u36, hu, r37⟩ := RepL.atE hr33 hx35
    refine h_ixL hs32 hu ?_
    cases r37
    refine h_var rfl ?_
    refine h_I0 ?_
    refine h_bl ?_
    refine h_ite (fun c1 => ?_) (fun c1 => ?_)
    · replace P := P.iteT c1
      refine h_set ?_
      refine h_op ?_
      refine h_op ?_
      refine h_var rfl ?_
      refine h_c ?_
      obtain ⟨xs39, hv, hs40, hr41⟩ := Mu.sq m_state
      obtain ⟨x42, hx43, P⟩ := P.ix
      obtain ⟨u44, hu, r45⟩ := RepL.atE hr41 hx43
      refine h_ixL hs40 hu ?_
      cases r45
      refine h_var rfl ?_
      obtain ⟨gd, P⟩ := P.guard
      refine h_I gd ?_
      replace P := P.lt
      generalize hx : (x42 % a_base) = x46 at P ⊢
      refine h_seq ?_
      refine h_asg ?_
      refine h_op ?_
      refine h_op ?_
      refine h_var rfl ?_
      refine h_c ?_
      obtain ⟨xs48, hv, hs49, hr50⟩ := Mu.sq m_state
      obtain ⟨x51, hx52, P⟩ := P.ix
      obtain ⟨u53, hu, r54⟩ := RepL.atE hr50 hx52
      refine h_ixL hs49 hu ?_
      cases r54
      refine h_var rfl ?_
      obtain ⟨gd, P⟩ := P.guard
      refine h_I gd ?_
      refine h_sub ?_
      refine h_var rfl ?_
      refine h_c ?_
      obtain ⟨j56, hj57, P⟩ := P.set
      refine h_setL (b := (x51 / a_base)) w m_state (Rep.int _) hj57 (fun H58 s59 m_state => ?_)
      replace st := st.go s59 (go1 (.inl (by simp)))
      replace w := s59.ok
      generalize hl : List.set a26 j56 (x51 / a_base) = x55 at *
      refine h_nx ?_
      refine h_ret ?_
      refine h_var rfl ?_
      exact P.ok _ _ _ st m_state (Rep.int _)
    · replace P := P.iteF c1
      refine h_next ?_
      refine h_nx ?_
      refine h_seq ?_
      refine h_asg ?_
      refine h_op ?_
      refine h_op ?_
      refine h_var rfl ?_
      refine h_c ?_
      obtain ⟨xs61, hv, hs62, hr63⟩ := Mu.sq m_state
      obtain ⟨x64, hx65, P⟩ := P.ix
      obtain ⟨u66, hu, r67⟩ := RepL.atE hr63 hx65
      refine h_ixL hs62 hu ?_
      cases r67
      refine h_c ?_
      refine h_I0 ?_
      refine h_sub ?_
      refine h_var rfl ?_
      refine h_c ?_
      obtain ⟨j69, hj70, P⟩ := P.set
      refine h_setL (b := (x64 + 1)) w m_state (Rep.int _) hj70 (fun H71 s72 m_state => ?_)
      replace st := st.go s72 (go1 (.inl (by simp)))
      replace w := s72.ok
      generalize hl : List.set a26 j69 (x64 + 1) = x68 at *
      refine h_nx ?_
      refine h_set ?_
      refine h_op ?_
      refine h_op ?_
      refine h_op ?_
      refine h_op ?_
      refine h_op ?_
      refine h_var rfl ?_
      refine h_c ?_
      obtain ⟨xs74, hv, hs75, hr76⟩ := Mu.sq m_state
      obtain ⟨x77, hx78, P⟩ := P.ix
      obtain ⟨u79, hu, r80⟩ := RepL.atE hr76 hx78
      refine h_ixL hs75 hu ?_
      cases r80
      refine h_op ?_
      refine h_c ?_
      refine h_op ?_
      refine h_var rfl ?_
      refine h_c ?_
      obtain ⟨xs82, hv, hs83, hr84⟩ := Mu.sq m_state
      obtain ⟨x85, hx86, P⟩ := P.ix
      obtain ⟨u87, hu, r88⟩ := RepL.atE hr84 hx86
      refine h_ixL hs83 hu ?_
      cases r88
      refine h_I (.inl ⟨by decide +kernel, by decide +kernel⟩) ?_
      refine h_I0 ?_
      refine h_c ?_
      refine h_I0 ?_
      refine h_c ?_
      refine h_I (.inr ⟨by decide +kernel, by decide +kernel⟩) ?_
      refine h_c ?_
      refine h_I (by decide +kernel) ?_
      replace P := P.lt
      generalize hx : ((((x77 + (7919 * x85)) + 1) * 48271) % 2147483647) = x89 at P ⊢
      refine h_set ?_
      refine h_op ?_
      refine h_op ?_
      refine h_var rfl ?_
      refine h_op ?_
      refine h_op ?_
      refine h_var rfl ?_
      refine h_c ?_
      refine h_I ⟨by decide +kernel, by decide +kernel⟩ ?_
      refine h_c ?_
      refine h_I0 ?_
      obtain ⟨gd, P⟩ := P.guard
      refine h_I gd ?_
      refine h_c ?_
      refine h_I (by decide +kernel) ?_
      replace P := P.lt
      generalize hx : ((x89 * ((x89 / 1009) + 69621)) % 2147483647) = x90 at P ⊢
      refine h_ret ?_
      refine h_op ?_
      refine h_op ?_
      refine h_op ?_
      refine h_var rfl ?_
      refine h_op ?_
      refine h_op ?_
      refine h_var rfl ?_
      refine h_c ?_
      refine h_I ⟨by decide +kernel, by decide +kernel⟩ ?_
      refine h_c ?_
      refine h_I0 ?_
      obtain ⟨gd, P⟩ := P.guard
      refine h_I gd ?_
      refine h_c ?_
      refine h_I (by decide +kernel) ?_
      refine h_var rfl ?_
      obtain ⟨gd, P⟩ := P.guard
      refine h_I gd ?_
      exact P.ok _ _ _ st m_state (Rep.int _)
theorem ok__law_figures {f : Addr} {fd : FuncData}  (F : Fun K "_law_figures" "_law_figures" s__law_figures f fd)  : FnOk Pr wo K mg base CX0 1 f fd ["_law_number_here"] (sp__law_figures K) := by
  refine F.ok sc__law_figures (fun vs H Q E h => ?_) (fun cdv A outer s H0 vs Q E hr h => ?_)
  · obtain ⟨_, _, _, rfl, _⟩ := h; rfl
  · obtain ⟨B0, a_number_here, w, rfl, P⟩ := h
    have w0 := w
    have hu := hu_of hr
    have hu64 := hu64_of hr
    have hu65 := hu65_of hr
    refine ⟨_, (pss_cons (ps_set (i := 1) sc__law_figures.nd rfl (by first | exact Or.inl rfl | exact Or.inr rfl) (pe_lst (pa_cons (pe_op op_mod (pv 0) pe_int) pa_nil)))
      (pss_cons (ps_while PassesOwn.never (pt_cmpR op_ge (pv 0) pe_int (nomark _)) (pss_cons (ps_set (i := 0) sc__law_figures.nd rfl (by first | exact Or.inl rfl | exact Or.inr rfl) (pe_op op_fdiv (pv 0) pe_int))
      (pss_one (ps_set (i := 1) sc__law_figures.nd rfl (by first | exact Or.inl rfl | exact Or.inr rfl) (pe_op (r := rCatQ K) op_catQ (pe_lst (pa_cons (pe_op op_add pe_int (pe_op op_mod (pv 0) pe_int)) pa_nil)) (pv 1))))))
      (pss_one (ps_ret (pv 1))))), ?_⟩
    unfold l_figures at P
    have st := Stp.refl (W := []) w
    refine h_set ?_
    refine h_lst ?_
    refine h_cons ?_
    refine h_op ?_
    refine h_var rfl ?_
    refine h_c ?_
    refine h_I (by decide +kernel) ?_
    refine h_nil ?_
    refine h_newM w (ds := (([(a_number_here % 128)] : List Int)).map enc) (K := K) (.cons (Rep.int _) .nil) (fun p1 H2 hn5 s3 m4 => ?_) (by show 1 ≤ sizeLine; decide)
    have n6 := st.nn hn5
    replace st := st.go s3 go0
    replace w := s3.ok
    refine h_seq ?_
    have wj8 := w
    have sj7 := Stp.refl (W := []) w
    refine h_while P (fun (a : Int × (List Int)) σ' H' => ∃ (B' : Hp) (p__law_found : Addr), Stp [] B0 H2 B' H' ∧ σ' = [some (.int a.1), some (.ref p__law_found)] ∧ Mu K B' H' p__law_found (a.2.map enc) ∧ H0 p__law_found = none) ⟨_, p1, sj7, rfl, m4, n6⟩ ?_ ?_
    · rintro N9 C10 T11 a16 _ H18 ⟨B17, p20, s19, rfl, m21, n22⟩ kn12 kk13 kr14 kb15 P
      replace st := st.go s19 go0
      replace w := s19.ok
      have sj7 := s19
      refine h_test ?_
      refine h_op ?_
      refine h_var rfl ?_
      refine h_c ?_
      refine h_I0 ?_
      refine h_bl ?_
      refine h_ite (fun c1 => ?_) (fun c1 => ?_)
      · replace P := P.iteT c1
        refine ⟨N9, kn12, ?_⟩
        refine h_set ?_
        refine h_op ?_
        refine h_var rfl ?_
        refine h_c ?_
        refine h_I ⟨by decide +kernel, by decide +kernel⟩ ?_
        replace P := P.lt
        generalize hx : (a16.1 / 128) = x23 at P ⊢
        refine h_set1 ?_
        refine h_op ?_
        refine h_lst ?_
        refine h_cons ?_
        refine h_op ?_
        refine h_c ?_
        refine h_op ?_
        refine h_var rfl ?_
        refine h_c ?_
        refine h_I (by decide +kernel) ?_
        refine h_I0 ?_
        refine h_nil ?_
        refine h_newL w (ds := (([(128 + (x23 % 128))] : List Int)).map enc) (K := K) (.cons (Rep.int _) .nil) (fun p24 B25 H26 s27 r28 => ?_) (by show 1 ≤ sizeLine; decide)
        replace m21 := m21.step s27 nm0
        replace st := st.go s27 go0
        replace sj7 := sj7.go s27 go0
        replace w := s27.ok
        replace r28 : Rep K B25 (.ref p24) (enc ([(128 + (x23 % 128))] : List Int)) := r28
        refine h_var rfl ?_
        obtain ⟨p29, xs30, hv, hs31, hr32⟩ := Rep.sq w r28
        cases hv
        obtain ⟨xs34, hv, hs35, hr36⟩ := Mu.sq m21
        obtain ⟨gd, P⟩ := P.guard
        refine h_cat hs31 hs35 (by have g := gd; simp only [hr32.length, hr36.length, List.length_map] at g ⊢; exact Nat.le_trans g (by decide)) ?_
        refine h_nwM w (ds := ((([(128 + (x23 % 128))] : List Int) ++ a16.2)).map enc) (K := K) (RepL.cat hr32 hr36) (fun p37 H38 hn41 s39 m40 => ?_) 
        have n42 := st.nn hn41
        have n43 := sj7.nn hn41
        have ne44 := Mu.ne m21 hn41
        replace m21 := m21.step s39 nm0
        replace st := st.go s39 go0
        replace sj7 := sj7.go s39 go0
        replace w := s39.ok
        refine h_nx ?_
        exact kk13 (x23, (([(128 + (x23 % 128))] : List Int) ++ a16.2)) _ _ ⟨_, p37, sj7, rfl, m40, n42⟩ P.ok
      · replace P := P.iteF c1
        exact kb15 (a16.1, a16.2) _ _ ⟨_, p20, sj7, rfl, m21, n22⟩ P.ok
    · rintro a45 _ H47 ⟨B46, p49, s48, rfl, m50, n51⟩ P
      replace st := st.go s48 go0
      replace w := s48.ok
      refine h_nx ?_
      refine h_ret ?_
      refine h_var rfl ?_
      exact P.ok _ _ _ st n51 m50
theorem ok__law_number_at {f : Addr} {fd : FuncData}  (F : Fun K "_law_number_at" "_law_number_at" s__law_number_at f fd) (bI_range : mg "range" = none) (bI_len : mg "len" = none) : FnOk Pr wo K mg base CX0 1 f fd ["_law_row", "_law_at"] (sp__law_number_at K) := by
  refine F.ok sc__law_number_at (fun vs H Q E h => ?_) (fun cdv A outer s H0 vs Q E hr h => ?_)
  · obtain ⟨_, _, _, _, _, rfl, _⟩ := h; rfl
  · obtain ⟨B0, v_row, a_row, a_at, w, rfl, r_row, P⟩ := h
    have w0 := w
    have hu := hu_of hr
    have hu64 := hu64_of hr
    have hu65 := hu65_of hr
    refine ⟨_, (pss_cons (ps_if (PW.pt (pw_or (pt_cmpR op_ge (pv 1) (pe_callB (r := rLenY K) cr_len (by rfl) bI_len PySem.boot_len (pa_cons (pv 0) pa_nil)) (nomark _)) (pw_or1 (pt_cmpR op_eq (pe_ix (r := rIxL K) ix_list (pv 0) (pv 1) (fun _ _ => rfl)) pe_int (nomark _))))) (pss_one (ps_ret pe_non)) pss_nil)
      (pss_cons (ps_set (i := 2) sc__law_number_at.nd rfl (by first | exact Or.inl rfl | exact Or.inr rfl) pe_int)
      (pss_cons (ps_for PassesOwn.never rfl (pi_range2 (by rfl) bI_range (pa_cons (pv 1) (pa_cons (pe_callB (r := rLenY K) cr_len (by rfl) bI_len PySem.boot_len (pa_cons (pv 0) pa_nil)) pa_nil))) (pg_name (i := 3) sc__law_number_at.nd rfl (by first | exact Or.inl rfl | exact Or.inr rfl)) (pss_cons (ps_set (i := 2) sc__law_number_at.nd rfl (by first | exact Or.inl rfl | exact Or.inr rfl) (pe_op op_add (pe_op op_mul (pv 2) pe_int) (pe_op op_mod (pe_ix (r := rIxL K) ix_list (pv 0) (pv 3) (fun _ _ => rfl)) pe_int)))
      (pss_cons (ps_if (pt_cmpR op_gt (pv 2) (pe_op op_pow pe_int pe_int) (nomark _)) (pss_one (ps_ret pe_non)) pss_nil)
      (pss_one (ps_if (pt_cmpR op_lt (pe_ix (r := rIxL K) ix_list (pv 0) (pv 3) (fun _ _ => rfl)) pe_int (nomark _)) (pss_one (ps_ret (pe_tup (pa_cons (pv 2) (pa_cons (pe_op op_add (pv 3) pe_int) pa_nil))))) pss_nil)))))
      (pss_one (ps_ret pe_non))))), ?_⟩
    unfold l_number_at at P
    have st := Stp.refl (W := []) w
    refine h_seq <| h_if ?_
    refine h_tor ?_
    refine h_test ?_
    refine h_op ?_
    refine h_var rfl ?_
    refine h_cb ?_
    refine h_cons ?_
    refine h_var rfl ?_
    refine h_nil ?_
    obtain ⟨p1, xs2, rfl, hs3, hr4⟩ := Rep.sq w (r_row.mono st.ex)
    refine h_len hs3 hr4 ?_
    refine h_I0 ?_
    refine h_bl ?_
    refine h_ite (fun c1 => ?_) (fun c1 => ?_)
    · replace P := P.iteT c1
      refine h_iteT ?_
      refine h_ret ?_
      refine h_c ?_
      exact P.ok _ _ _ st Rep.non
    · replace P := P.iteF c1
      refine h_test ?_
      refine h_op ?_
      refine h_op ?_
      refine h_var rfl ?_
      refine h_var rfl ?_
      obtain ⟨p5, xs6, hv, hs7, hr8⟩ := Rep.sq w (r_row.mono st.ex)
      cases hv
      obtain ⟨x9, hx10, P⟩ := P.ix
      obtain ⟨u11, hu, r12⟩ := RepL.atE hr8 hx10
      refine h_ixL hs7 hu ?_
      cases r12
      refine h_c ?_
      refine h_eqI ?_
      refine h_bl ?_
      refine h_ite (fun c1 => ?_) (fun c1 => ?_)
      · replace P := P.iteT c1
        refine h_ret ?_
        refine h_c ?_
        exact P.ok _ _ _ st Rep.non
      · replace P := P.iteF c1
        refine h_next ?_
        refine h_nx ?_
        refine h_set ?_
        refine h_c ?_
        refine h_seq ?_
        refine h_rng2 ?_
        refine h_cons ?_
        refine h_var rfl ?_
        refine h_cons ?_
        refine h_cb ?_
        refine h_cons ?_
        refine h_var rfl ?_
        refine h_nil ?_
        obtain ⟨p13, xs14, hv, hs15, hr16⟩ := Rep.sq w (r_row.mono st.ex)
        cases hv
        refine h_len hs15 hr16 ?_
        refine h_nil ?_
        obtain ⟨gz17, P⟩ := P.guard
        have wj19 := w
        have sj18 := Stp.refl (W := []) w
        refine h_forR2 P gz17 (fun (a : Int) σ' H' => ∃ (B' : Hp) (o__law_place : Option V), Stp [] B0 H0 B' H' ∧ σ' = [some ((.ref p1)), some (.int a_at), some (.int a), o__law_place]) ⟨_, _, sj18, rfl⟩ ?_ ?_
        · rintro N20 T21 x26 a25 _ H30 ⟨B29, o32, s31, rfl⟩ hlox26 hhix26 kk22 kr23 kb24 P
          replace st := st.go s31 go0
          replace w := s31.ok
          have sj18 := s31
          refine h_gname ?_
          refine h_set ?_
          refine h_op ?_
          refine h_op ?_
          refine h_var rfl ?_
          refine h_c ?_
          refine h_I (.inr ⟨by decide +kernel, by decide +kernel⟩) ?_
          refine h_op ?_
          refine h_op ?_
          refine h_var rfl ?_
          refine h_var rfl ?_
          obtain ⟨p33, xs34, hv, hs35, hr36⟩ := Rep.sq w (r_row.mono st.ex)
          cases hv
          obtain ⟨x37, hx38, P⟩ := P.ix
          obtain ⟨u39, hu, r40⟩ := RepL.atE hr36 hx38
          refine h_ixL hs35 hu ?_
          cases r40
          refine h_c ?_
          refine h_I (by decide +kernel) ?_
          refine h_I0 ?_
          replace P := P.lt
          generalize hx : ((a25 * 128) + (x37 % 128)) = x41 at P ⊢
          refine h_seq <| h_if ?_
          refine h_test ?_
          refine h_op ?_
          refine h_var rfl ?_
          refine h_op (h_c (h_c (h_pow (k := 1000000000000000000000000000000000000000000000000000000000000) (by decide +kernel) (by decide +kernel) ?_)))
          refine h_I0 ?_
          refine h_bl ?_
          refine h_ite (fun c1 => ?_) (fun c1 => ?_)
          · replace P := P.iteT c1
            refine h_ret ?_
            refine h_c ?_
            exact (kr23 _ P.ok) _ _ _ st Rep.non
          · replace P := P.iteF c1
            refine h_next ?_
            refine h_nx ?_
            refine h_if ?_
            refine h_test ?_
            refine h_op ?_
            refine h_op ?_
            refine h_var rfl ?_
            refine h_var rfl ?_
            obtain ⟨p42, xs43, hv, hs44, hr45⟩ := Rep.sq w (r_row.mono st.ex)
            cases hv
            obtain ⟨x46, hx47, P⟩ := P.ix
            obtain ⟨u48, hu, r49⟩ := RepL.atE hr45 hx47
            refine h_ixL hs44 hu ?_
            cases r49
            refine h_c ?_
            refine h_I0 ?_
            refine h_bl ?_
            refine h_ite (fun c1 => ?_) (fun c1 => ?_)
            · replace P := P.iteT c1
              refine h_ret ?_
              refine h_tup ?_
              refine h_cons ?_
              refine h_var rfl ?_
              refine h_cons ?_
              refine h_op ?_
              refine h_var rfl ?_
              refine h_c ?_
              refine h_I0 ?_
              refine h_nil ?_
              refine h_newT w (K := K) (.cons (Rep.int _) (.cons (Rep.int _) .nil)) (fun p50 B51 H52 s53 r54 => ?_) (by show 2 ≤ sizeLine; decide)
              replace st := st.go s53 go0
              replace sj18 := sj18.go s53 go0
              replace w := s53.ok
              replace r54 : Rep K B51 (.ref p50) (enc (⟨x41, (x26 + 1)⟩ : (Tp2 Int Int))) := r54
              exact (kr23 _ P.ok) _ _ _ st r54
            · replace P := P.iteF c1
              refine h_next ?_
              refine h_nx ?_
              exact kk22 x41 _ _ ⟨_, _, sj18, rfl⟩ P.ok
        · rintro a55 _ H57 ⟨B56, o59, s58, rfl⟩ P
          replace st := st.go s58 go0
          replace w := s58.ok
          refine h_nx ?_
          refine h_ret ?_
          refine h_c ?_
          exact P.ok _ _ _ st Rep.non
theorem ok__law_odd_row {f : Addr} {fd : FuncData}  (F : Fun K "_law_odd_row" "_law_odd_row" s__law_odd_row f fd) {f__law_digit : Addr} {d__law_digit : FuncData} (g__law_digit : mg "_law_digit" = some (.ref f__law_digit)) (k__law_digit : PySem.W.keepIn K (.ref f__law_digit) = true) (b__law_digit : L2.Binds K d__law_digit ["_law_state", "_law_base"] []) (G__law_digit : FnOk Pr wo K mg base CX0 1 f__law_digit d__law_digit ["_law_state", "_law_base"] (sp__law_digit K)) (bI_len : mg "len" = none) (bI_tuple : mg "tuple" = none) : FnOk Pr wo K mg base CX0 2 f fd ["_law_state", "_law_row"] (sp__law_odd_row K) := by
  refine F.ok sc__law_odd_row (fun vs H Q E h => ?_) (fun cdv A outer s H0 vs Q E hr h => ?_)
  · obtain ⟨_, _, _, _, _, _, rfl, _⟩ := h; rfl
  · obtain ⟨B0, p_state, a_state, v_row, a_row, w, rfl, m_state, r_row, P⟩ := h
    have w0 := w
    have hu := hu_of hr
    have hu64 := hu64_of hr
    have hu65 := hu65_of hr
    have hr1 : Room 1 _ := hr.mono (by decide)
    refine ⟨_, (pss_cons (ps_if (pt_cmpR op_eq (pe_call G__law_digit hr1 rfl g__law_digit k__law_digit b__law_digit .nil pass0 (pa_cons (pv 0) (pa_cons pe_int pa_nil))) pe_int (nomark _)) (pss_one (ps_ret (pe_ix (r := rIxL K) ix_list (pe_lst (pa_cons pe_non (pa_cons (pe_callTy (r := rTupY K) cr_tuple (by rfl) bI_tuple Y.boot_tuple (pa_cons (pv 1) pa_nil)) (pa_cons pe_str (pa_cons pe_int (pa_cons pe_dnewK (pa_cons pe_str (pa_cons pe_int pa_nil)))))))) (pe_call G__law_digit hr1 rfl g__law_digit k__law_digit b__law_digit .nil pass0 (pa_cons (pv 0) (pa_cons pe_int pa_nil))) (fun _ _ => rfl)))) pss_nil)
      (pss_cons (ps_set (i := 2) sc__law_odd_row.nd rfl (by first | exact Or.inl rfl | exact Or.inr rfl) (pe_ix (r := rIxL K) ix_list (pe_lst (pa_cons pe_int (pa_cons (pe_un un_neg pe_int) (pa_cons (pe_cmpR op_eq pe_int pe_int (nomark _)) (pa_cons pe_non (pa_cons pe_str (pa_cons (pe_lst (pa_cons pe_int pa_nil)) (pa_cons (pe_tup (pa_cons pe_int pa_nil)) (pa_cons (pe_op op_pow pe_int pe_int) (pa_cons (pe_un un_neg pe_int) (pa_cons (pe_cmpR op_eq pe_int pe_int (nomark _)) pa_nil))))))))))) (pe_call G__law_digit hr1 rfl g__law_digit k__law_digit b__law_digit .nil pass0 (pa_cons (pv 0) (pa_cons pe_int pa_nil))) (fun _ _ => rfl)))
      (pss_cons (ps_set (i := 3) sc__law_odd_row.nd rfl (by first | exact Or.inl rfl | exact Or.inr rfl) (pe_call G__law_digit hr1 rfl g__law_digit k__law_digit b__law_digit .nil pass0 (pa_cons (pv 0) (pa_cons (pe_op op_add (pe_callB (r := rLenY K) cr_len (by rfl) bI_len PySem.boot_len (pa_cons (pv 1) pa_nil)) pe_int) pa_nil))))
      (pss_one (ps_ret (pe_op (r := rCatQ K) op_catQ (pe_op (r := rCatQ K) op_catQ (pe_slice (r := rSlQ K) sl_Q (pv 1) po_none (po_some (pv 3))) (pe_lst (pa_cons (pv 2) pa_nil))) (pe_slice (r := rSlQ K) sl_Q (pv 1) (po_some (pv 3)) po_none))))))), ?_⟩
    unfold l_odd_row at P
    have st := Stp.refl (W := [p_state]) w
    refine h_seq <| h_if ?_
    refine h_test ?_
    refine h_op ?_
    refine h_call ?_
    refine h_cons ?_
    refine h_var rfl ?_
    refine h_cons ?_
    refine h_c ?_
    refine h_nil ?_
    refine ⟨B0, p_state, a_state, 4, w, rfl, m_state, (P.bind).mono (fun x1 P => ?_) (fun _ z => z)⟩
    refine fun v5 B2 H3 s4 m_state r6 => ?_
    replace st := st.go s4 (go1 (.inl (by simp)))
    replace w := s4.ok
    cases r6
    refine h_c ?_
    refine h_eqI ?_
    refine h_bl ?_
    refine h_ite (fun c1 => ?_) (fun c1 => ?_)
    · replace P := P.iteT c1
      refine h_ret ?_
      refine h_op ?_
      refine h_lst ?_
      refine h_cons ?_
      refine h_c ?_
      refine h_cons ?_
      refine h_cb ?_
      refine h_cons ?_
      refine h_var rfl ?_
      refine h_nil ?_
      obtain ⟨p7, xs8, rfl, hs9, hr10⟩ := Rep.sq w (r_row.mono st.ex)
      refine h_tupL hs9 (h_nwT w (K := K) hr10 (fun p11 B12 H13 s14 r15 => ?_))
      replace m_state := m_state.step s14 nm0
      replace st := st.go s14 go0
      replace w := s14.ok
      refine h_cons ?_
      refine h_c ?_
      refine h_cons ?_
      refine h_c ?_
      refine h_cons ?_
      refine h_dnew w (K := K) (fun p16 B17 H18 s19 r20 => ?_)
      replace m_state := m_state.step s19 nm0
      replace r15 := r15.mono s19.ex
      replace st := st.go s19 go0
      replace w := s19.ok
      refine h_cons ?_
      refine h_c ?_
      refine h_cons ?_
      refine h_c ?_
      refine h_nil ?_
      refine h_newL w (ds := (([(enc ()), (.tup (a_row.map enc) : D), (enc ("" : Str)), (enc (0 : Int)), (.dic [] : D), (enc ("ab" : Str)), (enc (255 : Int))] : List D)).map enc) (K := K) (.cons Rep.non (.cons r15 (.cons (Rep.str _) (.cons (Rep.int _) (.cons r20 (.cons (Rep.str _) (.cons (Rep.int _) .nil))))))) (fun p21 B22 H23 s24 r25 => ?_) (by show 7 ≤ sizeLine; decide)
      replace m_state := m_state.step s24 nm0
      replace st := st.go s24 go0
      replace w := s24.ok
      replace r25 : Rep K B22 (.ref p21) (enc ([(enc ()), (.tup (a_row.map enc) : D), (enc ("" : Str)), (enc (0 : Int)), (.dic [] : D), (enc ("ab" : Str)), (enc (255 : Int))] : List D)) := r25
      refine h_call ?_
      refine h_cons ?_
      refine h_var rfl ?_
      refine h_cons ?_
      refine h_c ?_
      refine h_nil ?_
      refine ⟨B22, p_state, x1.2, 7, w, rfl, m_state, (P.bind).mono (fun x26 P => ?_) (fun _ z => z)⟩
      refine fun v30 B27 H28 s29 m_state r31 => ?_
      replace r25 := r25.mono s29.ex
      replace st := st.go s29 (go1 (.inl (by simp)))
      replace w := s29.ok
      cases r31
      obtain ⟨p32, xs33, hv, hs34, hr35⟩ := Rep.sq w r25
      cases hv
      obtain ⟨x36, hx37, P⟩ := P.ix
      obtain ⟨u38, hu, r39⟩ := RepL.atE hr35 hx37
      refine h_ixL hs34 hu ?_
      exact P.ok _ _ _ st m_state r39
    · replace P := P.iteF c1
      refine h_next ?_
      refine h_nx ?_
      refine h_set ?_
      refine h_op ?_
      refine h_lst ?_
      refine h_cons ?_
      refine h_c ?_
      refine h_cons ?_
      refine h_un ?_
      refine h_c ?_
      refine h_U ?_
      refine h_cons ?_
      refine h_op ?_
      refine h_c ?_
      refine h_c ?_
      refine h_eqI ?_
      refine h_cons ?_
      refine h_c ?_
      refine h_cons ?_
      refine h_c ?_
      refine h_cons ?_
      refine h_lst ?_
      refine h_cons ?_
      refine h_c ?_
      refine h_nil ?_
      refine h_newL w (ds := (([0] : List Int)).map enc) (K := K) (.cons (Rep.int _) .nil) (fun p40 B41 H42 s43 r44 => ?_) (by show 1 ≤ sizeLine; decide)
      replace m_state := m_state.step s43 nm0
      replace st := st.go s43 go0
      replace w := s43.ok
      replace r44 : Rep K B41 (.ref p40) (enc ([0] : List Int)) := r44
      refine h_cons ?_
      refine h_tup ?_
      refine h_cons ?_
      refine h_c ?_
      refine h_nil ?_
      refine h_newT w (K := K) (.cons (Rep.int _) .nil) (fun p45 B46 H47 s48 r49 => ?_) (by show 1 ≤ sizeLine; decide)
      replace m_state := m_state.step s48 nm0
      replace r44 := r44.mono s48.ex
      replace st := st.go s48 go0
      replace w := s48.ok
      replace r49 : Rep K B46 (.ref p45) (enc (⟨0⟩ : (Tp1 Int))) := r49
      refine h_cons ?_
      refine h_op (h_c (h_c (h_pow (k := 1000000000) (by decide +kernel) (by decide +kernel) ?_)))
      refine h_cons ?_
      refine h_un ?_
      refine h_c ?_
      refine h_U ?_
      refine h_cons ?_
      refine h_op ?_
      refine h_c ?_
      refine h_c ?_
      refine h_eqI ?_
      refine h_nil ?_
      refine h_newL w (ds := (([(enc (256 : Int)), (enc ((-1) : Int)), (enc (decide (1 = 1))), (enc ()), (enc ("0" : Str)), (enc ([0] : List Int)), (enc (⟨0⟩ : (Tp1 Int))), (enc (1000000000 : Int)), (enc ((-256) : Int)), (enc (decide (1 = 2)))] : List D)).map enc) (K := K) (.cons (Rep.int _) (.cons (Rep.int _) (.cons (Rep.bl _) (.cons Rep.non (.cons (Rep.str _) (.cons r44 (.cons r49 (.cons (Rep.int _) (.cons (Rep.int _) (.cons (Rep.bl _) .nil)))))))))) (fun p50 B51 H52 s53 r54 => ?_) (by show 10 ≤ sizeLine; decide)
      replace m_state := m_state.step s53 nm0
      replace st := st.go s53 go0
      replace w := s53.ok
      replace r54 : Rep K B51 (.ref p50) (enc ([(enc (256 : Int)), (enc ((-1) : Int)), (enc (decide (1 = 1))), (enc ()), (enc ("0" : Str)), (enc ([0] : List Int)), (enc (⟨0⟩ : (Tp1 Int))), (enc (1000000000 : Int)), (enc ((-256) : Int)), (enc (decide (1 = 2)))] : List D)) := r54
      refine h_call ?_
      refine h_cons ?_
      refine h_var rfl ?_
      refine h_cons ?_
      refine h_c ?_
      refine h_nil ?_
      refine ⟨B51, p_state, x1.2, 10, w, rfl, m_state, (P.bind).mono (fun x55 P => ?_) (fun _ z => z)⟩
      refine fun v59 B56 H57 s58 m_state r60 => ?_
      replace r54 := r54.mono s58.ex
      replace st := st.go s58 (go1 (.inl (by simp)))
      replace w := s58.ok
      cases r60
      obtain ⟨p61, xs62, hv, hs63, hr64⟩ := Rep.sq w r54
      cases hv
      obtain ⟨x65, hx66, P⟩ := P.ix
      obtain ⟨u67, hu, r68⟩ := RepL.atE hr64 hx66
      refine h_ixL hs63 hu ?_
      refine h_set ?_
      refine h_call ?_
      refine h_cons ?_
      refine h_var rfl ?_
      refine h_cons ?_
      refine h_op ?_
      refine h_cb ?_
      refine h_cons ?_
      refine h_var rfl ?_
      refine h_nil ?_
      obtain ⟨p69, xs70, rfl, hs71, hr72⟩ := Rep.sq w (r_row.mono st.ex)
      refine h_len hs71 hr72 ?_
      refine h_c ?_
      refine h_I0 ?_
      refine h_nil ?_
      refine ⟨B56, p_state, x55.2, ((a_row.length : Int) + 1), w, rfl, m_state, (P.bind).mono (fun x73 P => ?_) (fun _ z => z)⟩
      refine fun v77 B74 H75 s76 m_state r78 => ?_
      replace r68 := r68.mono s76.ex
      replace st := st.go s76 (go1 (.inl (by simp)))
      replace w := s76.ok
      cases r78
      refine h_ret ?_
      refine h_op ?_
      refine h_op ?_
      refine h_sl ?_
      refine h_var rfl ?_
      refine h_nopart ?_
      refine h_part ?_
      refine h_var rfl ?_
      refine h_isI ?_
      obtain ⟨p79, xs80, hv, hs81, hr82⟩ := Rep.sq w (r_row.mono st.ex)
      cases hv
      refine h_slQ hs81 ?_
      refine h_nwL w (ds := ((cutL a_row none (some x73.1))).map enc) (K := K) (hr82.cut none (some x73.1)) (fun p83 B84 H85 s86 r87 => ?_) 
      replace m_state := m_state.step s86 nm0
      replace r68 := r68.mono s86.ex
      replace st := st.go s86 go0
      replace w := s86.ok
      replace r87 : Rep K B84 (.ref p83) (enc (cutL a_row none (some x73.1))) := r87
      refine h_lst ?_
      refine h_cons ?_
      refine h_var rfl ?_
      refine h_nil ?_
      refine h_newL w (ds := (([x65] : List D)).map enc) (K := K) (.cons r68 .nil) (fun p88 B89 H90 s91 r92 => ?_) (by show 1 ≤ sizeLine; decide)
      replace m_state := m_state.step s91 nm0
      replace r68 := r68.mono s91.ex
      replace r87 := r87.mono s91.ex
      replace st := st.go s91 go0
      replace w := s91.ok
      replace r92 : Rep K B89 (.ref p88) (enc ([x65] : List D)) := r92
      obtain ⟨p93, xs94, hv, hs95, hr96⟩ := Rep.sq w r87
      cases hv
      obtain ⟨p97, xs98, hv, hs99, hr100⟩ := Rep.sq w r92
      cases hv
      replace hr96 := hr96.toD
      obtain ⟨gd, P⟩ := P.guard
      refine h_cat hs95 hs99 (by have g := gd; simp only [hr96.length, hr100.length, List.length_map] at g ⊢; exact Nat.le_trans g (by decide)) ?_
      refine h_nwL w (ds := ((((cutL a_row none (some x73.1)).map enc : List D) ++ ([x65] : List D))).map enc) (K := K) (RepL.cat hr96 hr100) (fun p101 B102 H103 s104 r105 => ?_) 
      replace m_state := m_state.step s104 nm0
      replace r68 := r68.mono s104.ex
      replace st := st.go s104 go0
      replace w := s104.ok
      replace r105 : Rep K B102 (.ref p101) (enc (((cutL a_row none (some x73.1)).map enc : List D) ++ ([x65] : List D))) := r105
      refine h_sl ?_
      refine h_var rfl ?_
      refine h_part ?_
      refine h_var rfl ?_
      refine h_isI ?_
      refine h_nopart ?_
      obtain ⟨p106, xs107, hv, hs108, hr109⟩ := Rep.sq w (r_row.mono st.ex)
      cases hv
      refine h_slQ hs108 ?_
      refine h_nwL w (ds := ((cutL a_row (some x73.1) none)).map enc) (K := K) (hr109.cut (some x73.1) none) (fun p110 B111 H112 s113 r114 => ?_) 
      replace m_state := m_state.step s113 nm0
      replace r68 := r68.mono s113.ex
      replace r105 := r105.mono s113.ex
      replace st := st.go s113 go0
      replace w := s113.ok
      replace r114 : Rep K B111 (.ref p110) (enc (cutL a_row (some x73.1) none)) := r114
      obtain ⟨p115, xs116, hv, hs117, hr118⟩ := Rep.sq w r105
      cases hv
      obtain ⟨p119, xs120, hv, hs121, hr122⟩ := Rep.sq w r114
      cases hv
      replace hr122 := hr122.toD
      obtain ⟨gd, P⟩ := P.guard
      refine h_cat hs117 hs121 (by have g := gd; simp only [hr118.length, hr122.length, List.length_map] at g ⊢; exact Nat.le_trans g (by decide)) ?_
      refine h_nwL w (ds := (((((cutL a_row none (some x73.1)).map enc : List D) ++ ([x65] : List D)) ++ ((cutL a_row (some x73.1) none).map enc : List D))).map enc) (K := K) (RepL.cat hr118 hr122) (fun p123 B124 H125 s126 r127 => ?_) 
      replace m_state := m_state.step s126 nm0
      replace r68 := r68.mono s126.ex
      replace st := st.go s126 go0
      replace w := s126.ok
      replace r127 : Rep K B124 (.ref p123) (enc ((((cutL a_row none (some x73.1)).map enc : List D) ++ ([x65] : List D)) ++ ((cutL a_row (some x73.1) none).map enc : List D))) := r127
      exact P.ok _ _ _ st m_state r127
theorem ok__law_bytes {f : Addr} {fd : FuncData}  (F : Fun K "_law_bytes" "_law_bytes" s__law_bytes f fd) {f__law_digit : Addr} {d__law_digit : FuncData} (g__law_digit : mg "_law_digit" = some (.ref f__law_digit)) (k__law_digit : PySem.W.keepIn K (.ref f__law_digit) = true) (b__law_digit : L2.Binds K d__law_digit ["_law_state", "_law_base"] []) (G__law_digit : FnOk Pr wo K mg base CX0 1 f__law_digit d__law_digit ["_law_state", "_law_base"] (sp__law_digit K)) (bI_range : mg "range" = none) : FnOk Pr wo K mg base CX0 2 f fd ["_law_state", "_law_many"] (sp__law_bytes K) := by
  refine F.ok sc__law_bytes (fun vs H Q E h => ?_) (fun cdv A outer s H0 vs Q E hr h => ?_)
  · obtain ⟨_, _, _, _, _, rfl, _⟩ := h; rfl
  · obtain ⟨B0, p_state, a_state, a_many, w, rfl, m_state, P⟩ := h
    have w0 := w
    have hu := hu_of hr
    have hu64 := hu64_of hr
    have hu65 := hu65_of hr
    have hr1 : Room 1 _ := hr.mono (by decide)
    refine ⟨_, (pss_cons (ps_set (i := 2) sc__law_bytes.nd rfl (by first | exact Or.inl rfl | exact Or.inr rfl) (pe_call G__law_digit hr1 rfl g__law_digit k__law_digit b__law_digit .nil pass0 (pa_cons (pv 0) (pa_cons pe_int pa_nil))))
      (pss_cons (ps_set (i := 3) sc__law_bytes.nd rfl (by first | exact Or.inl rfl | exact Or.inr rfl) (pe_lst pa_nil))
      (pss_cons (ps_for PassesOwn.never rfl (pi_range1 (by rfl) bI_range (pa_cons (pv 1) pa_nil)) (pg_name (i := 4) sc__law_bytes.nd rfl (by first | exact Or.inl rfl | exact Or.inr rfl)) (pss_cons (ps_set (i := 5) sc__law_bytes.nd rfl (by first | exact Or.inl rfl | exact Or.inr rfl) (pe_call G__law_digit hr1 rfl g__law_digit k__law_digit b__law_digit .nil pass0 (pa_cons (pv 0) (pa_cons pe_int pa_nil))))
      (pss_one (ps_expr (pe_bm PySem.F.plainAttrs_list PySem.F.slot_list_append PySem.F.type_list_append mt_append (pv 3) (pa_cons (pe_ix (r := rIxL K) ix_list (pe_lst (pa_cons (pv 5) (pa_cons (pe_op op_mod (pv 5) pe_int) (pa_cons (pe_ix (r := rIxL K) ix_list (pe_lst (pa_cons pe_int (pa_cons pe_int (pa_cons pe_int (pa_cons pe_int (pa_cons pe_int (pa_cons (pv 5) pa_nil))))))) (pe_op op_mod (pv 5) pe_int) (fun _ _ => rfl)) pa_nil)))) (pv 2) (fun _ _ => rfl)) pa_nil))))))
      (pss_one (ps_ret (pv 3)))))), ?_⟩
    unfold l_bytes at P
    have st := Stp.refl (W := [p_state]) w
    refine h_set ?_
    refine h_call ?_
    refine h_cons ?_
    refine h_var rfl ?_
    refine h_cons ?_
    refine h_c ?_
    refine h_nil ?_
    refine ⟨B0, p_state, a_state, 3, w, rfl, m_state, (P.bind).mono (fun x1 P => ?_) (fun _ z => z)⟩
    refine fun v5 B2 H3 s4 m_state r6 => ?_
    replace st := st.go s4 (go1 (.inl (by simp)))
    replace w := s4.ok
    cases r6
    refine h_set ?_
    refine h_lst ?_
    refine h_nil ?_
    refine h_newM w (ds := (([] : List Int)).map enc) (K := K) .nil (fun p7 H8 hn11 s9 m10 => ?_) (by show 0 ≤ sizeLine; decide)
    have n12 := st.nn hn11
    have ne13 := Mu.ne m_state hn11
    replace m_state := m_state.step s9 nm0
    replace st := st.go s9 go0
    replace w := s9.ok
    refine h_seq ?_
    refine h_rng1 ?_
    refine h_cons ?_
    refine h_var rfl ?_
    refine h_nil ?_
    obtain ⟨gz14, P⟩ := P.guard
    have wj16 := w
    have sj15 := Stp.refl (W := [p_state, p7]) w
    refine h_forR1 P gz14 (fun (a : (List Int) × (List Int)) σ' H' => ∃ (B' : Hp) (o__law_byte : Option V) (o__law_k : Option V), Stp [p_state, p7] B2 H8 B' H' ∧ σ' = [some ((.ref p_state)), some (.int a_many), some (.int x1.1), some ((.ref p7)), o__law_k, o__law_byte] ∧ Mu K B' H' p_state (a.1.map enc) ∧ Mu K B' H' p7 (a.2.map enc)) ⟨_, _, _, sj15, rfl, m_state, m10⟩ ?_ ?_
    · rintro N17 T18 x23 a22 _ H27 ⟨B26, o29, o30, s28, rfl, m_state, m10⟩ hlox23 hhix23 kk19 kr20 kb21 P
      replace st := st.go s28 (go2 (.inl (by simp)) (.inr n12))
      replace w := s28.ok
      have sj15 := s28
      refine h_gname ?_
      refine h_set ?_
      refine h_call ?_
      refine h_cons ?_
      refine h_var rfl ?_
      refine h_cons ?_
      refine h_c ?_
      refine h_nil ?_
      refine ⟨B26, p_state, a22.1, 256, w, rfl, m_state, (P.bind).mono (fun x31 P => ?_) (fun _ z => z)⟩
      refine fun v35 B32 H33 s34 m_state r36 => ?_
      replace m10 := m10.step s34 (nm1 ne13.symm)
      replace st := st.go s34 (go1 (.inl (by simp)))
      replace sj15 := sj15.go s34 (go1 (.inl (by simp)))
      replace w := s34.ok
      cases r36
      refine h_drop ?_
      refine h_bm ?_
      refine h_var rfl ?_
      refine h_bmL m10 ?_
      refine h_cons ?_
      refine h_op ?_
      refine h_lst ?_
      refine h_cons ?_
      refine h_var rfl ?_
      refine h_cons ?_
      refine h_op ?_
      refine h_var rfl ?_
      refine h_c ?_
      refine h_I (by decide +kernel) ?_
      refine h_cons ?_
      refine h_op ?_
      refine h_lst ?_
      refine h_cons ?_
      refine h_c ?_
      refine h_cons ?_
      refine h_c ?_
      refine h_cons ?_
      refine h_c ?_
      refine h_cons ?_
      refine h_c ?_
      refine h_cons ?_
      refine h_c ?_
      refine h_cons ?_
      refine h_var rfl ?_
      refine h_nil ?_
      refine h_newL w (ds := (([0, 0, 1, 2, 255, x31.1] : List Int)).map enc) (K := K) (.cons (Rep.int _) (.cons (Rep.int _) (.cons (Rep.int _) (.cons (Rep.int _) (.cons (Rep.int _) (.cons (Rep.int _) .nil)))))) (fun p37 B38 H39 s40 r41 => ?_) (by show 6 ≤ sizeLine; decide)
      replace m_state := m_state.step s40 nm0
      replace m10 := m10.step s40 nm0
      replace st := st.go s40 go0
      replace sj15 := sj15.go s40 go0
      replace w := s40.ok
      replace r41 : Rep K B38 (.ref p37) (enc ([0, 0, 1, 2, 255, x31.1] : List Int)) := r41
      refine h_op ?_
      refine h_var rfl ?_
      refine h_c ?_
      refine h_I (by decide +kernel) ?_
      obtain ⟨p42, xs43, hv, hs44, hr45⟩ := Rep.sq w r41
      cases hv
      obtain ⟨x46, hx47, P⟩ := P.ix
      obtain ⟨u48, hu, r49⟩ := RepL.atE hr45 hx47
      refine h_ixL hs44 hu ?_
      cases r49
      refine h_nil ?_
      refine h_newL w (ds := (([x31.1, (x31.1 % 3), x46] : List Int)).map enc) (K := K) (.cons (Rep.int _) (.cons (Rep.int _) (.cons (Rep.int _) .nil))) (fun p50 B51 H52 s53 r54 => ?_) (by show 3 ≤ sizeLine; decide)
      replace m_state := m_state.step s53 nm0
      replace m10 := m10.step s53 nm0
      replace st := st.go s53 go0
      replace sj15 := sj15.go s53 go0
      replace w := s53.ok
      replace r54 : Rep K B51 (.ref p50) (enc ([x31.1, (x31.1 % 3), x46] : List Int)) := r54
      refine h_var rfl ?_
      obtain ⟨p55, xs56, hv, hs57, hr58⟩ := Rep.sq w r54
      cases hv
      obtain ⟨x59, hx60, P⟩ := P.ix
      obtain ⟨u61, hu, r62⟩ := RepL.atE hr58 hx60
      refine h_ixL hs57 hu ?_
      cases r62
      refine h_nil ?_
      obtain ⟨gd, P⟩ := P.guard
      refine h_append (b := x59) w m10 (Rep.int _) gd (fun H63 s64 m10 => ?_)
      replace m_state := m_state.step s64 (nm1 ne13)
      replace st := st.go s64 (go1 (.inr n12))
      replace sj15 := sj15.go s64 (go1 (.inl (by simp)))
      replace w := s64.ok
      refine h_nx ?_
      exact kk19 (x31.2, (a22.2 ++ [x59])) _ _ ⟨_, _, _, sj15, rfl, m_state, m10⟩ P.ok
    · rintro a65 _ H67 ⟨B66, o69, o70, s68, rfl, m_state, m10⟩ P
      replace st := st.go s68 (go2 (.inl (by simp)) (.inr n12))
      replace w := s68.ok
      refine h_nx ?_
      refine h_ret ?_
      refine h_var rfl ?_
      obtain ⟨B75, e71, k72, g73, r74⟩ := Mu.keep m10
      replace st := g73 _ _ _ st w0 n12
      replace m_state := m_state.kp e71 k72 ne13
      replace w := st.ok
      replace r74 : Rep K B75 (.ref p7) (enc a65.2) := r74
      exact P.ok _ _ _ st m_state r74
theorem ok__law_number {f : Addr} {fd : FuncData}  (F : Fun K "_law_number" "_law_number" s__law_number f fd) {f__law_digit : Addr} {d__law_digit : FuncData} (g__law_digit : mg "_law_digit" = some (.ref f__law_digit)) (k__law_digit : PySem.W.keepIn K (.ref f__law_digit) = true) (b__law_digit : L2.Binds K d__law_digit ["_law_state", "_law_base"] []) (G__law_digit : FnOk Pr wo K mg base CX0 1 f__law_digit d__law_digit ["_law_state", "_law_base"] (sp__law_digit K)) (bI_range : mg "range" = none) : FnOk Pr wo K mg base CX0 2 f fd ["_law_state"] (sp__law_number K) := by
  refine F.ok sc__law_number (fun vs H Q E h => ?_) (fun cdv A outer s H0 vs Q E hr h => ?_)
  · obtain ⟨_, _, _, _, rfl, _⟩ := h; rfl
  · obtain ⟨B0, p_state, a_state, w, rfl, m_state, P⟩ := h
    have w0 := w
    have hu := hu_of hr
    have hu64 := hu64_of hr
    have hu65 := hu65_of hr
    have hr1 : Room 1 _ := hr.mono (by decide)
    refine ⟨_, (pss_cons (ps_set (i := 1) sc__law_number.nd rfl (by first | exact Or.inl rfl | exact Or.inr rfl) (pe_call G__law_digit hr1 rfl g__law_digit k__law_digit b__law_digit .nil pass0 (pa_cons (pv 0) (pa_cons pe_int pa_nil))))
      (pss_cons (ps_if (pt_cmpR op_eq (pv 1) pe_int (nomark _)) (pss_one (ps_ret (pe_call G__law_digit hr1 rfl g__law_digit k__law_digit b__law_digit .nil pass0 (pa_cons (pv 0) (pa_cons pe_int pa_nil))))) pss_nil)
      (pss_cons (ps_if (pt_cmpR op_eq (pv 1) pe_int (nomark _)) (pss_cons (ps_set (i := 2) sc__law_number.nd rfl (by first | exact Or.inl rfl | exact Or.inr rfl) pe_int)
      (pss_cons (ps_for PassesOwn.never rfl (pi_range1 (by rfl) bI_range (pa_cons (pe_op op_add pe_int (pe_call G__law_digit hr1 rfl g__law_digit k__law_digit b__law_digit .nil pass0 (pa_cons (pv 0) (pa_cons pe_int pa_nil)))) pa_nil)) (pg_name (i := 3) sc__law_number.nd rfl (by first | exact Or.inl rfl | exact Or.inr rfl)) (pss_one (ps_set (i := 2) sc__law_number.nd rfl (by first | exact Or.inl rfl | exact Or.inr rfl) (pe_op op_mul (pv 2) pe_int))))
      (pss_one (ps_ret (pe_op op_sub (pe_op op_add (pv 2) (pe_call G__law_digit hr1 rfl g__law_digit k__law_digit b__law_digit .nil pass0 (pa_cons (pv 0) (pa_cons pe_int pa_nil)))) pe_int))))) pss_nil)
      (pss_cons (ps_set (i := 2) sc__law_number.nd rfl (by first | exact Or.inl rfl | exact Or.inr rfl) pe_int)
      (pss_cons (ps_for PassesOwn.never rfl (pi_range1 (by rfl) bI_range (pa_cons (pe_op op_add pe_int (pe_call G__law_digit hr1 rfl g__law_digit k__law_digit b__law_digit .nil pass0 (pa_cons (pv 0) (pa_cons pe_int pa_nil)))) pa_nil)) (pg_name (i := 3) sc__law_number.nd rfl (by first | exact Or.inl rfl | exact Or.inr rfl)) (pss_one (ps_set (i := 2) sc__law_number.nd rfl (by first | exact Or.inl rfl | exact Or.inr rfl) (pe_op op_add (pe_op op_mul (pv 2) (pe_op op_pow pe_int pe_int)) (pe_call G__law_digit hr1 rfl g__law_digit k__law_digit b__law_digit .nil pass0 (pa_cons (pv 0) (pa_cons (pe_op op_pow pe_int pe_int) pa_nil)))))))
      (pss_one (ps_ret (pv 2)))))))), ?_⟩
    unfold l_number at P
    have st := Stp.refl (W := [p_state]) w
    refine h_set ?_
    refine h_call ?_
    refine h_cons ?_
    refine h_var rfl ?_
    refine h_cons ?_
    refine h_c ?_
    refine h_nil ?_
    refine ⟨B0, p_state, a_state, 4, w, rfl, m_state, (P.bind).mono (fun x1 P => ?_) (fun _ z => z)⟩
    refine fun v5 B2 H3 s4 m_state r6 => ?_
    replace st := st.go s4 (go1 (.inl (by simp)))
    replace w := s4.ok
    cases r6
    refine h_seq <| h_if ?_
    refine h_test ?_
    refine h_op ?_
    refine h_var rfl ?_
    refine h_c ?_
    refine h_eqI ?_
    refine h_bl ?_
    refine h_ite (fun c1 => ?_) (fun c1 => ?_)
    · replace P := P.iteT c1
      refine h_ret ?_
      refine h_call ?_
      refine h_cons ?_
      refine h_var rfl ?_
      refine h_cons ?_
      refine h_c ?_
      refine h_nil ?_
      refine ⟨B2, p_state, x1.2, 300, w, rfl, m_state, (P.bind).mono (fun x7 P => ?_) (fun _ z => z)⟩
      refine fun v11 B8 H9 s10 m_state r12 => ?_
      replace st := st.go s10 (go1 (.inl (by simp)))
      replace w := s10.ok
      cases r12
      exact P.ok _ _ _ st m_state (Rep.int _)
    · replace P := P.iteF c1
      refine h_next ?_
      refine h_nx ?_
      refine h_seq <| h_if ?_
      refine h_test ?_
      refine h_op ?_
      refine h_var rfl ?_
      refine h_c ?_
      refine h_eqI ?_
      refine h_bl ?_
      refine h_ite (fun c1 => ?_) (fun c1 => ?_)
      · replace P := P.iteT c1
        refine h_set ?_
        refine h_c ?_
        refine h_seq ?_
        refine h_rng1 ?_
        refine h_cons ?_
        refine h_op ?_
        refine h_c ?_
        refine h_call ?_
        refine h_cons ?_
        refine h_var rfl ?_
        refine h_cons ?_
        refine h_c ?_
        refine h_nil ?_
        refine ⟨B2, p_state, x1.2, 28, w, rfl, m_state, (P.bind).mono (fun x13 P => ?_) (fun _ z => z)⟩
        refine fun v17 B14 H15 s16 m_state r18 => ?_
        replace st := st.go s16 (go1 (.inl (by simp)))
        replace w := s16.ok
        cases r18
        refine h_I0 ?_
        refine h_nil ?_
        obtain ⟨gz19, P⟩ := P.guard
        have wj21 := w
        have sj20 := Stp.refl (W := []) w
        refine h_forR1 P gz19 (fun (a : Int) σ' H' => ∃ (B' : Hp) (o__law_k : Option V), Stp [] B14 H15 B' H' ∧ σ' = [some ((.ref p_state)), some (.int x1.1), some (.int a), o__law_k]) ⟨_, _, sj20, rfl⟩ ?_ ?_
        · rintro N22 T23 x28 a27 _ H32 ⟨B31, o34, s33, rfl⟩ hlox28 hhix28 kk24 kr25 kb26 P
          replace m_state := m_state.step s33 nm0
          replace st := st.go s33 go0
          replace w := s33.ok
          have sj20 := s33
          refine h_gname ?_
          refine h_set1 ?_
          refine h_op ?_
          refine h_var rfl ?_
          refine h_c ?_
          refine h_I (.inr ⟨by decide +kernel, by decide +kernel⟩) ?_
          replace P := P.lt
          generalize hx : (a27 * 128) = x35 at P ⊢
          refine h_nx ?_
          exact kk24 x35 _ _ ⟨_, _, sj20, rfl⟩ P.ok
        · rintro a36 _ H38 ⟨B37, o40, s39, rfl⟩ P
          replace m_state := m_state.step s39 nm0
          replace st := st.go s39 go0
          replace w := s39.ok
          refine h_nx ?_
          refine h_ret ?_
          refine h_op ?_
          refine h_op ?_
          refine h_var rfl ?_
          refine h_call ?_
          refine h_cons ?_
          refine h_var rfl ?_
          refine h_cons ?_
          refine h_c ?_
          refine h_nil ?_
          refine ⟨B37, p_state, x13.2, 3, w, rfl, m_state, (P.bind).mono (fun x41 P => ?_) (fun _ z => z)⟩
          refine fun v45 B42 H43 s44 m_state r46 => ?_
          replace st := st.go s44 (go1 (.inl (by simp)))
          replace w := s44.ok
          cases r46
          refine h_I0 ?_
          refine h_c ?_
          refine h_I0 ?_
          exact P.ok _ _ _ st m_state (Rep.int _)
      · replace P := P.iteF c1
        refine h_next ?_
        refine h_nx ?_
        refine h_set ?_
        refine h_c ?_
        refine h_seq ?_
        refine h_rng1 ?_
        refine h_cons ?_
        refine h_op ?_
        refine h_c ?_
        refine h_call ?_
        refine h_cons ?_
        refine h_var rfl ?_
        refine h_cons ?_
        refine h_c ?_
        refine h_nil ?_
        refine ⟨B2, p_state, x1.2, 6, w, rfl, m_state, (P.bind).mono (fun x47 P => ?_) (fun _ z => z)⟩
        refine fun v51 B48 H49 s50 m_state r52 => ?_
        replace st := st.go s50 (go1 (.inl (by simp)))
        replace w := s50.ok
        cases r52
        refine h_I0 ?_
        refine h_nil ?_
        obtain ⟨gz53, P⟩ := P.guard
        have wj55 := w
        have sj54 := Stp.refl (W := [p_state]) w
        refine h_forR1 P gz53 (fun (a : Int × (List Int)) σ' H' => ∃ (B' : Hp) (o__law_k : Option V), Stp [p_state] B48 H49 B' H' ∧ σ' = [some ((.ref p_state)), some (.int x1.1), some (.int a.1), o__law_k] ∧ Mu K B' H' p_state (a.2.map enc)) ⟨_, _, sj54, rfl, m_state⟩ ?_ ?_
        · rintro N56 T57 x62 a61 _ H66 ⟨B65, o68, s67, rfl, m_state⟩ hlox62 hhix62 kk58 kr59 kb60 P
          replace st := st.go s67 (go1 (.inl (by simp)))
          replace w := s67.ok
          have sj54 := s67
          refine h_gname ?_
          refine h_set1 ?_
          refine h_op ?_
          refine h_op ?_
          refine h_var rfl ?_
          refine h_op (h_c (h_c (h_pow (k := 10000000000) (by decide +kernel) (by decide +kernel) ?_)))
          refine h_I (.inr ⟨by decide +kernel, by decide +kernel⟩) ?_
          refine h_call ?_
          refine h_cons ?_
          refine h_var rfl ?_
          refine h_cons ?_
          refine h_op (h_c (h_c (h_pow (k := 10000000000) (by decide +kernel) (by decide +kernel) ?_)))
          refine h_nil ?_
          refine ⟨B65, p_state, a61.2, 10000000000, w, rfl, m_state, (P.bind).mono (fun x69 P => ?_) (fun _ z => z)⟩
          refine fun v73 B70 H71 s72 m_state r74 => ?_
          replace st := st.go s72 (go1 (.inl (by simp)))
          replace sj54 := sj54.go s72 (go1 (.inl (by simp)))
          replace w := s72.ok
          cases r74
          refine h_I0 ?_
          replace P := P.lt
          generalize hx : ((a61.1 * 10000000000) + x69.1) = x75 at P ⊢
          refine h_nx ?_
          exact kk58 (x75, x69.2) _ _ ⟨_, _, sj54, rfl, m_state⟩ P.ok
        · rintro a76 _ H78 ⟨B77, o80, s79, rfl, m_state⟩ P
          replace st := st.go s79 (go1 (.inl (by simp)))
          replace w := s79.ok
          refine h_nx ?_
          refine h_ret ?_
          refine h_var rfl ?_
          exact P.ok _ _ _ st m_state (Rep.int _)
theorem ok__law_word {f : Addr} {C_NoBytes : Addr} (T_NoBytes : ExcR K mg "NoBytes" C_NoBytes) {C_NoPlace : Addr} (T_NoPlace : ExcR K mg "NoPlace" C_NoPlace) {C_NoNumber : Addr} (T_NoNumber : ExcR K mg "NoNumber" C_NoNumber) {C_ScrollError : Addr} (T_ScrollError : ExcR K mg "ScrollError" C_ScrollError) (p_NoBytes_NoBytes : PySem.W.subIn K (.ref C_NoBytes) (.ref C_NoBytes) = some true) (p_NoBytes_NoNumber : PySem.W.subIn K (.ref C_NoBytes) (.ref C_NoNumber) = some false) (p_NoBytes_NoPlace : PySem.W.subIn K (.ref C_NoBytes) (.ref C_NoPlace) = some false) (p_NoNumber_NoBytes : PySem.W.subIn K (.ref C_NoNumber) (.ref C_NoBytes) = some false) (p_NoNumber_NoNumber : PySem.W.subIn K (.ref C_NoNumber) (.ref C_NoNumber) = some true) (p_NoNumber_NoPlace : PySem.W.subIn K (.ref C_NoNumber) (.ref C_NoPlace) = some false) (p_NoPlace_NoBytes : PySem.W.subIn K (.ref C_NoPlace) (.ref C_NoBytes) = some false) (p_NoPlace_NoNumber : PySem.W.subIn K (.ref C_NoPlace) (.ref C_NoNumber) = some false) (p_NoPlace_NoPlace : PySem.W.subIn K (.ref C_NoPlace) (.ref C_NoPlace) = some true) (bI_isinstance : mg "isinstance" = none) (A : Around) (outer : List Env) (q : Str) (cdv : Value) : GivesK Pr wo K mg base ["_law_ask", "e"] "_law_word" (defScope s__law_word) f cdv (defBody s__law_word) "_law_ask" q (TTw K mg l_word) A outer := by
  intro f2 c2 s H0 Q tl act hc h
  obtain ⟨B0, a_ask, w, hl, P⟩ := h
  have w0 := w
  refine ⟨_, (pss_one (ps_tryM (K := K) (Wout := fun _ _ _ _ => False) rfl rfl takes0 (fun W pn xe tk _ => (pss_one (ps_ret (pe_tup (pa_cons pe_str (pa_cons (act _ _ _ (EL W 2) _ _ (takes_len tk) (fun _ _ σ _ h l => h σ l)) pa_nil)))))) (.named (i := 1) sc__law_word.nd rfl rfl (T_NoBytes.names rfl (by decide)) (fun a oe cls d pn hz hf => (pss_one (ps_ret (pe_tup (pa_cons pe_str (pa_cons (pe_or (pe_isE (K := K) (a := a) (cls := cls) (d := d) rfl (fun Dc e1 e2 ec => by subst e1 e2; exact (pe_callB (r := rIsE K Dc a) (call_isE ec hz hf) (by rfl) bI_isinstance PyProof.Rows.boot_isinstance (pa_cons (pv 1) (pa_cons (pe_glob (v := .ref C_NoNumber) (by rfl) T_NoNumber.g rfl) pa_nil))))) (pe_one (pe_isE (K := K) (a := a) (cls := cls) (d := d) rfl (fun Dc e1 e2 ec => by subst e1 e2; exact (pe_callB (r := rIsE K Dc a) (call_isE ec hz hf) (by rfl) bI_isinstance PyProof.Rows.boot_isinstance (pa_cons (pv 1) (pa_cons (pe_glob (v := .ref C_NoPlace) (by rfl) T_NoPlace.g rfl) pa_nil))))))) pa_nil)))))) (.named (i := 1) sc__law_word.nd rfl rfl (T_NoPlace.names rfl (by decide)) (fun a oe cls d pn hz hf => (pss_one (ps_ret (pe_tup (pa_cons pe_str (pa_cons (pe_or (pe_isE (K := K) (a := a) (cls := cls) (d := d) rfl (fun Dc e1 e2 ec => by subst e1 e2; exact (pe_callB (r := rIsE K Dc a) (call_isE ec hz hf) (by rfl) bI_isinstance PyProof.Rows.boot_isinstance (pa_cons (pv 1) (pa_cons (pe_glob (v := .ref C_NoNumber) (by rfl) T_NoNumber.g rfl) pa_nil))))) (pe_one (pe_isE (K := K) (a := a) (cls := cls) (d := d) rfl (fun Dc e1 e2 ec => by subst e1 e2; exact (pe_callB (r := rIsE K Dc a) (call_isE ec hz hf) (by rfl) bI_isinstance PyProof.Rows.boot_isinstance (pa_cons (pv 1) (pa_cons (pe_glob (v := .ref C_NoBytes) (by rfl) T_NoBytes.g rfl) pa_nil))))))) pa_nil)))))) (.named (i := 1) sc__law_word.nd rfl rfl (T_NoNumber.names rfl (by decide)) (fun a oe cls d pn hz hf => (pss_one (ps_ret (pe_tup (pa_cons pe_str (pa_cons (pe_or (pe_isE (K := K) (a := a) (cls := cls) (d := d) rfl (fun Dc e1 e2 ec => by subst e1 e2; exact (pe_callB (r := rIsE K Dc a) (call_isE ec hz hf) (by rfl) bI_isinstance PyProof.Rows.boot_isinstance (pa_cons (pv 1) (pa_cons (pe_glob (v := .ref C_NoPlace) (by rfl) T_NoPlace.g rfl) pa_nil))))) (pe_one (pe_isE (K := K) (a := a) (cls := cls) (d := d) rfl (fun Dc e1 e2 ec => by subst e1 e2; exact (pe_callB (r := rIsE K Dc a) (call_isE ec hz hf) (by rfl) bI_isinstance PyProof.Rows.boot_isinstance (pa_cons (pv 1) (pa_cons (pe_glob (v := .ref C_NoBytes) (by rfl) T_NoBytes.g rfl) pa_nil))))))) pa_nil)))))) (.plain (T_ScrollError.names rfl (by decide)) (fun a oe cls d pn hz hf => (pss_one (ps_ret (pe_tup (pa_cons pe_str (pa_cons pe_bl pa_nil)))))) .nil)))))), ?_⟩
  unfold l_word at P
  have st := Stp.refl (W := []) w
  have wj2 := w
  have sj1 := Stp.refl (W := []) w
  refine h_tryJ P (fun (a : Unit) σ' H' => ∃ (B' : Hp) (o_e : Option V), Stp [] B0 H0 B' H' ∧ σ' = [some ((.ref f2)), o_e]) (fun N3 T4 kk5 kr6 P => ?_) ?_
  · refine h_tryM ?_
    refine h_ret ?_
    refine h_tup ?_
    refine h_cons ?_
    refine h_c ?_
    refine h_cons ?_
    refine ⟨rfl, hc, ?_⟩
    refine hl _ _ (Post.mono2 P.bind (fun e8 P => ?_) (fun x7 P => ?_))
    · skip
      rintro C17 B14 H15 g s16
      intro σl hσl; obtain ⟨oa, ob, rfl⟩ := two_len hσl
      replace st := st.go s16 go0
      replace sj1 := sj1.go s16 go0
      replace w := s16.ok
      obtain ⟨ec, ea⟩ := e8
      have he := P.guard.1
      replace P := P.guard.2
      by_cases hx : ec = "NoBytes"
      · subst hx
        replace P := P.iteT (decide_eq_true rfl)
        obtain rfl : C_NoBytes = C17 := Value.ref.inj (Option.some.inj (T_NoBytes.g.symm.trans g))
        refine h_mixHitA T_NoBytes.toExcT p_NoBytes_NoBytes (fun ax18 haax18 => ?_)
        refine h_ret ?_
        refine h_tup ?_
        refine h_cons ?_
        refine h_c ?_
        refine h_cons ?_
        have wj20 := w
        have sj19 := Stp.refl (W := []) w
        refine h_exprJ P (fun (a : Bool) v H' => ∃ B', Stp [] B14 H15 B' H' ∧ v = .bl a) (fun N kk21 P => ?_) ?_
        · skip
          refine h_or ?_
          refine h_isE T_NoBytes.toExcT (h_cons (h_var rfl (h_cons (h_c (h_nil ?_)))))
          refine h_isER (T_NoNumber.kit p_NoBytes_NoNumber) ?_
          refine h_bl ?_
          refine h_ite (fun c1 => ?_) (fun c1 => ?_)
          · replace P := P.iteT c1
            exact kk21 true _ _ ⟨_, sj19, rfl⟩ P.ok
          · replace P := P.iteF c1
            refine h_isE T_NoBytes.toExcT (h_cons (h_var rfl (h_cons (h_c (h_nil ?_)))))
            refine h_isER (T_NoPlace.kit p_NoBytes_NoPlace) ?_
            exact kk21 false _ _ ⟨_, sj19, rfl⟩ P.ok
        rintro a22 v23 H25 ⟨B24, s26, r27⟩ P
        replace st := st.go s26 go0
        replace sj1 := sj1.go s26 go0
        replace w := s26.ok
        subst r27
        refine h_nil ?_
        refine h_newT w (K := K) (.cons (Rep.str _) (.cons (Rep.bl _) .nil)) (fun p28 B29 H30 s31 r32 => ?_) (by show 2 ≤ sizeLine; decide)
        replace st := st.go s31 go0
        replace sj1 := sj1.go s31 go0
        replace w := s31.ok
        replace r32 : Rep K B29 (.ref p28) (enc (⟨("bytes" : Str), a22⟩ : (Tp2 Str Bool))) := r32
        exact (kr6 _ P.ok) _ _ _ st r32
      · replace P := P.iteF (decide_eq_false hx)
        replace he := (List.mem_cons.mp he).resolve_left hx
        by_cases hx : ec = "NoPlace"
        · subst hx
          replace P := P.iteT (decide_eq_true rfl)
          obtain rfl : C_NoPlace = C17 := Value.ref.inj (Option.some.inj (T_NoPlace.g.symm.trans g))
          refine h_mixSkip rfl T_NoBytes.toExcT p_NoPlace_NoBytes ?_
          refine h_mixHitA T_NoPlace.toExcT p_NoPlace_NoPlace (fun ax33 haax33 => ?_)
          refine h_ret ?_
          refine h_tup ?_
          refine h_cons ?_
          refine h_c ?_
          refine h_cons ?_
          have wj35 := w
          have sj34 := Stp.refl (W := []) w
          refine h_exprJ P (fun (a : Bool) v H' => ∃ B', Stp [] B14 H15 B' H' ∧ v = .bl a) (fun N kk36 P => ?_) ?_
          · skip
            refine h_or ?_
            refine h_isE T_NoPlace.toExcT (h_cons (h_var rfl (h_cons (h_c (h_nil ?_)))))
            refine h_isER (T_NoNumber.kit p_NoPlace_NoNumber) ?_
            refine h_bl ?_
            refine h_ite (fun c1 => ?_) (fun c1 => ?_)
            · replace P := P.iteT c1
              exact kk36 true _ _ ⟨_, sj34, rfl⟩ P.ok
            · replace P := P.iteF c1
              refine h_isE T_NoPlace.toExcT (h_cons (h_var rfl (h_cons (h_c (h_nil ?_)))))
              refine h_isER (T_NoBytes.kit p_NoPlace_NoBytes) ?_
              exact kk36 false _ _ ⟨_, sj34, rfl⟩ P.ok
          rintro a37 v38 H40 ⟨B39, s41, r42⟩ P
          replace st := st.go s41 go0
          replace sj1 := sj1.go s41 go0
          replace w := s41.ok
          subst r42
          refine h_nil ?_
          refine h_newT w (K := K) (.cons (Rep.str _) (.cons (Rep.bl _) .nil)) (fun p43 B44 H45 s46 r47 => ?_) (by show 2 ≤ sizeLine; decide)
          replace st := st.go s46 go0
          replace sj1 := sj1.go s46 go0
          replace w := s46.ok
          replace r47 : Rep K B44 (.ref p43) (enc (⟨("place" : Str), a37⟩ : (Tp2 Str Bool))) := r47
          exact (kr6 _ P.ok) _ _ _ st r47
        · replace P := P.iteF (decide_eq_false hx)
          replace he := (List.mem_cons.mp he).resolve_left hx
          obtain rfl : ec = "NoNumber" := List.mem_singleton.mp he
          obtain rfl : C_NoNumber = C17 := Value.ref.inj (Option.some.inj (T_NoNumber.g.symm.trans g))
          refine h_mixSkip rfl T_NoBytes.toExcT p_NoNumber_NoBytes ?_
          refine h_mixSkip rfl T_NoPlace.toExcT p_NoNumber_NoPlace ?_
          refine h_mixHitA T_NoNumber.toExcT p_NoNumber_NoNumber (fun ax48 haax48 => ?_)
          refine h_ret ?_
          refine h_tup ?_
          refine h_cons ?_
          refine h_c ?_
          refine h_cons ?_
          have wj50 := w
          have sj49 := Stp.refl (W := []) w
          refine h_exprJ P (fun (a : Bool) v H' => ∃ B', Stp [] B14 H15 B' H' ∧ v = .bl a) (fun N kk51 P => ?_) ?_
          · skip
            refine h_or ?_
            refine h_isE T_NoNumber.toExcT (h_cons (h_var rfl (h_cons (h_c (h_nil ?_)))))
            refine h_isER (T_NoPlace.kit p_NoNumber_NoPlace) ?_
            refine h_bl ?_
            refine h_ite (fun c1 => ?_) (fun c1 => ?_)
            · replace P := P.iteT c1
              exact kk51 true _ _ ⟨_, sj49, rfl⟩ P.ok
            · replace P := P.iteF c1
              refine h_isE T_NoNumber.toExcT (h_cons (h_var rfl (h_cons (h_c (h_nil ?_)))))
              refine h_isER (T_NoBytes.kit p_NoNumber_NoBytes) ?_
              exact kk51 false _ _ ⟨_, sj49, rfl⟩ P.ok
          rintro a52 v53 H55 ⟨B54, s56, r57⟩ P
          replace st := st.go s56 go0
          replace sj1 := sj1.go s56 go0
          replace w := s56.ok
          subst r57
          refine h_nil ?_
          refine h_newT w (K := K) (.cons (Rep.str _) (.cons (Rep.bl _) .nil)) (fun p58 B59 H60 s61 r62 => ?_) (by show 2 ≤ sizeLine; decide)
          replace st := st.go s61 go0
          replace sj1 := sj1.go s61 go0
          replace w := s61.ok
          replace r62 : Rep K B59 (.ref p58) (enc (⟨("number" : Str), a52⟩ : (Tp2 Str Bool))) := r62
          exact (kr6 _ P.ok) _ _ _ st r62
    refine fun v12 B9 H10 s11 r13 => ?_
    replace st := st.go s11 go0
    replace sj1 := sj1.go s11 go0
    replace w := s11.ok
    refine h_nil ?_
    refine h_newT w (K := K) (.cons (Rep.str _) (.cons r13 .nil)) (fun p63 B64 H65 s66 r67 => ?_) (by show 2 ≤ sizeLine; decide)
    replace st := st.go s66 go0
    replace sj1 := sj1.go s66 go0
    replace w := s66.ok
    replace r67 : Rep K B64 (.ref p63) (enc (⟨("told" : Str), x7⟩ : (Tp2 Str D))) := r67
    exact (kr6 _ P.ok) _ _ _ st r67
  · rintro a68 _ H70 ⟨B69, o72, s71, rfl⟩ P
    replace st := st.go s71 go0
    replace w := s71.ok
    exact P.ok _ _ _ st Rep.non
theorem ok__law_plain {f : Addr} {fd : FuncData}  (F : Fun K "_law_plain" "_law_plain" s__law_plain f fd) (bI_isinstance : mg "isinstance" = none) (bI_list : mg "list" = none) (bI_all : mg "all" = none) (bI_int : mg "int" = none) (bI_bool : mg "bool" = none) : FnOk Pr wo K mg base CX0 1 f fd ["_law_row"] (sp__law_plain K) := by
  refine F.ok sc__law_plain (fun vs H Q E h => ?_) (fun cdv A outer s H0 vs Q E hr h => ?_)
  · obtain ⟨_, _, _, _, rfl, _⟩ := h; rfl
  · obtain ⟨B0, v_row, a_row, w, rfl, r_row, P⟩ := h
    have w0 := w
    have hu := hu_of hr
    have hu64 := hu64_of hr
    have hu65 := hu65_of hr
    refine ⟨_, (pss_one (ps_ret (pe_and (pe_callB (r := rIsi K) call_isi (by rfl) bI_isinstance PyProof.Rows.boot_isinstance (pa_cons (pv 0) (pa_cons (pe_bltn (v := .ty "list") (by rfl) bI_list Y.boot_list rfl) pa_nil))) (pe_one (pe_callB (r := rAll K) (cr_all rfl) (by rfl) bI_all PyProof.Rows.boot_all (pa_cons (pe_lc (own := [("_law_byte", 1)]) rfl sc__law_plain.nd (pi_list (pv 0)) (blkOk_by (N := ["_law_row", "_law_byte"]) (sc := defScope s__law_plain) (by decide +kernel)) (fun _ _ _ _ _ => (pg_name (i := 1) sc__law_plain.nd rfl (by first | exact Or.inl rfl | exact Or.inr rfl))) (fun _ _ _ _ _ => pts_nil) (fun _ _ _ _ _ => (pe_and (pe_callB (r := rIsi K) call_isi (by rfl) bI_isinstance PyProof.Rows.boot_isinstance (pa_cons (pv 1) (pa_cons (pe_bltn (v := .ty "int") (by rfl) bI_int Y.boot_int rfl) pa_nil))) (pe_one (pe_not (pe_callB (r := rIsi K) call_isi (by rfl) bI_isinstance PyProof.Rows.boot_isinstance (pa_cons (pv 1) (pa_cons (pe_bltn (v := .ty "bool") (by rfl) bI_bool Y.boot_bool rfl) pa_nil)))))))) pa_nil)))))), ?_⟩
    unfold l_plain at P
    have st := Stp.refl (W := []) w
    refine h_ret ?_
    refine h_and ?_
    refine h_cb ?_
    refine h_cons ?_
    refine h_var rfl ?_
    refine h_cons ?_
    refine h_c ?_
    refine h_nil ?_
    refine isi (t := "list") w (r_row.mono st.ex) ?_
    refine h_bl ?_
    refine h_ite (fun c1 => ?_) (fun c1 => ?_)
    · replace P := P.iteT c1
      refine h_cb ?_
      refine h_cons ?_
      refine h_lcE ?_
      refine h_var rfl ?_
      obtain ⟨l1, hl2, P⟩ := P.asL
      have rc3 := (r_row.mono st.ex)
      rw [hl2] at rc3
      obtain ⟨p4, xs5, rfl, hb6, hr7⟩ := Rep.sqB rc3
      refine h_lcL P (w.l hb6) hr7 (fun Dl (acc : List Bool) (a : Unit) H' => ∃ B', Stp [] B0 H0 B' H' ∧ H0 Dl = none ∧ Mu K B' H' Dl (acc.map enc)) (fun Dl hD => ⟨_, Stp.newM w hD, hD, Mu.new w hD .nil⟩) (fun _ _ _ _ j => ?_) ?_ ?_
      · obtain ⟨B17, s18, hD19, m20⟩ := j
        exact s18.ok.l (s18.ex.l hb6)
      · rintro Dl8 N9 T10 x11 v12 acc14 a15 H16 ⟨B17, s18, hD19, m20⟩ r13 hz21 kk22 kn23 P
        have wj25 := w
        have sj24 := s18
        have n26 := st.nn hD19
        replace st := st.go s18 go0
        replace w := s18.ok
        replace r13 := r13.mono s18.ex
        refine h_gname ?_
        refine h_lcT rfl ?_
        have wj28 := w
        have sj27 := Stp.refl (W := []) w
        refine h_exprJ P (fun (a : Bool) v H' => ∃ B', Stp [] B17 H16 B' H' ∧ v = .bl a) (fun N kk29 P => ?_) ?_
        · skip
          refine h_and ?_
          refine h_cb ?_
          refine h_cons ?_
          refine h_var rfl ?_
          refine h_cons ?_
          refine h_c ?_
          refine h_nil ?_
          refine isi (t := "int") w r13 ?_
          refine h_bl ?_
          refine h_ite (fun c1 => ?_) (fun c1 => ?_)
          · replace P := P.iteT c1
            refine h_not ?_
            refine h_cb ?_
            refine h_cons ?_
            refine h_var rfl ?_
            refine h_cons ?_
            refine h_c ?_
            refine h_nil ?_
            refine isi (t := "bool") w r13 ?_
            refine h_bl ?_
            exact kk29 (!(isA "bool" x11)) _ _ ⟨_, sj27, rfl⟩ P.ok
          · replace P := P.iteF c1
            exact kk29 false _ _ ⟨_, sj27, rfl⟩ P.ok
        rintro a30 v31 H33 ⟨B32, s34, r35⟩ P
        replace r13 := r13.mono s34.ex
        replace m20 := m20.step s34 nm0
        replace st := st.go s34 go0
        replace sj24 := sj24.go s34 go0
        replace w := s34.ok
        subst r35
        refine h_app (b := a30) w m20 (Rep.bl _) hz21 (fun H36 s37 m20 => ?_)
        replace r13 := r13.mono s37.ex
        replace st := st.go s37 (go1 (.inr n26))
        replace sj24 := sj24.go s37 (go1 (.inr hD19))
        replace w := s37.ok
        exact kk22 a30 () _ ⟨_, sj24, hD19, m20⟩ P.ok
      · rintro Dl8 acc14 a15 H16 ⟨B17, s18, hD19, m20⟩ P
        have n38 := st.nn hD19
        replace st := st.go s18 go0
        replace w := s18.ok
        replace P := P.un2
        obtain ⟨B43, e39, k40, g41, r42⟩ := Mu.keep m20
        replace st := g41 _ _ _ st w0 n38
        replace w := st.ok
        replace r42 : Rep K B43 (.ref Dl8) (enc acc14) := r42
        refine h_nil ?_
        obtain ⟨p44, xs45, hv, hs46, hr47⟩ := Rep.sq w r42
        cases hv
        refine h_all hs46 hr47 ?_
        exact P.ok _ _ _ st (Rep.bl _)
    · replace P := P.iteF c1
      exact P.ok _ _ _ st (Rep.bl _)
theorem ok__law_reads {f : Addr} {fd : FuncData} {P__law_reads c__law_reads_ : Addr}  (F : FunC K "_law_reads" "_law_reads" s__law_reads f fd c__law_reads_) (tb__law_reads : LamX.TabB base mg c__law_reads_ P__law_reads) {f__law_number_at : Addr} {d__law_number_at : FuncData} (g__law_number_at : mg "_law_number_at" = some (.ref f__law_number_at)) (k__law_number_at : PySem.W.keepIn K (.ref f__law_number_at) = true) (b__law_number_at : L2.Binds K d__law_number_at ["_law_row", "_law_at"] []) (G__law_number_at : FnOk Pr wo K mg base CX0 1 f__law_number_at d__law_number_at ["_law_row", "_law_at"] (sp__law_number_at K)) {f__law_word : Addr} {d__law_word : FuncData} (g__law_word : mg "_law_word" = some (.ref f__law_word)) (F__law_word : L2.Fun K "_law_word" "_law_word" s__law_word f__law_word d__law_word) (b__law_word : L2.Binds K d__law_word ["_law_ask"] []) (G__law_word : ∀ (X : Cx) (q : Str) (cdv : Value), X.K = K → X.mg = mg → LamX.GivesTo X ["_law_ask", "e"] "_law_word" (defScope s__law_word) f__law_word cdv (defBody s__law_word) "_law_ask" q (TTw K mg l_word)) {f__law_plain : Addr} {d__law_plain : FuncData} (g__law_plain : mg "_law_plain" = some (.ref f__law_plain)) (k__law_plain : PySem.W.keepIn K (.ref f__law_plain) = true) (b__law_plain : L2.Binds K d__law_plain ["_law_row"] []) (G__law_plain : FnOk Pr wo K mg base CX0 1 f__law_plain d__law_plain ["_law_row"] (sp__law_plain K)) {f_read_number : Addr} {d_read_number : FuncData} (g_read_number : mg "read_number" = some (.ref f_read_number)) (k_read_number : PySem.W.keepIn K (.ref f_read_number) = true) (b_read_number : L2.Binds K d_read_number ["row", "at"] []) (G_read_number : FnOk Pr wo K mg base (L2.CX Pr wo) 5 f_read_number d_read_number ["row", "at"] (sp_read_number K mg)) (bI_list : mg "list" = none) (bI_isinstance : mg "isinstance" = none) (bI_tuple : mg "tuple" = none) : FnOk Pr wo K mg base CX0 9 f fd ["_law_row", "_law_at"] (sp__law_reads K P__law_reads) := by
  refine F.okC sc__law_reads (fun vs H Q E h => ?_) (fun A outer s H0 vs Q E hr h => ?_)
  · obtain ⟨_, _, _, _, _, rfl, _⟩ := h; rfl
  · obtain ⟨B0, v_row, a_row, a_at, w, rfl, r_row, t__law_reads, P⟩ := h
    have w0 := w
    have hu := hu_of hr
    have hu64 := hu64_of hr
    have hu65 := hu65_of hr
    have hr1 : Room 1 _ := hr.mono (by decide)
    have hr5 : Room 5 _ := hr.mono (by decide)
    refine ⟨_, (pss_cons (ps_set (i := 2) sc__law_reads.nd rfl (by first | exact Or.inl rfl | exact Or.inr rfl) (pe_callTy (r := rListY K) cr_list (by rfl) bI_list Y.boot_list (pa_cons (pv 0) pa_nil)))
      (pss_cons (ps_set (i := 3) sc__law_reads.nd rfl (by first | exact Or.inl rfl | exact Or.inr rfl) (pe_call G__law_number_at hr1 rfl g__law_number_at k__law_number_at b__law_number_at .nil pass0 (pa_cons (pv 0) (pa_cons (pv 1) pa_nil))))
      (pss_cons (ps_set (i := 4) sc__law_reads.nd rfl (by first | exact Or.inl rfl | exact Or.inr rfl) (pe_lamC (k := 5) F__law_word (by rfl) g__law_word b__law_word sc__law_word rfl (.inl rfl) (fun cdv => G__law_word _ _ cdv rfl rfl) tb__law_reads rfl rfl (hr.mono (by decide)) (LamX.lamS_by (sc := defScope s__law_reads) (by decide +kernel)) rfl (fun _ _ _ _ _ => rfl) (fun A outer s H E f b hrl => (pe_callS G_read_number (hrl.mono (by decide)) rfl g_read_number k_read_number b_read_number (fun σ => passAt (takes_of rfl rfl rfl rfl) σ) (pa_cons (pv 2) (pa_cons (pv 1) pa_nil))))))
      (pss_cons (ps_if (pt_cmpR (r := rNeD K) (op_neD hu64) (pv 2) (pv 0) (nomark _)) (pss_one (ps_ret pe_bl)) pss_nil)
      (pss_cons (ps_if (pt_cmpR op_isNn (pv 3) pe_non (nomark _)) (pss_one (ps_ret (pe_cmpR (r := rEqD K) (op_eqD hu64) (pv 4) (pe_tup (pa_cons pe_str (pa_cons pe_bl pa_nil))) (nomark _)))) pss_nil)
      (pss_one (ps_ret (pe_and (pe_cmpR (r := rEqD K) (op_eqD hu64) (pv 4) (pe_tup (pa_cons pe_str (pa_cons (pv 3) pa_nil))) (nomark _)) (pe_and (pe_callB (r := rIsi K) call_isi (by rfl) bI_isinstance PyProof.Rows.boot_isinstance (pa_cons (pe_ix (r := rIxT K) ix_tup (pv 4) pe_int (fun _ _ => rfl)) (pa_cons (pe_bltn (v := .ty "tuple") (by rfl) bI_tuple Y.boot_tuple rfl) pa_nil))) (pe_one (pe_call G__law_plain hr1 rfl g__law_plain k__law_plain b__law_plain .nil pass0 (pa_cons (pe_callTy (r := rListY K) cr_list (by rfl) bI_list Y.boot_list (pa_cons (pe_ix (r := rIxT K) ix_tup (pv 4) pe_int (fun _ _ => rfl)) pa_nil)) pa_nil)))))))))))), ?_⟩
    unfold l_reads at P
    have st := Stp.refl (W := [P__law_reads]) w
    refine h_set ?_
    refine h_cb ?_
    refine h_cons ?_
    refine h_var rfl ?_
    refine h_nil ?_
    obtain ⟨p1, xs2, rfl, hs3, hr4⟩ := Rep.sq w (r_row.mono st.ex)
    refine h_listL hs3 ?_
    refine h_nwL w (ds := (a_row).map enc) (K := K) hr4 (fun p5 B6 H7 s8 r9 => ?_) 
    replace t__law_reads := t__law_reads.step s8 nm0
    replace st := st.go s8 go0
    replace w := s8.ok
    replace r9 : Rep K B6 (.ref p5) (enc a_row) := r9
    refine h_set ?_
    refine h_call ?_
    refine h_cons ?_
    refine h_var rfl ?_
    refine h_cons ?_
    refine h_var rfl ?_
    refine h_nil ?_
    refine ⟨B6, (.ref p1), a_row, a_at, w, rfl, (r_row.mono st.ex), (P.bind).mono (fun x10 P => ?_) (fun _ z => z)⟩
    refine fun v14 B11 H12 s13 r15 => ?_
    replace t__law_reads := t__law_reads.step s13 nm0
    replace r9 := r9.mono s13.ex
    replace st := st.go s13 go0
    replace w := s13.ok
    refine h_set ?_
    refine h_lam w t__law_reads (fun B16 H17 s18 t__law_reads => ?_)
    replace r9 := r9.mono s18.ex
    replace r15 := r15.mono s18.ex
    replace st := st.go s18 (go1 (.inl (by simp)))
    replace w := s18.ok
    refine ⟨B16, ((m_read_number (enc a_row) (enc (a_at : Int))).bind fun x19 => .ok (enc x19) : Res D), w, fun E2 Q2 P => ?_, ?_⟩
    · have stl := Stp.refl (W := []) w
      have wl := w
      refine h_callS ?_
      refine h_cons ?_
      refine h_var rfl ?_
      refine h_cons ?_
      refine h_var rfl ?_
      refine h_nil ?_
      refine ⟨B16, (.ref p5), (enc a_row), .int a_at, (enc (a_at : Int)), w, rfl, r9, (Rep.int _), Post.mono2 P.bind (fun e25 P => ?_) (fun x19 P => ?_)⟩
      · skip
        exact fun C B' H' g s => P C B' H' g (stl.go s go0)
      refine fun v23 B20 H21 s22 r24 => ?_
      replace t__law_reads := t__law_reads.step s22 nm0
      replace r9 := r9.mono s22.ex
      replace r15 := r15.mono s22.ex
      replace stl := stl.go s22 go0
      replace w := s22.ok
      exact P.ok _ _ _ stl r24
    refine (P.bind).mono (fun x26 P => ?_) (fun _ z => z)
    refine fun v30 B27 H28 s29 r31 => ?_
    replace t__law_reads := t__law_reads.step s29 nm0
    replace r9 := r9.mono s29.ex
    replace r15 := r15.mono s29.ex
    replace st := st.go s29 go0
    replace w := s29.ok
    refine h_seq <| h_if ?_
    refine h_test ?_
    refine h_op ?_
    refine h_var rfl ?_
    refine h_var rfl ?_
    obtain ⟨gd, P⟩ := P.guard
    refine h_neD (d := (enc a_row)) (e := (enc a_row)) w r9 (r_row.mono st.ex) gd ?_
    refine h_bl ?_
    refine h_ite (fun c1 => ?_) (fun c1 => ?_)
    · replace P := P.iteT c1
      refine h_ret ?_
      refine h_c ?_
      exact P.ok _ _ _ st t__law_reads (Rep.bl _)
    · replace P := P.iteF c1
      refine h_next ?_
      refine h_nx ?_
      refine h_seq <| h_if ?_
      refine h_test ?_
      refine h_op ?_
      refine h_var rfl ?_
      refine h_c ?_
      refine h_isN r15 ?_
      refine h_bl ?_
      refine h_ite (fun c1 => ?_) (fun c1 => ?_)
      · replace P := P.iteT c1
        refine h_ret ?_
        refine h_op ?_
        refine h_var rfl ?_
        refine h_tup ?_
        refine h_cons ?_
        refine h_c ?_
        refine h_cons ?_
        refine h_c ?_
        refine h_nil ?_
        refine h_newT w (K := K) (.cons (Rep.str _) (.cons (Rep.bl _) .nil)) (fun p32 B33 H34 s35 r36 => ?_) (by show 2 ≤ sizeLine; decide)
        replace t__law_reads := t__law_reads.step s35 nm0
        replace r9 := r9.mono s35.ex
        replace r15 := r15.mono s35.ex
        replace r31 := r31.mono s35.ex
        replace st := st.go s35 go0
        replace w := s35.ok
        replace r36 : Rep K B33 (.ref p32) (enc (⟨("number" : Str), false⟩ : (Tp2 Str Bool))) := r36
        obtain ⟨gd, P⟩ := P.guard
        refine h_eqD (d := x26) (e := (enc (⟨("number" : Str), false⟩ : (Tp2 Str Bool)))) w r31 r36 gd ?_
        exact P.ok _ _ _ st t__law_reads (Rep.bl _)
      · replace P := P.iteF c1
        refine h_next ?_
        refine h_nx ?_
        refine h_ret ?_
        refine h_and ?_
        refine h_op ?_
        refine h_var rfl ?_
        refine h_tup ?_
        refine h_cons ?_
        refine h_c ?_
        refine h_cons ?_
        refine h_var rfl ?_
        refine h_nil ?_
        refine h_newT w (K := K) (.cons (Rep.str _) (.cons r15 .nil)) (fun p37 B38 H39 s40 r41 => ?_) (by show 2 ≤ sizeLine; decide)
        replace t__law_reads := t__law_reads.step s40 nm0
        replace r9 := r9.mono s40.ex
        replace r15 := r15.mono s40.ex
        replace r31 := r31.mono s40.ex
        replace st := st.go s40 go0
        replace w := s40.ok
        replace r41 : Rep K B38 (.ref p37) (enc (⟨("told" : Str), x10⟩ : (Tp2 Str (Option (Tp2 Int Int))))) := r41
        obtain ⟨gd, P⟩ := P.guard
        refine h_eqD (d := x26) (e := (enc (⟨("told" : Str), x10⟩ : (Tp2 Str (Option (Tp2 Int Int)))))) w r31 r41 gd ?_
        refine h_bl ?_
        refine h_ite (fun c1 => ?_) (fun c1 => ?_)
        · replace P := P.iteT c1
          refine h_and ?_
          refine h_cb ?_
          refine h_cons ?_
          refine h_op ?_
          refine h_var rfl ?_
          refine h_c ?_
          obtain ⟨l42, hl43, P⟩ := P.asT
          have rc44 := r31
          rw [hl43] at rc44
          obtain ⟨p45, xs46, rfl, hs47, hr48⟩ := Rep.st w rc44
          obtain ⟨x49, hx50, P⟩ := P.ix
          obtain ⟨u51, hu, r52⟩ := RepL.atE hr48 hx50
          refine h_ixT hs47 hu ?_
          refine h_cons ?_
          refine h_c ?_
          refine h_nil ?_
          refine isi (t := "tuple") w r52 ?_
          refine h_bl ?_
          refine h_ite (fun c1 => ?_) (fun c1 => ?_)
          · replace P := P.iteT c1
            refine h_call ?_
            refine h_cons ?_
            refine h_cb ?_
            refine h_cons ?_
            refine h_op ?_
            refine h_var rfl ?_
            refine h_c ?_
            obtain ⟨l53, hl54, P⟩ := P.asT
            have rc55 := r31
            rw [hl54] at rc55
            obtain ⟨p56, xs57, hv, hs58, hr59⟩ := Rep.st w rc55
            cases hv
            obtain ⟨x60, hx61, P⟩ := P.ix
            obtain ⟨u62, hu, r63⟩ := RepL.atE hr59 hx61
            refine h_ixT hs58 hu ?_
            refine h_nil ?_
            obtain ⟨l64, hl65, P⟩ := P.asT
            have rc66 := r63
            rw [hl65] at rc66
            obtain ⟨p67, xs68, rfl, hs69, hr70⟩ := Rep.st w rc66
            refine h_listT hs69 ?_
            refine h_nwL w (ds := (l64).map enc) (K := K) hr70 (fun p71 B72 H73 s74 r75 => ?_) 
            replace t__law_reads := t__law_reads.step s74 nm0
            replace r9 := r9.mono s74.ex
            replace r15 := r15.mono s74.ex
            replace r31 := r31.mono s74.ex
            replace st := st.go s74 go0
            replace w := s74.ok
            replace r75 : Rep K B72 (.ref p71) (enc l64) := r75
            refine h_nil ?_
            refine ⟨B72, (.ref p71), (enc l64), w, rfl, r75, (P.bind).mono (fun x76 P => ?_) (fun _ z => z)⟩
            refine fun v80 B77 H78 s79 r81 => ?_
            replace t__law_reads := t__law_reads.step s79 nm0
            replace r9 := r9.mono s79.ex
            replace r15 := r15.mono s79.ex
            replace r31 := r31.mono s79.ex
            replace r75 := r75.mono s79.ex
            replace st := st.go s79 go0
            replace w := s79.ok
            cases r81
            exact P.ok _ _ _ st t__law_reads (Rep.bl _)
          · replace P := P.iteF c1
            exact P.ok _ _ _ st t__law_reads (Rep.bl _)
        · replace P := P.iteF c1
          exact P.ok _ _ _ st t__law_reads (Rep.bl _)
theorem ok__law_odds {f : Addr} {fd : FuncData} {P__law_odds c__law_odds_ : Addr}  (F : FunC K "_law_odds" "_law_odds" s__law_odds f fd c__law_odds_) {tk_read_number_at : Tok} (tb__law_odds : LamX.TabB base mg c__law_odds_ P__law_odds) {f__law_odd_row : Addr} {d__law_odd_row : FuncData} (g__law_odd_row : mg "_law_odd_row" = some (.ref f__law_odd_row)) (k__law_odd_row : PySem.W.keepIn K (.ref f__law_odd_row) = true) (b__law_odd_row : L2.Binds K d__law_odd_row ["_law_state", "_law_row"] []) (G__law_odd_row : FnOk Pr wo K mg base CX0 2 f__law_odd_row d__law_odd_row ["_law_state", "_law_row"] (sp__law_odd_row K)) {f__law_digit : Addr} {d__law_digit : FuncData} (g__law_digit : mg "_law_digit" = some (.ref f__law_digit)) (k__law_digit : PySem.W.keepIn K (.ref f__law_digit) = true) (b__law_digit : L2.Binds K d__law_digit ["_law_state", "_law_base"] []) (G__law_digit : FnOk Pr wo K mg base CX0 1 f__law_digit d__law_digit ["_law_state", "_law_base"] (sp__law_digit K)) {f__law_word : Addr} {d__law_word : FuncData} (g__law_word : mg "_law_word" = some (.ref f__law_word)) (F__law_word : L2.Fun K "_law_word" "_law_word" s__law_word f__law_word d__law_word) (b__law_word : L2.Binds K d__law_word ["_law_ask"] []) (G__law_word : ∀ (X : Cx) (q : Str) (cdv : Value), X.K = K → X.mg = mg → LamX.GivesTo X ["_law_ask", "e"] "_law_word" (defScope s__law_word) f__law_word cdv (defBody s__law_word) "_law_ask" q (TTw K mg l_word)) {f_read_number : Addr} {d_read_number : FuncData} (g_read_number : mg "read_number" = some (.ref f_read_number)) (k_read_number : PySem.W.keepIn K (.ref f_read_number) = true) (b_read_number : L2.Binds K d_read_number ["row", "at"] []) (G_read_number : FnOk Pr wo K mg base (L2.CX Pr wo) 5 f_read_number d_read_number ["row", "at"] (sp_read_number K mg)) {f_written : Addr} {d_written : FuncData} (g_written : mg "written" = some (.ref f_written)) (k_written : PySem.W.keepIn K (.ref f_written) = true) (b_written : L2.Binds K d_written ["number"] []) (G_written : FnOk Pr wo K mg base (L2.CX Pr wo) 2 f_written d_written ["number"] (sp_written K mg)) (bI_len : mg "len" = none) (b_read_number_1 : L2.Binds K d_read_number ["row", "at"] [.int 0 tk_read_number_at]) : FnOk Pr wo K mg base CX0 9 f fd ["_law_state", "_law_row"] (sp__law_odds K P__law_odds) := by
  refine F.okC sc__law_odds (fun vs H Q E h => ?_) (fun A outer s H0 vs Q E hr h => ?_)
  · obtain ⟨_, _, _, _, _, _, rfl, _⟩ := h; rfl
  · obtain ⟨B0, p_state, a_state, v_row, a_row, w, rfl, m_state, r_row, t__law_odds, P⟩ := h
    have w0 := w
    have hu := hu_of hr
    have hu64 := hu64_of hr
    have hu65 := hu65_of hr
    have hr1 : Room 1 _ := hr.mono (by decide)
    have hr2 : Room 2 _ := hr.mono (by decide)
    have hr5 : Room 5 _ := hr.mono (by decide)
    refine ⟨_, (pss_cons (ps_set (i := 2) sc__law_odds.nd rfl (by first | exact Or.inl rfl | exact Or.inr rfl) (pe_ix (r := rIxL K) ix_list (pe_lst (pa_cons (pe_un un_neg pe_int) (pa_cons (pe_op op_add (pe_callB (r := rLenY K) cr_len (by rfl) bI_len PySem.boot_len (pa_cons (pv 1) pa_nil)) pe_int) (pa_cons (pe_cmpR op_eq pe_int pe_int (nomark _)) (pa_cons pe_non (pa_cons pe_str (pa_cons (pe_lst (pa_cons pe_int pa_nil)) (pa_cons (pe_tup (pa_cons pe_int pa_nil)) (pa_cons (pe_op op_add (pe_callB (r := rLenY K) cr_len (by rfl) bI_len PySem.boot_len (pa_cons (pv 1) pa_nil)) pe_int) pa_nil))))))))) (pe_call G__law_digit hr1 rfl g__law_digit k__law_digit b__law_digit .nil pass0 (pa_cons (pv 0) (pa_cons pe_int pa_nil))) (fun _ _ => rfl)))
      (pss_cons (ps_set (i := 3) sc__law_odds.nd rfl (by first | exact Or.inl rfl | exact Or.inr rfl) (pe_call G__law_odd_row hr2 rfl g__law_odd_row k__law_odd_row b__law_odd_row .nil pass0 (pa_cons (pv 0) (pa_cons (pv 1) pa_nil))))
      (pss_cons (ps_set (i := 4) sc__law_odds.nd rfl (by first | exact Or.inl rfl | exact Or.inr rfl) (pe_ix (r := rIxL K) ix_list (pe_lst (pa_cons (pe_un un_neg pe_int) (pa_cons (pe_cmpR op_eq pe_int pe_int (nomark _)) (pa_cons pe_non (pa_cons pe_str (pa_cons (pe_lst (pa_cons pe_int pa_nil)) (pa_cons (pe_tup (pa_cons pe_int pa_nil)) (pa_cons pe_dnewK (pa_cons (pe_un un_neg (pe_op op_pow pe_int pe_int)) pa_nil))))))))) (pe_call G__law_digit hr1 rfl g__law_digit k__law_digit b__law_digit .nil pass0 (pa_cons (pv 0) (pa_cons pe_int pa_nil))) (fun _ _ => rfl)))
      (pss_cons (ps_if (pt_cmpR (r := rNeD K) (op_neD hu64) (pe_lamC (k := 5) F__law_word (by rfl) g__law_word b__law_word sc__law_word rfl (.inl rfl) (fun cdv => G__law_word _ _ cdv rfl rfl) tb__law_odds rfl rfl (hr.mono (by decide)) (LamX.lamS_by (sc := defScope s__law_odds) (by decide +kernel)) rfl (fun _ _ _ _ _ => rfl) (fun A outer s H E f b hrl => (pe_callS G_read_number (hrl.mono (by decide)) rfl g_read_number k_read_number b_read_number (fun σ => passAt (takes_of rfl rfl rfl rfl) σ) (pa_cons (pv 3) (pa_cons (pv 2) pa_nil))))) (pe_tup (pa_cons pe_str (pa_cons pe_bl pa_nil))) (nomark _)) (pss_one (ps_ret pe_bl)) pss_nil)
      (pss_cons (ps_if (pt_cmpR (r := rNeD K) (op_neD hu64) (pe_lamC (k := 5) F__law_word (by rfl) g__law_word b__law_word sc__law_word rfl (.inl rfl) (fun cdv => G__law_word _ _ cdv rfl rfl) tb__law_odds rfl rfl (hr.mono (by decide)) (LamX.lamS_by (sc := defScope s__law_odds) (by decide +kernel)) rfl (fun _ _ _ _ _ => rfl) (fun A outer s H E f b hrl => (pe_callSD G_read_number (hrl.mono (by decide)) rfl g_read_number k_read_number b_read_number_1 (.cons (show L2.RelV (.int 0) (.int 0 tk_read_number_at) from ⟨_, rfl⟩) .nil) (fun σ => passAt (takes_of rfl rfl rfl rfl) σ) (pa_cons (pv 3) pa_nil)))) (pe_tup (pa_cons pe_str (pa_cons pe_bl pa_nil))) (nomark _)) (pss_one (ps_ret pe_bl)) pss_nil)
      (pss_cons (ps_if (pt_cmpR (r := rNeD K) (op_neD hu64) (pe_lamC (k := 5) F__law_word (by rfl) g__law_word b__law_word sc__law_word rfl (.inl rfl) (fun cdv => G__law_word _ _ cdv rfl rfl) tb__law_odds rfl rfl (hr.mono (by decide)) (LamX.lamS_by (sc := defScope s__law_odds) (by decide +kernel)) rfl (fun _ _ _ _ _ => rfl) (fun A outer s H E f b hrl => (pe_callS G_read_number (hrl.mono (by decide)) rfl g_read_number k_read_number b_read_number (fun σ => passAt (takes_of rfl rfl rfl rfl) σ) (pa_cons (pv 1) (pa_cons (pv 2) pa_nil))))) (pe_tup (pa_cons pe_str (pa_cons pe_bl pa_nil))) (nomark _)) (pss_one (ps_ret pe_bl)) pss_nil)
      (pss_one (ps_ret (pe_cmpR (r := rEqD K) (op_eqD hu64) (pe_lamC (k := 2) F__law_word (by rfl) g__law_word b__law_word sc__law_word rfl (.inl rfl) (fun cdv => G__law_word _ _ cdv rfl rfl) tb__law_odds rfl rfl (hr.mono (by decide)) (LamX.lamS_by (sc := defScope s__law_odds) (by decide +kernel)) rfl (fun _ _ _ _ _ => rfl) (fun A outer s H E f b hrl => (pe_callS G_written (hrl.mono (by decide)) rfl g_written k_written b_written (fun σ => passAt (takes_of rfl rfl rfl rfl) σ) (pa_cons (pv 4) pa_nil)))) (pe_tup (pa_cons pe_str (pa_cons pe_bl pa_nil))) (nomark _)))))))))), ?_⟩
    unfold l_odds at P
    have st := Stp.refl (W := [p_state, P__law_odds]) w
    have neT1 := m_state.neT t__law_odds
    refine h_set ?_
    refine h_op ?_
    refine h_lst ?_
    refine h_cons ?_
    refine h_un ?_
    refine h_c ?_
    refine h_U ?_
    refine h_cons ?_
    refine h_op ?_
    refine h_cb ?_
    refine h_cons ?_
    refine h_var rfl ?_
    refine h_nil ?_
    obtain ⟨p2, xs3, rfl, hs4, hr5⟩ := Rep.sq w (r_row.mono st.ex)
    refine h_len hs4 hr5 ?_
    refine h_c ?_
    refine h_I0 ?_
    refine h_cons ?_
    refine h_op ?_
    refine h_c ?_
    refine h_c ?_
    refine h_eqI ?_
    refine h_cons ?_
    refine h_c ?_
    refine h_cons ?_
    refine h_c ?_
    refine h_cons ?_
    refine h_lst ?_
    refine h_cons ?_
    refine h_c ?_
    refine h_nil ?_
    refine h_newL w (ds := (([0] : List Int)).map enc) (K := K) (.cons (Rep.int _) .nil) (fun p6 B7 H8 s9 r10 => ?_) (by show 1 ≤ sizeLine; decide)
    replace m_state := m_state.step s9 nm0
    replace t__law_odds := t__law_odds.step s9 nm0
    replace st := st.go s9 go0
    replace w := s9.ok
    replace r10 : Rep K B7 (.ref p6) (enc ([0] : List Int)) := r10
    refine h_cons ?_
    refine h_tup ?_
    refine h_cons ?_
    refine h_c ?_
    refine h_nil ?_
    refine h_newT w (K := K) (.cons (Rep.int _) .nil) (fun p11 B12 H13 s14 r15 => ?_) (by show 1 ≤ sizeLine; decide)
    replace m_state := m_state.step s14 nm0
    replace t__law_odds := t__law_odds.step s14 nm0
    replace r10 := r10.mono s14.ex
    replace st := st.go s14 go0
    replace w := s14.ok
    replace r15 : Rep K B12 (.ref p11) (enc (⟨0⟩ : (Tp1 Int))) := r15
    refine h_cons ?_
    refine h_op ?_
    refine h_cb ?_
    refine h_cons ?_
    refine h_var rfl ?_
    refine h_nil ?_
    obtain ⟨p16, xs17, hv, hs18, hr19⟩ := Rep.sq w (r_row.mono st.ex)
    cases hv
    refine h_len hs18 hr19 ?_
    refine h_c ?_
    refine h_I0 ?_
    refine h_nil ?_
    refine h_newL w (ds := (([(enc ((-1) : Int)), (enc (((a_row.length : Int) + 1) : Int)), (enc (decide (1 = 2))), (enc ()), (enc ("0" : Str)), (enc ([0] : List Int)), (enc (⟨0⟩ : (Tp1 Int))), (enc (((a_row.length : Int) + 70) : Int))] : List D)).map enc) (K := K) (.cons (Rep.int _) (.cons (Rep.int _) (.cons (Rep.bl _) (.cons Rep.non (.cons (Rep.str _) (.cons r10 (.cons r15 (.cons (Rep.int _) .nil)))))))) (fun p20 B21 H22 s23 r24 => ?_) (by show 8 ≤ sizeLine; decide)
    replace m_state := m_state.step s23 nm0
    replace t__law_odds := t__law_odds.step s23 nm0
    replace st := st.go s23 go0
    replace w := s23.ok
    replace r24 : Rep K B21 (.ref p20) (enc ([(enc ((-1) : Int)), (enc (((a_row.length : Int) + 1) : Int)), (enc (decide (1 = 2))), (enc ()), (enc ("0" : Str)), (enc ([0] : List Int)), (enc (⟨0⟩ : (Tp1 Int))), (enc (((a_row.length : Int) + 70) : Int))] : List D)) := r24
    refine h_call ?_
    refine h_cons ?_
    refine h_var rfl ?_
    refine h_cons ?_
    refine h_c ?_
    refine h_nil ?_
    refine ⟨B21, p_state, a_state, 8, w, rfl, m_state, (P.bind).mono (fun x25 P => ?_) (fun _ z => z)⟩
    refine fun v29 B26 H27 s28 m_state r30 => ?_
    replace t__law_odds := t__law_odds.step s28 (nm1 neT1.symm)
    replace r24 := r24.mono s28.ex
    replace st := st.go s28 (go1 (.inl (by simp)))
    replace w := s28.ok
    cases r30
    obtain ⟨p31, xs32, hv, hs33, hr34⟩ := Rep.sq w r24
    cases hv
    obtain ⟨x35, hx36, P⟩ := P.ix
    obtain ⟨u37, hu, r38⟩ := RepL.atE hr34 hx36
    refine h_ixL hs33 hu ?_
    refine h_set ?_
    refine h_call ?_
    refine h_cons ?_
    refine h_var rfl ?_
    refine h_cons ?_
    refine h_var rfl ?_
    refine h_nil ?_
    refine ⟨B26, p_state, x25.2, (.ref p2), a_row, w, rfl, m_state, (r_row.mono st.ex), (P.bind).mono (fun x39 P => ?_) (fun _ z => z)⟩
    refine fun v43 B40 H41 s42 m_state r44 => ?_
    replace t__law_odds := t__law_odds.step s42 (nm1 neT1.symm)
    replace r38 := r38.mono s42.ex
    replace st := st.go s42 (go1 (.inl (by simp)))
    replace w := s42.ok
    refine h_set ?_
    refine h_op ?_
    refine h_lst ?_
    refine h_cons ?_
    refine h_un ?_
    refine h_c ?_
    refine h_U ?_
    refine h_cons ?_
    refine h_op ?_
    refine h_c ?_
    refine h_c ?_
    refine h_eqI ?_
    refine h_cons ?_
    refine h_c ?_
    refine h_cons ?_
    refine h_c ?_
    refine h_cons ?_
    refine h_lst ?_
    refine h_cons ?_
    refine h_c ?_
    refine h_nil ?_
    refine h_newL w (ds := (([7] : List Int)).map enc) (K := K) (.cons (Rep.int _) .nil) (fun p45 B46 H47 s48 r49 => ?_) (by show 1 ≤ sizeLine; decide)
    replace m_state := m_state.step s48 nm0
    replace t__law_odds := t__law_odds.step s48 nm0
    replace r38 := r38.mono s48.ex
    replace r44 := r44.mono s48.ex
    replace st := st.go s48 go0
    replace w := s48.ok
    replace r49 : Rep K B46 (.ref p45) (enc ([7] : List Int)) := r49
    refine h_cons ?_
    refine h_tup ?_
    refine h_cons ?_
    refine h_c ?_
    refine h_nil ?_
    refine h_newT w (K := K) (.cons (Rep.int _) .nil) (fun p50 B51 H52 s53 r54 => ?_) (by show 1 ≤ sizeLine; decide)
    replace m_state := m_state.step s53 nm0
    replace t__law_odds := t__law_odds.step s53 nm0
    replace r38 := r38.mono s53.ex
    replace r44 := r44.mono s53.ex
    replace r49 := r49.mono s53.ex
    replace st := st.go s53 go0
    replace w := s53.ok
    replace r54 : Rep K B51 (.ref p50) (enc (⟨7⟩ : (Tp1 Int))) := r54
    refine h_cons ?_
    refine h_dnew w (K := K) (fun p55 B56 H57 s58 r59 => ?_)
    replace m_state := m_state.step s58 nm0
    replace t__law_odds := t__law_odds.step s58 nm0
    replace r38 := r38.mono s58.ex
    replace r44 := r44.mono s58.ex
    replace r49 := r49.mono s58.ex
    replace r54 := r54.mono s58.ex
    replace st := st.go s58 go0
    replace w := s58.ok
    refine h_cons ?_
    refine h_un ?_
    refine h_op (h_c (h_c (h_pow (k := 10000000000000000000000000000000000000000) (by decide +kernel) (by decide +kernel) ?_)))
    refine h_U ?_
    refine h_nil ?_
    refine h_newL w (ds := (([(enc ((-1) : Int)), (enc (decide (1 = 1))), (enc ()), (enc ("7" : Str)), (enc ([7] : List Int)), (enc (⟨7⟩ : (Tp1 Int))), (.dic [] : D), (enc ((-10000000000000000000000000000000000000000) : Int))] : List D)).map enc) (K := K) (.cons (Rep.int _) (.cons (Rep.bl _) (.cons Rep.non (.cons (Rep.str _) (.cons r49 (.cons r54 (.cons r59 (.cons (Rep.int _) .nil)))))))) (fun p60 B61 H62 s63 r64 => ?_) (by show 8 ≤ sizeLine; decide)
    replace m_state := m_state.step s63 nm0
    replace t__law_odds := t__law_odds.step s63 nm0
    replace r38 := r38.mono s63.ex
    replace r44 := r44.mono s63.ex
    replace st := st.go s63 go0
    replace w := s63.ok
    replace r64 : Rep K B61 (.ref p60) (enc ([(enc ((-1) : Int)), (enc (decide (1 = 1))), (enc ()), (enc ("7" : Str)), (enc ([7] : List Int)), (enc (⟨7⟩ : (Tp1 Int))), (.dic [] : D), (enc ((-10000000000000000000000000000000000000000) : Int))] : List D)) := r64
    refine h_call ?_
    refine h_cons ?_
    refine h_var rfl ?_
    refine h_cons ?_
    refine h_c ?_
    refine h_nil ?_
    refine ⟨B61, p_state, x39.2, 8, w, rfl, m_state, (P.bind).mono (fun x65 P => ?_) (fun _ z => z)⟩
    refine fun v69 B66 H67 s68 m_state r70 => ?_
    replace t__law_odds := t__law_odds.step s68 (nm1 neT1.symm)
    replace r38 := r38.mono s68.ex
    replace r44 := r44.mono s68.ex
    replace r64 := r64.mono s68.ex
    replace st := st.go s68 (go1 (.inl (by simp)))
    replace w := s68.ok
    cases r70
    obtain ⟨p71, xs72, hv, hs73, hr74⟩ := Rep.sq w r64
    cases hv
    obtain ⟨x75, hx76, P⟩ := P.ix
    obtain ⟨u77, hu, r78⟩ := RepL.atE hr74 hx76
    refine h_ixL hs73 hu ?_
    refine h_seq <| h_if ?_
    refine h_test ?_
    refine h_op ?_
    refine h_lam w t__law_odds (fun B79 H80 s81 t__law_odds => ?_)
    replace m_state := m_state.step s81 (nm1 neT1)
    replace r38 := r38.mono s81.ex
    replace r44 := r44.mono s81.ex
    replace r78 := r78.mono s81.ex
    replace st := st.go s81 (go1 (.inl (by simp)))
    replace w := s81.ok
    refine ⟨B79, ((m_read_number x39.1 x35).bind fun x82 => .ok (enc x82) : Res D), w, fun E2 Q2 P => ?_, ?_⟩
    · have stl := Stp.refl (W := []) w
      have wl := w
      refine h_callS ?_
      refine h_cons ?_
      refine h_var rfl ?_
      refine h_cons ?_
      refine h_var rfl ?_
      refine h_nil ?_
      refine ⟨B79, v43, x39.1, u37, x35, w, rfl, r44, r38, Post.mono2 P.bind (fun e88 P => ?_) (fun x82 P => ?_)⟩
      · skip
        exact fun C B' H' g s => P C B' H' g (stl.go s go0)
      refine fun v86 B83 H84 s85 r87 => ?_
      replace m_state := m_state.step s85 nm0
      replace t__law_odds := t__law_odds.step s85 nm0
      replace r38 := r38.mono s85.ex
      replace r44 := r44.mono s85.ex
      replace r78 := r78.mono s85.ex
      replace stl := stl.go s85 go0
      replace w := s85.ok
      exact P.ok _ _ _ stl r87
    refine (P.bind).mono (fun x89 P => ?_) (fun _ z => z)
    refine fun v93 B90 H91 s92 r94 => ?_
    replace m_state := m_state.step s92 nm0
    replace t__law_odds := t__law_odds.step s92 nm0
    replace r38 := r38.mono s92.ex
    replace r44 := r44.mono s92.ex
    replace r78 := r78.mono s92.ex
    replace st := st.go s92 go0
    replace w := s92.ok
    refine h_tup ?_
    refine h_cons ?_
    refine h_c ?_
    refine h_cons ?_
    refine h_c ?_
    refine h_nil ?_
    refine h_newT w (K := K) (.cons (Rep.str _) (.cons (Rep.bl _) .nil)) (fun p95 B96 H97 s98 r99 => ?_) (by show 2 ≤ sizeLine; decide)
    replace m_state := m_state.step s98 nm0
    replace t__law_odds := t__law_odds.step s98 nm0
    replace r38 := r38.mono s98.ex
    replace r44 := r44.mono s98.ex
    replace r78 := r78.mono s98.ex
    replace r94 := r94.mono s98.ex
    replace st := st.go s98 go0
    replace w := s98.ok
    replace r99 : Rep K B96 (.ref p95) (enc (⟨("bytes" : Str), false⟩ : (Tp2 Str Bool))) := r99
    obtain ⟨gd, P⟩ := P.guard
    refine h_neD (d := x89) (e := (enc (⟨("bytes" : Str), false⟩ : (Tp2 Str Bool)))) w r94 r99 gd ?_
    refine h_bl ?_
    refine h_ite (fun c1 => ?_) (fun c1 => ?_)
    · replace P := P.iteT c1
      refine h_ret ?_
      refine h_c ?_
      exact P.ok _ _ _ st m_state t__law_odds (Rep.bl _)
    · replace P := P.iteF c1
      refine h_next ?_
      refine h_nx ?_
      refine h_seq <| h_if ?_
      refine h_test ?_
      refine h_op ?_
      refine h_lam w t__law_odds (fun B100 H101 s102 t__law_odds => ?_)
      replace m_state := m_state.step s102 (nm1 neT1)
      replace r38 := r38.mono s102.ex
      replace r44 := r44.mono s102.ex
      replace r78 := r78.mono s102.ex
      replace st := st.go s102 (go1 (.inl (by simp)))
      replace w := s102.ok
      refine ⟨B100, ((m_read_number x39.1 (enc ((0 : Int) : Int))).bind fun x103 => .ok (enc x103) : Res D), w, fun E2 Q2 P => ?_, ?_⟩
      · have stl := Stp.refl (W := []) w
        have wl := w
        refine h_callS ?_
        refine h_cons ?_
        refine h_var rfl ?_
        refine h_nil ?_
        refine ⟨B100, v43, x39.1, .int 0, (enc ((0 : Int) : Int)), w, rfl, r44, (Rep.int _), Post.mono2 P.bind (fun e109 P => ?_) (fun x103 P => ?_)⟩
        · skip
          exact fun C B' H' g s => P C B' H' g (stl.go s go0)
        refine fun v107 B104 H105 s106 r108 => ?_
        replace m_state := m_state.step s106 nm0
        replace t__law_odds := t__law_odds.step s106 nm0
        replace r38 := r38.mono s106.ex
        replace r44 := r44.mono s106.ex
        replace r78 := r78.mono s106.ex
        replace stl := stl.go s106 go0
        replace w := s106.ok
        exact P.ok _ _ _ stl r108
      refine (P.bind).mono (fun x110 P => ?_) (fun _ z => z)
      refine fun v114 B111 H112 s113 r115 => ?_
      replace m_state := m_state.step s113 nm0
      replace t__law_odds := t__law_odds.step s113 nm0
      replace r38 := r38.mono s113.ex
      replace r44 := r44.mono s113.ex
      replace r78 := r78.mono s113.ex
      replace st := st.go s113 go0
      replace w := s113.ok
      refine h_tup ?_
      refine h_cons ?_
      refine h_c ?_
      refine h_cons ?_
      refine h_c ?_
      refine h_nil ?_
      refine h_newT w (K := K) (.cons (Rep.str _) (.cons (Rep.bl _) .nil)) (fun p116 B117 H118 s119 r120 => ?_) (by show 2 ≤ sizeLine; decide)
      replace m_state := m_state.step s119 nm0
      replace t__law_odds := t__law_odds.step s119 nm0
      replace r38 := r38.mono s119.ex
      replace r44 := r44.mono s119.ex
      replace r78 := r78.mono s119.ex
      replace r115 := r115.mono s119.ex
      replace st := st.go s119 go0
      replace w := s119.ok
      replace r120 : Rep K B117 (.ref p116) (enc (⟨("bytes" : Str), false⟩ : (Tp2 Str Bool))) := r120
      obtain ⟨gd, P⟩ := P.guard
      refine h_neD (d := x110) (e := (enc (⟨("bytes" : Str), false⟩ : (Tp2 Str Bool)))) w r115 r120 gd ?_
      refine h_bl ?_
      refine h_ite (fun c1 => ?_) (fun c1 => ?_)
      · replace P := P.iteT c1
        refine h_ret ?_
        refine h_c ?_
        exact P.ok _ _ _ st m_state t__law_odds (Rep.bl _)
      · replace P := P.iteF c1
        refine h_next ?_
        refine h_nx ?_
        refine h_seq <| h_if ?_
        refine h_test ?_
        refine h_op ?_
        refine h_lam w t__law_odds (fun B121 H122 s123 t__law_odds => ?_)
        replace m_state := m_state.step s123 (nm1 neT1)
        replace r38 := r38.mono s123.ex
        replace r44 := r44.mono s123.ex
        replace r78 := r78.mono s123.ex
        replace st := st.go s123 (go1 (.inl (by simp)))
        replace w := s123.ok
        refine ⟨B121, ((m_read_number (enc a_row) x35).bind fun x124 => .ok (enc x124) : Res D), w, fun E2 Q2 P => ?_, ?_⟩
        · have stl := Stp.refl (W := []) w
          have wl := w
          refine h_callS ?_
          refine h_cons ?_
          refine h_var rfl ?_
          refine h_cons ?_
          refine h_var rfl ?_
          refine h_nil ?_
          refine ⟨B121, (.ref p2), (enc a_row), u37, x35, w, rfl, (r_row.mono st.ex), r38, Post.mono2 P.bind (fun e130 P => ?_) (fun x124 P => ?_)⟩
          · skip
            exact fun C B' H' g s => P C B' H' g (stl.go s go0)
          refine fun v128 B125 H126 s127 r129 => ?_
          replace m_state := m_state.step s127 nm0
          replace t__law_odds := t__law_odds.step s127 nm0
          replace r38 := r38.mono s127.ex
          replace r44 := r44.mono s127.ex
          replace r78 := r78.mono s127.ex
          replace stl := stl.go s127 go0
          replace w := s127.ok
          exact P.ok _ _ _ stl r129
        refine (P.bind).mono (fun x131 P => ?_) (fun _ z => z)
        refine fun v135 B132 H133 s134 r136 => ?_
        replace m_state := m_state.step s134 nm0
        replace t__law_odds := t__law_odds.step s134 nm0
        replace r38 := r38.mono s134.ex
        replace r44 := r44.mono s134.ex
        replace r78 := r78.mono s134.ex
        replace st := st.go s134 go0
        replace w := s134.ok
        refine h_tup ?_
        refine h_cons ?_
        refine h_c ?_
        refine h_cons ?_
        refine h_c ?_
        refine h_nil ?_
        refine h_newT w (K := K) (.cons (Rep.str _) (.cons (Rep.bl _) .nil)) (fun p137 B138 H139 s140 r141 => ?_) (by show 2 ≤ sizeLine; decide)
        replace m_state := m_state.step s140 nm0
        replace t__law_odds := t__law_odds.step s140 nm0
        replace r38 := r38.mono s140.ex
        replace r44 := r44.mono s140.ex
        replace r78 := r78.mono s140.ex
        replace r136 := r136.mono s140.ex
        replace st := st.go s140 go0
        replace w := s140.ok
        replace r141 : Rep K B138 (.ref p137) (enc (⟨("place" : Str), false⟩ : (Tp2 Str Bool))) := r141
        obtain ⟨gd, P⟩ := P.guard
        refine h_neD (d := x131) (e := (enc (⟨("place" : Str), false⟩ : (Tp2 Str Bool)))) w r136 r141 gd ?_
        refine h_bl ?_
        refine h_ite (fun c1 => ?_) (fun c1 => ?_)
        · replace P := P.iteT c1
          refine h_ret ?_
          refine h_c ?_
          exact P.ok _ _ _ st m_state t__law_odds (Rep.bl _)
        · replace P := P.iteF c1
          refine h_next ?_
          refine h_nx ?_
          refine h_ret ?_
          refine h_op ?_
          refine h_lam w t__law_odds (fun B142 H143 s144 t__law_odds => ?_)
          replace m_state := m_state.step s144 (nm1 neT1)
          replace r38 := r38.mono s144.ex
          replace r44 := r44.mono s144.ex
          replace r78 := r78.mono s144.ex
          replace st := st.go s144 (go1 (.inl (by simp)))
          replace w := s144.ok
          refine ⟨B142, ((m_written x75).bind fun x145 => .ok (enc x145) : Res D), w, fun E2 Q2 P => ?_, ?_⟩
          · have stl := Stp.refl (W := []) w
            have wl := w
            refine h_callS ?_
            refine h_cons ?_
            refine h_var rfl ?_
            refine h_nil ?_
            refine ⟨B142, u77, x75, w, rfl, r78, Post.mono2 P.bind (fun e151 P => ?_) (fun x145 P => ?_)⟩
            · skip
              exact fun C B' H' g s => P C B' H' g (stl.go s go0)
            refine fun p152 B146 H147 s148 hn153 m154 => ?_
            have n156 := stl.nn hn153
            have ne157 := Mu.ne m_state hn153
            have ne158 := TabK.ne t__law_odds hn153
            replace m_state := m_state.step s148 nm0
            replace t__law_odds := t__law_odds.step s148 nm0
            replace r38 := r38.mono s148.ex
            replace r44 := r44.mono s148.ex
            replace r78 := r78.mono s148.ex
            replace stl := stl.go s148 go0
            replace w := s148.ok
            obtain ⟨B163, e159, k160, g161, r162⟩ := Mu.keep m154
            replace stl := g161 _ _ _ stl wl n156
            replace m_state := m_state.kp e159 k160 ne157
            replace t__law_odds := t__law_odds.kp e159 k160 ne158
            replace r38 := r38.mono e159
            replace r44 := r44.mono e159
            replace r78 := r78.mono e159
            replace w := stl.ok
            replace r162 : Rep K B163 (.ref p152) (enc x145) := r162
            exact P.ok _ _ _ stl r162
          refine (P.bind).mono (fun x164 P => ?_) (fun _ z => z)
          refine fun v168 B165 H166 s167 r169 => ?_
          replace m_state := m_state.step s167 nm0
          replace t__law_odds := t__law_odds.step s167 nm0
          replace r38 := r38.mono s167.ex
          replace r44 := r44.mono s167.ex
          replace r78 := r78.mono s167.ex
          replace st := st.go s167 go0
          replace w := s167.ok
          refine h_tup ?_
          refine h_cons ?_
          refine h_c ?_
          refine h_cons ?_
          refine h_c ?_
          refine h_nil ?_
          refine h_newT w (K := K) (.cons (Rep.str _) (.cons (Rep.bl _) .nil)) (fun p170 B171 H172 s173 r174 => ?_) (by show 2 ≤ sizeLine; decide)
          replace m_state := m_state.step s173 nm0
          replace t__law_odds := t__law_odds.step s173 nm0
          replace r38 := r38.mono s173.ex
          replace r44 := r44.mono s173.ex
          replace r78 := r78.mono s173.ex
          replace r169 := r169.mono s173.ex
          replace st := st.go s173 go0
          replace w := s173.ok
          replace r174 : Rep K B171 (.ref p170) (enc (⟨("number" : Str), false⟩ : (Tp2 Str Bool))) := r174
          obtain ⟨gd, P⟩ := P.guard
          refine h_eqD (d := x164) (e := (enc (⟨("number" : Str), false⟩ : (Tp2 Str Bool)))) w r169 r174 gd ?_
          exact P.ok _ _ _ st m_state t__law_odds (Rep.bl _)
theorem ok_law {f : Addr} {fd : FuncData}  (F : Fun K "law" "law" s_law f fd) {tk_read_number_at : Tok} {P__law_reads : Addr} {P__law_odds : Addr} {f__law_number : Addr} {d__law_number : FuncData} (g__law_number : mg "_law_number" = some (.ref f__law_number)) (k__law_number : PySem.W.keepIn K (.ref f__law_number) = true) (b__law_number : L2.Binds K d__law_number ["_law_state"] []) (G__law_number : FnOk Pr wo K mg base CX0 2 f__law_number d__law_number ["_law_state"] (sp__law_number K)) {f_written : Addr} {d_written : FuncData} (g_written : mg "written" = some (.ref f_written)) (k_written : PySem.W.keepIn K (.ref f_written) = true) (b_written : L2.Binds K d_written ["number"] []) (G_written : FnOk Pr wo K mg base (L2.CX Pr wo) 2 f_written d_written ["number"] (sp_written K mg)) {f__law_bytes : Addr} {d__law_bytes : FuncData} (g__law_bytes : mg "_law_bytes" = some (.ref f__law_bytes)) (k__law_bytes : PySem.W.keepIn K (.ref f__law_bytes) = true) (b__law_bytes : L2.Binds K d__law_bytes ["_law_state", "_law_many"] []) (G__law_bytes : FnOk Pr wo K mg base CX0 2 f__law_bytes d__law_bytes ["_law_state", "_law_many"] (sp__law_bytes K)) {f__law_digit : Addr} {d__law_digit : FuncData} (g__law_digit : mg "_law_digit" = some (.ref f__law_digit)) (k__law_digit : PySem.W.keepIn K (.ref f__law_digit) = true) (b__law_digit : L2.Binds K d__law_digit ["_law_state", "_law_base"] []) (G__law_digit : FnOk Pr wo K mg base CX0 1 f__law_digit d__law_digit ["_law_state", "_law_base"] (sp__law_digit K)) {f__law_figures : Addr} {d__law_figures : FuncData} (g__law_figures : mg "_law_figures" = some (.ref f__law_figures)) (k__law_figures : PySem.W.keepIn K (.ref f__law_figures) = true) (b__law_figures : L2.Binds K d__law_figures ["_law_number_here"] []) (G__law_figures : FnOk Pr wo K mg base CX0 1 f__law_figures d__law_figures ["_law_number_here"] (sp__law_figures K)) {f_read_number : Addr} {d_read_number : FuncData} (g_read_number : mg "read_number" = some (.ref f_read_number)) (k_read_number : PySem.W.keepIn K (.ref f_read_number) = true) (b_read_number : L2.Binds K d_read_number ["row", "at"] []) (G_read_number : FnOk Pr wo K mg base (L2.CX Pr wo) 5 f_read_number d_read_number ["row", "at"] (sp_read_number K mg)) {f__law_odds : Addr} {d__law_odds : FuncData} (g__law_odds : mg "_law_odds" = some (.ref f__law_odds)) (k__law_odds : PySem.W.keepIn K (.ref f__law_odds) = true) (b__law_odds : L2.Binds K d__law_odds ["_law_state", "_law_row"] []) (G__law_odds : FnOk Pr wo K mg base CX0 9 f__law_odds d__law_odds ["_law_state", "_law_row"] (sp__law_odds K P__law_odds)) {f__law_plain : Addr} {d__law_plain : FuncData} (g__law_plain : mg "_law_plain" = some (.ref f__law_plain)) (k__law_plain : PySem.W.keepIn K (.ref f__law_plain) = true) (b__law_plain : L2.Binds K d__law_plain ["_law_row"] []) (G__law_plain : FnOk Pr wo K mg base CX0 1 f__law_plain d__law_plain ["_law_row"] (sp__law_plain K)) {f__law_reads : Addr} {d__law_reads : FuncData} (g__law_reads : mg "_law_reads" = some (.ref f__law_reads)) (k__law_reads : PySem.W.keepIn K (.ref f__law_reads) = true) (b__law_reads : L2.Binds K d__law_reads ["_law_row", "_law_at"] []) (G__law_reads : FnOk Pr wo K mg base CX0 9 f__law_reads d__law_reads ["_law_row", "_law_at"] (sp__law_reads K P__law_reads)) (bI_list : mg "list" = none) (bI_range : mg "range" = none) (bI_len : mg "len" = none) (b_read_number_1 : L2.Binds K d_read_number ["row", "at"] [.int 0 tk_read_number_at]) : FnOk Pr wo K mg base CX0 10 f fd ["_law_script"] (sp_law K P__law_reads P__law_odds) := by
  refine F.ok sc_law (fun vs H Q E h => ?_) (fun cdv A outer s H0 vs Q E hr h => ?_)
  · obtain ⟨_, _, _, _, rfl, _⟩ := h; rfl
  · obtain ⟨B0, v_script, a_script, w, rfl, r_script, t__law_reads, t__law_odds, np, P⟩ := h
    have w0 := w
    have hu := hu_of hr
    have hu64 := hu64_of hr
    have hu65 := hu65_of hr
    have hr1 : Room 1 _ := hr.mono (by decide)
    have hr2 : Room 2 _ := hr.mono (by decide)
    have hr5 : Room 5 _ := hr.mono (by decide)
    have hr9 : Room 9 _ := hr.mono (by decide)
    refine ⟨_, (pss_cons (ps_for PassesOwn.never rfl (pi_list (pe_op (r := rCatQ K) op_catQ (pe_slice (r := rSlQ K) sl_Q (pv 0) po_none (po_some pe_int)) (pe_lst (pa_cons pe_int (pa_cons pe_int pa_nil))))) (pg_name (i := 1) sc_law.nd rfl (by first | exact Or.inl rfl | exact Or.inr rfl)) (pss_cons (ps_set (i := 2) sc_law.nd rfl (by first | exact Or.inl rfl | exact Or.inr rfl) (pe_lst (pa_cons (pv 1) pa_nil)))
      (pss_cons (ps_set (i := 3) sc_law.nd rfl (by first | exact Or.inl rfl | exact Or.inr rfl) (pe_call G__law_number hr2 rfl g__law_number k__law_number b__law_number .nil pass0 (pa_cons (pv 2) pa_nil)))
      (pss_cons (ps_set (i := 4) sc_law.nd rfl (by first | exact Or.inl rfl | exact Or.inr rfl) (pe_call G_written hr2 rfl g_written k_written b_written .nil passL (pa_cons (pv 3) pa_nil)))
      (pss_cons (ps_if (PW.pt (pw_or (pt_not (pt_val (pe_call G__law_plain hr1 rfl g__law_plain k__law_plain b__law_plain .nil pass0 (pa_cons (pv 4) pa_nil)))) (pw_or1 (pt_cmpR (r := rNeD K) (op_neD hu64) (pv 4) (pe_call G__law_figures hr1 rfl g__law_figures k__law_figures b__law_figures .nil pass0 (pa_cons (pv 3) pa_nil)) (nomark _))))) (pss_one (ps_ret pe_bl)) pss_nil)
      (pss_cons (ps_expr (pe_bm PySem.F.plainAttrs_list PySem.F.slot_list_append PySem.F.type_list_append mt_append (pv 4) (pa_cons pe_int pa_nil)))
      (pss_cons (ps_set (i := 5) sc_law.nd rfl (by first | exact Or.inl rfl | exact Or.inr rfl) (pe_call G__law_bytes hr2 rfl g__law_bytes k__law_bytes b__law_bytes .nil pass0 (pa_cons (pv 2) (pa_cons (pe_call G__law_digit hr1 rfl g__law_digit k__law_digit b__law_digit .nil pass0 (pa_cons (pv 2) (pa_cons pe_int pa_nil))) pa_nil))))
      (pss_cons (ps_set (i := 6) sc_law.nd rfl (by first | exact Or.inl rfl | exact Or.inr rfl) (pe_op (r := rCatQ K) op_catQ (pe_op (r := rCatQ K) op_catQ (pv 5) (pe_call G__law_figures hr1 rfl g__law_figures k__law_figures b__law_figures .nil pass0 (pa_cons (pv 3) pa_nil))) (pe_call G__law_bytes hr2 rfl g__law_bytes k__law_bytes b__law_bytes .nil pass0 (pa_cons (pv 2) (pa_cons (pe_call G__law_digit hr1 rfl g__law_digit k__law_digit b__law_digit .nil pass0 (pa_cons (pv 2) (pa_cons pe_int pa_nil))) pa_nil)))))
      (pss_cons (ps_if (pt_cmpR (r := rNeD K) (op_neD hu64) (pe_call G_written hr2 rfl g_written k_written b_written .nil passL (pa_cons (pv 3) pa_nil)) (pe_call G__law_figures hr1 rfl g__law_figures k__law_figures b__law_figures .nil pass0 (pa_cons (pv 3) pa_nil)) (nomark _)) (pss_one (ps_ret pe_bl)) pss_nil)
      (pss_cons (ps_if (pt_cmpR (r := rNeD K) (op_neD hu64) (pe_call G_read_number hr5 rfl g_read_number k_read_number b_read_number_1 (.cons (show L2.RelV (.int 0) (.int 0 tk_read_number_at) from ⟨_, rfl⟩) .nil) passL (pa_cons (pe_call G__law_figures hr1 rfl g__law_figures k__law_figures b__law_figures .nil pass0 (pa_cons (pv 3) pa_nil)) pa_nil)) (pe_tup (pa_cons (pv 3) (pa_cons (pe_op op_sub (pe_callB (r := rLenY K) cr_len (by rfl) bI_len PySem.boot_len (pa_cons (pv 4) pa_nil)) pe_int) pa_nil))) (nomark _)) (pss_one (ps_ret pe_bl)) pss_nil)
      (pss_cons (ps_set (i := 7) sc_law.nd rfl (by first | exact Or.inl rfl | exact Or.inr rfl) (pe_callTy (r := rListY K) cr_list (by rfl) bI_list Y.boot_list (pa_cons (pv 6) pa_nil)))
      (pss_cons (ps_asg (pe_call G__law_digit hr1 rfl g__law_digit k__law_digit b__law_digit .nil pass0 (pa_cons (pv 2) (pa_cons pe_int pa_nil))) (pg_sub (pv 7) (pe_call G__law_digit hr1 rfl g__law_digit k__law_digit b__law_digit .nil pass0 (pa_cons (pv 2) (pa_cons (pe_callB (r := rLenY K) cr_len (by rfl) bI_len PySem.boot_len (pa_cons (pv 6) pa_nil)) pa_nil))) set_list))
      (pss_cons (ps_set (i := 8) sc_law.nd rfl (by first | exact Or.inl rfl | exact Or.inr rfl) (pe_op (r := rCatQ K) op_catQ (pe_op (r := rRepQ K) op_repQ (pe_lst (pa_cons (pe_op op_add pe_int (pe_call G__law_digit hr1 rfl g__law_digit k__law_digit b__law_digit .nil pass0 (pa_cons (pv 2) (pa_cons pe_int pa_nil)))) pa_nil)) (pe_op op_add pe_int (pe_call G__law_digit hr1 rfl g__law_digit k__law_digit b__law_digit .nil pass0 (pa_cons (pv 2) (pa_cons pe_int pa_nil))))) (pe_lst (pa_cons (pe_call G__law_digit hr1 rfl g__law_digit k__law_digit b__law_digit .nil pass0 (pa_cons (pv 2) (pa_cons pe_int pa_nil))) pa_nil))))
      (pss_cons (ps_for PassesOwn.never rfl (pi_list (pe_lst (pa_cons (pv 6) (pa_cons (pv 7) (pa_cons (pv 8) (pa_cons (pe_lst pa_nil) pa_nil)))))) (pg_name (i := 9) sc_law.nd rfl (by first | exact Or.inl rfl | exact Or.inr rfl)) (pss_one (ps_for PassesOwn.never rfl (pi_range1 (by rfl) bI_range (pa_cons (pe_op op_add (pe_callB (r := rLenY K) cr_len (by rfl) bI_len PySem.boot_len (pa_cons (pv 9) pa_nil)) pe_int) pa_nil)) (pg_name (i := 10) sc_law.nd rfl (by first | exact Or.inl rfl | exact Or.inr rfl)) (pss_one (ps_if (PW.pt (pw_and (PW.pt (pw_or (pt_cmpR (r := rNeD K) (op_neD hu64) (pv 9) (pv 8) (nomark _)) (pw_or1 (pt_cmpR op_lt (pv 10) pe_int (nomark _))))) (pw_and1 (pt_not (pt_val (pe_call G__law_reads hr9 rfl g__law_reads k__law_reads b__law_reads .nil pass0 (pa_cons (pv 9) (pa_cons (pv 10) pa_nil)))))))) (pss_one (ps_ret pe_bl)) pss_nil)))))
      (pss_one (ps_if (pt_not (pt_val (pe_call G__law_odds hr9 rfl g__law_odds k__law_odds b__law_odds .nil pass0 (pa_cons (pv 2) (pa_cons (pv 6) pa_nil))))) (pss_one (ps_ret pe_bl)) pss_nil))))))))))))))))
      (pss_one (ps_ret pe_bl))), ?_⟩
    unfold m_law at P
    have st := Stp.refl (W := [P__law_reads, P__law_odds]) w
    refine h_seq ?_
    refine h_forE ?_
    refine h_op ?_
    refine h_sl ?_
    refine h_var rfl ?_
    refine h_nopart ?_
    refine h_part ?_
    refine h_c ?_
    refine h_isI ?_
    obtain ⟨p1, xs2, rfl, hs3, hr4⟩ := Bor.sq (r_script.step st)
    refine h_slQ hs3 ?_
    refine h_nwL w (ds := ((cutL a_script none (some 10))).map enc) (K := K) (hr4.cut none (some 10)) (fun p5 B6 H7 s8 r9 => ?_) 
    replace t__law_reads := t__law_reads.step s8 nm0
    replace t__law_odds := t__law_odds.step s8 nm0
    replace st := st.go s8 go0
    replace w := s8.ok
    replace r9 : Rep K B6 (.ref p5) (enc (cutL a_script none (some 10))) := r9
    refine h_lst ?_
    refine h_cons ?_
    refine h_c ?_
    refine h_cons ?_
    refine h_c ?_
    refine h_nil ?_
    refine h_newL w (ds := (([0, 1] : List Int)).map enc) (K := K) (.cons (Rep.int _) (.cons (Rep.int _) .nil)) (fun p10 B11 H12 s13 r14 => ?_) (by show 2 ≤ sizeLine; decide)
    replace t__law_reads := t__law_reads.step s13 nm0
    replace t__law_odds := t__law_odds.step s13 nm0
    replace r9 := r9.mono s13.ex
    replace st := st.go s13 go0
    replace w := s13.ok
    replace r14 : Rep K B11 (.ref p10) (enc ([0, 1] : List Int)) := r14
    obtain ⟨p15, xs16, hv, hs17, hr18⟩ := Rep.sq w r9
    cases hv
    obtain ⟨p19, xs20, hv, hs21, hr22⟩ := Rep.sq w r14
    cases hv
    obtain ⟨gd, P⟩ := P.guard
    refine h_cat hs17 hs21 (by have g := gd; simp only [hr18.length, hr22.length, List.length_map] at g ⊢; exact Nat.le_trans g (by decide)) ?_
    refine h_nwL w (ds := (((cutL a_script none (some 10)) ++ ([0, 1] : List Int))).map enc) (K := K) (RepL.cat hr18 hr22) (fun p23 B24 H25 s26 r27 => ?_) 
    replace t__law_reads := t__law_reads.step s26 nm0
    replace t__law_odds := t__law_odds.step s26 nm0
    replace st := st.go s26 go0
    replace w := s26.ok
    replace r27 : Rep K B24 (.ref p23) (enc ((cutL a_script none (some 10)) ++ ([0, 1] : List Int))) := r27
    obtain ⟨p28, xs29, hv, hb30, hr31⟩ := Rep.sqB r27
    cases hv
    have wj33 := w
    have sj32 := Stp.refl (W := [P__law_reads, P__law_odds]) w
    refine h_forL P (w.l hb30) hr31 (fun (a : Unit × Unit) σ' H' => ∃ (B' : Hp) (o__law_state : Option V) (o__law_number_here : Option V) (o__law_bytes_told : Option V) (o__law_ahead : Option V) (o__law_row : Option V) (o__law_turned : Option V) (o__law_long : Option V) (o__law_some : Option V) (o__law_at : Option V) (o__law_cell : Option V), Stp [P__law_reads, P__law_odds] B24 H25 B' H' ∧ σ' = [some ((.ref p1)), o__law_cell, o__law_state, o__law_number_here, o__law_bytes_told, o__law_ahead, o__law_row, o__law_turned, o__law_long, o__law_some, o__law_at] ∧ TabK B' H' P__law_reads (qOf "_law_reads") ∧ TabK B' H' P__law_odds (qOf "_law_odds")) ⟨_, _, _, _, _, _, _, _, _, _, _, sj32, rfl, t__law_reads, t__law_odds⟩ (fun _ _ _ j => ?_) ?_ ?_
    · obtain ⟨B43, o46, o47, o48, o49, o50, o51, o52, o53, o54, o55, s45, rfl, t__law_reads, t__law_odds⟩ := j
      exact s45.ok.l (s45.ex.l hb30)
    · rintro N34 T35 x40 v41 a39 _ H44 ⟨B43, o46, o47, o48, o49, o50, o51, o52, o53, o54, o55, s45, rfl, t__law_reads, t__law_odds⟩ r42 kk36 kr37 kb38 P
      replace st := st.go s45 (go2 (.inl (by simp)) (.inl (by simp)))
      replace w := s45.ok
      have sj32 := s45
      replace r42 := r42.mono sj32.ex
      cases r42
      refine h_gname ?_
      refine h_set ?_
      refine h_lst ?_
      refine h_cons ?_
      refine h_var rfl ?_
      refine h_nil ?_
      refine h_newM w (ds := (([x40] : List Int)).map enc) (K := K) (.cons (Rep.int _) .nil) (fun p56 H57 hn60 s58 m59 => ?_) (by show 1 ≤ sizeLine; decide)
      have n61 := st.nn hn60
      have n62 := sj32.nn hn60
      have ne63 := TabK.ne t__law_reads hn60
      have ne64 := TabK.ne t__law_odds hn60
      replace t__law_reads := t__law_reads.step s58 nm0
      replace t__law_odds := t__law_odds.step s58 nm0
      replace st := st.go s58 go0
      replace sj32 := sj32.go s58 go0
      replace w := s58.ok
      refine h_set ?_
      refine h_call ?_
      refine h_cons ?_
      refine h_var rfl ?_
      refine h_nil ?_
      refine ⟨B43, p56, ([x40] : List Int), w, rfl, m59, (P.bind).mono (fun x65 P => ?_) (fun _ z => z)⟩
      refine fun v69 B66 H67 s68 m59 r70 => ?_
      replace t__law_reads := t__law_reads.step s68 (nm1 ne63)
      replace t__law_odds := t__law_odds.step s68 (nm1 ne64)
      replace st := st.go s68 (go1 (.inr n61))
      replace sj32 := sj32.go s68 (go1 (.inr n62))
      replace w := s68.ok
      cases r70
      refine h_set ?_
      refine h_call ?_
      refine h_cons ?_
      refine h_var rfl ?_
      refine h_nil ?_
      refine ⟨B66, .int x65.1, (enc (x65.1 : Int)), w, rfl, (Rep.int _), (P.bind.noErr).mono (fun x71 P => ?_) (fun _ z => z.elim)⟩
      refine fun p77 B72 H73 s74 hn78 m79 => ?_
      have n81 := st.nn hn78
      have n82 := sj32.nn hn78
      have ne83 := TabK.ne t__law_reads hn78
      have ne84 := TabK.ne t__law_odds hn78
      have ne85 := Mu.ne m59 hn78
      replace t__law_reads := t__law_reads.step s74 nm0
      replace t__law_odds := t__law_odds.step s74 nm0
      replace m59 := m59.step s74 nm0
      replace st := st.go s74 go0
      replace sj32 := sj32.go s74 go0
      replace w := s74.ok
      refine h_seq <| h_if ?_
      refine h_tor ?_
      refine h_tnot ?_
      refine h_tB ?_
      refine h_call ?_
      refine h_cons ?_
      refine h_var rfl ?_
      refine h_nil ?_
      have t__law_reads_s86 := t__law_reads
      have t__law_odds_s86 := t__law_odds
      have m59_s86 := m59
      have m79_s86 := m79
      have st_s86 := st
      have sj32_s86 := sj32
      have w_s86 := w
      have ex_s86 := Ex.refl B72
      obtain ⟨B91, e87, k88, g89, r90⟩ := Mu.keep m79
      replace st := g89 _ _ _ st w0 n81
      replace sj32 := g89 _ _ _ sj32 wj33 n82
      replace t__law_reads := t__law_reads.kp e87 k88 ne83
      replace t__law_odds := t__law_odds.kp e87 k88 ne84
      replace m59 := m59.kp e87 k88 ne85
      replace w := st.ok
      replace r90 : Rep K B91 (.ref p77) (enc x71) := r90
      replace ex_s86 := ex_s86.trans e87
      have wj93 := w
      have sj92 := Stp.refl (W := []) w
      refine ⟨B91, (.ref p77), (enc x71), w, rfl, r90, (P.bind).mono (fun x94 P => ?_) (fun _ z => z)⟩
      refine fun v98 B95 H96 s97 r99 => ?_
      replace t__law_reads := t__law_reads.step s97 nm0
      replace t__law_odds := t__law_odds.step s97 nm0
      replace m59 := m59.step s97 nm0
      replace r90 := r90.mono s97.ex
      replace st := st.go s97 go0
      replace sj32 := sj32.go s97 go0
      replace sj92 := sj92.go s97 go0
      replace w := s97.ok
      cases r99
      have sk100 := sj92.back2 ex_s86
      replace st := st_s86.go sk100 go0
      replace sj32 := sj32_s86.go sk100 go0
      replace w := sk100.ok
      have t__law_reads := t__law_reads_s86.step sk100 nm0
      have t__law_odds := t__law_odds_s86.step sk100 nm0
      have m59 := m59_s86.step sk100 nm0
      have m79 := m79_s86.step sk100 nm0
      refine h_bl ?_
      refine h_iteN (fun c1 => ?_) (fun c1 => ?_)
      · replace P := P.iteF c1
        refine h_iteT ?_
        refine h_ret ?_
        refine h_c ?_
        exact (kr37 _ P.ok) _ _ _ st (Rep.bl _)
      · replace P := P.iteT c1
        refine h_test ?_
        refine h_op ?_
        refine h_var rfl ?_
        refine h_call ?_
        refine h_cons ?_
        refine h_var rfl ?_
        refine h_nil ?_
        refine ⟨B72, x65.1, w, rfl, (P.bind).mono (fun x101 P => ?_) (fun _ z => z)⟩
        refine fun p107 B102 H103 s104 hn108 m109 => ?_
        have n111 := st.nn hn108
        have n112 := sj32.nn hn108
        have ne113 := TabK.ne t__law_reads hn108
        have ne114 := TabK.ne t__law_odds hn108
        have ne115 := Mu.ne m59 hn108
        have ne116 := Mu.ne m79 hn108
        replace t__law_reads := t__law_reads.step s104 nm0
        replace t__law_odds := t__law_odds.step s104 nm0
        replace m59 := m59.step s104 nm0
        replace m79 := m79.step s104 nm0
        replace st := st.go s104 go0
        replace sj32 := sj32.go s104 go0
        replace w := s104.ok
        obtain ⟨B121, e117, k118, g119, r120⟩ := Mu.keep m109
        replace st := g119 _ _ _ st w0 n111
        replace sj32 := g119 _ _ _ sj32 wj33 n112
        replace t__law_reads := t__law_reads.kp e117 k118 ne113
        replace t__law_odds := t__law_odds.kp e117 k118 ne114
        replace m59 := m59.kp e117 k118 ne115
        replace m79 := m79.kp e117 k118 ne116
        replace w := st.ok
        replace r120 : Rep K B121 (.ref p107) (enc x101) := r120
        obtain ⟨gd, P⟩ := P.guard
        obtain ⟨xs123, hv, hs124, hr125⟩ := Mu.sq m79
        refine h_neC (d := (enc x71)) (e := (enc x101)) (SqL.cp w hs124 hr125) (Rep.cp w r120) gd ?_
        refine h_bl ?_
        refine h_ite (fun c1 => ?_) (fun c1 => ?_)
        · replace P := P.iteT c1
          refine h_ret ?_
          refine h_c ?_
          exact (kr37 _ P.ok) _ _ _ st (Rep.bl _)
        · replace P := P.iteF c1
          refine h_next ?_
          refine h_nx ?_
          refine h_seq ?_
          refine h_drop ?_
          refine h_bm ?_
          refine h_var rfl ?_
          refine h_bmL m79 ?_
          refine h_cons ?_
          refine h_c ?_
          refine h_nil ?_
          obtain ⟨gd, P⟩ := P.guard
          refine h_append (b := 7) w m79 (Rep.int _) gd (fun H126 s127 m79 => ?_)
          replace t__law_reads := t__law_reads.step s127 (nm1 ne83)
          replace t__law_odds := t__law_odds.step s127 (nm1 ne84)
          replace m59 := m59.step s127 (nm1 ne85)
          replace st := st.go s127 (go1 (.inr n81))
          replace sj32 := sj32.go s127 (go1 (.inr n82))
          replace w := s127.ok
          refine h_nx ?_
          refine h_set ?_
          refine h_call ?_
          refine h_cons ?_
          refine h_var rfl ?_
          refine h_cons ?_
          refine h_call ?_
          refine h_cons ?_
          refine h_var rfl ?_
          refine h_cons ?_
          refine h_c ?_
          refine h_nil ?_
          refine ⟨B121, p56, x65.2, 5, w, rfl, m59, (P.bind).mono (fun x128 P => ?_) (fun _ z => z)⟩
          refine fun v132 B129 H130 s131 m59 r133 => ?_
          replace t__law_reads := t__law_reads.step s131 (nm1 ne63)
          replace t__law_odds := t__law_odds.step s131 (nm1 ne64)
          replace m79 := m79.step s131 (nm1 ne85.symm)
          replace st := st.go s131 (go1 (.inr n61))
          replace sj32 := sj32.go s131 (go1 (.inr n62))
          replace w := s131.ok
          cases r133
          refine h_nil ?_
          refine ⟨B129, p56, x128.2, x128.1, w, rfl, m59, (P.bind).mono (fun x134 P => ?_) (fun _ z => z)⟩
          refine fun v138 B135 H136 s137 m59 r139 => ?_
          replace t__law_reads := t__law_reads.step s137 (nm1 ne63)
          replace t__law_odds := t__law_odds.step s137 (nm1 ne64)
          replace m79 := m79.step s137 (nm1 ne85.symm)
          replace st := st.go s137 (go1 (.inr n61))
          replace sj32 := sj32.go s137 (go1 (.inr n62))
          replace w := s137.ok
          refine h_set ?_
          refine h_op ?_
          refine h_op ?_
          refine h_var rfl ?_
          refine h_call ?_
          refine h_cons ?_
          refine h_var rfl ?_
          refine h_nil ?_
          refine ⟨B135, x65.1, w, rfl, (P.bind).mono (fun x140 P => ?_) (fun _ z => z)⟩
          refine fun p146 B141 H142 s143 hn147 m148 => ?_
          have n150 := st.nn hn147
          have n151 := sj32.nn hn147
          have ne152 := TabK.ne t__law_reads hn147
          have ne153 := TabK.ne t__law_odds hn147
          have ne154 := Mu.ne m59 hn147
          have ne155 := Mu.ne m79 hn147
          replace t__law_reads := t__law_reads.step s143 nm0
          replace t__law_odds := t__law_odds.step s143 nm0
          replace m59 := m59.step s143 nm0
          replace m79 := m79.step s143 nm0
          replace r139 := r139.mono s143.ex
          replace st := st.go s143 go0
          replace sj32 := sj32.go s143 go0
          replace w := s143.ok
          obtain ⟨B160, e156, k157, g158, r159⟩ := Mu.keep m148
          replace st := g158 _ _ _ st w0 n150
          replace sj32 := g158 _ _ _ sj32 wj33 n151
          replace t__law_reads := t__law_reads.kp e156 k157 ne152
          replace t__law_odds := t__law_odds.kp e156 k157 ne153
          replace m59 := m59.kp e156 k157 ne154
          replace m79 := m79.kp e156 k157 ne155
          replace r139 := r139.mono e156
          replace w := st.ok
          replace r159 : Rep K B160 (.ref p146) (enc x140) := r159
          obtain ⟨p161, xs162, rfl, hs163, hr164⟩ := Rep.sq w r139
          obtain ⟨p165, xs166, hv, hs167, hr168⟩ := Rep.sq w r159
          cases hv
          obtain ⟨gd, P⟩ := P.guard
          refine h_cat hs163 hs167 (by have g := gd; simp only [hr164.length, hr168.length, List.length_map] at g ⊢; exact Nat.le_trans g (by decide)) ?_
          refine h_nwL w (ds := ((x134.1 ++ x140)).map enc) (K := K) (RepL.cat hr164 hr168) (fun p169 B170 H171 s172 r173 => ?_) 
          replace t__law_reads := t__law_reads.step s172 nm0
          replace t__law_odds := t__law_odds.step s172 nm0
          replace m59 := m59.step s172 nm0
          replace m79 := m79.step s172 nm0
          replace r139 := r139.mono s172.ex
          replace st := st.go s172 go0
          replace sj32 := sj32.go s172 go0
          replace w := s172.ok
          replace r173 : Rep K B170 (.ref p169) (enc (x134.1 ++ x140)) := r173
          refine h_call ?_
          refine h_cons ?_
          refine h_var rfl ?_
          refine h_cons ?_
          refine h_call ?_
          refine h_cons ?_
          refine h_var rfl ?_
          refine h_cons ?_
          refine h_c ?_
          refine h_nil ?_
          refine ⟨B170, p56, x134.2, 5, w, rfl, m59, (P.bind).mono (fun x174 P => ?_) (fun _ z => z)⟩
          refine fun v178 B175 H176 s177 m59 r179 => ?_
          replace t__law_reads := t__law_reads.step s177 (nm1 ne63)
          replace t__law_odds := t__law_odds.step s177 (nm1 ne64)
          replace m79 := m79.step s177 (nm1 ne85.symm)
          replace r139 := r139.mono s177.ex
          replace r173 := r173.mono s177.ex
          replace st := st.go s177 (go1 (.inr n61))
          replace sj32 := sj32.go s177 (go1 (.inr n62))
          replace w := s177.ok
          cases r179
          refine h_nil ?_
          refine ⟨B175, p56, x174.2, x174.1, w, rfl, m59, (P.bind).mono (fun x180 P => ?_) (fun _ z => z)⟩
          refine fun v184 B181 H182 s183 m59 r185 => ?_
          replace t__law_reads := t__law_reads.step s183 (nm1 ne63)
          replace t__law_odds := t__law_odds.step s183 (nm1 ne64)
          replace m79 := m79.step s183 (nm1 ne85.symm)
          replace r139 := r139.mono s183.ex
          replace r173 := r173.mono s183.ex
          replace st := st.go s183 (go1 (.inr n61))
          replace sj32 := sj32.go s183 (go1 (.inr n62))
          replace w := s183.ok
          obtain ⟨p186, xs187, hv, hs188, hr189⟩ := Rep.sq w r173
          cases hv
          obtain ⟨p190, xs191, rfl, hs192, hr193⟩ := Rep.sq w r185
          obtain ⟨gd, P⟩ := P.guard
          refine h_cat hs188 hs192 (by have g := gd; simp only [hr189.length, hr193.length, List.length_map] at g ⊢; exact Nat.le_trans g (by decide)) ?_
          refine h_nwL w (ds := (((x134.1 ++ x140) ++ x180.1)).map enc) (K := K) (RepL.cat hr189 hr193) (fun p194 B195 H196 s197 r198 => ?_) 
          replace t__law_reads := t__law_reads.step s197 nm0
          replace t__law_odds := t__law_odds.step s197 nm0
          replace m59 := m59.step s197 nm0
          replace m79 := m79.step s197 nm0
          replace r139 := r139.mono s197.ex
          replace st := st.go s197 go0
          replace sj32 := sj32.go s197 go0
          replace w := s197.ok
          replace r198 : Rep K B195 (.ref p194) (enc ((x134.1 ++ x140) ++ x180.1)) := r198
          refine h_seq <| h_if ?_
          refine h_test ?_
          refine h_op ?_
          refine h_call ?_
          refine h_cons ?_
          refine h_var rfl ?_
          refine h_nil ?_
          refine ⟨B195, .int x65.1, (enc (x65.1 : Int)), w, rfl, (Rep.int _), (P.bind.noErr).mono (fun x199 P => ?_) (fun _ z => z.elim)⟩
          refine fun p205 B200 H201 s202 hn206 m207 => ?_
          have n209 := st.nn hn206
          have n210 := sj32.nn hn206
          have ne211 := TabK.ne t__law_reads hn206
          have ne212 := TabK.ne t__law_odds hn206
          have ne213 := Mu.ne m59 hn206
          have ne214 := Mu.ne m79 hn206
          replace t__law_reads := t__law_reads.step s202 nm0
          replace t__law_odds := t__law_odds.step s202 nm0
          replace m59 := m59.step s202 nm0
          replace m79 := m79.step s202 nm0
          replace r139 := r139.mono s202.ex
          replace r198 := r198.mono s202.ex
          replace st := st.go s202 go0
          replace sj32 := sj32.go s202 go0
          replace w := s202.ok
          obtain ⟨B219, e215, k216, g217, r218⟩ := Mu.keep m207
          replace st := g217 _ _ _ st w0 n209
          replace sj32 := g217 _ _ _ sj32 wj33 n210
          replace t__law_reads := t__law_reads.kp e215 k216 ne211
          replace t__law_odds := t__law_odds.kp e215 k216 ne212
          replace m59 := m59.kp e215 k216 ne213
          replace m79 := m79.kp e215 k216 ne214
          replace r139 := r139.mono e215
          replace r198 := r198.mono e215
          replace w := st.ok
          replace r218 : Rep K B219 (.ref p205) (enc x199) := r218
          refine h_call ?_
          refine h_cons ?_
          refine h_var rfl ?_
          refine h_nil ?_
          refine ⟨B219, x65.1, w, rfl, (P.bind).mono (fun x220 P => ?_) (fun _ z => z)⟩
          refine fun p226 B221 H222 s223 hn227 m228 => ?_
          have n230 := st.nn hn227
          have n231 := sj32.nn hn227
          have ne232 := TabK.ne t__law_reads hn227
          have ne233 := TabK.ne t__law_odds hn227
          have ne234 := Mu.ne m59 hn227
          have ne235 := Mu.ne m79 hn227
          replace t__law_reads := t__law_reads.step s223 nm0
          replace t__law_odds := t__law_odds.step s223 nm0
          replace m59 := m59.step s223 nm0
          replace m79 := m79.step s223 nm0
          replace r139 := r139.mono s223.ex
          replace r198 := r198.mono s223.ex
          replace r218 := r218.mono s223.ex
          replace st := st.go s223 go0
          replace sj32 := sj32.go s223 go0
          replace w := s223.ok
          obtain ⟨B240, e236, k237, g238, r239⟩ := Mu.keep m228
          replace st := g238 _ _ _ st w0 n230
          replace sj32 := g238 _ _ _ sj32 wj33 n231
          replace t__law_reads := t__law_reads.kp e236 k237 ne232
          replace t__law_odds := t__law_odds.kp e236 k237 ne233
          replace m59 := m59.kp e236 k237 ne234
          replace m79 := m79.kp e236 k237 ne235
          replace r139 := r139.mono e236
          replace r198 := r198.mono e236
          replace r218 := r218.mono e236
          replace w := st.ok
          replace r239 : Rep K B240 (.ref p226) (enc x220) := r239
          obtain ⟨gd, P⟩ := P.guard
          refine h_neD (d := (enc x199)) (e := (enc x220)) w r218 r239 gd ?_
          refine h_bl ?_
          refine h_ite (fun c1 => ?_) (fun c1 => ?_)
          · replace P := P.iteT c1
            refine h_ret ?_
            refine h_c ?_
            exact (kr37 _ P.ok) _ _ _ st (Rep.bl _)
          · replace P := P.iteF c1
            refine h_next ?_
            refine h_nx ?_
            refine h_seq <| h_if ?_
            refine h_test ?_
            refine h_op ?_
            refine h_call ?_
            refine h_cons ?_
            refine h_call ?_
            refine h_cons ?_
            refine h_var rfl ?_
            refine h_nil ?_
            refine ⟨B240, x65.1, w, rfl, (P.bind).mono (fun x241 P => ?_) (fun _ z => z)⟩
            refine fun p247 B242 H243 s244 hn248 m249 => ?_
            have n251 := st.nn hn248
            have n252 := sj32.nn hn248
            have ne253 := TabK.ne t__law_reads hn248
            have ne254 := TabK.ne t__law_odds hn248
            have ne255 := Mu.ne m59 hn248
            have ne256 := Mu.ne m79 hn248
            replace t__law_reads := t__law_reads.step s244 nm0
            replace t__law_odds := t__law_odds.step s244 nm0
            replace m59 := m59.step s244 nm0
            replace m79 := m79.step s244 nm0
            replace r139 := r139.mono s244.ex
            replace r198 := r198.mono s244.ex
            replace st := st.go s244 go0
            replace sj32 := sj32.go s244 go0
            replace w := s244.ok
            obtain ⟨B261, e257, k258, g259, r260⟩ := Mu.keep m249
            replace st := g259 _ _ _ st w0 n251
            replace sj32 := g259 _ _ _ sj32 wj33 n252
            replace t__law_reads := t__law_reads.kp e257 k258 ne253
            replace t__law_odds := t__law_odds.kp e257 k258 ne254
            replace m59 := m59.kp e257 k258 ne255
            replace m79 := m79.kp e257 k258 ne256
            replace r139 := r139.mono e257
            replace r198 := r198.mono e257
            replace w := st.ok
            replace r260 : Rep K B261 (.ref p247) (enc x241) := r260
            refine h_nil ?_
            refine ⟨B261, (.ref p247), (enc x241), .int 0, (enc ((0 : Int) : Int)), w, rfl, r260, (Rep.int _), (P.bind.noErr).mono (fun x262 P => ?_) (fun _ z => z.elim)⟩
            refine fun v266 B263 H264 s265 r267 => ?_
            replace t__law_reads := t__law_reads.step s265 nm0
            replace t__law_odds := t__law_odds.step s265 nm0
            replace m59 := m59.step s265 nm0
            replace m79 := m79.step s265 nm0
            replace r139 := r139.mono s265.ex
            replace r198 := r198.mono s265.ex
            replace r260 := r260.mono s265.ex
            replace st := st.go s265 go0
            replace sj32 := sj32.go s265 go0
            replace w := s265.ok
            refine h_tup ?_
            refine h_cons ?_
            refine h_var rfl ?_
            refine h_cons ?_
            refine h_op ?_
            refine h_cb ?_
            refine h_cons ?_
            refine h_var rfl ?_
            refine h_nil ?_
            obtain ⟨xs269, hv, hs270, hr271⟩ := Mu.sq m79
            refine h_len hs270 hr271 ?_
            refine h_c ?_
            refine h_I0 ?_
            refine h_nil ?_
            refine h_newT w (K := K) (.cons (Rep.int _) (.cons (Rep.int _) .nil)) (fun p272 B273 H274 s275 r276 => ?_) (by show 2 ≤ sizeLine; decide)
            replace t__law_reads := t__law_reads.step s275 nm0
            replace t__law_odds := t__law_odds.step s275 nm0
            replace m59 := m59.step s275 nm0
            replace m79 := m79.step s275 nm0
            replace r139 := r139.mono s275.ex
            replace r198 := r198.mono s275.ex
            replace r267 := r267.mono s275.ex
            replace st := st.go s275 go0
            replace sj32 := sj32.go s275 go0
            replace w := s275.ok
            replace r276 : Rep K B273 (.ref p272) (enc (⟨x65.1, (((x71 ++ [7]).length : Int) - 1)⟩ : (Tp2 Int Int))) := r276
            obtain ⟨gd, P⟩ := P.guard
            refine h_neD (d := (enc x262)) (e := (enc (⟨x65.1, (((x71 ++ [7]).length : Int) - 1)⟩ : (Tp2 Int Int)))) w r267 r276 gd ?_
            refine h_bl ?_
            refine h_ite (fun c1 => ?_) (fun c1 => ?_)
            · replace P := P.iteT c1
              refine h_ret ?_
              refine h_c ?_
              exact (kr37 _ P.ok) _ _ _ st (Rep.bl _)
            · replace P := P.iteF c1
              refine h_next ?_
              refine h_nx ?_
              refine h_set ?_
              refine h_cb ?_
              refine h_cons ?_
              refine h_var rfl ?_
              refine h_nil ?_
              obtain ⟨p277, xs278, hv, hs279, hr280⟩ := Rep.sq w r198
              cases hv
              refine h_listL hs279 ?_
              refine h_nwM w (ds := (((x134.1 ++ x140) ++ x180.1)).map enc) (K := K) hr280 (fun p281 H282 hn285 s283 m284 => ?_) 
              have n286 := st.nn hn285
              have n287 := sj32.nn hn285
              have ne288 := TabK.ne t__law_reads hn285
              have ne289 := TabK.ne t__law_odds hn285
              have ne290 := Mu.ne m59 hn285
              have ne291 := Mu.ne m79 hn285
              replace t__law_reads := t__law_reads.step s283 nm0
              replace t__law_odds := t__law_odds.step s283 nm0
              replace m59 := m59.step s283 nm0
              replace m79 := m79.step s283 nm0
              replace r139 := r139.mono s283.ex
              replace r198 := r198.mono s283.ex
              replace st := st.go s283 go0
              replace sj32 := sj32.go s283 go0
              replace w := s283.ok
              refine h_seq ?_
              refine h_asg ?_
              refine h_call ?_
              refine h_cons ?_
              refine h_var rfl ?_
              refine h_cons ?_
              refine h_c ?_
              refine h_nil ?_
              refine ⟨B273, p56, x180.2, 256, w, rfl, m59, (P.bind).mono (fun x292 P => ?_) (fun _ z => z)⟩
              refine fun v296 B293 H294 s295 m59 r297 => ?_
              replace t__law_reads := t__law_reads.step s295 (nm1 ne63)
              replace t__law_odds := t__law_odds.step s295 (nm1 ne64)
              replace m79 := m79.step s295 (nm1 ne85.symm)
              replace r139 := r139.mono s295.ex
              replace r198 := r198.mono s295.ex
              replace m284 := m284.step s295 (nm1 ne290.symm)
              replace st := st.go s295 (go1 (.inr n61))
              replace sj32 := sj32.go s295 (go1 (.inr n62))
              replace w := s295.ok
              cases r297
              refine h_sub ?_
              refine h_var rfl ?_
              refine h_call ?_
              refine h_cons ?_
              refine h_var rfl ?_
              refine h_cons ?_
              refine h_cb ?_
              refine h_cons ?_
              refine h_var rfl ?_
              refine h_nil ?_
              obtain ⟨p298, xs299, hv, hs300, hr301⟩ := Rep.sq w r198
              cases hv
              refine h_len hs300 hr301 ?_
              refine h_nil ?_
              refine ⟨B293, p56, x292.2, (((x134.1 ++ x140) ++ x180.1).length : Int), w, rfl, m59, (P.bind).mono (fun x302 P => ?_) (fun _ z => z)⟩
              refine fun v306 B303 H304 s305 m59 r307 => ?_
              replace t__law_reads := t__law_reads.step s305 (nm1 ne63)
              replace t__law_odds := t__law_odds.step s305 (nm1 ne64)
              replace m79 := m79.step s305 (nm1 ne85.symm)
              replace r139 := r139.mono s305.ex
              replace r198 := r198.mono s305.ex
              replace m284 := m284.step s305 (nm1 ne290.symm)
              replace st := st.go s305 (go1 (.inr n61))
              replace sj32 := sj32.go s305 (go1 (.inr n62))
              replace w := s305.ok
              cases r307
              obtain ⟨j309, hj310, P⟩ := P.set
              refine h_setL (b := x292.1) w m284 (Rep.int _) hj310 (fun H311 s312 m284 => ?_)
              replace t__law_reads := t__law_reads.step s312 (nm1 ne288)
              replace t__law_odds := t__law_odds.step s312 (nm1 ne289)
              replace m59 := m59.step s312 (nm1 ne290)
              replace m79 := m79.step s312 (nm1 ne291)
              replace r139 := r139.mono s312.ex
              replace r198 := r198.mono s312.ex
              replace st := st.go s312 (go1 (.inr n286))
              replace sj32 := sj32.go s312 (go1 (.inr n287))
              replace w := s312.ok
              generalize hl : List.set ((x134.1 ++ x140) ++ x180.1) j309 x292.1 = x308 at *
              refine h_nx ?_
              refine h_set ?_
              refine h_op ?_
              refine h_op ?_
              refine h_lst ?_
              refine h_cons ?_
              refine h_op ?_
              refine h_c ?_
              refine h_call ?_
              refine h_cons ?_
              refine h_var rfl ?_
              refine h_cons ?_
              refine h_c ?_
              refine h_nil ?_
              refine ⟨B303, p56, x302.2, 127, w, rfl, m59, (P.bind).mono (fun x313 P => ?_) (fun _ z => z)⟩
              refine fun v317 B314 H315 s316 m59 r318 => ?_
              replace t__law_reads := t__law_reads.step s316 (nm1 ne63)
              replace t__law_odds := t__law_odds.step s316 (nm1 ne64)
              replace m79 := m79.step s316 (nm1 ne85.symm)
              replace r139 := r139.mono s316.ex
              replace r198 := r198.mono s316.ex
              replace m284 := m284.step s316 (nm1 ne290.symm)
              replace st := st.go s316 (go1 (.inr n61))
              replace sj32 := sj32.go s316 (go1 (.inr n62))
              replace w := s316.ok
              cases r318
              refine h_I0 ?_
              refine h_nil ?_
              refine h_newL w (ds := (([(129 + x313.1)] : List Int)).map enc) (K := K) (.cons (Rep.int _) .nil) (fun p319 B320 H321 s322 r323 => ?_) (by show 1 ≤ sizeLine; decide)
              replace t__law_reads := t__law_reads.step s322 nm0
              replace t__law_odds := t__law_odds.step s322 nm0
              replace m59 := m59.step s322 nm0
              replace m79 := m79.step s322 nm0
              replace r139 := r139.mono s322.ex
              replace r198 := r198.mono s322.ex
              replace m284 := m284.step s322 nm0
              replace st := st.go s322 go0
              replace sj32 := sj32.go s322 go0
              replace w := s322.ok
              replace r323 : Rep K B320 (.ref p319) (enc ([(129 + x313.1)] : List Int)) := r323
              refine h_op ?_
              refine h_c ?_
              refine h_call ?_
              refine h_cons ?_
              refine h_var rfl ?_
              refine h_cons ?_
              refine h_c ?_
              refine h_nil ?_
              refine ⟨B320, p56, x313.2, 30, w, rfl, m59, (P.bind).mono (fun x324 P => ?_) (fun _ z => z)⟩
              refine fun v328 B325 H326 s327 m59 r329 => ?_
              replace t__law_reads := t__law_reads.step s327 (nm1 ne63)
              replace t__law_odds := t__law_odds.step s327 (nm1 ne64)
              replace m79 := m79.step s327 (nm1 ne85.symm)
              replace r139 := r139.mono s327.ex
              replace r198 := r198.mono s327.ex
              replace m284 := m284.step s327 (nm1 ne290.symm)
              replace r323 := r323.mono s327.ex
              replace st := st.go s327 (go1 (.inr n61))
              replace sj32 := sj32.go s327 (go1 (.inr n62))
              replace w := s327.ok
              cases r329
              refine h_I0 ?_
              obtain ⟨p330, xs331, hv, hs332, hr333⟩ := Rep.sq w r323
              cases hv
              obtain ⟨gd, P⟩ := P.guard
              refine h_repQ hs332 (hr333.length.trans (List.length_map ..)) gd ?_
              refine h_nwL w (ds := ((timesL ([(129 + x313.1)] : List Int) (20 + x324.1))).map enc) (K := K) (RepL.times hr333 (20 + x324.1)) (fun p334 B335 H336 s337 r338 => ?_) 
              replace t__law_reads := t__law_reads.step s337 nm0
              replace t__law_odds := t__law_odds.step s337 nm0
              replace m59 := m59.step s337 nm0
              replace m79 := m79.step s337 nm0
              replace r139 := r139.mono s337.ex
              replace r198 := r198.mono s337.ex
              replace m284 := m284.step s337 nm0
              replace st := st.go s337 go0
              replace sj32 := sj32.go s337 go0
              replace w := s337.ok
              replace r338 : Rep K B335 (.ref p334) (enc (timesL ([(129 + x313.1)] : List Int) (20 + x324.1))) := r338
              refine h_lst ?_
              refine h_cons ?_
              refine h_call ?_
              refine h_cons ?_
              refine h_var rfl ?_
              refine h_cons ?_
              refine h_c ?_
              refine h_nil ?_
              refine ⟨B335, p56, x324.2, 256, w, rfl, m59, (P.bind).mono (fun x339 P => ?_) (fun _ z => z)⟩
              refine fun v343 B340 H341 s342 m59 r344 => ?_
              replace t__law_reads := t__law_reads.step s342 (nm1 ne63)
              replace t__law_odds := t__law_odds.step s342 (nm1 ne64)
              replace m79 := m79.step s342 (nm1 ne85.symm)
              replace r139 := r139.mono s342.ex
              replace r198 := r198.mono s342.ex
              replace m284 := m284.step s342 (nm1 ne290.symm)
              replace r338 := r338.mono s342.ex
              replace st := st.go s342 (go1 (.inr n61))
              replace sj32 := sj32.go s342 (go1 (.inr n62))
              replace w := s342.ok
              cases r344
              refine h_nil ?_
              refine h_newL w (ds := (([x339.1] : List Int)).map enc) (K := K) (.cons (Rep.int _) .nil) (fun p345 B346 H347 s348 r349 => ?_) (by show 1 ≤ sizeLine; decide)
              replace t__law_reads := t__law_reads.step s348 nm0
              replace t__law_odds := t__law_odds.step s348 nm0
              replace m59 := m59.step s348 nm0
              replace m79 := m79.step s348 nm0
              replace r139 := r139.mono s348.ex
              replace r198 := r198.mono s348.ex
              replace m284 := m284.step s348 nm0
              replace r338 := r338.mono s348.ex
              replace st := st.go s348 go0
              replace sj32 := sj32.go s348 go0
              replace w := s348.ok
              replace r349 : Rep K B346 (.ref p345) (enc ([x339.1] : List Int)) := r349
              obtain ⟨p350, xs351, hv, hs352, hr353⟩ := Rep.sq w r338
              cases hv
              obtain ⟨p354, xs355, hv, hs356, hr357⟩ := Rep.sq w r349
              cases hv
              obtain ⟨gd, P⟩ := P.guard
              refine h_cat hs352 hs356 (by have g := gd; simp only [hr353.length, hr357.length, List.length_map] at g ⊢; exact Nat.le_trans g (by decide)) ?_
              refine h_nwL w (ds := (((timesL ([(129 + x313.1)] : List Int) (20 + x324.1)) ++ ([x339.1] : List Int))).map enc) (K := K) (RepL.cat hr353 hr357) (fun p358 B359 H360 s361 r362 => ?_) 
              replace t__law_reads := t__law_reads.step s361 nm0
              replace t__law_odds := t__law_odds.step s361 nm0
              replace m59 := m59.step s361 nm0
              replace m79 := m79.step s361 nm0
              replace r139 := r139.mono s361.ex
              replace r198 := r198.mono s361.ex
              replace m284 := m284.step s361 nm0
              replace st := st.go s361 go0
              replace sj32 := sj32.go s361 go0
              replace w := s361.ok
              replace r362 : Rep K B359 (.ref p358) (enc ((timesL ([(129 + x313.1)] : List Int) (20 + x324.1)) ++ ([x339.1] : List Int))) := r362
              refine h_seq ?_
              refine h_forE ?_
              refine h_lst ?_
              refine h_cons ?_
              refine h_var rfl ?_
              refine h_cons ?_
              refine h_var rfl ?_
              refine h_cons ?_
              refine h_var rfl ?_
              refine h_cons ?_
              refine h_lst ?_
              refine h_nil ?_
              refine h_newL w (ds := (([] : List Int)).map enc) (K := K) .nil (fun p363 B364 H365 s366 r367 => ?_) (by show 0 ≤ sizeLine; decide)
              replace t__law_reads := t__law_reads.step s366 nm0
              replace t__law_odds := t__law_odds.step s366 nm0
              replace m59 := m59.step s366 nm0
              replace m79 := m79.step s366 nm0
              replace r139 := r139.mono s366.ex
              replace r198 := r198.mono s366.ex
              replace m284 := m284.step s366 nm0
              replace r362 := r362.mono s366.ex
              replace st := st.go s366 go0
              replace sj32 := sj32.go s366 go0
              replace w := s366.ok
              replace r367 : Rep K B364 (.ref p363) (enc ([] : List Int)) := r367
              refine h_nil ?_
              obtain ⟨B372, e368, k369, g370, r371⟩ := Mu.keep m284
              replace st := g370 _ _ _ st w0 n286
              replace sj32 := g370 _ _ _ sj32 wj33 n287
              replace t__law_reads := t__law_reads.kp e368 k369 ne288
              replace t__law_odds := t__law_odds.kp e368 k369 ne289
              replace m59 := m59.kp e368 k369 ne290
              replace m79 := m79.kp e368 k369 ne291
              replace r139 := r139.mono e368
              replace r198 := r198.mono e368
              replace r362 := r362.mono e368
              replace r367 := r367.mono e368
              replace w := st.ok
              replace r371 : Rep K B372 (.ref p281) (enc x308) := r371
              refine h_newL w (ds := (([((x134.1 ++ x140) ++ x180.1), x308, ((timesL ([(129 + x313.1)] : List Int) (20 + x324.1)) ++ ([x339.1] : List Int)), ([] : List Int)] : List (List Int))).map enc) (K := K) (.cons r198 (.cons r371 (.cons r362 (.cons r367 .nil)))) (fun p373 B374 H375 s376 r377 => ?_) (by show 4 ≤ sizeLine; decide)
              replace t__law_reads := t__law_reads.step s376 nm0
              replace t__law_odds := t__law_odds.step s376 nm0
              replace m59 := m59.step s376 nm0
              replace m79 := m79.step s376 nm0
              replace r139 := r139.mono s376.ex
              replace r198 := r198.mono s376.ex
              replace r371 := r371.mono s376.ex
              replace r362 := r362.mono s376.ex
              replace st := st.go s376 go0
              replace sj32 := sj32.go s376 go0
              replace w := s376.ok
              replace r377 : Rep K B374 (.ref p373) (enc ([((x134.1 ++ x140) ++ x180.1), x308, ((timesL ([(129 + x313.1)] : List Int) (20 + x324.1)) ++ ([x339.1] : List Int)), ([] : List Int)] : List (List Int))) := r377
              obtain ⟨p378, xs379, hv, hb380, hr381⟩ := Rep.sqB r377
              cases hv
              have wj383 := w
              have sj382 := Stp.refl (W := [P__law_reads]) w
              refine h_forL P (w.l hb380) hr381 (fun (a : Unit) σ' H' => ∃ (B' : Hp) (o__law_at : Option V) (o__law_some : Option V), Stp [P__law_reads] B374 H375 B' H' ∧ σ' = [some ((.ref p1)), some (.int x40), some ((.ref p56)), some (.int x65.1), some ((.ref p77)), some ((.ref p161)), some ((.ref p194)), some ((.ref p281)), some ((.ref p358)), o__law_some, o__law_at] ∧ TabK B' H' P__law_reads (qOf "_law_reads")) ⟨_, _, _, sj382, rfl, t__law_reads⟩ (fun _ _ _ j => ?_) ?_ ?_
              · obtain ⟨B393, o396, o397, s395, rfl, t__law_reads⟩ := j
                exact s395.ok.l (s395.ex.l hb380)
              · rintro N384 T385 x390 v391 a389 _ H394 ⟨B393, o396, o397, s395, rfl, t__law_reads⟩ r392 kk386 kr387 kb388 P
                replace t__law_odds := t__law_odds.step s395 (nm1 np.symm)
                replace m59 := m59.step s395 (nm1 ne63.symm)
                replace m79 := m79.step s395 (nm1 ne83.symm)
                replace r139 := r139.mono s395.ex
                replace r198 := r198.mono s395.ex
                replace r371 := r371.mono s395.ex
                replace r362 := r362.mono s395.ex
                replace st := st.go s395 (go1 (.inl (by simp)))
                replace sj32 := sj32.go s395 (go1 (.inl (by simp)))
                replace w := s395.ok
                have sj382 := s395
                replace r392 := r392.mono sj382.ex
                refine h_gname ?_
                refine h_rng1 ?_
                refine h_cons ?_
                refine h_op ?_
                refine h_cb ?_
                refine h_cons ?_
                refine h_var rfl ?_
                refine h_nil ?_
                obtain ⟨p398, xs399, rfl, hs400, hr401⟩ := Rep.sq w r392
                refine h_len hs400 hr401 ?_
                refine h_c ?_
                refine h_I0 ?_
                refine h_nil ?_
                obtain ⟨gz402, P⟩ := P.guard
                have wj404 := w
                have sj403 := Stp.refl (W := [P__law_reads]) w
                refine h_forR1 P gz402 (fun (a : Unit) σ' H' => ∃ (B' : Hp) (o__law_at : Option V), Stp [P__law_reads] B393 H394 B' H' ∧ σ' = [some ((.ref p1)), some (.int x40), some ((.ref p56)), some (.int x65.1), some ((.ref p77)), some ((.ref p161)), some ((.ref p194)), some ((.ref p281)), some ((.ref p358)), some ((.ref p398)), o__law_at] ∧ TabK B' H' P__law_reads (qOf "_law_reads")) ⟨_, _, sj403, rfl, t__law_reads⟩ ?_ ?_
                · rintro N405 T406 x411 a410 _ H415 ⟨B414, o417, s416, rfl, t__law_reads⟩ hlox411 hhix411 kk407 kr408 kb409 P
                  replace t__law_odds := t__law_odds.step s416 (nm1 np.symm)
                  replace m59 := m59.step s416 (nm1 ne63.symm)
                  replace m79 := m79.step s416 (nm1 ne83.symm)
                  replace r139 := r139.mono s416.ex
                  replace r198 := r198.mono s416.ex
                  replace r371 := r371.mono s416.ex
                  replace r362 := r362.mono s416.ex
                  replace r392 := r392.mono s416.ex
                  replace st := st.go s416 (go1 (.inl (by simp)))
                  replace sj32 := sj32.go s416 (go1 (.inl (by simp)))
                  replace sj382 := sj382.go s416 (go1 (.inl (by simp)))
                  replace w := s416.ok
                  have sj403 := s416
                  refine h_gname ?_
                  refine h_if ?_
                  refine h_tand ?_
                  refine h_tor ?_
                  refine h_test ?_
                  refine h_op ?_
                  refine h_var rfl ?_
                  refine h_var rfl ?_
                  obtain ⟨gd, P⟩ := P.guard
                  refine h_neD (d := (enc x390)) (e := (enc ((timesL ([(129 + x313.1)] : List Int) (20 + x324.1)) ++ ([x339.1] : List Int)))) w r392 r362 gd ?_
                  refine h_bl ?_
                  refine h_ite (fun c1 => ?_) (fun c1 => ?_)
                  · replace P := P.iteT c1
                    refine h_iteT ?_
                    refine h_tnot ?_
                    refine h_tB ?_
                    refine h_call ?_
                    refine h_cons ?_
                    refine h_var rfl ?_
                    refine h_cons ?_
                    refine h_var rfl ?_
                    refine h_nil ?_
                    refine ⟨B414, (.ref p398), x390, x411, w, rfl, r392, t__law_reads, (P.bind).mono (fun x418 P => ?_) (fun _ z => z)⟩
                    refine fun v422 B419 H420 s421 t__law_reads r423 => ?_
                    replace t__law_odds := t__law_odds.step s421 (nm1 np.symm)
                    replace m59 := m59.step s421 (nm1 ne63.symm)
                    replace m79 := m79.step s421 (nm1 ne83.symm)
                    replace r139 := r139.mono s421.ex
                    replace r198 := r198.mono s421.ex
                    replace r371 := r371.mono s421.ex
                    replace r362 := r362.mono s421.ex
                    replace r392 := r392.mono s421.ex
                    replace st := st.go s421 (go1 (.inl (by simp)))
                    replace sj32 := sj32.go s421 (go1 (.inl (by simp)))
                    replace sj382 := sj382.go s421 (go1 (.inl (by simp)))
                    replace sj403 := sj403.go s421 (go1 (.inl (by simp)))
                    replace w := s421.ok
                    cases r423
                    refine h_bl ?_
                    refine h_iteN (fun c1 => ?_) (fun c1 => ?_)
                    · replace P := P.iteF c1
                      refine h_ret ?_
                      refine h_c ?_
                      exact (kr37 _ (kr387 _ (kr408 _ P.ok))) _ _ _ st (Rep.bl _)
                    · replace P := P.iteT c1
                      refine h_next ?_
                      refine h_nx ?_
                      exact kk407 a410 _ _ ⟨_, _, sj403, rfl, t__law_reads⟩ P.ok
                  · replace P := P.iteF c1
                    refine h_test ?_
                    refine h_op ?_
                    refine h_var rfl ?_
                    refine h_c ?_
                    refine h_I0 ?_
                    refine h_bl ?_
                    refine h_ite (fun c1 => ?_) (fun c1 => ?_)
                    · replace P := P.iteT c1
                      refine h_tnot ?_
                      refine h_tB ?_
                      refine h_call ?_
                      refine h_cons ?_
                      refine h_var rfl ?_
                      refine h_cons ?_
                      refine h_var rfl ?_
                      refine h_nil ?_
                      refine ⟨B414, (.ref p398), x390, x411, w, rfl, r392, t__law_reads, (P.bind).mono (fun x424 P => ?_) (fun _ z => z)⟩
                      refine fun v428 B425 H426 s427 t__law_reads r429 => ?_
                      replace t__law_odds := t__law_odds.step s427 (nm1 np.symm)
                      replace m59 := m59.step s427 (nm1 ne63.symm)
                      replace m79 := m79.step s427 (nm1 ne83.symm)
                      replace r139 := r139.mono s427.ex
                      replace r198 := r198.mono s427.ex
                      replace r371 := r371.mono s427.ex
                      replace r362 := r362.mono s427.ex
                      replace r392 := r392.mono s427.ex
                      replace st := st.go s427 (go1 (.inl (by simp)))
                      replace sj32 := sj32.go s427 (go1 (.inl (by simp)))
                      replace sj382 := sj382.go s427 (go1 (.inl (by simp)))
                      replace sj403 := sj403.go s427 (go1 (.inl (by simp)))
                      replace w := s427.ok
                      cases r429
                      refine h_bl ?_
                      refine h_iteN (fun c1 => ?_) (fun c1 => ?_)
                      · replace P := P.iteF c1
                        refine h_ret ?_
                        refine h_c ?_
                        exact (kr37 _ (kr387 _ (kr408 _ P.ok))) _ _ _ st (Rep.bl _)
                      · replace P := P.iteT c1
                        refine h_next ?_
                        refine h_nx ?_
                        exact kk407 a410 _ _ ⟨_, _, sj403, rfl, t__law_reads⟩ P.ok
                    · replace P := P.iteF c1
                      refine h_iteF ?_
                      refine h_next ?_
                      refine h_nx ?_
                      exact kk407 a410 _ _ ⟨_, _, sj403, rfl, t__law_reads⟩ P.ok
                · rintro a430 _ H432 ⟨B431, o434, s433, rfl, t__law_reads⟩ P
                  replace t__law_odds := t__law_odds.step s433 (nm1 np.symm)
                  replace m59 := m59.step s433 (nm1 ne63.symm)
                  replace m79 := m79.step s433 (nm1 ne83.symm)
                  replace r139 := r139.mono s433.ex
                  replace r198 := r198.mono s433.ex
                  replace r371 := r371.mono s433.ex
                  replace r362 := r362.mono s433.ex
                  replace r392 := r392.mono s433.ex
                  replace st := st.go s433 (go1 (.inl (by simp)))
                  replace sj32 := sj32.go s433 (go1 (.inl (by simp)))
                  replace sj382 := sj382.go s433 (go1 (.inl (by simp)))
                  replace w := s433.ok
                  refine h_nx ?_
                  exact kk386 a430 _ _ ⟨_, _, _, sj382, rfl, t__law_reads⟩ P.ok
              · rintro a435 _ H437 ⟨B436, o439, o440, s438, rfl, t__law_reads⟩ P
                replace t__law_odds := t__law_odds.step s438 (nm1 np.symm)
                replace m59 := m59.step s438 (nm1 ne63.symm)
                replace m79 := m79.step s438 (nm1 ne83.symm)
                replace r139 := r139.mono s438.ex
                replace r198 := r198.mono s438.ex
                replace r371 := r371.mono s438.ex
                replace r362 := r362.mono s438.ex
                replace st := st.go s438 (go1 (.inl (by simp)))
                replace sj32 := sj32.go s438 (go1 (.inl (by simp)))
                replace w := s438.ok
                refine h_nx ?_
                refine h_if ?_
                refine h_tnot ?_
                refine h_tB ?_
                refine h_call ?_
                refine h_cons ?_
                refine h_var rfl ?_
                refine h_cons ?_
                refine h_var rfl ?_
                refine h_nil ?_
                refine ⟨B436, p56, x339.2, (.ref p194), ((x134.1 ++ x140) ++ x180.1), w, rfl, m59, r198, t__law_odds, (P.bind).mono (fun x441 P => ?_) (fun _ z => z)⟩
                refine fun v445 B442 H443 s444 m59 t__law_odds r446 => ?_
                replace t__law_reads := t__law_reads.step s444 (nm2 ne63 np)
                replace m79 := m79.step s444 (nm2 ne85.symm ne84.symm)
                replace r139 := r139.mono s444.ex
                replace r198 := r198.mono s444.ex
                replace r371 := r371.mono s444.ex
                replace r362 := r362.mono s444.ex
                replace st := st.go s444 (go2 (.inr n61) (.inl (by simp)))
                replace sj32 := sj32.go s444 (go2 (.inr n62) (.inl (by simp)))
                replace w := s444.ok
                cases r446
                refine h_bl ?_
                refine h_iteN (fun c1 => ?_) (fun c1 => ?_)
                · replace P := P.iteF c1
                  refine h_ret ?_
                  refine h_c ?_
                  exact (kr37 _ P.ok) _ _ _ st (Rep.bl _)
                · replace P := P.iteT c1
                  refine h_next ?_
                  refine h_nx ?_
                  exact kk36 (a435, a39.2) _ _ ⟨_, _, _, _, _, _, _, _, _, _, _, sj32, rfl, t__law_reads, t__law_odds⟩ P.ok
    · rintro a447 _ H449 ⟨B448, o451, o452, o453, o454, o455, o456, o457, o458, o459, o460, s450, rfl, t__law_reads, t__law_odds⟩ P
      replace st := st.go s450 (go2 (.inl (by simp)) (.inl (by simp)))
      replace w := s450.ok
      refine h_nx ?_
      refine h_ret ?_
      refine h_c ?_
      exact P.ok _ _ _ st (Rep.bl _)
end
end A
set_option Elab.async false
set_option linter.all false
set_option maxRecDepth 100000
set_option maxHeartbeats 2000000
namespace Y
open PySem PySem.Spec PyProof.Rows L2
open Enc (enc)
/-! # plain mathematics over mirrors -/
/-- m gives a value, and φ of it -/
def Ok {α : Type} (m : Res α) (φ : α → Prop) : Prop := ∃ a, m = .ok a ∧ φ a
section
variable {α β : Type} {m : Res α} {φ φ' : α → Prop} {k : α → Res β} {ψ : β → Prop} {a : α} {c : Bool} {i : Int} {l : List α}
theorem Ok.pure (h : φ a) : Ok (.ok a) φ := ⟨a, rfl, h⟩
theorem Ok.bind (h : Ok m φ) (hk : ∀ a, φ a → Ok (k a) ψ) : Ok (m.bind k) ψ := by
  obtain ⟨a, e, p⟩ := h
  rw [e]
  exact hk a p
theorem Ok.bindE (e : m = .ok a) (h : Ok (k a) ψ) : Ok (m.bind k) ψ := by rw [e]; exact h
theorem Ok.mono (h : Ok m φ) (hk : ∀ a, φ a → φ' a) : Ok m φ' := by
  obtain ⟨a, e, p⟩ := h
  exact ⟨a, e, hk a p⟩
theorem Ok.ite {m m' : Res α} (h1 : c = true → Ok m φ) (h2 : c = false → Ok m' φ) : Ok (if c = true then m else m') φ := by
  cases c
  · rw [if_neg Bool.false_ne_true]; exact h2 rfl
  · rw [if_pos rfl]; exact h1 rfl
theorem Ok.iteT {m m' : Res α} (hc : c = true) (h : Ok m φ) : Ok (if c = true then m else m') φ := by
  rw [if_pos hc]; exact h
theorem Ok.iteF {m m' : Res α} (hc : c = false) (h : Ok m' φ) : Ok (if c = true then m else m') φ := by
  rw [hc, if_neg Bool.false_ne_true]; exact h
theorem Ok.guard {p : Prop} [Decidable p] (hp : p) (h : Ok m φ) : Ok (guardR p m) φ := by
  unfold guardR; rw [if_pos hp]; exact h
theorem Ok.lt {d : α} (h : Ok (k d) ψ) : Ok (Y.lt d k) ψ := h
theorem Ok.noErr (h : Ok m φ) : Ok m.noErr φ := by
  obtain ⟨a, e, p⟩ := h
  exact ⟨a, by rw [e]; rfl, p⟩
theorem atI_in (h0 : 0 ≤ i) (h1 : i < (l.length : Int)) : ∃ x, atI l i = some x ∧ l[i.toNat]? = some x ∧ x ∈ l := by
  have h2 : i.toNat < l.length := by omega
  have e : ixN l.length i = some i.toNat := by unfold ixN; rw [if_pos h0, if_pos h1]
  refine ⟨l[i.toNat], ?_, List.getElem?_eq_getElem h2, List.getElem_mem h2⟩
  unfold atI
  rw [e]
  exact List.getElem?_eq_getElem h2
theorem Ok.ix (h0 : 0 ≤ i) (h1 : i < (l.length : Int)) (h : ∀ x, x ∈ l → l[i.toNat]? = some x → Ok (k x) ψ) : Ok ((ixR l i).bind k) ψ := by
  obtain ⟨x, e, e2, m⟩ := atI_in h0 h1
  unfold ixR
  rw [e]
  exact h x m e2
theorem Ok.ixs {x : α} (e : ixR l i = .ok x) (h : Ok (k x) ψ) : Ok ((ixR l i).bind k) ψ := by rw [e]; exact h
/-- an item of a written list -/
theorem Ok.ixm (h0 : 0 ≤ i) (h1 : i < (l.length : Int)) (h : ∀ x, x ∈ l → Ok (k x) ψ) : Ok ((ixR l i).bind k) ψ := Ok.ix h0 h1 fun x m _ => h x m
/-- a loop that keeps I and ends by itself -/
theorem Ok.for {S R : Type} {f : α → S → Res (Fl S R)} (I : S → Prop) (hf : ∀ x s, x ∈ l → I s → Ok (f x s) fun r => ∃ s', r = .nx s' ∧ I s') : ∀ {s : S}, I s → Ok (forR l s f) fun r => ∃ s', r = .nx s' ∧ I s' := by
  induction l with
  | nil => intro s h; exact ⟨_, rfl, s, rfl, h⟩
  | cons x xs ih =>
    intro s h
    refine Ok.bind (hf x s List.mem_cons_self h) ?_
    rintro r ⟨s', rfl, h'⟩
    exact ih (fun y s m h => hf y s (List.mem_cons_of_mem _ m) h) h'
/-- a comprehension: each turn gives a good thing and keeps I -/
theorem Ok.compL {S R : Type} {f : α → S → Res (Option R × S)} (I : S → Prop) (G : R → Prop) (hf : ∀ x s, x ∈ l → I s → Ok (f x s) fun r => I r.2 ∧ ∀ b, r.1 = some b → G b) : ∀ {s : S}, I s → Ok (compL l s f) fun r => I r.2 ∧ ∀ b ∈ r.1, G b := by
  induction l with
  | nil => intro s h; exact ⟨_, rfl, h, fun _ m => nomatch m⟩
  | cons x xs ih =>
    intro s h
    refine Ok.bind (hf x s List.mem_cons_self h) ?_
    rintro ⟨o, s'⟩ ⟨h', g⟩
    refine Ok.bind (ih (fun y s m h => hf y s (List.mem_cons_of_mem _ m) h) h') ?_
    rintro ⟨bs, s2⟩ ⟨h2, g2⟩
    refine ⟨_, rfl, h2, fun b m => ?_⟩
    cases o with
    | none => exact g2 b m
    | some b0 =>
      rcases List.mem_cons.mp m with e | m
      · rw [e]; exact g b0 rfl
      · exact g2 b m
theorem Ok.comp {S R : Type} {f : α → S → Res (Option R × S)} {s : S} (hl : l.length ≤ 1000000) (I : S → Prop) (G : R → Prop) (hf : ∀ x s, x ∈ l → I s → Ok (f x s) fun r => I r.2 ∧ ∀ b, r.1 = some b → G b) (h : I s) : Ok (compR l s f) fun r => I r.2 ∧ ∀ b ∈ r.1, G b := Ok.guard hl (Ok.compL I G hf h)
/-- .. and no more things than turns -/
theorem Ok.compLen {S R : Type} {f : α → S → Res (Option R × S)} {s : S} (hl : l.length ≤ 1000000) (I : S → Prop) (G : R → Prop) (hf : ∀ x s, x ∈ l → I s → Ok (f x s) fun r => I r.2 ∧ ∀ b, r.1 = some b → G b) (h : I s) : Ok (compR l s f) fun r => I r.2 ∧ (∀ b ∈ r.1, G b) ∧ r.1.length ≤ l.length := by
  refine Ok.guard hl ?_
  clear hl
  induction l generalizing s with
  | nil => exact ⟨_, rfl, h, (fun _ m => nomatch m), Nat.le_refl _⟩
  | cons x xs ih =>
    refine Ok.bind (hf x s List.mem_cons_self h) ?_
    rintro ⟨o, s'⟩ ⟨h', g⟩
    refine Ok.bind (ih (fun y s m h => hf y s (List.mem_cons_of_mem _ m) h) h') ?_
    rintro ⟨bs, s2⟩ ⟨h2, g2, g3⟩
    refine ⟨_, rfl, h2, fun b m => ?_, ?_⟩
    · cases o with
      | none => exact g2 b m
      | some b0 =>
        rcases List.mem_cons.mp m with e | m
        · rw [e]; exact g b0 rfl
        · exact g2 b m
    · cases o with
      | none => exact Nat.le_succ_of_le g3
      | some b0 => exact Nat.succ_le_succ g3
end
theorem log2_small {n b : Nat} (h : n < 2 ^ b) (h0 : 0 < b) : n.log2 < b := PySem.Flt.log2_lt_of h0 h
theorem mulW {i j : Int} {a b : Nat} (ha : i.natAbs < 2 ^ a) (hb : j.natAbs < 2 ^ b) (h0 : 0 < a := by decide) (h1 : 0 < b := by decide) (h : a + b ≤ 1000000 := by decide) : CMulW i j := wide_mul ha hb h0 h1 h
theorem divW {i j : Int} {b : Nat} (h : 0 < j) (hb : j.natAbs < 2 ^ b) (h0 : 0 < b := by decide) (h9 : b ≤ 9000 := by decide) : CDivW i j := wide_div h hb h0 h9
theorem cutL_mem {α : Type} {l : List α} {lo hi : Option Int} {x : α} (h : x ∈ cutL l lo hi) : x ∈ l := List.mem_of_mem_drop (List.mem_of_mem_take h)
theorem cutL_len {α : Type} {l : List α} {lo hi : Option Int} : (cutL l lo hi).length ≤ l.length := by
  unfold cutL
  rw [List.length_take, List.length_drop]
  omega
mutual
theorem eqv_refl : ∀ d : D, flatD d = true → PyData.eqv (pyD d) (pyD d) = true
  | .non, _ => rfl
  | .bl b, _ => by show (b == b) = true; simp
  | .int i, _ => by show (i == i) = true; simp
  | .str x, _ => by show (x == x) = true; simp
  | .lst ds, h => eqvs_refl ds h
  | .tup ds, h => eqvs_refl ds h
  | .dic _, h => nomatch h
  | .obj _ _, h => nomatch h
theorem eqvs_refl : ∀ ds : List D, flatDs ds = true → PyData.eqvAll (pyDs ds) (pyDs ds) = true
  | [], _ => rfl
  | d :: ds, h => by
    have h' : (flatD d && flatDs ds) = true := h
    rw [Bool.and_eq_true] at h'
    show (PyData.eqv (pyD d) (pyD d) && PyData.eqvAll (pyDs ds) (pyDs ds)) = true
    rw [eqv_refl d h'.1, eqvs_refl ds h'.2]
    rfl
end
theorem eqD_refl {d : D} (h : flatD d = true) : eqD d d = true := eqv_refl d h
theorem flat_ints : ∀ l : List Int, flatDs (l.map enc) = true
  | [] => rfl
  | i :: l => by show (flatD (.int i) && flatDs (l.map enc)) = true; rw [flat_ints l]; rfl

mutual
/-- data that may be compared: no dict, texts plain, not deep -/
def eqOk (n : Nat) : D → Bool
  | .lst ds => match n with | 0 => false | n + 1 => eqOks n ds
  | .tup ds => match n with | 0 => false | n + 1 => eqOks n ds
  | .dic _ => false
  | .obj _ _ => false
  | .str x => PyData.strOk x
  | _ => true
def eqOks (n : Nat) : List D → Bool
  | [] => true
  | d :: ds => eqOk n d && eqOks n ds
end
mutual
theorem eqOk_flat : ∀ (d : D) (n : Nat), eqOk n d = true → flatD d = true ∧ (pyD d).canLay0 = true ∧ (pyD d).depth ≤ n
  | .non, _, _ => ⟨rfl, rfl, Nat.zero_le _⟩
  | .bl _, _, _ => ⟨rfl, rfl, Nat.zero_le _⟩
  | .int _, _, _ => ⟨rfl, rfl, Nat.zero_le _⟩
  | .str _, _, h => ⟨rfl, h, Nat.zero_le _⟩
  | .lst ds, n + 1, h => let ⟨a, b, c⟩ := eqOks_flat ds n h; ⟨a, b, Nat.succ_le_succ c⟩
  | .tup ds, n + 1, h => let ⟨a, b, c⟩ := eqOks_flat ds n h; ⟨a, b, Nat.succ_le_succ c⟩
  | .lst _, 0, h => nomatch h
  | .tup _, 0, h => nomatch h
  | .dic _, _, h => nomatch h
  | .obj _ _, _, h => nomatch h
theorem eqOks_flat : ∀ (ds : List D) (n : Nat), eqOks n ds = true → flatDs ds = true ∧ PyData.canLayAll0 (pyDs ds) = true ∧ PyData.depthAll (pyDs ds) ≤ n
  | [], _, _ => ⟨rfl, rfl, Nat.zero_le _⟩
  | d :: ds, n, h => by
    have h' : (eqOk n d && eqOks n ds) = true := h
    rw [Bool.and_eq_true] at h'
    obtain ⟨a, b, c⟩ := eqOk_flat d n h'.1
    obtain ⟨a', b', c'⟩ := eqOks_flat ds n h'.2
    refine ⟨?_, ?_, ?_⟩
    · show (flatD d && flatDs ds) = true; rw [a, a']; rfl
    · show (PyData.canLay0 (pyD d) && PyData.canLayAll0 (pyDs ds)) = true; rw [b, b']; rfl
    · exact Nat.max_le.mpr ⟨c, c'⟩
end
theorem okEq_of {d e : D} (h : eqOk 20 d = true) (h' : eqOk 20 e = true) : okEq d e := by
  obtain ⟨a, b, c⟩ := eqOk_flat d 20 h
  obtain ⟨a', b', c'⟩ := eqOk_flat e 20 h'
  refine ⟨a, a', ?_, ?_⟩
  · unfold SeqAt.shaped; rw [b, decide_eq_true (Nat.le_trans c (by decide))]; rfl
  · unfold SeqAt.shaped; rw [b', decide_eq_true (Nat.le_trans c' (by decide))]; rfl
theorem eqOk_ints : ∀ (l : List Int) (n : Nat), eqOks n (l.map enc) = true
  | [], _ => rfl
  | i :: l, n => by show (eqOk n (.int i) && eqOks n (l.map enc)) = true; rw [eqOk_ints l n]; rfl
/-- a comprehension without a state whose turns give values -/
theorem compL_map {α β : Type} {f : α → Unit → Res (Option β × Unit)} {g : α → β} : ∀ {l : List α}, (∀ x ∈ l, f x () = .ok (some (g x), ())) → compL l () f = .ok (l.map g, ())
  | [], _ => rfl
  | x :: xs, h => by
    unfold compL
    rw [h x List.mem_cons_self]
    show ((compL xs () f).bind fun q => .ok (g x :: q.1, q.2)) = _
    rw [compL_map fun y m => h y (List.mem_cons_of_mem _ m)]
    rfl
theorem compR_map {α β : Type} {f : α → Unit → Res (Option β × Unit)} {g : α → β} {l : List α} (hl : l.length ≤ 1000000) (h : ∀ x ∈ l, f x () = .ok (some (g x), ())) : compR l () f = .ok (l.map g, ()) := by
  unfold compR guardR
  rw [if_pos hl, compL_map h]
def smallD (d : D) : Prop := match d with | .lst ds => ds.length ≤ 1000000 | _ => True
end Y

set_option Elab.async false
set_option linter.all false
set_option maxRecDepth 100000
set_option maxHeartbeats 2000000
namespace A
open PySem PySem.Spec PyProof.Rows L2 Y
open Y.Enc (enc)
/-- a state of draws -/
def Gd (st : List Int) : Prop := st.length = 1 ∨ st.length = 3
theorem setR_in {α : Type} {l : List α} {i : Int} {x : α} (h0 : 0 ≤ i) (h1 : i < (l.length : Int)) : setR l i x = .ok (l.set i.toNat x) := by
  unfold setR
  have e : ixN l.length i = some i.toNat := by unfold ixN; rw [if_pos h0, if_pos h1]
  rw [e]
theorem Ok.set {α β : Type} {l : List α} {i : Int} {x : α} {k : List α → Res β} {ψ : β → Prop} (h0 : 0 ≤ i) (h1 : i < (l.length : Int)) (h : ∀ l', l'.length = l.length → Ok (k l') ψ) : Ok ((setR l i x).bind k) ψ := by
  rw [setR_in h0 h1]
  exact h _ (List.length_set ..)
theorem digit_ok {st : List Int} {b : Int} (h : Gd st) (hb : 0 < b) (hb2 : b.natAbs < 2 ^ 4000) : Ok (l_digit st b) fun r => (0 ≤ r.1 ∧ r.1 < b) ∧ r.2.length = 3 := by
  unfold l_digit
  refine Ok.bind (φ := fun l => l.length = 3) (Ok.ite (fun c => ?_) (fun c => ?_)) fun l hl => ?_
  · have e : st.length = 1 := by have := of_decide_eq_true c; omega
    refine Ok.ix (by decide) (by omega) fun x _ _ => Ok.guard (by simp [e]) (Ok.pure (by simp [e]))
  · have e : ¬ (st.length : Int) = 1 := of_decide_eq_false c
    refine Ok.pure ?_
    rcases h with h | h
    · exact absurd (by omega) e
    · exact h
  refine Ok.ix (by decide) (by omega) fun x _ _ => Ok.ite (fun c => ?_) (fun c => ?_)
  · refine Ok.ix (by decide) (by omega) fun y _ _ => Ok.guard hb (Ok.lt (Ok.ix (by decide) (by omega) fun z _ _ => Ok.guard (divW hb hb2) (Ok.set (by decide) (by omega) fun l' e => Ok.pure ⟨⟨Int.emod_nonneg _ (Int.ne_of_gt hb), Int.emod_lt_of_pos _ hb⟩, e.trans hl⟩)))
  · refine Ok.ix (by decide) (by omega) fun y _ _ => Ok.set (by decide) (by omega) fun l' e => Ok.ix (by decide) (by omega) fun z _ _ => Ok.ix (by decide) (by omega) fun u _ _ => Ok.lt ?_
    generalize hn : (((z + 7919 * u) + 1) * 48271) % 2147483647 = n
    have hn1 : 0 ≤ n ∧ n < 2147483647 := by subst hn; exact ⟨Int.emod_nonneg _ (by decide), Int.emod_lt_of_pos _ (by decide)⟩
    refine Ok.guard (mulW (a := 32) (b := 32) (by omega) (by omega)) (Ok.lt ?_)
    generalize hm : (n * (n / 1009 + 69621)) % 2147483647 = m
    have hm1 : 0 ≤ m ∧ m < 2147483647 := by subst hm; exact ⟨Int.emod_nonneg _ (by decide), Int.emod_lt_of_pos _ (by decide)⟩
    refine Ok.guard (mulW (a := 32) (b := 32) (by omega) (by omega)) (Ok.guard hb (Ok.pure ⟨⟨Int.emod_nonneg _ (Int.ne_of_gt hb), Int.emod_lt_of_pos _ hb⟩, e.trans hl⟩))
theorem gd3 {st : List Int} (h : st.length = 3) : Gd st := .inr h
/-- a draw -/
theorem dg {β : Type} {st : List Int} {b : Int} {k : Int × List Int → Res β} {ψ : β → Prop} (h : Gd st) (hb : 0 < b) (hb2 : b.natAbs < 2 ^ 4000) (hk : ∀ x s, 0 ≤ x → x < b → s.length = 3 → Ok (k (x, s)) ψ) : Ok ((l_digit st b).bind k) ψ :=
  Ok.bind (digit_ok h hb hb2) fun r p => hk r.1 r.2 p.1.1 p.1.2 p.2
theorem big {b : Int} {n : Nat} (h : b.natAbs < 2 ^ n) (hn : n ≤ 4000) : b.natAbs < 2 ^ 4000 := Nat.lt_of_lt_of_le h (Nat.pow_le_pow_right (by decide) hn)
theorem bg {b : Int} (h : b.natAbs < 18446744073709551616) : b.natAbs < 2 ^ 4000 := big (n := 64) h (by decide)
end A

set_option Elab.async false
set_option linter.all false
set_option maxRecDepth 100000
set_option maxHeartbeats 2000000
namespace A
open PySem PySem.Spec PyProof.Rows L2 Y
open Y.Enc (enc)
/-! # rows of bytes -/
def isBytes (d : D) : Bool := match d with
  | .lst ds => ds.all fun d => isWhole d 0 255
  | _ => false
theorem is_bytes_ok {d : D} (h : smallD d) : m_is_bytes d = .ok (isBytes d) := by
  unfold m_is_bytes
  cases d with
  | lst ds =>
    rw [if_pos (show isA "list" (.lst ds) = true from (by decide +kernel : isS "list" "list" = true))]
    show ((compR ds () _).bind _) = _
    rw [compR_map (g := fun x => isWhole x 0 255) h (fun x _ => rfl)]
    show Res.ok ((ds.map fun x => isWhole x 0 255).all id) = _
    rw [List.all_map]
    rfl
  | _ => rfl
theorem small_ints {l : List Int} (h : l.length ≤ 1000000) : smallD (enc l) := by show (l.map enc).length ≤ 1000000; rw [List.length_map]; exact h
def Byt (i : Int) : Prop := 0 ≤ i ∧ i ≤ 255
theorem bytes_ints {l : List Int} (h : ∀ b ∈ l, Byt b) : isBytes (enc l) = true := by
  show (l.map enc).all (fun d => isWhole d 0 255) = true
  rw [List.all_map, List.all_eq_true]
  intro b m
  obtain ⟨h0, h1⟩ := h b m
  show (decide (0 ≤ b) && decide (b ≤ 255)) = true
  rw [decide_eq_true h0, decide_eq_true h1]; rfl
theorem bytes_three {a b : List Int} {x : D} (ha : ∀ i ∈ a, Byt i) (hb : ∀ i ∈ b, Byt i) : isBytes (enc (((a.map enc : List D) ++ ([x] : List D)) ++ (b.map enc : List D))) = isWhole x 0 255 := by
  have e1 : ∀ {l : List Int}, (∀ i ∈ l, Byt i) → (l.map enc : List D).all (fun d => isWhole d 0 255) = true := fun {l} h => bytes_ints h
  show (List.map (fun d : D => d) (((a.map enc : List D) ++ [x]) ++ (b.map enc : List D))).all (fun d => isWhole d 0 255) = _
  rw [List.map_id', List.all_append, List.all_append, e1 ha, e1 hb]
  simp
theorem eqOk_row (l : List Int) : eqOk 20 (enc l) = true := eqOk_ints l 19
theorem ok_rows (l m : List Int) : okEq (enc l) (enc m) := okEq_of (eqOk_row l) (eqOk_row m)
theorem eqs_int : ∀ (l m : List Int), PyData.eqvAll (pyDs (l.map enc)) (pyDs (m.map enc)) = decide (l = m)
  | [], [] => rfl
  | [], _ :: _ => rfl
  | _ :: _, [] => rfl
  | x :: l, y :: m => by
    show (decide (x = y) && PyData.eqvAll (pyDs (l.map enc)) (pyDs (m.map enc))) = _
    rw [eqs_int l m, ← Bool.decide_and]
    exact decide_eq_decide.mpr ⟨fun h => by rw [h.1, h.2], fun h => by cases h; exact ⟨rfl, rfl⟩⟩
/-- rows are compared thing by thing -/
theorem eq_rows (l m : List Int) : eqD (enc l) (enc m) = decide (l = m) := eqs_int l m
theorem eq_row (l : List Int) : eqD (enc l) (enc l) = true := by rw [eq_rows]; simp
theorem sure_row {l : List Int} (hl : l.length ≤ 1000000) (h : ∀ b ∈ l, Byt b) : m_sure_row (enc l) = .ok () := by
  unfold m_sure_row
  rw [is_bytes_ok (small_ints hl), bytes_ints h]
  rfl
theorem no_row {d : D} (hd : smallD d) (h : isBytes d = false) : m_sure_row d = .err ⟨"NoBytes", []⟩ := by
  unfold m_sure_row
  rw [is_bytes_ok hd, h]
  rfl
theorem rngI_len' (n : Int) : (rngI 0 n).length = n.toNat := by unfold rngI; simp
theorem bytes_l {st : List Int} {n : Int} (h : Gd st) (hn : 0 ≤ n) (hn2 : n ≤ 100000) : Ok (l_bytes st n) fun r => (∀ b ∈ r.1, Byt b) ∧ r.1.length = n.toNat ∧ r.2.length = 3 := by
  unfold l_bytes
  refine dg h (by decide) (bg (by decide)) fun x1 s1 a1 b1 h1 => Ok.guard (by omega) ?_
  suffices q : Ok (forR (rngI 0 n) ((s1, ([] : List Int)) : List Int × List Int) (fun x23 (a22 : (List Int) × (List Int)) => (l_digit a22.1 256).bind fun x31 => (ixR ([0, 0, 1, 2, 255, x31.1] : List Int) (x31.1 % 6)).bind fun x46 => (ixR ([x31.1, (x31.1 % 3), x46] : List Int) x1).bind fun x59 => guardR (a22.2.length < 1000000) <| (.ok (.nx (x31.2, (a22.2 ++ [x59]))) : Res (Fl (List Int × List Int) (List Int × List Int))))) fun r => ∃ s', r = .nx s' ∧ s'.1.length = 3 ∧ (∀ b ∈ s'.2, Byt b) ∧ s'.2.length = 0 + (rngI 0 n).length by
    refine Ok.bind q ?_
    rintro _ ⟨s', rfl, p1, p2, p3⟩
    exact Ok.pure ⟨p2, by rw [p3, rngI_len']; omega, p1⟩
  have hlen : 0 + (rngI 0 n).length ≤ 100000 := by rw [rngI_len']; omega
  have main : ∀ (xs : List Int) (s : List Int × List Int) (i : Nat), i + xs.length ≤ 100000 → s.1.length = 3 → (∀ b ∈ s.2, Byt b) → s.2.length = i → Ok (forR xs s (fun x23 (a22 : (List Int) × (List Int)) => (l_digit a22.1 256).bind fun x31 => (ixR ([0, 0, 1, 2, 255, x31.1] : List Int) (x31.1 % 6)).bind fun x46 => (ixR ([x31.1, (x31.1 % 3), x46] : List Int) x1).bind fun x59 => guardR (a22.2.length < 1000000) <| (.ok (.nx (x31.2, (a22.2 ++ [x59]))) : Res (Fl (List Int × List Int) (List Int × List Int))))) fun r => ∃ s', r = .nx s' ∧ s'.1.length = 3 ∧ (∀ b ∈ s'.2, Byt b) ∧ s'.2.length = i + xs.length := by
    intro xs
    induction xs with
    | nil => exact fun s i _ p1 p2 p3 => Ok.pure ⟨s, rfl, p1, p2, p3⟩
    | cons x xs ih =>
      rintro ⟨s1, s2⟩ i hi p1 p2 p3
      have hi' : i + (xs.length + 1) ≤ 100000 := hi
      simp only at p1 p2 p3
      refine Ok.bind (φ := fun r => ∃ s', r = .nx s' ∧ s'.1.length = 3 ∧ (∀ b ∈ s'.2, Byt b) ∧ s'.2.length = i + 1) ?_ ?_
      · refine dg (gd3 p1) (by decide) (bg (by decide)) fun y s a b h3 => ?_
        refine Ok.ixm (by show 0 ≤ y % 6; omega) (by show y % 6 < 6; omega) fun z mz => Ok.ixm a1 b1 fun u mu => Ok.guard (by simp only; omega) (Ok.pure ⟨_, rfl, h3, fun v mv => ?_, by rw [List.length_append, p3]; rfl⟩)
        rcases List.mem_append.mp mv with mv | mv
        · exact p2 v mv
        · rw [List.mem_singleton.mp mv]
          simp only [List.mem_cons, List.not_mem_nil, or_false] at mz mu
          unfold Byt
          rcases mu with rfl | rfl | rfl
          · omega
          · omega
          · rcases mz with rfl | rfl | rfl | rfl | rfl | rfl <;> omega
      · rintro _ ⟨s', rfl, q1, q2, q3⟩
        have := ih s' (i + 1) (by omega) q1 q2 q3
        refine this.mono ?_
        rintro r ⟨s2, e, w1, w2, w3⟩
        exact ⟨s2, e, w1, w2, by rw [w3, List.length_cons]; omega⟩
  exact main _ _ 0 hlen h1 (fun _ m => nomatch m) rfl
/-- a thing that is no row of bytes -/
theorem odd_ok {st row : List Int} (h : Gd st) (hl : row.length ≤ 400000) (hr : ∀ b ∈ row, Byt b) : Ok (l_odd_row st row) fun r => (isBytes r.1 = false ∧ smallD r.1) ∧ r.2.length = 3 := by
  unfold l_odd_row
  refine dg h (by decide) (bg (by decide)) fun x1 s1 a1 b1 h1 => Ok.ite (fun _ => ?_) fun _ => ?_
  · refine dg (gd3 h1) (by decide) (bg (by decide)) fun x2 s2 a2 b2 h2 => Ok.ixm a2 b2 fun z m => Ok.pure ⟨?_, h2⟩
    simp only [List.mem_cons, List.not_mem_nil, or_false] at m
    rcases m with rfl | rfl | rfl | rfl | rfl | rfl | rfl <;> exact ⟨rfl, trivial⟩
  · refine dg (gd3 h1) (by decide) (bg (by decide)) fun x2 s2 a2 b2 h2 => Ok.ixm a2 b2 fun z m => ?_
    refine dg (gd3 h2) (by omega) (bg (by omega)) fun x3 s3 a3 b3 h3 => ?_
    have c1 := cutL_len (l := row) (lo := none) (hi := some x3)
    have c2 := cutL_len (l := row) (lo := some x3) (hi := none)
    refine Ok.guard (by simp only [List.length_map, List.length_singleton]; omega) (Ok.guard (by simp only [List.length_append, List.length_map, List.length_singleton]; omega) (Ok.pure ⟨⟨?_, ?_⟩, h3⟩))
    · rw [bytes_three (fun i m => hr i (cutL_mem m)) (fun i m => hr i (cutL_mem m))]
      simp only [List.mem_cons, List.not_mem_nil, or_false] at m
      rcases m with rfl | rfl | rfl | rfl | rfl | rfl | rfl | rfl | rfl | rfl <;> rfl
    · show (List.map enc _).length ≤ 1000000
      simp only [List.length_map, List.length_append, List.length_singleton]; omega
/-- the check of a row -/
def sumB (l : List Int) (n : Int) : Int := l.foldl (fun n b => (n * 257 + b) % 65521) n
theorem sumB_app (l m : List Int) (n : Int) : sumB (l ++ m) n = sumB m (sumB l n) := List.foldl_append
theorem byt_cut {l : List Int} {lo hi : Option Int} (h : ∀ b ∈ l, Byt b) : ∀ b ∈ cutL l lo hi, Byt b := fun b m => h b (cutL_mem m)
theorem byt_app {l m : List Int} (h : ∀ b ∈ l, Byt b) (h' : ∀ b ∈ m, Byt b) : ∀ b ∈ l ++ m, Byt b := fun b q => (List.mem_append.mp q).elim (h b) (h' b)
end A

set_option Elab.async false
set_option linter.all false
set_option maxRecDepth 100000
set_option maxHeartbeats 2000000
namespace A
open PySem PySem.Spec PyProof.Rows L2 Y
open Y.Enc (enc)
/-! # stuffed rows -/
def stL : Int → List Int → List Int
  | _, [] => []
  | n, b :: l => if (if b = 0 then n + 1 else 0) = 2 then b :: 2 :: stL 0 l else b :: stL (if b = 0 then n + 1 else 0) l
theorem st_two {n b : Int} {l : List Int} (h : (if b = 0 then n + 1 else 0) = 2) : stL n (b :: l) = b :: 2 :: stL 0 l := if_pos h
theorem st_one {n b : Int} {l : List Int} (h : (if b = 0 then n + 1 else 0) ≠ 2) : stL n (b :: l) = b :: stL (if b = 0 then n + 1 else 0) l := if_neg h
theorem nx01 {n b : Int} (h : n = 0 ∨ n = 1) (c : (if b = 0 then n + 1 else 0) ≠ 2) : (if b = 0 then n + 1 else 0) = 0 ∨ (if b = 0 then n + 1 else 0) = 1 := by
  by_cases hb : b = 0
  · rw [if_pos hb] at c ⊢
    omega
  · rw [if_neg hb]
    exact .inl rfl
theorem st_len : ∀ (l : List Int) (n : Int), (stL n l).length ≤ 2 * l.length
  | [], _ => Nat.le_refl _
  | b :: l, n => by
    have h := st_len l
    by_cases c : (if b = 0 then n + 1 else 0) = 2
    · rw [st_two c]
      have := h 0
      simp only [List.length_cons]
      omega
    · rw [st_one c]
      have := h (if b = 0 then n + 1 else 0)
      simp only [List.length_cons]
      omega
theorem st_byt : ∀ (l : List Int) (n : Int), (∀ b ∈ l, Byt b) → ∀ b ∈ stL n l, Byt b
  | [], _, _ => fun _ m => nomatch m
  | b :: l, n, h => fun x m => by
    have hb := h b List.mem_cons_self
    have hl := fun y m => h y (List.mem_cons_of_mem b m)
    by_cases c : (if b = 0 then n + 1 else 0) = 2
    · rw [st_two c] at m
      rcases List.mem_cons.mp m with rfl | m
      · exact hb
      · rcases List.mem_cons.mp m with rfl | m
        · exact ⟨by decide, by decide⟩
        · exact st_byt l 0 hl x m
    · rw [st_one c] at m
      rcases List.mem_cons.mp m with rfl | m
      · exact hb
      · exact st_byt l _ hl x m
theorem Ok.forM' {α β S R : Type} {g : β → α} {f : α → S → Res (Fl S R)} (I : List β → S → Prop) (hf : ∀ x xs s, I (x :: xs) s → Ok (f (g x) s) fun r => ∃ s', r = .nx s' ∧ I xs s') : ∀ {l : List β} {s : S}, I l s → Ok (forR (l.map g) s f) fun r => ∃ s', r = .nx s' ∧ I [] s'
  | [], s, h => ⟨_, rfl, s, rfl, h⟩
  | x :: xs, s, h => by
    refine Ok.bind (hf x xs s h) ?_
    rintro r ⟨s', rfl, h'⟩
    exact Ok.forM' I hf h'
def SI (row : List Int) (xs : List Int) (s : Int × List Int) : Prop := (s.1 = 0 ∨ s.1 = 1) ∧ s.2 ++ stL s.1 xs = stL 0 row ∧ s.2.length + 2 * xs.length ≤ 2 * row.length
theorem SI.two {row xs : List Int} {n b : Int} {acc : List Int} (h : SI row (b :: xs) (n, acc)) (c : (if b = 0 then n + 1 else 0) = 2) : SI row xs (0, (acc ++ [b]) ++ [2]) := by
  obtain ⟨h1, h2, h3⟩ := h
  simp only at h1 h2 h3
  rw [st_two c] at h2
  refine ⟨.inl rfl, by rw [← h2]; simp, ?_⟩
  simp only [List.length_append, List.length_cons, List.length_nil] at h3 ⊢
  omega
theorem SI.one {row xs : List Int} {n b : Int} {acc : List Int} (h : SI row (b :: xs) (n, acc)) (c : (if b = 0 then n + 1 else 0) ≠ 2) : SI row xs ((if b = 0 then n + 1 else 0), acc ++ [b]) := by
  obtain ⟨h1, h2, h3⟩ := h
  simp only at h1 h2 h3
  rw [st_one c] at h2
  refine ⟨?_, by rw [← h2]; simp, ?_⟩
  · exact nx01 h1 c
  · simp only [List.length_append, List.length_cons, List.length_nil] at h3 ⊢
    omega
theorem SI.len {row xs : List Int} {n b : Int} {acc : List Int} (h : SI row (b :: xs) (n, acc)) : acc.length + 2 ≤ 2 * row.length := by
  have h3 : acc.length + 2 * (xs.length + 1) ≤ 2 * row.length := h.2.2
  omega
theorem SI.end {row : List Int} {s : Int × List Int} (h : SI row [] s) : s.2 = stL 0 row := by
  have := h.2.1
  rw [show stL s.1 [] = [] from rfl, List.append_nil] at this
  exact this
theorem ok_eq {α : Type} {m : Res α} {a : α} (h : Ok m fun r => r = a) : m = .ok a := by
  obtain ⟨r, e, rfl⟩ := h
  exact e
theorem Ok.whileR {S R : Type} {f : S → Res (Fl S R)} (I : S → Prop) (Q : S → Prop) (Z : R → Prop) (μ : S → Nat) (hf : ∀ s, I s → Ok (f s) fun r => (∃ s', r = .nx s' ∧ I s' ∧ μ s' < μ s) ∨ (∃ s', r = .bk s' ∧ Q s') ∨ ∃ v, r = .rt v ∧ Z v) : ∀ (n : Nat) {s : S}, μ s < n → I s → Ok (Y.whileR n s f) fun r => (∃ s', r = .bk s' ∧ Q s') ∨ ∃ v, r = .rt v ∧ Z v
  | 0, s, h, _ => absurd h (Nat.not_lt_zero _)
  | n + 1, s, h, hI => by
    refine Ok.bind (hf s hI) ?_
    rintro r (⟨s', rfl, h', hm⟩ | ⟨s', rfl, q⟩ | ⟨v, rfl, q⟩)
    · exact Ok.whileR I Q Z μ hf n (by omega) h'
    · exact Ok.pure (.inl ⟨s', rfl, q⟩)
    · exact Ok.pure (.inr ⟨v, rfl, q⟩)
theorem cut2 {l : List Int} {i j : Nat} (h : i + j ≤ 2000000) : cutL l (some (i : Int)) (some ((i + j : Nat) : Int)) = (l.drop i).take j := by
  unfold cutL
  rw [HT.sIx_nat, HT.sIx_nat]
  by_cases c : i ≤ l.length
  · rw [show min i l.length = i by omega]
    rw [List.take_eq_take_iff, List.length_drop]
    omega
  · rw [show min i l.length = l.length by omega, List.drop_of_length_le (Nat.le_refl _), List.drop_of_length_le (by omega)]
    simp
end A

set_option Elab.async false
set_option linter.all false
set_option maxRecDepth 100000
set_option maxHeartbeats 2000000
namespace A
open PySem PySem.Spec PyProof.Rows L2 Y
open Y.Enc (enc)
/-! # contents of a box: bytes with their ends -/
theorem fd_nil {α : Type} {l : List α} {i : Nat} (h : l.length ≤ i) : l.drop i = [] := List.drop_of_length_le h
def nb (n b : Int) : Int := if b = 0 then n + 1 else 0
theorem nb01 {n b : Int} (h : n = 0 ∨ n = 1) (c : nb n b ≠ 2) : nb n b = 0 ∨ nb n b = 1 := nx01 h c
/-- so many bytes are read -/
def uu : Int → Nat → Nat → List Int → Option (List Int × Nat)
  | n, k, at_, [] => if n = 2 ∨ 0 < k then none else some ([], at_)
  | n, k, at_, b :: s => if n = 2 then (if b = 2 then uu 0 k (at_ + 1) s else none) else match k with
    | 0 => some ([], at_)
    | k + 1 => (uu (nb n b) k (at_ + 1) s).map fun x => (b :: x.1, x.2)
theorem nb2 {n b : Int} (h : n = 0 ∨ n = 1) (c : nb n b = 2) : b = 0 := by
  unfold nb at c
  by_cases hb : b = 0
  · exact hb
  · rw [if_neg hb] at c
    exact absurd c (by decide)
theorem whileEq {S R β : Type} {f : S → Res (Fl S R)} {g : S → Res β} {K : Fl S R → Res β} (I : S → Prop) (μ : S → Nat) (hf : ∀ s, I s → (∃ s', f s = .ok (.nx s') ∧ I s' ∧ μ s' < μ s ∧ g s' = g s) ∨ (∃ s', f s = .ok (.bk s') ∧ K (.bk s') = g s) ∨ ∃ v, f s = .ok (.rt v) ∧ K (.rt v) = g s) : ∀ (n : Nat) {s : S}, μ s < n → I s → (Y.whileR n s f).bind K = g s
  | 0, s, h, _ => absurd h (Nat.not_lt_zero _)
  | n + 1, s, h, hI => by
    show (Res.bind (Res.bind (f s) _) K) = _
    rcases hf s hI with ⟨s', e, h', hm, eg⟩ | ⟨s', e, q⟩ | ⟨v, e, q⟩
    · rw [e, ← eg]
      exact whileEq I μ hf n (by omega) h'
    · rw [e]
      exact q
    · rw [e]
      exact q
theorem atR {l : List Int} {i : Nat} {b : Int} {s : List Int} (h : l.drop i = b :: s) : ixR l (i : Int) = .ok b ∧ l.drop (i + 1) = s ∧ i < l.length := by
  have hi : i < l.length := by
    rcases Nat.lt_or_ge i l.length with h' | h'
    · exact h'
    · rw [fd_nil h'] at h; exact nomatch h
  rw [List.drop_eq_getElem_cons hi] at h
  injection h with h1 h2
  refine ⟨?_, h2, hi⟩
  unfold ixR
  obtain ⟨x, e1, e2, _⟩ := atI_in (l := l) (i := (i : Int)) (by omega) (by omega)
  rw [e1]
  rw [show ((i : Int)).toNat = i by omega, List.getElem?_eq_getElem hi, h1] at e2
  cases e2
  rfl
def okU (x : Option (List Int × Nat)) : Option (Tp2 (List Int) Int) := x.map fun x => ⟨x.1, (x.2 : Int)⟩
/-! # the law's reading of all contents -/
theorem cut_last {l : List Int} : cutL l none (some (-1)) = l.dropLast := by
  unfold cutL
  have e : HT.sIx l.length l.length (some (-1)) = l.length - 1 := by
    show (if (-1 : Int) < 0 then ((-1 : Int) + (l.length : Int)).toNat else min (-1 : Int).toNat l.length) = _
    rw [if_pos (by decide)]
    omega
  rw [List.dropLast_eq_take, e]
  rfl
theorem set_last {l : List Int} {a x : Int} : setR (l ++ [a]) (-1) x = .ok (l ++ [x]) := by
  unfold setR ixN
  rw [if_neg (by decide), if_pos (by rw [List.length_append]; show -((l.length + 1 : Nat) : Int) ≤ -1; omega)]
  show Res.ok ((l ++ [a]).set ((-1 : Int) + ((l ++ [a]).length : Nat)).toNat x) = _
  rw [show ((-1 : Int) + ((l ++ [a]).length : Nat)).toNat = l.length by rw [List.length_append]; show ((-1 : Int) + ((l.length + 1 : Nat) : Int)).toNat = _; omega]
  simp
theorem nb_mul {n b : Int} : (n + 1) * b2z (decide (b = 0)) = nb n b := by
  unfold nb
  by_cases hb : b = 0
  · rw [if_pos hb, decide_eq_true hb]; show (n + 1) * 1 = _; omega
  · rw [if_neg hb, decide_eq_false hb]; show (n + 1) * 0 = _; omega
def fsC (C : List (Int × Nat)) : List Int := C.map (·.1)
def snC (C : List (Int × Nat)) : List Int := C.map fun x => (x.2 : Int)
/-! # numbers in bytes -/
abbrev GRT : Int := 1000000000000000000000000000000000000000000000000000000000000
def num : Int → Nat → List Int → Option (Int × Nat)
  | _, _, [] => none
  | acc, k, b :: s => if GRT < acc * 128 + b % 128 then none else if b < 128 then some (acc * 128 + b % 128, k + 1) else num (acc * 128 + b % 128) (k + 1) s
def tpN (x : Option (Int × Nat)) : Option (Tp2 Int Int) := x.map fun x => ⟨x.1, (x.2 : Int)⟩
/-- the number at a place -/
def numb (k : Nat) (s : List Int) : Option (Int × Nat) := if s.head? = some 128 then none else num 0 k s
theorem head_one {s : List Int} : s.take 1 = [128] ↔ s.head? = some 128 := by cases s <;> simp
theorem number_m {row : List Int} {at_ : Nat} (hl : row.length ≤ 900000) (ha : at_ ≤ row.length) : m_number_at row (at_ : Int) = .ok (tpN (numb at_ (row.drop at_))) := by
  unfold m_number_at
  have ec : cutL row (some (at_ : Int)) (some ((at_ : Int) + 1)) = (row.drop at_).take 1 := cut2 (i := at_) (j := 1) (by omega)
  rw [ec]
  unfold guardR
  rw [if_pos (ok_rows _ _), eq_rows]
  unfold numb
  by_cases c : (row.drop at_).head? = some 128
  · rw [if_pos (decide_eq_true (head_one.mpr c)), if_pos c]
    rfl
  · rw [if_neg (by rw [decide_eq_false fun z => c (head_one.mp z)]; decide), if_neg c]
    refine (whileEq (S := Int × Int) (g := fun s => .ok (tpN (num s.1 s.2.toNat (row.drop s.2.toNat)))) (fun s => 0 ≤ s.2 ∧ s.2 ≤ (row.length : Int)) (fun s => row.length - s.2.toNat) ?_ _ (by show row.length - _ < _; omega) ⟨by show (0 : Int) ≤ (at_ : Int); omega, by show (at_ : Int) ≤ _; omega⟩).trans ?_
    · rintro ⟨acc, p⟩ ⟨h0, h1⟩
      simp only at h0 h1
      obtain ⟨i, rfl⟩ : ∃ i : Nat, p = (i : Int) := ⟨p.toNat, by omega⟩
      have hi : (i : Int).toNat = i := by omega
      simp only [hi]
      cases e : row.drop i with
      | nil =>
        have hir : i = row.length := by
          have : (row.drop i).length = 0 := by rw [e]; rfl
          rw [List.length_drop] at this
          omega
        exact .inr (.inl ⟨(acc, (i : Int)), by rw [if_neg (by rw [decide_eq_false (by omega)]; decide)], rfl⟩)
      | cons b s =>
        obtain ⟨e1, e2, e3⟩ := atR e
        have hi1 : ((i : Int) + 1).toNat = i + 1 := by omega
        rw [if_pos (decide_eq_true (by omega)), e1]
        show (∃ s', (if decide (GRT < acc * 128 + b % 128) = true then _ else _) = _ ∧ _) ∨ (∃ s', (if decide (GRT < acc * 128 + b % 128) = true then _ else _) = _ ∧ _) ∨ ∃ v, (if decide (GRT < acc * 128 + b % 128) = true then _ else _) = _ ∧ _
        have en : num acc i (b :: s) = if GRT < acc * 128 + b % 128 then none else if b < 128 then some (acc * 128 + b % 128, i + 1) else num (acc * 128 + b % 128) (i + 1) s := rfl
        rw [en]
        by_cases hg : GRT < acc * 128 + b % 128
        · rw [if_pos (decide_eq_true hg), if_pos hg]
          exact .inr (.inr ⟨_, rfl, rfl⟩)
        · rw [if_neg (by rw [decide_eq_false hg]; decide), if_neg hg, show (i : Int) + 1 - 1 = (i : Int) by omega, e1]
          show (∃ s', (if decide (b < 128) = true then _ else _) = _ ∧ _) ∨ (∃ s', (if decide (b < 128) = true then _ else _) = _ ∧ _) ∨ ∃ v, (if decide (b < 128) = true then _ else _) = _ ∧ _
          by_cases hb : b < 128
          · rw [if_pos (decide_eq_true hb), if_pos hb]
            exact .inr (.inr ⟨_, rfl, rfl⟩)
          · rw [if_neg (by rw [decide_eq_false hb]; decide), if_neg hb]
            exact .inl ⟨(_, (i : Int) + 1), rfl, ⟨by simp only; omega, by simp only; omega⟩, by simp only; omega, by simp only [hi1, e2]⟩
    · show Res.ok (tpN (num 0 (at_ : Int).toNat (row.drop (at_ : Int).toNat))) = _
      rw [show ((at_ : Int)).toNat = at_ by omega]
theorem rngI_cons {i j : Int} (h : i < j) : rngI i j = i :: rngI (i + 1) j := by
  unfold rngI
  rw [show (j - i).toNat = (j - (i + 1)).toNat + 1 by omega, List.range_succ_eq_map, List.map_cons, List.map_map]
  refine congr (congrArg _ (by omega)) (List.map_congr_left fun x _ => ?_)
  show i + ((x + 1 : Nat) : Int) = i + 1 + (x : Int)
  omega
theorem rngI_nil {i j : Int} (h : j ≤ i) : rngI i j = [] := by
  unfold rngI
  rw [show (j - i).toNat = 0 by omega]
  rfl
theorem number_l {row : List Int} {at_ : Nat} (hl : row.length ≤ 900000) : l_number_at row (at_ : Int) = .ok (tpN (numb at_ (row.drop at_))) := by
  unfold l_number_at
  by_cases hz : (row.length : Int) ≤ (at_ : Int)
  · rw [if_pos (decide_eq_true hz), fd_nil (by omega)]
    rfl
  rw [if_neg (by rw [decide_eq_false hz]; decide)]
  cases e0 : row.drop at_ with
  | nil =>
    have : (row.drop at_).length = 0 := by rw [e0]; rfl
    rw [List.length_drop] at this
    omega
  | cons b0 s0 =>
    obtain ⟨e1, e2, e3⟩ := atR e0
    rw [e1]
    show (if decide (b0 = 128) = true then _ else _) = _
    unfold numb
    by_cases c : b0 = 128
    · rw [if_pos (decide_eq_true c), if_pos (by rw [c]; rfl)]
      rfl
    · rw [if_neg (by rw [decide_eq_false c]; decide), if_neg (fun z => c (by injection z))]
      unfold guardR
      rw [if_pos (by omega), ← e0]
      have main : ∀ (s : List Int) (i : Nat) (acc : Int), row.drop i = s → i ≤ row.length → (forR (rngI (i : Int) (row.length : Int)) acc (fun x26 (a25 : Int) => (ixR row x26).bind fun x37 => lt (((a25 * 128) + (x37 % 128)) : Int) fun x41 => (if (decide (1000000000000000000000000000000000000000000000000000000000000 < x41)) = true then (.ok (.rt none) : Res (Fl Int (Option (Tp2 Int Int)))) else (ixR row x26).bind fun x46 => (if (decide (x46 < 128)) = true then .ok (.rt (some (⟨x41, (x26 + 1)⟩ : (Tp2 Int Int)))) else .ok (.nx x41))))).bind (afterR fun a55 => .ok none) = .ok (tpN (num acc i s)) := by
        intro s
        induction s with
        | nil =>
          intro i acc e hi
          have : (row.drop i).length = 0 := by rw [e]; rfl
          rw [List.length_drop] at this
          rw [rngI_nil (by omega)]
          rfl
        | cons b s ih =>
          intro i acc e hi
          obtain ⟨e1, e2, e3⟩ := atR e
          rw [rngI_cons (by omega)]
          show Res.bind (Res.bind ((ixR row (i : Int)).bind _) _) _ = _
          rw [e1]
          show Res.bind (Res.bind (if decide (GRT < acc * 128 + b % 128) = true then _ else _) _) _ = _
          have en : num acc i (b :: s) = if GRT < acc * 128 + b % 128 then none else if b < 128 then some (acc * 128 + b % 128, i + 1) else num (acc * 128 + b % 128) (i + 1) s := rfl
          rw [en]
          by_cases hg : GRT < acc * 128 + b % 128
          · rw [if_pos (decide_eq_true hg), if_pos hg]
            rfl
          · rw [if_neg (by rw [decide_eq_false hg]; decide), if_neg hg]
            show Res.bind (Res.bind (if decide (b < 128) = true then _ else _) _) _ = _
            by_cases hb : b < 128
            · rw [if_pos (decide_eq_true hb), if_pos hb]
              rfl
            · rw [if_neg (by rw [decide_eq_false hb]; decide), if_neg hb]
              exact ih (i + 1) _ e2 (by omega)
      exact main _ at_ 0 rfl (by omega)
theorem num_take : ∀ (s : List Int) (acc : Int) (k j : Nat), num acc j (s.take k) = (num acc j s).filter fun x => decide (x.2 ≤ j + k)
  | [], acc, k, j => by cases k <;> rfl
  | b :: s, acc, 0, j => by
    show none = _
    cases h : num acc j (b :: s) with
    | none => rfl
    | some x =>
      have : ∀ (s : List Int) (acc : Int) (j : Nat), num acc j s = some x → j < x.2 := by
        intro s
        induction s with
        | nil => exact fun _ _ z => nomatch z
        | cons b s ih =>
          intro acc j z
          have en : num acc j (b :: s) = if GRT < acc * 128 + b % 128 then none else if b < 128 then some (acc * 128 + b % 128, j + 1) else num (acc * 128 + b % 128) (j + 1) s := rfl
          rw [en] at z
          by_cases hg : GRT < acc * 128 + b % 128
          · rw [if_pos hg] at z; exact nomatch z
          · rw [if_neg hg] at z
            by_cases hb : b < 128
            · rw [if_pos hb] at z; cases z; exact Nat.lt_succ_self _
            · rw [if_neg hb] at z; have := ih _ _ z; omega
      have := this _ _ _ h
      show none = if decide (x.2 ≤ j + 0) = true then some x else none
      rw [if_neg (by rw [decide_eq_false (by omega)]; decide)]
  | b :: s, acc, k + 1, j => by
    show (if GRT < acc * 128 + b % 128 then none else if b < 128 then some (acc * 128 + b % 128, j + 1) else num (acc * 128 + b % 128) (j + 1) (s.take k)) = Option.filter _ (if GRT < acc * 128 + b % 128 then none else if b < 128 then some (acc * 128 + b % 128, j + 1) else num (acc * 128 + b % 128) (j + 1) s)
    by_cases hg : GRT < acc * 128 + b % 128
    · rw [if_pos hg, if_pos hg]; rfl
    · rw [if_neg hg, if_neg hg]
      by_cases hb : b < 128
      · rw [if_pos hb, if_pos hb]
        show _ = if decide (j + 1 ≤ j + (k + 1)) = true then _ else _
        rw [if_pos (decide_eq_true (by omega))]
      · rw [if_neg hb, if_neg hb, num_take s _ k (j + 1)]
        refine congrArg (fun f => Option.filter f _) (funext fun x => ?_)
        exact decide_eq_decide.mpr (by omega)
theorem num_ge : ∀ (s : List Int) (acc : Int) (j : Nat) (x : Int × Nat), 0 ≤ acc → num acc j s = some x → 0 ≤ x.1 ∧ j < x.2 ∧ x.2 ≤ j + s.length ∧ acc * 128 ^ (x.2 - j) ≤ x.1
  | [], _, _, _, _, z => nomatch z
  | b :: s, acc, j, x, h0, z => by
    have en : num acc j (b :: s) = if GRT < acc * 128 + b % 128 then none else if b < 128 then some (acc * 128 + b % 128, j + 1) else num (acc * 128 + b % 128) (j + 1) s := rfl
    rw [en] at z
    by_cases hg : GRT < acc * 128 + b % 128
    · rw [if_pos hg] at z; exact nomatch z
    · rw [if_neg hg] at z
      have hm : 0 ≤ acc * 128 + b % 128 := by omega
      by_cases hb : b < 128
      · rw [if_pos hb] at z
        cases z
        refine ⟨hm, Nat.lt_succ_self _, by simp only [List.length_cons]; omega, ?_⟩
        rw [show j + 1 - j = 1 by omega]
        show acc * 128 ^ 1 ≤ acc * 128 + b % 128
        omega
      · rw [if_neg hb] at z
        obtain ⟨q0, q1, q2, q3⟩ := num_ge s _ (j + 1) x hm z
        refine ⟨q0, by omega, by simp only [List.length_cons]; omega, Int.le_trans ?_ q3⟩
        rw [show x.2 - j = (x.2 - (j + 1)) + 1 by omega, Int.pow_succ, Int.mul_comm (128 ^ _) 128, ← Int.mul_assoc]
        exact Int.mul_le_mul_of_nonneg_right (by omega) (Int.le_of_lt (Int.pow_pos (by decide)))
theorem numb_some {k : Nat} {s : List Int} {x : Int × Nat} (h : numb k s = some x) : 0 ≤ x.1 ∧ k < x.2 ∧ x.2 ≤ k + s.length := by
  unfold numb at h
  by_cases c : s.head? = some 128
  · rw [if_pos c] at h; exact nomatch h
  · rw [if_neg c] at h
    have := num_ge s 0 k x (Int.le_refl _) h
    exact ⟨this.1, this.2.1, this.2.2.1⟩
/-- a small number is read from three bytes -/
theorem numb_small {s : List Int} {x : Int × Nat} (hs : ∀ b ∈ s, Byt b) (h : numb 0 s = some x) (hx : x.1 ≤ 60000) : x.2 ≤ 3 := by
  unfold numb at h
  by_cases c : s.head? = some 128
  · rw [if_pos c] at h; exact nomatch h
  · rw [if_neg c] at h
    cases s with
    | nil => exact nomatch h
    | cons b s =>
      have hb0 := (hs b List.mem_cons_self).1
      have hb1 := (hs b List.mem_cons_self).2
      have hb2 : b ≠ 128 := fun z => c (by rw [z]; rfl)
      have en : num 0 0 (b :: s) = if GRT < 0 * 128 + b % 128 then none else if b < 128 then some (0 * 128 + b % 128, 1) else num (0 * 128 + b % 128) 1 s := rfl
      rw [en] at h
      by_cases hg : GRT < 0 * 128 + b % 128
      · rw [if_pos hg] at h; exact nomatch h
      · rw [if_neg hg] at h
        by_cases hb : b < 128
        · rw [if_pos hb] at h
          cases h
          exact (by decide : (1 : Nat) ≤ 3)
        · rw [if_neg hb] at h
          obtain ⟨_, q1, _, q3⟩ := num_ge s _ 1 x (by omega) h
          rcases Nat.lt_or_ge 3 x.2 with q | q
          · have p3 : (128 : Int) ^ 3 ≤ 128 ^ (x.2 - 1) := by
              have : (128 : Nat) ^ 3 ≤ 128 ^ (x.2 - 1) := Nat.pow_le_pow_right (by decide) (by omega)
              exact_mod_cast this
            have p4 : 1 * (128 : Int) ^ (x.2 - 1) ≤ (0 * 128 + b % 128) * 128 ^ (x.2 - 1) := Int.mul_le_mul_of_nonneg_right (by omega) (Int.le_of_lt (Int.pow_pos (by decide)))
            have p5 : (128 : Int) ^ 3 = 2097152 := by decide
            omega
          · exact q
theorem numb_take {s : List Int} {k : Nat} (hk : 0 < k) : numb 0 (s.take k) = (numb 0 s).filter fun x => decide (x.2 ≤ k) := by
  unfold numb
  rw [show (s.take k).head? = s.head? by cases s with | nil => rw [List.take_nil] | cons b s => obtain ⟨k, rfl⟩ : ∃ j, k = j + 1 := ⟨k - 1, by omega⟩; rfl]
  by_cases c : s.head? = some 128
  · rw [if_pos c, if_pos c]; rfl
  · rw [if_neg c, if_neg c, num_take]
    refine congrArg (fun f => Option.filter f _) (funext fun x => ?_)
    exact decide_eq_decide.mpr (by omega)
/-! # where a box stands -/
def ckb (k : Int) (b : List Int) : List Int := [sumB (k :: b) 1 / 256, sumB (k :: b) 1 % 256]
def hasStart (row : List Int) (at_ : Nat) : Bool := decide ((row.drop at_).take 3 = [0, 0, 1])
def sizeS (F : List Int) : Option (Int × Nat) :=
  if F.length < 1 then none else match numb 0 (F.take 1) with
  | some x => some x
  | none => if F.length < 2 then none else match numb 0 (F.take 2) with
    | some x => some x
    | none => if F.length < 3 then none else numb 0 (F.take 3)
/-- a size of the module's is the number of all contents -/
theorem size_numb {F : List Int} (hF : ∀ b ∈ F, Byt b) {x : Int × Nat} (hx : x.1 ≤ 60000) (hm : x.2 ≤ F.length) : sizeS F = some x ↔ numb 0 F = some x := by
  have tk : ∀ k, 0 < k → numb 0 (F.take k) = (numb 0 F).filter fun x => decide (x.2 ≤ k) := fun k h => numb_take h
  unfold sizeS
  rw [tk 1 (by decide), tk 2 (by decide), tk 3 (by decide)]
  cases e : numb 0 F with
  | none =>
    refine ⟨fun h => ?_, fun h => nomatch h⟩
    revert h
    show (if _ then none else (if _ then none else (if _ then none else none))) = some x → _
    split
    · exact fun h => nomatch h
    · split
      · exact fun h => nomatch h
      · split <;> exact fun h => nomatch h
  | some y =>
    have hy := numb_some e
    show (if F.length < 1 then none else match (if decide (y.2 ≤ 1) = true then some y else none) with
      | some x => some x
      | none => if F.length < 2 then none else match (if decide (y.2 ≤ 2) = true then some y else none) with
        | some x => some x
        | none => if F.length < 3 then none else if decide (y.2 ≤ 3) = true then some y else none) = some x ↔ _
    by_cases y1 : y.2 ≤ 1
    · rw [if_neg (by omega), if_pos (decide_eq_true y1)]
    · by_cases l1 : F.length < 1
      · rw [if_pos l1]
        exact ⟨fun h => (nomatch h), fun h => by cases h; omega⟩
      · rw [if_neg l1, if_neg (by rw [decide_eq_false y1]; decide)]
        show (if F.length < 2 then none else match (if decide (y.2 ≤ 2) = true then some y else none) with
          | some x => some x
          | none => if F.length < 3 then none else if decide (y.2 ≤ 3) = true then some y else none) = some x ↔ _
        by_cases l2 : F.length < 2
        · rw [if_pos l2]
          exact ⟨fun h => (nomatch h), fun h => by cases h; omega⟩
        · rw [if_neg l2]
          by_cases y2 : y.2 ≤ 2
          · rw [if_pos (decide_eq_true y2)]
          · rw [if_neg (by rw [decide_eq_false y2]; decide)]
            show (if F.length < 3 then none else if decide (y.2 ≤ 3) = true then some y else none) = some x ↔ _
            by_cases l3 : F.length < 3
            · rw [if_pos l3]
              exact ⟨fun h => (nomatch h), fun h => by cases h; omega⟩
            · rw [if_neg l3]
              by_cases y3 : y.2 ≤ 3
              · rw [if_pos (decide_eq_true y3)]
              · rw [if_neg (by rw [decide_eq_false y3]; decide)]
                exact ⟨fun h => (nomatch h), fun h => by cases h; exact absurd (numb_small hF e hx) y3⟩
/-- the box at a place: its kind, its body, its end -/
def boxC (row : List Int) (k : Int) (C : List (Int × Nat)) : Option (Tp3 Int (List Int) Int) := match numb 0 (fsC C) with
  | none => none
  | some x => if 60000 < x.1 then none else if C.length < x.2 + x.1.toNat + 2 then none else
    match C[x.2 + x.1.toNat + 1]? with
    | none => none
    | some e => if ((fsC C).drop (x.2 + x.1.toNat)).take 2 = ckb k (((fsC C).drop x.2).take x.1.toNat) ∧ (row.drop e.2).take 1 = [255] then some ⟨k, ((fsC C).drop x.2).take x.1.toNat, (e.2 : Int) + 1⟩ else none
theorem ix_in {l : List Int} {i : Nat} {x : Int} (h : l[i]? = some x) : ixR l (i : Int) = .ok x := by
  have hi : i < l.length := by
    rcases Nat.lt_or_ge i l.length with h' | h'
    · exact h'
    · rw [List.getElem?_eq_none h'] at h; exact nomatch h
  have e : l.drop i = x :: l.drop (i + 1) := by
    rw [List.getElem?_eq_getElem hi] at h
    cases h
    exact List.drop_eq_getElem_cons hi
  exact (atR e).1
theorem fsC_len (C : List (Int × Nat)) : (fsC C).length = C.length := List.length_map ..
theorem cut_neg2 {l : List Int} {j v : Nat} (h : l.length = j + v + 2) : cutL l (some (j : Int)) (some (-2)) = (l.drop j).take v := by
  unfold cutL
  have e : HT.sIx l.length l.length (some (-2)) = l.length - 2 := by
    show (if (-2 : Int) < 0 then ((-2 : Int) + (l.length : Int)).toNat else min (-2 : Int).toNat l.length) = _
    rw [if_pos (by decide)]
    omega
  rw [e, HT.sIx_nat, show min j l.length = j by omega, show l.length - 2 - j = v by omega]
theorem cut_tail2 {l : List Int} {n : Nat} (h : l.length = n + 2) : cutL l (some (-2)) none = l.drop n := by
  unfold cutL
  have e : HT.sIx l.length 0 (some (-2)) = n := by
    show (if (-2 : Int) < 0 then ((-2 : Int) + (l.length : Int)).toNat else min (-2 : Int).toNat l.length) = _
    rw [if_pos (by decide)]
    omega
  rw [e, HT.sIx_none]
  exact List.take_of_length_le (by rw [List.length_drop]; omega)
/-! # all boxes of a row -/
abbrev In3 := Tp3 Int Int (List Int)
theorem for_fm {α β R : Type} {f : α → List β → Res (Fl (List β) R)} {h : α → Option β} : ∀ {l : List α} {acc : List β}, acc.length + l.length < 1000000 → (∀ x ∈ l, ∀ acc : List β, acc.length < 1000000 → f x acc = .ok (.nx (acc ++ (h x).toList))) → forR l acc f = .ok (.nx (acc ++ l.filterMap h))
  | [], acc, _, _ => by
    rw [List.filterMap_nil, List.append_nil]
    rfl
  | x :: l, acc, hl, hf => by
    have hl' : acc.length + (l.length + 1) < 1000000 := hl
    show (Res.bind (f x acc) _) = _
    rw [hf x List.mem_cons_self acc (by omega)]
    show forR l (acc ++ (h x).toList) f = _
    have : (h x).toList.length ≤ 1 := by cases h x <;> simp
    rw [for_fm (by rw [List.length_append]; omega) fun y m => hf y (List.mem_cons_of_mem _ m)]
    cases e : h x with
    | none => rw [List.filterMap_cons_none e]; rw [show (none : Option β).toList = [] from rfl, List.append_nil]
    | some y => rw [List.filterMap_cons_some e]; rw [List.append_assoc]; rfl
theorem compL_fm {α β : Type} {f : α → Unit → Res (Option β × Unit)} {g : α → Option β} : ∀ {l : List α}, (∀ x ∈ l, f x () = .ok (g x, ())) → compL l () f = .ok (l.filterMap g, ())
  | [], _ => rfl
  | x :: l, h => by
    show (Res.bind (f x ()) _) = _
    rw [h x List.mem_cons_self]
    show (Res.bind (compL l () f) _) = _
    rw [compL_fm fun y m => h y (List.mem_cons_of_mem _ m)]
    cases e : g x with
    | none => rw [List.filterMap_cons_none e]; rfl
    | some y => rw [List.filterMap_cons_some e]; rfl
theorem compR_fm {α β : Type} {f : α → Unit → Res (Option β × Unit)} {g : α → Option β} {l : List α} (hl : l.length ≤ 1000000) (h : ∀ x ∈ l, f x () = .ok (g x, ())) : compR l () f = .ok (l.filterMap g, ()) := by
  have e : compR l () f = guardR (l.length ≤ 1000000) (compL l () f) := rfl
  rw [e]
  unfold guardR
  rw [if_pos hl, compL_fm h]
theorem mem_rg {lo hi x : Int} (h : x ∈ rngI lo hi) : lo ≤ x ∧ x < hi := by
  unfold rngI at h
  obtain ⟨i, m, rfl⟩ := List.mem_map.mp h
  have := List.mem_range.mp m
  omega
theorem rg_mem {lo hi x : Int} (h : lo ≤ x) (h' : x < hi) : x ∈ rngI lo hi := by
  unfold rngI
  exact List.mem_map.mpr ⟨(x - lo).toNat, List.mem_range.mpr (by omega), by omega⟩
theorem rg_len (lo hi : Int) : (rngI lo hi).length = (hi - lo).toNat := by unfold rngI; simp
theorem start_len {row : List Int} {at_ : Nat} (h : hasStart row at_ = true) : at_ + 3 ≤ row.length := by
  have := congrArg List.length (of_decide_eq_true h)
  rw [List.length_take, List.length_drop] at this
  have e : ([0, 0, 1] : List Int).length = 3 := rfl
  omega
theorem start_zero {row : List Int} {at_ : Nat} (h : hasStart row at_ = true) : row[at_]? = some 0 := by
  have := congrArg (fun l : List Int => l[0]?) (of_decide_eq_true h)
  rw [← Nat.add_zero at_, ← List.getElem?_drop]
  rw [List.getElem?_take_of_lt (by decide)] at this
  exact this
/-! # a box that was laid is there -/
/-- a box, byte for byte -/
def bxF (k : Int) (fg b : List Int) : List Int := ([0, 0, 1, k] ++ stL 0 ((fg ++ b) ++ ckb k b)) ++ [255]
/-- figures that are read as a number -/
def Fig (v : Nat) (fg : List Int) : Prop := (∀ r, numb 0 (fg ++ r) = some ((v : Int), fg.length)) ∧ ∀ b ∈ fg, Byt b
theorem fig_small {v : Nat} (h : v < 128) : Fig v [(v : Int)] := by
  refine ⟨fun r => ?_, fun b m => ?_⟩
  · show numb 0 ((v : Int) :: r) = _
    unfold numb
    rw [if_neg (fun z => by have : ((v : Int)) = 128 := by injection z
                            omega)]
    show (if GRT < 0 * 128 + (v : Int) % 128 then none else if (v : Int) < 128 then some (0 * 128 + (v : Int) % 128, 1) else _) = _
    have e : (0 : Int) * 128 + (v : Int) % 128 = (v : Int) := by omega
    rw [e, if_neg (show ¬ GRT < (v : Int) by unfold GRT; omega), if_pos (by omega)]
    rfl
  · rw [List.mem_singleton.mp m]
    exact ⟨by omega, by omega⟩
end A

set_option Elab.async false
set_option linter.all false
set_option maxRecDepth 100000
set_option maxHeartbeats 2000000
namespace A
open PySem PySem.Spec PyProof.Rows L2 Y
open Y.Enc (enc)
/-! # the bytes of numbers, and numbers read from them -/
/-- all bytes but the last one, of what stands ahead of it -/
def hi (n : Nat) : List Int := if h : n = 0 then [] else hi (n / 128) ++ [128 + (n : Int) % 128]
termination_by n
decreasing_by exact Nat.div_lt_self (Nat.pos_of_ne_zero h) (by decide)
theorem hi0 : hi 0 = [] := by rw [hi]; rfl
theorem hiS {n : Nat} (h : 0 < n) : hi n = hi (n / 128) ++ [128 + (n : Int) % 128] := by
  rw [hi, dif_neg (by omega)]
def wr (n : Nat) : List Int := hi (n / 128) ++ [(n : Int) % 128]
theorem wr_ne (n : Nat) : 0 < (wr n).length := by unfold wr; rw [List.length_append]; exact Nat.succ_pos _
theorem hi_len : ∀ (k n : Nat), n < 128 ^ k → (hi n).length ≤ k
  | 0, n, h => by
    have : n = 0 := by rw [Nat.pow_zero] at h; omega
    subst this
    rw [hi0]; exact Nat.le_refl _
  | k + 1, n, h => by
    rcases Nat.eq_zero_or_pos n with rfl | h0
    · rw [hi0]; exact Nat.zero_le _
    · rw [hiS h0, List.length_append]
      have := hi_len k (n / 128) (by rw [Nat.div_lt_iff_lt_mul (by decide)]; rw [Nat.pow_succ] at h; exact h)
      show _ + 1 ≤ _
      omega
theorem wr_len {k n : Nat} (h : n < 128 ^ (k + 1)) : (wr n).length ≤ k + 1 := by
  unfold wr
  rw [List.length_append]
  have := hi_len k (n / 128) (by rw [Nat.div_lt_iff_lt_mul (by decide)]; rw [Nat.pow_succ] at h; exact h)
  show _ + 1 ≤ _
  omega
theorem hi_byt : ∀ (n : Nat), ∀ b ∈ hi n, Byt b := by
  intro n
  induction n using Nat.strongRecOn with
  | _ n ih =>
    intro b m
    rcases Nat.eq_zero_or_pos n with rfl | h0
    · rw [hi0] at m; exact nomatch m
    · rw [hiS h0] at m
      rcases List.mem_append.mp m with m | m
      · exact ih _ (Nat.div_lt_self h0 (by decide)) b m
      · rw [List.mem_singleton.mp m]
        constructor <;> omega
theorem wr_byt {n : Nat} : ∀ b ∈ wr n, Byt b := fun b m => by
  rcases List.mem_append.mp m with m | m
  · exact hi_byt _ b m
  · rw [List.mem_singleton.mp m]
    constructor <;> omega
theorem hi_head : ∀ (n : Nat), 0 < n → ∃ b r, hi n = b :: r ∧ 128 < b := by
  intro n
  induction n using Nat.strongRecOn with
  | _ n ih =>
    intro h0
    rw [hiS h0]
    rcases Nat.eq_zero_or_pos (n / 128) with h | h
    · rw [h, hi0]
      exact ⟨_, _, rfl, by omega⟩
    · obtain ⟨b, r, e, hb⟩ := ih _ (Nat.div_lt_self h0 (by decide)) h
      rw [e]
      exact ⟨b, _, rfl, hb⟩
theorem hi_no {n : Nat} {s : List Int} (hs : s.head? ≠ some 128) : (hi n ++ s).head? ≠ some 128 := by
  rcases Nat.eq_zero_or_pos n with rfl | h
  · rw [hi0]; exact hs
  · obtain ⟨b, r, e, hb⟩ := hi_head n h
    rw [e]
    intro z
    injection z with z
    omega
theorem num_hi : ∀ (n : Nat) (s : List Int) (k : Nat), (n : Int) ≤ GRT → num 0 k (hi n ++ s) = num n (k + (hi n).length) s := by
  intro n
  induction n using Nat.strongRecOn with
  | _ n ih =>
    intro s k hg
    rcases Nat.eq_zero_or_pos n with rfl | h0
    · rw [hi0]; rfl
    · rw [hiS h0, List.append_assoc, ih _ (Nat.div_lt_self h0 (by decide)) _ _ (by omega)]
      show num ((n / 128 : Nat) : Int) _ ((128 + (n : Int) % 128) :: s) = _
      have e : ((n / 128 : Nat) : Int) * 128 + (128 + (n : Int) % 128) % 128 = n := by omega
      show (if GRT < ((n / 128 : Nat) : Int) * 128 + (128 + (n : Int) % 128) % 128 then none else if 128 + (n : Int) % 128 < 128 then _ else num (((n / 128 : Nat) : Int) * 128 + (128 + (n : Int) % 128) % 128) _ s) = _
      rw [e, if_neg (by omega), if_neg (by omega), List.length_append]
      rfl
/-- a number is read where it was written -/
theorem numb_wr {n k : Nat} {s : List Int} (hg : (n : Int) ≤ GRT) : numb k (wr n ++ s) = some ((n : Int), k + (wr n).length) := by
  unfold numb wr
  rw [List.append_assoc, if_neg (hi_no (by simp; omega)), num_hi _ _ _ (by omega)]
  show (if GRT < ((n / 128 : Nat) : Int) * 128 + ((n : Int) % 128) % 128 then none else if (n : Int) % 128 < 128 then some (((n / 128 : Nat) : Int) * 128 + ((n : Int) % 128) % 128, _) else _) = _
  have e : ((n / 128 : Nat) : Int) * 128 + ((n : Int) % 128) % 128 = n := by omega
  rw [e, if_neg (by omega), if_pos (by omega), List.length_append]
  rfl
/-- where its last byte is left out none stands -/
theorem numb_cut {n k : Nat} (hg : (n : Int) ≤ GRT) : numb k (hi (n / 128)) = none := by
  have e := num_hi (n / 128) [] k (by omega)
  rw [List.append_nil] at e
  have h := hi_no (n := n / 128) (s := []) (by simp)
  rw [List.append_nil] at h
  unfold numb
  rw [if_neg h, e]
  rfl
theorem pow_lim {k : Nat} (h : (128 : Nat) ^ k ≤ 10 ^ 60) : k < 100 := by
  rcases Nat.lt_or_ge k 100 with h' | h'
  · exact h'
  · have : (128 : Nat) ^ 100 ≤ 128 ^ k := Nat.pow_le_pow_right (by decide) h'
    have : (10 : Nat) ^ 60 < 128 ^ 100 := by decide +kernel
    omega
theorem gpos {α : Type} {p : Prop} [Decidable p] {m : Res α} (h : p) : guardR p m = m := if_pos h
theorem whole_n {n : Nat} (hg : (n : Int) ≤ GRT) : m_is_whole (enc (n : Int)) 0 GRT = .ok true := by
  show Res.ok (decide (0 ≤ (n : Int)) && decide ((n : Int) ≤ GRT)) = _
  rw [decide_eq_true (by omega), decide_eq_true hg]
  rfl
theorem figures_l {n : Nat} (hg : (n : Int) ≤ GRT) : l_figures (n : Int) = .ok (wr n) := by
  unfold l_figures
  refine (whileEq (S := Int × List Int) (g := fun s => .ok (hi (s.1.toNat / 128) ++ s.2)) (fun s => 0 ≤ s.1 ∧ 128 ^ (s.2.length - 1) * s.1.toNat ≤ 10 ^ 60 ∧ 0 < s.2.length) (fun s => s.1.toNat) ?_ _ (by show ((n : Int)).toNat < _; omega) ⟨by show 0 ≤ (n : Int); omega, by show 128 ^ 0 * ((n : Int)).toNat ≤ _; have : (n : Int) ≤ 10 ^ 60 := hg; omega, by show 0 < 1; decide⟩).trans ?_
  · rintro ⟨m, acc⟩ ⟨h0, h1, h2⟩
    simp only at h0 h1 h2
    obtain ⟨i, rfl⟩ : ∃ i : Nat, m = (i : Int) := ⟨m.toNat, by omega⟩
    simp only [show ((i : Int)).toNat = i by omega] at h1 ⊢
    by_cases c : 128 ≤ (i : Int)
    · have hl : acc.length - 1 < 100 := pow_lim (Nat.le_trans (Nat.le_mul_of_pos_right _ (by omega)) h1)
      refine .inl ⟨((i : Int) / 128, (128 + (i : Int) / 128 % 128) :: acc), ?_, ⟨by simp only; omega, ?_, Nat.succ_pos _⟩, by simp only; omega, ?_⟩
      · rw [if_pos (decide_eq_true c)]
        show guardR _ _ = _
        unfold guardR
        rw [if_pos (by show 1 + _ ≤ _; omega)]
        rfl
      · simp only [List.length_cons, show ((i : Int) / 128).toNat = i / 128 by omega]
        obtain ⟨k, hk⟩ : ∃ k, acc.length = k + 1 := ⟨acc.length - 1, by omega⟩
        rw [hk] at h1 ⊢
        simp only [Nat.add_sub_cancel] at h1 ⊢
        rw [Nat.pow_succ, Nat.mul_assoc]
        exact Nat.le_trans (Nat.mul_le_mul_left _ (Nat.mul_div_le i 128)) h1
      · simp only [show ((i : Int) / 128).toNat = i / 128 by omega]
        rw [hiS (n := i / 128) (by omega), List.append_assoc]
        rfl
    · refine .inr (.inl ⟨((i : Int), acc), ?_, ?_⟩)
      · rw [if_neg (by rw [decide_eq_false c]; decide)]
      · rw [show i / 128 = 0 by omega, hi0]
        rfl
  · show Res.ok (hi (((n : Int)).toNat / 128) ++ _) = _
    rw [show ((n : Int)).toNat = n by omega]
    rfl
/-- the bytes of numbers, one after another -/
def wrs (ns : List Int) : List Int := ns.flatMap fun n => wr n.toNat
theorem wrs_cons (n : Int) (ns : List Int) : wrs (n :: ns) = wr n.toNat ++ wrs ns := List.flatMap_cons
theorem wrs_nil : wrs [] = [] := rfl
theorem wrs_app (a b : List Int) : wrs (a ++ b) = wrs a ++ wrs b := List.flatMap_append
theorem wrs_byt {ns : List Int} : ∀ b ∈ wrs ns, Byt b := fun b m => by
  obtain ⟨n, _, h⟩ := List.mem_flatMap.mp m
  exact wr_byt b h
/-- a number that may be written, of at most so many bytes -/
def Nm (k : Nat) (n : Int) : Prop := 0 ≤ n ∧ n ≤ GRT ∧ n.toNat < 128 ^ (k + 1)
theorem wrs_len {k : Nat} : ∀ {ns : List Int}, (∀ n ∈ ns, Nm k n) → (wrs ns).length ≤ (k + 1) * ns.length
  | [], _ => Nat.zero_le _
  | n :: ns, h => by
    rw [wrs_cons, List.length_append, List.length_cons, Nat.mul_succ]
    have := wr_len (h n List.mem_cons_self).2.2
    have := wrs_len fun m q => h m (List.mem_cons_of_mem _ q)
    omega
theorem nm_nat {k : Nat} {n : Int} (h : Nm k n) : ∃ m : Nat, n = (m : Int) ∧ (m : Int) ≤ GRT := ⟨n.toNat, by have := h.1; omega, by have := h.1; have := h.2.1; omega⟩
/-! ## reading -/
/-- the reader at a place of a row -/
def rdr (row : List Int) (k : Nat) : List D := [enc row, .int (k : Int)]
theorem dec_row : ∀ (l : List Int), decs (α := Int) (l.map enc) = some l
  | [] => rfl
  | i :: l => by
    show Option.bind (some i) (fun x => Option.bind (decs (l.map enc)) fun xs => some (x :: xs)) = _
    rw [dec_row l]
    rfl
theorem asD_row (l : List Int) : asD (List Int) (enc l) = .ok l := by
  unfold asD
  rw [show Dec.dec (enc l) = some l from dec_row l]
def read1 (x : Option (Tp2 Int Int)) (row : List Int) (lo hi' : Int) : Res (Int × List D) := match x with
  | none => .err ⟨"NoBody", []⟩
  | some x => if decide (lo ≤ x.a) = true then (if decide (x.a ≤ hi') = true then .ok (x.a, [enc row, enc (x.b : Int)]) else .err ⟨"NoBody", []⟩) else .err ⟨"NoBody", []⟩
theorem wrs_cut {ns : List Int} {n : Int} : (wrs (ns ++ [n])).take ((wrs (ns ++ [n])).length - 1) = wrs ns ++ hi (n.toNat / 128) := by
  rw [wrs_app, show wrs [n] = wr n.toNat from by rw [wrs_cons, wrs_nil, List.append_nil]]
  unfold wr
  rw [← List.append_assoc, List.length_append, show ([(n.toNat : Int) % 128] : List Int).length = 1 from rfl, Nat.add_sub_cancel, List.take_left]
end A
namespace A
open PySem PySem.Spec PyProof.Rows L2 Y
open Y.Enc (enc)
/-! ## things that are read one after another -/
/-- f reads what w lays, as v -/
def Rds {β γ : Type} (f : List D → Res (β × List D)) (w : γ → List Int) (v : γ → β) (g : γ) : Prop := ∀ pre s : List Int, (pre ++ (w g ++ s)).length ≤ 900000 → f (rdr (pre ++ (w g ++ s)) pre.length) = .ok (v g, rdr (pre ++ (w g ++ s)) (pre.length + (w g).length))
/-- f is refused where c breaks off -/
def Cut {β : Type} (f : List D → Res (β × List D)) (c : List Int) : Prop := ∀ pre : List Int, (pre ++ c).length ≤ 900000 → f (rdr (pre ++ c) pre.length) = .err ⟨"NoBody", []⟩
section
variable {β γ : Type} {f : List D → Res (β × List D)} {w : γ → List Int} {v : γ → β}
theorem compL_rds : ∀ (gs : List γ) (l : List Int) (pre s : List Int), l.length = gs.length → (∀ g ∈ gs, Rds f w v g) → (pre ++ (gs.flatMap w ++ s)).length ≤ 900000 →
    compL l (rdr (pre ++ (gs.flatMap w ++ s)) pre.length) (fun _ a => (f a).bind fun x => .ok (some x.1, x.2)) = .ok (gs.map v, rdr (pre ++ (gs.flatMap w ++ s)) (pre.length + (gs.flatMap w).length))
  | [], [], pre, s, _, _, _ => rfl
  | [], _ :: _, _, _, h, _, _ => nomatch h
  | _ :: _, [], _, _, h, _, _ => nomatch h
  | g :: gs, i :: l, pre, s, hl, hf, hz => by
    have e1 : pre ++ ((g :: gs).flatMap w ++ s) = pre ++ (w g ++ (gs.flatMap w ++ s)) := by rw [List.flatMap_cons, List.append_assoc]
    have e2 : pre ++ (w g ++ (gs.flatMap w ++ s)) = (pre ++ w g) ++ (gs.flatMap w ++ s) := (List.append_assoc ..).symm
    rw [e1] at hz ⊢
    show Res.bind (Res.bind (f _) _) _ = _
    rw [hf g List.mem_cons_self pre _ hz]
    show Res.bind (compL l (rdr (pre ++ (w g ++ (gs.flatMap w ++ s))) (pre.length + (w g).length)) _) _ = _
    rw [e2] at hz ⊢
    rw [← List.length_append, compL_rds gs l (pre ++ w g) s (Nat.succ.inj hl) (fun x m => hf x (List.mem_cons_of_mem _ m)) hz, List.flatMap_cons, List.length_append, List.length_append, Nat.add_assoc]
    rfl
theorem compL_cut {c : List Int} (hc : Cut f c) : ∀ (gs : List γ) (l : List Int) (pre : List Int), gs.length < l.length → (∀ g ∈ gs, Rds f w v g) → (pre ++ (gs.flatMap w ++ c)).length ≤ 900000 →
    compL l (rdr (pre ++ (gs.flatMap w ++ c)) pre.length) (fun _ a => (f a).bind fun x => .ok (some x.1, x.2)) = .err ⟨"NoBody", []⟩
  | _, [], _, h, _, _ => absurd h (Nat.not_lt_zero _)
  | [], i :: l, pre, _, _, hz => by
    show Res.bind (Res.bind (f _) _) _ = _
    rw [show ([] : List γ).flatMap w ++ c = c from rfl] at hz ⊢
    rw [hc pre hz]
    rfl
  | g :: gs, i :: l, pre, hl, hf, hz => by
    have e1 : pre ++ ((g :: gs).flatMap w ++ c) = pre ++ (w g ++ (gs.flatMap w ++ c)) := by rw [List.flatMap_cons, List.append_assoc]
    have e2 : pre ++ (w g ++ (gs.flatMap w ++ c)) = (pre ++ w g) ++ (gs.flatMap w ++ c) := (List.append_assoc ..).symm
    rw [e1] at hz ⊢
    show Res.bind (Res.bind (f _) _) _ = _
    rw [hf g List.mem_cons_self pre _ hz]
    show Res.bind (compL l (rdr (pre ++ (w g ++ (gs.flatMap w ++ c))) (pre.length + (w g).length)) _) _ = _
    rw [e2] at hz ⊢
    rw [← List.length_append, compL_cut hc gs l (pre ++ w g) (Nat.lt_of_succ_lt_succ hl) (fun x m => hf x (List.mem_cons_of_mem _ m)) hz]
    rfl
end
theorem eqOk_lst {α : Type} [Enc α] {n : Nat} : ∀ {l : List α}, (∀ x ∈ l, eqOk n (enc x) = true) → eqOks n (l.map enc) = true
  | [], _ => rfl
  | x :: l, h => by
    show (eqOk n (enc x) && eqOks n (l.map enc)) = true
    rw [h x List.mem_cons_self, eqOk_lst fun y m => h y (List.mem_cons_of_mem _ m)]
    rfl
theorem same {d : D} (h : eqOk 20 d = true) : okEq d d ∧ eqD d d = true := ⟨okEq_of h h, eqD_refl (eqOk_flat _ 20 h).1⟩
theorem mapD (l : List D) : l.map (enc : D → D) = l := List.map_id l
theorem row_more {l : List Int} {b : Int} : eqD (enc l) (enc (l ++ [b])) = false := by
  rw [eq_rows]
  refine decide_eq_false fun e => ?_
  have := congrArg List.length e
  rw [List.length_append, List.length_singleton] at this
  omega
theorem cut_most {l : List Int} : cutL l none (some (-1)) = l.take (l.length - 1) := by
  rw [A.cut_last, List.dropLast_eq_take]
end A
namespace A
open PySem PySem.Spec PyProof.Rows L2 Y
open Y.Enc (enc)
section
variable {β γ : Type} {f : List D → Res (β × List D)} {w : γ → List Int} {v : γ → β} {g : γ}
theorem Rds.use (h : Rds f w v g) {row pre s : List Int} {k : Nat} (e : row = pre ++ (w g ++ s)) (hk : k = pre.length) (hz : row.length ≤ 900000) : f (rdr row k) = .ok (v g, rdr row (k + (w g).length)) := by
  subst e hk
  exact h pre s hz
theorem Cut.use {c : List Int} (h : Cut f c) {row pre : List Int} {k : Nat} (e : row = pre ++ c) (hk : k = pre.length) (hz : row.length ≤ 900000) : f (rdr row k) = .err ⟨"NoBody", []⟩ := by
  subst e hk
  exact h pre hz
end
/-- all bytes but the last one -/
def cutB (ns : List Int) : List Int := (wrs ns).take ((wrs ns).length - 1)
theorem wrs_ne {n : Int} {ns : List Int} : 0 < (wrs (n :: ns)).length := by
  rw [wrs_cons, List.length_append]
  have := wr_ne n.toNat
  omega
theorem cutB_app {ms ns : List Int} (h : 0 < (wrs ns).length) : cutB (ms ++ ns) = wrs ms ++ cutB ns := by
  unfold cutB
  rw [wrs_app, List.length_append, List.take_append, show (wrs ms).length + (wrs ns).length - 1 - (wrs ms).length = (wrs ns).length - 1 by omega, List.take_of_length_le (by omega)]
theorem cutB_one {n : Int} : cutB [n] = hi (n.toNat / 128) := by
  have := wrs_cut (ns := []) (n := n)
  exact this
theorem wrs1 (n : Int) : wrs [n] = wr n.toNat := by rw [wrs_cons, wrs_nil, List.append_nil]
theorem Is.bind {α β : Type} {m : Res β} {k : β → Res α} {a : β} {x : Res α} (e : m = .ok a) (h : k a = x) : m.bind k = x := by rw [e]; exact h
theorem Is.bindX {α β : Type} {m : Res β} {k : β → Res α} {a : Err} (e : m = .err a) : m.bind k = .err a := by rw [e]; rfl
theorem Is.iteT {α : Type} {m m' x : Res α} {c : Bool} (hc : c = true) (h : m = x) : (if c = true then m else m') = x := by rw [if_pos hc]; exact h
theorem Is.iteF {α : Type} {m m' x : Res α} {c : Bool} (hc : c = false) (h : m' = x) : (if c = true then m else m') = x := by rw [hc]; exact h
theorem Is.guard {α : Type} {m x : Res α} {p : Prop} [Decidable p] (hp : p) (h : m = x) : guardR p m = x := by unfold guardR; rw [if_pos hp]; exact h
end A

set_option Elab.async false
set_option linter.all false
set_option maxRecDepth 100000
set_option maxHeartbeats 2000000
namespace A
open PySem PySem.Spec PyProof.Rows L2 Y
open Y.Enc (enc)
theorem Ok.after' {S β : Type} {k : S → Res β} {s : S} {ψ : β → Prop} (h : Ok (k s) ψ) : Ok (afterR k (.nx s)) ψ := h
theorem tb_ok {s : Str} {b : Bool} (h : PyData.strOk s = true) : eqOk 20 (enc (⟨s, b⟩ : Tp2 Str Bool)) = true := by
  show (PyData.strOk s && (true && true)) = true
  rw [h]
  rfl
theorem wtold : PyData.strOk ("told" : Str) = true := by decide +kernel
theorem tt_ok {i j : Int} : eqOk 20 (.tup [enc ("told" : Str), .tup [.int i, .int j]]) = true := by
  show (PyData.strOk ("told" : Str) && (true && true)) = true
  rw [wtold]
  rfl
theorem ti_ok {i j : Int} : eqOk 20 (enc (⟨i, j⟩ : Tp2 Int Int)) = true := rfl
theorem written_d {n : Nat} (hg : (n : Int) ≤ GRT) : m_written (enc (n : Int)) = .ok (wr n) := by
  unfold m_written
  rw [whole_n hg]
  show Res.bind (whileR _ _ _) _ = _
  refine (whileEq (S := Int × List Int) (g := fun s => .ok (hi s.1.toNat ++ s.2.reverse)) (fun s => 0 ≤ s.1 ∧ 128 ^ s.2.length * s.1.toNat ≤ 10 ^ 60) (fun s => s.1.toNat) ?_ _ (by show ((n : Int) / 128).toNat < _; omega) ⟨by show 0 ≤ (n : Int) / 128; omega, by show 128 ^ 1 * ((n : Int) / 128).toNat ≤ _; have : (n : Int) ≤ 10 ^ 60 := hg; omega⟩).trans ?_
  · rintro ⟨m, acc⟩ ⟨h0, h1⟩
    simp only at h0 h1
    obtain ⟨i, rfl⟩ : ∃ i : Nat, m = (i : Int) := ⟨m.toNat, by omega⟩
    simp only [show ((i : Int)).toNat = i by omega] at h1 ⊢
    by_cases c : 0 < (i : Int)
    · have hl : acc.length < 100 := pow_lim (Nat.le_trans (Nat.le_mul_of_pos_right _ (by omega)) h1)
      refine .inl ⟨((i : Int) / 128, acc ++ [128 + (i : Int) % 128]), ?_, ⟨by simp only; omega, ?_⟩, by simp only; omega, ?_⟩
      · rw [if_pos (decide_eq_true c)]
        unfold guardR
        rw [if_pos (by omega)]
        rfl
      · simp only [List.length_append, List.length_singleton, show ((i : Int) / 128).toNat = i / 128 by omega, Nat.pow_succ]
        refine Nat.le_trans ?_ h1
        rw [Nat.mul_assoc]
        exact Nat.mul_le_mul_left _ (Nat.mul_div_le i 128)
      · simp only [show ((i : Int) / 128).toNat = i / 128 by omega]
        rw [List.reverse_append, hiS (n := i) (by omega), List.append_assoc]
        rfl
    · refine .inr (.inl ⟨((i : Int), acc), ?_, ?_⟩)
      · rw [if_neg (by rw [decide_eq_false c]; decide)]
      · have : i = 0 := by omega
        subst this
        rw [hi0]
        rfl
  · show Res.ok (hi ((n : Int) / 128).toNat ++ _) = _
    rw [show ((n : Int) / 128).toNat = n / 128 by omega]
    rfl
theorem whole_f {d : D} {lo hi : Int} (h : isWhole d lo hi = false) : m_is_whole d lo hi = .ok false := congrArg Res.ok h
theorem written_no {d : D} (h : isWhole d 0 GRT = false) : m_written d = .err ⟨"NoNumber", []⟩ := by
  unfold m_written
  rw [whole_f h]
  rfl
theorem place_ok {row : List Int} {k : Nat} (hl : row.length ≤ 900000) (hb : ∀ b ∈ row, Byt b) (hk : k ≤ row.length) : m_sure_place (enc row) (enc (k : Int)) = .ok () := by
  unfold m_sure_place
  refine Is.bind (sure_row (by omega) hb) (Is.bind (a := row.map (enc : Int → D)) rfl ?_)
  have : m_is_whole (enc (k : Int)) 0 ((row.map (enc : Int → D)).length : Int) = .ok true := by
    show Res.ok (decide (0 ≤ (k : Int)) && decide ((k : Int) ≤ _)) = _
    rw [List.length_map, decide_eq_true (by omega), decide_eq_true (by omega)]; rfl
  rw [this]
  rfl
theorem place_no {row : List Int} {d : D} (hl : row.length ≤ 900000) (hb : ∀ b ∈ row, Byt b) (h : isWhole d 0 (row.length : Int) = false) : m_sure_place (enc row) d = .err ⟨"NoPlace", []⟩ := by
  unfold m_sure_place
  refine Is.bind (sure_row (by omega) hb) (Is.bind (a := row.map (enc : Int → D)) rfl ?_)
  rw [List.length_map, whole_f h]
  rfl
theorem place_row {r d : D} (hd : smallD r) (h : isBytes r = false) : m_sure_place r d = .err ⟨"NoBytes", []⟩ := by
  unfold m_sure_place
  rw [no_row hd h]
  rfl
theorem read_no {r d : D} {e : Err} (h : m_sure_place r d = .err e) : m_read_number r d = .err e := by
  unfold m_read_number
  rw [h]
  rfl
def rdN (x : Option (Int × Nat)) : Res (Tp2 Int Int) := match x with
  | none => .err ⟨"NoNumber", []⟩
  | some x => .ok ⟨x.1, (x.2 : Int)⟩
theorem read_m {row : List Int} {k : Nat} (hl : row.length ≤ 900000) (hb : ∀ b ∈ row, Byt b) (hk : k ≤ row.length) : m_read_number (enc row) (enc (k : Int)) = rdN (numb k (row.drop k)) := by
  unfold m_read_number
  refine Is.bind (place_ok hl hb hk) (Is.bind (asD_row row) ?_)
  show Res.bind (Res.noErr (m_number_at row (k : Int))) _ = _
  rw [number_m hl hk]
  cases numb k (row.drop k) <;> rfl
theorem word_ok (d : D) : l_word (.ok d) = .ok (.tup [enc ("told" : Str), d]) := rfl
theorem word_n : l_word (.err ⟨"NoNumber", []⟩) = .ok (enc (⟨("number" : Str), false⟩ : Tp2 Str Bool)) := rfl
theorem word_p : l_word (.err ⟨"NoPlace", []⟩) = .ok (enc (⟨("place" : Str), false⟩ : Tp2 Str Bool)) := rfl
theorem word_b : l_word (.err ⟨"NoBytes", []⟩) = .ok (enc (⟨("bytes" : Str), false⟩ : Tp2 Str Bool)) := rfl
theorem plain_ok {ds : List D} (hl : ds.length ≤ 1000000) (h : ∀ x ∈ ds, ∃ i : Int, x = .int i) : l_plain (.lst ds) = .ok true := by
  unfold l_plain
  rw [if_pos (show isA "list" (.lst ds) = true from (by decide +kernel : isS "list" "list" = true))]
  show ((compR ds () _).bind _) = _
  rw [compR_fm (g := fun _ => some true) hl (fun x m => by
    obtain ⟨i, rfl⟩ := h x m
    rw [if_pos (show isA "int" (.int i) = true from (by decide +kernel : isS "int" "int" = true)), show isA "bool" (.int i) = false from (by decide +kernel : isS "int" "bool" = false)]
    rfl)]
  show Res.ok ((ds.filterMap fun _ => some true).all id) = _
  refine congrArg Res.ok (List.all_eq_true.mpr fun b m => ?_)
  obtain ⟨a, _, e⟩ := List.mem_filterMap.mp m
  cases e
  rfl
theorem plain_ints {l : List Int} (hl : l.length ≤ 1000000) : l_plain (enc l) = .ok true := plain_ok (by rw [List.length_map]; exact hl) fun x m => by
  obtain ⟨i, _, rfl⟩ := List.mem_map.mp m
  exact ⟨i, rfl⟩
theorem reads_ok {row : List Int} {k : Nat} (hl : row.length ≤ 900000) (hb : ∀ b ∈ row, Byt b) (hk : k ≤ row.length) : l_reads row (k : Int) = .ok true := by
  unfold l_reads
  refine Is.bind (number_l hl) ?_
  rw [read_m hl hb hk]
  cases e : numb k (row.drop k) with
  | none =>
    refine Is.bind word_n (Is.guard (ok_rows _ _) (Is.iteF (by rw [eq_row]; rfl) (Is.iteT rfl (Is.guard (same (tb_ok (by decide +kernel))).1 (congrArg Res.ok (same (tb_ok (by decide +kernel))).2)))))
  | some x =>
    refine Is.bind (word_ok _) (Is.guard (ok_rows _ _) (Is.iteF (by rw [eq_row]; rfl) (Is.iteF rfl (Is.guard (same tt_ok).1 (Is.iteT (same tt_ok).2 ?_)))))
    refine Is.bind (a := [enc ("told" : Str), .tup [.int x.1, .int (x.2 : Int)]]) rfl (Is.bind (a := .tup [.int x.1, .int (x.2 : Int)]) rfl ?_)
    refine Is.iteT (by decide +kernel : isS "tuple" "tuple" = true) ?_
    refine Is.bind (a := [enc ("told" : Str), .tup [.int x.1, .int (x.2 : Int)]]) rfl (Is.bind (a := .tup [.int x.1, .int (x.2 : Int)]) rfl ?_)
    refine Is.bind (a := [.int x.1, .int (x.2 : Int)]) rfl ?_
    refine Is.bind (plain_ok (ds := [.int x.1, .int (x.2 : Int)]) (by show 2 ≤ 1000000; decide) fun y m => ?_) rfl
    simp only [List.mem_cons, List.not_mem_nil, or_false] at m
    rcases m with rfl | rfl <;> exact ⟨_, rfl⟩
theorem Ok.forL {α S R : Type} {f : α → S → Res (Fl S R)} {l : List α} (I : List α → S → Prop) (hf : ∀ x xs s, I (x :: xs) s → Ok (f x s) fun r => ∃ s', r = .nx s' ∧ I xs s') {s : S} (h : I l s) : Ok (forR l s f) fun r => ∃ s', r = .nx s' ∧ I [] s' := by
  have := Ok.forM' (g := id) (l := l) I hf h
  rwa [List.map_id] at this
theorem ipow_le {b i j : Nat} [hb : NeZero b] (h : i ≤ j) : ((b : Int)) ^ i ≤ (b : Int) ^ j := by
  rw [← Int.natCast_pow, ← Int.natCast_pow]
  exact Int.ofNat_le.mpr (Nat.pow_le_pow_right (Nat.pos_of_ne_zero hb.out) h)
theorem number_ok {st : List Int} (h : Gd st) : Ok (l_number st) fun r => (0 ≤ r.1 ∧ r.1 ≤ GRT) ∧ r.2.length = 3 := by
  unfold l_number
  refine dg h (by decide) (bg (by decide)) fun x1 s1 a1 b1 h1 => Ok.ite (fun _ => ?_) fun _ => Ok.ite (fun _ => ?_) fun _ => ?_
  · exact dg (gd3 h1) (by decide) (bg (by decide)) fun x2 s2 a2 b2 h2 => Ok.pure ⟨⟨a2, by show x2 ≤ GRT; have : (300 : Int) ≤ GRT := (by decide); omega⟩, h2⟩
  · refine dg (gd3 h1) (by decide) (bg (by decide)) fun x2 s2 a2 b2 h2 => Ok.guard ⟨by simp only; omega, by simp only; omega⟩ ?_
    refine Ok.bind (Ok.forL (fun xs (a : Int) => 1 ≤ a ∧ a * 128 ^ xs.length ≤ 128 ^ 28) ?_ ⟨by decide, ?_⟩) ?_
    · rintro x xs a ⟨i1, i2⟩
      refine Ok.pure ⟨_, rfl, by omega, ?_⟩
      rw [List.length_cons, Int.pow_succ, Int.mul_comm (128 ^ xs.length) 128, ← Int.mul_assoc] at i2
      exact i2
    · rw [rngI_len', Int.one_mul]
      exact ipow_le (b := 128) (by omega)
    · rintro r ⟨a, rfl, i1, i2⟩
      rw [List.length_nil, Int.pow_zero, Int.mul_one] at i2
      refine Ok.after' (dg (gd3 h2) (by decide) (bg (by decide)) fun x3 s3 a3 b3 h3 => Ok.pure ⟨⟨by show 0 ≤ a + x3 - 1; omega, ?_⟩, h3⟩)
      show a + x3 - 1 ≤ GRT
      have : (128 : Int) ^ 28 + 3 ≤ GRT := by decide
      omega
  · refine dg (gd3 h1) (by decide) (bg (by decide)) fun x2 s2 a2 b2 h2 => Ok.guard ⟨by simp only; omega, by simp only; omega⟩ ?_
    refine Ok.bind (Ok.forL (fun xs (s : Int × List Int) => 0 ≤ s.1 ∧ (s.1 + 1) * 10000000000 ^ xs.length ≤ GRT ∧ s.2.length = 3) ?_ ⟨by show (0 : Int) ≤ 0; decide, ?_, h2⟩) ?_
    · rintro x xs ⟨a, s⟩ ⟨i1, i2, i3⟩
      simp only at i1 i2 i3
      refine dg (gd3 i3) (by decide) (bg (by decide)) fun x3 s3 a3 b3 h3 => Ok.pure ⟨_, rfl, by show 0 ≤ a * 10000000000 + x3; omega, ?_, h3⟩
      show (a * 10000000000 + x3 + 1) * 10000000000 ^ xs.length ≤ GRT
      rw [List.length_cons, Int.pow_succ, Int.mul_comm (10000000000 ^ xs.length) 10000000000, ← Int.mul_assoc] at i2
      exact Int.le_trans (Int.mul_le_mul_of_nonneg_right (by omega) (Int.pow_nonneg (by decide))) i2
    · rw [rngI_len']
      show (0 + 1) * (10000000000 : Int) ^ (1 + x2).toNat ≤ GRT
      rw [Int.zero_add, Int.one_mul]
      exact Int.le_trans (b := (10000000000 : Int) ^ 6) (ipow_le (b := 10000000000) (by omega)) (by decide)
    · rintro r ⟨⟨a, s⟩, rfl, i1, i2, i3⟩
      rw [List.length_nil, Int.pow_zero, Int.mul_one] at i2
      have i2 : a + 1 ≤ GRT := i2
      have i1 : 0 ≤ a := i1
      exact Ok.after' (Ok.pure ⟨⟨i1, by show a ≤ GRT; omega⟩, i3⟩)
theorem odds_ok {st row : List Int} (h : st.length = 3) (hl : row.length ≤ 400000) (hb : ∀ b ∈ row, Byt b) : Ok (l_odds st row) fun r => r.1 = true := by
  unfold l_odds
  refine dg (gd3 h) (by decide) (bg (by decide)) fun x1 s1 a1 b1 h1 => Ok.ixm a1 b1 fun pl mp => ?_
  refine Ok.bind (odd_ok (gd3 h1) hl hb) ?_
  rintro ⟨od, s2⟩ ⟨⟨o1, o2⟩, h2⟩
  simp only at o1 o2 h2 ⊢
  refine dg (gd3 h2) (by decide) (bg (by decide)) fun x3 s3 a3 b3 h3 => Ok.ixm a3 b3 fun nu mn => ?_
  have hp : isWhole pl 0 (row.length : Int) = false := by
    simp only [List.mem_cons, List.not_mem_nil, or_false] at mp
    rcases mp with rfl | rfl | rfl | rfl | rfl | rfl | rfl | rfl
    · rfl
    · show (decide (0 ≤ (row.length : Int) + 1) && decide ((row.length : Int) + 1 ≤ (row.length : Int))) = false
      rw [decide_eq_false (p := (row.length : Int) + 1 ≤ (row.length : Int)) (by omega), Bool.and_false]
    · rfl
    · rfl
    · rfl
    · rfl
    · rfl
    · show (decide (0 ≤ (row.length : Int) + 70) && decide ((row.length : Int) + 70 ≤ (row.length : Int))) = false
      rw [decide_eq_false (p := (row.length : Int) + 70 ≤ (row.length : Int)) (by omega), Bool.and_false]
  have hn : isWhole nu 0 GRT = false := by
    simp only [List.mem_cons, List.not_mem_nil, or_false] at mn
    rcases mn with rfl | rfl | rfl | rfl | rfl | rfl | rfl | rfl <;> rfl
  have wb : ∀ d : D, l_word ((m_read_number od d).bind fun x => .ok (enc x)) = .ok (enc (⟨("bytes" : Str), false⟩ : Tp2 Str Bool)) := fun d => by
    rw [read_no (place_row o2 o1)]
    exact word_b
  refine Ok.bindE (wb _) (Ok.guard (same (tb_ok (by decide +kernel))).1 (Ok.iteF (by rw [(same (tb_ok (by decide +kernel))).2]; rfl) ?_))
  refine Ok.bindE (wb _) (Ok.guard (same (tb_ok (by decide +kernel))).1 (Ok.iteF (by rw [(same (tb_ok (by decide +kernel))).2]; rfl) ?_))
  refine Ok.bindE (a := enc (⟨("place" : Str), false⟩ : Tp2 Str Bool)) (by rw [read_no (place_no (by omega) hb hp)]; exact word_p) (Ok.guard (same (tb_ok (by decide +kernel))).1 (Ok.iteF (by rw [(same (tb_ok (by decide +kernel))).2]; rfl) ?_))
  have e8 := same (tb_ok (s := "number") (b := false) (by decide +kernel))
  exact Ok.bindE (a := enc (⟨("number" : Str), false⟩ : Tp2 Str Bool)) (by rw [written_no hn]; exact word_n) (Ok.guard e8.1 (Ok.pure e8.2))
theorem byt_set {l : List Int} {i : Nat} {x : Int} (h : ∀ b ∈ l, Byt b) (hx : Byt x) : ∀ b ∈ l.set i x, Byt b := fun b m => by
  rcases List.mem_or_eq_of_mem_set m with m | rfl
  · exact h b m
  · exact hx
theorem tms_len (x : Int) (n : Int) : (timesL [x] n).length = n.toNat := by
  unfold timesL
  simp
theorem tms_mem {x n b : Int} (m : b ∈ timesL [x] n) : b = x := by
  unfold timesL at m
  simp at m
  exact m.2
theorem law_ok (ns : List Int) (h : ns.length ≤ 63) : m_law ns = .ok true := by
  refine ok_eq ?_
  unfold m_law
  have c0 := cutL_len (l := ns) (lo := none) (hi := some 10)
  refine Ok.guard (by show _ + 2 ≤ _; omega) (Ok.bind (Ok.for (fun _ => True) ?_ trivial) ?_)
  · rintro x ⟨_, _⟩ - -
    refine Ok.bind (number_ok (.inl rfl)) ?_
    rintro ⟨n, s1⟩ ⟨⟨n0, n1⟩, h1⟩
    simp only at n0 n1 h1 ⊢
    obtain ⟨m, rfl⟩ : ∃ m : Nat, n = (m : Int) := ⟨n.toNat, by omega⟩
    have wl : (wr m).length ≤ 29 := wr_len (k := 28) (by have : GRT < ((128 ^ 29 : Nat) : Int) := (by decide +kernel); omega)
    have hw : (m_written (enc (m : Int))).noErr = .ok (wr m) := by rw [written_d n1]; rfl
    refine Ok.bindE hw (Ok.bindE (plain_ints (by omega)) (Ok.iteT rfl (Ok.bindE (figures_l n1) (Ok.guard (ok_rows _ _) (Ok.iteF (by rw [eq_row]; rfl) (Ok.guard (by omega) ?_))))))
    refine dg (gd3 h1) (by decide) (bg (by decide)) fun d1 s2 a2 b2 h2 => ?_
    refine Ok.bind (bytes_l (gd3 h2) a2 (by simp only; omega)) ?_
    rintro ⟨r1, s3⟩ ⟨hr1, hl1, h3⟩
    simp only at hr1 hl1 h3 ⊢
    refine Ok.bindE (figures_l n1) (Ok.guard (by omega) ?_)
    refine dg (gd3 h3) (by decide) (bg (by decide)) fun d2 s4 a4 b4 h4 => ?_
    refine Ok.bind (bytes_l (gd3 h4) a4 (by simp only; omega)) ?_
    rintro ⟨r2, s5⟩ ⟨hr2, hl2, h5⟩
    simp only at hr2 hl2 h5 ⊢
    obtain ⟨row, erow⟩ : ∃ row, row = (r1 ++ wr m) ++ r2 := ⟨_, rfl⟩
    have hlen : row.length = r1.length + (wr m).length + r2.length := by rw [erow, List.length_append, List.length_append]
    have hrow : ∀ b ∈ row, Byt b := by rw [erow]; exact byt_app (byt_app hr1 wr_byt) hr2
    refine Ok.guard (by rw [List.length_append]; omega) (Ok.bindE hw (Ok.bindE (figures_l n1) (Ok.guard (ok_rows _ _) (Ok.iteF (by rw [eq_row]; rfl) (Ok.bindE (figures_l n1) ?_)))))
    have hrd : (m_read_number (enc (wr m)) (enc ((0 : Int) : Int))).noErr = .ok (⟨(m : Int), ((wr m).length : Int)⟩ : Tp2 Int Int) := by
      have e := read_m (row := wr m) (k := 0) (by omega) wr_byt (Nat.zero_le _)
      have e2 := numb_wr (k := 0) (s := []) n1
      rw [List.append_nil, Nat.zero_add] at e2
      rw [List.drop_zero, e2] at e
      show (m_read_number (enc (wr m)) (enc ((0 : Nat) : Int))).noErr = _
      rw [e]
      rfl
    refine Ok.bindE hrd ?_
    have e7 : (((wr m ++ ([7] : List Int)).length : Int) - 1) = ((wr m).length : Int) := by rw [List.length_append, List.length_singleton]; omega
    rw [e7]
    refine Ok.guard (same ti_ok).1 (Ok.iteF (by rw [(same ti_ok).2]; rfl) ?_)
    rw [← erow]
    have wn := wr_ne m
    refine dg (gd3 h5) (by decide) (bg (by decide)) fun d3 s6 a6 b6 h6 => ?_
    refine dg (gd3 h6) (by omega) (bg (by omega)) fun d4 s7 a7 b7 h7 => ?_
    refine Ok.bindE (setR_in a7 b7) ?_
    refine dg (gd3 h7) (by decide) (bg (by decide)) fun d5 s8 a8 b8 h8 => ?_
    refine dg (gd3 h8) (by decide) (bg (by decide)) fun d6 s9 a9 b9 h9 => ?_
    refine Ok.guard ⟨by show 1 * _ ≤ _; simp only; omega, by simp only; omega, by simp only; omega⟩ ?_
    refine dg (gd3 h9) (by decide) (bg (by decide)) fun d7 s10 a10 b10 h10 => ?_
    have lt1 := tms_len (129 + d5) (20 + d6)
    refine Ok.guard (by show (timesL [129 + d5] (20 + d6)).length + 1 ≤ _; omega) ?_
    refine Ok.bind (Ok.for (fun _ => True) ?_ trivial) ?_
    · intro some_ _ ms _
      have hs : some_.length ≤ 200 ∧ ∀ b ∈ some_, Byt b := by
        simp only [List.mem_cons, List.not_mem_nil, or_false] at ms
        rcases ms with rfl | rfl | rfl | rfl
        · exact ⟨by omega, hrow⟩
        · exact ⟨by rw [List.length_set]; omega, byt_set hrow ⟨a6, by omega⟩⟩
        · refine ⟨by rw [List.length_append, List.length_singleton]; omega, byt_app (fun b q => ?_) fun b q => ?_⟩
          · rw [tms_mem q]; exact ⟨by omega, by omega⟩
          · rw [List.mem_singleton.mp q]; exact ⟨a10, by omega⟩
        · exact ⟨by decide, fun b q => nomatch q⟩
      refine Ok.guard ⟨by omega, by omega⟩ (Ok.bind (Ok.for (fun _ => True) ?_ trivial) ?_)
      · intro at_ _ ma _
        obtain ⟨q0, q1⟩ := mem_rg ma
        obtain ⟨k, rfl⟩ : ∃ k : Nat, at_ = (k : Int) := ⟨at_.toNat, by omega⟩
        have hr := reads_ok (k := k) (by omega : some_.length ≤ 900000) hs.2 (by omega)
        refine Ok.guard (ok_rows _ _) (Ok.ite (fun _ => Ok.bindE hr (Ok.iteT rfl (Ok.pure ⟨_, rfl, trivial⟩))) fun _ => Ok.ite (fun _ => Ok.bindE hr (Ok.iteT rfl (Ok.pure ⟨_, rfl, trivial⟩))) fun _ => Ok.pure ⟨_, rfl, trivial⟩)
      · rintro r ⟨s', rfl, -⟩
        exact Ok.after' (Ok.pure ⟨_, rfl, trivial⟩)
    · rintro r ⟨s', rfl, -⟩
      refine Ok.after' (Ok.bind (odds_ok h10 (by omega) hrow) ?_)
      rintro ⟨b, s11⟩ hb
      simp only at hb
      subst hb
      exact Ok.iteT rfl (Ok.pure ⟨_, rfl, trivial⟩)
  · rintro r ⟨s', rfl, -⟩
    exact Ok.after' (Ok.pure rfl)
end A

set_option Elab.async false
set_option linter.all false
set_option maxRecDepth 100000
set_option maxHeartbeats 4000000
namespace A
open PySem PySem.Spec PyProof.Rows L2 Y
open Y.Enc (enc)
theorem all_mk {l : PySem.W.OpenLaw} {w : World} {K : PySem.W.Frag} {h : Heap} {mg : Str → Option Value} {fa : Addr} (X : K.In h) (G : h.Ns mainGlobals mg) (hfa : mg "law" = some (.ref fa))
    {f_is_whole : Addr} {od_is_whole an_is_whole : Option Addr} {sl_is_whole : Array (Option Value)} {oc_is_whole kV_is_whole dc_is_whole pm_is_whole cd_is_whole ct_is_whole : Value}
    (a_is_whole : PySem.W.nsIn K mainGlobals "is_whole" = some (some (.ref f_is_whole))) (l_is_whole : K.lookup f_is_whole = some ⟨oc_is_whole, od_is_whole, .func (PySem.W.fnOf "is_whole" "is_whole" (defArgs s_is_whole) (defBody s_is_whole) (defScope s_is_whole) .none kV_is_whole dc_is_whole pm_is_whole an_is_whole cd_is_whole ct_is_whole), sl_is_whole⟩) (c_is_whole : PySem.W.codeIn K cd_is_whole "is_whole" = true) (k_is_whole : PySem.W.keepIn K (.ref f_is_whole) = true)
    {f_is_bytes : Addr} {od_is_bytes an_is_bytes : Option Addr} {sl_is_bytes : Array (Option Value)} {oc_is_bytes kV_is_bytes dc_is_bytes pm_is_bytes cd_is_bytes ct_is_bytes : Value}
    (a_is_bytes : PySem.W.nsIn K mainGlobals "is_bytes" = some (some (.ref f_is_bytes))) (l_is_bytes : K.lookup f_is_bytes = some ⟨oc_is_bytes, od_is_bytes, .func (PySem.W.fnOf "is_bytes" "is_bytes" (defArgs s_is_bytes) (defBody s_is_bytes) (defScope s_is_bytes) .none kV_is_bytes dc_is_bytes pm_is_bytes an_is_bytes cd_is_bytes ct_is_bytes), sl_is_bytes⟩) (c_is_bytes : PySem.W.codeIn K cd_is_bytes "is_bytes" = true) (k_is_bytes : PySem.W.keepIn K (.ref f_is_bytes) = true)
    {f_sure_row : Addr} {od_sure_row an_sure_row : Option Addr} {sl_sure_row : Array (Option Value)} {oc_sure_row kV_sure_row dc_sure_row pm_sure_row cd_sure_row ct_sure_row : Value}
    (a_sure_row : PySem.W.nsIn K mainGlobals "sure_row" = some (some (.ref f_sure_row))) (l_sure_row : K.lookup f_sure_row = some ⟨oc_sure_row, od_sure_row, .func (PySem.W.fnOf "sure_row" "sure_row" (defArgs s_sure_row) (defBody s_sure_row) (defScope s_sure_row) .none kV_sure_row dc_sure_row pm_sure_row an_sure_row cd_sure_row ct_sure_row), sl_sure_row⟩) (c_sure_row : PySem.W.codeIn K cd_sure_row "sure_row" = true) (k_sure_row : PySem.W.keepIn K (.ref f_sure_row) = true)
    {f_sure_place : Addr} {od_sure_place an_sure_place : Option Addr} {sl_sure_place : Array (Option Value)} {oc_sure_place kV_sure_place dc_sure_place pm_sure_place cd_sure_place ct_sure_place : Value}
    (a_sure_place : PySem.W.nsIn K mainGlobals "sure_place" = some (some (.ref f_sure_place))) (l_sure_place : K.lookup f_sure_place = some ⟨oc_sure_place, od_sure_place, .func (PySem.W.fnOf "sure_place" "sure_place" (defArgs s_sure_place) (defBody s_sure_place) (defScope s_sure_place) .none kV_sure_place dc_sure_place pm_sure_place an_sure_place cd_sure_place ct_sure_place), sl_sure_place⟩) (c_sure_place : PySem.W.codeIn K cd_sure_place "sure_place" = true) (k_sure_place : PySem.W.keepIn K (.ref f_sure_place) = true)
    {f_written : Addr} {od_written an_written : Option Addr} {sl_written : Array (Option Value)} {oc_written kV_written dc_written pm_written cd_written ct_written : Value}
    (a_written : PySem.W.nsIn K mainGlobals "written" = some (some (.ref f_written))) (l_written : K.lookup f_written = some ⟨oc_written, od_written, .func (PySem.W.fnOf "written" "written" (defArgs s_written) (defBody s_written) (defScope s_written) .none kV_written dc_written pm_written an_written cd_written ct_written), sl_written⟩) (c_written : PySem.W.codeIn K cd_written "written" = true) (k_written : PySem.W.keepIn K (.ref f_written) = true)
    {f_number_at : Addr} {od_number_at an_number_at : Option Addr} {sl_number_at : Array (Option Value)} {oc_number_at kV_number_at dc_number_at pm_number_at cd_number_at ct_number_at : Value}
    (a_number_at : PySem.W.nsIn K mainGlobals "number_at" = some (some (.ref f_number_at))) (l_number_at : K.lookup f_number_at = some ⟨oc_number_at, od_number_at, .func (PySem.W.fnOf "number_at" "number_at" (defArgs s_number_at) (defBody s_number_at) (defScope s_number_at) .none kV_number_at dc_number_at pm_number_at an_number_at cd_number_at ct_number_at), sl_number_at⟩) (c_number_at : PySem.W.codeIn K cd_number_at "number_at" = true) (k_number_at : PySem.W.keepIn K (.ref f_number_at) = true)
    {f_read_number : Addr} {od_read_number an_read_number : Option Addr} {sl_read_number : Array (Option Value)} {oc_read_number kV_read_number dc_read_number pm_read_number cd_read_number ct_read_number : Value} {T_read_number_ : Addr} {oT_read_number : Value} {dT_read_number : Option Addr} {nT_read_number : Nat} {sT_read_number : Array (Option Value)} {tk_read_number_at : Tok}
    (a_read_number : PySem.W.nsIn K mainGlobals "read_number" = some (some (.ref f_read_number))) (l_read_number : K.lookup f_read_number = some ⟨oc_read_number, od_read_number, .func (PySem.W.fnOf "read_number" "read_number" (defArgs s_read_number) (defBody s_read_number) (defScope s_read_number) (.ref T_read_number_) kV_read_number dc_read_number pm_read_number an_read_number cd_read_number ct_read_number), sl_read_number⟩) (c_read_number : PySem.W.codeIn K cd_read_number "read_number" = true) (k_read_number : PySem.W.keepIn K (.ref f_read_number) = true)
    (lT_read_number : K.lookup T_read_number_ = some ⟨oT_read_number, dT_read_number, .seq #[.int 0 tk_read_number_at] nT_read_number, sT_read_number⟩)
    {f__law_digit : Addr} {od__law_digit an__law_digit : Option Addr} {sl__law_digit : Array (Option Value)} {oc__law_digit kV__law_digit dc__law_digit pm__law_digit cd__law_digit ct__law_digit : Value}
    (a__law_digit : PySem.W.nsIn K mainGlobals "_law_digit" = some (some (.ref f__law_digit))) (l__law_digit : K.lookup f__law_digit = some ⟨oc__law_digit, od__law_digit, .func (PySem.W.fnOf "_law_digit" "_law_digit" (defArgs s__law_digit) (defBody s__law_digit) (defScope s__law_digit) .none kV__law_digit dc__law_digit pm__law_digit an__law_digit cd__law_digit ct__law_digit), sl__law_digit⟩) (c__law_digit : PySem.W.codeIn K cd__law_digit "_law_digit" = true) (k__law_digit : PySem.W.keepIn K (.ref f__law_digit) = true)
    {f__law_figures : Addr} {od__law_figures an__law_figures : Option Addr} {sl__law_figures : Array (Option Value)} {oc__law_figures kV__law_figures dc__law_figures pm__law_figures cd__law_figures ct__law_figures : Value}
    (a__law_figures : PySem.W.nsIn K mainGlobals "_law_figures" = some (some (.ref f__law_figures))) (l__law_figures : K.lookup f__law_figures = some ⟨oc__law_figures, od__law_figures, .func (PySem.W.fnOf "_law_figures" "_law_figures" (defArgs s__law_figures) (defBody s__law_figures) (defScope s__law_figures) .none kV__law_figures dc__law_figures pm__law_figures an__law_figures cd__law_figures ct__law_figures), sl__law_figures⟩) (c__law_figures : PySem.W.codeIn K cd__law_figures "_law_figures" = true) (k__law_figures : PySem.W.keepIn K (.ref f__law_figures) = true)
    {f__law_number_at : Addr} {od__law_number_at an__law_number_at : Option Addr} {sl__law_number_at : Array (Option Value)} {oc__law_number_at kV__law_number_at dc__law_number_at pm__law_number_at cd__law_number_at ct__law_number_at : Value}
    (a__law_number_at : PySem.W.nsIn K mainGlobals "_law_number_at" = some (some (.ref f__law_number_at))) (l__law_number_at : K.lookup f__law_number_at = some ⟨oc__law_number_at, od__law_number_at, .func (PySem.W.fnOf "_law_number_at" "_law_number_at" (defArgs s__law_number_at) (defBody s__law_number_at) (defScope s__law_number_at) .none kV__law_number_at dc__law_number_at pm__law_number_at an__law_number_at cd__law_number_at ct__law_number_at), sl__law_number_at⟩) (c__law_number_at : PySem.W.codeIn K cd__law_number_at "_law_number_at" = true) (k__law_number_at : PySem.W.keepIn K (.ref f__law_number_at) = true)
    {f__law_odd_row : Addr} {od__law_odd_row an__law_odd_row : Option Addr} {sl__law_odd_row : Array (Option Value)} {oc__law_odd_row kV__law_odd_row dc__law_odd_row pm__law_odd_row cd__law_odd_row ct__law_odd_row : Value}
    (a__law_odd_row : PySem.W.nsIn K mainGlobals "_law_odd_row" = some (some (.ref f__law_odd_row))) (l__law_odd_row : K.lookup f__law_odd_row = some ⟨oc__law_odd_row, od__law_odd_row, .func (PySem.W.fnOf "_law_odd_row" "_law_odd_row" (defArgs s__law_odd_row) (defBody s__law_odd_row) (defScope s__law_odd_row) .none kV__law_odd_row dc__law_odd_row pm__law_odd_row an__law_odd_row cd__law_odd_row ct__law_odd_row), sl__law_odd_row⟩) (c__law_odd_row : PySem.W.codeIn K cd__law_odd_row "_law_odd_row" = true) (k__law_odd_row : PySem.W.keepIn K (.ref f__law_odd_row) = true)
    {f__law_bytes : Addr} {od__law_bytes an__law_bytes : Option Addr} {sl__law_bytes : Array (Option Value)} {oc__law_bytes kV__law_bytes dc__law_bytes pm__law_bytes cd__law_bytes ct__law_bytes : Value}
    (a__law_bytes : PySem.W.nsIn K mainGlobals "_law_bytes" = some (some (.ref f__law_bytes))) (l__law_bytes : K.lookup f__law_bytes = some ⟨oc__law_bytes, od__law_bytes, .func (PySem.W.fnOf "_law_bytes" "_law_bytes" (defArgs s__law_bytes) (defBody s__law_bytes) (defScope s__law_bytes) .none kV__law_bytes dc__law_bytes pm__law_bytes an__law_bytes cd__law_bytes ct__law_bytes), sl__law_bytes⟩) (c__law_bytes : PySem.W.codeIn K cd__law_bytes "_law_bytes" = true) (k__law_bytes : PySem.W.keepIn K (.ref f__law_bytes) = true)
    {f__law_number : Addr} {od__law_number an__law_number : Option Addr} {sl__law_number : Array (Option Value)} {oc__law_number kV__law_number dc__law_number pm__law_number cd__law_number ct__law_number : Value}
    (a__law_number : PySem.W.nsIn K mainGlobals "_law_number" = some (some (.ref f__law_number))) (l__law_number : K.lookup f__law_number = some ⟨oc__law_number, od__law_number, .func (PySem.W.fnOf "_law_number" "_law_number" (defArgs s__law_number) (defBody s__law_number) (defScope s__law_number) .none kV__law_number dc__law_number pm__law_number an__law_number cd__law_number ct__law_number), sl__law_number⟩) (c__law_number : PySem.W.codeIn K cd__law_number "_law_number" = true) (k__law_number : PySem.W.keepIn K (.ref f__law_number) = true)
    {f__law_word : Addr} {od__law_word an__law_word : Option Addr} {sl__law_word : Array (Option Value)} {oc__law_word kV__law_word dc__law_word pm__law_word cd__law_word ct__law_word : Value}
    (a__law_word : PySem.W.nsIn K mainGlobals "_law_word" = some (some (.ref f__law_word))) (l__law_word : K.lookup f__law_word = some ⟨oc__law_word, od__law_word, .func (PySem.W.fnOf "_law_word" "_law_word" (defArgs s__law_word) (defBody s__law_word) (defScope s__law_word) .none kV__law_word dc__law_word pm__law_word an__law_word cd__law_word ct__law_word), sl__law_word⟩) (c__law_word : PySem.W.codeIn K cd__law_word "_law_word" = true) (k__law_word : PySem.W.keepIn K (.ref f__law_word) = true)
    {f__law_plain : Addr} {od__law_plain an__law_plain : Option Addr} {sl__law_plain : Array (Option Value)} {oc__law_plain kV__law_plain dc__law_plain pm__law_plain cd__law_plain ct__law_plain : Value}
    (a__law_plain : PySem.W.nsIn K mainGlobals "_law_plain" = some (some (.ref f__law_plain))) (l__law_plain : K.lookup f__law_plain = some ⟨oc__law_plain, od__law_plain, .func (PySem.W.fnOf "_law_plain" "_law_plain" (defArgs s__law_plain) (defBody s__law_plain) (defScope s__law_plain) .none kV__law_plain dc__law_plain pm__law_plain an__law_plain cd__law_plain ct__law_plain), sl__law_plain⟩) (c__law_plain : PySem.W.codeIn K cd__law_plain "_law_plain" = true) (k__law_plain : PySem.W.keepIn K (.ref f__law_plain) = true)
    {cc__law_reads P__law_reads : Addr} {occ__law_reads : Value} {odc__law_reads : Option Addr} {vsc__law_reads : Array Value} {slc__law_reads : Array (Option Value)}
    {f__law_reads : Addr} {od__law_reads an__law_reads : Option Addr} {sl__law_reads : Array (Option Value)} {oc__law_reads kV__law_reads dc__law_reads pm__law_reads ct__law_reads : Value}
    (a__law_reads : PySem.W.nsIn K mainGlobals "_law_reads" = some (some (.ref f__law_reads))) (l__law_reads : K.lookup f__law_reads = some ⟨oc__law_reads, od__law_reads, .func (PySem.W.fnOf "_law_reads" "_law_reads" (defArgs s__law_reads) (defBody s__law_reads) (defScope s__law_reads) .none kV__law_reads dc__law_reads pm__law_reads an__law_reads (.ref cc__law_reads) ct__law_reads), sl__law_reads⟩) (c__law_reads : PySem.W.codeIn K (.ref cc__law_reads) "_law_reads" = true) (k__law_reads : PySem.W.keepIn K (.ref f__law_reads) = true)
    (lc__law_reads : K.lookup cc__law_reads = some ⟨occ__law_reads, odc__law_reads, .fields vsc__law_reads, slc__law_reads⟩) (v11__law_reads : vsc__law_reads[11]? = some (.ref P__law_reads)) (ch__law_reads : PySem.W.codeHdIn K cc__law_reads P__law_reads = true) (nt__law_reads : K.lookup P__law_reads = none)
    {cc__law_odds P__law_odds : Addr} {occ__law_odds : Value} {odc__law_odds : Option Addr} {vsc__law_odds : Array Value} {slc__law_odds : Array (Option Value)}
    {f__law_odds : Addr} {od__law_odds an__law_odds : Option Addr} {sl__law_odds : Array (Option Value)} {oc__law_odds kV__law_odds dc__law_odds pm__law_odds ct__law_odds : Value}
    (a__law_odds : PySem.W.nsIn K mainGlobals "_law_odds" = some (some (.ref f__law_odds))) (l__law_odds : K.lookup f__law_odds = some ⟨oc__law_odds, od__law_odds, .func (PySem.W.fnOf "_law_odds" "_law_odds" (defArgs s__law_odds) (defBody s__law_odds) (defScope s__law_odds) .none kV__law_odds dc__law_odds pm__law_odds an__law_odds (.ref cc__law_odds) ct__law_odds), sl__law_odds⟩) (c__law_odds : PySem.W.codeIn K (.ref cc__law_odds) "_law_odds" = true) (k__law_odds : PySem.W.keepIn K (.ref f__law_odds) = true)
    (lc__law_odds : K.lookup cc__law_odds = some ⟨occ__law_odds, odc__law_odds, .fields vsc__law_odds, slc__law_odds⟩) (v11__law_odds : vsc__law_odds[11]? = some (.ref P__law_odds)) (ch__law_odds : PySem.W.codeHdIn K cc__law_odds P__law_odds = true) (nt__law_odds : K.lookup P__law_odds = none)
    {f_law : Addr} {od_law an_law : Option Addr} {sl_law : Array (Option Value)} {oc_law kV_law dc_law pm_law cd_law ct_law : Value}
    (a_law : PySem.W.nsIn K mainGlobals "law" = some (some (.ref f_law))) (l_law : K.lookup f_law = some ⟨oc_law, od_law, .func (PySem.W.fnOf "law" "law" (defArgs s_law) (defBody s_law) (defScope s_law) .none kV_law dc_law pm_law an_law cd_law ct_law), sl_law⟩) (c_law : PySem.W.codeIn K cd_law "law" = true) (k_law : PySem.W.keepIn K (.ref f_law) = true)
    {C_NoBytes : Addr}
    (xca_NoBytes : PySem.W.nsIn K mainGlobals "NoBytes" = some (some (.ref C_NoBytes)))
    (xchg_NoBytes : PySem.W.findIn K (.ref C_NoBytes) "__getattribute__" = some (some (.builtin "BaseException.__getattribute__")))
    (xchk_NoBytes : PySem.W.findIn K (.ref C_NoBytes) "__getattr__" = some none)
    (xchs_NoBytes : PySem.W.subIn K (.ref C_NoBytes) (.type "BaseException") = some true)
    (xchd_NoBytes : PySem.W.hasDictIn K C_NoBytes = true)
    (xcha_NoBytes : PySem.W.findIn K (.ref C_NoBytes) "__class__" = some (some (.builtin "object.__class__")))
    (xchm_NoBytes : PySem.W.mroIn K C_NoBytes (.type "object") = some true)
    (xcty_NoBytes : PySem.W.typeIn K (.ref C_NoBytes) = some (.type "type"))
    (xckp_NoBytes : PySem.W.keepIn K (.ref C_NoBytes) = true)
    (xcve_NoBytes : PySem.W.subIn K (.ref C_NoBytes) (.type "ValueError") = some true)
    (xcis_NoBytes : PySem.W.isClsIn K C_NoBytes = true)
    (xcself_NoBytes : PySem.W.subIn K (.ref C_NoBytes) (.ref C_NoBytes) = some true)
    (xcex_NoBytes : PySem.W.excIn K C_NoBytes [.type "ValueError", .type "Exception", .type "BaseException", .type "object"] "ValueError.__new__" = true)
    {C_NoPlace : Addr}
    (xca_NoPlace : PySem.W.nsIn K mainGlobals "NoPlace" = some (some (.ref C_NoPlace)))
    (xchg_NoPlace : PySem.W.findIn K (.ref C_NoPlace) "__getattribute__" = some (some (.builtin "BaseException.__getattribute__")))
    (xchk_NoPlace : PySem.W.findIn K (.ref C_NoPlace) "__getattr__" = some none)
    (xchs_NoPlace : PySem.W.subIn K (.ref C_NoPlace) (.type "BaseException") = some true)
    (xchd_NoPlace : PySem.W.hasDictIn K C_NoPlace = true)
    (xcha_NoPlace : PySem.W.findIn K (.ref C_NoPlace) "__class__" = some (some (.builtin "object.__class__")))
    (xchm_NoPlace : PySem.W.mroIn K C_NoPlace (.type "object") = some true)
    (xcty_NoPlace : PySem.W.typeIn K (.ref C_NoPlace) = some (.type "type"))
    (xckp_NoPlace : PySem.W.keepIn K (.ref C_NoPlace) = true)
    (xcve_NoPlace : PySem.W.subIn K (.ref C_NoPlace) (.type "ValueError") = some true)
    (xcis_NoPlace : PySem.W.isClsIn K C_NoPlace = true)
    (xcself_NoPlace : PySem.W.subIn K (.ref C_NoPlace) (.ref C_NoPlace) = some true)
    (xcex_NoPlace : PySem.W.excIn K C_NoPlace [.type "ValueError", .type "Exception", .type "BaseException", .type "object"] "ValueError.__new__" = true)
    {C_NoNumber : Addr}
    (xca_NoNumber : PySem.W.nsIn K mainGlobals "NoNumber" = some (some (.ref C_NoNumber)))
    (xchg_NoNumber : PySem.W.findIn K (.ref C_NoNumber) "__getattribute__" = some (some (.builtin "BaseException.__getattribute__")))
    (xchk_NoNumber : PySem.W.findIn K (.ref C_NoNumber) "__getattr__" = some none)
    (xchs_NoNumber : PySem.W.subIn K (.ref C_NoNumber) (.type "BaseException") = some true)
    (xchd_NoNumber : PySem.W.hasDictIn K C_NoNumber = true)
    (xcha_NoNumber : PySem.W.findIn K (.ref C_NoNumber) "__class__" = some (some (.builtin "object.__class__")))
    (xchm_NoNumber : PySem.W.mroIn K C_NoNumber (.type "object") = some true)
    (xcty_NoNumber : PySem.W.typeIn K (.ref C_NoNumber) = some (.type "type"))
    (xckp_NoNumber : PySem.W.keepIn K (.ref C_NoNumber) = true)
    (xcve_NoNumber : PySem.W.subIn K (.ref C_NoNumber) (.type "ValueError") = some true)
    (xcis_NoNumber : PySem.W.isClsIn K C_NoNumber = true)
    (xcself_NoNumber : PySem.W.subIn K (.ref C_NoNumber) (.ref C_NoNumber) = some true)
    (xcex_NoNumber : PySem.W.excIn K C_NoNumber [.type "ValueError", .type "Exception", .type "BaseException", .type "object"] "ValueError.__new__" = true)
    {C_ScrollError : Addr}
    (xca_ScrollError : PySem.W.nsIn K mainGlobals "ScrollError" = some (some (.ref C_ScrollError)))
    (xchg_ScrollError : PySem.W.findIn K (.ref C_ScrollError) "__getattribute__" = some (some (.builtin "BaseException.__getattribute__")))
    (xchk_ScrollError : PySem.W.findIn K (.ref C_ScrollError) "__getattr__" = some none)
    (xchs_ScrollError : PySem.W.subIn K (.ref C_ScrollError) (.type "BaseException") = some true)
    (xchd_ScrollError : PySem.W.hasDictIn K C_ScrollError = true)
    (xcha_ScrollError : PySem.W.findIn K (.ref C_ScrollError) "__class__" = some (some (.builtin "object.__class__")))
    (xchm_ScrollError : PySem.W.mroIn K C_ScrollError (.type "object") = some true)
    (xcty_ScrollError : PySem.W.typeIn K (.ref C_ScrollError) = some (.type "type"))
    (xckp_ScrollError : PySem.W.keepIn K (.ref C_ScrollError) = true)
    (xcve_ScrollError : PySem.W.subIn K (.ref C_ScrollError) (.type "ValueError") = some true)
    (xcis_ScrollError : PySem.W.isClsIn K C_ScrollError = true)
    (xcself_ScrollError : PySem.W.subIn K (.ref C_ScrollError) (.ref C_ScrollError) = some true)
    (xcex_ScrollError : PySem.W.excIn K C_ScrollError [.type "ValueError", .type "Exception", .type "BaseException", .type "object"] "ValueError.__new__" = true)
    {tkC_GREATEST : Tok} (cg_GREATEST : PySem.W.nsIn K mainGlobals "GREATEST" = some (some (.int 1000000000000000000000000000000000000000000000000000000000000 tkC_GREATEST)))
    (p_NoBytes_NoBytes : PySem.W.subIn K (.ref C_NoBytes) (.ref C_NoBytes) = some true)
    (p_NoBytes_NoNumber : PySem.W.subIn K (.ref C_NoBytes) (.ref C_NoNumber) = some false)
    (p_NoBytes_NoPlace : PySem.W.subIn K (.ref C_NoBytes) (.ref C_NoPlace) = some false)
    (p_NoNumber_NoBytes : PySem.W.subIn K (.ref C_NoNumber) (.ref C_NoBytes) = some false)
    (p_NoNumber_NoNumber : PySem.W.subIn K (.ref C_NoNumber) (.ref C_NoNumber) = some true)
    (p_NoNumber_NoPlace : PySem.W.subIn K (.ref C_NoNumber) (.ref C_NoPlace) = some false)
    (p_NoPlace_NoBytes : PySem.W.subIn K (.ref C_NoPlace) (.ref C_NoBytes) = some false)
    (p_NoPlace_NoNumber : PySem.W.subIn K (.ref C_NoPlace) (.ref C_NoNumber) = some false)
    (p_NoPlace_NoPlace : PySem.W.subIn K (.ref C_NoPlace) (.ref C_NoPlace) = some true)
    (xhn : PySem.W.specialIn K (.builtin "object.__class__") "__get__" = some (some (.builtin "getset_descriptor.__get__"))) (xht : PySem.W.takesIn K (.builtin "object.__class__") = some true)
    (z_isinstance : PySem.W.nsIn K mainGlobals "isinstance" = some none)
    (z_int : PySem.W.nsIn K mainGlobals "int" = some none)
    (z_bool : PySem.W.nsIn K mainGlobals "bool" = some none)
    (z_list : PySem.W.nsIn K mainGlobals "list" = some none)
    (z_all : PySem.W.nsIn K mainGlobals "all" = some none)
    (z_len : PySem.W.nsIn K mainGlobals "len" = some none)
    (z_range : PySem.W.nsIn K mainGlobals "range" = some none)
    (z_tuple : PySem.W.nsIn K mainGlobals "tuple" = some none)
    (np : P__law_reads ≠ P__law_odds)
    : ∃ (f1 c1 P1 f2 c2 P2 : Addr) (fd : FuncData), P1 ≠ P2 ∧ (mg "_law_reads" = some (.ref f1) ∧ CodeAt K f1 c1 P1) ∧ (mg "_law_odds" = some (.ref f2) ∧ CodeAt K f2 c2 P2) ∧ (∀ (s : Shared) (v : Value), BindsTo s fd ⟨[v], []⟩ [("_law_script", v)]) ∧ ∀ base : Heap, K.In base → base.Ns mainGlobals mg → LamX.TabB base mg c1 P1 → LamX.TabB base mg c2 P2 → FnOk l.prog w K mg base CX0 10 fa fd ["_law_script"] (spTop2 K P1 P2) := by
  have e := hfa.symm.trans (PySem.W.mg_of X G a_law)
  cases e
  have F_is_whole := fun_mk (st := s_is_whole) l_is_whole c_is_whole k_is_whole
  have b_is_whole := F_is_whole.binds (ps := ["thing", "low", "high"]) fun _ _ _ _ _ _ us hl => match us, hl with | [_, _, _], _ => rfl
  have g_is_whole := PySem.W.mg_of X G a_is_whole
  have F_is_bytes := fun_mk (st := s_is_bytes) l_is_bytes c_is_bytes k_is_bytes
  have b_is_bytes := F_is_bytes.binds (ps := ["thing"]) fun _ _ _ _ _ _ us hl => match us, hl with | [_], _ => rfl
  have g_is_bytes := PySem.W.mg_of X G a_is_bytes
  have F_sure_row := fun_mk (st := s_sure_row) l_sure_row c_sure_row k_sure_row
  have b_sure_row := F_sure_row.binds (ps := ["row"]) fun _ _ _ _ _ _ us hl => match us, hl with | [_], _ => rfl
  have g_sure_row := PySem.W.mg_of X G a_sure_row
  have F_sure_place := fun_mk (st := s_sure_place) l_sure_place c_sure_place k_sure_place
  have b_sure_place := F_sure_place.binds (ps := ["row", "at"]) fun _ _ _ _ _ _ us hl => match us, hl with | [_, _], _ => rfl
  have g_sure_place := PySem.W.mg_of X G a_sure_place
  have F_written := fun_mk (st := s_written) l_written c_written k_written
  have b_written := F_written.binds (ps := ["number"]) fun _ _ _ _ _ _ us hl => match us, hl with | [_], _ => rfl
  have g_written := PySem.W.mg_of X G a_written
  have F_number_at := fun_mk (st := s_number_at) l_number_at c_number_at k_number_at
  have b_number_at := F_number_at.binds (ps := ["row", "at"]) fun _ _ _ _ _ _ us hl => match us, hl with | [_, _], _ => rfl
  have g_number_at := PySem.W.mg_of X G a_number_at
  have F_read_number := funV_mk (st := s_read_number) (dv := [.int 0 tk_read_number_at]) l_read_number c_read_number k_read_number lT_read_number
  have b_read_number := (F_read_number.binds (ps := ["row", "at"]) 2 1 rfl (fun _ _ _ _ _ _ _ us hl => match us, hl with | [_, _], _ => ⟨_, rfl, rfl⟩) : L2.Binds K _ ["row", "at"] [])
  have b_read_number_1 := (F_read_number.binds (ps := ["row", "at"]) 1 0 rfl (fun _ _ _ _ _ _ _ us hl => match us, hl with | [_], _ => ⟨_, rfl, rfl⟩) : L2.Binds K _ ["row", "at"] [.int 0 tk_read_number_at])
  have g_read_number := PySem.W.mg_of X G a_read_number
  have F__law_digit := fun_mk (st := s__law_digit) l__law_digit c__law_digit k__law_digit
  have b__law_digit := F__law_digit.binds (ps := ["_law_state", "_law_base"]) fun _ _ _ _ _ _ us hl => match us, hl with | [_, _], _ => rfl
  have g__law_digit := PySem.W.mg_of X G a__law_digit
  have F__law_figures := fun_mk (st := s__law_figures) l__law_figures c__law_figures k__law_figures
  have b__law_figures := F__law_figures.binds (ps := ["_law_number_here"]) fun _ _ _ _ _ _ us hl => match us, hl with | [_], _ => rfl
  have g__law_figures := PySem.W.mg_of X G a__law_figures
  have F__law_number_at := fun_mk (st := s__law_number_at) l__law_number_at c__law_number_at k__law_number_at
  have b__law_number_at := F__law_number_at.binds (ps := ["_law_row", "_law_at"]) fun _ _ _ _ _ _ us hl => match us, hl with | [_, _], _ => rfl
  have g__law_number_at := PySem.W.mg_of X G a__law_number_at
  have F__law_odd_row := fun_mk (st := s__law_odd_row) l__law_odd_row c__law_odd_row k__law_odd_row
  have b__law_odd_row := F__law_odd_row.binds (ps := ["_law_state", "_law_row"]) fun _ _ _ _ _ _ us hl => match us, hl with | [_, _], _ => rfl
  have g__law_odd_row := PySem.W.mg_of X G a__law_odd_row
  have F__law_bytes := fun_mk (st := s__law_bytes) l__law_bytes c__law_bytes k__law_bytes
  have b__law_bytes := F__law_bytes.binds (ps := ["_law_state", "_law_many"]) fun _ _ _ _ _ _ us hl => match us, hl with | [_, _], _ => rfl
  have g__law_bytes := PySem.W.mg_of X G a__law_bytes
  have F__law_number := fun_mk (st := s__law_number) l__law_number c__law_number k__law_number
  have b__law_number := F__law_number.binds (ps := ["_law_state"]) fun _ _ _ _ _ _ us hl => match us, hl with | [_], _ => rfl
  have g__law_number := PySem.W.mg_of X G a__law_number
  have F__law_word := fun_mk (st := s__law_word) l__law_word c__law_word k__law_word
  have b__law_word := F__law_word.binds (ps := ["_law_ask"]) fun _ _ _ _ _ _ us hl => match us, hl with | [_], _ => rfl
  have g__law_word := PySem.W.mg_of X G a__law_word
  have F__law_plain := fun_mk (st := s__law_plain) l__law_plain c__law_plain k__law_plain
  have b__law_plain := F__law_plain.binds (ps := ["_law_row"]) fun _ _ _ _ _ _ us hl => match us, hl with | [_], _ => rfl
  have g__law_plain := PySem.W.mg_of X G a__law_plain
  have F__law_reads := fun_mk (st := s__law_reads) l__law_reads c__law_reads k__law_reads
  have FC__law_reads : FunC K "_law_reads" "_law_reads" s__law_reads f__law_reads _ cc__law_reads := ⟨⟨_, _, _, _, _, _, _, _, rfl, l__law_reads, c__law_reads⟩⟩
  have b__law_reads := F__law_reads.binds (ps := ["_law_row", "_law_at"]) fun _ _ _ _ _ _ us hl => match us, hl with | [_, _], _ => rfl
  have g__law_reads := PySem.W.mg_of X G a__law_reads
  have F__law_odds := fun_mk (st := s__law_odds) l__law_odds c__law_odds k__law_odds
  have FC__law_odds : FunC K "_law_odds" "_law_odds" s__law_odds f__law_odds _ cc__law_odds := ⟨⟨_, _, _, _, _, _, _, _, rfl, l__law_odds, c__law_odds⟩⟩
  have b__law_odds := F__law_odds.binds (ps := ["_law_state", "_law_row"]) fun _ _ _ _ _ _ us hl => match us, hl with | [_, _], _ => rfl
  have g__law_odds := PySem.W.mg_of X G a__law_odds
  have F_law := fun_mk (st := s_law) l_law c_law k_law
  have b_law := F_law.binds (ps := ["_law_script"]) fun _ _ _ _ _ _ us hl => match us, hl with | [_], _ => rfl
  have g_law := PySem.W.mg_of X G a_law
  have T_NoBytes : ExcR K mg "NoBytes" C_NoBytes := ⟨⟨PySem.W.mg_of X G xca_NoBytes, ⟨xchg_NoBytes, xchk_NoBytes, xchs_NoBytes, xchd_NoBytes, xcha_NoBytes, xhn, xht, xchm_NoBytes⟩, xcty_NoBytes, xckp_NoBytes, xcve_NoBytes, xcis_NoBytes, xcself_NoBytes⟩, xcex_NoBytes⟩
  have T_NoPlace : ExcR K mg "NoPlace" C_NoPlace := ⟨⟨PySem.W.mg_of X G xca_NoPlace, ⟨xchg_NoPlace, xchk_NoPlace, xchs_NoPlace, xchd_NoPlace, xcha_NoPlace, xhn, xht, xchm_NoPlace⟩, xcty_NoPlace, xckp_NoPlace, xcve_NoPlace, xcis_NoPlace, xcself_NoPlace⟩, xcex_NoPlace⟩
  have T_NoNumber : ExcR K mg "NoNumber" C_NoNumber := ⟨⟨PySem.W.mg_of X G xca_NoNumber, ⟨xchg_NoNumber, xchk_NoNumber, xchs_NoNumber, xchd_NoNumber, xcha_NoNumber, xhn, xht, xchm_NoNumber⟩, xcty_NoNumber, xckp_NoNumber, xcve_NoNumber, xcis_NoNumber, xcself_NoNumber⟩, xcex_NoNumber⟩
  have T_ScrollError : ExcR K mg "ScrollError" C_ScrollError := ⟨⟨PySem.W.mg_of X G xca_ScrollError, ⟨xchg_ScrollError, xchk_ScrollError, xchs_ScrollError, xchd_ScrollError, xcha_ScrollError, xhn, xht, xchm_ScrollError⟩, xcty_ScrollError, xckp_ScrollError, xcve_ScrollError, xcis_ScrollError, xcself_ScrollError⟩, xcex_ScrollError⟩
  have c_GREATEST : CI mg "GREATEST" 1000000000000000000000000000000000000000000000000000000000000 := ⟨⟨_, PySem.W.mg_of X G cg_GREATEST⟩⟩
  have bI_isinstance := PySem.W.mg_none_of X G z_isinstance
  have bI_int := PySem.W.mg_none_of X G z_int
  have bI_bool := PySem.W.mg_none_of X G z_bool
  have bI_list := PySem.W.mg_none_of X G z_list
  have bI_all := PySem.W.mg_none_of X G z_all
  have bI_len := PySem.W.mg_none_of X G z_len
  have bI_range := PySem.W.mg_none_of X G z_range
  have bI_tuple := PySem.W.mg_none_of X G z_tuple
  refine ⟨_, _, _, _, _, _, _, np, ⟨g__law_reads, ⟨⟨_, _, _, _, l__law_reads, rfl⟩, ⟨_, _, _, _, lc__law_reads, v11__law_reads⟩, ch__law_reads, nt__law_reads⟩⟩, ⟨g__law_odds, ⟨⟨_, _, _, _, l__law_odds, rfl⟩, ⟨_, _, _, _, lc__law_odds, v11__law_odds⟩, ch__law_odds, nt__law_odds⟩⟩, fun s v => (.of_eq rfl : BindsTo s (PySem.W.fnOf "law" "law" (defArgs s_law) (defBody s_law) (defScope s_law) .none kV_law dc_law pm_law an_law cd_law ct_law) ⟨[v], []⟩ [("_law_script", v)]), fun base _ _ tb__law_reads tb__law_odds => ?_⟩
  have G_is_whole := ok_is_whole (Pr := l.prog) (wo := w) (base := base) (mg := mg) F_is_whole bI_isinstance bI_int bI_bool
  have G_number_at := ok_number_at (Pr := l.prog) (wo := w) (base := base) (mg := mg) F_number_at c_GREATEST bI_len
  have G__law_digit := ok__law_digit (Pr := l.prog) (wo := w) (base := base) (mg := mg) F__law_digit bI_len
  have G__law_figures := ok__law_figures (Pr := l.prog) (wo := w) (base := base) (mg := mg) F__law_figures
  have G__law_number_at := ok__law_number_at (Pr := l.prog) (wo := w) (base := base) (mg := mg) F__law_number_at bI_range bI_len
  have G__law_word : ∀ (XX : Cx) (q : Str) (cdv : Value), XX.K = K → XX.mg = mg → LamX.GivesTo XX ["_law_ask", "e"] "_law_word" (defScope s__law_word) f__law_word cdv (defBody s__law_word) "_law_ask" q (TTw K mg l_word) := fun XX q cdv e1 e2 => by
    subst e1 e2
    exact gives_of (ok__law_word (Pr := XX.prog) (wo := XX.w) (base := XX.base) T_NoBytes T_NoPlace T_NoNumber T_ScrollError p_NoBytes_NoBytes p_NoBytes_NoNumber p_NoBytes_NoPlace p_NoNumber_NoBytes p_NoNumber_NoNumber p_NoNumber_NoPlace p_NoPlace_NoBytes p_NoPlace_NoNumber p_NoPlace_NoPlace bI_isinstance XX.A XX.stack q cdv)
  have G__law_plain := ok__law_plain (Pr := l.prog) (wo := w) (base := base) (mg := mg) F__law_plain bI_isinstance bI_list bI_all bI_int bI_bool
  have G_is_bytes := ok_is_bytes (Pr := l.prog) (wo := w) (base := base) (mg := mg) F_is_bytes g_is_whole k_is_whole b_is_whole G_is_whole bI_isinstance bI_list bI_all
  have G_written := ok_written (Pr := l.prog) (wo := w) (base := base) (mg := mg) F_written c_GREATEST T_NoNumber g_is_whole k_is_whole b_is_whole G_is_whole
  have G__law_odd_row := ok__law_odd_row (Pr := l.prog) (wo := w) (base := base) (mg := mg) F__law_odd_row g__law_digit k__law_digit b__law_digit G__law_digit bI_len bI_tuple
  have G__law_bytes := ok__law_bytes (Pr := l.prog) (wo := w) (base := base) (mg := mg) F__law_bytes g__law_digit k__law_digit b__law_digit G__law_digit bI_range
  have G__law_number := ok__law_number (Pr := l.prog) (wo := w) (base := base) (mg := mg) F__law_number g__law_digit k__law_digit b__law_digit G__law_digit bI_range
  have G_sure_row := ok_sure_row (Pr := l.prog) (wo := w) (base := base) (mg := mg) F_sure_row T_NoBytes g_is_bytes k_is_bytes b_is_bytes G_is_bytes
  have G_sure_place := ok_sure_place (Pr := l.prog) (wo := w) (base := base) (mg := mg) F_sure_place T_NoPlace g_sure_row k_sure_row b_sure_row G_sure_row g_is_whole k_is_whole b_is_whole G_is_whole bI_len
  have G_read_number := ok_read_number (Pr := l.prog) (wo := w) (base := base) (mg := mg) F_read_number T_NoNumber g_sure_place k_sure_place b_sure_place G_sure_place g_number_at k_number_at b_number_at G_number_at
  have G__law_reads := ok__law_reads (Pr := l.prog) (wo := w) (base := base) (mg := mg) FC__law_reads tb__law_reads g__law_number_at k__law_number_at b__law_number_at G__law_number_at g__law_word F__law_word b__law_word G__law_word g__law_plain k__law_plain b__law_plain G__law_plain g_read_number k_read_number b_read_number G_read_number bI_list bI_isinstance bI_tuple
  have G__law_odds := ok__law_odds (Pr := l.prog) (wo := w) (base := base) (mg := mg) FC__law_odds tb__law_odds g__law_odd_row k__law_odd_row b__law_odd_row G__law_odd_row g__law_digit k__law_digit b__law_digit G__law_digit g__law_word F__law_word b__law_word G__law_word g_read_number k_read_number b_read_number G_read_number g_written k_written b_written G_written bI_len b_read_number_1
  have G_law := ok_law (Pr := l.prog) (wo := w) (base := base) (mg := mg) F_law g__law_number k__law_number b__law_number G__law_number g_written k_written b_written G_written g__law_bytes k__law_bytes b__law_bytes G__law_bytes g__law_digit k__law_digit b__law_digit G__law_digit g__law_figures k__law_figures b__law_figures G__law_figures g_read_number k_read_number b_read_number G_read_number g__law_odds k__law_odds b__law_odds G__law_odds g__law_plain k__law_plain b__law_plain G__law_plain g__law_reads k__law_reads b__law_reads G__law_reads bI_list bI_range bI_len b_read_number_1
  exact G_law.imp fun vs H Q E h => top_of2 law_ok h
end A
open PySem PySem.W PyProof.Rows
set_option maxRecDepth 100000 in
set_option maxHeartbeats 0 in
theorem PySem.Challenge.cw_lanescroll_k31_numbers_in_bytes_holds : PySem.Challenge.rw_lanescroll_k31_numbers_in_bytes.Holds := by
  w_on; o_law; k_head; (case hw => w_witness2)
  k_fill
  refine Y.walk_topT (l := PySem.Challenge.rw_lanescroll_k31_numbers_in_bytes) (k := 10) (x := "_law_script") (y1 := "_law_reads") (y2 := "_law_odds") rfl rfl ⟨rfl, by decide, by decide⟩ (fun w h Y => PySem.W.km_in_of Y) (by decide +kernel) (by decide +kernel) ?F
  case F =>
    intro w mg fa h KX G hmg
    refine' A.all_mk KX G hmg ?a_is_whole ?l_is_whole ?c_is_whole ?k_is_whole ?a_is_bytes ?l_is_bytes ?c_is_bytes ?k_is_bytes ?a_sure_row ?l_sure_row ?c_sure_row ?k_sure_row ?a_sure_place ?l_sure_place ?c_sure_place ?k_sure_place ?a_written ?l_written ?c_written ?k_written ?a_number_at ?l_number_at ?c_number_at ?k_number_at ?a_read_number ?l_read_number ?c_read_number ?k_read_number ?lT_read_number ?a__law_digit ?l__law_digit ?c__law_digit ?k__law_digit ?a__law_figures ?l__law_figures ?c__law_figures ?k__law_figures ?a__law_number_at ?l__law_number_at ?c__law_number_at ?k__law_number_at ?a__law_odd_row ?l__law_odd_row ?c__law_odd_row ?k__law_odd_row ?a__law_bytes ?l__law_bytes ?c__law_bytes ?k__law_bytes ?a__law_number ?l__law_number ?c__law_number ?k__law_number ?a__law_word ?l__law_word ?c__law_word ?k__law_word ?a__law_plain ?l__law_plain ?c__law_plain ?k__law_plain ?a__law_reads ?l__law_reads ?c__law_reads ?k__law_reads ?lc__law_reads ?v11__law_reads ?ch__law_reads ?nt__law_reads ?a__law_odds ?l__law_odds ?c__law_odds ?k__law_odds ?lc__law_odds ?v11__law_odds ?ch__law_odds ?nt__law_odds ?a_law ?l_law ?c_law ?k_law ?xca_NoBytes ?xchg_NoBytes ?xchk_NoBytes ?xchs_NoBytes ?xchd_NoBytes ?xcha_NoBytes ?xchm_NoBytes ?xcty_NoBytes ?xckp_NoBytes ?xcve_NoBytes ?xcis_NoBytes ?xcself_NoBytes ?xcex_NoBytes ?xca_NoPlace ?xchg_NoPlace ?xchk_NoPlace ?xchs_NoPlace ?xchd_NoPlace ?xcha_NoPlace ?xchm_NoPlace ?xcty_NoPlace ?xckp_NoPlace ?xcve_NoPlace ?xcis_NoPlace ?xcself_NoPlace ?xcex_NoPlace ?xca_NoNumber ?xchg_NoNumber ?xchk_NoNumber ?xchs_NoNumber ?xchd_NoNumber ?xcha_NoNumber ?xchm_NoNumber ?xcty_NoNumber ?xckp_NoNumber ?xcve_NoNumber ?xcis_NoNumber ?xcself_NoNumber ?xcex_NoNumber ?xca_ScrollError ?xchg_ScrollError ?xchk_ScrollError ?xchs_ScrollError ?xchd_ScrollError ?xcha_ScrollError ?xchm_ScrollError ?xcty_ScrollError ?xckp_ScrollError ?xcve_ScrollError ?xcis_ScrollError ?xcself_ScrollError ?xcex_ScrollError ?cg_GREATEST ?p_NoBytes_NoBytes ?p_NoBytes_NoNumber ?p_NoBytes_NoPlace ?p_NoNumber_NoBytes ?p_NoNumber_NoNumber ?p_NoNumber_NoPlace ?p_NoPlace_NoBytes ?p_NoPlace_NoNumber ?p_NoPlace_NoPlace ?xhn ?xht ?z_isinstance ?z_int ?z_bool ?z_list ?z_all ?z_len ?z_range ?z_tuple ?np
    (case a_is_whole => k_is)
    (case l_is_whole => k_is)
    (case c_is_whole => k_is)
    (case k_is_whole => k_is)
    (case a_is_bytes => k_is)
    (case l_is_bytes => k_is)
    (case c_is_bytes => k_is)
    (case k_is_bytes => k_is)
    (case a_sure_row => k_is)
    (case l_sure_row => k_is)
    (case c_sure_row => k_is)
    (case k_sure_row => k_is)
    (case a_sure_place => k_is)
    (case l_sure_place => k_is)
    (case c_sure_place => k_is)
    (case k_sure_place => k_is)
    (case a_written => k_is)
    (case l_written => k_is)
    (case c_written => k_is)
    (case k_written => k_is)
    (case a_number_at => k_is)
    (case l_number_at => k_is)
    (case c_number_at => k_is)
    (case k_number_at => k_is)
    (case a_read_number => k_is)
    (case l_read_number => k_is)
    (case c_read_number => k_is)
    (case k_read_number => k_is)
    (case lT_read_number => k_is)
    (case a__law_digit => k_is)
    (case l__law_digit => k_is)
    (case c__law_digit => k_is)
    (case k__law_digit => k_is)
    (case a__law_figures => k_is)
    (case l__law_figures => k_is)
    (case c__law_figures => k_is)
    (case k__law_figures => k_is)
    (case a__law_number_at => k_is)
    (case l__law_number_at => k_is)
    (case c__law_number_at => k_is)
    (case k__law_number_at => k_is)
    (case a__law_odd_row => k_is)
    (case l__law_odd_row => k_is)
    (case c__law_odd_row => k_is)
    (case k__law_odd_row => k_is)
    (case a__law_bytes => k_is)
    (case l__law_bytes => k_is)
    (case c__law_bytes => k_is)
    (case k__law_bytes => k_is)
    (case a__law_number => k_is)
    (case l__law_number => k_is)
    (case c__law_number => k_is)
    (case k__law_number => k_is)
    (case a__law_word => k_is)
    (case l__law_word => k_is)
    (case c__law_word => k_is)
    (case k__law_word => k_is)
    (case a__law_plain => k_is)
    (case l__law_plain => k_is)
    (case c__law_plain => k_is)
    (case k__law_plain => k_is)
    (case a__law_reads => k_is)
    (case l__law_reads => k_is)
    (case c__law_reads => k_is)
    (case k__law_reads => k_is)
    (case lc__law_reads => k_is)
    (case v11__law_reads => rfl)
    (case ch__law_reads => (first | kernel_rfl | decide +kernel))
    (case nt__law_reads => (first | kernel_rfl | rfl | decide +kernel))
    (case a__law_odds => k_is)
    (case l__law_odds => k_is)
    (case c__law_odds => k_is)
    (case k__law_odds => k_is)
    (case lc__law_odds => k_is)
    (case v11__law_odds => rfl)
    (case ch__law_odds => (first | kernel_rfl | decide +kernel))
    (case nt__law_odds => (first | kernel_rfl | rfl | decide +kernel))
    (case a_law => k_is)
    (case l_law => k_is)
    (case c_law => k_is)
    (case k_law => k_is)
    (case xca_NoBytes => k_is)
    (case xchg_NoBytes => k_is)
    (case xchk_NoBytes => k_is)
    (case xchs_NoBytes => k_is)
    (case xchd_NoBytes => k_is)
    (case xcha_NoBytes => k_is)
    (case xchm_NoBytes => k_is)
    (case xcty_NoBytes => k_is)
    (case xckp_NoBytes => k_is)
    (case xcve_NoBytes => k_is)
    (case xcis_NoBytes => k_is)
    (case xcself_NoBytes => k_is)
    (case xcex_NoBytes => k_exc)
    (case xca_NoPlace => k_is)
    (case xchg_NoPlace => k_is)
    (case xchk_NoPlace => k_is)
    (case xchs_NoPlace => k_is)
    (case xchd_NoPlace => k_is)
    (case xcha_NoPlace => k_is)
    (case xchm_NoPlace => k_is)
    (case xcty_NoPlace => k_is)
    (case xckp_NoPlace => k_is)
    (case xcve_NoPlace => k_is)
    (case xcis_NoPlace => k_is)
    (case xcself_NoPlace => k_is)
    (case xcex_NoPlace => k_exc)
    (case xca_NoNumber => k_is)
    (case xchg_NoNumber => k_is)
    (case xchk_NoNumber => k_is)
    (case xchs_NoNumber => k_is)
    (case xchd_NoNumber => k_is)
    (case xcha_NoNumber => k_is)
    (case xchm_NoNumber => k_is)
    (case xcty_NoNumber => k_is)
    (case xckp_NoNumber => k_is)
    (case xcve_NoNumber => k_is)
    (case xcis_NoNumber => k_is)
    (case xcself_NoNumber => k_is)
    (case xcex_NoNumber => k_exc)
    (case xca_ScrollError => k_is)
    (case xchg_ScrollError => k_is)
    (case xchk_ScrollError => k_is)
    (case xchs_ScrollError => k_is)
    (case xchd_ScrollError => k_is)
    (case xcha_ScrollError => k_is)
    (case xchm_ScrollError => k_is)
    (case xcty_ScrollError => k_is)
    (case xckp_ScrollError => k_is)
    (case xcve_ScrollError => k_is)
    (case xcis_ScrollError => k_is)
    (case xcself_ScrollError => k_is)
    (case xcex_ScrollError => k_exc)
    (case cg_GREATEST => k_is)
    (case p_NoBytes_NoBytes => k_is)
    (case p_NoBytes_NoNumber => k_is)
    (case p_NoBytes_NoPlace => k_is)
    (case p_NoNumber_NoBytes => k_is)
    (case p_NoNumber_NoNumber => k_is)
    (case p_NoNumber_NoPlace => k_is)
    (case p_NoPlace_NoBytes => k_is)
    (case p_NoPlace_NoNumber => k_is)
    (case p_NoPlace_NoPlace => k_is)
    (case xhn => k_is)
    (case xht => k_is)
    (case z_isinstance => k_is)
    (case z_int => k_is)
    (case z_bool => k_is)
    (case z_list => k_is)
    (case z_all => k_is)
    (case z_len => k_is)
    (case z_range => k_is)
    (case z_tuple => k_is)
    (case np => decide)
